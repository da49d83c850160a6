import PyProof.Rows.All
import Wide.All
import OpenK.AllK
import Wide.FinOn
import PySem.Challenge.RW_np0271_01
set_option Elab.async false
set_option linter.unusedVariables false
set_option maxRecDepth 100000
namespace Mine
open PySem PySem.W PyProof.Rows
noncomputable def view : Program := { PySem.Challenge.pw_np0271_01 with main := { PySem.Challenge.pw_np0271_01.main with body := (PySem.Challenge.pw_np0271_01.main.body.drop 1).take 14 ++ PySem.Challenge.pw_np0271_01.main.body.drop 16 } }
noncomputable def kindsV : List (PySem.Str × WData) := [(Str.ofString "SCRIPT_KINDS", WData.tuple [.int 0, .int 1, .int 2])]
set_option hygiene false in
local macro_rules | `(tactic| o_head $H) => `(tactic| (
  refine holds_open (q := view) (loose := [Str.ofString "SCRIPT_KINDS"]) (Xt := fun s => xlAt view kindsV s && recOk PySem.Challenge.rw_np0271_01.row.records s) (XP := XL view kindsV) (Yf := Hook.obs $H) (Ya := Hook.val $H) (YP := Hook.says $H) (N := 2454) ?hl
    (Hook.of $H) (Hook.keeps $H) (fun s e => xl_of s (Bool.and_eq_true_iff.mp e).1) XL.keeps (by rfl) (by rfl) (by rfl) (fun s e => recFacts_of (Bool.and_eq_true_iff.mp e).2) (by rfl) (by first | assumption | decide +kernel) (by decide +kernel) ⟨rfl, rfl, rfl, rfl, rfl, by decide +kernel⟩ ?hw ?hc
  (case hl => intro w; kernel_rfl)))
set_option maxHeartbeats 0 in
open_top hd for PySem.Challenge.rw_np0271_01
open PySem.Calls
noncomputable abbrev lstO (vs : List Value) (n : Nat) : Obj := { cls := .type "list", dict := none, data := .seq vs.toArray n, slots := #[] }
noncomputable abbrev tupO (vs : List Value) (n : Nat) : Obj := { cls := .type "tuple", dict := none, data := .seq vs.toArray n, slots := #[] }
noncomputable abbrev Kp (h h' : Heap) : Prop := ∀ b o, h.get? b = some o → h'.get? b = some o
noncomputable abbrev KpX (X : List Addr) (h h' : Heap) : Prop := ∀ b o, b ∉ X → h.get? b = some o → h'.get? b = some o
theorem Kp.refl (h : Heap) : Kp h h := fun _ _ e => e
theorem Kp.trans {a b c : Heap} (x : Kp a b) (y : Kp b c) : Kp a c := fun _ _ e => y _ _ (x _ _ e)
theorem Kp.push {a : Heap} (o : Obj) : Kp a (a.push o) := fun _ _ e => Heap.get?_push_of_some _ e
theorem Kp.kpx {a b : Heap} (x : Kp a b) (X : List Addr) : KpX X a b := fun _ _ _ e => x _ _ e
theorem KpX.trans {X : List Addr} {a b c : Heap} (x : KpX X a b) (y : KpX X b c) : KpX X a c := fun _ _ n e => y _ _ n (x _ _ n e)
theorem Kp.lt {h h' : Heap} (k : Kp h h') {a : Addr} {o : Obj} (e : h.get? a = some o) : a < h'.objs.size := Heap.lt_size (k _ _ e)

mutual
inductive Rv (h : Heap) (X : List Addr) : Value → PyData → Prop
  | none : Rv h X .none .none
  | bool (b : Bool) : Rv h X (.bool b) (.bool b)
  | int (i : Int) (t : Tok) : Rv h X (.int i t) (.int i)
  | str (x : Str) (t : Tok) : Rv h X (.str x t) (.str x)
  | list {a : Addr} {vs : List Value} {n : Nat} {ds : List PyData} : a ∉ X → h.get? a = some (lstO vs n) → RvA h X vs ds → Rv h X (.ref a) (.list ds)
  | tuple {a : Addr} {vs : List Value} {n : Nat} {ds : List PyData} : a ∉ X → h.get? a = some (tupO vs n) → RvA h X vs ds → Rv h X (.ref a) (.tuple ds)
inductive RvA (h : Heap) (X : List Addr) : List Value → List PyData → Prop
  | nil : RvA h X [] []
  | cons {v : Value} {vs : List Value} {d : PyData} {ds : List PyData} : Rv h X v d → RvA h X vs ds → RvA h X (v :: vs) (d :: ds)
end

mutual
theorem Rv.step {h h' : Heap} {X X' : List Addr} (k : KpX X h h') (hX : ∀ a ∈ X', a ∈ X ∨ h.get? a = none) : ∀ {v : Value} {d : PyData}, Rv h X v d → Rv h' X' v d
  | _, _, .none => .none
  | _, _, .bool b => .bool b
  | _, _, .int i t => .int i t
  | _, _, .str x t => .str x t
  | _, _, .list ha e r => .list (fun m => (hX _ m).elim ha fun q => by rw [e] at q; cases q) (k _ _ ha e) (RvA.step k hX r)
  | _, _, .tuple ha e r => .tuple (fun m => (hX _ m).elim ha fun q => by rw [e] at q; cases q) (k _ _ ha e) (RvA.step k hX r)
theorem RvA.step {h h' : Heap} {X X' : List Addr} (k : KpX X h h') (hX : ∀ a ∈ X', a ∈ X ∨ h.get? a = none) : ∀ {vs : List Value} {ds : List PyData}, RvA h X vs ds → RvA h' X' vs ds
  | _, _, .nil => .nil
  | _, _, .cons a b => .cons (Rv.step k hX a) (RvA.step k hX b)
end
theorem Rv.kp {h h' : Heap} {X : List Addr} {v : Value} {d : PyData} (r : Rv h X v d) (k : Kp h h') : Rv h' X v d := r.step (k.kpx X) fun _ m => .inl m
theorem RvA.kp {h h' : Heap} {X : List Addr} {v : List Value} {d : List PyData} (r : RvA h X v d) (k : Kp h h') : RvA h' X v d := r.step (k.kpx X) fun _ m => .inl m
theorem Rv.sub {h : Heap} {X X' : List Addr} {v : Value} {d : PyData} (r : Rv h X v d) (hX : ∀ a ∈ X', a ∈ X) : Rv h X' v d := r.step ((Kp.refl h).kpx X) fun _ m => .inl (hX _ m)
theorem RvA.sub {h : Heap} {X X' : List Addr} {v : List Value} {d : List PyData} (r : RvA h X v d) (hX : ∀ a ∈ X', a ∈ X) : RvA h X' v d := r.step ((Kp.refl h).kpx X) fun _ m => .inl (hX _ m)

mutual
theorem Rv.reads {h : Heap} {X : List Addr} : ∀ {v : Value} {d : PyData}, Rv h X v d → ∃ as, Reads h v d as
  | _, _, .none => ⟨_, .none⟩
  | _, _, .bool b => ⟨_, .bool b⟩
  | _, _, .int i t => ⟨_, .int i t⟩
  | _, _, .str x t => ⟨_, .str x t⟩
  | _, _, .list _ e r => let ⟨as, q⟩ := RvA.reads r; ⟨_, .list e rfl rfl (by simpa using q)⟩
  | _, _, .tuple _ e r => let ⟨as, q⟩ := RvA.reads r; ⟨_, .tuple e rfl rfl (by simpa using q)⟩
theorem RvA.reads {h : Heap} {X : List Addr} : ∀ {vs : List Value} {ds : List PyData}, RvA h X vs ds → ∃ as, ReadsAll h vs ds as
  | _, _, .nil => ⟨_, .nil⟩
  | _, _, .cons a b => let ⟨as, q⟩ := Rv.reads a; let ⟨bs, p⟩ := RvA.reads b; ⟨_, .cons q p⟩
end
theorem RvA.len {h : Heap} {X : List Addr} : ∀ {vs : List Value} {ds : List PyData}, RvA h X vs ds → vs.length = ds.length
  | _, _, .nil => rfl
  | _, _, .cons _ b => by rw [List.length_cons, List.length_cons, RvA.len b]
theorem RvA.append {h : Heap} {X : List Addr} : ∀ {vs ws : List Value} {ds es : List PyData}, RvA h X vs ds → RvA h X ws es → RvA h X (vs ++ ws) (ds ++ es)
  | _, _, _, _, .nil, r => r
  | _, _, _, _, .cons a b, r => .cons a (RvA.append b r)
theorem RvA.get {h : Heap} {X : List Addr} : ∀ {vs : List Value} {ds : List PyData}, RvA h X vs ds → ∀ {k : Nat} {d : PyData}, ds[k]? = some d → ∃ v, vs[k]? = some v ∧ Rv h X v d
  | _, _, .nil, _, _, e => by simp at e
  | _, _, .cons a _, 0, _, e => by simp at e; exact ⟨_, rfl, e ▸ a⟩
  | _, _, .cons _ b, k + 1, _, e => by simp at e; obtain ⟨v, q, r⟩ := RvA.get b e; exact ⟨v, by simpa using q, r⟩
theorem RvA.at {h : Heap} {X : List Addr} : ∀ {vs : List Value} {ds : List PyData}, RvA h X vs ds → ∀ {k : Nat} {v : Value}, vs[k]? = some v → ∃ d, ds[k]? = some d ∧ Rv h X v d
  | _, _, .nil, _, _, e => by simp at e
  | _, _, .cons a _, 0, _, e => by simp at e; exact ⟨_, rfl, e ▸ a⟩
  | _, _, .cons _ b, k + 1, _, e => by simp at e; obtain ⟨v, q, r⟩ := RvA.at b e; exact ⟨v, by simpa using q, r⟩
theorem RvA.drop {h : Heap} {X : List Addr} : ∀ {vs : List Value} {ds : List PyData} (k : Nat), RvA h X vs ds → RvA h X (vs.drop k) (ds.drop k)
  | _, _, 0, r => by simpa using r
  | _, _, k + 1, .nil => by simpa using .nil
  | _, _, k + 1, .cons _ b => by simpa using RvA.drop k b
theorem RvA.take {h : Heap} {X : List Addr} : ∀ {vs : List Value} {ds : List PyData} (k : Nat), RvA h X vs ds → RvA h X (vs.take k) (ds.take k)
  | _, _, 0, r => by simpa using .nil
  | _, _, k + 1, .nil => by simpa using .nil
  | _, _, k + 1, .cons a b => by simpa using .cons a (RvA.take k b)
theorem RvA.reverse {h : Heap} {X : List Addr} : ∀ {vs : List Value} {ds : List PyData}, RvA h X vs ds → RvA h X vs.reverse ds.reverse
  | _, _, .nil => by simpa using .nil
  | _, _, .cons a b => by simpa using RvA.append (RvA.reverse b) (.cons a .nil)
theorem RvA.set {h : Heap} {X : List Addr} : ∀ {vs : List Value} {ds : List PyData} (k : Nat) {v : Value} {d : PyData}, RvA h X vs ds → Rv h X v d → RvA h X (vs.set k v) (ds.set k d)
  | _, _, _, _, _, .nil, _ => by simpa using .nil
  | _, _, 0, _, _, .cons _ b, r => by simpa using .cons r b
  | _, _, k + 1, _, _, .cons a b, r => by simpa using .cons a (RvA.set k b r)
theorem RvA.rep {h : Heap} {X : List Addr} {v : Value} {d : PyData} (r : Rv h X v d) : ∀ n, RvA h X (List.replicate n v) (List.replicate n d)
  | 0 => .nil
  | n + 1 => by simpa [List.replicate_succ] using .cons r (RvA.rep r n)
theorem RvA.snoc {h : Heap} {X : List Addr} {vs : List Value} {ds : List PyData} {v : Value} {d : PyData} (r : RvA h X vs ds) (q : Rv h X v d) : RvA h X (vs ++ [v]) (ds ++ [d]) := r.append (.cons q .nil)

structure VP where
  P : List Addr → Heap → Value → Prop
  st : ∀ {X X' : List Addr} {h h' : Heap} {v : Value}, P X h v → KpX X h h' → (∀ a ∈ X', a ∈ X ∨ h.get? a = none) → P X' h' v
noncomputable def im (d : PyData) : VP := ⟨fun X h v => Rv h X v d, fun r k hX => r.step k hX⟩
noncomputable def isv (v₀ : Value) : VP := ⟨fun _ _ v => v = v₀, fun r _ _ => r⟩

structure RP where
  as : List Addr
  root : Value
  P : List Addr → Heap → Prop
  st : ∀ {X X' : List Addr} {h h' : Heap}, P X h → KpX X h h' → (∀ b ∈ as, ∀ o, h.get? b = some o → h'.get? b = some o) → (∀ a ∈ X', a ∈ X ∨ h.get? a = none) → (∀ b ∈ as, b ∈ X') → P X' h'
noncomputable def ownP (a : Addr) (ds : List PyData) : RP := ⟨[a], .ref a, fun X h => ∃ vs n, h.get? a = some (lstO vs n) ∧ RvA h X vs ds, fun ⟨vs, n, g, r⟩ k ka hX _ => ⟨vs, n, ka _ (.head _) _ g, r.step k hX⟩⟩
inductive Ent where
  | vp (p : VP)
  | res (p : RP)
noncomputable abbrev Ent.own (a : Addr) (ds : List PyData) : Ent := .res (ownP a ds)
noncomputable abbrev Rho := List (Str × Ent)

noncomputable def frameOf (env : Env) : List Addr := env.locals :: env.cells.map (·.2)
noncomputable def VarIs (env : Env) (h : Heap) (x : Str) (v : Value) : Prop :=
  (env.kindOf x = some .local ∧ ∃ m, h.Ns env.locals m ∧ m x = some v) ∨ ((env.kindOf x = some .cell ∨ env.kindOf x = some .free) ∧ ∃ c, env.cells.lookup x = some c ∧ h.IsCell c (some v))
noncomputable def Ent.holds (env : Env) (X : List Addr) (h : Heap) (v : Value) : Ent → Prop
  | .vp p => p.P X h v
  | .res p => (∀ b ∈ p.as, b ∉ frameOf env ∧ b ∈ X) ∧ v = p.root ∧ p.P X h

structure TopF (mg mb : Str → Option Value) (h : Heap) : Prop where
  g : h.Ns mainGlobals mg
  b : h.Ns builtinsNs mb
  nl : h.NoLimit
theorem TopF.kp {mg mb : Str → Option Value} {h h' : Heap} (T : TopF mg mb h) (k : Kp h h') : TopF mg mb h' := ⟨T.g.keeps k, T.b.keeps k, T.nl.keeps k⟩

structure GoodEnv (env : Env) : Prop where
  kind : env.scope.kind = .function
  gl : env.globals = mainGlobals
  bu : env.builtins = builtinsNs
  lc : ∀ n c, env.cells.lookup n = some c → c ≠ env.locals
  ap : ∀ n n' c, env.cells.lookup n = some c → env.cells.lookup n' = some c → n = n'
  cs : ∀ x, env.scope.names.lookup x = some .cell → (env.cells.lookup x).isSome = true

structure St (ht : Heap) (env : Env) (X : List Addr) (ρ : Rho) (h : Heap) : Prop where
  top : Kp ht h
  xal : ∀ a ∈ X, ∃ o, h.get? a = some o
  ge : GoodEnv env
  xn : ∀ a ∈ X, ht.get? a = none
  fx : ∀ a ∈ frameOf env, a ∈ X
  ns : ∃ m, h.Ns env.locals m
  cl : ∀ n c, env.cells.lookup n = some c → ∃ v, h.IsCell c v
  vars : ∀ e ∈ ρ, ∃ v, VarIs env h e.1 v ∧ e.2.holds env X h v

theorem VarIs.kp {env : Env} {h h' : Heap} {x : Str} {v : Value} (r : VarIs env h x v) (k : Kp h h') : VarIs env h' x v := by
  rcases r with ⟨a, m, b, c⟩ | ⟨a, c, b, d⟩
  · exact .inl ⟨a, m, b.keeps k, c⟩
  · exact .inr ⟨a, c, b, d.keeps k⟩
theorem Ent.kp {env : Env} {X : List Addr} {h h' : Heap} {v : Value} {e : Ent} (r : e.holds env X h v) (k : Kp h h') : e.holds env X h' v := by
  cases e with
  | vp p => exact p.st r (k.kpx X) fun _ m => .inl m
  | res p =>
    obtain ⟨n, e, q⟩ := r
    exact ⟨n, e, p.st q (k.kpx X) (fun b _ o e => k _ _ e) (fun _ m => .inl m) fun b m => (n b m).2⟩
theorem St.kp {ht : Heap} {env : Env} {X : List Addr} {ρ : Rho} {h h' : Heap} (S : St ht env X ρ h) (k : Kp h h') : St ht env X ρ h' where
  top := S.top.trans k
  xal := fun a m => let ⟨o, e⟩ := S.xal a m; ⟨o, k _ _ e⟩
  ge := S.ge
  xn := S.xn
  fx := S.fx
  ns := let ⟨m, e⟩ := S.ns; ⟨m, e.keeps k⟩
  cl := fun n c q => let ⟨v, e⟩ := S.cl n c q; ⟨v, e.keeps k⟩
  vars := fun e m => let ⟨v, a, b⟩ := S.vars e m; ⟨v, VarIs.kp a k, Ent.kp b k⟩
structure KP where
  P : List Addr → Heap → Heap → Value → Prop
  st : ∀ {X : List Addr} {h₀ h h' : Heap} {v : Value}, P X h₀ h v → Kp h h' → P X h₀ h' v
  dd : ∀ {X : List Addr} {h₀ h₁ h : Heap} {v : Value}, P X h₁ h v → (∀ a, h₁.get? a = none → h₀.get? a = none) → P X h₀ h v
  sub : ∀ {X X' : List Addr} {h₀ h : Heap} {v : Value}, P X h₀ h v → (∀ a ∈ X', a ∈ X) → P X' h₀ h v
noncomputable abbrev Alive (X : List Addr) (h : Heap) : Prop := ∀ a ∈ X, ∃ o, h.get? a = some o
theorem Alive.kp {X : List Addr} {h h' : Heap} (x : Alive X h) (k : Kp h h') : Alive X h' := fun a m => let ⟨o, e⟩ := x a m; ⟨o, k _ _ e⟩
theorem none_of_kp {h h' : Heap} (k : Kp h h') {a : Addr} (e : h'.get? a = none) : h.get? a = none := by
  cases q : h.get? a with
  | none => rfl
  | some o => rw [k _ _ q] at e; cases e
noncomputable def KP.an (p : KP) {X : List Addr} {h₀ h₁ h : Heap} {v : Value} (z : p.P X h₁ h v) (k : Kp h₀ h₁) : p.P X h₀ h v := p.dd z fun _ e => none_of_kp k e
noncomputable def kim (d : PyData) : KP := ⟨fun X _ h v => Rv h X v d, fun r k => r.kp k, fun r _ => r, fun r k => r.sub k⟩
noncomputable def kis (v₀ : Value) : KP := ⟨fun _ _ _ v => v = v₀, fun r _ => r, fun r _ => r, fun r _ => r⟩
noncomputable def ksl (ds : List PyData) : KP := ⟨fun X _ h v => ∃ a vs n, v = .ref a ∧ h.get? a = some (lstO vs n) ∧ RvA h X vs ds, fun ⟨a, vs, n, e, g, r⟩ k => ⟨a, vs, n, e, k _ _ g, r.kp k⟩, fun r _ => r, fun ⟨a, vs, n, e, g, r⟩ k => ⟨a, vs, n, e, g, r.sub k⟩⟩
noncomputable def kfr (ds : List PyData) : KP := ⟨fun X h₀ h v => ∃ a vs n, v = .ref a ∧ h₀.get? a = none ∧ h.get? a = some (lstO vs n) ∧ RvA h (a :: X) vs ds, fun ⟨a, vs, n, e, f, g, r⟩ k => ⟨a, vs, n, e, f, k _ _ g, r.kp k⟩,
  fun ⟨a, vs, n, e, f, g, r⟩ k => ⟨a, vs, n, e, k _ f, g, r⟩, fun ⟨a, vs, n, e, f, g, r⟩ k => ⟨a, vs, n, e, f, g, r.sub fun b m => by
    rcases List.mem_cons.mp m with rfl | m
    · exact .head _
    · exact .tail _ (k b m)⟩⟩
noncomputable def VP.kp (p : VP) : KP := ⟨fun X _ h v => p.P X h v, fun r k => p.st r (k.kpx _) fun _ m => .inl m, fun r _ => r, fun r k => p.st r ((Kp.refl _).kpx _) fun _ m => .inl (k _ m)⟩
theorem im_kp (d : PyData) : (im d).kp = kim d := rfl
noncomputable def KP.le (p q : KP) : Prop := ∀ {X : List Addr} {h₀ h : Heap} {v : Value}, Alive X h₀ → p.P X h₀ h v → q.P X h₀ h v
theorem kfr_kim (ds : List PyData) : (kfr ds).le (kim (.list ds)) := fun al ⟨a, vs, n, e, f, g, r⟩ => by
  subst e
  exact .list (fun m => by obtain ⟨o, q⟩ := al a m; rw [f] at q; cases q) g (r.sub fun b m => .tail _ m)
theorem kim_ksl (ds : List PyData) : (kim (.list ds)).le (ksl ds) := fun _ r => by
  cases r with
  | list ha e r => exact ⟨_, _, _, rfl, e, r⟩
theorem kfr_ksl (ds : List PyData) : (kfr ds).le (ksl ds) := fun al r => kim_ksl ds al (kfr_kim ds al r)
theorem KP.le_refl (p : KP) : p.le p := fun _ r => r

theorem fresh_size (h : Heap) : h.get? h.objs.size = .none := by
  cases e : h.get? h.objs.size with
  | none => rfl
  | some o => exact absurd (Heap.lt_size e) (Nat.lt_irrefl _)
theorem rva_new {h : Heap} {X : List Addr} {vs : List Value} {ds : List PyData} (r : RvA h X vs ds) (o : Obj) : RvA (h.push o) (h.objs.size :: X) vs ds := r.step ((Kp.push o).kpx X) fun b m => by
  rcases List.mem_cons.mp m with rfl | m
  · exact .inr (fresh_size _)
  · exact .inl m
noncomputable def Room (n : Nat) (A : Around) : Prop := A.handled = none ∧ A.depth + n < recursionLimit ∧ A.units + 10 * n + 100 < cLine
theorem Room.le {n m : Nat} {A : Around} (r : Room n A) (h : m ≤ n) : Room m A := ⟨r.1, by have := r.2.1; (first | assumption | exact Nat.le_refl _ | exact Nat.add_le_add_left (by decide) _ | exact Nat.le_trans (by assumption) (by decide) | omega), by have := r.2.2; (first | assumption | exact Nat.le_refl _ | exact Nat.add_le_add_left (by decide) _ | exact Nat.le_trans (by assumption) (by decide) | omega)⟩
theorem Room.in1 {n : Nat} {A : Around} (r : Room (n + 1) A) : Room n A.in1 := ⟨r.1, by have := r.2.1; show A.depth + n < _; (first | assumption | exact Nat.le_refl _ | exact Nat.add_le_add_left (by decide) _ | exact Nat.le_trans (by assumption) (by decide) | omega), by have := r.2.2; show A.units + 1 + 10 * n + 100 < _; (first | assumption | exact Nat.le_refl _ | exact Nat.add_le_add_left (by decide) _ | exact Nat.le_trans (by assumption) (by decide) | omega)⟩
theorem Room.deeper {n : Nat} {A : Around} (r : Room (n + 1) A) (env : Env) : Room n (A.deeper env) := ⟨r.1, by have := r.2.1; show A.depth + 1 + n < _; (first | assumption | exact Nat.le_refl _ | exact Nat.add_le_add_left (by decide) _ | exact Nat.le_trans (by assumption) (by decide) | omega), by have := r.2.2; show A.units + 3 + 10 * n + 100 < _; (first | assumption | exact Nat.le_refl _ | exact Nat.add_le_add_left (by decide) _ | exact Nat.le_trans (by assumption) (by decide) | omega)⟩
theorem Room.u {n : Nat} {A : Around} (r : Room n A) : A.units + 100 < cLine := by have := r.2.2; (first | assumption | exact Nat.le_refl _ | exact Nat.add_le_add_left (by decide) _ | exact Nat.le_trans (by assumption) (by decide) | omega)

section
variable (prog : Program) (w : World) (ht : Heap)
noncomputable def Ev (n : Nat) (sc : Scope) (ρ : Rho) (e : Expr) (p : KP) : Prop :=
  ∀ ⦃A : Around⦄ ⦃env : Env⦄ ⦃X : List Addr⦄ ⦃s : Shared⦄ ⦃Q : Value → Shared → Prop⦄ ⦃E : Value → Shared → Prop⦄, Room n A → env.scope = sc → St ht env X ρ s.heap →
    (∀ v h' tk, Kp s.heap h' → p.P X s.heap h' v → Q v { s with heap := h', toks := tk }) → wpAny (model prog w) A (eval e env) Q E s
noncomputable def Tst (n : Nat) (sc : Scope) (ρ : Rho) (e : Expr) (b : Bool) : Prop :=
  ∀ ⦃A : Around⦄ ⦃env : Env⦄ ⦃X : List Addr⦄ ⦃s : Shared⦄ ⦃Q : Bool → Shared → Prop⦄ ⦃E : Value → Shared → Prop⦄, Room n A → env.scope = sc → St ht env X ρ s.heap →
    (∀ h' tk, Kp s.heap h' → Q b { s with heap := h', toks := tk }) → wpAny (model prog w) A (isTrue e env (eval e env)) Q E s
noncomputable def Op2 (n : Nat) (t : Value → Value → Sem Value) (p q r : KP) : Prop :=
  ∀ ⦃A : Around⦄ ⦃X : List Addr⦄ ⦃h₀ : Heap⦄ ⦃s : Shared⦄ ⦃v u : Value⦄ ⦃Q : Value → Shared → Prop⦄ ⦃E : Value → Shared → Prop⦄, Room n A → Alive X h₀ → Kp h₀ s.heap → p.P X h₀ s.heap v → q.P X h₀ s.heap u →
    (∀ v h' tk, Kp s.heap h' → r.P X s.heap h' v → Q v { s with heap := h', toks := tk }) → wpAny (model prog w) A (t v u) Q E s
inductive PsA (X : List Addr) (h₀ h : Heap) : List Value → List KP → Prop
  | nil : PsA X h₀ h [] []
  | cons {v : Value} {vs : List Value} {p : KP} {ps : List KP} : p.P X h₀ h v → PsA X h₀ h vs ps → PsA X h₀ h (v :: vs) (p :: ps)
theorem PsA.st {X : List Addr} {h₀ h h' : Heap} {vs : List Value} {ps : List KP} (x : PsA X h₀ h vs ps) (k : Kp h h') : PsA X h₀ h' vs ps := by
  induction x with
  | nil => exact .nil
  | cons a _ ih => exact .cons (KP.st _ a k) ih
theorem PsA.an {X : List Addr} {h₀ h₁ h : Heap} {vs : List Value} {ps : List KP} (x : PsA X h₁ h vs ps) (k : Kp h₀ h₁) : PsA X h₀ h vs ps := by
  induction x with
  | nil => exact .nil
  | cons a _ ih => exact .cons (KP.an _ a k) ih
noncomputable def EvS (n : Nat) (sc : Scope) (ρ : Rho) (es : List Expr) (ps : List KP) : Prop :=
  ∀ ⦃A : Around⦄ ⦃env : Env⦄ ⦃X : List Addr⦄ ⦃pos : Pos⦄ ⦃s : Shared⦄ ⦃Q : List Value → Shared → Prop⦄ ⦃E : Value → Shared → Prop⦄, Room n A → env.scope = sc → St ht env X ρ s.heap →
    (∀ vs h' tk, Kp s.heap h' → PsA X s.heap h' vs ps → Q vs { s with heap := h', toks := tk }) → wpAny (model prog w) A (spliced (backTo pos (starEach es env))) Q E s
noncomputable def Fn (n : Nat) (f : Value) (ps : List KP) (r : KP) : Prop :=
  ∀ ⦃A : Around⦄ ⦃X : List Addr⦄ ⦃h₀ : Heap⦄ ⦃s : Shared⦄ ⦃vs : List Value⦄ ⦃Q : Value → Shared → Prop⦄ ⦃E : Value → Shared → Prop⦄, Room n A → Kp ht h₀ → (∀ a ∈ X, ht.get? a = none) → Alive X h₀ → Kp h₀ s.heap → PsA X h₀ s.heap vs ps →
    (∀ v h' tk, Kp s.heap h' → r.P X s.heap h' v → Q v { s with heap := h', toks := tk }) → wpAny (model prog w) A (call f vs) Q E s
end

section
variable {prog : Program} {w : World} {ht : Heap} {n : Nat} {sc : Scope} {ρ : Rho} {p q r : KP} {e l : Expr} {pos : Pos}
theorem St.alive {env : Env} {X : List Addr} {h : Heap} (S : St ht env X ρ h) : Alive X h := S.xal
theorem Ev.le (x : Ev prog w ht n sc ρ e p) (h : p.le q) : Ev prog w ht n sc ρ e q := fun _ _ _ _ _ _ R a S k => x R a S fun v h' tk kp z => k v h' tk kp (h S.alive z)
theorem Ev.up {m : Nat} (x : Ev prog w ht n sc ρ e p) (h : n ≤ m) : Ev prog w ht m sc ρ e p := fun _ _ _ _ _ _ R a S k => x (R.le h) a S k
theorem Tst.up {m : Nat} {b : Bool} (x : Tst prog w ht n sc ρ e b) (h : n ≤ m) : Tst prog w ht m sc ρ e b := fun _ _ _ _ _ _ R a S k => x (R.le h) a S k
theorem Fn.up {m : Nat} {f : Value} {ps : List KP} (x : Fn prog w ht n f ps r) (h : n ≤ m) : Fn prog w ht m f ps r := fun _ _ _ _ _ _ _ R a S k => x (R.le h) a S k
theorem Ev.list {ds : List PyData} (x : Ev prog w ht n sc ρ e (kfr ds)) : Ev prog w ht n sc ρ e (kim (.list ds)) := x.le (kfr_kim ds)
theorem Ev.sl {ds : List PyData} (x : Ev prog w ht n sc ρ e (kim (.list ds))) : Ev prog w ht n sc ρ e (ksl ds) := x.le (kim_ksl ds)
theorem Ev.fsl {ds : List PyData} (x : Ev prog w ht n sc ρ e (kfr ds)) : Ev prog w ht n sc ρ e (ksl ds) := x.le (kfr_ksl ds)

theorem Ev.none (k : Nat) : Ev prog w ht n sc ρ (.Constant .none k pos) (kim .none) := fun _ _ _ _ _ _ _ _ _ K => wpAny_Constant_none (K _ _ _ (Kp.refl _) .none)
theorem Ev.bool (b : Bool) (k : Nat) : Ev prog w ht n sc ρ (.Constant (.bool b) k pos) (kim (.bool b)) := fun _ _ _ _ _ _ _ _ _ K => wpAny_Constant_bool (K _ _ _ (Kp.refl _) (.bool b))
theorem Ev.int (i : Int) (k : Nat) : Ev prog w ht n sc ρ (.Constant (.int i) k pos) (kim (.int i)) := fun _ _ _ _ _ _ _ _ _ K => wpAny_Constant_int (K _ _ _ (Kp.refl _) (.int i _))
theorem Ev.str (x : Str) (k : Nat) : Ev prog w ht n sc ρ (.Constant (.str x) k pos) (kim (.str x)) := fun _ _ _ _ _ _ _ _ _ K => wpAny_Constant_str (K _ _ _ (Kp.refl _) (.str x _))

theorem load_var {env : Env} {A : Around} {x : Str} {v : Value} {s : Shared} {Q : Value → Shared → Prop} {E : Value → Shared → Prop} (hk : env.scope.kind = .function) (hv : VarIs env s.heap x v) (h : Q v s)
    (hn : (x == ("__classdict__" : Str)) = false) : wpAny (model prog w) A (loadName env x) Q E s := by
  rcases hv with ⟨hl, m, hm, e⟩ | ⟨hl, c, hc, e⟩
  · exact wpAny_loadName_local hk hl hm e h
  · rcases hl with hl | hl
    · exact wpAny_loadName_cell hk hl hc e h
    · exact wpAny_loadName_free hk hl hc e h hn
theorem Ev.name {x : Str} {p : VP} (hm : (x, Ent.vp p) ∈ ρ) (hd : (x == ("__debug__" : Str)) = false := by decide) (hn : (x == ("__classdict__" : Str)) = false := by decide) : Ev prog w ht n sc ρ (.Name x pos) p.kp := fun _ _ _ _ _ _ R a S K => by
  obtain ⟨v, h1, h2⟩ := S.vars _ hm
  exact wpAny_Name (load_var S.ge.kind h1 (K v _ _ (Kp.refl _) h2) hn) hd
theorem Ev.var {x : Str} {d : PyData} (hm : (x, Ent.vp (im d)) ∈ ρ) (hd : (x == ("__debug__" : Str)) = false := by decide) (hn : (x == ("__classdict__" : Str)) = false := by decide) : Ev prog w ht n sc ρ (.Name x pos) (kim d) := Ev.name hm hd hn
theorem Ev.own {x : Str} {a : Addr} {ds : List PyData} (hm : (x, Ent.own a ds) ∈ ρ) (hd : (x == ("__debug__" : Str)) = false := by decide) (hn : (x == ("__classdict__" : Str)) = false := by decide) : Ev prog w ht n sc ρ (.Name x pos) (ksl ds) := fun _ _ _ _ _ _ R _ S K => by
  obtain ⟨v, h1, hn', h2, vs, k, h4, h5⟩ := S.vars _ hm
  exact wpAny_Name (load_var S.ge.kind h1 (K v _ _ (Kp.refl _) ⟨a, vs, k, h2, h4, h5⟩) hn) hd
theorem Ev.bltin {mg mb : Str → Option Value} {x : Str} {v : Value} (T : TopF mg mb ht) (hv : mg x = .none) (hb : mb x = some v) (hx : sc.names.lookup x = some .globalImplicit)
    (hd : (x == ("__debug__" : Str)) = false := by decide) : Ev prog w ht n sc ρ (.Name x pos) (kis v) := fun _ _ _ _ _ _ R a S K => by
  subst a
  exact Name_function_global S.ge.kind hx (loadGlobal_builtin (by rw [S.ge.gl]; exact T.g.keeps S.top) hv (by rw [S.ge.bu]; exact T.b.keeps S.top) hb (K v _ _ (Kp.refl _) rfl)) hd
theorem Ev.glob {mg mb : Str → Option Value} {x : Str} {v : Value} {p : KP} (T : TopF mg mb ht) (hv : mg x = some v) (hx : sc.names.lookup x = some .globalImplicit)
    (hp : ∀ {X : List Addr} {h : Heap}, Kp ht h → (∀ a ∈ X, ht.get? a = .none) → p.P X h h v) (hd : (x == ("__debug__" : Str)) = false := by decide) : Ev prog w ht n sc ρ (.Name x pos) p := fun _ _ _ _ _ _ R a S K => by
  subst a
  exact Name_function_global S.ge.kind hx (loadGlobal_global (by rw [S.ge.gl]; exact T.g.keeps S.top) hv (K v _ _ (Kp.refl _) (hp S.top S.xn))) hd
end
section
variable {prog : Program} {w : World} {ht : Heap} {n : Nat} {sc : Scope} {ρ : Rho} {p q r : KP} {e l f : Expr} {pos : Pos}

theorem Ev.bin {op : Operator} (hl : Ev prog w ht n sc ρ l p) (he : Ev prog w ht n sc ρ e q) (h : Op2 prog w n (binaryOp op) p q r) : Ev prog w ht n sc ρ (.BinOp l op e pos) r := fun _ _ _ _ _ _ R a S K =>
  wpAny_BinOp (hl R a S fun v h₁ t₁ k₁ z₁ => he R a (S.kp k₁) fun u h₂ t₂ k₂ z₂ => h R S.alive (k₁.trans k₂) (p.st z₁ k₂) (q.an z₂ k₁) fun x h₃ t₃ k₃ z₃ => K x h₃ t₃ (k₁.trans (k₂.trans k₃)) (r.an z₃ (k₁.trans k₂)))
theorem Ev.cmp {op : CmpOp} (hl : Ev prog w ht n sc ρ l p) (he : Ev prog w ht n sc ρ e q) (h : Op2 prog w n (compareOp op) p q r) (hm : behindInMarks op e = false := by with_unfolding_all rfl) : Ev prog w ht n sc ρ (.Compare l [op] [e] pos) r := fun _ _ _ _ _ _ R a S K =>
  wpAny_Compare1 (hl R a S fun v h₁ t₁ k₁ z₁ => he R a (S.kp k₁) fun u h₂ t₂ k₂ z₂ => h R S.alive (k₁.trans k₂) (p.st z₁ k₂) (q.an z₂ k₁) fun x h₃ t₃ k₃ z₃ => K x h₃ t₃ (k₁.trans (k₂.trans k₃)) (r.an z₃ (k₁.trans k₂))) hm
theorem Tst.cmp {op : CmpOp} {b : Bool} (hl : Ev prog w ht n sc ρ l p) (he : Ev prog w ht n sc ρ e q) (h : Op2 prog w n (compareOp op) p q (kim (.bool b))) (hm : behindInMarks op e = false := by with_unfolding_all rfl) : Tst prog w ht n sc ρ (.Compare l [op] [e] pos) b := fun _ _ _ _ _ _ R a S K =>
  wpAny_isTrue_Compare1 (hl R a S fun v h₁ t₁ k₁ z₁ => he R a (S.kp k₁) fun u h₂ t₂ k₂ z₂ => h R S.alive (k₁.trans k₂) (p.st z₁ k₂) (q.an z₂ k₁) fun x h₃ t₃ k₃ z₃ => by
    cases z₃
    exact wpAny_truthy_bool (K h₃ t₃ (k₁.trans (k₂.trans k₃)))) hm
theorem Tst.bool {b : Bool} (h : Ev prog w ht n sc ρ e (kim (.bool b))) (he : ∀ env, isTrue e env (eval e env) = (do let v ← eval e env; standAt e.pos; holding [v] (truthy v)) := by intro _; rfl) : Tst prog w ht n sc ρ e b := fun _ _ _ _ _ _ R a S K =>
  isTrue_plain (h R a S fun v h₁ t₁ k₁ z₁ => by cases z₁; exact wpAny_truthy_bool (K h₁ t₁ k₁)) (he _)
theorem Tst.not {b : Bool} (h : Tst prog w ht n sc ρ e b) : Tst prog w ht n sc ρ (.UnaryOp .Not e pos) (!b) := fun _ _ _ _ _ _ R a S K => isTrue_not (h R a S K)
theorem Tst.and_nil : Tst prog w ht n sc ρ (.BoolOp .And [] pos) true := fun _ _ _ _ _ _ R a S K => isTrue_and_nil (K _ _ (Kp.refl _))
theorem Tst.or_nil : Tst prog w ht n sc ρ (.BoolOp .Or [] pos) false := fun _ _ _ _ _ _ R a S K => isTrue_or_nil (K _ _ (Kp.refl _))
theorem Tst.and_t {es : List Expr} {b : Bool} (h : Tst prog w ht n sc ρ e true) (h2 : Tst prog w ht n sc ρ (.BoolOp .And es pos) b) : Tst prog w ht n sc ρ (.BoolOp .And (e :: es) pos) b := fun _ _ _ _ _ _ R a S K =>
  isTrue_and (h R a S fun h₁ t₁ k₁ => h2 R a (S.kp k₁) fun h₂ t₂ k₂ => K h₂ t₂ (k₁.trans k₂))
theorem Tst.and_f {es : List Expr} (h : Tst prog w ht n sc ρ e false) : Tst prog w ht n sc ρ (.BoolOp .And (e :: es) pos) false := fun _ _ _ _ _ _ R a S K =>
  isTrue_and (h R a S fun h₁ t₁ k₁ => K h₁ t₁ k₁)
theorem Tst.or_f {es : List Expr} {b : Bool} (h : Tst prog w ht n sc ρ e false) (h2 : Tst prog w ht n sc ρ (.BoolOp .Or es pos) b) : Tst prog w ht n sc ρ (.BoolOp .Or (e :: es) pos) b := fun _ _ _ _ _ _ R a S K =>
  isTrue_or (h R a S fun h₁ t₁ k₁ => h2 R a (S.kp k₁) fun h₂ t₂ k₂ => K h₂ t₂ (k₁.trans k₂))
theorem Tst.or_t {es : List Expr} (h : Tst prog w ht n sc ρ e true) : Tst prog w ht n sc ρ (.BoolOp .Or (e :: es) pos) true := fun _ _ _ _ _ _ R a S K =>
  isTrue_or (h R a S fun h₁ t₁ k₁ => K h₁ t₁ k₁)
theorem Ev.ite_t (ht' : Tst prog w ht n sc ρ e true) (h : Ev prog w ht n sc ρ l p) : Ev prog w ht n sc ρ (.IfExp e l f pos) p := fun _ _ _ _ _ _ R a S K =>
  IfExp_ (ht' R a S fun h₁ t₁ k₁ => h R a (S.kp k₁) fun v h₂ t₂ k₂ z => K v h₂ t₂ (k₁.trans k₂) (p.an z k₁))
theorem Ev.ite_f (ht' : Tst prog w ht n sc ρ e false) (h : Ev prog w ht n sc ρ f p) : Ev prog w ht n sc ρ (.IfExp e l f pos) p := fun _ _ _ _ _ _ R a S K =>
  IfExp_ (ht' R a S fun h₁ t₁ k₁ => h R a (S.kp k₁) fun v h₂ t₂ k₂ z => K v h₂ t₂ (k₁.trans k₂) (p.an z k₁))
theorem Ev.ite {b : Bool} (ht' : Tst prog w ht n sc ρ e b) (h1 : b = true → Ev prog w ht n sc ρ l p) (h2 : b = false → Ev prog w ht n sc ρ f p) : Ev prog w ht n sc ρ (.IfExp e l f pos) p := by
  cases b with
  | true => exact Ev.ite_t ht' (h1 rfl)
  | false => exact Ev.ite_f ht' (h2 rfl)
theorem Ev.and1 (h : Ev prog w ht n sc ρ e p) : Ev prog w ht n sc ρ (.BoolOp .And [e] pos) p := fun _ _ _ _ _ _ R a S K => BoolOp_one (h R a S K)
theorem Ev.and_t {es : List Expr} (h : Ev prog w ht n sc ρ e (kim (.bool true))) (h2 : Ev prog w ht n sc ρ (.BoolOp .And (f :: es) pos) p) : Ev prog w ht n sc ρ (.BoolOp .And (e :: f :: es) pos) p := fun _ _ _ _ _ _ R a S K =>
  BoolOp_and (h R a S fun v h₁ t₁ k₁ z₁ => by cases z₁; exact wpAny_truthy_bool (h2 R a (S.kp k₁) fun v h₂ t₂ k₂ z => K v h₂ t₂ (k₁.trans k₂) (p.an z k₁)))
theorem Ev.and_f {es : List Expr} (h : Ev prog w ht n sc ρ e (kim (.bool false))) : Ev prog w ht n sc ρ (.BoolOp .And (e :: f :: es) pos) (kim (.bool false)) := fun _ _ _ _ _ _ R a S K =>
  BoolOp_and (h R a S fun v h₁ t₁ k₁ z₁ => by cases z₁; exact wpAny_truthy_bool (K _ h₁ t₁ k₁ (.bool false)))
theorem Ev.neg {i : Int} (h : Ev prog w ht n sc ρ e (kim (.int i))) : Ev prog w ht n sc ρ (.UnaryOp .USub e pos) (kim (.int (-i))) := fun _ _ _ _ _ _ R a S K =>
  UnaryOp_ (h R a S fun v h₁ t₁ k₁ z₁ => by cases z₁; exact PyProof.Rows.neg_int (K _ _ _ k₁ (.int _ _)))

theorem EvS.nil : EvS prog w ht n sc ρ [] [] := fun _ _ _ _ _ _ _ _ _ _ K => wpAny_items_nil (K _ _ _ (Kp.refl _) .nil)
theorem EvS.cons {es : List Expr} {ps : List KP} (h : Ev prog w ht n sc ρ e p) (h2 : EvS prog w ht n sc ρ es ps) (he : ∀ env, starEach (e :: es) env = (false, eval e env) :: starEach es env := by intro _; rfl) : EvS prog w ht n sc ρ (e :: es) (p :: ps) := fun _ _ _ _ _ _ _ R a S K =>
  wpAny_items_cons (h R a S fun v h₁ t₁ k₁ z₁ => h2 R a (S.kp k₁) fun vs h₂ t₂ k₂ z₂ => K _ h₂ t₂ (k₁.trans k₂) (.cons (p.st z₁ k₂) (z₂.an k₁))) (he _)
theorem PsA.rva {X : List Addr} {h₀ h : Heap} : ∀ {vs : List Value} {ds : List PyData}, PsA X h₀ h vs (ds.map kim) → RvA h X vs ds
  | _, [], .nil => .nil
  | _, _ :: _, .cons a b => .cons a (PsA.rva b)
theorem PsA.len {X : List Addr} {h₀ h : Heap} : ∀ {vs : List Value} {ps : List KP}, PsA X h₀ h vs ps → vs.length = ps.length
  | _, _, .nil => rfl
  | _, _, .cons _ b => by rw [List.length_cons, List.length_cons, PsA.len b]
theorem sizeLine_big {k : Nat} (h : k ≤ 1000) : k ≤ sizeLine := by rw [sizeLine_eq]; (first | assumption | exact Nat.le_refl _ | exact Nat.add_le_add_left (by decide) _ | exact Nat.le_trans (by assumption) (by decide) | omega)
theorem EvS.tuple {es : List Expr} {ds : List PyData} {k : Nat} (h : EvS prog w ht n sc ρ es (ds.map kim)) (hz : ds.length ≤ 1000 := by decide) : Ev prog w ht n sc ρ (.Tuple es k pos) (kim (.tuple ds)) := fun _ _ _ _ _ _ R a S K =>
  wpAny_Tuple (h R a S fun vs h₁ t₁ k₁ z₁ => by
    have r := z₁.rva
    refine ⟨sizeLine_big (by rw [r.len]; exact hz), K _ _ _ (k₁.trans (Kp.push _)) (.tuple (fun m => ?_) (Heap.get?_push_size _ rfl) (r.kp (Kp.push _)))⟩
    obtain ⟨o, e⟩ := S.alive.kp k₁ _ m
    rw [fresh_size] at e; cases e)
theorem EvS.lst {es : List Expr} {ds : List PyData} (h : EvS prog w ht n sc ρ es (ds.map kim)) (hz : ds.length ≤ 1000 := by decide) : Ev prog w ht n sc ρ (.List es pos) (kfr ds) := fun _ _ _ _ _ _ R a S K =>
  wpAny_List (h R a S fun vs h₁ t₁ k₁ z₁ => by
    have r := z₁.rva
    exact ⟨sizeLine_big (by rw [r.len]; exact hz), K _ _ _ (k₁.trans (Kp.push _)) ⟨_, vs, 0, rfl, none_of_kp k₁ (fresh_size _), Heap.get?_push_size _ rfl, rva_new r _⟩⟩)

theorem op_add (a b : Int) : Op2 prog w n (binaryOp .Add) (kim (.int a)) (kim (.int b)) (kim (.int (a + b))) := fun _ _ _ _ _ _ _ _ _ _ _ x y K => by
  cases x; cases y; exact add_int (K _ _ _ (Kp.refl _) (.int _ _))
theorem op_sub (a b : Int) : Op2 prog w n (binaryOp .Sub) (kim (.int a)) (kim (.int b)) (kim (.int (a - b))) := fun _ _ _ _ _ _ _ _ _ _ _ x y K => by
  cases x; cases y; exact sub_int (K _ _ _ (Kp.refl _) (.int _ _))
theorem op_addL (ds es : List PyData) (hz : ds.length + es.length ≤ 1000) : Op2 prog w n (binaryOp .Add) (ksl ds) (ksl es) (kfr (ds ++ es)) := fun _ _ _ _ _ _ _ _ _ _ _ x y K => by
  obtain ⟨a, vs, k, rfl, g, r⟩ := x
  obtain ⟨b, ws, m, rfl, g', r'⟩ := y
  refine PySem.P.add_list (n := k) (n2 := m) g g' (K _ _ _ (Kp.push _) ⟨_, vs ++ ws, 0, rfl, fresh_size _, ?_, rva_new (r.append r') _⟩) (sizeLine_big (by rw [List.size_toArray, List.size_toArray, r.len, r'.len]; exact hz))
  rw [Heap.get?_push_size _ rfl]
  simp [lstO]
theorem fold_rep (v : Value) : ∀ (k : Nat) (acc : Array Value), (List.replicate k #[v]).foldl (fun x1 x2 => x1 ++ x2) acc = (acc.toList ++ List.replicate k v).toArray
  | 0, acc => by simp
  | k + 1, acc => by
    rw [List.replicate_succ, List.foldl_cons, fold_rep v k]
    simp [List.replicate_succ]
theorem mulL_long {k : Nat} (hz : k ≤ 1000) : ¬ Builtin.List.listTooLong k = true := by
  unfold Builtin.List.listTooLong
  rw [decide_eq_true_eq, sizeLine_eq]
  (first | assumption | exact Nat.le_refl _ | exact Nat.add_le_add_left (by decide) _ | exact Nat.le_trans (by assumption) (by decide) | omega)
theorem op_mulL (d : PyData) (x : Int) (k : Nat) (hx : x.toNat = k) (hx0 : 0 ≤ x) (hz : k ≤ 1000) : Op2 prog w n (binaryOp .Mult) (kfr [d]) (kim (.int x)) (kfr (List.replicate k d)) := @fun A X h₀ s _ _ Q E _ _ _ p y K => by
  obtain ⟨a, vs, c, rfl, _, g, r⟩ := p
  cases y
  rename_i u
  cases r with
  | cons r1 r2 =>
    cases r2
    rename_i v
    have e1 : ([v].toArray.size * x.toNat) = k := by rw [hx]; show 1 * k = k; (first | assumption | exact Nat.le_refl _ | exact Nat.add_le_add_left (by decide) _ | exact Nat.le_trans (by assumption) (by decide) | omega)
    have f1 : Builtin.List.listFitsIndex x = true := by
      unfold Builtin.List.listFitsIndex
      rw [Bool.and_eq_true]
      exact ⟨decide_eq_true (by (first | assumption | exact Nat.le_refl _ | exact Nat.add_le_add_left (by decide) _ | exact Nat.le_trans (by assumption) (by decide) | omega)), decide_eq_true (by (first | assumption | exact Nat.le_refl _ | exact Nat.add_le_add_left (by decide) _ | exact Nat.le_trans (by assumption) (by decide) | omega))⟩
    have m3 := @AutoListH.list___mul___list_int_3 a [v].toArray c x u (by rw [f1]; exact Bool.false_ne_true) (by rw [e1]; exact Nat.not_lt.mpr (Nat.le_trans hz (by decide))) (by rw [e1]; exact mulL_long hz)
    refine wpAny_binaryOp_repeat_ref (T := "list") (U := "int") (by decide) ⟨_, g, rfl⟩ (fun s' => typeIs_int s' _ u) noFill_list_mul F.fills_int_mul F.slot_int_rmul repeat_list F.slot_int_index.lookup
      (call_meets F.slot_int_rmul (typeIs_int s _ u) F.entry_int_rmul (F.args_int_rmul_2 _ _) (int___rmul___int_list x u a _ c)
        ⟨g, rfl, ⟨_, g, rfl⟩, call_meets F.slot_list_mul ⟨_, g, rfl⟩ F.entry_list_mul (F.args_list_mul_2 _ _) m3
          ⟨g, K _ _ _ (Kp.push _) ⟨_, List.replicate k v, 0, rfl, fresh_size _, ?_, rva_new ((RvA.rep r1 k).sub fun b m => .tail _ m) _⟩⟩⟩)
    rw [Heap.get?_push_size _ rfl]
    have := fold_rep v k #[]
    rw [if_neg (by simp), hx, this]
    simp
theorem op_eq {d d' : PyData} (h1 : SeqAt.shaped d = true) (h2 : SeqAt.shaped d' = true) : Op2 prog w n (compareOp .Eq) (kim d) (kim d') (kim (.bool (PyData.eqv d d'))) := fun _ _ _ _ _ _ _ _ R _ _ x y K => by
  obtain ⟨as, x⟩ := Rv.reads x
  obtain ⟨bs, y⟩ := Rv.reads y
  exact eq_dataH x y h1 h2 (by have := R.u; (first | assumption | exact Nat.le_refl _ | exact Nat.add_le_add_left (by decide) _ | exact Nat.le_trans (by assumption) (by decide) | omega)) (K _ _ _ (Kp.refl _) (.bool _))
theorem op_ne {d d' : PyData} (h1 : SeqAt.shaped d = true) (h2 : SeqAt.shaped d' = true) : Op2 prog w n (compareOp .NotEq) (kim d) (kim d') (kim (.bool (!PyData.eqv d d'))) := fun _ _ _ _ _ _ _ _ R _ _ x y K => by
  obtain ⟨as, x⟩ := Rv.reads x
  obtain ⟨bs, y⟩ := Rv.reads y
  exact ne_dataH x y h1 h2 (by have := R.u; (first | assumption | exact Nat.le_refl _ | exact Nat.add_le_add_left (by decide) _ | exact Nat.le_trans (by assumption) (by decide) | omega)) (K _ _ _ (Kp.refl _) (.bool _))
theorem op_lt (a b : Int) : Op2 prog w n (compareOp .Lt) (kim (.int a)) (kim (.int b)) (kim (.bool (decide (a < b)))) := fun _ _ _ _ _ _ _ _ _ _ _ x y K => by
  cases x; cases y; exact lt_int (K _ _ _ (Kp.refl _) (.bool _))
theorem op_ge (a b : Int) : Op2 prog w n (compareOp .GtE) (kim (.int a)) (kim (.int b)) (kim (.bool (decide (b ≤ a)))) := fun _ _ _ _ _ _ _ _ _ _ _ x y K => by
  cases x; cases y; exact ge_int (K _ _ _ (Kp.refl _) (.bool _))
theorem op_in {ds : List PyData} {d : PyData} (h1 : PyData.canLayAll0 ds = true) (h2 : d.canLay0 = true) (hd : PyData.depth d ≤ 50) : Op2 prog w n (compareOp .In) (kim d) (kim (.tuple ds)) (kim (.bool (ds.any fun y => PyData.eqv y d))) := fun _ _ _ _ _ _ _ _ R _ _ x y K => by
  obtain ⟨as, x⟩ := Rv.reads x
  obtain ⟨bs, y⟩ := Rv.reads y
  exact SeqAt.in_tuple_reads y x h1 h2 (by have := R.u; have := Nat.min_le_right (PyData.depthAll ds) d.depth; (first | assumption | exact Nat.le_refl _ | exact Nat.add_le_add_left (by decide) _ | exact Nat.le_trans (by assumption) (by decide) | omega)) (K _ _ _ (Kp.refl _) (.bool _))
theorem op_nin {ds : List PyData} {d : PyData} (h1 : PyData.canLayAll0 ds = true) (h2 : d.canLay0 = true) (hd : PyData.depth d ≤ 50) : Op2 prog w n (compareOp .NotIn) (kim d) (kim (.tuple ds)) (kim (.bool (!ds.any fun y => PyData.eqv y d))) := fun _ _ _ _ _ _ _ _ R _ _ x y K => by
  obtain ⟨as, x⟩ := Rv.reads x
  obtain ⟨bs, y⟩ := Rv.reads y
  exact SeqAt.notIn_tuple_reads y x h1 h2 (by have := R.u; have := Nat.min_le_right (PyData.depthAll ds) d.depth; (first | assumption | exact Nat.le_refl _ | exact Nat.add_le_add_left (by decide) _ | exact Nat.le_trans (by assumption) (by decide) | omega)) (K _ _ _ (Kp.refl _) (.bool _))
noncomputable def isNone : PyData → Bool
  | .none => true
  | _ => false
theorem rv_none {h : Heap} {X : List Addr} {v : Value} {d : PyData} (r : Rv h X v d) : (v == Value.none) = isNone d := by
  cases r <;> rfl
theorem op_is (d : PyData) : Op2 prog w n (compareOp .Is) (kim d) (kim .none) (kim (.bool (isNone d))) := fun _ _ _ _ _ _ _ _ _ _ _ x y K => by
  cases y
  have e := rv_none x
  exact is_none (K _ _ _ (Kp.refl _) (by rw [e]; exact .bool _))
theorem op_isnot (d : PyData) : Op2 prog w n (compareOp .IsNot) (kim d) (kim .none) (kim (.bool (!isNone d))) := fun _ _ _ _ _ _ _ _ _ _ _ x y K => by
  cases y
  have e := rv_none x
  exact isNot_none (K _ _ _ (Kp.refl _) (by rw [e]; exact .bool _))

theorem Ev.itemT {ds : List PyData} {k : Int} {j : Nat} {d : PyData} (hl : Ev prog w ht n sc ρ l (kim (.tuple ds))) (he : Ev prog w ht n sc ρ e (kim (.int k))) (hj : seqIndex? k ds.length = some j) (hd : ds[j]? = some d)
    (hlo : -(2 ^ 63) ≤ k := by decide) (hhi : k < 2 ^ 63 := by decide) (hs : ∀ o i, subscripted e false o i = operate [o, i] (getItem o i) := by intro _ _; with_unfolding_all rfl) : Ev prog w ht n sc ρ (.Subscript l e pos) (kim d) := fun _ _ _ _ _ _ R a S K =>
  Subscript_ (hl R a S fun v h₁ t₁ k₁ z₁ => he R a (S.kp k₁) fun u h₂ t₂ k₂ z₂ => by
    cases z₂
    have z := Rv.kp z₁ k₂
    cases z with
    | tuple ha g r =>
      obtain ⟨x, hx, hr⟩ := r.get hd
      exact item_tupleT ⟨_, g, rfl, _, rfl⟩ hlo hhi (by rw [r.len]; exact hj) hx (K _ _ _ (k₁.trans k₂) hr) (hs _ _))
theorem Ev.item {ds : List PyData} {k : Int} {d : PyData} (hl : Ev prog w ht n sc ρ l (ksl ds)) (he : Ev prog w ht n sc ρ e (kim (.int k))) (h0 : 0 ≤ k) (hk : k < 2 ^ 63) (hd : ds[k.toNat]? = some d)
    (hs : ∀ o i, subscripted e false o i = operate [o, i] (getItem o i) := by intro _ _; with_unfolding_all rfl) : Ev prog w ht n sc ρ (.Subscript l e pos) (kim d) := fun _ _ _ _ _ _ R a S K =>
  Subscript_ (hl R a S fun v h₁ t₁ k₁ z₁ => he R a (S.kp k₁) fun u h₂ t₂ k₂ z₂ => by
    cases z₂
    obtain ⟨b, vs, c, rfl, g, r⟩ := (ksl ds).st z₁ k₂
    obtain ⟨x, hx, hr⟩ := r.get hd
    have hL : Heap.IsList h₂ b vs.toArray := ⟨_, g, rfl, _, rfl⟩
    exact tail_any (T := "list") ⟨_, g, rfl⟩ slot_list_getitem.lookup (wpAny_getItem_list hL h0 hk (by simpa using hx) (K _ _ _ (k₁.trans k₂) hr)) (hs _ _))
theorem Ev.itemN {ds : List PyData} {k : Int} {d : PyData} (hl : Ev prog w ht n sc ρ l (ksl ds)) (he : Ev prog w ht n sc ρ e (kim (.int k))) (h0 : k < 0) (h1 : -(ds.length : Int) ≤ k) (hk : -(2 ^ 63) ≤ k) (hd : ds[(k + ds.length).toNat]? = some d)
    (hs : ∀ o i, subscripted e false o i = operate [o, i] (getItem o i) := by intro _ _; with_unfolding_all rfl) : Ev prog w ht n sc ρ (.Subscript l e pos) (kim d) := fun _ _ _ _ _ _ R a S K =>
  Subscript_ (hl R a S fun v h₁ t₁ k₁ z₁ => he R a (S.kp k₁) fun u h₂ t₂ k₂ z₂ => by
    cases z₂
    obtain ⟨b, vs, c, rfl, g, r⟩ := (ksl ds).st z₁ k₂
    obtain ⟨x, hx, hr⟩ := r.get hd
    have hL : Heap.IsList h₂ b vs.toArray := ⟨_, g, rfl, _, rfl⟩
    exact tail_any (T := "list") ⟨_, g, rfl⟩ slot_list_getitem.lookup (wpAny_getItem_list_neg hL h0 (by rw [List.size_toArray, r.len]; exact h1) hk (by rw [List.size_toArray, r.len]; simpa using hx) (K _ _ _ (k₁.trans k₂) hr)) (hs _ _))

noncomputable def EvPt (prog : Program) (w : World) (ht : Heap) (n : Nat) (sc : Scope) (ρ : Rho) (e : Option Expr) (i : Option Int) : Prop :=
  ∀ ⦃A : Around⦄ ⦃env : Env⦄ ⦃X : List Addr⦄ ⦃s : Shared⦄ ⦃Q : Value → Shared → Prop⦄ ⦃E : Value → Shared → Prop⦄, Room n A → env.scope = sc → St ht env X ρ s.heap →
    (∀ v h' tk, Kp s.heap h' → IsPart v i → Q v { s with heap := h', toks := tk }) → wpAny (model prog w) A (evalPart e env) Q E s
theorem EvPt.none : EvPt prog w ht n sc ρ .none .none := fun _ _ _ _ _ _ _ _ _ K => wpAny_pure (K _ _ _ (Kp.refl _) .none)
theorem EvPt.some {i : Int} (h : Ev prog w ht n sc ρ e (kim (.int i))) : EvPt prog w ht n sc ρ (some e) (some i) := fun _ _ _ _ _ _ R a S K => h R a S fun v h₁ t₁ k₁ z₁ => by
  cases z₁
  exact K _ _ _ k₁ (.int _ _)
theorem Ev.cut {ds es : List PyData} {lo up st : Option Expr} {a b c : Option Int} {ppos : Pos} (hl : Ev prog w ht n sc ρ l (ksl ds)) (h1 : EvPt prog w ht n sc ρ lo a) (h2 : EvPt prog w ht n sc ρ up b) (h3 : EvPt prog w ht n sc ρ st c) (h0 : c ≠ some 0)
    (hp : ∀ {h : Heap} {X : List Addr} {vs : List Value}, RvA h X vs ds → RvA h X (slicePick vs.toArray a b c).toList es) (hz : ds.length ≤ 1000)
    (hs : ∀ o i, ∃ ops, subscripted (.Slice lo up st ppos) false o i = operate ops (getItem o i) := by intro _ _; exact ⟨_, by with_unfolding_all rfl⟩) : Ev prog w ht n sc ρ (.Subscript l (.Slice lo up st ppos) pos) (kfr es) := fun _ _ _ _ _ _ R a S K =>
  Subscript_ (hl R a S fun v h₁ t₁ k₁ z₁ => wpAny_Slice (h1 R a (S.kp k₁) fun v1 g₁ y₁ x₁ p₁ => h2 R a (S.kp (k₁.trans x₁)) fun v2 g₂ y₂ x₂ p₂ => h3 R a (S.kp (k₁.trans (x₁.trans x₂))) fun v3 g₃ y₃ x₃ p₃ => by
    obtain ⟨b', vs, cc, rfl, g, r⟩ := (ksl ds).st z₁ (x₁.trans (x₂.trans x₃))
    have kk := k₁.trans (x₁.trans (x₂.trans x₃))
    have gg := Heap.get?_push_of_some { cls := .type "slice", data := .fields #[v1, v2, v3] } g
    have hL : Heap.IsList (g₃.push { cls := .type "slice", data := .fields #[v1, v2, v3] }) b' vs.toArray := ⟨_, gg, rfl, _, rfl⟩
    obtain ⟨ops, hs'⟩ := hs (.ref b') (.ref g₃.objs.size)
    refine tail_any (T := "list") ⟨_, gg, rfl⟩ slot_list_getitem.lookup (wpAny_getItem_list_slice hL (Heap.IsSliceOf.new _ _ _ _) p₁ p₂ p₃ h0 (K _ _ _ (kk.trans ((Kp.push _).trans (Kp.push _))) ⟨_, (slicePick vs.toArray _ _ _).toList, 0, rfl, none_of_kp (kk.trans (Kp.push _)) (fresh_size _), ?_, rva_new ((hp r).kp (Kp.push _)) _⟩) (sizeLine_big (by rw [List.size_toArray, r.len]; exact hz))) hs'
    rw [Heap.get?_push_size _ rfl]))
theorem cut_upto {ds : List PyData} {b : Nat} (hb : b ≤ ds.length) {h : Heap} {X : List Addr} {vs : List Value} (r : RvA h X vs ds) : RvA h X (slicePick vs.toArray none (some b) none).toList (ds.take b) := by
  rw [slicePick_upto _ _ (by rw [List.size_toArray, r.len]; exact hb)]
  simpa using r.take b
theorem cut_from {ds : List PyData} {b : Nat} (hb : b ≤ ds.length) {h : Heap} {X : List Addr} {vs : List Value} (r : RvA h X vs ds) : RvA h X (slicePick vs.toArray (some b) none none).toList (ds.drop b) := by
  rw [slicePick_from _ _ (by rw [List.size_toArray, r.len]; exact hb)]
  simpa using r.drop b
theorem cut_rev {ds : List PyData} {h : Heap} {X : List Addr} {vs : List Value} (r : RvA h X vs ds) : RvA h X (slicePick vs.toArray none none (some (-1))).toList ds.reverse := by
  rw [krv_pick]
  simpa using r.reverse
end
theorem Ns_unique {h : Heap} {a : Addr} {m m' : Str → Option Value} (x : h.Ns a m) (y : h.Ns a m') : m = m' := by
  obtain ⟨o, es, ep, ho, hd, _, hm⟩ := x
  obtain ⟨o', es', ep', ho', hd', _, hm'⟩ := y
  rw [ho] at ho'
  cases ho'
  rw [hd] at hd'
  cases hd'
  funext n
  rw [← hm, ← hm']

noncomputable abbrev Fresh (B : List Addr) (hb : Heap) (a : Addr) : Prop := a ∈ B ∨ hb.get? a = none
structure Sf (ht hb : Heap) (B : List Addr) (env : Env) (X : List Addr) (ρ : Rho) (h : Heap) : Prop where
  st : St ht env X ρ h
  base : KpX B hb h
  fb : ∀ a ∈ frameOf env, Fresh B hb a
  ow : ∀ z p, (z, Ent.res p) ∈ ρ → ∀ a ∈ p.as, Fresh B hb a
theorem Sf.kp {ht hb : Heap} {B : List Addr} {env : Env} {X : List Addr} {ρ : Rho} {h h' : Heap} (S : Sf ht hb B env X ρ h) (k : Kp h h') : Sf ht hb B env X ρ h' := ⟨S.st.kp k, S.base.trans (k.kpx _), S.fb, S.ow⟩

theorem Ent.frame {env : Env} {X : List Addr} {h h' : Heap} {v : Value} {e : Ent} (r : e.holds env X h v) (k : KpX (frameOf env) h h') (hX : ∀ a ∈ frameOf env, a ∈ X) : e.holds env X h' v := by
  have kX : KpX X h h' := fun b o n e => k b o (fun m => n (hX _ m)) e
  cases e with
  | vp p => exact p.st r kX fun _ m => .inl m
  | res p =>
    obtain ⟨n, e, q⟩ := r
    exact ⟨n, e, p.st q kX (fun b m o e => k _ _ (n b m).1 e) (fun _ m => .inl m) fun b m => (n b m).2⟩
noncomputable def All {α : Type} (P : α → Prop) : List α → Prop
  | [] => True
  | a :: l => P a ∧ All P l
theorem All.mem {α : Type} {P : α → Prop} : ∀ {l : List α}, All P l → ∀ a ∈ l, P a
  | _ :: _, ⟨h, _⟩, _, .head _ => h
  | _ :: _, ⟨_, r⟩, _, .tail _ m => r.mem _ m
noncomputable def Upd (x : Str) (e : Ent) (ρ ρ' : Rho) : Prop := All (fun y => y = (x, e) ∨ (y ∈ ρ ∧ y.1 ≠ x)) ρ'

section
variable {prog : Program} {w : World} {ht hb : Heap} {B : List Addr} {A : Around} {env : Env} {X : List Addr} {ρ ρ' : Rho} {s : Shared} {E : Value → Shared → Prop} {sc : Scope}
theorem frame_not {x : Addr} {o : Obj} (S : Sf ht hb B env X ρ s.heap) (hx : x ∈ frameOf env) (nb : x ∉ B) (e : hb.get? x = some o) : False := by
  rcases S.fb _ hx with q | q
  · exact nb q
  · rw [q] at e; cases e
theorem Sf.upd {x : Str} {v : Value} {en : Ent} {h' : Heap} {c : Addr} (S : Sf ht hb B env X ρ s.heap) (hρ : Upd x en ρ ρ') (hc : c ∈ frameOf env) (al : ∃ o, h'.get? c = some o) (k : KpX [c] s.heap h') (hns : ∃ m, h'.Ns env.locals m)
    (hcl : ∀ n c, env.cells.lookup n = some c → ∃ v, h'.IsCell c v) (hx : VarIs env h' x v) (hy : ∀ y u, y ≠ x → VarIs env s.heap y u → VarIs env h' y u) (hv : en.holds env X s.heap v) (hw : ∀ p, en = .res p → ∀ a ∈ p.as, Fresh B hb a) : Sf ht hb B env X ρ' h' := by
  have kf : KpX (frameOf env) s.heap h' := fun b o n e => k b o (fun m => n (by rw [List.mem_singleton] at m; exact m ▸ hc)) e
  refine ⟨⟨fun b o e => k b o (fun m => ?_) (S.st.top b o e), fun a m => ?_, S.st.ge, S.st.xn, S.st.fx, hns, hcl, fun y hm => ?_⟩, fun b o n e => k b o (fun m => ?_) (S.base b o n e), S.fb, fun z p m => ?_⟩
  · rw [List.mem_singleton] at m
    have := S.st.xn _ (S.st.fx _ hc)
    rw [← m, e] at this; cases this
  · by_cases q : a = c
    · exact q ▸ al
    · obtain ⟨o, e⟩ := S.st.xal a m
      exact ⟨o, k _ _ (fun m => q (List.mem_singleton.mp m)) e⟩
  · rcases All.mem hρ y hm with rfl | ⟨h1, h2⟩
    · exact ⟨v, hx, Ent.frame hv kf S.st.fx⟩
    · obtain ⟨u, q1, q2⟩ := S.st.vars y h1
      exact ⟨u, hy _ _ h2 q1, Ent.frame q2 kf S.st.fx⟩
  · rw [List.mem_singleton] at m
    exact frame_not S hc (m ▸ n) (m ▸ e)
  · rcases All.mem hρ _ m with q | ⟨h1, _⟩
    · exact hw p (Prod.mk.inj q).2.symm
    · exact S.ow z p h1
theorem wp_store {x : Str} {v : Value} {en : Ent} {Q : Unit → Shared → Prop} (S : Sf ht hb B env X ρ s.heap) (hv : en.holds env X s.heap v) (hk : env.scope.names.lookup x = some .local ∨ env.scope.names.lookup x = some .cell ∧ (env.cells.lookup x).isSome = true) (hρ : Upd x en ρ ρ') (hw : ∀ p, en = .res p → ∀ a ∈ p.as, Fresh B hb a)
    (K : ∀ h' tk, Sf ht hb B env X ρ' h' → KpX (frameOf env) s.heap h' → Q () { s with heap := h', toks := tk }) : wpAny (model prog w) A (storeName env x v) Q E s := by
  have kk := S.st.ge.kind
  rcases hk with hl | ⟨hl, hi⟩
  · obtain ⟨m, hm⟩ := S.st.ns
    refine wpAny_storeName_local hl hm (fun h' hn' hs' => K h' _ (S.upd (c := env.locals) (v := v) hρ (.head _) ?_ (fun b o n e => hs'.extBut b o (fun q => n (List.mem_singleton.mpr q)) e) ⟨_, hn'⟩ (fun n c q => ?_) (.inl ⟨hl, _, hn', if_pos rfl⟩) (fun y u ne q => ?_) hv hw) fun b o n e => hs'.extBut b o (fun q => n (q ▸ .head _)) e) (by rw [kk]; rfl)
    · obtain ⟨o, _, _, e, _⟩ := hn'; exact ⟨o, e⟩
    · obtain ⟨u, e⟩ := S.st.cl n c q
      exact ⟨u, e.sameBut hs' (S.st.ge.lc n c q)⟩
    · rcases q with ⟨a, m2, b, c⟩ | ⟨a, c, b, d⟩
      · obtain rfl := Ns_unique hm b
        exact .inl ⟨a, _, hn', by rw [if_neg ne]; exact c⟩
      · exact .inr ⟨a, c, b, d.sameBut hs' (S.st.ge.lc _ _ b)⟩
  · obtain ⟨c, hc⟩ := Option.isSome_iff_exists.mp hi
    obtain ⟨v₀, hv₀⟩ := S.st.cl x c hc
    have hcf : c ∈ frameOf env := .tail _ (List.mem_map.mpr ⟨(x, c), mem_of_lookup hc, rfl⟩)
    refine wpAny_storeName_cell kk hl hc hv₀ fun h' hc' hs' => K h' s.toks (S.upd (c := c) (v := v) hρ hcf ?_ (fun b o n e => hs'.extBut b o (fun q => n (List.mem_singleton.mpr q)) e) ?_ (fun n d q => ?_) (.inr ⟨.inl hl, c, hc, hc'⟩) (fun y u ne q => ?_) hv hw) fun b o n e => hs'.extBut b o (fun q => n (q ▸ hcf)) e
    · obtain ⟨o, e, _⟩ := hc'; exact ⟨o, e⟩
    · obtain ⟨m, e⟩ := S.st.ns
      exact ⟨m, e.sameBut hs' fun q => S.st.ge.lc _ _ hc q.symm⟩
    · by_cases q' : d = c
      · exact ⟨_, q' ▸ hc'⟩
      · obtain ⟨u, e⟩ := S.st.cl n d q
        exact ⟨u, e.sameBut hs' q'⟩
    · rcases q with ⟨a, m2, b, e⟩ | ⟨a, d, b, e⟩
      · exact .inl ⟨a, _, b.sameBut hs' fun q => S.st.ge.lc _ _ hc q.symm, e⟩
      · exact .inr ⟨a, d, b, e.sameBut hs' fun q => ne (S.st.ge.ap _ _ _ b (q ▸ hc))⟩
end

noncomputable def Kpr (ht : Heap) (f : Value) : Prop := ∀ (M : Model) (h : Heap), Kp ht h → ∃ k, (k = Keeper.frame ∨ k = Keeper.machine ∨ k = Keeper.boundFrame) ∧ Looks M h (keeperOf f) k
theorem Kpr.fn {ht : Heap} {a : Addr} {o : Obj} {fd : FuncData} (e : ht.get? a = some o) (hd : o.data = .func fd) : Kpr ht (.ref a) := fun M h k => keeps_F h (by
  obtain ⟨c, d, dt, sl⟩ := o
  simp only at hd
  subst hd
  exact ⟨_, _, _, _, k _ _ e⟩)
theorem Kpr.builtin {ht : Heap} {id : String} : Kpr ht (.builtin id) := fun M h k => ⟨.machine, .inr (.inl rfl), Looks.of_pure rfl⟩
theorem Kpr.type {ht : Heap} {id : String} : Kpr ht (.type id) := fun M h k => ⟨.machine, .inr (.inl rfl), Looks.of_pure rfl⟩
section
variable {prog : Program} {w : World} {ht : Heap} {n : Nat} {sc : Scope} {ρ : Rho} {p q r : KP} {e l f : Expr} {pos : Pos}
theorem Ev.call {x : Str} {xp : Pos} {es : List Expr} {f : Value} {ps : List KP} (hf : Ev prog w ht n sc ρ (.Name x xp) (kis f)) (hk : Kpr ht f) (hs : EvS prog w ht n sc ρ (e :: es) ps) (hc : Fn prog w ht n f ps r)
    (he : ∀ env, starEach (e :: es) env = (false, eval e env) :: starEach es env := by intro _; rfl) (hplain : ∀ env, (backTo pos (starEach es env)).any (·.1) = false := by intro _; rfl) :
    Ev prog w ht n sc ρ (.Call (.Name x xp) (e :: es) [] pos) r := fun A env X s Q E R a S K =>
  wpAny_Call_Name_kw (hf R a S fun v h₁ t₁ k₁ z₁ => by
    have ev : v = f := z₁
    rw [ev]
    show wpAny (model prog w) A (callWith pos f [] (backTo pos (starEach (e :: es) env)) []) Q E _
    have hs' : wpAny (model prog w) A (spliced (backTo pos (starEach (e :: es) env))) (fun vs s₁ => Kp ht s₁.heap ∧ wpAny (model prog w) A (PySem.call f ([] ++ vs)) Q E s₁) E { s with heap := h₁, toks := t₁ } :=
      hs R a (S.kp k₁) fun vs h₂ t₂ k₂ z₂ => ⟨(S.kp (k₁.trans k₂)).top, hc R (S.kp k₁).top S.xn (S.alive.kp k₁) k₂ z₂ fun u h₃ t₃ k₃ z₃ => K u h₃ t₃ (k₁.trans (k₂.trans k₃)) (r.an z₃ (k₁.trans k₂))⟩
    rw [he] at hs' ⊢
    exact callWith_of (P := fun h => Kp ht h) (by show ((false || (backTo pos (starEach es env)).any (·.1)) || false) = false; rw [hplain]; rfl) (fun h k => hk _ h k) (evalArgs_plain hs'))

theorem bindL_not {kindOf : Str → Option NameKind} {x : Str} : ∀ (binds : List (Str × Value)) (m : Str → Option Value), x ∉ binds.map (·.1) → bindL kindOf binds m x = m x
  | [], m, _ => rfl
  | (k, v) :: r, m, h => by
    rw [List.map_cons, List.mem_cons, not_or] at h
    unfold bindL
    rw [bindL_not r _ h.2]
    split
    · exact if_neg h.1
    · rfl
theorem bindC_not {kindOf : Str → Option NameKind} {x : Str} : ∀ (binds : List (Str × Value)) (m : Str → Option Value), x ∉ binds.map (·.1) → bindC kindOf binds m x = m x
  | [], m, _ => rfl
  | (k, v) :: r, m, h => by
    rw [List.map_cons, List.mem_cons, not_or] at h
    unfold bindC
    rw [bindC_not r _ h.2]
    split
    · rfl
    · exact if_neg h.1
theorem bindL_at {kindOf : Str → Option NameKind} {x : Str} {v : Value} (hk : kindOf x = some .local) : ∀ (binds : List (Str × Value)) (m : Str → Option Value), (binds.map (·.1)).Nodup → (x, v) ∈ binds → bindL kindOf binds m x = some v
  | (k, u) :: r, m, hn, hm => by
    rw [List.map_cons, List.nodup_cons] at hn
    unfold bindL
    rcases List.mem_cons.mp hm with e | hm
    · cases e
      rw [bindL_not r _ hn.1, if_pos hk, if_pos rfl]
    · exact bindL_at hk r _ hn.2 hm
theorem bindC_at {kindOf : Str → Option NameKind} {x : Str} {v : Value} (hk : ¬ kindOf x = some .local) : ∀ (binds : List (Str × Value)) (m : Str → Option Value), (binds.map (·.1)).Nodup → (x, v) ∈ binds → bindC kindOf binds m x = some v
  | (k, u) :: r, m, hn, hm => by
    rw [List.map_cons, List.nodup_cons] at hn
    unfold bindC
    rcases List.mem_cons.mp hm with e | hm
    · cases e
      rw [bindC_not r _ hn.1, if_neg hk, if_pos rfl]
    · exact bindC_at hk r _ hn.2 hm
theorem psa_mem {X : List Addr} {h₀ h : Heap} : ∀ {names : List Str} {vs : List Value} {ps : List VP}, PsA X h₀ h vs (ps.map VP.kp) → ∀ e ∈ names.zip (ps.map Ent.vp), ∃ v p, (e.1, v) ∈ names.zip vs ∧ e.2 = .vp p ∧ p.P X h v
  | [], _, _, _, e, hm => by simp at hm
  | _ :: _, _, [], _, e, hm => by simp at hm
  | nm :: ns, _, p :: ps, .cons a b, e, hm => by
    rw [List.map_cons, List.zip_cons_cons] at hm
    rcases List.mem_cons.mp hm with rfl | hm
    · exact ⟨_, p, by rw [List.zip_cons_cons]; exact .head _, rfl, a⟩
    · obtain ⟨v, q, h1, h2, h3⟩ := psa_mem b e hm
      exact ⟨v, q, by rw [List.zip_cons_cons]; exact .tail _ h1, h2, h3⟩

theorem lookup_of_nodup {β : Type} {x : Str × β} : ∀ {l : List (Str × β)}, (l.map (·.1)).Nodup → x ∈ l → l.lookup x.1 = some x.2
  | (k, v) :: r, hn, hm => by
    rw [List.map_cons, List.nodup_cons] at hn
    rcases List.mem_cons.mp hm with rfl | hm
    · rw [List.lookup_cons, beq_self_eq_true]
    · have ne : (x.1 == k) = false := by
        refine beq_eq_false_iff_ne.mpr fun q => hn.1 ?_
        show k ∈ _
        rw [← q]; exact List.mem_map.mpr ⟨x, hm, rfl⟩
      rw [List.lookup_cons, ne]
      exact lookup_of_nodup hn.2 hm
structure Ok (hb : Heap) (X₀ X : List Addr) (env : Env) : Prop where
  sub : ∀ a ∈ X₀, a ∈ X
  new : ∀ a ∈ X, a ∈ X₀ ∨ hb.get? a = none
  cells : ∀ x, env.scope.names.lookup x = some .cell → (env.cells.lookup x).isSome = true
theorem kp_nil {h h' : Heap} (k : KpX [] h h') : Kp h h' := fun b o e => k b o (by simp) e
noncomputable def Body (prog : Program) (w : World) (ht : Heap) (n : Nat) (sc : Scope) (ρ : Rho) (body : List Stmt) (r : KP) : Prop :=
  ∀ ⦃A : Around⦄ ⦃env : Env⦄ ⦃hb : Heap⦄ ⦃X₀ X : List Addr⦄ ⦃s : Shared⦄ ⦃Q : Flow → Shared → Prop⦄ ⦃E : Value → Shared → Prop⦄, Room n A → env.scope = sc → Kp ht hb → Alive X₀ hb → Ok hb X₀ X env → Sf ht hb [] env X ρ s.heap →
    (∀ v h' tk, Kp hb h' → r.P X₀ hb h' v → Q (.ret v) { s with heap := h', toks := tk }) → wpAny (model prog w) A (execs body env) Q E s
theorem Fn.def {mg mb : Str → Option Value} {a : Addr} {o : Obj} {fd : FuncData} {body : List Stmt} {names : List Str} {ps : List VP} (T : TopF mg mb ht) (ho : ht.get? a = some o) (hd : o.data = .func fd) (hcd : ht.CodeRec fd.code fd.qualname)
    (hb : fd.body = .stmts body) (hbind : ∀ vs : List Value, vs.length = names.length → bindArgs fd ⟨vs, []⟩ = pure (names.zip vs)) (hlen : ps.length = names.length) (hclo : fd.closure = [])
    (hkinds : All (fun x => fd.scope.names.lookup x = some .local ∨ fd.scope.names.lookup x = some .cell) names) (hnd : names.Nodup) (hgl : fd.globals = mainGlobals) (hbu : fd.builtins = builtinsNs)
    (hnc : ((cellsFrom 0 fd.scope.names []).map (·.1)).Nodup)
    (hco : fd.scope.isCoroutine = false) (hgen : fd.scope.isGenerator = false) (hk : fd.scope.kind = .function)
    (hbody : Body prog w ht n fd.scope (names.zip (ps.map Ent.vp)) body r) : Fn prog w ht (n + 1) (.ref a) (ps.map VP.kp) r := fun A X h₀ s vs Q E R k0 hX al k1 z K => by
  have kt := k0.trans k1
  have hl : vs.length = names.length := by rw [z.len, List.length_map, hlen]
  have hcells : ∀ x m, fd.scope.names.lookup x = some .cell → ((cellsFrom m fd.scope.names []).lookup x).isSome = true := fun x m q => cellsFrom_some _ _ _ (.inl q)
  refine wpAny_call (codeAny_call_cells (by have := R.2.1; (first | assumption | exact Nat.le_refl _ | exact Nat.add_le_add_left (by decide) _ | exact Nat.le_trans (by assumption) (by decide) | omega)) (kt _ _ ho) hd (T.nl.keeps kt) (hcd.keeps kt) hb (hbind vs hl) hclo (fun x hx => ?_) (fun s₁ I => ?_) hco hgen hk)
  · have hm : x.1 ∈ names := (List.of_mem_zip hx).1
    rcases All.mem hkinds _ hm with q | q
    · exact .inl q
    · exact .inr ⟨q, hcells _ _ q⟩
  generalize henv : callEnvC fd s.heap.objs.size a = env at I ⊢
  have hsc : env.scope = fd.scope := by rw [← henv]; rfl
  have hloc : env.locals = s.heap.objs.size := by rw [← henv]; rfl
  have hcs : env.cells = cellsFrom (s.heap.objs.size + 1) fd.scope.names [] := by rw [← henv]; rfl
  obtain ⟨h₁, tk, rfl⟩ := I.toInCall.same
  have hkeep : Kp s.heap h₁ := I.toInCall.keep
  have hfresh : ∀ c, s.heap.objs.size ≤ c → s.heap.get? c = none := fun c hc => by
    cases e : s.heap.get? c with
    | none => rfl
    | some o => exact absurd (Heap.lt_size e) (Nat.not_lt.mpr hc)
  have hfr : ∀ c ∈ frameOf env, s.heap.get? c = none := fun c hm => by
    rcases List.mem_cons.mp hm with rfl | hm
    · exact hfresh _ (by rw [hloc]; exact Nat.le_refl _)
    · obtain ⟨x, hx, rfl⟩ := List.mem_map.mp hm
      have := I.above x.1 x.2 hx
      exact hfresh _ (by rw [hloc] at this; exact Nat.le_of_lt this)
  have hsame : (env.cells.map (·.1)).Nodup := by
    rw [hcs]
    have e : ∀ (names : List (Str × NameKind)) (m m' : Nat) (acc acc' : List (Str × Addr)), acc.map (·.1) = acc'.map (·.1) → (cellsFrom m names acc).map (·.1) = (cellsFrom m' names acc').map (·.1) := by
      intro names
      induction names with
      | nil => intro m m' acc acc' h; exact h
      | cons x r ih =>
        intro m m' acc acc' h
        obtain ⟨nm, kd⟩ := x
        unfold cellsFrom
        split
        · exact ih _ _ _ _ (by rw [List.map_cons, List.map_cons, h])
        · exact ih _ _ _ _ h
    rw [e _ _ 0 [] [] rfl]
    exact hnc
  have cell_at : ∀ c ∈ env.cells.map (·.2), ∃ o, h₁.get? c = some o := fun c hm => by
    obtain ⟨x, hx, rfl⟩ := List.mem_map.mp hm
    have hlk : env.cells.lookup x.1 = some x.2 := lookup_of_nodup hsame hx
    obtain ⟨o, e, _⟩ := I.cell _ _ hlk
    exact ⟨o, e⟩
  have hg : GoodEnv env := by
    refine ⟨by rw [hsc]; exact hk, by rw [← henv]; exact hgl, by rw [← henv]; exact hbu, fun nm c q => ?_, fun nm nm' c q q' => name_of_addr I.apart (mem_of_lookup q) (mem_of_lookup q'), fun x q => by rw [hcs]; exact hcells _ _ (by rw [hsc] at q; exact q)⟩
    exact Nat.ne_of_gt (I.above nm c (mem_of_lookup q))
  have S : Sf ht s.heap [] env (frameOf env ++ X) (names.zip (ps.map Ent.vp)) h₁ := by
    refine ⟨⟨kt.trans hkeep, fun c hm => ?_, hg, fun c hm => ?_, fun c hm => List.mem_append_left _ hm, ⟨_, I.toInCall.ns⟩, fun nm c q => ⟨_, I.cell nm c q⟩, fun y hm => ?_⟩, hkeep.kpx _, fun c hm => .inr (hfr c hm), fun z b m => ?_⟩
    · rcases List.mem_append.mp hm with hm | hm
      · rcases List.mem_cons.mp hm with rfl | hm
        · obtain ⟨o, _, _, e, _⟩ := I.toInCall.ns; exact ⟨o, e⟩
        · exact cell_at c hm
      · exact (al.kp (k1.trans hkeep)) c hm
    · rcases List.mem_append.mp hm with hm | hm
      · exact none_of_kp kt (hfr c hm)
      · exact hX c hm
    · obtain ⟨v, p, h1, h2, h3⟩ := psa_mem z y hm
      have hnm : y.1 ∈ names := (List.of_mem_zip h1).1
      have hnd' : ((names.zip vs).map (·.1)).Nodup := by
        rw [List.map_fst_zip (by rw [hl]; exact Nat.le_refl _)]
        exact hnd
      refine ⟨v, ?_, ?_⟩
      · have hkk : env.kindOf y.1 = fd.scope.names.lookup y.1 := by show env.scope.names.lookup y.1 = _; rw [hsc]
        rcases All.mem hkinds _ hnm with q | q
        · exact .inl ⟨by rw [hkk]; exact q, _, I.toInCall.ns, bindL_at (by rw [hkk]; exact q) _ _ hnd' h1⟩
        · obtain ⟨c, hc⟩ := Option.isSome_iff_exists.mp (hcells y.1 (s.heap.objs.size + 1) q)
          rw [← hcs] at hc
          exact .inr ⟨.inl (by rw [hkk]; exact q), c, hc, (bindC_at (kindOf := env.kindOf) (by rw [hkk, q]; simp) _ (fun _ => none) hnd' h1) ▸ I.cell _ _ hc⟩
      · rw [h2]
        exact p.st h3 (hkeep.kpx _) fun c hm => by
          rcases List.mem_append.mp hm with hm | hm
          · exact .inr (hfr c hm)
          · exact .inl hm
    · obtain ⟨p, _, q⟩ := List.mem_map.mp (List.of_mem_zip m).2
      cases q
  refine hbody (X₀ := X) (R.deeper env) hsc kt (al.kp k1) ⟨fun c hm => List.mem_append_right _ hm, fun c hm => ?_, fun x q => by rw [hcs]; exact hcells _ _ (by rw [hsc] at q; exact q)⟩ S fun v h' tk k' z' => K v h' tk k' z'
  rcases List.mem_append.mp hm with hm | hm
  · exact .inr (hfr c hm)
  · exact .inl hm
end
theorem execs_append (env : Env) : ∀ (a b : List Stmt), execs (a ++ b) env = (do match ← execs a env with | .next => execs b env | f => pure f)
  | [], b => by
    rw [List.nil_append, execs_nil]
    rfl
  | st :: r, b => by
    rw [List.cons_append, execs_cons, execs_cons, bind_assoc]
    refine congrArg (exec st env >>= ·) (funext fun f => ?_)
    cases f with
    | next => exact execs_append env r b
    | brk => rfl
    | cont => rfl
    | ret v => rfl

inductive Post : Type 1 where
  | ret (r : KP)
  | next (ρ : Rho)
  | fam (ι : Type) (ρs : ι → Rho)
  | retE (ρ : Rho) (R : PyData → Prop)
  | grow (ι : Type) (ρs : ι → Rho)
noncomputable def Post.K (ht hb : Heap) (B X₀ X : List Addr) (env : Env) (s : Shared) (Q : Flow → Shared → Prop) : Post → Prop
  | .ret r => B = [] ∧ ∀ v h' tk, Kp hb h' → r.P X₀ hb h' v → Q (.ret v) { s with heap := h', toks := tk }
  | .next ρ' => ∀ h' tk, Sf ht hb B env X ρ' h' → Q .next { s with heap := h', toks := tk }
  | .fam ι ρs => ∀ i h' tk, Sf ht hb B env X (ρs i) h' → Q .next { s with heap := h', toks := tk }
  | .retE ρ' R => ∀ d v h' tk, R d → Rv h' X v d → Sf ht hb B env X ρ' h' → Q (.ret v) { s with heap := h', toks := tk }
  | .grow ι ρs => (∀ b ∈ B, b ∈ X) ∧ ∀ i X' h' tk, (∀ b ∈ X, b ∈ X') → (∀ b ∈ X', b ∈ X ∨ hb.get? b = none) → Sf ht hb B env X' (ρs i) h' → Q .next { s with heap := h', toks := tk }
theorem Post.K.at {ht hb : Heap} {B X₀ X : List Addr} {env : Env} {s : Shared} {Q : Flow → Shared → Prop} {po : Post} (k : po.K ht hb B X₀ X env s Q) (h : Heap) (t : Nat) : po.K ht hb B X₀ X env { s with heap := h, toks := t } Q := by
  cases po with
  | ret r => exact k
  | next ρ => exact k
  | fam ι ρs => exact k
  | retE ρ R => exact k
  | grow ι ρs => exact k
noncomputable def Ex (prog : Program) (w : World) (ht : Heap) (n : Nat) (sc : Scope) (ρ : Rho) (body : List Stmt) (po : Post) : Prop :=
  ∀ ⦃A : Around⦄ ⦃env : Env⦄ ⦃hb : Heap⦄ ⦃B X₀ X : List Addr⦄ ⦃s : Shared⦄ ⦃Q : Flow → Shared → Prop⦄ ⦃E : Value → Shared → Prop⦄, Room n A → env.scope = sc → Kp ht hb → Alive X₀ hb → Ok hb X₀ X env → Sf ht hb B env X ρ s.heap →
    po.K ht hb B X₀ X env s Q → wpAny (model prog w) A (execs body env) Q E s

section
variable {prog : Program} {w : World} {ht : Heap} {n : Nat} {sc : Scope} {ρ ρ' ρ₂ : Rho} {p q r : KP} {e l f : Expr} {pos : Pos} {po : Post} {rest body : List Stmt}
theorem Ex.toBody (x : Ex prog w ht n sc ρ body (.ret r)) : Body prog w ht n sc ρ body r := fun _ _ _ _ _ _ _ _ R a k0 al O S K => x R a k0 al O S ⟨rfl, K⟩
theorem Ex.nil (h : ∀ y ∈ ρ', y ∈ ρ) : Ex prog w ht n sc ρ [] (.next ρ') := fun _ _ _ _ _ _ _ _ _ R a k0 al O S K =>
  wpAny_execs_nil (K _ _ ⟨{ S.st with vars := fun y m => S.st.vars y (h y m) }, S.base, S.fb, fun z b m => S.ow z b (h _ m)⟩)
theorem Ex.nilF {ι : Type} {ρs : ι → Rho} (i : ι) (h : ∀ y ∈ ρs i, y ∈ ρ) : Ex prog w ht n sc ρ [] (.fam ι ρs) := fun _ _ _ _ _ _ _ _ _ R a k0 al O S K =>
  wpAny_execs_nil (K i _ _ ⟨{ S.st with vars := fun y m => S.st.vars y (h y m) }, S.base, S.fb, fun z b m => S.ow z b (h _ m)⟩)
theorem Ex.nilG {ι : Type} {ρs : ι → Rho} (i : ι) (h : ∀ y ∈ ρs i, y ∈ ρ) : Ex prog w ht n sc ρ [] (.grow ι ρs) := fun _ _ _ _ _ _ _ _ _ R a k0 al O S K =>
  wpAny_execs_nil (K.2 i _ _ _ (fun _ m => m) (fun _ m => .inl m) ⟨{ S.st with vars := fun y m => S.st.vars y (h y m) }, S.base, S.fb, fun z b m => S.ow z b (h _ m)⟩)
theorem Ex.retE {d : PyData} {Rr : PyData → Prop} (h : Ev prog w ht n sc ρ e (kim d)) (hR : Rr d) (hρ : ∀ y ∈ ρ', y ∈ ρ) : Ex prog w ht n sc ρ (.Return (some e) pos :: rest) (.retE ρ' Rr) := @fun A env hb B X₀ X s Q E R a k0 al O S K => by
  refine wpAny_execs_cons (wpAny_Return_some (h R a S.st fun v h' tk k z => ?_))
  have S' := S.kp k
  exact K d v h' tk hR z ⟨{ S'.st with vars := fun y m => S'.st.vars y (hρ y m) }, S'.base, S'.fb, fun z b m => S'.ow z b (hρ _ m)⟩
theorem Ex.if_rE {Rr : PyData → Prop} {t : Expr} {b o : List Stmt} (h : Tst prog w ht n sc ρ t true) (x : Ex prog w ht n sc ρ b (.retE ρ' Rr)) : Ex prog w ht n sc ρ (.If t b o pos :: rest) (.retE ρ' Rr) := @fun A env hb B X₀ X s Q E R a k0 al O S K => by
  refine wpAny_execs_cons (wpAny_If (h R a S.st fun h' tk k => ?_))
  exact x R a k0 al O (S.kp k) fun d v h'' tk' hR z S' => K d v h'' tk' hR z S'
theorem Ex.if_f {ι : Type} {ρs : ι → Rho} {t : Expr} {b o : List Stmt} (h : Tst prog w ht n sc ρ t true) (x : Ex prog w ht n sc ρ b (.fam ι ρs)) (y : ∀ i, Ex prog w ht n sc (ρs i) rest po) : Ex prog w ht n sc ρ (.If t b o pos :: rest) po := @fun A env hb B X₀ X s Q E R a k0 al O S K => by
  refine wpAny_execs_cons (wpAny_If (h R a S.st fun h' tk k => ?_))
  exact x R a k0 al O (S.kp k) fun i h'' tk' S' => y i R a k0 al O S' (K.at h'' tk')
theorem Ex.weak (h : ∀ y ∈ ρ', y ∈ ρ) (x : Ex prog w ht n sc ρ' body po) : Ex prog w ht n sc ρ body po := fun _ _ _ _ _ _ _ _ _ R a k0 al O S K =>
  x R a k0 al O ⟨{ S.st with vars := fun y m => S.st.vars y (h y m) }, S.base, S.fb, fun z b m => S.ow z b (h _ m)⟩ K
theorem Ex.up {m : Nat} (x : Ex prog w ht n sc ρ body po) (h : n ≤ m) : Ex prog w ht m sc ρ body po := fun _ _ _ _ _ _ _ _ _ R => x (R.le h)
theorem Ex.ret (h : Ev prog w ht n sc ρ e r) : Ex prog w ht n sc ρ (.Return (some e) pos :: rest) (.ret r) := @fun A env hb B X₀ X s Q E R a k0 al O S K => by
  obtain ⟨hB, K⟩ := K
  subst hB
  refine wpAny_execs_cons (wpAny_Return_some (h R a S.st fun v h' tk k z => ?_))
  exact K v h' tk (kp_nil (S.base.trans (k.kpx _))) (r.sub (r.an z (kp_nil S.base)) O.sub)
theorem Ex.if_r {t : Expr} {b o : List Stmt} (h : Tst prog w ht n sc ρ t true) (x : Ex prog w ht n sc ρ b (.ret r)) : Ex prog w ht n sc ρ (.If t b o pos :: rest) (.ret r) := @fun A env hb B X₀ X s Q E R a k0 al O S K => by
  refine wpAny_execs_cons (wpAny_If (h R a S.st fun h' tk k => ?_))
  exact x R a k0 al O (S.kp k) ⟨K.1, fun v h'' tk' k' z => K.2 v h'' tk' k' z⟩
theorem Ex.if_n {t : Expr} {b o : List Stmt} (h : Tst prog w ht n sc ρ t true) (x : Ex prog w ht n sc ρ b (.next ρ₂)) (y : Ex prog w ht n sc ρ₂ rest po) : Ex prog w ht n sc ρ (.If t b o pos :: rest) po := @fun A env hb B X₀ X s Q E R a k0 al O S K => by
  refine wpAny_execs_cons (wpAny_If (h R a S.st fun h' tk k => ?_))
  exact x R a k0 al O (S.kp k) fun h'' tk' S' => y R a k0 al O S' (K.at h'' tk')
theorem Ex.else_r {t : Expr} {b o : List Stmt} (h : Tst prog w ht n sc ρ t false) (x : Ex prog w ht n sc ρ o (.ret r)) : Ex prog w ht n sc ρ (.If t b o pos :: rest) (.ret r) := @fun A env hb B X₀ X s Q E R a k0 al O S K => by
  refine wpAny_execs_cons (wpAny_If (h R a S.st fun h' tk k => ?_))
  exact x R a k0 al O (S.kp k) ⟨K.1, fun v h'' tk' k' z => K.2 v h'' tk' k' z⟩
theorem Ex.else_n {t : Expr} {b o : List Stmt} (h : Tst prog w ht n sc ρ t false) (x : Ex prog w ht n sc ρ o (.next ρ₂)) (y : Ex prog w ht n sc ρ₂ rest po) : Ex prog w ht n sc ρ (.If t b o pos :: rest) po := @fun A env hb B X₀ X s Q E R a k0 al O S K => by
  refine wpAny_execs_cons (wpAny_If (h R a S.st fun h' tk k => ?_))
  exact x R a k0 al O (S.kp k) fun h'' tk' S' => y R a k0 al O S' (K.at h'' tk')
theorem Ex.skip {t : Expr} {b : List Stmt} (h : Tst prog w ht n sc ρ t false) (y : Ex prog w ht n sc ρ rest po) : Ex prog w ht n sc ρ (.If t b [] pos :: rest) po :=
  Ex.else_n h (Ex.nil fun _ m => m) y

noncomputable def Stores (sc : Scope) (x : Str) : Prop := sc.names.lookup x = some .local ∨ sc.names.lookup x = some .cell
theorem Stores.at {env : Env} {hb : Heap} {X₀ X : List Addr} {x : Str} (h : Stores sc x) (a : env.scope = sc) (O : Ok hb X₀ X env) : env.scope.names.lookup x = some .local ∨ env.scope.names.lookup x = some .cell ∧ (env.cells.lookup x).isSome = true := by
  subst a
  exact h.elim .inl fun q => .inr ⟨q, O.cells _ q⟩
theorem Ex.assign {x : Str} {xp : Pos} {p : VP} (h : Ev prog w ht n sc ρ e p.kp) (hk : Stores sc x) (hρ : Upd x (.vp p) ρ ρ') (y : Ex prog w ht n sc ρ' rest po) (hs : ∀ env l, swapsWith e (some (.Name x xp)) l env = pure false := by intro _ _; rfl) :
    Ex prog w ht n sc ρ (.Assign [.Name x xp] e pos :: rest) po := @fun A env hb B X₀ X s Q E R a k0 al O S K => by
  refine wpAny_execs_cons (wpAny_Assign_Name (h R a S.st fun v h' tk k z => ?_) (hs _ _))
  exact wp_store (s := { s with heap := h', toks := tk }) (en := .vp p) (S.kp k) z (hk.at a O) hρ (fun _ q => by cases q) fun h'' tk' S' _ => y R a k0 al O S' (K.at h'' tk')
theorem Ex.assignI {x : Str} {xp : Pos} {d : PyData} (h : Ev prog w ht n sc ρ e (kim d)) (hk : Stores sc x) (hρ : Upd x (.vp (im d)) ρ ρ') (y : Ex prog w ht n sc ρ' rest po) (hs : ∀ env l, swapsWith e (some (.Name x xp)) l env = pure false := by intro _ _; rfl) :
    Ex prog w ht n sc ρ (.Assign [.Name x xp] e pos :: rest) po := Ex.assign (p := im d) h hk hρ y hs
theorem Ex.aug {x : Str} {xp : Pos} {i j : Int} (hm : (x, Ent.vp (im (.int i))) ∈ ρ) (h : Ev prog w ht n sc ρ e (kim (.int j))) (hk : Stores sc x) (hρ : Upd x (.vp (im (.int (i + j)))) ρ ρ') (y : Ex prog w ht n sc ρ' rest po)
    (hn : (x == ("__classdict__" : Str)) = false := by decide) : Ex prog w ht n sc ρ (.AugAssign (.Name x xp) .Add e pos :: rest) po := @fun A env hb B X₀ X s Q E R a k0 al O S K => by
  obtain ⟨v, h1, h2⟩ := S.st.vars _ hm
  refine wpAny_execs_cons (wpAny_AugAssign_Name (load_var S.st.ge.kind h1 (h R a S.st fun u h' tk k z => ?_) hn))
  cases h2
  cases z
  refine PyProof.Rows.iadd_int ?_
  exact wp_store (s := { s with heap := h', toks := tk + 1 }) (en := .vp (im (.int (i + j)))) (S.kp k) (.int _ _) (hk.at a O) hρ (fun _ q => by cases q) fun h'' tk' S' _ => y R a k0 al O S' (K.at h'' tk')

theorem Ex.own {x : Str} {xp : Pos} {ds : List PyData} {ρ' : Addr → Rho} (h : Ev prog w ht n sc ρ e (kfr ds)) (hk : Stores sc x) (hρ : ∀ a, Upd x (.own a ds) ρ (ρ' a)) (y : ∀ a, (∀ z p, (z, Ent.res p) ∈ ρ → a ∉ p.as) → Ex prog w ht n sc (ρ' a) rest (.ret r))
    (hs : ∀ env l, swapsWith e (some (.Name x xp)) l env = pure false := by intro _ _; rfl) : Ex prog w ht n sc ρ (.Assign [.Name x xp] e pos :: rest) (.ret r) := @fun A env hb B X₀ X s Q E R a k0 al O S K => by
  refine wpAny_execs_cons (wpAny_Assign_Name (h R a S.st fun v h' tk k z => ?_) (hs _ _))
  obtain ⟨D, vs, c, rfl, hf, g, rv⟩ := z
  obtain ⟨hB, K⟩ := K
  subst hB
  have S1 := S.kp k
  have nX : D ∉ X := fun m => by obtain ⟨o, q⟩ := S.st.xal D m; rw [hf] at q; cases q
  have S2 : Sf ht hb [] env (D :: X) ρ h' := by
    refine ⟨⟨S1.st.top, fun b m => ?_, S1.st.ge, fun b m => ?_, fun b m => .tail _ (S1.st.fx b m), S1.st.ns, S1.st.cl, fun q m => ?_⟩, S1.base, S1.fb, S1.ow⟩
    · rcases List.mem_cons.mp m with rfl | m
      · exact ⟨_, g⟩
      · exact S1.st.xal b m
    · rcases List.mem_cons.mp m with rfl | m
      · exact none_of_kp S.st.top hf
      · exact S1.st.xn b m
    · obtain ⟨u, q1, q2⟩ := S.st.vars q m
      refine ⟨u, VarIs.kp q1 k, ?_⟩
      have sub : ∀ b ∈ D :: X, b ∈ X ∨ s.heap.get? b = none := fun b m => by
        rcases List.mem_cons.mp m with rfl | m
        · exact .inr hf
        · exact .inl m
      cases hq : q.2 with
      | vp p => rw [hq] at q2; exact p.st q2 (k.kpx _) sub
      | res p =>
        rw [hq] at q2
        obtain ⟨w1, w2, w3⟩ := q2
        exact ⟨fun b m => ⟨(w1 b m).1, .tail _ (w1 b m).2⟩, w2, p.st w3 (k.kpx _) (fun b m o e => k _ _ e) sub fun b m => .tail _ (w1 b m).2⟩
  refine wp_store (s := { s with heap := h', toks := tk }) (en := .own D ds) S2 ⟨fun b m => by rw [List.mem_singleton.mp m]; exact ⟨fun m => nX (S1.st.fx _ m), .head _⟩, rfl, vs, c, g, rv⟩ (hk.at a O) (hρ D) (fun _ q => by cases q; exact fun b m => by rw [List.mem_singleton.mp m]; exact .inr (none_of_kp (kp_nil S.base) hf)) fun h'' tk' S' _ => y D ?_ R a k0 al ⟨fun b m => .tail _ (O.sub b m), fun b m => ?_, O.cells⟩ S' ⟨rfl, K⟩
  · intro z p m q
    obtain ⟨u, _, q2⟩ := S.st.vars _ m
    exact nX (q2.1 _ q).2
  · rcases List.mem_cons.mp m with rfl | m
    · exact .inr (none_of_kp (kp_nil S.base) hf)
    · exact O.new b m
end
noncomputable def NotRes (as : List Addr) : Ent → Prop
  | .vp _ => True
  | .res p => ∀ b ∈ p.as, b ∉ as
noncomputable def Upr (x : Str) (p : RP) (ρ ρ' : Rho) : Prop := All (fun y => y = (x, .res p) ∨ (y ∈ ρ ∧ NotRes p.as y.2)) ρ'
section
variable {prog : Program} {w : World} {ht hb : Heap} {B : List Addr} {A : Around} {env : Env} {X : List Addr} {ρ ρ' : Rho} {s : Shared} {E : Value → Shared → Prop} {sc : Scope}
theorem Sf.upr {h h' : Heap} {x : Str} {p p' : RP} (S : Sf ht hb B env X ρ h) (hm : (x, Ent.res p) ∈ ρ) (has : p'.as = p.as) (hr : p'.root = p.root) (hρ : Upr x p' ρ ρ') (k : KpX p.as h h') (al : ∀ b ∈ p.as, ∃ o, h'.get? b = some o) (r : p'.P X h') : Sf ht hb B env X ρ' h' := by
  obtain ⟨v, hv, q⟩ := S.st.vars _ hm
  obtain ⟨nf, rfl, q⟩ := q
  have kX : KpX X h h' := fun b o n e => k b o (fun m => n (nf b m).2) e
  have nl : ∀ b ∈ frameOf env, b ∉ p.as := fun b m q => (nf b q).1 m
  have hcell : ∀ y c, env.cells.lookup y = some c → c ∈ frameOf env := fun y c q => .tail _ (List.mem_map.mpr ⟨(y, c), mem_of_lookup q, rfl⟩)
  have var : ∀ y u, VarIs env h y u → VarIs env h' y u := fun y u q => by
    rcases q with ⟨p1, m, p2, p3⟩ | ⟨p1, c, p2, p3⟩
    · exact .inl ⟨p1, m, p2.at' fun o e => k _ _ (nl _ (.head _)) e, p3⟩
    · obtain ⟨o, e, p4⟩ := p3
      exact .inr ⟨p1, c, p2, o, k _ _ (nl _ (hcell _ _ p2)) e, p4⟩
  refine ⟨⟨fun b o e => k b o (fun q => ?_) (S.st.top b o e), fun b m => ?_, S.st.ge, S.st.xn, S.st.fx, ?_, fun y c q => ?_, fun y m => ?_⟩, fun b o n e => k b o (fun q => ?_) (S.base b o n e), S.fb, fun z p2 m => ?_⟩
  · rw [S.st.xn b (nf b q).2] at e; cases e
  · by_cases q : b ∈ p.as
    · exact al b q
    · obtain ⟨o, e⟩ := S.st.xal b m
      exact ⟨o, k b o q e⟩
  · obtain ⟨m, e⟩ := S.st.ns
    exact ⟨m, e.at' fun o e => k _ _ (nl _ (.head _)) e⟩
  · obtain ⟨u, o, e, p⟩ := S.st.cl y c q
    exact ⟨u, o, k _ _ (nl _ (hcell _ _ q)) e, p⟩
  · rcases All.mem hρ y m with rfl | ⟨h1, h2⟩
    · exact ⟨_, var _ _ hv, fun b m => nf b (has ▸ m), hr.symm, r⟩
    · obtain ⟨u, q1, q2⟩ := S.st.vars y h1
      refine ⟨u, var _ _ q1, ?_⟩
      cases hy : y.2 with
      | vp p => rw [hy] at q2; exact p.st q2 kX fun _ m => .inl m
      | res p2 =>
        rw [hy] at q2 h2
        obtain ⟨w1, w2, w3⟩ := q2
        exact ⟨w1, w2, p2.st w3 kX (fun b m o e => k b o (fun q => h2 b m (has ▸ q)) e) (fun _ m => .inl m) fun b m => (w1 b m).2⟩
  · rcases S.ow x p hm b q with z | z
    · exact n z
    · rw [z] at e; cases e
  · rcases All.mem hρ _ m with q | ⟨h1, _⟩
    · obtain ⟨rfl, q⟩ := Prod.mk.inj q
      cases q
      rw [has]
      exact S.ow _ _ hm
    · exact S.ow _ _ h1
theorem set_obj {h : Heap} {l : Addr} {vs : List Value} {c j : Nat} {v : Value} (g : h.get? l = some (lstO vs c)) : ∃ c', (h.update l (Obj.mapSeq (·.setIfInBounds j v))).get? l = some (lstO (vs.set j v) c') := by
  obtain ⟨n', hd'⟩ := Obj.data_mapSeq (o := lstO vs c) rfl (·.setIfInBounds j v)
  refine ⟨n', ?_⟩
  rw [Heap.get?_update_self _ g (Obj.isFreed_of_seq hd')]
  have e : Obj.mapSeq (·.setIfInBounds j v) (lstO vs c) = { cls := .type "list", dict := none, data := (Obj.mapSeq (·.setIfInBounds j v) (lstO vs c)).data, slots := #[] } := by simp [Obj.mapSeq]
  rw [e, hd']
  simp [lstO]
theorem setItem_pos {l : Addr} {vs : List Value} {c : Nat} {k : Int} {t : Tok} {v : Value} {Q : Unit → Shared → Prop} (g : s.heap.get? l = some (lstO vs c)) (h0 : 0 ≤ k) (hfit : k < 2 ^ 63) (hn : k < vs.length)
    (hQ : ∀ h' c', h'.get? l = some (lstO (vs.set k.toNat v) c') → KpX [l] s.heap h' → Q () { s with heap := h' }) :
    wpAny (model prog w) A (setItem (.ref l) (.int k t) v) Q E s := by
  have hl : s.heap.IsList l vs.toArray := ⟨_, g, rfl, _, rfl⟩
  unfold setItem
  try with_reducible refine wpAny_holding ?_
  first | refine wpAny_bind (wpAny_pure ?_) | skip
  refine wpAny_bind (wpAny_sequenceKey hl.typeIs (by decide) ?_)
  refine wpAny_bind (wpAny_callSpecial?_slot (name := Str.ofString "__setitem__") hl.typeIs slot_list_setitem
    (wpAny_call_entry slot_list_setitem hl.typeIs entry_list_setitem ?_ (args_list_setitem _ _ _)))
  show wpAny _ _ (Builtin.List.listSubscript? (.int k t) >>= _) _ _ s
  refine wpAny_bind (wpAny_listSubscript_int (fitsIndex_of h0 hfit) ?_)
  clear hfit
  obtain ⟨j, rfl⟩ := Int.eq_ofNat_of_zero_le h0
  have hj : j < vs.length := by (first | assumption | exact Nat.le_refl _ | exact Nat.add_le_add_left (by decide) _ | exact Nat.le_trans (by assumption) (by decide) | omega)
  have hx' : vs.toArray[j]? = some vs[j] := by simp [hj]
  show wpAny _ _ ((seqItemAt l j >>= fun r => pure (r.map (j, ·))) >>= _) _ _ s
  refine wpAny_bind (wpAny_bind (wpAny_seqItemAt g rfl (wpAny_pure ?_)))
  rw [hx']
  show wpAny _ _ (setSeqItemAt l j v >>= _) _ _ s
  refine wpAny_bind (wpAny_setSeqItemAt g rfl ?_)
  obtain ⟨c', e⟩ := set_obj (j := j) (v := v) g
  have ks : KpX [l] s.heap (s.heap.update l (Obj.mapSeq (·.setIfInBounds j v))) := fun b o n e => (Heap.get?_update_ne _ _ _ _ (fun q => n (List.mem_singleton.mpr q))).trans e
  first
    | exact wpAny_bind (wpAny_pure (wpAny_pure ⟨.none, rfl, wpAny_pure (hQ _ _ e ks)⟩))
    | exact wpAny_pure ⟨.none, rfl, wpAny_pure (hQ _ _ e ks)⟩
theorem setItem_neg {l : Addr} {vs : List Value} {c : Nat} {k : Int} {t : Tok} {v : Value} {Q : Unit → Shared → Prop} (g : s.heap.get? l = some (lstO vs c)) (h0 : k < 0) (h1 : -(vs.length : Int) ≤ k) (hfit : -(2 ^ 63) ≤ k)
    (hQ : ∀ h' c', h'.get? l = some (lstO (vs.set (k + vs.length).toNat v) c') → KpX [l] s.heap h' → Q () { s with heap := h' }) :
    wpAny (model prog w) A (setItem (.ref l) (.int k t) v) Q E s := by
  have hl : s.heap.IsList l vs.toArray := ⟨_, g, rfl, _, rfl⟩
  unfold setItem
  try with_reducible refine wpAny_holding ?_
  first | refine wpAny_bind (wpAny_pure ?_) | skip
  refine wpAny_bind (wpAny_sequenceKey hl.typeIs (by decide) ?_)
  refine wpAny_bind (wpAny_callSpecial?_slot (name := Str.ofString "__setitem__") hl.typeIs slot_list_setitem
    (wpAny_call_entry slot_list_setitem hl.typeIs entry_list_setitem ?_ (args_list_setitem _ _ _)))
  show wpAny _ _ (Builtin.List.listSubscript? (.int k t) >>= _) _ _ s
  refine wpAny_bind (wpAny_listSubscript_int (fitsIndex_neg h0 hfit) ?_)
  clear hfit
  have hidx := seqIndex_neg h0 (n := vs.length) h1
  obtain ⟨j, hj⟩ : ∃ j : Nat, (k + vs.length).toNat = j := ⟨_, rfl⟩
  have hjl : j < vs.length := by (first | assumption | exact Nat.le_refl _ | exact Nat.add_le_add_left (by decide) _ | exact Nat.le_trans (by assumption) (by decide) | omega)
  have hx' : vs.toArray[j]? = some vs[j] := by simp [hjl]
  rw [hj] at hidx hQ
  obtain ⟨i, rfl⟩ : ∃ i : Nat, k = Int.negSucc i := by
    cases k with
    | ofNat n => exact absurd h0 (Int.not_lt.mpr (Int.ofNat_nonneg n))
    | negSucc n => exact ⟨n, rfl⟩
  show wpAny _ _ ((Builtin.List.listItems (.ref l) >>= fun xs => pure ((seqIndex? (Int.negSucc i) xs.size).bind fun i => xs[i]?.map (i, ·))) >>= _) _ _ s
  refine wpAny_bind (wpAny_bind ?_)
  show wpAny _ _ (seqItems? (.ref l) >>= _) _ _ s
  refine wpAny_bind (wpAny_seqItems g rfl (wpAny_pure (wpAny_pure ?_)))
  rw [show (vs.toArray).size = vs.length from rfl, hidx]
  simp only [Option.bind_some, hx', Option.map_some]
  show wpAny _ _ (setSeqItemAt l j v >>= _) _ _ s
  refine wpAny_bind (wpAny_setSeqItemAt g rfl ?_)
  obtain ⟨c', e⟩ := set_obj (j := j) (v := v) g
  have ks : KpX [l] s.heap (s.heap.update l (Obj.mapSeq (·.setIfInBounds j v))) := fun b o n e => (Heap.get?_update_ne _ _ _ _ (fun q => n (List.mem_singleton.mpr q))).trans e
  first
    | exact wpAny_bind (wpAny_pure (wpAny_pure ⟨.none, rfl, wpAny_pure (hQ _ _ e ks)⟩))
    | exact wpAny_pure ⟨.none, rfl, wpAny_pure (hQ _ _ e ks)⟩
theorem push_own {l : Addr} {vs : List Value} {c : Nat} {x : Value} {Q : Value → Shared → Prop} (g : s.heap.get? l = some (lstO vs c)) (hsz : vs.length ≤ 1000)
    (hQ : ∀ h' c', h'.get? l = some (lstO (vs ++ [x]) c') → KpX [l] s.heap h' → Q .none { s with heap := h' }) :
    wpAny (model prog w) A (call (.builtin "list.append") [.ref l, x]) Q E s :=
  wpAny_list_append_plain (items := vs.toArray) ⟨c, g⟩ (fun h' ⟨n, e⟩ hs => hQ h' n (by rw [e]; simp [lstO]) fun b o n e => (hs.2 b fun q => n (List.mem_singleton.mpr q)).trans e) (sizeLine_big hsz)
end

section
variable {prog : Program} {w : World} {ht : Heap} {n : Nat} {sc : Scope} {ρ ρ' ρ₂ : Rho} {p q r : KP} {e l f : Expr} {pos : Pos} {po : Post} {rest body : List Stmt}
theorem own_at {env : Env} {X : List Addr} {h : Heap} {x : Str} {a : Addr} {ds : List PyData} (S : St ht env X ρ h) (hm : (x, Ent.own a ds) ∈ ρ) : VarIs env h x (.ref a) ∧ ∃ vs c, h.get? a = some (lstO vs c) ∧ RvA h X vs ds := by
  obtain ⟨v, h1, _, rfl, vs, c, h4, h5⟩ := S.vars _ hm
  exact ⟨h1, vs, c, h4, h5⟩
theorem upr_own {hb h h' : Heap} {B X : List Addr} {env : Env} {x : Str} {a : Addr} {ds es : List PyData} {vs : List Value} {c : Nat} (S : Sf ht hb B env X ρ h) (hm : (x, Ent.own a ds) ∈ ρ) (hρ : Upr x (ownP a es) ρ ρ') (g : h'.get? a = some (lstO vs c)) (k : KpX [a] h h') (r : RvA h X vs es) : Sf ht hb B env X ρ' h' := by
  obtain ⟨v, _, nf, _, _⟩ := S.st.vars _ hm
  refine S.upr (p' := ownP a es) hm rfl rfl hρ k (fun b m => by rw [List.mem_singleton.mp m]; exact ⟨_, g⟩) ⟨vs, c, g, r.step (fun b o n e => k b o (fun m => n ?_) e) fun _ m => .inl m⟩
  exact (nf b m).2
theorem Ex.append {x : Str} {a : Addr} {ds : List PyData} {d : PyData} {xp apos cpos : Pos} (hm : (x, Ent.own a ds) ∈ ρ) (he : Ev prog w ht n sc ρ e (kim d)) (hρ : Upr x (ownP a (ds ++ [d])) ρ ρ') (hz : ds.length ≤ 1000) (y : Ex prog w ht n sc ρ' rest po)
    (hbase : ∀ env, attributeBase (.Name x xp) "append" env (eval (.Name x xp) env) = eval (.Name x xp) env := by intro _; rfl)
    (hfew : ∀ env, ((backTo cpos (starEach [e] env)).all (fun x => !x.1) && (backToKw cpos (keywordEach [] env)).all (fun x => x.1.isSome)
      && decide (([e] : List Expr).length + ([] : List Keyword).length + (if ([] : List Keyword).isEmpty then 0 else 1) < 30)) = true := by intro _; rfl)
    (hline : (apos.endLine == cpos.line) = true := by rfl)
    (htrees : ∀ env, backTo cpos (starEach [e] env) = [(false, eval e env)] := by intro _; rfl)
    (hi : ∀ env : Env, env.scope.kind = .function → interactive env = false := by intro _ h; unfold interactive; rw [h]; rfl) (hs : ∀ env, swapsWith (.Call (.Attribute (.Name x xp) "append" apos) [e] [] cpos) none pos.line env = pure false := by intro _; rfl)
    (hd : (x == ("__debug__" : Str)) = false := by decide) (hn : (x == ("__classdict__" : Str)) = false := by decide) :
    Ex prog w ht n sc ρ (.Expr (.Call (.Attribute (.Name x xp) "append" apos) [e] [] cpos) pos :: rest) po := @fun A env hb B X₀ X s Q E R ae k0 al O S K => by
  refine wpAny_execs_cons (wpAny_Expr_any ?_ (hi _ S.st.ge.kind) (hs _))
  obtain ⟨hv, vs, c, g, r⟩ := own_at S.st hm
  refine wpAny_Call_append (hbase _) (hfew _) hline (htrees _) (wpAny_Name (load_var S.st.ge.kind hv ⟨a, vs.toArray, rfl, ⟨_, c, g, rfl, rfl, rfl⟩, he R ae S.st fun u h' tk k z => ?_⟩ hn) hd)
  have r' := r.kp k
  refine push_own (k _ _ g) (by rw [r.len]; exact hz) fun h'' c' g' k' => ?_
  exact y R ae k0 al O (upr_own (S.kp k) hm hρ g' k' (r'.snoc z)) (K.at _ _)
theorem Ex.setitem {x : Str} {a : Addr} {ds : List PyData} {d : PyData} {k : Int} {ix : Expr} {xp spos : Pos} (hm : (x, Ent.own a ds) ∈ ρ) (he : Ev prog w ht n sc ρ e (kim d)) (hi : Ev prog w ht n sc ρ ix (kim (.int k))) (j : Nat) (hj : (0 ≤ k ∧ j = k.toNat) ∨ (k < 0 ∧ -(ds.length : Int) ≤ k ∧ j = (k + ds.length).toNat)) (hjl : j < ds.length) (hz : ds.length ≤ 1000)
    (hρ : Upr x (ownP a (ds.set j d)) ρ ρ') (y : Ex prog w ht n sc ρ' rest po) (hs : ∀ env l, swapsWith e (some (.Subscript (.Name x xp) ix spos)) l env = pure false := by intro _ _; rfl)
    (hd : (x == ("__debug__" : Str)) = false := by decide) (hn : (x == ("__classdict__" : Str)) = false := by decide) :
    Ex prog w ht n sc ρ (.Assign [.Subscript (.Name x xp) ix spos] e pos :: rest) po := @fun A env hb B X₀ X s Q E R ae k0 al O S K => by
  refine wpAny_execs_cons (wpAny_Assign_Subscript (he R ae S.st fun u h₁ t₁ k₁ z₁ => ?_) (hs _ _))
  obtain ⟨hv, vs, c, g, r⟩ := own_at (S.kp k₁).st hm
  refine wpAny_Name (load_var S.st.ge.kind hv ?_ hn) hd
  refine hi R ae (S.kp k₁).st fun v h₂ t₂ k₂ z₂ => ?_
  cases z₂
  have r' := r.kp k₂
  have len := r.len
  rcases hj with ⟨h0, rfl⟩ | ⟨h0, h1, rfl⟩
  · exact setItem_pos (k₂ _ _ g) h0 (by (first | assumption | exact Nat.le_refl _ | exact Nat.add_le_add_left (by decide) _ | exact Nat.le_trans (by assumption) (by decide) | omega)) (by (first | assumption | exact Nat.le_refl _ | exact Nat.add_le_add_left (by decide) _ | exact Nat.le_trans (by assumption) (by decide) | omega)) fun h₃ c' g' k' => y R ae k0 al O (upr_own ((S.kp k₁).kp k₂) hm hρ g' k' (r'.set _ (Rv.kp z₁ k₂))) (K.at _ _)
  · refine setItem_neg (k₂ _ _ g) h0 (by (first | assumption | exact Nat.le_refl _ | exact Nat.add_le_add_left (by decide) _ | exact Nat.le_trans (by assumption) (by decide) | omega)) (by (first | assumption | exact Nat.le_refl _ | exact Nat.add_le_add_left (by decide) _ | exact Nat.le_trans (by assumption) (by decide) | omega)) fun h₃ c' g' k' => ?_
    rw [len] at g'
    exact y R ae k0 al O (upr_own ((S.kp k₁).kp k₂) hm hρ g' k' (r'.set _ (Rv.kp z₁ k₂))) (K.at _ _)
end
noncomputable def upto (n : Nat) : List PyData := (List.range n).map fun (i : Nat) => PyData.int (i : Int)
theorem upto_len (n : Nat) : (upto n).length = n := by simp [upto]
theorem upto_get {n i : Nat} (h : i < n) : (upto n)[i]? = some (.int (i : Int)) := by simp [upto, h]
inductive Itb (h : Heap) (X : List Addr) : Value → List PyData → Prop
  | list {v : Value} {ds : List PyData} : Rv h X v (.list ds) → Itb h X v ds
  | tuple {v : Value} {ds : List PyData} : Rv h X v (.tuple ds) → Itb h X v ds
  | range {a : Addr} {t u v : Tok} (n : Nat) : a ∉ X → n ≤ 1000 → IsRange h a 0 n 1 t u v → Itb h X (.ref a) (upto n)
theorem Itb.step {h h' : Heap} {X X' : List Addr} {v : Value} {ds : List PyData} (x : Itb h X v ds) (k : KpX X h h') (hX : ∀ a ∈ X', a ∈ X ∨ h.get? a = none) : Itb h' X' v ds := by
  cases x with
  | list r => exact .list (r.step k hX)
  | tuple r => exact .tuple (r.step k hX)
  | range n ha hn e => exact .range n (fun m => (hX _ m).elim ha fun q => by have e : h.get? _ = some _ := e; rw [q] at e; cases e) hn (k _ _ ha e)
noncomputable def kit (ds : List PyData) : KP := ⟨fun X _ h v => Itb h X v ds, fun r k => r.step (k.kpx _) fun _ m => .inl m, fun r _ => r, fun r k => r.step ((Kp.refl _).kpx _) fun _ m => .inl (k _ m)⟩
theorem kim_kit_list (ds : List PyData) : (kim (.list ds)).le (kit ds) := fun _ r => .list r
theorem kim_kit_tuple (ds : List PyData) : (kim (.tuple ds)).le (kit ds) := fun _ r => .tuple r
theorem kfr_kit (ds : List PyData) : (kfr ds).le (kit ds) := fun al r => .list (kfr_kim ds al r)

noncomputable abbrev owners : List String := ["enumerate", "zip", "dict_itemiterator", "dict_reverseitemiterator", "odict_iterator", "itertools.zip_longest", "itertools.pairwise"]
noncomputable def Itr (prog : Program) (w : World) (A : Around) (X : List Addr) (h : Heap) (I : Addr) (ds : List PyData) : Prop :=
  ∃ fp P St, Walks prog w A I fp [I] ds.length P St ∧ St 0 h ∧ (∀ b ∈ fp, b ∉ X) ∧ (∀ b ∈ fp, ∃ o, h.get? b = some o) ∧ (∀ i h, St i h → ∃ o n vs, h.get? I = some o ∧ o.cls = .type n ∧ o.data = .fields vs ∧ owners.contains n = false) ∧
    ∀ i v h' X', i < ds.length → P i v → KpX (I :: X) h h' → (∀ a ∈ X', a ∈ I :: X ∨ h.get? a = none) → ∃ d, ds[i]? = some d ∧ Rv h' X' v d
section
variable {prog : Program} {w : World} {A : Around} {s : Shared} {E : Value → Shared → Prop}
theorem iter_of {X : List Addr} {v : Value} {ds : List PyData} {Q : Value → Shared → Prop} (hh : A.handled = none) (al : Alive X s.heap) (x : Itb s.heap X v ds)
    (K : ∀ h', Kp s.heap h' → (∀ o, s.heap.get? s.heap.objs.size = some o → False) → Itr prog w A X h' s.heap.objs.size ds → Q (.ref s.heap.objs.size) { s with heap := h' }) : wpAny (model prog w) A (pyIter v) Q E s := by
  have fr := fresh_size s.heap
  have nX : s.heap.objs.size ∉ X := fun m => by obtain ⟨o, e⟩ := al _ m; rw [fr] at e; cases e
  have nf : ∀ o, s.heap.get? s.heap.objs.size = some o → False := fun o e => by rw [fr] at e; cases e
  cases x with
  | list r =>
    cases r with
    | list ha g r =>
      rename_i a vs n
      have hl : s.heap.IsList a vs.toArray := ⟨_, g, rfl, _, rfl⟩
      have ne : a ≠ s.heap.objs.size := Nat.ne_of_lt (Heap.lt_size g)
      refine wpAny_pyIter_list hl (K _ (Kp.push _) nf ⟨_, _, _, by have := Walks.list (prog := prog) (w := w) hh s.heap.objs.size a ne vs.toArray; rw [show vs.toArray.size = ds.length from r.len] at this; exact this, ?_, ?_, ?_, ?_, ?_⟩)
      · exact ⟨⟨_, Heap.get?_push_size _ rfl, rfl, rfl⟩, _, Heap.get?_push_of_some _ g, rfl, _, rfl⟩
      · intro b m
        rcases List.mem_cons.mp m with rfl | m
        · exact nX
        · rw [List.mem_singleton.mp m]; exact ha
      · intro b m
        rcases List.mem_cons.mp m with rfl | m
        · exact ⟨_, Heap.get?_push_size _ rfl⟩
        · rw [List.mem_singleton.mp m]; exact ⟨_, Heap.get?_push_of_some _ g⟩
      · rintro i h ⟨⟨o, e1, e2, e3⟩, _⟩
        exact ⟨o, _, _, e1, e2, e3, by decide⟩
      · intro i v h' X' _ e k hX
        obtain ⟨d, q, z⟩ := r.at (k := i) (v := v) (by simpa using e)
        exact ⟨d, q, (z.step ((Kp.push _).kpx X) fun b m => (List.mem_cons.mp m).elim (fun q => .inr (q ▸ fr)) .inl).step k hX⟩
  | tuple r =>
    cases r with
    | tuple ha g r =>
      rename_i a vs n
      have hl : s.heap.IsTuple a vs.toArray := ⟨_, g, rfl, _, rfl⟩
      have ne : a ≠ s.heap.objs.size := Nat.ne_of_lt (Heap.lt_size g)
      refine wpAny_pyIter_tuple hl (K _ (Kp.push _) nf ⟨_, _, _, by have := Walks.tuple (prog := prog) (w := w) hh s.heap.objs.size a ne vs.toArray; rw [show vs.toArray.size = ds.length from r.len] at this; exact this, ?_, ?_, ?_, ?_, ?_⟩)
      · exact ⟨⟨_, Heap.get?_push_size _ rfl, rfl, rfl⟩, _, Heap.get?_push_of_some _ g, rfl, _, rfl⟩
      · intro b m
        rcases List.mem_cons.mp m with rfl | m
        · exact nX
        · rw [List.mem_singleton.mp m]; exact ha
      · intro b m
        rcases List.mem_cons.mp m with rfl | m
        · exact ⟨_, Heap.get?_push_size _ rfl⟩
        · rw [List.mem_singleton.mp m]; exact ⟨_, Heap.get?_push_of_some _ g⟩
      · rintro i h ⟨⟨o, e1, e2, e3⟩, _⟩
        exact ⟨o, _, _, e1, e2, e3, by decide⟩
      · intro i v h' X' _ e k hX
        obtain ⟨d, q, z⟩ := r.at (k := i) (v := v) (by simpa using e)
        exact ⟨d, q, (z.step ((Kp.push _).kpx X) fun b m => (List.mem_cons.mp m).elim (fun q => .inr (q ▸ fr)) .inl).step k hX⟩
  | range n ha hn e =>
    have hsz : Builtin.Range.rangeSize 0 (n : Int) 1 = (n : Int) := by rw [rangeSize_one]; split <;> (first | assumption | exact Nat.le_refl _ | exact Nat.add_le_add_left (by decide) _ | exact Nat.le_trans (by assumption) (by decide) | omega)
    have W := Walks.range (prog := prog) (w := w) hh s.heap.objs.size 0 1 n
    refine wpAny_pyIter_range e (small_one (by decide) (by decide) (by (first | assumption | exact Nat.le_refl _ | exact Nat.add_le_add_left (by decide) _ | exact Nat.le_trans (by assumption) (by decide) | omega)) (by (first | assumption | exact Nat.le_refl _ | exact Nat.add_le_add_left (by decide) _ | exact Nat.le_trans (by assumption) (by decide) | omega))) (K _ (Kp.push _) nf ⟨_, _, _, by rw [upto_len]; exact W, ?_, ?_, ?_, ?_, ?_⟩)
    · show IsRangeIter _ _ _ _ _
      rw [hsz]
      have := Heap.get?_push_size (h := s.heap) (o := { cls := .type "range_iterator", data := .fields #[rawInt 0, rawInt n, rawInt 1] }) rfl
      simpa [IsRangeIter] using this
    · intro b m; rw [List.mem_singleton.mp m]; exact nX
    · intro b m; rw [List.mem_singleton.mp m]; exact ⟨_, Heap.get?_push_size _ rfl⟩
    · intro i h e
      exact ⟨_, _, _, e, rfl, rfl, by decide⟩
    · rintro i v h' X' hi ⟨t, rfl⟩ k hX
      rw [upto_len] at hi
      exact ⟨_, upto_get hi, by rw [show (0 : Int) + (i : Int) * 1 = i by (first | assumption | exact Nat.le_refl _ | exact Nat.add_le_add_left (by decide) _ | exact Nat.le_trans (by assumption) (by decide) | omega)]; exact .int _ _⟩
end

noncomputable def As (prog : Program) (w : World) (ht : Heap) (sc : Scope) (ρ : Rho) (tgt : Expr) (d : PyData) (ρ' : Rho) : Prop :=
  ∀ ⦃A : Around⦄ ⦃env : Env⦄ ⦃hb : Heap⦄ ⦃B X₀ X : List Addr⦄ ⦃s : Shared⦄ ⦃v : Value⦄ ⦃Q : Unit → Shared → Prop⦄ ⦃E : Value → Shared → Prop⦄, A.handled = none → env.scope = sc → Ok hb X₀ X env → Sf ht hb B env X ρ s.heap → Rv s.heap X v d →
    (∀ h' tk, Sf ht hb B env X ρ' h' → KpX (frameOf env) s.heap h' → Q () { s with heap := h', toks := tk }) → wpAny (model prog w) A (assign tgt env v) Q E s
noncomputable def AsL (prog : Program) (w : World) (ht : Heap) (sc : Scope) (ρ : Rho) (tgts : List Expr) (ds : List PyData) (ρ' : Rho) : Prop :=
  ∀ ⦃A : Around⦄ ⦃env : Env⦄ ⦃hb : Heap⦄ ⦃B X₀ X : List Addr⦄ ⦃s : Shared⦄ ⦃vs : List Value⦄ ⦃Q : Unit → Shared → Prop⦄ ⦃E : Value → Shared → Prop⦄, A.handled = none → env.scope = sc → Ok hb X₀ X env → Sf ht hb B env X ρ s.heap → RvA s.heap X vs ds →
    (∀ h' tk, Sf ht hb B env X ρ' h' → KpX (frameOf env) s.heap h' → Q () { s with heap := h', toks := tk }) → wpAny (model prog w) A (assignInOrder ((assignEach tgts env).map (·.2)) vs) Q E s
section
variable {prog : Program} {w : World} {ht : Heap} {n : Nat} {sc : Scope} {ρ ρ' ρ₁ ρ₂ : Rho} {p q r : KP} {e l f : Expr} {pos : Pos} {po : Post} {rest body : List Stmt} {d : PyData} {ds : List PyData}
theorem As.name {x : Str} (hk : Stores sc x) (hρ : Upd x (.vp (im d)) ρ ρ') : As prog w ht sc ρ (.Name x pos) d ρ' := @fun A env hb B X₀ X s v Q E hh a O S r K =>
  PyProof.Rows.assign_Name (wp_store (en := .vp (im d)) S r (hk.at a O) hρ (fun _ q => by cases q) K)
theorem AsL.nil : AsL prog w ht sc ρ [] [] ρ := @fun A env hb B X₀ X s v Q E hh a O S r K => assignInOrder_nil (K _ _ S fun _ _ _ e => e)
theorem AsL.cons {t : Expr} {ts : List Expr} (h1 : As prog w ht sc ρ t d ρ₁) (h2 : AsL prog w ht sc ρ₁ ts ds ρ₂) (he : ∀ env, (assignEach (t :: ts) env).map (·.2) = assign t env :: (assignEach ts env).map (·.2) := by intro _; rfl) :
    AsL prog w ht sc ρ (t :: ts) (d :: ds) ρ₂ := @fun A env hb B X₀ X s vs Q E hh a O S r K => by
  cases r with
  | cons r1 r2 =>
    rw [he]
    refine assignInOrder_cons (h1 hh a O S r1 fun h' tk S' k => ?_)
    exact h2 hh a O S' (r2.step (fun b o n e => k b o (fun m => n (S.st.fx b m)) e) fun _ m => .inl m) fun h'' tk' S'' k' => K h'' tk' S'' (k.trans k')
theorem As.tuple {ts : List Expr} {k : Nat} (h : AsL prog w ht sc ρ ts ds ρ') (hn : ∀ env, (assignEach ts env).length = ds.length := by intro _; rfl) (hstar : ∀ env, (assignEach ts env).findIdx? (·.1) = none := by intro _; rfl) :
    As prog w ht sc ρ (.Tuple ts k pos) (.tuple ds) ρ' := @fun A env hb B X₀ X s v Q E hh a O S r K => by
  cases r with
  | tuple ha g r =>
    rename_i D vs c
    refine assign_Tuple_tuple (items := vs.toArray) hh ⟨_, g, rfl, _, rfl⟩ (by rw [hn]; exact r.len.symm) (hstar _) fun h' x => ?_
    have k : Kp s.heap h' := fun b o e => x b o (fun q => by rw [q, fresh_size] at e; cases e) e
    refine h hh a O (S.kp k) (r.kp k) fun h'' tk' S'' k' => K h'' tk' S'' ((k.kpx _).trans k')
theorem Ex.assignT {ts : List Expr} {k : Nat} {tpos : Pos} (he : Ev prog w ht n sc ρ e (kim d)) (h : As prog w ht sc ρ (.Tuple ts k tpos) d ρ') (y : Ex prog w ht n sc ρ' rest po)
    (hs : ∀ env l, swapsWithSole [.Tuple ts k tpos] e l env = pure false := by intro _ _; rfl) (hw : ∀ env : Env, env.scope = sc → swappedStores [.Tuple ts k tpos] e env = pure none := by intro _ _; rfl) :
    Ex prog w ht n sc ρ (.Assign [.Tuple ts k tpos] e pos :: rest) po := @fun A env hb B X₀ X s Q E R a k0 al O S K => by
  refine wpAny_execs_cons (Assign_Tuple (he R a S.st fun u h₁ t₁ k₁ z₁ => ?_) (hs _ _) (hw _ a))
  exact h R.1 a O (S.kp k₁) z₁ fun h' tk' S' _ => y R a k0 al O S' (K.at h' tk')
theorem Ex.assign2 {x1 x2 : Str} {p1 p2 : Pos} {k : Nat} {tpos : Pos} {d1 d2 : PyData} (he : Ev prog w ht n sc ρ e (kim (.tuple [d1, d2]))) (h1 : sc.names.lookup x1 = some .local) (h2 : sc.names.lookup x2 = some .local) (hρ : Upd x2 (.vp (im d2)) ρ ρ₁) (hρ' : Upd x1 (.vp (im d1)) ρ₁ ρ₂)
    (y : Ex prog w ht n sc ρ₂ rest po)
    (hs : ∀ env l, swapsWithSole [.Tuple [.Name x1 p1, .Name x2 p2] k tpos] e l env = pure false := by intro _ _; rfl)
    (hw : ∀ env : Env, env.scope = sc → env.scope.kind = .function → swappedStores [.Tuple [.Name x1 p1, .Name x2 p2] k tpos] e env = pure (some [x1, x2])) :
    Ex prog w ht n sc ρ (.Assign [.Tuple [.Name x1 p1, .Name x2 p2] k tpos] e pos :: rest) po := @fun A env hb B X₀ X s Q E R a k0 al O S K => by
  refine wpAny_execs_cons (Assign_Tuple_swapped (he R a S.st fun u h₁ t₁ k₁ z₁ => ?_) (hs _ _) (hw _ a S.st.ge.kind))
  have z : Rv h₁ X u (.tuple [d1, d2]) := z₁
  cases z with
  | tuple ha g r =>
    rename_i D vs c
    have hl := r.len
    refine unpackItems_tuple (items := vs.toArray) R.1 ⟨_, g, rfl, _, rfl⟩ ?_ |> fun z => by rw [show vs.toArray.size = [x1, x2].length from hl] at z; exact z
    intro h' x
    have k : Kp h₁ h' := fun b o e => x b o (fun q => by rw [q, fresh_size] at e; cases e) e
    have r' := r.kp k
    cases r with
    | cons ra rb =>
      cases rb with
      | cons rb rc =>
        cases rc
        cases r' with
        | cons ra rb =>
          cases rb with
          | cons rb rc =>
            refine assignInOrder_cons (bindName_ (wp_store (en := .vp (im d2)) ((S.kp k₁).kp k) rb (Stores.at (.inl h2) a O) hρ (fun _ q => by cases q) fun h'' tk S'' k'' => ?_))
            have kX : KpX X h' h'' := fun b o n e => k'' b o (fun m => n (S.st.fx b m)) e
            refine assignInOrder_cons (bindName_ (wp_store (en := .vp (im d1)) S'' (ra.step kX fun _ m => .inl m) (Stores.at (.inl h1) a O) hρ' (fun _ q => by cases q) fun h3 tk3 S3 _ => ?_))
            exact assignInOrder_nil (y R a k0 al O S3 (K.at h3 tk3))
end
noncomputable def changes (hb : Heap) (B X : List Addr) : List Addr := X.filter fun a => B.contains a || (hb.get? a).isNone
theorem mem_changes {hb : Heap} {B X : List Addr} {a : Addr} : a ∈ changes hb B X ↔ a ∈ X ∧ Fresh B hb a := by
  unfold changes
  rw [List.mem_filter, Bool.or_eq_true, List.contains_iff_mem, Option.isNone_iff_eq_none]
section
variable {prog : Program} {w : World} {ht : Heap} {n : Nat} {sc : Scope} {ρ ρ' ρ₁ ρ₂ : Rho} {p q r : KP} {e l f : Expr} {pos : Pos} {po : Post} {rest body : List Stmt} {d : PyData} {ds : List PyData}
theorem Sf.turn {hb h : Heap} {B X : List Addr} {env : Env} (S : Sf ht hb B env X ρ h) : Sf ht h (changes hb B X) env X ρ h :=
  ⟨S.st, fun _ _ _ e => e, fun a m => .inl (mem_changes.mpr ⟨S.st.fx a m, S.fb a m⟩), fun z p m a ma => .inl (mem_changes.mpr ⟨let ⟨_, _, q⟩ := S.st.vars _ m; (q.1 a ma).2, S.ow z p m a ma⟩)⟩
theorem Sf.back {hb h h' : Heap} {B X : List Addr} {env : Env} (S : Sf ht hb B env X ρ h) (S' : Sf ht h (changes hb B X) env X ρ' h') : Sf ht hb B env X ρ' h' := by
  have kk : KpX (changes hb B X) h h' := S'.base
  refine ⟨S'.st, fun b o nb e => kk b o (fun m => ?_) (S.base b o nb e), S.fb, fun z p m a ma => ?_⟩
  · rcases (mem_changes.mp m).2 with q | q
    · exact nb q
    · rw [q] at e; cases e
  · rcases S'.ow z p m a ma with q | q
    · exact (mem_changes.mp q).2
    · obtain ⟨o, e⟩ := S.st.xal a (let ⟨_, _, q⟩ := S'.st.vars _ m; (q.1 a ma).2)
      rw [e] at q; cases q
theorem Ok.turn {hb h : Heap} {B X₀ X : List Addr} {env : Env} (O : Ok hb X₀ X env) : Ok h X X env := ⟨fun _ m => m, fun _ m => .inl m, O.cells⟩
theorem Ex.for_ {tgt iter : Expr} {Inv : Nat → Rho} {ρin : Nat → PyData → Rho} (he : Ev prog w ht n sc ρ iter (kit ds)) (h0 : ∀ y ∈ Inv 0, y ∈ ρ) (hu : ∀ i d, ds[i]? = some d → As prog w ht sc (Inv i) tgt d (ρin i d))
    (turn : ∀ i d, ds[i]? = some d → Ex prog w ht n sc (ρin i d) body (.next (Inv (i + 1)))) (after : Ex prog w ht n sc (Inv ds.length) rest po)
    (hgo : (∀ it v, letOwnedTupleGo tgt it v = pure ()) ∨ (∃ es k p, tgt = .Tuple es k p) := by first | exact .inl (by intro _ _; rfl) | exact .inr ⟨_, _, _, rfl⟩)
    (hs : ∀ env x, foldedSetIterable iter env x = pure x := by intro _ _; rfl) :
    Ex prog w ht n sc ρ (.For tgt iter body [] pos :: rest) po := @fun A env hb B X₀ X s Q E R a k0 al O S K => by
  refine wpAny_execs_cons (wpAny_For (he R a S.st fun v h₁ t₁ k₁ z₁ => ?_) (hs _))
  refine iter_of (s := { s with heap := h₁, toks := t₁ }) R.1 (S.kp k₁).st.xal z₁ fun h₂ k₂ nf hI => ?_
  obtain ⟨fp, P, St, W, st0, hfX, hfa, hio, hP⟩ := hI
  have nI : h₁.objs.size ∉ X := hfX _ (W.sub _ (.head _))
  have dI := fresh_size h₁
  generalize h₁.objs.size = I at *
  have B_sub : ∀ a ∈ changes hb B X, a ∈ I :: X := fun a m => .tail _ (mem_changes.mp m).1
  have S₂ : Sf ht hb B env (I :: X) (Inv 0) h₂ := by
    have S' := S.kp k₁
    have sub : ∀ b ∈ I :: X, b ∈ X ∨ h₁.get? b = none := fun b m => (List.mem_cons.mp m).elim (fun q => .inr (q ▸ dI)) .inl
    refine ⟨⟨(S'.kp k₂).st.top, fun b m => ?_, S.st.ge, fun b m => ?_, fun b m => .tail _ (S.st.fx b m), (S'.kp k₂).st.ns, (S'.kp k₂).st.cl, fun y m => ?_⟩, (S'.kp k₂).base, S.fb, fun z b m => S'.ow z b (h0 _ m)⟩
    · rcases List.mem_cons.mp m with rfl | m
      · exact hfa _ (W.sub _ (.head _))
      · exact (S'.kp k₂).st.xal b m
    · rcases List.mem_cons.mp m with rfl | m
      · exact none_of_kp S'.st.top dI
      · exact S.st.xn b m
    · obtain ⟨u, q1, q2⟩ := S'.st.vars y (h0 y m)
      refine ⟨u, VarIs.kp q1 k₂, ?_⟩
      cases hq : y.2 with
      | vp p => rw [hq] at q2; exact p.st q2 (k₂.kpx _) sub
      | res p =>
        rw [hq] at q2
        obtain ⟨w1, w2, w3⟩ := q2
        exact ⟨fun b m => ⟨(w1 b m).1, .tail _ (w1 b m).2⟩, w2, p.st w3 (k₂.kpx _) (fun b m o e => k₂ _ _ e) sub fun b m => .tail _ (w1 b m).2⟩
  have own₂ : ∀ z p, (z, Ent.res p) ∈ Inv 0 → ∀ a ∈ p.as, a ∈ X := fun z p m a ma => let ⟨_, _, q⟩ := S.st.vars _ (h0 _ m); (q.1 a ma).2
  have hbI : ∀ o, hb.get? I = some o → I ∈ B := fun o e => by
    by_cases q : I ∈ B
    · exact q
    · have := (S.kp k₁).base _ _ q e
      rw [dI] at this; cases this
  refine codeAny_forLoop_any (fun k s' => ∃ i h' tk, s' = { s with heap := h', toks := tk } ∧ k = ds.length - i ∧ i ≤ ds.length ∧ St i h' ∧ Sf ht hb B env (I :: X) (Inv i) h' ∧ KpX (I :: X) h₂ h' ∧ ∀ z p, (z, Ent.res p) ∈ Inv i → ∀ a ∈ p.as, a ∈ X) ?_ ds.length ⟨0, h₂, _, rfl, rfl, Nat.zero_le _, st0, S₂, fun _ _ _ e => e, own₂⟩
  rintro k s' ⟨i, h', tk, rfl, rfl, hi, sti, Si, ki, oi⟩
  have off : ∀ {h₃ : Heap} (X' : List Addr), (∀ b ∈ X', b ∈ I :: X) → (∀ b ∈ X, b ∈ X') → KpX [I] h' h₃ → (∀ b ∈ X', b = I → ∃ o, h₃.get? b = some o) → Sf ht hb B env X' (Inv i) h₃ := fun {h₃} X' hs1 hs2 k₃ a₃ => by
    have nIf : ∀ b ∈ frameOf env, b ≠ I := fun b m q => nI (q ▸ S.st.fx b m)
    have ka : ∀ b, b ≠ I → ∀ o, h'.get? b = some o → h₃.get? b = some o := fun b nb o e => k₃ b o (fun q => nb (List.mem_singleton.mp q)) e
    have kX : KpX (I :: X) h' h₃ := fun b o n e => ka b (fun q => n (q ▸ .head _)) o e
    have var : ∀ y u, VarIs env h' y u → VarIs env h₃ y u := fun y u q => by
      rcases q with ⟨p1, m, p2, p3⟩ | ⟨p1, c, p2, o, p3, p4⟩
      · exact .inl ⟨p1, m, p2.at' fun o e => ka _ (nIf _ (.head _)) o e, p3⟩
      · exact .inr ⟨p1, c, p2, o, ka _ (nIf _ (.tail _ (List.mem_map.mpr ⟨(y, c), mem_of_lookup p2, rfl⟩))) o p3, p4⟩
    refine ⟨⟨fun b o e => ka b (fun q => ?_) o (Si.st.top b o e), fun b m => ?_, Si.st.ge, fun b m => Si.st.xn b (hs1 b m), fun b m => hs2 b (S.st.fx b m), ?_, fun y c q => ?_, fun y m => ?_⟩, fun b o n e => ka b (fun q => n (q ▸ hbI o (q ▸ e))) o (Si.base b o n e), Si.fb, Si.ow⟩
    · rw [q, Si.st.xn I (.head _)] at e; cases e
    · by_cases q : b = I
      · exact a₃ b m q
      · obtain ⟨o, e⟩ := Si.st.xal b (hs1 b m)
        exact ⟨o, ka b q o e⟩
    · obtain ⟨m, e⟩ := Si.st.ns
      exact ⟨m, e.at' fun o e => ka _ (nIf _ (.head _)) o e⟩
    · obtain ⟨u, o, e, p⟩ := Si.st.cl y c q
      exact ⟨u, o, ka _ (nIf _ (.tail _ (List.mem_map.mpr ⟨(y, c), mem_of_lookup q, rfl⟩))) o e, p⟩
    · obtain ⟨u, q1, q2⟩ := Si.st.vars y m
      refine ⟨u, var _ _ q1, ?_⟩
      cases hq : y.2 with
      | vp p => rw [hq] at q2; exact p.st q2 kX fun b m => .inl (hs1 b m)
      | res p =>
        rw [hq] at q2
        obtain ⟨w1, w2, w3⟩ := q2
        have inX : ∀ b ∈ p.as, b ∈ X := fun b m' => oi y.1 p (hq ▸ m) b m'
        exact ⟨fun b m' => ⟨(w1 b m').1, hs2 b (inX b m')⟩, w2, p.st w3 kX (fun b m' o e => ka b (fun q => nI (q ▸ inX b m')) o e) (fun b m => .inl (hs1 b m)) fun b m => hs2 b (inX b m)⟩
  by_cases hlt : i < ds.length
  · refine W.item i _ _ _ hlt sti fun v h₃ t₃ hv st₃ k₃ => ?_
    dsimp only
    have hkI : KpX [I] h' h₃ := k₃
    have a₃ : ∃ o, h₃.get? I = some o := by
      obtain ⟨o, _, _, e, _⟩ := hio _ _ st₃
      exact ⟨o, e⟩
    have S₃ := off (I :: X) (fun _ m => m) (fun _ m => .tail _ m) hkI fun b _ q => q ▸ a₃
    have kX₃ : KpX (I :: X) h₂ h₃ := fun b o n e => hkI b o (fun m => n (by rw [List.mem_singleton.mp m]; exact .head _)) (ki b o n e)
    obtain ⟨d, hd, rd⟩ := hP i v h₃ (I :: X) hlt hv kX₃ fun _ m => .inl m
    have go : wpAny (model prog w) A (letOwnedTupleGo tgt (.ref I) v) (fun _ s₁' => s₁' = { s with heap := h₃, toks := t₃ }) (notedBy (model prog w) A env fun e s' => cameBackBy (model prog w) A env E e s') { s with heap := h₃, toks := t₃ } := by
      rcases hgo with hg | ⟨es, kk, pp, rfl⟩
      · rw [hg]; exact wpAny_pure rfl
      · cases v with
        | ref T =>
          obtain ⟨o, cn, vs, e1, e2, e3, e4⟩ := hio _ _ st₃
          unfold letOwnedTupleGo
          refine wpAny_bind (wpAny_load e1 ?_)
          rw [e2, e3]
          show wpAny _ A (if (owners.contains cn && vs[0]? == some (rawInt T)) = true then _ else _) _ _ _
          rw [e4, Bool.false_and, if_neg (by decide)]
          exact wpAny_pure rfl
        | _ => exact wpAny_pure rfl
    refine wpAny_mono go (fun _ s₁' q => ?_) fun _ _ x => x
    subst q
    have T₃ : Sf ht h₃ (changes hb B X) env (I :: X) (Inv i) h₃ := ⟨S₃.st, fun _ _ _ e => e, fun a m => .inl (mem_changes.mpr ⟨S.st.fx a m, S.fb a m⟩), fun z p m a ma => .inl (mem_changes.mpr ⟨oi z p m a ma, Si.ow z p m a ma⟩)⟩
    have O₃ : Ok h₃ (I :: X) (I :: X) env := ⟨fun _ m => m, fun _ m => .inl m, O.cells⟩
    refine hu i d hd R.1 a O₃ T₃ rd fun h₄ t₄ T₄ _ => ?_
    refine turn i d hd R a S₃.st.top S₃.st.xal O₃ T₄ fun h₅ t₅ T₅ => ?_
    have kb : KpX (changes hb B X) h₃ h₅ := T₅.base
    have nB : ∀ b ∈ fp, b ∉ changes hb B X := fun b m q => hfX b m (mem_changes.mp q).1
    have own₅ : ∀ z p, (z, Ent.res p) ∈ Inv (i + 1) → ∀ a ∈ p.as, a ∈ changes hb B X := fun z p m a ma => by
      rcases T₅.ow z p m a ma with q | q
      · exact q
      · obtain ⟨o, e⟩ := S₃.st.xal a (let ⟨_, _, q⟩ := T₅.st.vars _ m; (q.1 a ma).2)
        rw [e] at q; cases q
    refine ⟨ds.length - (i + 1), by (first | assumption | exact Nat.le_refl _ | exact Nat.add_le_add_left (by decide) _ | exact Nat.le_trans (by assumption) (by decide) | omega), i + 1, h₅, t₅, rfl, rfl, hlt, W.frame _ _ _ st₃ fun b m o e => kb b o (nB b m) e, ⟨T₅.st, fun b o nb e => kb b o (fun m => ?_) (S₃.base b o nb e), S.fb, fun z p m a ma => (mem_changes.mp (own₅ z p m a ma)).2⟩, fun b o n e => kb b o (fun m => n (B_sub b m)) (kX₃ b o n e), fun z p m a ma => (mem_changes.mp (own₅ z p m a ma)).1⟩
    rcases (mem_changes.mp m).2 with q | q
    · exact nb q
    · rw [q] at e; cases e
  · obtain rfl : i = ds.length := by (first | assumption | exact Nat.le_refl _ | exact Nat.add_le_add_left (by decide) _ | exact Nat.le_trans (by assumption) (by decide) | omega)
    refine W.done _ _ _ sti fun h₃ t₃ k₃ => ?_
    dsimp only
    have S₄ := off X (fun _ m => .tail _ m) (fun _ m => m) k₃ fun b m q => absurd (q ▸ m) nI
    refine wpAny_execs_nil ?_
    exact after R a k0 al O S₄ (K.at h₃ t₃)
end
section
variable {ht hb : Heap} {B X X' L : List Addr} {env : Env} {ρ ρ' : Rho} {h h' : Heap}
theorem Ent.wide {v : Value} {e : Ent} (r : e.holds env X h v) (k : Kp h h') (hs : ∀ b ∈ X', b ∈ X ∨ h.get? b = none) (hi : ∀ b ∈ X, b ∈ X') : e.holds env X' h' v := by
  cases e with
  | vp p => exact p.st r (k.kpx _) hs
  | res p =>
    obtain ⟨w1, w2, w3⟩ := r
    exact ⟨fun b m => ⟨(w1 b m).1, hi _ (w1 b m).2⟩, w2, p.st w3 (k.kpx _) (fun b m o e => k _ _ e) hs fun b m => hi _ (w1 b m).2⟩
theorem Sf.less (S : Sf ht hb B env X ρ h) (i : ∀ y ∈ ρ', y ∈ ρ) : Sf ht hb B env X ρ' h := ⟨{ S.st with vars := fun y m => S.st.vars y (i y m) }, S.base, S.fb, fun z b m => S.ow z b (i _ m)⟩
theorem Sf.grow (S : Sf ht hb B env X ρ h) (k : Kp h h') (hs : ∀ b ∈ X', b ∈ X ∨ h.get? b = none) (hi : ∀ b ∈ X, b ∈ X') (ha : Alive X' h') : Sf ht hb B env X' ρ h' := by
  have S' := S.kp k
  refine ⟨⟨S'.st.top, ha, S.st.ge, fun b m => (hs b m).elim (S.st.xn b) (none_of_kp S.st.top), fun b m => hi _ (S.st.fx b m), S'.st.ns, S'.st.cl, fun y m => ?_⟩, S'.base, S.fb, S.ow⟩
  obtain ⟨u, q1, q2⟩ := S.st.vars y m
  exact ⟨u, VarIs.kp q1 k, Ent.wide q2 k hs hi⟩
theorem Sf.chg (S : Sf ht hb B env X' ρ h) (k : KpX L h h') (hL : ∀ a ∈ L, a ∈ X' ∧ (∀ o, hb.get? a = some o → a ∈ B) ∧ a ∉ frameOf env ∧ ∀ z p, (z, Ent.res p) ∈ ρ → a ∉ p.as)
    (hX : ∀ a ∈ X, a ∈ X') (ha : ∀ a ∈ X, a ∈ L → ∃ o, h'.get? a = some o) (hf : ∀ a ∈ frameOf env, a ∈ X) (hown : ∀ z p, (z, Ent.res p) ∈ ρ → ∀ a ∈ p.as, a ∈ X) : Sf ht hb B env X ρ h' := by
  have kX : KpX X' h h' := fun b o n e => k b o (fun m => n (hL b m).1) e
  have nl : ∀ b ∈ frameOf env, b ∉ L := fun b m q => (hL b q).2.2.1 m
  have hcell : ∀ y c, env.cells.lookup y = some c → c ∈ frameOf env := fun y c q => .tail _ (List.mem_map.mpr ⟨(y, c), mem_of_lookup q, rfl⟩)
  have var : ∀ y u, VarIs env h y u → VarIs env h' y u := fun y u q => by
    rcases q with ⟨p1, m, p2, p3⟩ | ⟨p1, c, p2, o, p3, p4⟩
    · exact .inl ⟨p1, m, p2.at' fun o e => k _ _ (nl _ (.head _)) e, p3⟩
    · exact .inr ⟨p1, c, p2, o, k _ _ (nl _ (hcell _ _ p2)) p3, p4⟩
  refine ⟨⟨fun b o e => k b o (fun q => ?_) (S.st.top b o e), fun b m => ?_, S.st.ge, fun b m => S.st.xn b (hX b m), hf, ?_, fun y c q => ?_, fun y m => ?_⟩, fun b o n e => k b o (fun q => n ((hL b q).2.1 o e)) (S.base b o n e), S.fb, S.ow⟩
  · rw [S.st.xn b (hL b q).1] at e; cases e
  · by_cases q : b ∈ L
    · exact ha b m q
    · obtain ⟨o, e⟩ := S.st.xal b (hX b m)
      exact ⟨o, k b o q e⟩
  · obtain ⟨m, e⟩ := S.st.ns
    exact ⟨m, e.at' fun o e => k _ _ (nl _ (.head _)) e⟩
  · obtain ⟨u, o, e, p⟩ := S.st.cl y c q
    exact ⟨u, o, k _ _ (nl _ (hcell _ _ q)) e, p⟩
  · obtain ⟨u, q1, q2⟩ := S.st.vars y m
    refine ⟨u, var _ _ q1, ?_⟩
    cases hq : y.2 with
    | vp p => rw [hq] at q2; exact p.st q2 kX fun b m => .inl (hX b m)
    | res p =>
      rw [hq] at q2
      obtain ⟨w1, w2, w3⟩ := q2
      have inX : ∀ b ∈ p.as, b ∈ X := fun b m' => hown y.1 p (hq ▸ m) b m'
      exact ⟨fun b m' => ⟨(w1 b m').1, inX b m'⟩, w2, p.st w3 kX (fun b m' o e => k b o (fun q => (hL b q).2.2.2 y.1 p (hq ▸ m) m') e) (fun b m => .inl (hX b m)) inX⟩
end

noncomputable def closeL (cells : List (Str × Addr)) : List (Str × NameKind) → List (Str × Addr) → List (Str × Addr)
  | [], acc => acc
  | (n, k) :: r, acc => closeL cells r (if k == .free then match cells.lookup n with | some c => (n, c) :: acc | none => acc else acc)
theorem closeFor_eq {scope : Scope} {env : Env} (h : ∀ y ∈ scope.names, y.2 = .free → (env.cells.lookup y.1).isSome = true) : closureFor scope env = pure (closeL env.cells scope.names []) := by
  simp only [closureFor]
  suffices ∀ (names : List (Str × NameKind)) (acc : List (Str × Addr)), (∀ y ∈ names, y.2 = .free → (env.cells.lookup y.1).isSome = true) →
      (forIn names acc fun x r => if (x.snd == NameKind.free) = true then do let __do_lift ← cellOf env x.fst; pure (ForInStep.yield ((x.fst, __do_lift) :: r)) else pure (ForInStep.yield r) : Sem _) = pure (closeL env.cells names acc) by
    have := this scope.names [] h
    exact congrArg (· >>= fun x => pure x) this
  intro names
  induction names with
  | nil => intro acc _; rfl
  | cons x r ih =>
    intro acc hh
    obtain ⟨nm, k⟩ := x
    rw [List.forIn_cons]
    unfold closeL
    have hr := fun acc => ih acc fun y m => hh y (.tail _ m)
    by_cases hk : (k == NameKind.free) = true
    · have hs := hh _ (.head _) (by simpa using hk)
      obtain ⟨c, hc⟩ := Option.isSome_iff_exists.mp hs
      dsimp only at hc ⊢
      rw [if_pos hk, if_pos hk, hc]
      unfold cellOf
      rw [hc]
      exact hr _
    · rw [if_neg hk, if_neg hk]
      exact hr _
theorem closeL_mem {cells : List (Str × Addr)} : ∀ {names : List (Str × NameKind)} {acc : List (Str × Addr)} {x : Str × Addr}, x ∈ closeL cells names acc → x ∈ acc ∨ cells.lookup x.1 = some x.2
  | [], acc, x, h => .inl h
  | (n, k) :: r, acc, x, h => by
    unfold closeL at h
    rcases closeL_mem h with q | q
    · split at q
      · split at q
        · rename_i c hc
          rcases List.mem_cons.mp q with rfl | q
          · exact .inr hc
          · exact .inl q
        · exact .inl q
      · exact .inl q
    · exact .inr q
theorem closeL_acc {cells : List (Str × Addr)} : ∀ {names : List (Str × NameKind)} {acc : List (Str × Addr)} {x : Str × Addr}, x ∈ acc → x ∈ closeL cells names acc
  | [], acc, x, h => h
  | (n, k) :: r, acc, x, h => by
    unfold closeL
    refine closeL_acc ?_
    split
    · split
      · exact .tail _ h
      · exact h
    · exact h
theorem closeL_in {cells : List (Str × Addr)} {n : Str} {c : Addr} (hc : cells.lookup n = some c) : ∀ {names : List (Str × NameKind)} {acc : List (Str × Addr)}, (n, NameKind.free) ∈ names → (n, c) ∈ closeL cells names acc
  | (m, k) :: r, acc, h => by
    unfold closeL
    rcases List.mem_cons.mp h with e | h
    · cases e
      refine closeL_acc ?_
      rw [if_pos (by rfl), hc]
      exact .head _
    · exact closeL_in hc h
theorem lookup_val {β : Type} {cs : List (Str × β)} {n : Str} {c : β} (hin : (n, c) ∈ cs) (hu : ∀ x ∈ cs, x.1 = n → x.2 = c) : cs.lookup n = some c := by
  induction cs with
  | nil => cases hin
  | cons x r ih =>
    obtain ⟨k, v⟩ := x
    rw [List.lookup_cons]
    by_cases q : n = k
    · subst q
      rw [beq_self_eq_true]
      exact congrArg some (hu _ (.head _) rfl)
    · rw [beq_eq_false_iff_ne.mpr q]
      rcases List.mem_cons.mp hin with e | hin
      · cases e; exact absurd rfl q
      · exact ih hin fun x m => hu x (.tail _ m)
theorem closeL_lookup {cells : List (Str × Addr)} {n : Str} {c : Addr} {names : List (Str × NameKind)} (hc : cells.lookup n = some c) (hm : (n, NameKind.free) ∈ names) : (closeL cells names []).lookup n = some c :=
  lookup_val (closeL_in hc hm) fun x m e => by
    rcases closeL_mem m with q | q
    · cases q
    · rw [e, hc] at q; cases q; rfl

noncomputable def relS (csc sc : Scope) : Scope := { csc with names := csc.names.map fun (n, k) => if (k == .free && sc.kind == .function && sc.names.lookup n == some .cell) then (n, .cell) else (n, k) }
theorem relS_eq (csc : Scope) (env : Env) : relabel csc env = relS csc env.scope := rfl
noncomputable def EvE (prog : Program) (w : World) (ht : Heap) (n : Nat) (sc : Scope) (ρ ρ' : Rho) (as : List Addr) (e : Expr) (R : PyData → Prop) : Prop :=
  ∀ ⦃A : Around⦄ ⦃env : Env⦄ ⦃hb : Heap⦄ ⦃B X : List Addr⦄ ⦃s : Shared⦄ ⦃Q : Value → Shared → Prop⦄ ⦃E : Value → Shared → Prop⦄, Room n A → env.scope = sc → Sf ht hb B env X ρ s.heap →
    (∀ d v h' tk, R d → Rv h' X v d → KpX as s.heap h' → Sf ht hb B env X ρ' h' → Q v { s with heap := h', toks := tk }) → wpAny (model prog w) A (eval e env) Q E s
noncomputable def TstL (prog : Program) (w : World) (ht : Heap) (n : Nat) (sc : Scope) (ρ : Rho) (ifs : List Expr) (b : Bool) : Prop :=
  ∀ ⦃A : Around⦄ ⦃env : Env⦄ ⦃X : List Addr⦄ ⦃s : Shared⦄ ⦃Q : Bool → Shared → Prop⦄ ⦃E : Value → Shared → Prop⦄, Room n A → env.scope = sc → St ht env X ρ s.heap → (∀ h' tk, Kp s.heap h' → Q b { s with heap := h', toks := tk }) →
    wpAny (model prog w) A (forIn ifs true fun c r => if r = true then do let ok ← isTrue c env (eval c env); pure (ForInStep.yield ok) else pure (ForInStep.yield r)) Q E s
inductive Got (sp : Nat → PyData → Option (PyData → Prop)) (ds : List PyData) : Nat → List PyData → Prop
  | zero : Got sp ds 0 []
  | skip {i : Nat} {d : PyData} {es : List PyData} : Got sp ds i es → ds[i]? = some d → sp i d = none → Got sp ds (i + 1) es
  | put {i : Nat} {d e : PyData} {es : List PyData} {R : PyData → Prop} : Got sp ds i es → ds[i]? = some d → sp i d = some R → R e → Got sp ds (i + 1) (es ++ [e])
theorem Got.len {sp : Nat → PyData → Option (PyData → Prop)} {ds : List PyData} {i : Nat} {es : List PyData} (g : Got sp ds i es) : es.length ≤ i := by
  induction g with
  | zero => exact Nat.le_refl _
  | skip _ _ _ ih => exact Nat.le_succ_of_le ih
  | put _ _ _ _ ih => rw [List.length_append]; exact Nat.succ_le_succ ih
section
variable {prog : Program} {w : World} {ht : Heap} {n : Nat} {sc csc : Scope} {ρ ρ' : Rho} {e : Expr}
theorem Ev.eve {d : PyData} (h : Ev prog w ht n sc ρ e (kim d)) : EvE prog w ht n sc ρ ρ [] e (fun x => x = d) := fun _ _ _ _ _ _ _ _ R a S K => h R a S.st fun v h' tk k z => K d v h' tk rfl z (k.kpx _) (S.kp k)
theorem TstL.nil : TstL prog w ht n sc ρ [] true := fun _ _ _ _ _ _ _ _ _ K => wpAny_tests_nil (K _ _ (Kp.refl _))
theorem TstL.one {b : Bool} (h : Tst prog w ht n sc ρ e b) : TstL prog w ht n sc ρ [e] b := fun _ _ _ _ _ _ R a S K => wpAny_tests_one (h R a S K)

theorem inner_of {hb h : Heap} {B X : List Addr} {env : Env} {C : Addr} {x : Str} {d : PyData} {v : Value} {m : Str → Option Value} (a : env.scope = sc) (S : Sf ht hb B env X ρ h) (hC : C ∈ X) (hCf : C ∉ frameOf env) (hCo : ∀ z p, (z, Ent.res p) ∈ ρ → C ∉ p.as) (hn : h.Ns C m) (hm : m x = some v) (hv : Rv h X v d)
    (hfree : ∀ y ∈ csc.names, y.2 = .free → sc.names.lookup y.1 = some .cell) (hcell : ∀ y ∈ csc.names, y.2 ≠ .cell) (hkind : csc.kind = .function) (hx : csc.names.lookup x = some .local)
    (hρ : All (fun y => y = (x, .vp (im d)) ∨ (y ∈ ρ ∧ (y.1, NameKind.free) ∈ csc.names ∧ (relS csc sc).names.lookup y.1 = some .cell)) ρ') :
    Sf ht h X (compEnvC csc (closeL env.cells csc.names []) C env) X ρ' h := by
  subst a
  have hin : ∀ z c, (closeL env.cells csc.names []).lookup z = some c → env.cells.lookup z = some c := fun z c q => (closeL_mem (mem_of_lookup q)).elim (fun q => nomatch q) id
  have hfr : ∀ z c, (closeL env.cells csc.names []).lookup z = some c → c ∈ frameOf env := fun z c q => .tail _ (List.mem_map.mpr ⟨(z, c), mem_of_lookup (hin z c q), rfl⟩)
  have hsub : ∀ b ∈ frameOf (compEnvC csc (closeL env.cells csc.names []) C env), b ∈ X := fun b m => by
    rcases List.mem_cons.mp m with rfl | m
    · exact hC
    · obtain ⟨y, hy, rfl⟩ := List.mem_map.mp m
      exact S.st.fx _ (.tail _ (List.mem_map.mpr ⟨y, mem_of_lookup ((closeL_mem hy).elim (fun q => nomatch q) id), rfl⟩))
  have kinds : ∀ (names : List (Str × NameKind)) (z : Str), (names.map fun (n, k) => if (k == .free && env.scope.kind == .function && env.scope.names.lookup n == some .cell) then (n, NameKind.cell) else (n, k)).lookup z = some .cell → (∀ y ∈ names, y.2 ≠ .cell) → (z, NameKind.free) ∈ names ∧ env.scope.names.lookup z = some .cell := by
    intro names
    induction names with
    | nil => intro z q _; cases q
    | cons y r ih =>
      intro z q hh
      obtain ⟨nm, k⟩ := y
      rw [List.map_cons] at q
      by_cases hc : (k == .free && env.scope.kind == .function && env.scope.names.lookup nm == some .cell) = true
      · dsimp only at q
        rw [if_pos hc, List.lookup_cons] at q
        by_cases hz : z = nm
        · subst hz
          simp only [Bool.and_eq_true, beq_iff_eq] at hc
          exact ⟨by rw [hc.1.1]; exact .head _, hc.2⟩
        · rw [beq_eq_false_iff_ne.mpr hz] at q
          have := ih z q fun y m => hh y (.tail _ m)
          exact ⟨.tail _ this.1, this.2⟩
      · dsimp only at q
        rw [if_neg hc, List.lookup_cons] at q
        by_cases hz : z = nm
        · subst hz
          rw [beq_self_eq_true] at q
          cases q
          exact absurd rfl (hh _ (.head _))
        · rw [beq_eq_false_iff_ne.mpr hz] at q
          have := ih z q fun y m => hh y (.tail _ m)
          exact ⟨.tail _ this.1, this.2⟩
  refine ⟨⟨S.st.top, S.st.xal, ⟨hkind, S.st.ge.gl, S.st.ge.bu, fun z c q (e : c = C) => hCf (e ▸ hfr z c q), fun z z' c q q' => S.st.ge.ap z z' c (hin z c q) (hin z' c q'), fun z q => ?_⟩, S.st.xn, hsub, ⟨m, hn⟩, fun z c q => S.st.cl z c (hin z c q), fun y hy => ?_⟩, fun _ _ _ e => e, fun b mb => .inl (hsub b mb), fun z p mz b mb => ?_⟩
  · obtain ⟨h1, h2⟩ := kinds csc.names z q hcell
    obtain ⟨c, hc⟩ := Option.isSome_iff_exists.mp (S.st.ge.cs z h2)
    exact Option.isSome_iff_exists.mpr ⟨c, closeL_lookup hc h1⟩
  · rcases All.mem hρ y hy with rfl | ⟨h1, h2, h3⟩
    · exact ⟨v, .inl ⟨lookup_relabel_local (env := env) hx, m, hn, hm⟩, hv⟩
    · obtain ⟨u, q1, q2⟩ := S.st.vars y h1
      obtain ⟨c, hc⟩ := Option.isSome_iff_exists.mp (S.st.ge.cs y.1 (hfree _ h2 rfl))
      refine ⟨u, .inr ⟨.inl h3, c, closeL_lookup hc h2, ?_⟩, ?_⟩
      · rcases q1 with ⟨p1, _⟩ | ⟨_, c', p2, p3⟩
        · have := hfree _ h2 rfl
          have p1 : env.scope.names.lookup y.1 = _ := p1
          rw [this] at p1; cases p1
        · rw [hc] at p2; cases p2; exact p3
      · cases hq : y.2 with
        | vp p => rw [hq] at q2; exact q2
        | res p =>
          rw [hq] at q2
          refine ⟨fun b mb => ⟨fun mf => ?_, (q2.1 b mb).2⟩, q2.2⟩
          rcases List.mem_cons.mp mf with rfl | mf
          · exact hCo y.1 p (hq ▸ h1) mb
          · obtain ⟨z, hz, rfl⟩ := List.mem_map.mp mf
            exact (q2.1 _ mb).1 (.tail _ (List.mem_map.mpr ⟨z, mem_of_lookup ((closeL_mem hz).elim (fun q => nomatch q) id), rfl⟩))
  · rcases All.mem hρ _ mz with q | ⟨h1, _⟩
    · cases q
    · obtain ⟨u, _, q2⟩ := S.st.vars _ h1
      exact .inl (q2.1 b mb).2
end
section
variable {prog : Program} {w : World} {ht : Heap} {n : Nat} {sc csc : Scope} {ρ : Nat → Rho} {e elt iter : Expr} {x : Str} {px pos fpos : Pos} {ifs : List Expr} {ds : List PyData} {as : List Addr} {sp : Nat → PyData → Option (PyData → Prop)} {ρin ρou : Nat → PyData → Rho}

structure CompOk (prog : Program) (w : World) (ht : Heap) (n : Nat) (sc csc : Scope) (ρ : Nat → Rho) (as : List Addr) (elt : Expr) (x : Str) (ifs : List Expr) (ds : List PyData) (ρin ρou : Nat → PyData → Rho) (sp : Nat → PyData → Option (PyData → Prop)) : Prop where
  free : ∀ y ∈ csc.names, y.2 = .free → sc.names.lookup y.1 = some .cell
  cell : ∀ y ∈ csc.names, y.2 ≠ .cell
  kind : csc.kind = .function
  names : ∀ y ∈ csc.names, y.2 = .local → csc.names.lookup y.1 = some .local
  hx : csc.names.lookup x = some .local
  inn : ∀ i d, All (fun y => y = (x, .vp (im d)) ∨ (y ∈ ρ i ∧ (y.1, NameKind.free) ∈ csc.names ∧ (relS csc sc).names.lookup y.1 = some .cell)) (ρin i d)
  next : ∀ i d, sp i d = none → ∀ y ∈ ρ (i + 1), y ∈ ρ i
  same : ∀ i z p, (z, Ent.res p) ∈ ρ i → ∃ z' p', (z', Ent.res p') ∈ ρ 0 ∧ p'.as = p.as
  turn : ∀ i d, ds[i]? = some d → match sp i d with
    | none => TstL prog w ht n (relS csc sc) (ρin i d) ifs false
    | some R => TstL prog w ht n (relS csc sc) (ρin i d) ifs true ∧ EvE prog w ht n (relS csc sc) (ρin i d) (ρou i d) as elt R
  asin : ∀ {env : Env} {hb h : Heap} {B X : List Addr}, Sf ht hb B env X (ρ 0) h → ∀ a ∈ as, a ∈ X ∧ Fresh B hb a ∧ a ∉ frameOf env
  back : ∀ i d {env cenv : Env} {hb hb₂ h h' : Heap} {B B₂ X : List Addr}, Sf ht hb B env X (ρ i) h → Sf ht hb₂ B₂ cenv X (ρou i d) h' → KpX as h h' → Sf ht hb B env X (ρ (i + 1)) h'
  size : ds.length ≤ 1000

theorem comp_core {A : Around} {env : Env} {hb : Heap} {B X : List Addr} {s : Shared} {Q : Value → Shared → Prop} {E : Value → Shared → Prop} {use : Option (Value → Sem Unit)} (C₀ : CompOk prog w ht n sc csc ρ as elt x ifs ds ρin ρou sp) (R : Room n A) (a : env.scope = sc)
    (S : Sf ht hb B env X (ρ 0) s.heap) (he : Ev prog w ht n sc (ρ 0) iter (kit ds)) (hs : ∀ x, foldedSetIterable iter env x = pure x)
    (K : ∀ D C X' h' tk es vs c, Got sp ds ds.length es → s.heap.get? D = none → s.heap.get? C = none → D ≠ C → C ∈ X' → (∀ a ∈ X, a ∈ X') → D ∉ X' → (∀ a ∈ X', a ∈ X ∨ s.heap.get? a = none) → Sf ht hb B env X' (ρ ds.length) h' → (∃ m, h'.Ns C m) → h'.get? D = some (lstO vs c) → RvA h' (D :: X') vs es → (∀ z p, (z, Ent.res p) ∈ ρ ds.length → ∀ a ∈ p.as, a ∈ X) → KpX as s.heap h' →
      match use with
      | none => ∀ h'', Heap.SameBut C h' h'' → Q (.ref D) { s with heap := h'', toks := tk }
      | some u => wpAny (model prog w) A (u (.ref D)) (fun _ s'' => ∃ m, s''.heap.Ns C m ∧ ∀ h', Heap.SameBut C s''.heap h' → Q .none { s'' with heap := h' }) E { s with heap := h', toks := tk }) :
    wpAny (model prog w) A (comprehension (.ListComp elt [⟨.Name x px, iter, ifs, 0⟩] csc pos) csc env fpos (newList []) false (eval iter env) use) Q E s := by
  have hclo : closureFor csc env = pure (closeL env.cells csc.names []) := closeFor_eq fun y m q => S.st.ge.cs y.1 (by rw [a]; exact C₀.free y m q)
  refine wpAny_comprehension_free rfl hs hclo C₀.kind C₀.names (he R a S.st fun v h₁ t₁ k₁ z₁ => ?_)
  refine iter_of (s := { s with heap := h₁, toks := t₁ }) R.1 (S.kp k₁).st.xal z₁ fun h₂ k₂ nf hI => ?_
  have dI := fresh_size h₁
  obtain ⟨fp, P, St, W, st0, hfX, hfa, hio, hP⟩ := hI
  have nI : h₁.objs.size ∉ X := hfX _ (W.sub _ (.head _))
  have aI : ∃ o, h₂.get? h₁.objs.size = some o := hfa _ (W.sub _ (.head _))
  dsimp only
  generalize h₁.objs.size = I at *
  refine wpAny_newObj_type (wpAny_newFunctionEnv C₀.cell (by intro y hy; simp at hy) (fun h₃ hns₃ hsb₃ => ?_) C₀.kind)
  dsimp only at hns₃ hsb₃ ⊢
  have dD := fresh_size h₂
  have hD : (h₂.push { cls := .type "list", dict := none, data := .seq ([] : List Value).toArray }).get? h₂.objs.size = some (lstO [] 0) := Heap.get?_push_size _ rfl
  have kD : Kp h₂ (h₂.push { cls := .type "list", dict := none, data := .seq ([] : List Value).toArray }) := Kp.push _
  generalize h₂.push { cls := .type "list", dict := none, data := .seq ([] : List Value).toArray } = H at *
  generalize h₂.objs.size = D at *
  have dC := fresh_size H
  have kC : Kp H h₃ := fun b o e => hsb₃.extBut b o (fun q => by rw [q, dC] at e; cases e) (Heap.get?_push_of_some _ e)
  generalize H.objs.size = C at *
  have k₃ : Kp h₁ h₃ := k₂.trans (kD.trans kC)
  have dC₂ : h₂.get? C = none := none_of_kp kD dC
  have dC₁ : h₁.get? C = none := none_of_kp k₂ dC₂
  have dD₁ : h₁.get? D = none := none_of_kp k₂ dD
  have nDC : D ≠ C := fun q => by rw [q, dC] at hD; cases hD
  have nIC : I ≠ C := fun q => by obtain ⟨o, e⟩ := aI; rw [q, dC₂] at e; cases e
  have nID : I ≠ D := fun q => by obtain ⟨o, e⟩ := aI; rw [q, dD] at e; cases e
  have S₁ := S.kp k₁
  have gone : ∀ b, h₁.get? b = none → b ∉ X := fun b q m => by obtain ⟨o, e⟩ := S₁.st.xal b m; rw [q] at e; cases e
  have gone' : ∀ b, h₁.get? b = none → ∀ o, hb.get? b = some o → b ∈ B := fun b q o e => by
    by_cases m : b ∈ B
    · exact m
    · have := S₁.base _ _ m e
      rw [q] at this; cases this
  obtain ⟨Xc, hXc⟩ : ∃ Xc, Xc = C :: D :: I :: X := ⟨_, rfl⟩
  have nC := gone C dC₁
  have nD := gone D dD₁
  have iXc : ∀ b ∈ X, b ∈ Xc := fun b m => hXc ▸ .tail _ (.tail _ (.tail _ m))
  have cXc : C ∈ Xc := hXc ▸ .head _
  have dXc : D ∈ Xc := hXc ▸ .tail _ (.head _)
  have jXc : I ∈ Xc := hXc ▸ .tail _ (.tail _ (.head _))
  have sXc : ∀ b ∈ Xc, b ∈ X ∨ h₁.get? b = none := fun b m => by
    rw [hXc] at m
    rcases List.mem_cons.mp m with rfl | m
    · exact .inr dC₁
    · rcases List.mem_cons.mp m with rfl | m
      · exact .inr dD₁
      · rcases List.mem_cons.mp m with rfl | m
        · exact .inr dI
        · exact .inl m
  have aXc : ∀ {h : Heap}, (∀ b ∈ X, ∃ o, h.get? b = some o) → (∃ o, h.get? C = some o) → (∃ o, h.get? D = some o) → (∃ o, h.get? I = some o) → Alive Xc h := fun {h} h1 h2 h3 h4 b m => by
    rw [hXc] at m
    rcases List.mem_cons.mp m with rfl | m
    · exact h2
    · rcases List.mem_cons.mp m with rfl | m
      · exact h3
      · rcases List.mem_cons.mp m with rfl | m
        · exact h4
        · exact h1 b m
  have aC₃ : ∃ o, h₃.get? C = some o := by obtain ⟨o, _, _, e, _⟩ := hns₃; exact ⟨o, e⟩
  have S₃ : Sf ht hb B env Xc (ρ 0) h₃ := Sf.grow S₁ k₃ sXc iXc (aXc (fun b m => let ⟨o, e⟩ := S₁.st.xal b m; ⟨o, k₃ _ _ e⟩) aC₃ ⟨_, kC _ _ hD⟩ (let ⟨o, e⟩ := aI; ⟨o, kC _ _ (kD _ _ e)⟩))
  have own₃ : ∀ i z p, (z, Ent.res p) ∈ ρ i → ∀ a ∈ p.as, a ∈ X := fun i z p m a ma => let ⟨z', p', m', e'⟩ := C₀.same i z p m; let ⟨_, _, q⟩ := S.st.vars _ m'; (q.1 a (e' ▸ ma)).2
  have nfr : ∀ b, h₁.get? b = none → b ∉ frameOf env := fun b q m => gone b q (S.st.fx b m)
  have nown : ∀ i b, h₁.get? b = none → ∀ z p, (z, Ent.res p) ∈ ρ i → b ∉ p.as := fun i b q z p m ma => gone b q (own₃ i z p m b ma)
  have off : ∀ {h h' : Heap} {i : Nat} (b : Addr), h₁.get? b = none → b ∈ Xc → Sf ht hb B env Xc (ρ i) h → KpX [b] h h' → (∃ o, h'.get? b = some o) → Sf ht hb B env Xc (ρ i) h' := fun {h h' i} b db mb S' k ab =>
    S'.chg (L := [b]) k (fun a m => by rw [List.mem_singleton.mp m]; exact ⟨mb, gone' b db, nfr b db, nown i b db⟩) (fun _ m => m) (fun a _ m => by rw [List.mem_singleton.mp m]; exact ab) (fun b m => iXc b (S.st.fx b m)) fun z p m a ma => iXc a (own₃ i z p m a ma)
  have nas : ∀ b, h₁.get? b = none → b ∉ as := fun b q m => gone b q (C₀.asin S b m).1
  have loop : ∀ tk₀, codeAny (model prog w) A (.compLoop (.ListComp elt [⟨.Name x px, iter, ifs, 0⟩] csc pos) 0 (.ref I) (.ref D) (compEnvC csc (closeL env.cells csc.names []) C env)) (compPost (model prog w) A E use Q (.ref D) C) { s with heap := h₃, toks := tk₀ } := fun tk₀ => by
    refine codeAny_compLoop_tests (fun k s' => ∃ i h' tk es vs c m, s' = { s with heap := h', toks := tk } ∧ k = ds.length - i ∧ i ≤ ds.length ∧ St i h' ∧ Sf ht hb B env Xc (ρ i) h' ∧ h'.Ns C m ∧ h'.get? D = some (lstO vs c) ∧ RvA h' Xc vs es ∧ Got sp ds i es ∧ KpX (C :: D :: I :: as) h₃ h' ∧ Alive Xc h') ?_ ds.length
      ⟨0, h₃, tk₀, [], [], 0, _, rfl, rfl, Nat.zero_le _, W.frame _ _ _ st0 fun b _ o e => kC _ _ (kD _ _ e), S₃, hns₃, kC _ _ hD, .nil, .zero, fun _ _ _ e => e, S₃.st.xal⟩
    rintro k s' ⟨i, h', tk, es, vs, c, m, rfl, rfl, hi, sti, Si, hns, hDi, rvi, got, ki, ali⟩
    by_cases hlt : i < ds.length
    · refine W.item i _ _ _ hlt sti fun v h₄ t₄ hv st₄ k₄ => ?_
      dsimp only
      have k₄ : KpX [I] h' h₄ := k₄
      have S₄ := off I dI jXc Si k₄ (by obtain ⟨o, _, _, e, _⟩ := hio _ _ st₄; exact ⟨o, e⟩)
      have hn₄ := hns.at' fun o e => k₄ _ o (fun q => nIC (List.mem_singleton.mp q).symm) e
      refine wpAny_assign_Name (wpAny_storeName_local (lookup_relabel_local (env := env) C₀.hx) hn₄ (fun h₅ hn₅ hs₅ => ?_) (by simp [compEnvC, relabel, C₀.kind]))
      have k₅ : KpX [C] h₄ h₅ := fun b o n e => hs₅.extBut b o (fun q => n (List.mem_singleton.mpr q)) e
      have S₅ := off C dC₁ cXc S₄ k₅ (by obtain ⟨o, _, _, e, _⟩ := hn₅; exact ⟨o, e⟩)
      have k3 : KpX (C :: D :: I :: as) h₃ h₅ := fun b o nb e => k₅ b o (fun q => nb (by rw [List.mem_singleton.mp q]; exact .head _)) (k₄ b o (fun q => nb (by rw [List.mem_singleton.mp q]; exact .tail _ (.tail _ (.head _)))) (ki b o nb e))
      have k2 : KpX (I :: X) h₂ h₅ := fun b o nb e => k3 b o (fun q => by
        rcases List.mem_cons.mp q with rfl | q
        · rw [dC₂] at e; cases e
        · rcases List.mem_cons.mp q with rfl | q
          · rw [dD] at e; cases e
          · rcases List.mem_cons.mp q with rfl | q
            · exact nb (.head _)
            · exact nb (.tail _ (C₀.asin S b q).1)) (kC _ _ (kD _ _ e))
      obtain ⟨d, hd, rd⟩ := hP i v h₅ Xc hlt hv k2 fun b m => by
        rw [hXc] at m
        rcases List.mem_cons.mp m with rfl | m
        · exact .inr dC₂
        · rcases List.mem_cons.mp m with rfl | m
          · exact .inr dD
          · exact .inl m
      have kin : ∀ {h' h'' : Heap} (b : Addr), b ∈ Xc → KpX [b] h' h'' → KpX Xc h' h'' := fun b mb k b' o n e => k b' o (fun q => n (by rw [List.mem_singleton.mp q]; exact mb)) e
      have rv₅ : RvA h₅ Xc vs es := (rvi.step (kin I jXc k₄) fun _ m => .inl m).step (kin C cXc k₅) fun _ m => .inl m
      have D₅ : h₅.get? D = some (lstO vs c) := k₅ _ _ (fun q => nDC (List.mem_singleton.mp q)) (k₄ _ _ (fun q => nID (List.mem_singleton.mp q).symm) hDi)
      have fpne : ∀ b ∈ fp, b ≠ C ∧ b ≠ D ∧ b ∉ X := fun b m => ⟨fun q => (by obtain ⟨o, e⟩ := hfa b m; rw [q, dC₂] at e; cases e), fun q => (by obtain ⟨o, e⟩ := hfa b m; rw [q, dD] at e; cases e), hfX b m⟩
      have st₅ : St (i + 1) h₅ := W.frame _ _ _ st₄ fun b m o e => k₅ b o (fun q => (fpne b m).1 (List.mem_singleton.mp q)) e
      have T := inner_of (ρ' := ρin i d) a S₅ cXc (nfr C dC₁) (nown i C dC₁) hn₅ (if_pos rfl) rd C₀.free C₀.cell C₀.kind C₀.hx (C₀.inn i d)
      have hsc : (compEnvC csc (closeL env.cells csc.names []) C env).scope = relS csc sc := by rw [← a]; rfl
      have turn := C₀.turn i d hd
      cases hsp : sp i d with
      | none =>
        rw [hsp] at turn
        refine turn R hsc T.st fun h₆ t₆ k₆ => ?_
        dsimp only
        rw [if_neg (by decide)]
        exact ⟨ds.length - (i + 1), by (first | assumption | exact Nat.le_refl _ | exact Nat.add_le_add_left (by decide) _ | exact Nat.le_trans (by assumption) (by decide) | omega), i + 1, h₆, t₆, es, vs, c, _, rfl, rfl, hlt, W.frame _ _ _ st₅ fun b _ o e => k₆ b o e, (S₅.kp k₆).less (C₀.next i d hsp), hn₅.keeps k₆, k₆ _ _ D₅, rv₅.kp k₆, got.skip hd hsp, k3.trans (k₆.kpx _), (S₅.kp k₆).st.xal⟩
      | some R' =>
        rw [hsp] at turn
        refine turn.1 R hsc T.st fun h₆ t₆ k₆ => ?_
        dsimp only
        rw [if_pos rfl]
        refine turn.2 R hsc (T.kp k₆) fun d' v' h₇ t₇ hR rv' k₇ T₇ => ?_
        dsimp only
        have asX : ∀ b ∈ as, b ∈ Xc := fun b m => iXc b (C₀.asin S b m).1
        have S₇ := C₀.back i d (S₅.kp k₆) T₇ k₇
        have D₇ : h₇.get? D = some (lstO vs c) := k₇ _ _ (nas D dD₁) (k₆ _ _ D₅)
        have kx₇ : KpX Xc h₆ h₇ := fun b o n e => k₇ b o (fun m => n (asX b m)) e
        have rv₇ : RvA h₇ Xc vs es := (rv₅.kp k₆).step kx₇ fun _ m => .inl m
        refine push_own D₇ (by have := rvi.len; have := got.len; have := C₀.size; (first | assumption | exact Nat.le_refl _ | exact Nat.add_le_add_left (by decide) _ | exact Nat.le_trans (by assumption) (by decide) | omega)) fun h₈ c' D₈ k₈ => ?_
        have S₈ := off D dD₁ dXc S₇ k₈ ⟨_, D₈⟩
        refine ⟨ds.length - (i + 1), by (first | assumption | exact Nat.le_refl _ | exact Nat.add_le_add_left (by decide) _ | exact Nat.le_trans (by assumption) (by decide) | omega), i + 1, h₈, _, es ++ [d'], vs ++ [v'], c', _, rfl, rfl, hlt, W.frame _ _ _ st₅ fun b m o e => k₈ b o (fun q => (fpne b m).2.1 (List.mem_singleton.mp q)) (k₇ b o (fun q => (fpne b m).2.2 (C₀.asin S b q).1) (k₆ b o e)), S₈, ((hn₅.keeps k₆).at' fun o e => k₇ _ o (nas C dC₁) e).at' fun o e => k₈ _ o (fun q => nDC (List.mem_singleton.mp q).symm) e, D₈, ?_, got.put hd hsp hR, ?_, S₈.st.xal⟩
        · exact (rv₇.snoc rv').step (kin D dXc k₈) fun _ m => .inl m
        · exact fun b o nb e => k₈ b o (fun q => nb (by rw [List.mem_singleton.mp q]; exact .tail _ (.head _))) (k₇ b o (fun q => nb (.tail _ (.tail _ (.tail _ q)))) (k₆ b o (k3 b o nb e)))
    · obtain rfl : i = ds.length := by (first | assumption | exact Nat.le_refl _ | exact Nat.add_le_add_left (by decide) _ | exact Nat.le_trans (by assumption) (by decide) | omega)
      refine W.done _ _ _ sti fun h₄ t₄ k₄ => ?_
      dsimp only
      have k₄ : KpX [I] h' h₄ := k₄
      have iX : ∀ b ∈ C :: X, b ∈ Xc := fun b m => (List.mem_cons.mp m).elim (fun q => q ▸ cXc) (iXc b)
      have S₄ : Sf ht hb B env (C :: X) (ρ ds.length) h₄ := Si.chg (L := [I]) k₄ (fun a m => by rw [List.mem_singleton.mp m]; exact ⟨jXc, gone' I dI, nfr I dI, nown _ I dI⟩) iX
        (fun a m q => by
          rw [List.mem_singleton.mp q] at m
          rcases List.mem_cons.mp m with q | m
          · exact absurd q nIC
          · exact absurd m nI) (fun b m => .tail _ (S.st.fx b m)) fun z p m a ma => .tail _ (own₃ _ z p m a ma)
      have D₄ : h₄.get? D = some (lstO vs c) := k₄ _ _ (fun q => nID (List.mem_singleton.mp q).symm) hDi
      have hn₄ := hns.at' fun o e => k₄ _ o (fun q => nIC (List.mem_singleton.mp q).symm) e
      have rv₄ : RvA h₄ (D :: C :: X) vs es := rvi.step (fun b o n e => k₄ b o (fun q => n (by rw [List.mem_singleton.mp q]; exact jXc)) e) fun b m => .inl ((List.mem_cons.mp m).elim (fun q => q ▸ dXc) (iX b))
      have kk : KpX as s.heap h₄ := fun b o nb e => by
        have e1 := k₁ _ _ e
        have ne : ∀ z, h₁.get? z = none → b ≠ z := fun z q r => by rw [r, q] at e1; cases e1
        refine k₄ b o (fun q => ne I dI (List.mem_singleton.mp q)) (ki b o (fun q => ?_) (k₃ _ _ e1))
        rcases List.mem_cons.mp q with q | q
        · exact ne C dC₁ q
        · rcases List.mem_cons.mp q with q | q
          · exact ne D dD₁ q
          · rcases List.mem_cons.mp q with q | q
            · exact ne I dI q
            · exact nb q
      have fin := K D C (C :: X) h₄ t₄ es vs c got (none_of_kp k₁ dD₁) (none_of_kp k₁ dC₁) nDC (.head _) (fun _ m => .tail _ m) (fun m => (List.mem_cons.mp m).elim nDC nD) (fun b m => (List.mem_cons.mp m).elim (fun q => .inr (q ▸ none_of_kp k₁ dC₁)) .inl) S₄ ⟨_, hn₄⟩ D₄ rv₄ (own₃ _) kk
      cases use with
      | none => exact ⟨_, hn₄, fin⟩
      | some u => exact fin
  exact codeAny_compStart_list (loop _) (W.self 0 _ _ _ (W.frame _ _ _ st0 fun b _ o e => kC _ _ (kD _ _ e)) (loop _))
end
noncomputable def EvN (prog : Program) (w : World) (ht : Heap) (n : Nat) (sc : Scope) (ρ ρ' : Rho) (as : List Addr) (e : Expr) (R : List PyData → Prop) : Prop :=
  ∀ ⦃A : Around⦄ ⦃env : Env⦄ ⦃hb : Heap⦄ ⦃B X : List Addr⦄ ⦃s : Shared⦄ ⦃Q : Value → Shared → Prop⦄ ⦃E : Value → Shared → Prop⦄, Room n A → env.scope = sc → Sf ht hb B env X ρ s.heap →
    (∀ ds v h' tk, R ds → (kfr ds).P X s.heap h' v → KpX as s.heap h' → Sf ht hb B env X ρ' h' → Q v { s with heap := h', toks := tk }) → wpAny (model prog w) A (eval e env) Q E s
section
variable {prog : Program} {w : World} {ht : Heap} {n : Nat} {sc csc : Scope} {ρ ρ' : Rho} {e elt iter : Expr} {x y : Str} {px py pos spos : Pos} {ifs : List Expr} {ds : List PyData} {as : List Addr} {sp : Nat → PyData → Option (PyData → Prop)} {ρin ρou : Nat → PyData → Rho} {σ : Nat → Rho} {rest : List Stmt} {po : Post} {p q r : KP}
theorem got_filter {t : PyData → Bool} {g : PyData → PyData} : ∀ {i : Nat} {es : List PyData}, Got (fun _ d => if t d then some (fun x => x = g d) else none) ds i es → es = ((ds.take i).filter t).map g := by
  intro i es h
  induction h with
  | zero => simp
  | skip _ hd hs ih =>
    rename_i j d es _
    have ht : t d = false := by
      cases q : t d with
      | false => rfl
      | true => rw [q] at hs; simp at hs
    rw [List.take_add_one, hd, List.filter_append, List.map_append, ← ih]
    simp [ht]
  | put _ hd hs hR ih =>
    rename_i j d e' es R' _
    have ht : t d = true := by
      cases q : t d with
      | true => rfl
      | false => rw [q] at hs; simp at hs
    rw [ht] at hs
    simp at hs
    subst hs
    rw [List.take_add_one, hd, List.filter_append, List.map_append, ← ih]
    simp [ht, hR]
theorem got_full {t : PyData → Bool} {g : PyData → PyData} {es : List PyData} (h : Got (fun _ d => if t d then some (fun x => x = g d) else none) ds ds.length es) : es = (ds.filter t).map g := by
  have := got_filter h
  rwa [List.take_length] at this
theorem EvN.comp (C₀ : CompOk prog w ht n sc csc σ as elt x ifs ds ρin ρou sp) (he : Ev prog w ht n sc (σ 0) iter (kit ds)) (hs : ∀ env x, foldedSetIterable iter env x = pure x := by intro _ _; rfl) :
    EvN prog w ht n sc (σ 0) (σ ds.length) as (.ListComp elt [⟨.Name x px, iter, ifs, 0⟩] csc pos) (fun es => Got sp ds ds.length es) := @fun A env hb B X s Q E R a S K => by
  rw [eval_ListComp]
  refine comp_core (use := none) C₀ R a S he (hs env) fun D C X' h' tk es vs c got dD dC nDC cX iX nD sX S' hn gD rv own kk h'' hs'' => ?_
  have kC : KpX [C] h' h'' := fun b o n e => hs''.extBut b o (fun q => n (List.mem_singleton.mpr q)) e
  have nC : C ∉ X := fun m => by obtain ⟨o, e⟩ := S.st.xal C m; rw [dC] at e; cases e
  have hbC : ∀ o, hb.get? C = some o → C ∈ B := fun o e => by
    by_cases m : C ∈ B
    · exact m
    · have := S.base _ _ m e
      rw [dC] at this; cases this
  refine K es _ h'' tk got ⟨D, vs, c, rfl, dD, kC _ _ (fun q => nDC (List.mem_singleton.mp q)) gD, rv.step (fun b o n e => kC b o (fun q => n (by rw [List.mem_singleton.mp q]; exact .tail _ cX)) e) fun b m => .inl ((List.mem_cons.mp m).elim (fun q => q ▸ .head _) fun m => .tail _ (iX b m))⟩
    (fun b o n e => kC b o (fun q => by rw [List.mem_singleton.mp q, dC] at e; cases e) (kk b o n e)) ?_
  exact S'.chg (L := [C]) kC (fun b m => by rw [List.mem_singleton.mp m]; exact ⟨cX, hbC, fun m => nC (S.st.fx C m), fun z p m ma => nC (own z p m C ma)⟩) iX (fun b m q => absurd (by rw [← List.mem_singleton.mp q]; exact m) nC) (fun b m => S.st.fx b m) own
theorem EvN.ev {es : List PyData} {R : List PyData → Prop} (h : EvN prog w ht n sc ρ ρ' [] e R) (hR : ∀ ds, R ds → ds = es) : Ev prog w ht n sc ρ e (kfr es) := @fun A env X s Q E R a S K => by
  have T : Sf ht s.heap X env X ρ s.heap := ⟨S, fun _ _ _ e => e, fun b m => .inl (S.fx b m), fun z p m b mb => .inl (let ⟨_, _, q⟩ := S.vars _ m; (q.1 b mb).2)⟩
  exact h R a T fun ds v h' tk hds z k S' => K v h' tk (kp_nil k) (hR ds hds ▸ z)
structure CompP (prog : Program) (w : World) (ht : Heap) (n : Nat) (sc csc : Scope) (ρ : Rho) (elt : Expr) (x : Str) (ifs : List Expr) (ds : List PyData) (ρin : PyData → Rho) (t : PyData → Bool) (g : PyData → PyData) : Prop where
  free : ∀ y ∈ csc.names, y.2 = .free → sc.names.lookup y.1 = some .cell
  cell : ∀ y ∈ csc.names, y.2 ≠ .cell
  kind : csc.kind = .function
  names : ∀ y ∈ csc.names, y.2 = .local → csc.names.lookup y.1 = some .local
  hx : csc.names.lookup x = some .local
  inn : ∀ d, All (fun y => y = (x, .vp (im d)) ∨ (y ∈ ρ ∧ (y.1, NameKind.free) ∈ csc.names ∧ (relS csc sc).names.lookup y.1 = some .cell)) (ρin d)
  test : ∀ d ∈ ds, TstL prog w ht n (relS csc sc) (ρin d) ifs (t d)
  elt : ∀ d ∈ ds, t d = true → Ev prog w ht n (relS csc sc) (ρin d) elt (kim (g d))
  size : ds.length ≤ 1000
theorem CompP.ok {ρin : PyData → Rho} {t : PyData → Bool} {g : PyData → PyData} (c : CompP prog w ht n sc csc ρ elt x ifs ds ρin t g) : CompOk prog w ht n sc csc (fun _ => ρ) [] elt x ifs ds (fun _ => ρin) (fun _ => ρin) (fun _ d => if t d then some (fun x => x = g d) else none) :=
  ⟨c.free, c.cell, c.kind, c.names, c.hx, fun _ => c.inn, fun _ _ _ _ m => m, fun _ z p m => ⟨z, p, m, rfl⟩, fun i d hd => by
    have m := List.mem_of_getElem? hd
    cases q : t d with
    | false =>
      have T : TstL prog w ht n (relS csc sc) (ρin d) ifs (t d) := c.test d m
      rw [q] at T
      simp only [Bool.false_eq_true, if_false]
      exact @T
    | true =>
      have T : TstL prog w ht n (relS csc sc) (ρin d) ifs (t d) := c.test d m
      rw [q] at T
      simp only [if_true]
      exact ⟨T, Ev.eve (c.elt d m q)⟩, fun _ a m => (by cases m), fun _ d _ _ _ _ _ _ _ _ _ S T k => Sf.kp S (kp_nil k), c.size⟩
theorem CompP.ev {ρin : PyData → Rho} {t : PyData → Bool} {g : PyData → PyData} (c : CompP prog w ht n sc csc ρ elt x ifs ds ρin t g) (he : Ev prog w ht n sc ρ iter (kit ds)) (hs : ∀ env x, foldedSetIterable iter env x = pure x := by intro _ _; rfl) :
    Ev prog w ht n sc ρ (.ListComp elt [⟨.Name x px, iter, ifs, 0⟩] csc pos) (kfr ((ds.filter t).map g)) := EvN.ev (R := fun es => Got (fun _ d => if t d then some (fun x => x = g d) else none) ds ds.length es) (EvN.comp (σ := fun _ => ρ) c.ok he hs) fun es h => got_full h

theorem Ex.assignN {R : List PyData → Prop} (h : ∀ es, R es → ∃ ρ', Upd y (.vp (im (.list es))) (σ ds.length) ρ' ∧ Ex prog w ht n sc ρ' rest po) (C₀ : CompOk prog w ht n sc csc σ as elt x ifs ds ρin ρou sp) (hR : ∀ es, Got sp ds ds.length es → R es) (he : Ev prog w ht n sc (σ 0) iter (kit ds)) (hk : Stores sc y)
    (hs : ∀ env x, foldedSetIterable iter env x = pure x := by intro _ _; rfl)
    (hsw : (∀ env : Env, env.scope = sc → swapsWith (.ListComp elt [⟨.Name x px, iter, ifs, 0⟩] csc pos) (some (.Name y py)) spos.line env = pure true) ∨ (∀ env : Env, env.scope = sc → swapsWith (.ListComp elt [⟨.Name x px, iter, ifs, 0⟩] csc pos) (some (.Name y py)) spos.line env = pure false)) :
    Ex prog w ht n sc (σ 0) (.Assign [.Name y py] (.ListComp elt [⟨.Name x px, iter, ifs, 0⟩] csc pos) spos :: rest) po := @fun A env hb B X₀ X s Q E Rm a k0 al O S K => by
  rcases hsw with hsw | hsw
  · refine wpAny_execs_cons ?_
    rw [exec_Assign_Name_used _ _ _ _ (hsw env a)]
    refine wpAny_bind (wpAny_standAt (wpAny_bind ?_))
    show wpAny _ A (do let _ ← comprehension (.ListComp elt [⟨.Name x px, iter, ifs, 0⟩] csc pos) csc env _ (newList []) false (eval iter env) (some (PySem.assign (.Name y py) env))) _ _ s
    refine wpAny_bind (comp_core (use := some (PySem.assign (.Name y py) env)) C₀ Rm a S he (hs env) fun D C X' h' tk es vs c got dD dC nDC cX iX nD sX S' hn gD rv own kk => ?_)
    obtain ⟨ρ', hρ, Y⟩ := h es (hR es got)
    have rvD : Rv h' X' (.ref D) (.list es) := .list nD gD (rv.sub fun b m => .tail _ m)
    have nC : C ∉ X := fun m => by obtain ⟨o, e⟩ := S.st.xal C m; rw [dC] at e; cases e
    have hbC : ∀ o, hb.get? C = some o → C ∈ B := fun o e => by
      by_cases m : C ∈ B
      · exact m
      · have := S.base _ _ m e
        rw [dC] at this; cases this
    refine PyProof.Rows.assign_Name (wp_store (en := .vp (im (.list es))) S' rvD (hk.at a O) hρ (fun _ q => by cases q) fun h₂ t₂ S₂ k₂ => ?_)
    obtain ⟨m, hm⟩ := hn
    have cf : C ∉ frameOf env := fun m => nC (S.st.fx C m)
    refine ⟨m, hm.at' fun o e => k₂ _ o cf e, fun h₃ hs₃ => ?_⟩
    have kC : KpX [C] h₂ h₃ := fun b o n e => hs₃.extBut b o (fun q => n (List.mem_singleton.mpr q)) e
    have own' : ∀ z p, (z, Ent.res p) ∈ ρ' → ∀ a ∈ p.as, a ∈ X := fun z p m => (All.mem hρ _ m).elim (fun q => by cases q) fun q => own z p q.1
    have S₃ : Sf ht hb B env X ρ' h₃ := S₂.chg (L := [C]) kC (fun b m => by rw [List.mem_singleton.mp m]; exact ⟨cX, hbC, cf, fun z p m ma => nC (own' z p m C ma)⟩) iX (fun b m q => absurd (by rw [← List.mem_singleton.mp q]; exact m) nC) (fun b m => S.st.fx b m) own'
    exact wpAny_pure (wpAny_pure (Y Rm a k0 al O S₃ (K.at h₃ t₂)))
  · refine wpAny_execs_cons (wpAny_Assign_Name ?_ (hsw env a))
    have H : EvN prog w ht n sc (σ 0) (σ ds.length) as (.ListComp elt [⟨.Name x px, iter, ifs, 0⟩] csc pos) _ := EvN.comp C₀ he hs
    refine H Rm a S fun es v h' tk got z k S' => ?_
    obtain ⟨ρ', hρ, Y⟩ := h es (hR es got)
    exact wp_store (s := { s with heap := h', toks := tk }) (en := .vp (im (.list es))) S' (kfr_kim es S.st.xal z) (hk.at a O) hρ (fun _ q => by cases q) fun h'' tk' S'' _ => Y Rm a k0 al O S'' (K.at h'' tk')
end
section
variable {prog : Program} {w : World} {ht : Heap} {n : Nat}
theorem fn_len (ds : List PyData) (hz : ds.length ≤ 1000) : Fn prog w ht n (.builtin "len") [ksl ds] (kim (.int (ds.length : Int))) := @fun A X h₀ s vs Q E R k0 hX al k1 z K => by
  cases z with
  | cons z1 z2 =>
    cases z2
    obtain ⟨a, vs, c, rfl, g, r⟩ := z1
    refine call_len_list (items := vs.toArray) ⟨_, g, rfl, _, rfl⟩ (by rw [List.size_toArray, r.len]; (first | assumption | exact Nat.le_refl _ | exact Nat.add_le_add_left (by decide) _ | exact Nat.le_trans (by assumption) (by decide) | omega)) ?_
    rw [List.size_toArray, r.len]
    exact K _ _ _ (Kp.refl _) (.int _ _)
theorem fn_range (k : Nat) (hz : k ≤ 1000) : Fn prog w ht n (.type "range") [kim (.int (k : Int))] (kit (upto k)) := @fun A X h₀ s vs Q E R k0 hX al k1 z K => by
  cases z with
  | cons z1 z2 =>
    cases z2
    have z1 : Rv _ _ _ _ := z1
    cases z1
    refine call_range_1 (K _ _ _ (Kp.push _) (.range k (fun m => ?_) hz (Heap.get?_push_size _ rfl)))
    obtain ⟨o, e⟩ := al.kp k1 _ m
    rw [fresh_size] at e; cases e
theorem rva_upto {h : Heap} {X : List Addr} {acc : Array Value} {k : Nat} (x : ItemsOf (fun i v => ∃ t, v = Value.int (0 + (i : Int) * 1) t) acc k) : RvA h X acc.toList (upto k) := by
  have key : ∀ (vs : List Value) (j : Nat), (∀ i v, vs[i]? = some v → ∃ t, v = Value.int ((j + i : Nat) : Int) t) → RvA h X vs ((List.range' j vs.length).map fun (i : Nat) => PyData.int (i : Int)) := by
    intro vs
    induction vs with
    | nil => intro j _; exact .nil
    | cons v r ih =>
      intro j hv
      rw [List.length_cons, List.range'_succ, List.map_cons]
      obtain ⟨t, rfl⟩ := hv 0 v rfl
      refine .cons (.int _ _) (ih (j + 1) fun i u e => ?_)
      obtain ⟨t, rfl⟩ := hv (i + 1) u (by simpa using e)
      exact ⟨t, by congr 2; (first | assumption | exact Nat.le_refl _ | exact Nat.add_le_add_left (by decide) _ | exact Nat.le_trans (by assumption) (by decide) | omega)⟩
  have e : acc.toList.length = k := by rw [Array.length_toList]; exact x.1
  have := key acc.toList 0 fun i v q => by
    obtain ⟨t, rfl⟩ := x.2 i v (by rw [← Array.getElem?_toList]; exact q)
    exact ⟨t, by congr 1; push_cast; (first | assumption | exact Nat.le_refl _ | exact Nat.add_le_add_left (by decide) _ | exact Nat.le_trans (by assumption) (by decide) | omega)⟩
  rw [e] at this
  simpa [upto, List.range_eq_range'] using this
theorem fn_list (ds : List PyData) (hz : ds.length ≤ 1000) : Fn prog w ht n (.type "list") [kit ds] (kfr ds) := @fun A X h₀ s vs Q E R k0 hX al k1 z K => by
  cases z with
  | cons z1 z2 =>
    cases z2
    have z1 : Itb _ _ _ _ := z1
    have alive := al.kp k1
    have fin : ∀ {vs : List Value} {h' : Heap} {c' : Nat}, RvA s.heap X vs ds → Kp s.heap h' → h'.get? s.heap.objs.size = some (lstO vs c') → (kfr ds).P X s.heap h' (.ref s.heap.objs.size) := fun {vs h' c'} r k g =>
      ⟨_, vs, c', rfl, fresh_size _, g, r.step (k.kpx _) fun b m => by
        rcases List.mem_cons.mp m with rfl | m
        · exact .inr (fresh_size _)
        · exact .inl m⟩
    cases z1 with
    | list r =>
      cases r with
      | list ha g r =>
        exact call_list_seq _ (.inl rfl) g rfl rfl (fun h' c' k e => K _ _ _ k (fin r k e)) (sizeLine_big (by rw [List.size_toArray, r.len]; exact hz))
    | tuple r =>
      cases r with
      | tuple ha g r =>
        exact call_list_seq _ (.inr rfl) g rfl rfl (fun h' c' k e => K _ _ _ k (fin r k e)) (sizeLine_big (by rw [List.size_toArray, r.len]; exact hz))
    | range k ha hk e =>
      have hsz : Builtin.Range.rangeSize 0 (k : Int) 1 = (k : Int) := by rw [rangeSize_one]; split <;> (first | assumption | exact Nat.le_refl _ | exact Nat.add_le_add_left (by decide) _ | exact Nat.le_trans (by assumption) (by decide) | omega)
      refine call_list_range R.1 e (small_one (by decide) (by decide) (by (first | assumption | exact Nat.le_refl _ | exact Nat.add_le_add_left (by decide) _ | exact Nat.le_trans (by assumption) (by decide) | omega)) (by (first | assumption | exact Nat.le_refl _ | exact Nat.add_le_add_left (by decide) _ | exact Nat.le_trans (by assumption) (by decide) | omega))) hsz (by (first | assumption | exact Nat.le_refl _ | exact Nat.add_le_add_left (by decide) _ | exact Nat.le_trans (by assumption) (by decide) | omega)) fun h' tk acc c' kk g it => K _ _ _ kk ⟨_, acc.toList, c', rfl, fresh_size _, g, rva_upto it⟩
theorem fn_tuple (ds : List PyData) : Fn prog w ht n (.type "tuple") [kim (.tuple ds)] (kim (.tuple ds)) := @fun A X h₀ s vs Q E R k0 hX al k1 z K => by
  cases z with
  | cons z1 z2 =>
    cases z2
    have z1 : Rv _ _ _ _ := z1
    cases z1 with
    | tuple ha g r => exact call_tuple_same (items := _) ⟨_, g, rfl, _, rfl⟩ (K _ _ _ (Kp.refl _) (.tuple ha g r))
theorem fn_int (i : Int) : Fn prog w ht n (.type "int") [kim (.int i)] (kim (.int i)) := @fun A X h₀ s vs Q E R k0 hX al k1 z K => by
  cases z with
  | cons z1 z2 =>
    cases z2
    have z1 : Rv _ _ _ _ := z1
    cases z1
    exact call_int_int (K _ _ _ (Kp.refl _) (.int _ _))
theorem fn_min (l : List Int) (m : Int) (hm : m ∈ l) (hle : ∀ x ∈ l, m ≤ x) : Fn prog w ht n (.builtin "min") [ksl (l.map PyData.int)] (kim (.int m)) := @fun A X h₀ s vs Q E R k0 hX al k1 z K => by
  cases z with
  | cons z1 z2 =>
    cases z2
    obtain ⟨a, vs, c, rfl, g, r⟩ := z1
    have hl : s.heap.IsList a vs.toArray := ⟨_, g, rfl, _, rfl⟩
    have ne : a ≠ s.heap.objs.size := Nat.ne_of_lt (Heap.lt_size g)
    have len : vs.length = l.length := by rw [r.len, List.length_map]
    have item : ∀ {i : Nat} {v : Value}, vs[i]? = some v → ∃ x t, l[i]? = some x ∧ v = .int x t := fun {i v} e => by
      obtain ⟨d, q, z⟩ := r.at e
      rw [List.getElem?_map] at q
      obtain ⟨x, hx, rfl⟩ := Option.map_eq_some_iff.mp q
      cases z
      exact ⟨x, _, hx, rfl⟩
    have hval : ∀ (i : Nat) (v : Value), vs.toArray[i]? = some v → ∃ t, v = .int ((l[i]?).getD 0) t := fun i v e => by
      obtain ⟨x, t, hx, rfl⟩ := item (by simpa using e)
      exact ⟨t, by rw [hx]; rfl⟩
    refine call_min_walk (wpAny_pyIter_list hl ⟨s.heap.objs.size, _, _, _, _, _, _, rfl, Walks.list (prog := prog) (w := w) (A := A.in1) R.1 s.heap.objs.size a ne vs.toArray, ⟨⟨_, Heap.get?_push_size _ rfl, rfl, rfl⟩, _, Heap.get?_push_of_some _ g, rfl, _, rfl⟩, fun b mb => ?_, ?_, CmpOf.ints_lt (fun i => (l[i]?).getD 0) hval, fun v h' tk hv hk => ?_⟩)
    · rw [Heap.size_push]
      rcases List.mem_cons.mp mb with rfl | mb
      · exact Nat.lt_succ_self _
      · rw [List.mem_singleton.mp mb]; exact Nat.lt_succ_of_lt (Heap.lt_size g)
    · rw [List.size_toArray, len]; exact List.length_pos_of_mem hm
    · have kk : Kp s.heap h' := fun b o e => hk b o (fun q => by rw [List.mem_singleton.mp q, fresh_size] at e; cases e) (Heap.get?_push_of_some _ e)
      obtain ⟨x, t, hx, rfl⟩ := item (by simpa using hv)
      have best := argBest_lt (fun i => (l[i]?).getD 0) (vs.toArray.size - 1)
      obtain ⟨j, hj⟩ := List.mem_iff_getElem?.mp hm
      have jl : j < l.length := (List.getElem?_eq_some_iff.mp hj).1
      have b2 := best.2 j (by rw [List.size_toArray, len]; (first | assumption | exact Nat.le_refl _ | exact Nat.add_le_add_left (by decide) _ | exact Nat.le_trans (by assumption) (by decide) | omega))
      have b2 : (l[argBest (fun i j => decide (l[i]?.getD 0 < l[j]?.getD 0)) (vs.toArray.size - 1)]?).getD 0 ≤ (l[j]?).getD 0 := b2
      have hx' : l[argBest (fun i j => decide (l[i]?.getD 0 < l[j]?.getD 0)) (vs.toArray.size - 1)]? = some x := hx
      rw [hx', hj, Option.getD_some, Option.getD_some] at b2
      have b3 := hle x (List.mem_of_getElem? hx)
      obtain rfl : x = m := by (first | assumption | exact Nat.le_refl _ | exact Nat.add_le_add_left (by decide) _ | exact Nat.le_trans (by assumption) (by decide) | omega)
      exact K _ _ _ kk (.int _ _)
end
noncomputable def AttrsAt (h : Heap) (X : List Addr) (a dx C : Addr) (l : List (Str × VP)) : Prop :=
  ∃ o m, h.get? a = some o ∧ o.cls = .ref C ∧ (∀ c, o.data ≠ .cls c) ∧ o.dict = some dx ∧ dx ≠ a ∧ h.Ns1 dx m ∧ (∀ e ∈ l, ∃ u, m e.1 = some u ∧ e.2.P X h u) ∧ Within m (l.map (·.1))
theorem AttrsAt.step {h h' : Heap} {X X' : List Addr} {a dx C : Addr} {l : List (Str × VP)} (x : AttrsAt h X a dx C l) (k : KpX X h h') (ka : ∀ o, h.get? a = some o → h'.get? a = some o) (kd : ∀ o, h.get? dx = some o → h'.get? dx = some o) (hX : ∀ a ∈ X', a ∈ X ∨ h.get? a = none) : AttrsAt h' X' a dx C l := by
  obtain ⟨o, m, h1, h2, h3, h4, h5, h6, h7, h8⟩ := x
  exact ⟨o, m, ka _ h1, h2, h3, h4, h5, h6.at kd, fun e me => let ⟨u, q, p⟩ := h7 e me; ⟨u, q, e.2.st p k hX⟩, h8⟩
theorem AttrsAt.inst {h : Heap} {X : List Addr} {a dx C : Addr} {l : List (Str × VP)} {m : Str → Option Value} {o : Obj} (h1 : h.get? a = some o) (h2 : o.cls = .ref C) (h3 : ∀ c, o.data ≠ .cls c) (h4 : o.dict = some dx) (h5 : dx ≠ a) (h6 : h.Ns1 dx m) : h.Inst a C m := ⟨o, h1, h2, h3, .inr ⟨dx, h4, h5, h6⟩⟩
theorem AttrsAt.al {h : Heap} {X : List Addr} {a dx C : Addr} {l : List (Str × VP)} (x : AttrsAt h X a dx C l) : h.get? a ≠ .none ∧ h.get? dx ≠ .none := by
  obtain ⟨o, m, h1, h2, h3, h4, h5, ⟨o', _, _, h6, _⟩, _⟩ := x
  rw [h1, h6]
  exact ⟨nofun, nofun⟩
noncomputable def objP (C : Addr) (l : List (Str × VP)) : VP := ⟨fun X h v => ∃ a dx, v = .ref a ∧ a ∉ X ∧ dx ∉ X ∧ AttrsAt h X a dx C l, fun {X X' h h' v} ⟨a, dx, e, na, nd, x⟩ k hX =>
  ⟨a, dx, e, fun m => (hX a m).elim na x.al.1, fun m => (hX dx m).elim nd x.al.2, x.step k (fun o e => k _ _ na e) (fun o e => k _ _ nd e) hX⟩⟩
noncomputable def Handed (p : VP) : Prop := ∀ {X : List Addr} {h : Heap} {v : Value}, p.P X h v → handedOut v = pure v
theorem handed_im (d : PyData) : Handed (im d) := fun {X h v} r => by
  have r : Rv h X v d := r
  cases r <;> rfl
theorem handed_ref (a : Addr) : Handed (isv (.ref a)) := fun {X h v} r => by
  have r : v = _ := r
  subst r; rfl
theorem handed_obj (C : Addr) (l : List (Str × VP)) : Handed (objP C l) := fun {X h v} r => by
  obtain ⟨a, dx, rfl, _⟩ := r; rfl

section
variable {prog : Program} {w : World} {ht : Heap} {n : Nat} {sc : Scope} {ρ : Rho} {p q r : KP} {e l f : Expr} {pos apos : Pos} {C N : Addr} {mN : Str → Option Value} {al : List (Str × VP)} {name : Str} {vp : VP}
theorem attr_get {A : Around} {s : Shared} {a dx : Addr} {X : List Addr} {expr : Bool} {Q : Value → Shared → Prop} {E : Value → Shared → Prop} (cl : ClsAt ht C N mN) (k : Kp ht s.heap) (x : AttrsAt s.heap X a dx C al) (hm : (name, vp) ∈ al) (hh : Handed vp) (hng : mN "__getattribute__" = none) (hna : mN name = none) (hB : typeLookup (.type "object") name = pure none)
    (K : ∀ u tk, vp.P X s.heap u → Q u { s with toks := tk }) : wpAny (model prog w) A (getAttr (.ref a) name expr) Q E s := by
  obtain ⟨h, g, d, t, os⟩ := s
  obtain ⟨o, m, h1, h2, h3, h4, h5, h6, h7, h8⟩ := x
  obtain ⟨u, hu, pu⟩ := h7 _ hm
  obtain ⟨nm, q, bs, sn, sub, col, dd, k0, k1, k2, k3, k5, hC⟩ := (cl.keeps k).obj
  exact load_attr hC (cl.keeps k).ns hng hna hB (AttrsAt.inst (l := al) (X := X) h1 h2 h3 h4 h5 h6) hu (hh pu) (K u _ pu)
theorem Ev.attr (hl : Ev prog w ht n sc ρ l (objP C al).kp) (cl : ClsAt ht C N mN) (hm : (name, vp) ∈ al) (hh : Handed vp) (hng : mN "__getattribute__" = Option.none) (hna : mN name = Option.none) (hB : typeLookup (.type "object") name = pure Option.none)
    (hbase : ∀ env, attributeBase l name env (eval l env) = eval l env := by intro _; rfl) (hgo : ∀ o r, letTemporaryGo l o r = pure () := by intro _ _; rfl) : Ev prog w ht n sc ρ (.Attribute l name pos) vp.kp := fun _ _ _ _ _ _ R a S K => by
  rw [arm_eval_Attribute, hbase]
  refine wpAny_bind (wpAny_mono (hl R a S (Q := fun v s' => wpAny _ _ _ _ _ s') fun v h₁ t₁ k₁ z₁ => ?_) (fun _ _ x => x) fun _ _ x => x)
  obtain ⟨b, dx, rfl, nb, nd, x⟩ := z₁
  refine wpAny_bind (wpAny_standAt (wpAny_bind (wpAny_holding (attr_get cl (S.top.trans k₁) x hm hh hng hna hB fun u tk pu => ?_))))
  rw [hgo]
  exact wpAny_bind (wpAny_pure (wpAny_pure (K u _ _ k₁ pu)))
theorem Ev.attrR {x : Str} {xp : Pos} {p : RP} {a dx : Addr} (hx : (x, Ent.res p) ∈ ρ) (hr : p.root = .ref a) (hp : ∀ {X : List Addr} {h : Heap}, p.P X h → AttrsAt h X a dx C al) (cl : ClsAt ht C N mN) (hm : (name, vp) ∈ al) (hh : Handed vp) (hng : mN "__getattribute__" = Option.none) (hna : mN name = Option.none) (hB : typeLookup (.type "object") name = pure Option.none)
    (hd : (x == ("__debug__" : Str)) = false := by decide) (hn : (x == ("__classdict__" : Str)) = false := by decide)
    (hbase : ∀ env, attributeBase (.Name x xp) name env (eval (.Name x xp) env) = eval (.Name x xp) env := by intro _; rfl) (hgo : ∀ o r, letTemporaryGo (.Name x xp) o r = pure () := by intro _ _; rfl) : Ev prog w ht n sc ρ (.Attribute (.Name x xp) name pos) vp.kp := fun _ _ _ _ _ _ R _ S K => by
  rw [arm_eval_Attribute, hbase]
  obtain ⟨v, h1, _, h2, h3⟩ := S.vars _ hx
  rw [h2, hr] at h1
  refine wpAny_bind (wpAny_Name (load_var S.ge.kind h1 ?_ hn) hd)
  refine wpAny_bind (wpAny_standAt (wpAny_bind (wpAny_holding (attr_get cl S.top (hp h3) hm hh hng hna hB fun u tk pu => ?_))))
  rw [hgo]
  exact wpAny_bind (wpAny_pure (wpAny_pure (K u _ _ (Kp.refl _) pu)))
theorem Ev.meth {es : List Expr} {fa : Addr} {o : Obj} {fd : FuncData} {y : Option Value} {ps : List KP} (hl : Ev prog w ht n sc ρ l (objP C al).kp) (cl : ClsAt ht C N mN) (hf : mN name = some (.ref fa)) (ho : ht.get? fa = some o) (hfc : o.cls = .type "function") (hdat : o.data = .func fd) (hng : mN "__getattribute__" = Option.none) (hnh : mN "__getattr__" = Option.none)
    (hsh : name ∉ al.map (·.1)) (hB : typeLookup (.type "object") name = pure y) (hs : EvS prog w ht n sc ρ (e :: es) ps) (hc : Fn prog w ht n (.ref fa) ((objP C al).kp :: ps) r)
    (he : ∀ env, starEach (e :: es) env = (false, eval e env) :: starEach es env := by intro _; rfl)
    (hev : ∀ env, ∃ pl, eval (.Call (.Attribute l name apos) (e :: es) [] pos) env = (do
      let ov ← eval l env
      standAt apos.atName
      let (f, first) ← holding [ov] (getMethod ov name pl)
      callWith pos f first (backTo pos (starEach (e :: es) env)) (backToKw pos (keywordEach [] env))) := by intro _; exact ⟨_, rfl⟩) :
    Ev prog w ht n sc ρ (.Call (.Attribute l name apos) (e :: es) [] pos) r := @fun A env X s Q E R a S K => by
  obtain ⟨pl, hev⟩ := hev env
  refine methodCall_KW ?_ hev
  refine hl R a S fun v h₁ t₁ k₁ z₁ => ?_
  have z₁' := z₁
  obtain ⟨b, dx, rfl, nb, nd, x⟩ := z₁'
  obtain ⟨o', m, h1, h2, h3, h4, h5, h6, h7, h8⟩ := x
  obtain ⟨nm, q, bs, sn, sub, col, dd, k0, k1, k2, k3, k5, hC⟩ := (cl.keeps (S.top.trans k₁)).obj
  have hsm : m name = Option.none := by
    cases q : m name with
    | none => rfl
    | some u => exact absurd (h8 name (by rw [q]; simp)) hsh
  refine method_of hC (cl.keeps (S.top.trans k₁)).ns hng hnh hf (S.top.trans k₁ _ _ ho) hfc hB (AttrsAt.inst (l := al) (X := X) h1 h2 h3 h4 h5 h6) hsm ?_
  have hs' : wpAny (model prog w) A (spliced (backTo pos (starEach (e :: es) env))) (fun vs s₁ => (∀ b o, ht.get? b = some o → s₁.heap.get? b = some o) ∧ wpAny (model prog w) A (PySem.call (.ref fa) ([.ref b] ++ vs)) Q E s₁) E { s with heap := h₁, toks := t₁ } :=
    hs R a (S.kp k₁) fun vs h₂ t₂ k₂ z₂ => ⟨(S.kp (k₁.trans k₂)).top, hc R (S.kp k₁).top S.xn (S.alive.kp k₁) k₂ (.cons ((objP C al).st z₁ (k₂.kpx _) fun _ m => .inl m) z₂) fun u h₃ t₃ k₃ z₃ => K u h₃ t₃ (k₁.trans (k₂.trans k₃)) (r.an z₃ (k₁.trans k₂))⟩
  exact callWith_meth hdat ho hs' (he _)
end
noncomputable def intL (l : List Int) : List PyData := l.map .int
noncomputable abbrev kd (prog : Program) (w : World) : HeapKind prog w (List Int) := tupleKind (intKind prog w)
theorem rva_ints {h : Heap} {X : List Addr} {prog : Program} {w : World} : ∀ {l : List Int} {vs : List Value}, RvA h X vs (intL l) → ItemsAre (intKind prog w) l vs
  | [], _, .nil => .nil
  | _ :: _, _, .cons a b => by
    cases a
    exact .cons (by first | exact decide_eq_true rfl | simp [intKind, Value.isInt]) (rva_ints b)
theorem rv_key {h : Heap} {X : List Addr} {prog : Program} {w : World} {v : Value} {k : List Int} (r : Rv h X v (.tuple (intL k))) : ∃ a, v = .ref a ∧ a ∉ X ∧ (kd prog w).is h k a := by
  cases r with
  | tuple ha g r => exact ⟨_, rfl, ha, _, _, _, g, rfl, rfl, by simpa using rva_ints r⟩
noncomputable def Dk (prog : Program) (w : World) (h : Heap) (X : List Addr) (d : Addr) (m : List Int → Option PyData) (c : Nat) : Prop :=
  ∃ xs : List (List Int × Addr × Value), h.DictOfH (kd prog w) d xs ∧ xs.length ≤ c ∧ (∀ x ∈ xs, x.2.1 ∉ X) ∧ (∀ k, (atKey xs k).isSome = (m k).isSome) ∧ ∀ k a v e, atKey xs k = some (a, v) → m k = some e → Rv h X v e
theorem Dk.step {prog : Program} {w : World} {h h' : Heap} {X X' : List Addr} {d : Addr} {m : List Int → Option PyData} {c : Nat} (x : Dk prog w h X d m c) (k : KpX X h h') (kd' : ∀ o, h.get? d = some o → h'.get? d = some o) (hX : ∀ a ∈ X', a ∈ X ∨ h.get? a = none) : Dk prog w h' X' d m c := by
  obtain ⟨xs, ⟨o, es, ep, h1, h2, h3, h4, h5, h6⟩, hl, hk, hs, hv⟩ := x
  refine ⟨xs, ⟨o, es, ep, kd' _ h1, h2, h3, h4, fun y my => ?_, h6⟩, hl, fun y my mx => (hX _ mx).elim (hk y my) fun q => ?_, hs, fun q a v e e1 e2 => (hv q a v e e1 e2).step k hX⟩
  · obtain ⟨o', its, n, g1, g2, g3, g4⟩ := h5 y my
    exact ⟨o', its, n, k _ _ (hk y my) g1, g2, g3, g4⟩
  · obtain ⟨o', its, n, g1, _⟩ := h5 y my
    rw [q] at g1; cases g1
theorem atKey_cons {k k' : List Int} {p : Addr × Value} {xs : List (List Int × Addr × Value)} : atKey ((k', p) :: xs) k = if k' = k then some p else atKey xs k := by
  unfold atKey
  rw [List.find?_cons]
  by_cases q : k' = k
  · simp [q]
  · simp [q]
theorem atKey_append {xs ys : List (List Int × Addr × Value)} {k : List Int} : atKey (xs ++ ys) k = (atKey xs k).or (atKey ys k) := by
  induction xs with
  | nil => simp [atKey]
  | cons x xs ih =>
    obtain ⟨k', p⟩ := x
    rw [List.cons_append, atKey_cons, atKey_cons, ih]
    split <;> simp
theorem atKey_put {xs : List (List Int × Addr × Value)} {k k' : List Int} {v : Value} : atKey (xs.map (putAt k v)) k' = if k' = k then (atKey xs k).map fun p => (p.1, v) else atKey xs k' := by
  induction xs with
  | nil => simp [atKey]
  | cons x xs ih =>
    obtain ⟨k₁, a, u⟩ := x
    rw [List.map_cons]
    by_cases q : k₁ = k
    · subst q
      rw [show putAt k₁ v (k₁, a, u) = (k₁, a, v) from by simp [putAt], atKey_cons, atKey_cons, atKey_cons, ih]
      by_cases q' : k' = k₁
      · subst q'; simp
      · have q'' : ¬ k₁ = k' := fun e => q' e.symm
        simp [q', q'']
    · rw [show putAt k v (k₁, a, u) = (k₁, a, u) from by simp [putAt, q], atKey_cons, atKey_cons, atKey_cons, ih]
      by_cases q' : k' = k
      · subst q'; simp [q]
      · simp [q']
theorem atKey_stored {xs : List (List Int × Addr × Value)} {k k' : List Int} {a : Addr} {v : Value} : ∃ b, atKey (storedH xs k a v) k' = if k' = k then some (b, v) else atKey xs k' := by
  cases q : atKey xs k with
  | none =>
    refine ⟨a, ?_⟩
    rw [storedH_new q, atKey_append, atKey_cons]
    by_cases q' : k' = k
    · subst q'; rw [q]; simp
    · rw [if_neg (fun e => q' e.symm), if_neg q']; simp [atKey]
  | some p =>
    refine ⟨p.1, ?_⟩
    rw [storedH_old q, atKey_put, q]
    rfl
theorem storedH_len {xs : List (List Int × Addr × Value)} {k : List Int} {a : Addr} {v : Value} : (storedH xs k a v).length ≤ xs.length + 1 := by
  unfold storedH
  split <;> simp
noncomputable def put {β : Type} (m : List Int → Option β) (k : List Int) (e : β) : List Int → Option β := fun k' => if k' = k then some e else m k'
section
variable {prog : Program} {w : World} {A : Around} {E : Value → Shared → Prop} {s : Shared} {d : Addr} {X : List Addr} {m : List Int → Option PyData} {c : Nat} {k : List Int} {v : Value} {n : Nat}
theorem dk_in (hd : (d == sysModules) = false) (x : Dk prog w s.heap X d m c) (hk : Rv s.heap X v (.tuple (intL k))) (R : Room n A) {Q : Value → Shared → Prop} (K : ∀ tk, Q (.bool (m k).isSome) { s with toks := tk }) : wpAny (model prog w) A (compareOp .In v (.ref d)) Q E s := by
  obtain ⟨a, rfl, _, hk⟩ := rv_key (prog := prog) (w := w) hk
  obtain ⟨xs, h1, _, _, h2, _⟩ := x
  refine wpAny_in_heap (knd := kd prog w) (by have := R.u; show A.units + 1 < cLine; (first | assumption | exact Nat.le_refl _ | exact Nat.add_le_add_left (by decide) _ | exact Nat.le_trans (by assumption) (by decide) | omega)) hk hd h1 ?_
  rw [h2 k]
  exact K _
theorem dk_get (x : Dk prog w s.heap X d m c) (hk : Rv s.heap X v (.tuple (intL k))) {e : PyData} (he : m k = some e) (R : Room n A) {Q : Value → Shared → Prop} (K : ∀ u tk, Rv s.heap X u e → Q u { s with toks := tk }) : wpAny (model prog w) A (getItem (.ref d) v) Q E s := by
  obtain ⟨a, rfl, _, hk⟩ := rv_key (prog := prog) (w := w) hk
  obtain ⟨xs, h1, _, _, h2, h3⟩ := x
  have q := h2 k
  rw [he, Option.isSome_some] at q
  obtain ⟨⟨b, u⟩, hp⟩ := Option.isSome_iff_exists.mp q
  exact wpAny_getItem_heap (knd := kd prog w) (by have := R.u; show A.units + 1 < cLine; (first | assumption | exact Nat.le_refl _ | exact Nat.add_le_add_left (by decide) _ | exact Nat.le_trans (by assumption) (by decide) | omega)) hk h1 hp (K u _ (h3 k b u e hp he))
theorem dk_set {u : Value} {e : PyData} (x : Dk prog w s.heap X d m c) (hd : d ∈ X) (hc : c ≤ 1000) (hk : Rv s.heap X v (.tuple (intL k))) (hu : Rv s.heap X u e) (R : Room n A) {Q : Unit → Shared → Prop} (K : ∀ h' tk, Dk prog w h' X d (put m k e) (c + 1) → KpX [d] s.heap h' → (∃ o, h'.get? d = some o) → Q () { s with heap := h', toks := tk }) : wpAny (model prog w) A (setItem (.ref d) v u) Q E s := by
  obtain ⟨a, rfl, na, hk'⟩ := rv_key (prog := prog) (w := w) hk
  obtain ⟨xs, h1, hl, h0, h2, h3⟩ := x
  refine wpAny_setItem_heap (knd := kd prog w) (by have := R.u; show A.units + 1 < cLine; (first | assumption | exact Nat.le_refl _ | exact Nat.add_le_add_left (by decide) _ | exact Nat.le_trans (by assumption) (by decide) | omega)) hk' h1 (fun h' hm hs => K h' _ ⟨storedH xs k a u, hm, Nat.le_trans storedH_len (Nat.succ_le_succ hl), fun y my => ?_, fun k' => ?_, fun k' b z e' e1 e2 => ?_⟩ (fun b o n e => (hs.2 b fun q => n (List.mem_singleton.mpr q)).trans e) ?_) (Nat.le_trans hl (sizeLine_big hc))
  · rcases mem_storedH my with ⟨y', my', _, q⟩ | ⟨_, q⟩
    · rw [q]; exact h0 y' my'
    · rw [q]; exact na
  · obtain ⟨b, q⟩ := atKey_stored (xs := xs) (k := k) (k' := k') (a := a) (v := u)
    rw [q]
    unfold put
    split
    · rfl
    · exact h2 k'
  · have kX : KpX X s.heap h' := fun b o n e => (hs.2 b fun q => n (q ▸ hd)).trans e
    obtain ⟨b', q⟩ := atKey_stored (xs := xs) (k := k) (k' := k') (a := a) (v := u)
    rw [q] at e1
    unfold put at e2
    split at e2
    · rename_i hkk
      rw [if_pos hkk] at e1
      cases e1; cases e2
      exact hu.step kX fun _ m => .inl m
    · rename_i hkk
      rw [if_neg hkk] at e1
      exact (h3 k' b z e' e1 e2).step kX fun _ m => .inl m
  · obtain ⟨o, _, _, g, _⟩ := hm
    exact ⟨o, g⟩
end
noncomputable def EntIn (B X : List Addr) (h : Heap) (v : Value) : Ent → Prop
  | .vp p => p.P X h v
  | .res p => (∀ b ∈ p.as, b ∈ X ∧ b ∈ B) ∧ v = p.root ∧ p.P X h
section
variable {prog : Program} {w : World} {ht : Heap} {n : Nat}
theorem call_frame {mg mb : Str → Option Value} {a : Addr} {o : Obj} {fd : FuncData} {body : List Stmt} {names : List Str} {ρ : Rho} {A : Around} {s : Shared} {X B : List Addr} {vs : List Value} {Q : Value → Shared → Prop} {E : Value → Shared → Prop}
    (T : TopF mg mb ht) (ho : ht.get? a = some o) (hd : o.data = .func fd) (hcd : ht.CodeRec fd.code fd.qualname)
    (hb : fd.body = .stmts body) (hbind : bindArgs fd ⟨vs, []⟩ = pure (names.zip vs)) (hl : vs.length = names.length) (hclo : fd.closure = [])
    (hkinds : All (fun x => fd.scope.names.lookup x = some .local ∨ fd.scope.names.lookup x = some .cell) names) (hnd : names.Nodup) (hgl : fd.globals = mainGlobals) (hbu : fd.builtins = builtinsNs)
    (hnc : ((cellsFrom 0 fd.scope.names []).map (·.1)).Nodup)
    (hco : fd.scope.isCoroutine = false) (hgen : fd.scope.isGenerator = false) (hk : fd.scope.kind = .function)
    (R : A.depth < recursionLimit) (kt : Kp ht s.heap) (hX : ∀ b ∈ X, ht.get? b = none) (al : Alive X s.heap)
    (hv : ∀ y ∈ ρ, ∃ v, (y.1, v) ∈ names.zip vs ∧ EntIn B X s.heap v y.2)
    (hbody : ∀ (env : Env) (h₁ : Heap) (tk : Nat) (E : Value → Shared → Prop), env.scope = fd.scope → Ok s.heap X (frameOf env ++ X) env → Sf ht s.heap B env (frameOf env ++ X) ρ h₁ →
      wpAny (model prog w) (A.deeper env) (execs body env) (fun fl s' => Q (match fl with | .ret v => v | _ => .none) s') E { s with heap := h₁, toks := tk }) :
    wpAny (model prog w) A (PySem.call (.ref a) vs) Q E s := by
  have hcells : ∀ x m, fd.scope.names.lookup x = some .cell → ((cellsFrom m fd.scope.names []).lookup x).isSome = true := fun x m q => cellsFrom_some _ _ _ (.inl q)
  refine wpAny_call (codeAny_call_cells R (kt _ _ ho) hd (T.nl.keeps kt) (hcd.keeps kt) hb hbind hclo (fun x hx => ?_) (fun s₁ I => ?_) hco hgen hk)
  · have hm : x.1 ∈ names := (List.of_mem_zip hx).1
    rcases All.mem hkinds _ hm with q | q
    · exact .inl q
    · exact .inr ⟨q, hcells _ _ q⟩
  generalize henv : callEnvC fd s.heap.objs.size a = env at I ⊢
  have hsc : env.scope = fd.scope := by rw [← henv]; rfl
  have hloc : env.locals = s.heap.objs.size := by rw [← henv]; rfl
  have hcs : env.cells = cellsFrom (s.heap.objs.size + 1) fd.scope.names [] := by rw [← henv]; rfl
  obtain ⟨h₁, tk, rfl⟩ := I.toInCall.same
  have hkeep : Kp s.heap h₁ := I.toInCall.keep
  have hfresh : ∀ c, s.heap.objs.size ≤ c → s.heap.get? c = none := fun c hc => by
    cases e : s.heap.get? c with
    | none => rfl
    | some o => exact absurd (Heap.lt_size e) (Nat.not_lt.mpr hc)
  have hfr : ∀ c ∈ frameOf env, s.heap.get? c = none := fun c hm => by
    rcases List.mem_cons.mp hm with rfl | hm
    · exact hfresh _ (by rw [hloc]; exact Nat.le_refl _)
    · obtain ⟨x, hx, rfl⟩ := List.mem_map.mp hm
      have := I.above x.1 x.2 hx
      exact hfresh _ (by rw [hloc] at this; exact Nat.le_of_lt this)
  have hsame : (env.cells.map (·.1)).Nodup := by
    rw [hcs]
    have e : ∀ (names : List (Str × NameKind)) (m m' : Nat) (acc acc' : List (Str × Addr)), acc.map (·.1) = acc'.map (·.1) → (cellsFrom m names acc).map (·.1) = (cellsFrom m' names acc').map (·.1) := by
      intro names
      induction names with
      | nil => intro m m' acc acc' h; exact h
      | cons x r ih =>
        intro m m' acc acc' h
        obtain ⟨nm, kd⟩ := x
        unfold cellsFrom
        split
        · exact ih _ _ _ _ (by rw [List.map_cons, List.map_cons, h])
        · exact ih _ _ _ _ h
    rw [e _ _ 0 [] [] rfl]
    exact hnc
  have cell_at : ∀ c ∈ env.cells.map (·.2), ∃ o, h₁.get? c = some o := fun c hm => by
    obtain ⟨x, hx, rfl⟩ := List.mem_map.mp hm
    have hlk : env.cells.lookup x.1 = some x.2 := lookup_of_nodup hsame hx
    obtain ⟨o, e, _⟩ := I.cell _ _ hlk
    exact ⟨o, e⟩
  have hg : GoodEnv env := by
    refine ⟨by rw [hsc]; exact hk, by rw [← henv]; exact hgl, by rw [← henv]; exact hbu, fun nm c q => ?_, fun nm nm' c q q' => name_of_addr I.apart (mem_of_lookup q) (mem_of_lookup q'), fun x q => by rw [hcs]; exact hcells _ _ (by rw [hsc] at q; exact q)⟩
    exact Nat.ne_of_gt (I.above nm c (mem_of_lookup q))
  have new : ∀ c ∈ frameOf env ++ X, c ∈ X ∨ s.heap.get? c = none := fun c hm => by
    rcases List.mem_append.mp hm with hm | hm
    · exact .inr (hfr c hm)
    · exact .inl hm
  have S : Sf ht s.heap B env (frameOf env ++ X) ρ h₁ := by
    refine ⟨⟨kt.trans hkeep, fun c hm => ?_, hg, fun c hm => ?_, fun c hm => List.mem_append_left _ hm, ⟨_, I.toInCall.ns⟩, fun nm c q => ⟨_, I.cell nm c q⟩, fun y hm => ?_⟩, hkeep.kpx _, fun c hm => .inr (hfr c hm), fun z p m b mb => ?_⟩
    · rcases List.mem_append.mp hm with hm | hm
      · rcases List.mem_cons.mp hm with rfl | hm
        · obtain ⟨o, _, _, e, _⟩ := I.toInCall.ns; exact ⟨o, e⟩
        · exact cell_at c hm
      · exact (al.kp hkeep) c hm
    · rcases List.mem_append.mp hm with hm | hm
      · exact none_of_kp kt (hfr c hm)
      · exact hX c hm
    · obtain ⟨v, h1, h3⟩ := hv y hm
      have hnm : y.1 ∈ names := (List.of_mem_zip h1).1
      have hnd' : ((names.zip vs).map (·.1)).Nodup := by
        rw [List.map_fst_zip (by rw [hl]; exact Nat.le_refl _)]
        exact hnd
      refine ⟨v, ?_, ?_⟩
      · have hkk : env.kindOf y.1 = fd.scope.names.lookup y.1 := by show env.scope.names.lookup y.1 = _; rw [hsc]
        rcases All.mem hkinds _ hnm with q | q
        · exact .inl ⟨by rw [hkk]; exact q, _, I.toInCall.ns, bindL_at (by rw [hkk]; exact q) _ _ hnd' h1⟩
        · obtain ⟨c, hc⟩ := Option.isSome_iff_exists.mp (hcells y.1 (s.heap.objs.size + 1) q)
          rw [← hcs] at hc
          exact .inr ⟨.inl (by rw [hkk]; exact q), c, hc, (bindC_at (kindOf := env.kindOf) (by rw [hkk, q]; simp) _ (fun _ => none) hnd' h1) ▸ I.cell _ _ hc⟩
      · cases q : y.2 with
        | vp p => rw [q] at h3; exact p.st h3 (hkeep.kpx _) new
        | res p =>
          rw [q] at h3
          obtain ⟨w1, w2, w3⟩ := h3
          refine ⟨fun b m => ⟨fun mf => ?_, List.mem_append_right _ (w1 b m).1⟩, w2, p.st w3 (hkeep.kpx _) (fun b _ o e => hkeep _ _ e) new fun b m => List.mem_append_right _ (w1 b m).1⟩
          obtain ⟨o, e⟩ := al b (w1 b m).1
          rw [hfr b mf] at e; cases e
    · obtain ⟨v, _, h3⟩ := hv _ m
      exact .inl (h3.1 b mb).2
  exact hbody env h₁ tk _ hsc ⟨fun c hm => List.mem_append_right _ hm, new, fun x q => by rw [hcs]; exact hcells _ _ (by rw [hsc] at q; exact q)⟩ S

noncomputable def FnR (prog : Program) (w : World) (ht : Heap) (n : Nat) (f : Value) (p : RP) (ps : List VP) (p' : RP) (Rr : PyData → Prop) : Prop :=
  ∀ ⦃A : Around⦄ ⦃X : List Addr⦄ ⦃s : Shared⦄ ⦃vs : List Value⦄ ⦃Q : Value → Shared → Prop⦄ ⦃E : Value → Shared → Prop⦄, Room n A → Kp ht s.heap → (∀ a ∈ X, ht.get? a = none) → Alive X s.heap → (∀ b ∈ p.as, b ∈ X) → p.P X s.heap → PsA X s.heap s.heap vs (ps.map VP.kp) →
    (∀ d v h' tk, Rr d → Rv h' X v d → KpX p.as s.heap h' → p'.P X h' → (∀ b ∈ p.as, ∃ o, h'.get? b = some o) → Q v { s with heap := h', toks := tk }) → wpAny (model prog w) A (PySem.call f (p.root :: vs)) Q E s
theorem FnR.up {f : Value} {p p' : RP} {ps : List VP} {Rr : PyData → Prop} {m : Nat} (x : FnR prog w ht n f p ps p' Rr) (h : n ≤ m) : FnR prog w ht m f p ps p' Rr := fun _ _ _ _ _ _ R => x (R.le h)
theorem rp_sub {p : RP} {X X' : List Addr} {h : Heap} (r : p.P X h) (hX : ∀ a ∈ X', a ∈ X) (has : ∀ b ∈ p.as, b ∈ X') : p.P X' h := p.st r (fun _ _ _ e => e) (fun _ _ _ e => e) (fun a m => .inl (hX a m)) has
theorem FnR.defG {mg mb : Str → Option Value} {a : Addr} {o : Obj} {fd : FuncData} {body : List Stmt} {z : Str} {names : List Str} {ps : List VP} {p p' : RP} {ρ' : Rho} {Rr : PyData → Prop} {po : Post} (T : TopF mg mb ht) (ho : ht.get? a = some o) (hd : o.data = .func fd) (hcd : ht.CodeRec fd.code fd.qualname)
    (hb : fd.body = .stmts body) (hbind : ∀ vs : List Value, vs.length = names.length + 1 → bindArgs fd ⟨vs, []⟩ = pure ((z :: names).zip vs)) (hlen : ps.length = names.length) (hclo : fd.closure = [])
    (hkinds : All (fun x => fd.scope.names.lookup x = some .local ∨ fd.scope.names.lookup x = some .cell) (z :: names)) (hnd : (z :: names).Nodup) (hgl : fd.globals = mainGlobals) (hbu : fd.builtins = builtinsNs)
    (hnc : ((cellsFrom 0 fd.scope.names []).map (·.1)).Nodup)
    (hco : fd.scope.isCoroutine = false) (hgen : fd.scope.isGenerator = false) (hk : fd.scope.kind = .function) (has : p'.as = p.as) (hm : (z, Ent.res p') ∈ ρ')
    (hpo : po = .retE ρ' Rr ∨ po = .next ρ' ∧ Rr .none)
    (hbody : Ex prog w ht n fd.scope ((z, .res p) :: names.zip (ps.map Ent.vp)) body po) : FnR prog w ht (n + 1) (.ref a) p ps p' Rr := fun A X s vs Q E R kt hX al hp hP zz K => by
  have hl : vs.length = names.length := by rw [zz.len, List.length_map, hlen]
  refine call_frame (B := p.as) (names := z :: names) (ρ := (z, .res p) :: names.zip (ps.map Ent.vp)) T ho hd hcd hb (hbind _ (by rw [List.length_cons, hl])) (by rw [List.length_cons, List.length_cons, hl]) hclo hkinds hnd hgl hbu hnc hco hgen hk (by have := R.2.1; (first | assumption | exact Nat.le_refl _ | exact Nat.add_le_add_left (by decide) _ | exact Nat.le_trans (by assumption) (by decide) | omega)) kt hX al (fun y hy => ?_) fun env h₁ tk E' hsc O S => ?_
  · rcases List.mem_cons.mp hy with rfl | hy
    · exact ⟨p.root, by rw [List.zip_cons_cons]; exact .head _, fun b m => ⟨hp b m, m⟩, rfl, hP⟩
    · obtain ⟨v, q, h1, h2, h3⟩ := psa_mem zz y hy
      exact ⟨v, by rw [List.zip_cons_cons]; exact .tail _ h1, by rw [h2]; exact h3⟩
  have fin : ∀ d v h' tk, Rr d → Rv h' (frameOf env ++ X) v d → Sf ht s.heap p.as env (frameOf env ++ X) ρ' h' → Q v { s with heap := h', toks := tk } := fun d v h' tk hR r S' => by
    obtain ⟨u, _, q1, q2, q3⟩ := S'.st.vars _ hm
    exact K d v h' tk hR (r.sub O.sub) S'.base (rp_sub q3 O.sub fun b m => hp b (has ▸ m)) fun b m => S'.st.xal b (List.mem_append_right _ (hp b m))
  rcases hpo with rfl | ⟨rfl, hn⟩
  · exact hbody (s := { s with heap := h₁, toks := tk }) (E := E') (R.deeper env) hsc kt al O S fun d v h' tk' hR r S' => fin d v h' tk' hR r S'
  · exact hbody (s := { s with heap := h₁, toks := tk }) (E := E') (R.deeper env) hsc kt al O S fun h' tk' S' => fin .none .none h' tk' hn .none S'
end
section
variable {prog : Program} {w : World} {ht : Heap} {n : Nat} {sc : Scope} {ρ ρ' ρ₁ ρ₂ : Rho} {p q r : KP} {e l f e1 e2 : Expr} {pos : Pos} {po : Post} {rest body b o : List Stmt} {x y : Str} {xp fp yp : Pos} {P P' : RP} {Rr : PyData → Prop} {as : List Addr}
theorem sf_res {hb h : Heap} {B X : List Addr} {env : Env} (S : Sf ht hb B env X ρ h) (hx : (x, Ent.res P) ∈ ρ) : VarIs env h x P.root ∧ (∀ b ∈ P.as, b ∉ frameOf env ∧ b ∈ X) ∧ P.P X h := by
  obtain ⟨v, h1, h2, rfl, h3⟩ := S.st.vars _ hx
  exact ⟨h1, h2, h3⟩
theorem EvE.call {fn : Str} {es : List Expr} {f : Value} {ps : List VP} (hf : Ev prog w ht n sc ρ (.Name fn fp) (kis f)) (hk : Kpr ht f) (hx : (x, Ent.res P) ∈ ρ) (hs : EvS prog w ht n sc ρ es (ps.map VP.kp)) (hc : FnR prog w ht n f P ps P' Rr)
    (has : P'.as = P.as) (hr : P'.root = P.root) (hρ : Upr x P' ρ ρ')
    (he : ∀ env, starEach (.Name x xp :: es) env = (false, eval (.Name x xp) env) :: starEach es env := by intro _; rfl) (hplain : ∀ env, (backTo pos (starEach es env)).any (·.1) = false := by intro _; rfl)
    (hd : (x == ("__debug__" : Str)) = false := by decide) (hn : (x == ("__classdict__" : Str)) = false := by decide) :
    EvE prog w ht n sc ρ ρ' P.as (.Call (.Name fn fp) (.Name x xp :: es) [] pos) Rr := fun A env hb B X s Q E R a S K =>
  wpAny_Call_Name_kw (hf R a S.st fun v h₁ t₁ k₁ z₁ => by
    have ev : v = f := z₁
    rw [ev]
    show wpAny (model prog w) A (callWith pos f [] (backTo pos (starEach (.Name x xp :: es) env)) []) Q E _
    have S₁ := S.kp k₁
    have hs' : wpAny (model prog w) A (spliced (backTo pos (starEach (.Name x xp :: es) env))) (fun vs s₁ => Kp ht s₁.heap ∧ wpAny (model prog w) A (PySem.call f ([] ++ vs)) Q E s₁) E { s with heap := h₁, toks := t₁ } := by
      refine wpAny_items_cons (wpAny_Name (load_var S.st.ge.kind (sf_res S₁ hx).1 ?_ hn) hd) (he _)
      refine hs R a S₁.st fun vs h₂ t₂ k₂ z₂ => ?_
      have S₂ := S₁.kp k₂
      refine ⟨S₂.st.top, ?_⟩
      obtain ⟨_, q2, q3⟩ := sf_res S₂ hx
      refine hc R S₂.st.top S.st.xn S₂.st.xal (fun b m => (q2 b m).2) q3 (by
        have : ∀ {vs : List Value} {ps : List VP}, PsA X h₁ h₂ vs (ps.map VP.kp) → PsA X h₂ h₂ vs (ps.map VP.kp) := by
          intro vs ps
          induction ps generalizing vs with
          | nil => intro z; cases z; exact .nil
          | cons p ps ih => intro z; cases z with | cons a b => exact .cons a (ih b)
        exact this z₂) fun d v h' tk hR rv k pp al => ?_
      refine K d v h' tk hR rv (fun b o n e => k b o n (k₂ _ _ (k₁ _ _ e))) ?_
      exact S₂.upr hx has hr hρ k al pp
    rw [he] at hs' ⊢
    exact callWith_of (P := fun h => Kp ht h) (by show ((false || (backTo pos (starEach es env)).any (·.1)) || false) = false; rw [hplain]; rfl) (fun h k => hk _ h k) (evalArgs_plain hs'))

theorem Ex.assignE {d₀ : Unit} (h : EvE prog w ht n sc ρ ρ' as e Rr) (hk : Stores sc y) (yy : ∀ d, Rr d → ∃ ρ₂, Upd y (.vp (im d)) ρ' ρ₂ ∧ Ex prog w ht n sc ρ₂ rest po) (hs : ∀ env l, swapsWith e (some (.Name y yp)) l env = pure false := by intro _ _; rfl) :
    Ex prog w ht n sc ρ (.Assign [.Name y yp] e pos :: rest) po := @fun A env hb B X₀ X s Q E R a k0 al O S K => by
  refine wpAny_execs_cons (wpAny_Assign_Name (h R a S fun d v h' tk hR z k S' => ?_) (hs _ _))
  obtain ⟨ρ₂, hρ, Y⟩ := yy d hR
  exact wp_store (s := { s with heap := h', toks := tk }) (en := .vp (im d)) S' z (hk.at a O) hρ (fun _ q => by cases q) fun h'' tk' S'' _ => Y R a k0 al O S'' (K.at h'' tk')
theorem Ex.assignTE {ts : List Expr} {k : Nat} {tpos : Pos} (h : EvE prog w ht n sc ρ ρ' as e Rr) (yy : ∀ d, Rr d → ∃ ρ₂, As prog w ht sc ρ' (.Tuple ts k tpos) d ρ₂ ∧ Ex prog w ht n sc ρ₂ rest po)
    (hs : ∀ env l, swapsWithSole [.Tuple ts k tpos] e l env = pure false := by intro _ _; rfl) (hw : ∀ env : Env, env.scope = sc → swappedStores [.Tuple ts k tpos] e env = pure none := by intro _ _; rfl) :
    Ex prog w ht n sc ρ (.Assign [.Tuple ts k tpos] e pos :: rest) po := @fun A env hb B X₀ X s Q E R a k0 al O S K => by
  refine wpAny_execs_cons (Assign_Tuple (h R a S fun d v h' tk hR z k S' => ?_) (hs _ _) (hw _ a))
  obtain ⟨ρ₂, hA, Y⟩ := yy d hR
  exact hA R.1 a O S' z fun h'' tk' S'' _ => Y R a k0 al O S'' (K.at h'' tk')
theorem Ex.if_E {ι : Type} {ρs : ι → Rho} {k₀ : Int} (h : EvE prog w ht n sc ρ ρ' as l Rr) (hR : ∀ d, Rr d → ∃ i, d = .int i) (he : Ev prog w ht n sc ρ' e (kim (.int k₀)))
    (yt : Ex prog w ht n sc ρ' b (.fam ι ρs)) (yf : Ex prog w ht n sc ρ' o (.fam ι ρs)) (y : ∀ i, Ex prog w ht n sc (ρs i) rest po) (hm : behindInMarks .Eq e = false := by with_unfolding_all rfl) :
    Ex prog w ht n sc ρ (.If (.Compare l [.Eq] [e] fp) b o pos :: rest) po := @fun A env hb B X₀ X s Q E R a k0 al O S K => by
  refine wpAny_execs_cons (wpAny_If (wpAny_isTrue_Compare1 (h R a S fun d v h' tk hd z k S' => he R a S'.st fun u h₂ t₂ k₂ z₂ => ?_) hm))
  obtain ⟨i, rfl⟩ := hR d hd
  have z₂ : Rv h₂ X u (.int k₀) := z₂
  cases z; cases z₂
  refine eq_int ?_
  cases (i == k₀) with
  | true => exact wpAny_truthy_bool (yt R a k0 al O (S'.kp k₂) fun j h'' tk' S'' => y j R a k0 al O S'' (K.at h'' tk'))
  | false => exact wpAny_truthy_bool (yf R a k0 al O (S'.kp k₂) fun j h'' tk' S'' => y j R a k0 al O S'' (K.at h'' tk'))
theorem EvE.tuple2 {R1 R2 : List PyData → Prop} {k : Nat} (h1 : EvN prog w ht n sc ρ ρ₁ as e1 R1) (h2 : EvN prog w ht n sc ρ₁ ρ₂ as e2 R2) (has : ∀ {env : Env} {hb h : Heap} {B X : List Addr}, Sf ht hb B env X ρ₁ h → ∀ a ∈ as, a ∈ X)
    (he1 : ∀ env, starEach [e1, e2] env = (false, eval e1 env) :: starEach [e2] env := by intro _; rfl) (he2 : ∀ env, starEach [e2] env = (false, eval e2 env) :: starEach [] env := by intro _; rfl) :
    EvE prog w ht n sc ρ ρ₂ as (.Tuple [e1, e2] k pos) (fun d => ∃ ds1 ds2, R1 ds1 ∧ R2 ds2 ∧ d = .tuple [.list ds1, .list ds2]) := @fun A env hb B X s Q E R a S K => by
  refine wpAny_Tuple (wpAny_items_cons (h1 R a S fun ds1 v1 h₁ t₁ r1 z1 k₁ S₁ => wpAny_items_cons (h2 R a S₁ fun ds2 v2 h₂ t₂ r2 z2 k₂ S₂ => wpAny_items_nil ?_) (he2 _)) (he1 _))
  have rv1 : Rv h₁ X v1 (.list ds1) := kfr_kim ds1 S.st.xal z1
  have rv2 : Rv h₂ X v2 (.list ds2) := kfr_kim ds2 S₁.st.xal z2
  have rv1' : Rv h₂ X v1 (.list ds1) := rv1.step (fun b o nb e => k₂ b o (fun m => nb (has S₁ b m)) e) fun _ m => .inl m
  refine ⟨sizeLine_big (by show 2 ≤ 1000; decide), K _ _ _ _ ⟨ds1, ds2, r1, r2, rfl⟩ (.tuple (fun m => ?_) (Heap.get?_push_size _ rfl) ((RvA.cons rv1' (.cons rv2 .nil)).kp (Kp.push _))) (fun b o nb e => Kp.push _ _ _ (k₂ b o nb (k₁ b o nb e))) (S₂.kp (Kp.push _))⟩
  obtain ⟨o, e⟩ := S₂.st.xal _ m
  rw [fresh_size] at e; cases e

theorem Sf.own {hb h : Heap} {B X : List Addr} {env : Env} {D : Addr} {vs : List Value} {c : Nat} {h₀ : Heap} (S : Sf ht hb B env X ρ h₀) (k : Kp h₀ h) (hf : h₀.get? D = none) (g : h.get? D = some (lstO vs c)) : Sf ht hb B env (D :: X) ρ h :=
  Sf.grow S k (fun b m => (List.mem_cons.mp m).elim (fun q => .inr (q ▸ hf)) .inl) (fun _ m => .tail _ m) fun b m => by
    rcases List.mem_cons.mp m with rfl | m
    · exact ⟨_, g⟩
    · obtain ⟨o, e⟩ := S.st.xal b m
      exact ⟨o, k _ _ e⟩
theorem kpx_none {hb h : Heap} {B : List Addr} {D : Addr} (k : KpX B hb h) (hf : h.get? D = none) : Fresh B hb D := by
  by_cases m : D ∈ B
  · exact .inl m
  · cases e : hb.get? D with
    | none => exact .inr e
    | some o => rw [k _ _ m e] at hf; cases hf
theorem Ex.own2 {x1 x2 : Str} {p1 p2 : Pos} {k k2 : Nat} {tpos dpos : Pos} {ds1 ds2 : List PyData} {ρ₁ ρ₂ : Addr → Addr → Rho} (h1 : Ev prog w ht n sc ρ e1 (kfr ds1)) (h2 : Ev prog w ht n sc ρ e2 (kfr ds2)) (hk1 : sc.names.lookup x1 = some .local) (hk2 : sc.names.lookup x2 = some .local)
    (hρ : ∀ a b, Upd x2 (.own b ds2) ρ (ρ₁ a b)) (hρ' : ∀ a b, Upd x1 (.own a ds1) (ρ₁ a b) (ρ₂ a b)) (y : ∀ a b, a ≠ b → Ex prog w ht n sc (ρ₂ a b) rest (.ret r))
    (hs : ∀ env l, swapsWithSole [.Tuple [.Name x1 p1, .Name x2 p2] k tpos] (.Tuple [e1, e2] k2 dpos) l env = pure false := by intro _ _; rfl)
    (hw : ∀ env : Env, env.scope = sc → env.scope.kind = .function → swappedStores [.Tuple [.Name x1 p1, .Name x2 p2] k tpos] (.Tuple [e1, e2] k2 dpos) env = pure (some [x1, x2]))
    (he1 : ∀ env, starEach [e1, e2] env = (false, eval e1 env) :: starEach [e2] env := by intro _; rfl) (he2 : ∀ env, starEach [e2] env = (false, eval e2 env) :: starEach [] env := by intro _; rfl) :
    Ex prog w ht n sc ρ (.Assign [.Tuple [.Name x1 p1, .Name x2 p2] k tpos] (.Tuple [e1, e2] k2 dpos) pos :: rest) (.ret r) := @fun A env hb B X₀ X s Q E R a k0 al O S K => by
  obtain ⟨hB, K⟩ := K
  subst hB
  refine wpAny_execs_cons (Assign_Tuple_swapped (wpAny_Tuple (wpAny_items_cons (h1 R a S.st fun v1 h₁ t₁ k₁ z₁ => ?_) (he1 _))) (hs _ _) (hw _ a S.st.ge.kind))
  obtain ⟨D1, vs1, c1, rfl, f1, g1, r1⟩ := z₁
  have S₁ := S.own k₁ f1 g1
  refine wpAny_items_cons (h2 R a S₁.st fun v2 h₂ t₂ k₂ z₂ => wpAny_items_nil ?_) (he2 _)
  obtain ⟨D2, vs2, c2, rfl, f2, g2, r2⟩ := z₂
  have S₂ := S₁.own k₂ f2 g2
  have ne : D1 ≠ D2 := fun q => by rw [← q, g1] at f2; cases f2
  refine ⟨sizeLine_big (by show 2 ≤ 1000; decide), ?_⟩
  dsimp only
  have k₃ := Kp.push (a := h₂) { cls := .type "tuple", data := .seq ([Value.ref D1, .ref D2] : List Value).toArray }
  have S₃ := S₂.kp k₃
  have gT : (h₂.push { cls := .type "tuple", data := .seq ([Value.ref D1, .ref D2] : List Value).toArray }).get? h₂.objs.size = some (tupO [.ref D1, .ref D2] 0) := Heap.get?_push_size _ rfl
  refine unpackItems_tuple (items := ([Value.ref D1, .ref D2] : List Value).toArray) R.1 ⟨_, gT, rfl, _, rfl⟩ ?_
  intro h₄ x4
  have k₄ : Kp (h₂.push { cls := .type "tuple", data := .seq ([Value.ref D1, .ref D2] : List Value).toArray }) h₄ := fun b o e => x4 b o (fun q => by rw [q, fresh_size] at e; cases e) e
  have S₄ := S₃.kp k₄
  have fr1 := kpx_none S.base f1
  have fr2 : Fresh [] hb D2 := kpx_none S₁.base f2
  have nX1 : D1 ∉ X := fun m => by obtain ⟨o, q⟩ := S.st.xal D1 m; rw [f1] at q; cases q
  have nX2 : D2 ∉ D1 :: X := fun m => by obtain ⟨o, q⟩ := S₁.st.xal D2 m; rw [f2] at q; cases q
  have g1' := k₄ _ _ (k₃ _ _ (k₂ _ _ g1))
  have g2' := k₄ _ _ (k₃ _ _ g2)
  have r1' : RvA h₄ (D2 :: D1 :: X) vs1 ds1 := ((r1.step (k₂.kpx _) fun b m => (List.mem_cons.mp m).elim (fun q => .inr (q ▸ f2)) .inl).kp k₃).kp k₄
  have r2' : RvA h₄ (D2 :: D1 :: X) vs2 ds2 := (r2.kp k₃).kp k₄
  refine assignInOrder_cons (bindName_ (wp_store (en := .own D2 ds2) S₄ ⟨fun b m => by rw [List.mem_singleton.mp m]; exact ⟨fun m => nX2 (.tail _ (S.st.fx _ m)), .head _⟩, rfl, vs2, c2, g2', r2'⟩ (Stores.at (.inl hk2) a O) (hρ D1 D2) (fun _ q => by cases q; exact fun b m => by rw [List.mem_singleton.mp m]; exact fr2) fun h₅ t₅ S₅ k₅ => ?_))
  have n1 : D1 ∉ frameOf env := fun m => nX1 (S.st.fx _ m)
  refine assignInOrder_cons (bindName_ (wp_store (en := .own D1 ds1) S₅ ⟨fun b m => by rw [List.mem_singleton.mp m]; exact ⟨n1, .tail _ (.head _)⟩, rfl, vs1, c1, k₅ _ _ n1 g1', r1'.step (fun b o nb e => k₅ b o (fun m => nb (S₄.st.fx b m)) e) fun _ m => .inl m⟩ (Stores.at (.inl hk1) a O) (hρ' D1 D2) (fun _ q => by cases q; exact fun b m => by rw [List.mem_singleton.mp m]; exact fr1) fun h₆ t₆ S₆ _ => ?_))
  refine assignInOrder_nil ?_
  refine y D1 D2 ne R a k0 al ⟨fun b m => .tail _ (.tail _ (O.sub b m)), fun b m => ?_, O.cells⟩ S₆ ⟨rfl, K⟩
  have nil : ∀ {D}, Fresh [] hb D → hb.get? D = none := fun q => q.elim (fun m => nomatch m) id
  rcases List.mem_cons.mp m with rfl | m
  · exact .inr (nil fr2)
  · rcases List.mem_cons.mp m with rfl | m
    · exact .inr (nil fr1)
    · exact O.new b m
theorem Ex.ownT {x1 x2 : Str} {p1 p2 : Pos} {k k2 : Nat} {tpos dpos : Pos} {ds1 : List PyData} {d2 : PyData} {ρ₁ ρ₂ : Addr → Rho} (h1 : Ev prog w ht n sc ρ e1 (kfr ds1)) (h2 : Ev prog w ht n sc ρ e2 (kim d2)) (hk1 : Stores sc x1) (hk2 : Stores sc x2)
    (hρ : ∀ a, Upd x1 (.own a ds1) ρ (ρ₁ a)) (hρ' : ∀ a, Upd x2 (.vp (im d2)) (ρ₁ a) (ρ₂ a)) (y : ∀ a, (∀ z p, (z, Ent.res p) ∈ ρ → a ∉ p.as) → Ex prog w ht n sc (ρ₂ a) rest (.ret r))
    (hs : ∀ env l, swapsWithSole [.Tuple [.Name x1 p1, .Name x2 p2] k tpos] (.Tuple [e1, e2] k2 dpos) l env = pure false := by intro _ _; rfl)
    (hw : ∀ env : Env, env.scope = sc → swappedStores [.Tuple [.Name x1 p1, .Name x2 p2] k tpos] (.Tuple [e1, e2] k2 dpos) env = pure none)
    (he1 : ∀ env, starEach [e1, e2] env = (false, eval e1 env) :: starEach [e2] env := by intro _; rfl) (he2 : ∀ env, starEach [e2] env = (false, eval e2 env) :: starEach [] env := by intro _; rfl)
    (hts : ∀ env, (assignEach [.Name x1 p1, .Name x2 p2] env).map (·.2) = [PySem.assign (.Name x1 p1) env, PySem.assign (.Name x2 p2) env] := by intro _; rfl) (hn : ∀ env, (assignEach [.Name x1 p1, .Name x2 p2] env).length = 2 := by intro _; rfl) (hstar : ∀ env, (assignEach [.Name x1 p1, .Name x2 p2] env).findIdx? (·.1) = none := by intro _; rfl) :
    Ex prog w ht n sc ρ (.Assign [.Tuple [.Name x1 p1, .Name x2 p2] k tpos] (.Tuple [e1, e2] k2 dpos) pos :: rest) (.ret r) := @fun A env hb B X₀ X s Q E R a k0 al O S K => by
  obtain ⟨hB, K⟩ := K
  subst hB
  refine wpAny_execs_cons (Assign_Tuple (wpAny_Tuple (wpAny_items_cons (h1 R a S.st fun v1 h₁ t₁ k₁ z₁ => ?_) (he1 _))) (hs _ _) (hw _ a))
  obtain ⟨D1, vs1, c1, rfl, f1, g1, r1⟩ := z₁
  have S₁ := S.own k₁ f1 g1
  refine wpAny_items_cons (h2 R a S₁.st fun v2 h₂ t₂ k₂ z₂ => wpAny_items_nil ?_) (he2 _)
  have S₂ := S₁.kp k₂
  refine ⟨sizeLine_big (by show 2 ≤ 1000; decide), ?_⟩
  dsimp only
  have k₃ := Kp.push (a := h₂) { cls := .type "tuple", data := .seq ([Value.ref D1, v2] : List Value).toArray }
  have S₃ := S₂.kp k₃
  have gT : (h₂.push { cls := .type "tuple", data := .seq ([Value.ref D1, v2] : List Value).toArray }).get? h₂.objs.size = some (tupO [.ref D1, v2] 0) := Heap.get?_push_size _ rfl
  refine assign_Tuple_tuple (items := ([Value.ref D1, v2] : List Value).toArray) R.1 ⟨_, gT, rfl, _, rfl⟩ (by rw [hn]; rfl) (hstar _) fun h₄ x4 => ?_
  have k₄ : Kp (h₂.push { cls := .type "tuple", data := .seq ([Value.ref D1, v2] : List Value).toArray }) h₄ := fun b o e => x4 b o (fun q => by rw [q, fresh_size] at e; cases e) e
  have S₄ := S₃.kp k₄
  have fr1 := kpx_none S.base f1
  have nX1 : D1 ∉ X := fun m => by obtain ⟨o, q⟩ := S.st.xal D1 m; rw [f1] at q; cases q
  have g1' := k₄ _ _ (k₃ _ _ (k₂ _ _ g1))
  have r1' : RvA h₄ (D1 :: X) vs1 ds1 := ((r1.kp k₂).kp k₃).kp k₄
  have r2' : Rv h₄ (D1 :: X) v2 d2 := Rv.kp (Rv.kp z₂ k₃) k₄
  have n1 : D1 ∉ frameOf env := fun m => nX1 (S.st.fx _ m)
  rw [hts]
  refine assignInOrder_cons (PyProof.Rows.assign_Name (wp_store (en := .own D1 ds1) S₄ ⟨fun b m => by rw [List.mem_singleton.mp m]; exact ⟨n1, .head _⟩, rfl, vs1, c1, g1', r1'⟩ (hk1.at a O) (hρ D1) (fun _ q => by cases q; exact fun b m => by rw [List.mem_singleton.mp m]; exact fr1) fun h₅ t₅ S₅ k₅ => ?_))
  refine assignInOrder_cons (PyProof.Rows.assign_Name (wp_store (en := .vp (im d2)) S₅ (r2'.step (fun b o nb e => k₅ b o (fun m => nb (S₄.st.fx b m)) e) fun _ m => .inl m) (hk2.at a O) (hρ' D1) (fun _ q => by cases q) fun h₆ t₆ S₆ _ => ?_))
  refine assignInOrder_nil ?_
  refine y D1 (fun z p m q => ?_) R a k0 al ⟨fun b m => .tail _ (O.sub b m), fun b m => ?_, O.cells⟩ S₆ ⟨rfl, K⟩
  · obtain ⟨u, _, q2⟩ := S.st.vars _ m
    exact nX1 (q2.1 _ q).2
  · rcases List.mem_cons.mp m with rfl | m
    · exact .inr (fr1.elim (fun m => nomatch m) id)
    · exact O.new b m
theorem Ex.while_ {t : Expr} {Inv : Nat → Rho} (N : Nat) (h0 : ∀ y ∈ Inv 0, y ∈ ρ) (ht' : ∀ i, i < N → Tst prog w ht n sc (Inv i) t true) (hb' : ∀ i, i < N → Ex prog w ht n sc (Inv i) body (.next (Inv (i + 1)))) (hf : Tst prog w ht n sc (Inv N) t false) (after : Ex prog w ht n sc (Inv N) rest po) :
    Ex prog w ht n sc ρ (.While t body [] pos :: rest) po := @fun A env hb B X₀ X s Q E R a k0 al O S K => by
  refine wpAny_execs_cons (wpAny_While ?_)
  refine codeAny_whileLoop (fun k s' => ∃ i h' tk, s' = { s with heap := h', toks := tk } ∧ k = N - i ∧ i ≤ N ∧ Sf ht hb B env X (Inv i) h') ?_ N ⟨0, _, _, rfl, rfl, Nat.zero_le _, S.less h0⟩
  rintro k s' ⟨i, h', tk, rfl, rfl, hi, Si⟩
  by_cases hlt : i < N
  · refine ht' i hlt R a Si.st fun h₂ t₂ k₂ => ?_
    dsimp only
    rw [if_pos rfl]
    exact hb' i hlt R a k0 al O (Si.kp k₂) fun h₃ t₃ S₃ => ⟨N - (i + 1), by (first | assumption | exact Nat.le_refl _ | exact Nat.add_le_add_left (by decide) _ | exact Nat.le_trans (by assumption) (by decide) | omega), i + 1, h₃, t₃, rfl, rfl, hlt, S₃⟩
  · obtain rfl : i = N := by (first | assumption | exact Nat.le_refl _ | exact Nat.add_le_add_left (by decide) _ | exact Nat.le_trans (by assumption) (by decide) | omega)
    refine hf R a Si.st fun h₂ t₂ k₂ => ?_
    dsimp only
    rw [if_neg (by decide)]
    exact wpAny_execs_nil (after R a k0 al O (Si.kp k₂) (K.at h₂ t₂))
end
noncomputable def objR (a dx C : Addr) (al : List (Str × VP)) : RP := ⟨[a, dx], .ref a, fun X h => AttrsAt h X a dx C al, fun x k ka hX _ => x.step k (fun o e => ka _ (.head _) o e) (fun o e => ka _ (.tail _ (.head _)) o e) hX⟩
noncomputable def DkO (prog : Program) (w : World) (h : Heap) (X : List Addr) (d : Addr) (m : List Int → Option PyData) (c : Nat) : Prop := (d == sysModules) = false ∧ Dk prog w h X d m c
noncomputable def dictR (prog : Program) (w : World) (d : Addr) (m : List Int → Option PyData) (c : Nat) : RP := ⟨[d], .ref d, fun X h => DkO prog w h X d m c, fun x k ka hX _ => ⟨x.1, x.2.step k (fun o e => ka _ (.head _) o e) hX⟩⟩
noncomputable def sepR (p q : RP) : RP := ⟨p.as ++ q.as, p.root, fun X h => p.P X h ∧ q.P X h, fun x k ka hX hb =>
  ⟨p.st x.1 k (fun b m o e => ka b (List.mem_append_left _ m) o e) hX fun b m => hb b (List.mem_append_left _ m), q.st x.2 k (fun b m o e => ka b (List.mem_append_right _ m) o e) hX fun b m => hb b (List.mem_append_right _ m)⟩⟩
noncomputable def dictVP (prog : Program) (w : World) (m : List Int → Option PyData) (c : Nat) : VP := ⟨fun X h v => ∃ d, v = .ref d ∧ d ∉ X ∧ DkO prog w h X d m c, fun {X X' h h' v} ⟨d, e, nd, y, x⟩ k hX => by
  refine ⟨d, e, fun q => (hX d q).elim nd fun q => ?_, y, x.step k (fun o e => k _ _ nd e) hX⟩
  obtain ⟨xs, ⟨o, es, ep, h1, _⟩, _⟩ := x
  rw [q] at h1; cases h1⟩
theorem handed_dict {prog : Program} {w : World} (m : List Int → Option PyData) (c : Nat) : Handed (dictVP prog w m c) := fun {X h v} r => by
  obtain ⟨d, rfl, _⟩ := r; rfl
noncomputable def kdk (prog : Program) (w : World) (m : List Int → Option PyData) (c : Nat) : KP := ⟨fun X h₀ h v => ∃ d, v = .ref d ∧ h₀.get? d = none ∧ (∀ b o, h₀.get? b = some o → b < d) ∧ Dk prog w h (d :: X) d m c,
  fun ⟨d, e, f, l, x⟩ k => ⟨d, e, f, l, x.step (k.kpx _) (fun o e => k _ _ e) fun _ m => .inl m⟩,
  fun {X h₀ h₁ h v} ⟨d, e, f, l, x⟩ k => ⟨d, e, k _ f, fun b o q => by
    cases e1 : h₁.get? b with
    | none => rw [k _ e1] at q; cases q
    | some o' => exact l b o' e1, x⟩,
  fun ⟨d, e, f, l, x⟩ k => ⟨d, e, f, l, x.step ((Kp.refl _).kpx _) (fun _ e => e) fun b m => by
    rcases List.mem_cons.mp m with rfl | m
    · exact .inl (.head _)
    · exact .inl (.tail _ (k b m))⟩⟩
theorem AttrsAt.ne {h : Heap} {X : List Addr} {a dx C : Addr} {al : List (Str × VP)} (x : AttrsAt h X a dx C al) : dx ≠ a := by
  obtain ⟨o, m, h1, h2, h3, h4, h5, _⟩ := x
  exact h5
section
variable {prog : Program} {w : World} {ht : Heap} {n : Nat} {sc : Scope} {ρ ρ' ρ₁ ρ₂ : Rho} {p q r : KP} {e l f e1 e2 ix : Expr} {pos apos spos cpos : Pos} {po : Post} {rest body b o : List Stmt} {x y : Str} {xp fp yp : Pos} {P P' : RP} {Rr : PyData → Prop} {as : List Addr}
  {C N a dx d : Addr} {mN : Str → Option Value} {al : List (Str × VP)} {name : Str} {vp : VP} {m : List Int → Option PyData} {c : Nat} {k : List Int}

theorem attrs_store {A : Around} {s : Shared} {X : List Addr} {v : Value} {Q : Unit → Shared → Prop} {E : Value → Shared → Prop} (cl : ClsAt ht C N mN) (kt : Kp ht s.heap) (x : AttrsAt s.heap X a dx C al) (ha : a ∈ X) (hdx : dx ∈ X) (hX : ∀ b ∈ X, ht.get? b = none) (hns : mN "__setattr__" = none) (hna : mN name = none) (hB : typeLookup (.type "object") name = pure none)
    (hnew : name ∉ al.map (·.1)) (hz : al.length ≤ 100) (hv : vp.P X s.heap v) (K : ∀ h' tk, AttrsAt h' X a dx C (al ++ [(name, vp)]) → KpX [a, dx] s.heap h' → Q () { s with heap := h', toks := tk }) : wpAny (model prog w) A (setAttr (.ref a) name v) Q E s := by
  obtain ⟨h, g, dd, t, os⟩ := s
  obtain ⟨o, m, h1, h2, h3, h4, h5, h6, h7, h8⟩ := x
  have cl' := cl.keeps kt
  obtain ⟨nm, q, bs, sn, sub, col, dd, k0, k1, k2, k3, k5, hC⟩ := cl'.obj
  have hCt : ∃ oc, ht.get? C = some oc := let ⟨_, _, _, _, _, _, _, _, _, _, _, _, e⟩ := cl.obj; ⟨_, e⟩
  have hxC : a ≠ C := fun q => by obtain ⟨oc, e⟩ := hCt; rw [← q, hX a ha] at e; cases e
  refine store_attr (ns := al.map (·.1)) PySem.F.store_object hC cl'.ns hns hna hB hxC ⟨o, h1, h2, h3, .inr ⟨dx, h4, h5, h6⟩⟩ (fun h' tk' I' hk hsame => K h' tk' ?_ fun b o' nb e => hk b o' (fun q => nb (q ▸ .head _)) (fun o₀ d' e₀ ed q => ?_) e) h8 (sizeLine_big (by rw [List.length_map]; (first | assumption | exact Nat.le_refl _ | exact Nat.add_le_add_left (by decide) _ | exact Nat.le_trans (by assumption) (by decide) | omega)))
  · obtain ⟨o₁, e₁, c₁, dt₁, sl₁, dk₁⟩ := hsame o h1
    obtain ⟨o', e', c', nc', hd'⟩ := I'
    obtain rfl := Option.some.inj (e₁.symm.trans e')
    have ed := dk₁ dx h4
    rcases hd' with ⟨hn0, _⟩ | ⟨d', hd', ne', hns'⟩
    · rw [ed] at hn0; cases hn0
    · obtain rfl := Option.some.inj (ed.symm.trans hd')
      have kX : KpX X h h' := fun b o' nb e => hk b o' (fun q => nb (q ▸ ha)) (fun o₀ d' e₀ ed' q => nb (by
        obtain rfl := Option.some.inj (h1.symm.trans e₀)
        obtain rfl := Option.some.inj (h4.symm.trans ed')
        exact q ▸ hdx)) e
      refine ⟨o₁, _, e₁, c', nc', ed, h5, hns', fun en me => ?_, ?_⟩
      · rcases List.mem_append.mp me with me | me
        · obtain ⟨u, hu, pu⟩ := h7 en me
          have ne : en.1 ≠ name := fun q => hnew (List.mem_map.mpr ⟨en, me, q⟩)
          exact ⟨u, by rw [if_neg ne]; exact hu, en.2.st pu kX fun _ m => .inl m⟩
        · rw [List.mem_singleton.mp me]
          exact ⟨v, by rw [if_pos rfl], vp.st hv kX fun _ m => .inl m⟩
      · intro y hy
        rw [List.map_append]
        by_cases q : y = name
        · exact List.mem_append_right _ (List.mem_singleton.mpr q)
        · have hy : (if y = name then some v else m y) ≠ none := hy
          rw [if_neg q] at hy
          exact List.mem_append_left _ (h8 y hy)
  · obtain rfl := Option.some.inj (h1.symm.trans e₀)
    obtain rfl := Option.some.inj (h4.symm.trans ed)
    exact nb (q ▸ .tail _ (.head _))

theorem Ex.setattr (hx : (x, Ent.res P) ∈ ρ) (hr : P.root = .ref a) (hp : ∀ {X : List Addr} {h : Heap}, P.P X h → AttrsAt h X a dx C al) (ha : a ∈ P.as) (hdx : dx ∈ P.as) (cl : ClsAt ht C N mN) (he : Ev prog w ht n sc ρ e vp.kp)
    (hback : ∀ {X : List Addr} {h h' : Heap}, P.P X h → (∀ b ∈ P.as, b ∈ X) → KpX [a, dx] h h' → AttrsAt h' X a dx C (al ++ [(name, vp)]) → P'.P X h') (has : P'.as = P.as) (hr' : P'.root = P.root) (hρ : Upr x P' ρ ρ')
    (hns : mN "__setattr__" = none) (hna : mN name = none) (hB : typeLookup (.type "object") name = pure none) (hnew : name ∉ al.map (·.1)) (hz : al.length ≤ 100) (y : Ex prog w ht n sc ρ' rest po)
    (hs : ∀ env, swapsWith e (some (.Attribute (.Name x xp) name apos)) pos.line env = pure false := by intro _; rfl) (hd : (x == ("__debug__" : Str)) = false := by decide) (hn : (x == ("__classdict__" : Str)) = false := by decide) :
    Ex prog w ht n sc ρ (.Assign [.Attribute (.Name x xp) name apos] e pos :: rest) po := @fun A env hb B X₀ X s Q E R ae k0 al' O S K => by
  refine wpAny_execs_cons (plainObj_wpAny_Assign_Attribute (he R ae S.st fun v h₁ t₁ k₁ z₁ => ?_) (hs _))
  have S₁ := S.kp k₁
  obtain ⟨q1, q2, q3⟩ := sf_res S₁ hx
  rw [hr] at q1
  refine wpAny_Name (load_var S.st.ge.kind q1 ?_ hn) hd
  refine attrs_store cl S₁.st.top (hp q3) (q2 _ ha).2 (q2 _ hdx).2 S₁.st.xn hns hna hB hnew hz z₁ fun h' tk x' k' => ?_
  have kk : KpX P.as h₁ h' := fun b o nb e => k' b o (fun q => nb (by
    rcases List.mem_cons.mp q with rfl | q
    · exact ha
    · rw [List.mem_singleton.mp q]; exact hdx)) e
  refine y R ae k0 al' O (S₁.upr hx has hr' hρ kk (fun b mb => ?_) (hback q3 (fun b m => (q2 b m).2) k' x')) (K.at _ _)
  by_cases qa : b = a
  · obtain ⟨o, _, e, _⟩ := x'
    exact ⟨o, qa ▸ e⟩
  · by_cases qd : b = dx
    · obtain ⟨o, mm, _, _, _, _, _, ⟨od, _, _, e, _⟩, _⟩ := x'
      exact ⟨od, qd ▸ e⟩
    · obtain ⟨o, e⟩ := S₁.st.xal b (q2 b mb).2
      exact ⟨o, k' b o (fun q => by
        rcases List.mem_cons.mp q with q | q
        · exact qa q
        · exact qd (List.mem_singleton.mp q)) e⟩

theorem Ev.dget {v : PyData} (hx : (x, Ent.res P) ∈ ρ) (hD : ∀ {X : List Addr} {h : Heap}, P.P X h → DkO prog w h X d m c) (hl : Ev prog w ht n sc ρ l (kis (.ref d))) (he : Ev prog w ht n sc ρ e (kim (.tuple (intL k)))) (hm : m k = some v)
    (hs : ∀ o i, subscripted e false o i = operate [o, i] (getItem o i) := by intro _ _; with_unfolding_all rfl) : Ev prog w ht n sc ρ (.Subscript l e pos) (kim v) := fun A env X s Q E R a S K =>
  Subscript_ (hl R a S fun u h₁ t₁ k₁ z₁ => he R a (S.kp k₁) fun u2 h₂ t₂ k₂ z₂ => by
    have z₁ : u = .ref d := z₁
    subst z₁
    obtain ⟨u3, _, _, _, q3⟩ := ((S.kp k₁).kp k₂).vars _ hx
    have D := hD q3
    have tI : Shared.TypeIs { s with heap := h₂, toks := t₂ } (.ref d) "dict" := by
      obtain ⟨xs, h1, _⟩ := D.2
      exact Heap.DictOfH.typeIs (s := { s with heap := h₂, toks := t₂ }) h1
    exact tail_any (T := "dict") tI slot_dict_getitem.lookup (dk_get (s := { s with heap := h₂, toks := t₂ }) D.2 z₂ hm R fun u tk rv => K u _ _ (k₁.trans k₂) rv) (hs _ _))
theorem Tst.din (hx : (x, Ent.res P) ∈ ρ) (hD : ∀ {X : List Addr} {h : Heap}, P.P X h → DkO prog w h X d m c) (hl : Ev prog w ht n sc ρ l (kis (.ref d))) (he : Ev prog w ht n sc ρ e (kim (.tuple (intL k))))
    (hm : behindInMarks .In l = false := by with_unfolding_all rfl) : Tst prog w ht n sc ρ (.Compare e [.In] [l] pos) (m k).isSome := fun _ _ _ _ _ _ R a S K =>
  wpAny_isTrue_Compare1 (he R a S fun u h₁ t₁ k₁ z₁ => hl R a (S.kp k₁) fun u2 h₂ t₂ k₂ z₂ => by
    have z₂ : u2 = .ref d := z₂
    subst z₂
    obtain ⟨u3, _, _, _, q3⟩ := ((S.kp k₁).kp k₂).vars _ hx
    have D := hD q3
    exact dk_in D.1 D.2 (Rv.kp z₁ k₂) R fun tk => wpAny_truthy_bool (K _ _ (k₁.trans k₂))) hm
theorem dk_nin {A : Around} {E : Value → Shared → Prop} {s : Shared} {X : List Addr} {v : Value} (hd : (d == sysModules) = false) (x : Dk prog w s.heap X d m c) (hk : Rv s.heap X v (.tuple (intL k))) (R : Room n A) {Q : Value → Shared → Prop} (K : ∀ tk, Q (.bool (!(m k).isSome)) { s with toks := tk }) : wpAny (model prog w) A (compareOp .NotIn v (.ref d)) Q E s := by
  have h1 : wpAny (model prog w) A (compareOp .In v (.ref d)) (fun u s' => ∃ tk, u = .bool (m k).isSome ∧ s' = { s with toks := tk }) E s := dk_in hd x hk R fun tk => ⟨tk, rfl, rfl⟩
  have e1 : compareOp .In v (.ref d) = (contains (.ref d) v >>= fun b => pure (Value.bool b)) := rfl
  have e2 : compareOp .NotIn v (.ref d) = (contains (.ref d) v >>= fun b => pure (Value.bool (!b))) := rfl
  rw [e1] at h1
  rw [e2]
  intro Γ pp hΓ
  have := h1 Γ pp hΓ
  simp only [Sem.wp_bind', Sem.wp_pure'] at this ⊢
  refine Sem.wp_mono _ Γ _ (fun b p₁ s₁ h₁ => ?_) (fun _ _ _ h' => h') _ _ this
  obtain ⟨tk, e, rfl⟩ := h₁
  cases e
  exact K tk
theorem Tst.dnin (hx : (x, Ent.res P) ∈ ρ) (hD : ∀ {X : List Addr} {h : Heap}, P.P X h → DkO prog w h X d m c) (hl : Ev prog w ht n sc ρ l (kis (.ref d))) (he : Ev prog w ht n sc ρ e (kim (.tuple (intL k))))
    (hm : behindInMarks .NotIn l = false := by with_unfolding_all rfl) : Tst prog w ht n sc ρ (.Compare e [.NotIn] [l] pos) (!(m k).isSome) := fun _ _ _ _ _ _ R a S K =>
  wpAny_isTrue_Compare1 (he R a S fun u h₁ t₁ k₁ z₁ => hl R a (S.kp k₁) fun u2 h₂ t₂ k₂ z₂ => by
    have z₂ : u2 = .ref d := z₂
    subst z₂
    obtain ⟨u3, _, _, _, q3⟩ := ((S.kp k₁).kp k₂).vars _ hx
    have D := hD q3
    exact dk_nin D.1 D.2 (Rv.kp z₁ k₂) R fun tk => wpAny_truthy_bool (K _ _ (k₁.trans k₂))) hm
theorem Ex.dset {v : PyData} (hx : (x, Ent.res P) ∈ ρ) (hD : ∀ {X : List Addr} {h : Heap}, P.P X h → DkO prog w h X d m c) (hd : d ∈ P.as) (hl : Ev prog w ht n sc ρ l (kis (.ref d))) (hi : Ev prog w ht n sc ρ ix (kim (.tuple (intL k)))) (he : Ev prog w ht n sc ρ e (kim v))
    (hback : ∀ {X : List Addr} {h h' : Heap}, P.P X h → (∀ b ∈ P.as, b ∈ X) → KpX [d] h h' → DkO prog w h' X d (put m k v) (c + 1) → P'.P X h') (has : P'.as = P.as) (hr' : P'.root = P.root) (hρ : Upr x P' ρ ρ') (hc : c ≤ 1000) (y : Ex prog w ht n sc ρ' rest po)
    (hs : ∀ env, swapsWith e (some (.Subscript l ix spos)) pos.line env = pure false := by intro _; rfl) : Ex prog w ht n sc ρ (.Assign [.Subscript l ix spos] e pos :: rest) po := @fun A env hb B X₀ X s Q E R ae k0 al O S K => by
  refine wpAny_execs_cons (wpAny_Assign_Subscript (he R ae S.st fun u h₁ t₁ k₁ z₁ => hl R ae (S.kp k₁).st fun u2 h₂ t₂ k₂ z₂ => hi R ae ((S.kp k₁).kp k₂).st fun u3 h₃ t₃ k₃ z₃ => ?_) (hs _))
  have z₂ : u2 = .ref d := z₂
  subst z₂
  have S₃ := ((S.kp k₁).kp k₂).kp k₃
  obtain ⟨q1, q2, q3⟩ := sf_res S₃ hx
  have D := hD q3
  refine dk_set (s := { s with heap := h₃, toks := t₃ }) D.2 (q2 _ hd).2 hc z₃ (Rv.kp (Rv.kp z₁ k₂) k₃) R fun h' tk x' k' al' => ?_
  have kk : KpX P.as h₃ h' := fun b o nb e => k' b o (fun q => nb (by rw [List.mem_singleton.mp q]; exact hd)) e
  refine y R ae k0 al O (S₃.upr hx has hr' hρ kk (fun b mb => ?_) (hback q3 (fun b m => (q2 b m).2) k' ⟨D.1, x'⟩)) (K.at _ _)
  by_cases qd : b = d
  · exact qd ▸ al'
  · obtain ⟨o, e⟩ := S₃.st.xal b (q2 b mb).2
    exact ⟨o, k' b o (fun q => qd (List.mem_singleton.mp q)) e⟩
theorem op_inD : Op2 prog w n (compareOp .In) (kim (.tuple (intL k))) (dictVP prog w m c).kp (kim (.bool (m k).isSome)) := fun _ _ _ _ _ _ _ _ R _ _ x y K => by
  obtain ⟨d, rfl, _, y1, y2⟩ := y
  exact dk_in y1 y2 x R fun tk => K _ _ _ (Kp.refl _) (.bool _)
theorem Ev.dgetV {v : PyData} (hl : Ev prog w ht n sc ρ l (dictVP prog w m c).kp) (he : Ev prog w ht n sc ρ e (kim (.tuple (intL k)))) (hm : m k = some v)
    (hs : ∀ o i, subscripted e false o i = operate [o, i] (getItem o i) := by intro _ _; with_unfolding_all rfl) : Ev prog w ht n sc ρ (.Subscript l e pos) (kim v) := fun A env X s Q E R a S K =>
  Subscript_ (hl R a S fun u h₁ t₁ k₁ z₁ => he R a (S.kp k₁) fun u2 h₂ t₂ k₂ z₂ => by
    obtain ⟨d, rfl, _, y1, y2⟩ := (dictVP prog w m c).kp.st z₁ k₂
    have tI : Shared.TypeIs { s with heap := h₂, toks := t₂ } (.ref d) "dict" := by
      obtain ⟨xs, h1, _⟩ := y2
      exact Heap.DictOfH.typeIs (s := { s with heap := h₂, toks := t₂ }) h1
    exact tail_any (T := "dict") tI slot_dict_getitem.lookup (dk_get (s := { s with heap := h₂, toks := t₂ }) y2 z₂ hm R fun u tk rv => K u _ _ (k₁.trans k₂) rv) (hs _ _))

theorem Ex.meth {es : List Expr} {fa : Addr} {o : Obj} {fd : FuncData} {yy : Option Value} {ps : List VP} (hx : (x, Ent.res P) ∈ ρ) (hr : P.root = .ref a) (hp : ∀ {X : List Addr} {h : Heap}, P.P X h → AttrsAt h X a dx C al) (cl : ClsAt ht C N mN) (hf : mN name = some (.ref fa)) (ho : ht.get? fa = some o) (hfc : o.cls = .type "function") (hdat : o.data = .func fd)
    (hng : mN "__getattribute__" = none) (hnh : mN "__getattr__" = none) (hsh : name ∉ al.map (·.1)) (hB : typeLookup (.type "object") name = pure yy) (hs : EvS prog w ht n sc ρ (e :: es) (ps.map VP.kp)) (hc : FnR prog w ht n (.ref fa) P ps P' Rr)
    (has : P'.as = P.as) (hr' : P'.root = P.root) (hρ : Upr x P' ρ ρ') (y : Ex prog w ht n sc ρ' rest po)
    (he : ∀ env, starEach (e :: es) env = (false, eval e env) :: starEach es env := by intro _; rfl)
    (hev : ∀ env, ∃ pl, eval (.Call (.Attribute (.Name x xp) name apos) (e :: es) [] cpos) env = (do
      let ov ← eval (.Name x xp) env
      standAt apos.atName
      let (f, first) ← holding [ov] (getMethod ov name pl)
      callWith cpos f first (backTo cpos (starEach (e :: es) env)) (backToKw cpos (keywordEach [] env))) := by intro _; exact ⟨_, rfl⟩)
    (hi : ∀ env : Env, env.scope.kind = .function → interactive env = false := by intro _ h; unfold interactive; rw [h]; rfl) (hsw : ∀ env, swapsWith (.Call (.Attribute (.Name x xp) name apos) (e :: es) [] cpos) none pos.line env = pure false := by intro _; rfl)
    (hd : (x == ("__debug__" : Str)) = false := by decide) (hn : (x == ("__classdict__" : Str)) = false := by decide) :
    Ex prog w ht n sc ρ (.Expr (.Call (.Attribute (.Name x xp) name apos) (e :: es) [] cpos) pos :: rest) po := @fun A env hb B X₀ X s Q E R ae k0 al' O S K => by
  refine wpAny_execs_cons (wpAny_Expr_any ?_ (hi _ S.st.ge.kind) (hsw _))
  obtain ⟨pl, hev⟩ := hev env
  refine methodCall_KW ?_ hev
  obtain ⟨q1, q2, q3⟩ := sf_res S hx
  rw [hr] at q1
  refine wpAny_Name (load_var S.st.ge.kind q1 ?_ hn) hd
  obtain ⟨o', m, h1, h2, h3, h4, h5, h6, h7, h8⟩ := hp q3
  obtain ⟨nm, q, bs, sn, sub, col, dd, c0, c1, c2, c3, c5, hC⟩ := (cl.keeps S.st.top).obj
  have hsm : m name = Option.none := by
    cases q : m name with
    | none => rfl
    | some u => exact absurd (h8 name (by rw [q]; simp)) hsh
  refine method_of hC (cl.keeps S.st.top).ns hng hnh hf (S.st.top _ _ ho) hfc hB (AttrsAt.inst (l := al) (X := X) h1 h2 h3 h4 h5 h6) hsm ?_
  refine callWith_meth hdat ho (hs R ae S.st fun vs h₂ t₂ k₂ z₂ => ⟨(S.kp k₂).st.top, ?_⟩) (he _)
  have S₂ := S.kp k₂
  obtain ⟨_, r2, r3⟩ := sf_res S₂ hx
  have cc := hc (A := A) (X := X) (s := { s with heap := h₂, toks := t₂ }) (vs := vs) (Q := fun v s' => wpAny (model prog w) A (execs rest env) Q E s') (E := E) R S₂.st.top S.st.xn S₂.st.xal (fun b m => (r2 b m).2) r3 (by
    have : ∀ {vs : List Value} {ps : List VP}, PsA X s.heap h₂ vs (ps.map VP.kp) → PsA X h₂ h₂ vs (ps.map VP.kp) := by
      intro vs ps
      induction ps generalizing vs with
      | nil => intro z; cases z; exact .nil
      | cons p ps ih => intro z; cases z with | cons a b => exact .cons a (ih b)
    exact this z₂) fun d v h' tk hR rv k pp alv => y R ae k0 al' O (S₂.upr hx has hr' hρ k alv pp) (K.at h' tk)
  rw [hr] at cc
  exact cc
end
noncomputable def Post.Grows : Post → Prop
  | .ret _ => True
  | .grow _ _ => True
  | _ => False
theorem Post.K.wide {ht hb : Heap} {B X₀ X X' : List Addr} {env : Env} {s : Shared} {Q : Flow → Shared → Prop} {po : Post} (hp : po.Grows) (k : po.K ht hb B X₀ X env s Q) (h1 : ∀ b ∈ X, b ∈ X') (h2 : ∀ b ∈ X', b ∈ X ∨ hb.get? b = none) : po.K ht hb B X₀ X' env s Q := by
  cases po with
  | ret r => exact k
  | grow ι ρs => exact ⟨fun b m => h1 b (k.1 b m), fun i X'' h' tk h3 h4 S => k.2 i X'' h' tk (fun b m => h3 b (h1 b m)) (fun b m => (h4 b m).elim (h2 b) .inr) S⟩
  | _ => exact hp.elim
theorem Post.K.inB {ht hb : Heap} {B X₀ X : List Addr} {env : Env} {s : Shared} {Q : Flow → Shared → Prop} {po : Post} (hp : po.Grows) (k : po.K ht hb B X₀ X env s Q) : ∀ b ∈ B, b ∈ X := by
  cases po with
  | ret r => rw [k.1]; exact fun b m => nomatch m
  | grow ι ρs => exact k.1
  | _ => exact hp.elim
noncomputable def nomap : List Int → Option PyData := fun _ => none
section
variable {prog : Program} {w : World} {ht : Heap} {n : Nat} {sc : Scope} {ρ ρ' ρ₁ ρ₂ : Rho} {p q r : KP} {e l f e1 e2 ix : Expr} {pos apos spos cpos : Pos} {po : Post} {rest body b o : List Stmt} {x y : Str} {xp fp yp : Pos} {P P' : RP} {Rr : PyData → Prop} {as : List Addr}
  {C N a dx d : Addr} {mN : Str → Option Value} {al : List (Str × VP)} {name : Str} {vp : VP} {m : List Int → Option PyData} {c : Nat} {k : List Int}
theorem dk_new {h : Heap} {X : List Addr} : Dk prog w (h.push { cls := .type "dict", data := .dict #[] }) X h.objs.size nomap 0 :=
  ⟨[], Heap.DictOfH.new h, Nat.le_refl _, (fun _ m => by cases m), (fun k => rfl), fun k a v e h => by cases h⟩
theorem size_gt {h : Heap} {b : Addr} {o : Obj} (e : h.get? b = some o) : b < h.objs.size := Heap.lt_size e
theorem Ev.dict0 : Ev prog w ht n sc ρ (.Dict [] [] pos) (kdk prog w nomap 0) := fun _ _ _ _ _ _ R a S K =>
  wpAny_Dict_empty (K _ _ _ (Kp.push _) ⟨_, rfl, fresh_size _, fun b o e => Heap.lt_size e, dk_new⟩)
theorem Ev.dict1 {v : PyData} (hk : Ev prog w ht n sc ρ l (kim (.tuple (intL k)))) (hv : Ev prog w ht n sc ρ e (kim v)) : Ev prog w ht n sc ρ (.Dict [some l] [e] pos) (kdk prog w (put nomap k v) 1) := fun A env X s Q E R a S K => by
  refine wpAny_Dict_any rfl rfl nofun (by show 1 ≤ 15; decide) ?_
  have S₁ := Sf.grow (X' := s.heap.objs.size :: X) (⟨S, fun _ _ _ e => e, fun b m => .inl (S.fx b m), fun z p m b mb => .inl (let ⟨_, _, q⟩ := S.vars _ m; (q.1 b mb).2)⟩ : Sf ht s.heap X env X ρ s.heap) (Kp.push { cls := .type "dict", data := .dict #[] })
    (fun b m => (List.mem_cons.mp m).elim (fun q => .inr (q ▸ fresh_size _)) .inl) (fun _ m => .tail _ m) fun b m => by
      rcases List.mem_cons.mp m with rfl | m
      · exact ⟨_, Heap.get?_push_size _ rfl⟩
      · obtain ⟨o, e⟩ := S.xal b m
        exact ⟨o, Kp.push _ _ _ e⟩
  refine pairTrees_cons_walk (hk R a S₁.st fun u h₁ t₁ k₁ z₁ => hv R a (S₁.kp k₁).st fun u2 h₂ t₂ k₂ z₂ => pairTrees_nil_walk ?_)
  have z₁ : Rv h₁ (s.heap.objs.size :: X) u (.tuple (intL k)) := z₁
  have hfr : ∀ b o, s.heap.get? b = some o → b < s.heap.objs.size := fun b o e => Heap.lt_size e
  have D : Dk prog w h₂ (s.heap.objs.size :: X) s.heap.objs.size nomap 0 := Dk.step dk_new ((k₁.trans k₂).kpx _) (fun o e => (k₁.trans k₂) _ _ e) fun _ m => .inl m
  have f0 := fresh_size s.heap
  have kk : Kp s.heap h₂ := (Kp.push _).trans (k₁.trans k₂)
  have xal : ∀ b ∈ X, ∃ o, s.heap.get? b = some o := S.xal
  dsimp only
  generalize s.heap.objs.size = d at *
  unfold storeAll
  rw [List.forIn_cons]
  obtain ⟨ka, rfl, na, hk'⟩ := rv_key (prog := prog) (w := w) (z₁.kp k₂)
  obtain ⟨xs, h1, hl, h0, h2, h3⟩ := D
  refine wpAny_bind (wpAny_bind (wpAny_dictSet_heap (s := { s with heap := h₂, toks := t₂ }) (knd := kd prog w) (by have := R.u; show A.units < cLine; (first | assumption | exact Nat.le_refl _ | exact Nat.add_le_add_left (by decide) _ | exact Nat.le_trans (by assumption) (by decide) | omega)) hk' h1 (fun h' hm hs => wpAny_pure ?_) (Nat.le_trans hl (sizeLine_big (by decide)))))
  dsimp only
  rw [List.forIn_nil]
  refine wpAny_pure (K _ h' _ (fun b o e => (hs.2 b fun q => by rw [q, f0] at e; cases e).trans (kk _ _ e)) ⟨d, rfl, f0, hfr, storedH xs k ka u2, hm, Nat.le_trans storedH_len (Nat.succ_le_succ hl), fun y my => ?_, fun k' => ?_, fun k' b z e' e1 e2 => ?_⟩)
  · rcases mem_storedH my with ⟨y', my', _, q⟩ | ⟨_, q⟩
    · rw [q]; exact h0 y' my'
    · rw [q]; exact na
  · obtain ⟨b, q⟩ := atKey_stored (xs := xs) (k := k) (k' := k') (a := ka) (v := u2)
    rw [q]
    unfold put
    split
    · rfl
    · exact h2 k'
  · have kX : KpX (d :: X) h₂ h' := fun b o n e => (hs.2 b fun q => n (q ▸ .head _)).trans e
    obtain ⟨b', q⟩ := atKey_stored (xs := xs) (k := k) (k' := k') (a := ka) (v := u2)
    rw [q] at e1
    unfold put at e2
    split at e2
    · rename_i hkk
      rw [if_pos hkk] at e1
      cases e1; cases e2
      exact Rv.step kX (fun _ m => .inl m) z₂
    · cases e2

theorem Ex.setattrD {P' : Addr → RP} {ρ' : Addr → Rho} (hx : (x, Ent.res P) ∈ ρ) (hr : P.root = .ref a) (hp : ∀ {X : List Addr} {h : Heap}, P.P X h → AttrsAt h X a dx C al) (ha : a ∈ P.as) (hdx : dx ∈ P.as) (cl : ClsAt ht C N mN) (he : Ev prog w ht n sc ρ e (kdk prog w m c)) (h3 : ∃ o, ht.get? 3 = some o)
    (hback : ∀ d {X : List Addr} {h h' : Heap}, P.P X h → (∀ b ∈ P.as, b ∈ X) → d ∈ X → KpX [a, dx] h h' → AttrsAt h' X a dx C (al ++ [(name, isv (.ref d))]) → DkO prog w h X d m c → d ∉ P.as → (P' d).P X h')
    (has : ∀ d, (P' d).as = P.as ++ [d]) (hr' : ∀ d, (P' d).root = P.root) (hρ : ∀ d, Upr x (P' d) ρ (ρ' d))
    (hns : mN "__setattr__" = none) (hna : mN name = none) (hB : typeLookup (.type "object") name = pure none) (hnew : name ∉ al.map (·.1)) (hz : al.length ≤ 100) (hpo : po.Grows) (y : ∀ d, Ex prog w ht n sc (ρ' d) rest po)
    (hs : ∀ env, swapsWith e (some (.Attribute (.Name x xp) name apos)) pos.line env = pure false := by intro _; rfl) (hd : (x == ("__debug__" : Str)) = false := by decide) (hn : (x == ("__classdict__" : Str)) = false := by decide) :
    Ex prog w ht n sc ρ (.Assign [.Attribute (.Name x xp) name apos] e pos :: rest) po := @fun A env hb B X₀ X s Q E R ae k0 al' O S K => by
  refine wpAny_execs_cons (plainObj_wpAny_Assign_Attribute (he R ae S.st fun v h₁ t₁ k₁ z₁ => ?_) (hs _))
  obtain ⟨d, rfl, fd, ld, D⟩ := z₁
  have nX : d ∉ X := fun m => by obtain ⟨o, q⟩ := S.st.xal d m; rw [fd] at q; cases q
  have g : ∃ o, h₁.get? d = some o := by obtain ⟨xs, ⟨o, es, ep, h1, _⟩, _⟩ := D; exact ⟨o, h1⟩
  have fdB := kpx_none S.base fd
  have ne1 : (d == sysModules) = false := by
    obtain ⟨o, e⟩ := h3
    have := ld 3 o (S.st.top _ _ e)
    exact beq_eq_false_iff_ne.mpr fun q => by rw [q] at this; exact absurd this (by decide)
  have S₁ : Sf ht hb B env (d :: X) ρ h₁ := Sf.grow S k₁ (fun b m => (List.mem_cons.mp m).elim (fun q => .inr (q ▸ fd)) .inl) (fun _ m => .tail _ m) fun b m => by
    rcases List.mem_cons.mp m with rfl | m
    · exact g
    · obtain ⟨o, e⟩ := S.st.xal b m
      exact ⟨o, k₁ _ _ e⟩
  obtain ⟨_, q2', _⟩ := sf_res S hx
  obtain ⟨q1, q2, q3⟩ := sf_res S₁ hx
  have nP : d ∉ P.as := fun m => nX (q2' d m).2
  rw [hr] at q1
  refine wpAny_Name (load_var S.st.ge.kind q1 ?_ hn) hd
  refine attrs_store (vp := isv (.ref d)) cl S₁.st.top (hp q3) (q2 _ ha).2 (q2 _ hdx).2 S₁.st.xn hns hna hB hnew hz rfl fun h' tk x' k' => ?_
  have nad : d ≠ a := fun q => nP (q ▸ ha)
  have ndd : d ≠ dx := fun q => nP (q ▸ hdx)
  have kd : ∀ o, h₁.get? d = some o → h'.get? d = some o := fun o e => k' d o (fun q => by
    rcases List.mem_cons.mp q with q | q
    · exact nad q
    · exact ndd (List.mem_singleton.mp q)) e
  have alv : ∀ b ∈ d :: X, ∃ o, h'.get? b = some o := fun b mb => by
    by_cases qa : b = a
    · obtain ⟨o, _, e, _⟩ := x'
      exact ⟨o, qa ▸ e⟩
    · by_cases qd : b = dx
      · obtain ⟨o, mm, _, _, _, _, _, ⟨od, _, _, e, _⟩, _⟩ := x'
        exact ⟨od, qd ▸ e⟩
      · obtain ⟨o, e⟩ := S₁.st.xal b mb
        exact ⟨o, k' b o (fun q => by
          rcases List.mem_cons.mp q with q | q
          · exact qa q
          · exact qd (List.mem_singleton.mp q)) e⟩
  have pp := hback d q3 (fun b m => (q2 b m).2) (.head _) k' x' ⟨ne1, D⟩ nP
  have kX : KpX (d :: X) h₁ h' := fun b o nb e => k' b o (fun q => nb (by
    rcases List.mem_cons.mp q with rfl | q
    · exact (q2 _ ha).2
    · rw [List.mem_singleton.mp q]; exact (q2 _ hdx).2)) e
  have nfr : ∀ b ∈ frameOf env, b ∉ [a, dx] := fun b m q => by
    rcases List.mem_cons.mp q with rfl | q
    · exact (q2 _ ha).1 m
    · rw [List.mem_singleton.mp q] at m; exact (q2 _ hdx).1 m
  have hcell : ∀ y c, env.cells.lookup y = some c → c ∈ frameOf env := fun y c q => .tail _ (List.mem_map.mpr ⟨(y, c), mem_of_lookup q, rfl⟩)
  have var : ∀ y u, VarIs env h₁ y u → VarIs env h' y u := fun y u q => by
    rcases q with ⟨p1, m, p2, p3⟩ | ⟨p1, c, p2, o, p3, p4⟩
    · exact .inl ⟨p1, m, p2.at' fun o e => k' _ _ (nfr _ (.head _)) e, p3⟩
    · exact .inr ⟨p1, c, p2, o, k' _ _ (nfr _ (hcell _ _ p2)) p3, p4⟩
  have S₂ : Sf ht hb B env (d :: X) (ρ' d) h' := by
    refine ⟨⟨fun b o e => k' b o (fun q => ?_) (S₁.st.top b o e), alv, S.st.ge, S₁.st.xn, S₁.st.fx, ?_, fun y c q => ?_, fun y m => ?_⟩, fun b o n e => k' b o (fun q => ?_) (S₁.base b o n e), S.fb, fun z p2 m b mb => ?_⟩
    · have : b ∈ d :: X := by
        rcases List.mem_cons.mp q with rfl | q
        · exact (q2 _ ha).2
        · rw [List.mem_singleton.mp q]; exact (q2 _ hdx).2
      rw [S₁.st.xn b this] at e; cases e
    · obtain ⟨m, e⟩ := S₁.st.ns
      exact ⟨m, e.at' fun o e => k' _ _ (nfr _ (.head _)) e⟩
    · obtain ⟨u, o, e, p⟩ := S₁.st.cl y c q
      exact ⟨u, o, k' _ _ (nfr _ (hcell _ _ q)) e, p⟩
    · rcases All.mem (hρ d) y m with rfl | ⟨h1, h2⟩
      · refine ⟨_, var _ _ q1, fun b mb => ?_, by rw [hr', hr], pp⟩
        have mb : b ∈ (P' d).as := mb
        rw [has] at mb
        rcases List.mem_append.mp mb with mb | mb
        · exact q2 b mb
        · rw [List.mem_singleton.mp mb]; exact ⟨fun m => nX (S.st.fx _ m), .head _⟩
      · obtain ⟨u, p1, p2⟩ := S₁.st.vars y h1
        refine ⟨u, var _ _ p1, ?_⟩
        cases hy : y.2 with
        | vp p => rw [hy] at p2; exact p.st p2 kX fun _ m => .inl m
        | res p2' =>
          rw [hy] at p2 h2
          obtain ⟨w1, w2, w3⟩ := p2
          exact ⟨w1, w2, p2'.st w3 kX (fun b m o e => k' b o (fun q => h2 b m (by
            rw [has]
            refine List.mem_append_left _ ?_
            rcases List.mem_cons.mp q with rfl | q
            · exact ha
            · rw [List.mem_singleton.mp q]; exact hdx)) e) (fun _ m => .inl m) fun b m => (w1 b m).2⟩
    · have : b ∈ P.as := by
        rcases List.mem_cons.mp q with rfl | q
        · exact ha
        · rw [List.mem_singleton.mp q]; exact hdx
      rcases S₁.ow x P hx b this with z | z
      · exact n z
      · rw [z] at e; cases e
    · rcases All.mem (hρ d) _ m with q | ⟨h1, _⟩
      · obtain ⟨rfl, q⟩ := Prod.mk.inj q
        cases q
        rw [has] at mb
        rcases List.mem_append.mp mb with mb | mb
        · exact S₁.ow _ _ hx b mb
        · rw [List.mem_singleton.mp mb]; exact fdB
      · exact S₁.ow _ _ h1 b mb
  have hbd : hb.get? d = none := fdB.elim (fun m => absurd (K.inB hpo d m) nX) id
  refine y d R ae k0 al' ⟨fun b m => .tail _ (O.sub b m), fun b m => ?_, O.cells⟩ S₂ ((K.at h' tk).wide hpo (fun _ m => .tail _ m) fun b m => ?_)
  · rcases List.mem_cons.mp m with rfl | m
    · exact .inr hbd
    · exact O.new b m
  · rcases List.mem_cons.mp m with rfl | m
    · exact .inr hbd
    · exact .inl m
end
section
variable {prog : Program} {w : World} {ht : Heap} {n : Nat}
theorem Fn.cls {mg mb : Str → Option Value} {C N fI : Addr} {mN : Str → Option Value} {oI : Obj} {fd : FuncData} {body : List Stmt} {z : Str} {names : List Str} {ps : List VP} {ι : Type} {ρs : Addr → Addr → ι → Rho} {P' : Addr → Addr → ι → RP} {r : KP} (T : TopF mg mb ht) (cl : ClsAt ht C N mN) (hi : mN "__init__" = some (.ref fI))
    (ho : ht.get? fI = some oI) (hfc : oI.cls = .type "function") (hd : oI.data = .func fd) (hcd : ht.CodeRec fd.code fd.qualname)
    (hb : fd.body = .stmts body) (hbind : ∀ vs : List Value, vs.length = names.length + 1 → bindArgs fd ⟨vs, []⟩ = pure ((z :: names).zip vs)) (hlen : ps.length = names.length) (hclo : fd.closure = [])
    (hkinds : All (fun x => fd.scope.names.lookup x = some .local ∨ fd.scope.names.lookup x = some .cell) (z :: names)) (hnd : (z :: names).Nodup) (hgl : fd.globals = mainGlobals) (hbu : fd.builtins = builtinsNs)
    (hnc : ((cellsFrom 0 fd.scope.names []).map (·.1)).Nodup)
    (hco : fd.scope.isCoroutine = false) (hgen : fd.scope.isGenerator = false) (hk : fd.scope.kind = .function)
    (hm : ∀ x dx i, (z, Ent.res (P' x dx i)) ∈ ρs x dx i)
    (hbody : ∀ x dx, Ex prog w ht n fd.scope ((z, .res (objR x dx C [])) :: names.zip (ps.map Ent.vp)) body (.grow ι (ρs x dx)))
    (hfin : ∀ x dx i {X X' : List Addr} {h₀ h : Heap}, (P' x dx i).P X' h → (∀ b ∈ X, b ∈ X') → (∀ b ∈ (P' x dx i).as, b ∉ X) → x ∉ X → dx ∉ X → r.P X h₀ h (.ref x)) : Fn prog w ht (n + 2) (.ref C) (ps.map VP.kp) r := fun A X h₀ s vs Q E R k0 hX al k1 zz K => by
  have kt := k0.trans k1
  have hl : vs.length = names.length := by rw [zz.len, List.length_map, hlen]
  obtain ⟨nm, q, bs, sn, sub, col, dd, c0, c1, c2, c3, c5, hC⟩ := (cl.keeps kt).obj
  have alive := al.kp k1
  obtain ⟨h, g, dw, t, os⟩ := s
  refine wpAny_call_obj_init PySem.F.objNew hC (cl.keeps kt).ns hi (kt _ _ ho) hfc fun h' x dx Mk => ?_
  have kk : Kp h h' := Mk.keeps
  have nx : x ∉ X := fun m => by obtain ⟨o, e⟩ := alive x m; have := Mk.newX; rw [e] at this; cases this
  have nd : dx ∉ X := fun m => by obtain ⟨o, e⟩ := alive dx m; have := Mk.newD; rw [e] at this; cases this
  obtain ⟨ox, hx, hcx, hncx, hdx⟩ := Mk.inst
  have hdd := Mk.dict ox hx
  have hnsd : dx ≠ x ∧ h'.Ns1 dx fun _ => none := by
    rcases hdx with ⟨hn0, _⟩ | ⟨d', hd', ne', hns'⟩
    · rw [hn0] at hdd; cases hdd
    · obtain rfl := Option.some.inj (hd'.symm.trans hdd); exact ⟨ne', hns'⟩
  have Y : AttrsAt h' (x :: dx :: X) x dx C [] := ⟨ox, fun _ => none, hx, hcx, hncx, hdd, hnsd.1, hnsd.2, (fun e me => by cases me), fun y hy => absurd rfl hy⟩
  have sub2 : ∀ b ∈ x :: dx :: X, b ∈ X ∨ h.get? b = none := fun b m => by
    rcases List.mem_cons.mp m with rfl | m
    · exact .inr Mk.newX
    · rcases List.mem_cons.mp m with rfl | m
      · exact .inr Mk.newD
      · exact .inl m
  refine call_frame (X := x :: dx :: X) (B := [x, dx]) (names := z :: names) (ρ := (z, .res (objR x dx C [])) :: names.zip (ps.map Ent.vp)) (s := ⟨h', g, dw, t, os⟩) T ho hd hcd hb (hbind _ (by rw [List.length_cons, hl])) (by rw [List.length_cons, List.length_cons, hl]) hclo hkinds hnd hgl hbu hnc hco hgen hk ?_ (kt.trans kk) (fun b m => ?_) (fun b m => ?_) (fun y hy => ?_) fun env h₁ tk E' hsc O S => ?_
  · have := R.2.1
    show A.depth + 1 < _
    (first | assumption | exact Nat.le_refl _ | exact Nat.add_le_add_left (by decide) _ | exact Nat.le_trans (by assumption) (by decide) | omega)
  · rcases sub2 b m with q | q
    · exact hX b q
    · exact none_of_kp kt q
  · rcases List.mem_cons.mp m with rfl | m
    · exact ⟨_, hx⟩
    · rcases List.mem_cons.mp m with rfl | m
      · obtain ⟨_, o, _, _, e, _⟩ := hnsd; exact ⟨o, e⟩
      · exact alive.kp kk b m
  · rcases List.mem_cons.mp hy with rfl | hy
    · refine ⟨.ref x, by rw [List.zip_cons_cons]; exact .head _, fun b m => ?_, rfl, Y⟩
      rcases List.mem_cons.mp m with rfl | m
      · exact ⟨.head _, .head _⟩
      · rw [List.mem_singleton.mp m]; exact ⟨.tail _ (.head _), .tail _ (.head _)⟩
    · obtain ⟨v, p, h1, h2, h3⟩ := psa_mem zz y hy
      exact ⟨v, by rw [List.zip_cons_cons]; exact .tail _ h1, by rw [h2]; exact p.st h3 (kk.kpx _) sub2⟩
  · refine hbody x dx (s := ⟨h₁, g, dw, tk, os⟩) (E := E') ⟨R.1, ?_, ?_⟩ hsc (kt.trans kk) (fun b m => ?_) O S ⟨fun b m => ?_, fun i X' h'' tk' hX1 hX2 S' => ?_⟩
    · have := R.2.1
      show A.depth + 1 + 1 + n < _
      (first | assumption | exact Nat.le_refl _ | exact Nat.add_le_add_left (by decide) _ | exact Nat.le_trans (by assumption) (by decide) | omega)
    · have := R.2.2
      show A.units + 1 + 3 + 10 * n + 100 < _
      (first | assumption | exact Nat.le_refl _ | exact Nat.add_le_add_left (by decide) _ | exact Nat.le_trans (by assumption) (by decide) | omega)
    · rcases List.mem_cons.mp m with rfl | m
      · exact ⟨_, hx⟩
      · rcases List.mem_cons.mp m with rfl | m
        · obtain ⟨_, o, _, _, e, _⟩ := hnsd; exact ⟨o, e⟩
        · exact alive.kp kk b m
    · refine List.mem_append_right _ ?_
      rcases List.mem_cons.mp m with rfl | m
      · exact .head _
      · rw [List.mem_singleton.mp m]; exact .tail _ (.head _)
    · obtain ⟨u, _, q1, q2, q3⟩ := S'.st.vars _ (hm x dx i)
      have kf : Kp h h'' := fun b o e => S'.base b o (fun m => by
        rcases List.mem_cons.mp m with rfl | m
        · have := Mk.newX; rw [e] at this; cases this
        · rw [List.mem_singleton.mp m] at e; have := Mk.newD; rw [e] at this; cases this) (kk _ _ e)
      refine ⟨rfl, K (.ref x) h'' tk' kf (hfin x dx i q3 (fun b m => hX1 b (List.mem_append_right _ (.tail _ (.tail _ m)))) (fun b m mX => ?_) nx nd)⟩
      rcases S'.ow _ _ (hm x dx i) b m with q | q
      · rcases List.mem_cons.mp q with rfl | q
        · exact nx mX
        · rw [List.mem_singleton.mp q] at mX; exact nd mX
      · obtain ⟨o, e⟩ := alive b mX
        rw [kk _ _ e] at q; cases q
end

section
variable {prog : Program} {w : World} {ht : Heap} {n : Nat} {sc : Scope} {ρ ρ' ρ₁ ρ₂ : Rho} {p q r : KP} {e l f e1 e2 ix : Expr} {pos apos spos cpos : Pos} {po : Post} {rest body b o : List Stmt} {x y : Str} {xp fp yp : Pos} {P P' : RP} {Rr : PyData → Prop} {as : List Addr}
theorem op_mul (a b : Int) (hm : IntMulOk a b) : Op2 prog w n (binaryOp .Mult) (kim (.int a)) (kim (.int b)) (kim (.int (a * b))) := fun _ _ _ _ _ _ _ _ _ _ _ x y K => by
  cases x; cases y; exact PyProof.Rows.mul_int (K _ _ _ (Kp.refl _) (.int _ _)) hm
theorem op_mod (a b : Int) (hb : b ≠ 0) : Op2 prog w n (binaryOp .Mod) (kim (.int a)) (kim (.int b)) (kim (.int (a.fmod b))) := fun _ _ _ _ _ _ _ _ _ _ _ x y K => by
  cases x; cases y; exact mod_int' hb (K _ _ _ (Kp.refl _) (.int _ _))
theorem op_fdiv (a b : Int) (hb : b ≠ 0) (hs : b.natAbs.log2 < 9000) : Op2 prog w n (binaryOp .FloorDiv) (kim (.int a)) (kim (.int b)) (kim (.int (a.fdiv b))) := fun _ _ _ _ _ _ _ _ _ _ _ x y K => by
  cases x; cases y; exact floordiv_int hb (K _ _ _ (Kp.refl _) (.int _ _)) (.inl (PyProof.noPylong_of_log2 hs))
theorem op_neL {ds es : List PyData} (h1 : SeqAt.shaped (.list ds) = true) (h2 : SeqAt.shaped (.list es) = true) : Op2 prog w n (compareOp .NotEq) (ksl ds) (kim (.list es)) (kim (.bool (!PyData.eqv (.list ds) (.list es)))) := fun _ _ _ _ _ _ _ _ R _ _ x y K => by
  obtain ⟨a, vs, c, rfl, g, r⟩ := x
  obtain ⟨as, r⟩ := RvA.reads r
  obtain ⟨bs, y⟩ := Rv.reads y
  exact ne_dataH (.list g rfl rfl (by simpa using r)) y h1 h2 (by have := R.u; (first | assumption | exact Nat.le_refl _ | exact Nat.add_le_add_left (by decide) _ | exact Nat.le_trans (by assumption) (by decide) | omega)) (K _ _ _ (Kp.refl _) (.bool _))
theorem op_eqL {ds es : List PyData} (h1 : SeqAt.shaped (.list ds) = true) (h2 : SeqAt.shaped (.list es) = true) : Op2 prog w n (compareOp .Eq) (kim (.list ds)) (ksl es) (kim (.bool (PyData.eqv (.list ds) (.list es)))) := fun _ _ _ _ _ _ _ _ R _ _ y x K => by
  obtain ⟨a, vs, c, rfl, g, r⟩ := x
  obtain ⟨as, r⟩ := RvA.reads r
  obtain ⟨bs, y⟩ := Rv.reads y
  exact eq_dataH y (.list g rfl rfl (by simpa using r)) h1 h2 (by have := R.u; (first | assumption | exact Nat.le_refl _ | exact Nat.add_le_add_left (by decide) _ | exact Nat.le_trans (by assumption) (by decide) | omega)) (K _ _ _ (Kp.refl _) (.bool _))

theorem Ex.open_ {ι : Type} {P' : ι → RP} {ρ' : ι → Rho} (hx : (x, Ent.res P) ∈ ρ) (ho : ∀ {X : List Addr} {h : Heap}, P.P X h → ∃ i, (P' i).P X h) (has : ∀ i, (P' i).as = P.as) (hr : ∀ i, (P' i).root = P.root) (hρ : ∀ i, Upr x (P' i) ρ (ρ' i)) (y : ∀ i, Ex prog w ht n sc (ρ' i) body po) : Ex prog w ht n sc ρ body po := @fun A env hb B X₀ X s Q E R a k0 al O S K => by
  obtain ⟨_, q2, q3⟩ := sf_res S hx
  obtain ⟨i, qi⟩ := ho q3
  exact y i R a k0 al O (S.upr hx (has i) (hr i) (hρ i) (fun _ _ _ e => e) (fun b m => S.st.xal b (q2 b m).2) qi) K
theorem Ex.cast (hx : (x, Ent.res P) ∈ ρ) (ho : ∀ {X : List Addr} {h : Heap}, P.P X h → P'.P X h) (has : P'.as = P.as) (hr : P'.root = P.root) (hρ : Upr x P' ρ ρ') (y : Ex prog w ht n sc ρ' body po) : Ex prog w ht n sc ρ body po :=
  Ex.open_ (ι := Unit) (P' := fun _ => P') (ρ' := fun _ => ρ') hx (fun z => ⟨(), ho z⟩) (fun _ => has) (fun _ => hr) (fun _ => hρ) fun _ => y

noncomputable abbrev deckKv (b : Addr) (mixed turn : Int) (t1 t2 : Tok) : List (Str × Value) := [(Str.ofString "cells", .ref b), (Str.ofString "mixed", .int mixed t1), (Str.ofString "turn", .int turn t2)]
noncomputable def deckS (prog : Program) (w : World) (a b : Addr) (cells : List Int) (mixed turn : Int) : RP := ⟨[a, b], .ref a, fun X h => (∃ t1 t2, h.DictOf (strKind prog w) a (deckKv b mixed turn t1 t2)) ∧ ∃ vs c, h.get? b = some (lstO vs c) ∧ RvA h X vs (intL cells),
  fun ⟨⟨t1, t2, x⟩, vs, c, g, r⟩ k ka hX _ => ⟨⟨t1, t2, x.at fun o e => ka _ (.head _) o e⟩, vs, c, ka _ (.tail _ (.head _)) _ g, r.step k hX⟩⟩
noncomputable def deckP (prog : Program) (w : World) (a b : Addr) (c : Nat) : RP := ⟨[a, b], .ref a, fun X h => ∃ cells mixed turn, (cells.length ≤ 16 ∧ 0 ≤ turn ∧ turn ≤ (c : Int)) ∧ (deckS prog w a b cells mixed turn).P X h,
  fun ⟨cells, mixed, turn, hh, x⟩ k ka hX hb => ⟨cells, mixed, turn, hh, (deckS prog w a b cells mixed turn).st x k ka hX hb⟩⟩
theorem deck_ne {prog : Program} {w : World} {a b : Addr} {cells : List Int} {mixed turn : Int} {X : List Addr} {h : Heap} (x : (deckS prog w a b cells mixed turn).P X h) : a ≠ b := by
  obtain ⟨⟨t1, t2, o, es, ep, h1, h2, h3, _⟩, vs, c, g, _⟩ := x
  rintro rfl
  rw [h1] at g
  cases g
  cases h3
variable {A : Around} {s : Shared} {X : List Addr} {Q : Value → Shared → Prop} {E : Value → Shared → Prop} {a b' : Addr} {cells : List Int} {mixed turn : Int}
theorem deck_get {key : Str} {tk : Tok} (x : (deckS prog w a b' cells mixed turn).P X s.heap) (K : ∀ u tk, ((key = Str.ofString "cells" ∧ u = .ref b') ∨ (key = Str.ofString "mixed" ∧ ∃ t, u = .int mixed t) ∨ (key = Str.ofString "turn" ∧ ∃ t, u = .int turn t)) → Q u { s with toks := tk })
    (hk : key = Str.ofString "cells" ∨ key = Str.ofString "mixed" ∨ key = Str.ofString "turn") : wpAny (model prog w) A (getItem (.ref a) (.str key tk)) Q E s := by
  obtain ⟨⟨t1, t2, x⟩, _⟩ := x
  have is : (strKind prog w).is key (.str key tk) = true := by show Value.isStrOf key (.str key tk) = true; simp [Value.isStrOf]
  rcases hk with rfl | rfl | rfl
  · exact wpAny_getItem_of is x.mapOf rfl (K _ _ (.inl ⟨rfl, rfl⟩))
  · exact wpAny_getItem_of is x.mapOf rfl (K _ _ (.inr (.inl ⟨rfl, _, rfl⟩)))
  · exact wpAny_getItem_of is x.mapOf rfl (K _ _ (.inr (.inr ⟨rfl, _, rfl⟩)))
theorem deck_set {v : Int} {tk tv : Tok} {Q : Unit → Shared → Prop} (x : (deckS prog w a b' cells mixed turn).P X s.heap) (ha : a ∈ X) (K : ∀ h' tk, (deckS prog w a b' cells mixed v).P X h' → KpX [a] s.heap h' → Q () { s with heap := h', toks := tk }) : wpAny (model prog w) A (setItem (.ref a) (.str (Str.ofString "turn") tk) (.int v tv)) Q E s := by
  have ne := deck_ne x
  obtain ⟨⟨t1, t2, x⟩, vs, c, g, r⟩ := x
  have is : (strKind prog w).is (Str.ofString "turn") (.str (Str.ofString "turn") tk) = true := by show Value.isStrOf (Str.ofString "turn") (.str (Str.ofString "turn") tk) = true; simp [Value.isStrOf]
  refine wpAny_setItem_pairs is x (fun h' x' hs => ?_) (sizeLine_big (by show 3 ≤ 1000; decide))
  have kx : KpX [a] s.heap h' := fun b o n e => (hs.2 b fun q => n (List.mem_singleton.mpr q)).trans e
  exact K h' _ ⟨⟨t1, tv, x'⟩, vs, c, (hs.2 b' (Ne.symm ne)).trans g, r.step (fun b o n e => kx b o (fun q => n (by rw [List.mem_singleton.mp q]; exact ha)) e) fun _ m => .inl m⟩ kx
theorem Ev.deckI {key : Str} {k : Nat} {cp : Pos} {v : Int} (hx : (x, Ent.res (deckS prog w a b' cells mixed turn)) ∈ ρ) (hk : (key = Str.ofString "mixed" ∧ v = mixed) ∨ (key = Str.ofString "turn" ∧ v = turn))
    (hd : (x == ("__debug__" : Str)) = false := by decide) (hn : (x == ("__classdict__" : Str)) = false := by decide) (hs : ∀ o i, subscripted (.Constant (.str key) k cp) false o i = operate [o, i] (getItem o i) := by intro _ _; with_unfolding_all rfl) :
    Ev prog w ht n sc ρ (.Subscript (.Name x xp) (.Constant (.str key) k cp) pos) (kim (.int v)) := fun A env X s Q E R _ S K => by
  obtain ⟨u, q1, _, rfl, q3⟩ := S.vars _ hx
  refine Subscript_ (wpAny_Name (load_var S.ge.kind q1 (wpAny_Constant_str ?_) hn) hd)
  have tI : Shared.TypeIs { s with toks := s.toks + 1 } (.ref a) "dict" := by
    obtain ⟨⟨t1, t2, x⟩, _⟩ := q3
    exact x.typeIs
  refine tail_any (T := "dict") tI slot_dict_getitem.lookup (deck_get (s := { s with toks := s.toks + 1 }) q3 (fun u tk hu => ?_) (hk.elim (fun q => .inr (.inl q.1)) fun q => .inr (.inr q.1))) (hs _ _)
  rcases hu with ⟨e, rfl⟩ | ⟨e, t, rfl⟩ | ⟨e, t, rfl⟩
  · rcases hk with ⟨q, _⟩ | ⟨q, _⟩ <;> rw [q] at e <;> exact absurd e (by decide)
  · rcases hk with ⟨q, rfl⟩ | ⟨q, _⟩
    · exact K _ _ _ (Kp.refl _) (.int _ _)
    · rw [q] at e; exact absurd e (by decide)
  · rcases hk with ⟨q, _⟩ | ⟨q, rfl⟩
    · rw [q] at e; exact absurd e (by decide)
    · exact K _ _ _ (Kp.refl _) (.int _ _)
theorem deck_list {A : Around} {env : Env} {hb : Heap} {B X : List Addr} {s : Shared} {Q : Value → Shared → Prop} {E : Value → Shared → Prop} {k : Nat} {cp : Pos} (S : St ht env X ρ s.heap) (hx : (x, Ent.res (deckS prog w a b' cells mixed turn)) ∈ ρ) (K : ∀ tk, Q (.ref b') { s with toks := tk })
    (hd : (x == ("__debug__" : Str)) = false := by decide) (hn : (x == ("__classdict__" : Str)) = false := by decide) (hs : ∀ o i, subscripted (.Constant (.str (Str.ofString "cells")) k cp) false o i = operate [o, i] (getItem o i) := by intro _ _; with_unfolding_all rfl) :
    wpAny (model prog w) A (eval (.Subscript (.Name x xp) (.Constant (.str (Str.ofString "cells")) k cp) pos) env) Q E s := by
  obtain ⟨u, q1, _, rfl, q3⟩ := S.vars _ hx
  refine Subscript_ (wpAny_Name (load_var S.ge.kind q1 (wpAny_Constant_str ?_) hn) hd)
  have tI : Shared.TypeIs { s with toks := s.toks + 1 } (.ref a) "dict" := by
    obtain ⟨⟨t1, t2, x⟩, _⟩ := q3
    exact x.typeIs
  refine tail_any (T := "dict") tI slot_dict_getitem.lookup (deck_get (s := { s with toks := s.toks + 1 }) q3 (fun u tk hu => ?_) (.inl rfl)) (hs _ _)
  rcases hu with ⟨e, rfl⟩ | ⟨e, t, rfl⟩ | ⟨e, t, rfl⟩
  · exact K _
  · exact absurd e (by decide)
  · exact absurd e (by decide)
theorem Ev.deckL {k : Nat} {cp : Pos} (hx : (x, Ent.res (deckS prog w a b' cells mixed turn)) ∈ ρ) (hd : (x == ("__debug__" : Str)) = false := by decide) (hn : (x == ("__classdict__" : Str)) = false := by decide) :
    Ev prog w ht n sc ρ (.Subscript (.Name x xp) (.Constant (.str (Str.ofString "cells")) k cp) pos) (ksl (intL cells)) := fun A env X s Q E R _ S K => by
  refine deck_list (hb := s.heap) (B := []) S hx (fun tk => K _ _ _ (Kp.refl _) ?_) hd hn
  obtain ⟨u, q1, _, _, q3⟩ := S.vars _ hx
  obtain ⟨_, vs, c, g, r⟩ := q3
  exact ⟨b', vs, c, rfl, g, r⟩
theorem Ex.deckTurn {v : Int} {k : Nat} {cp : Pos} (hx : (x, Ent.res (deckS prog w a b' cells mixed turn)) ∈ ρ) (he : Ev prog w ht n sc ρ e (kim (.int v))) (hρ : Upr x (deckS prog w a b' cells mixed v) ρ ρ') (yy : Ex prog w ht n sc ρ' rest po)
    (hs : ∀ env, swapsWith e (some (.Subscript (.Name x xp) (.Constant (.str (Str.ofString "turn")) k cp) spos)) pos.line env = pure false := by intro _; rfl) (hd : (x == ("__debug__" : Str)) = false := by decide) (hn : (x == ("__classdict__" : Str)) = false := by decide) :
    Ex prog w ht n sc ρ (.Assign [.Subscript (.Name x xp) (.Constant (.str (Str.ofString "turn")) k cp) spos] e pos :: rest) po := @fun A env hb B X₀ X s Q E R ae k0 al O S K => by
  refine wpAny_execs_cons (wpAny_Assign_Subscript (he R ae S.st fun u h₁ t₁ k₁ z₁ => ?_) (hs _))
  have S₁ := S.kp k₁
  obtain ⟨q1, q2, q3⟩ := sf_res S₁ hx
  refine wpAny_Name (load_var S.st.ge.kind q1 (wpAny_Constant_str ?_) hn) hd
  cases z₁
  refine deck_set (s := { s with heap := h₁, toks := t₁ + 1 }) q3 (q2 _ (.head _)).2 fun h' tk x' k' => ?_
  refine yy R ae k0 al O (S₁.upr (p' := deckS prog w a b' cells mixed v) hx rfl rfl hρ (fun b o nb e => k' b o (fun m => nb (by rw [List.mem_singleton.mp m]; exact .head _)) e) (fun b m => ?_) x') (K.at _ _)
  obtain ⟨⟨_, _, o, _, _, e, _⟩, vs, c, g, _⟩ := x'
  rcases List.mem_cons.mp m with rfl | m
  · exact ⟨o, e⟩
  · rw [List.mem_singleton.mp m]; exact ⟨_, g⟩
theorem deck_upd {h h' : Heap} {vs' : List Value} {c' : Nat} {cells' : List Int} (x : (deckS prog w a b' cells mixed turn).P X h) (g : h'.get? b' = some (lstO vs' c')) (k : KpX [b'] h h') (r : RvA h' X vs' (intL cells')) : (deckS prog w a b' cells' mixed turn).P X h' := by
  have ne := deck_ne x
  obtain ⟨⟨t1, t2, x⟩, _⟩ := x
  exact ⟨⟨t1, t2, x.at fun o e => k _ _ (fun m => ne (List.mem_singleton.mp m)) e⟩, vs', c', g, r⟩
theorem deck_alive {h' : Heap} (x : (deckS prog w a b' cells mixed turn).P X h') : ∀ b ∈ [a, b'], ∃ o, h'.get? b = some o := fun b m => by
  obtain ⟨⟨_, _, o, _, _, e, _⟩, vs, c, g, _⟩ := x
  rcases List.mem_cons.mp m with rfl | m
  · exact ⟨o, e⟩
  · rw [List.mem_singleton.mp m]; exact ⟨_, g⟩
theorem Ex.deckApp {v : Int} {k : Nat} {cp : Pos} (hx : (x, Ent.res (deckS prog w a b' cells mixed turn)) ∈ ρ) (he : Ev prog w ht n sc ρ e (kim (.int v))) (hρ : Upr x (deckS prog w a b' (cells ++ [v]) mixed turn) ρ ρ') (hz : cells.length ≤ 1000) (yy : Ex prog w ht n sc ρ' rest po)
    (hbase : ∀ env, attributeBase (.Subscript (.Name x xp) (.Constant (.str (Str.ofString "cells")) k cp) spos) "append" env (eval (.Subscript (.Name x xp) (.Constant (.str (Str.ofString "cells")) k cp) spos) env) = eval (.Subscript (.Name x xp) (.Constant (.str (Str.ofString "cells")) k cp) spos) env := by intro _; rfl)
    (hfew : ∀ env, ((backTo cpos (starEach [e] env)).all (fun x => !x.1) && (backToKw cpos (keywordEach [] env)).all (fun x => x.1.isSome)
      && decide (([e] : List Expr).length + ([] : List Keyword).length + (if ([] : List Keyword).isEmpty then 0 else 1) < 30)) = true := by intro _; rfl)
    (hline : (apos.endLine == cpos.line) = true := by rfl)
    (htrees : ∀ env, backTo cpos (starEach [e] env) = [(false, eval e env)] := by intro _; rfl)
    (hi : ∀ env : Env, env.scope.kind = .function → interactive env = false := by intro _ h; unfold interactive; rw [h]; rfl) (hs : ∀ env, swapsWith (.Call (.Attribute (.Subscript (.Name x xp) (.Constant (.str (Str.ofString "cells")) k cp) spos) "append" apos) [e] [] cpos) none pos.line env = pure false := by intro _; rfl)
    (hd : (x == ("__debug__" : Str)) = false := by decide) (hn : (x == ("__classdict__" : Str)) = false := by decide) :
    Ex prog w ht n sc ρ (.Expr (.Call (.Attribute (.Subscript (.Name x xp) (.Constant (.str (Str.ofString "cells")) k cp) spos) "append" apos) [e] [] cpos) pos :: rest) po := @fun A env hb B X₀ X s Q E R ae k0 al O S K => by
  refine wpAny_execs_cons (wpAny_Expr_any ?_ (hi _ S.st.ge.kind) (hs _))
  refine wpAny_Call_append (hbase _) (hfew _) hline (htrees _) (deck_list (hb := hb) (B := B) S.st hx (fun tk => ?_) hd hn)
  obtain ⟨_, _, q3⟩ := sf_res S hx
  obtain ⟨_, vs, c, g, r⟩ := q3
  refine ⟨b', vs.toArray, rfl, ⟨_, c, g, rfl, rfl, rfl⟩, he R ae (s := { s with toks := tk }) S.st fun u h' tk' k' z => ?_⟩
  cases z
  have S₁ := S.kp k'
  obtain ⟨_, q2, q3⟩ := sf_res S₁ hx
  obtain ⟨_, vs1, c1, g1, r1⟩ := id q3
  have g2 := k' _ _ g
  rw [g1] at g2
  have len := r1.len
  refine push_own g1 (by rw [len]; simpa [intL] using hz) fun h'' c'' g'' k'' => ?_
  have kX : KpX X h' h'' := fun b o n e => k'' b o (fun m => n (by rw [List.mem_singleton.mp m]; exact (q2 _ (.tail _ (.head _))).2)) e
  have x' : (deckS prog w a b' (cells ++ [v]) mixed turn).P X h'' := deck_upd q3 g'' k'' (by
    rw [show intL (cells ++ [v]) = intL cells ++ [.int v] from by simp [intL]]
    exact (r1.step kX fun _ m => .inl m).snoc (.int _ _))
  exact yy R ae k0 al O (S₁.upr (p' := deckS prog w a b' (cells ++ [v]) mixed turn) hx rfl rfl hρ (fun b o nb e => k'' b o (fun m => nb (by rw [List.mem_singleton.mp m]; exact .tail _ (.head _))) e) (deck_alive x') x') (K.at _ _)
theorem Ex.deckPop {v : Int} {cells' : List Int} {k : Nat} {cp : Pos} (hx : (x, Ent.res (deckS prog w a b' cells mixed turn)) ∈ ρ) (hc : cells = cells' ++ [v]) (hz : cells.length ≤ 1000) (hk : Stores sc y) (hρ : Upr x (deckS prog w a b' cells' mixed turn) ρ ρ₁) (hρ' : Upd y (.vp (im (.int v))) ρ₁ ρ₂) (yy : Ex prog w ht n sc ρ₂ rest po)
    (hev : ∀ env, ∃ pl, eval (.Call (.Attribute (.Subscript (.Name x xp) (.Constant (.str (Str.ofString "cells")) k cp) spos) "pop" apos) [] [] cpos) env = (do
      let ov ← eval (.Subscript (.Name x xp) (.Constant (.str (Str.ofString "cells")) k cp) spos) env
      standAt apos.atName
      let (f, first) ← holding [ov] (getMethod ov "pop" pl)
      callWith cpos f first (backTo cpos (starEach [] env)) (backToKw cpos (keywordEach [] env))) := by intro _; exact ⟨_, rfl⟩)
    (hs : ∀ env l, swapsWith (.Call (.Attribute (.Subscript (.Name x xp) (.Constant (.str (Str.ofString "cells")) k cp) spos) "pop" apos) [] [] cpos) (some (.Name y yp)) l env = pure false := by intro _ _; rfl)
    (hd : (x == ("__debug__" : Str)) = false := by decide) (hn : (x == ("__classdict__" : Str)) = false := by decide) :
    Ex prog w ht n sc ρ (.Assign [.Name y yp] (.Call (.Attribute (.Subscript (.Name x xp) (.Constant (.str (Str.ofString "cells")) k cp) spos) "pop" apos) [] [] cpos) pos :: rest) po := @fun A env hb B X₀ X s Q E R ae k0 al O S K => by
  refine wpAny_execs_cons (wpAny_Assign_Name ?_ (hs _ _))
  obtain ⟨pl, hev⟩ := hev env
  refine methodCall_KW (deck_list (hb := hb) (B := B) S.st hx (fun tk => ?_) hd hn) hev
  obtain ⟨_, q2, q3⟩ := sf_res S hx
  obtain ⟨_, vs, c, g, r⟩ := id q3
  have len := r.len
  have hl : s.heap.IsList b' vs.toArray := ⟨_, g, rfl, _, rfl⟩
  refine getMethod_list_of (s := { s with toks := tk }) PySem.F.slot_list_pop PySem.F.type_list_pop hl ⟨_, g, rfl⟩ ?_
  subst hc
  have e1 : intL (cells' ++ [v]) = intL cells' ++ [.int v] := by simp [intL]
  rw [e1] at r
  obtain ⟨vs1, u, rfl, r1, r2⟩ : ∃ vs1 u, vs = vs1 ++ [u] ∧ RvA s.heap X vs1 (intL cells') ∧ Rv s.heap X u (.int v) := by
    have hlen : vs.length = cells'.length + 1 := by rw [len]; simp [intL]
    have t1 := r.take cells'.length
    have d1 := r.drop cells'.length
    have ll : (intL cells').length = cells'.length := by simp [intL]
    rw [List.take_left' ll] at t1
    rw [List.drop_left' ll] at d1
    have : ∃ u, vs.drop cells'.length = [u] ∧ Rv s.heap X u (.int v) := by
      generalize vs.drop cells'.length = dd at d1
      cases d1 with
      | cons a b => cases b; exact ⟨_, rfl, a⟩
    obtain ⟨u, e, ru⟩ := this
    exact ⟨_, u, by rw [← e, List.take_append_drop], t1, ru⟩
  cases r2
  rename_i tv
  refine P.pop_list (l := b') (items := (vs1 ++ [Value.int v tv]).toArray) (n := c) (y := .int v tv) g (by simp) ?_ (sizeLine_big (by rw [List.size_toArray, len]; simp [intL] at hz ⊢; (first | assumption | exact Nat.le_refl _ | exact Nat.add_le_add_left (by decide) _ | exact Nat.le_trans (by assumption) (by decide) | omega)))
  have kX : ∃ c', (s.heap.update b' (Obj.mapSeq fun xs => xs.eraseIdxIfInBounds ((vs1 ++ [Value.int v tv]).toArray.size - 1))).get? b' = some (lstO vs1 c') := by
    obtain ⟨n', hd'⟩ := Obj.data_mapSeq (o := lstO (vs1 ++ [Value.int v tv]) c) rfl (fun xs => xs.eraseIdxIfInBounds ((vs1 ++ [Value.int v tv]).toArray.size - 1))
    refine ⟨n', ?_⟩
    rw [Heap.get?_update_self _ g (Obj.isFreed_of_seq hd')]
    have e : Obj.mapSeq (fun xs => xs.eraseIdxIfInBounds ((vs1 ++ [Value.int v tv]).toArray.size - 1)) (lstO (vs1 ++ [Value.int v tv]) c) = { cls := .type "list", dict := none, data := (Obj.mapSeq (fun xs => xs.eraseIdxIfInBounds ((vs1 ++ [Value.int v tv]).toArray.size - 1)) (lstO (vs1 ++ [Value.int v tv]) c)).data, slots := #[] } := by simp [Obj.mapSeq]
    rw [e, hd']
    simp [lstO, List.eraseIdx_append_of_length_le]
  obtain ⟨c', g'⟩ := kX
  have k' : KpX [b'] s.heap (s.heap.update b' (Obj.mapSeq fun xs => xs.eraseIdxIfInBounds ((vs1 ++ [Value.int v tv]).toArray.size - 1))) := fun b o n e => (Heap.get?_update_ne _ _ _ _ (fun q => n (List.mem_singleton.mpr q))).trans e
  generalize s.heap.update b' (Obj.mapSeq fun xs => xs.eraseIdxIfInBounds ((vs1 ++ [Value.int v tv]).toArray.size - 1)) = h' at g' k' ⊢
  have kX : KpX X s.heap h' := fun b o n e => k' b o (fun m => n (by rw [List.mem_singleton.mp m]; exact (q2 _ (.tail _ (.head _))).2)) e
  have x' : (deckS prog w a b' cells' mixed turn).P X h' := deck_upd q3 g' k' (r1.step kX fun _ m => .inl m)
  have S₁ := S.upr hx (p' := deckS prog w a b' cells' mixed turn) rfl rfl hρ (fun b o nb e => k' b o (fun m => nb (by rw [List.mem_singleton.mp m]; exact .tail _ (.head _))) e) (deck_alive x') x'
  exact wp_store (s := { s with heap := h', toks := tk }) (en := .vp (im (.int v))) S₁ (.int _ _) (hk.at ae O) hρ' (fun _ q => by cases q) fun h'' tk' S'' _ => yy R ae k0 al O S'' (K.at h'' tk')
end
section
variable {prog : Program} {w : World} {ht : Heap} {n : Nat} {sc : Scope} {ρ ρ' ρ₁ ρ₂ : Rho} {p q r : KP} {e l f e1 e2 e3 ix : Expr} {pos apos spos cpos p1 p2 p3 : Pos} {k1 k2 k3 : Nat} {po : Post} {rest body b o : List Stmt} {x y : Str} {xp fp yp : Pos} {P P' : RP} {Rr : PyData → Prop} {as : List Addr}
theorem deckP_sub {a b : Addr} {c : Nat} {X X' : List Addr} {h : Heap} (r : (deckP prog w a b c).P X h) (hX : ∀ a ∈ X', a ∈ X) (h1 : a ∈ X') (h2 : b ∈ X') : (deckP prog w a b c).P X' h := rp_sub (p := deckP prog w a b c) r hX fun z m => by
  rcases List.mem_cons.mp m with rfl | m
  · exact h1
  · rw [List.mem_singleton.mp m]; exact h2
noncomputable def kdeck (prog : Program) (w : World) : KP := ⟨fun X h₀ h v => ∃ a b, v = .ref a ∧ h₀.get? a = none ∧ h₀.get? b = none ∧ (deckP prog w a b 0).P (a :: b :: X) h,
  fun ⟨a, b, e, f, g, x⟩ k => ⟨a, b, e, f, g, (deckP prog w a b 0).st x (k.kpx _) (fun _ _ o e => k _ _ e) (fun _ m => .inl m) fun z m => by
    rcases List.mem_cons.mp m with rfl | m
    · exact .head _
    · rw [List.mem_singleton.mp m]; exact .tail _ (.head _)⟩,
  fun ⟨a, b, e, f, g, x⟩ k => ⟨a, b, e, k _ f, k _ g, x⟩,
  fun ⟨a, b, e, f, g, x⟩ k => ⟨a, b, e, f, g, deckP_sub x (fun z m => by
    rcases List.mem_cons.mp m with rfl | m
    · exact .head _
    · rcases List.mem_cons.mp m with rfl | m
      · exact .tail _ (.head _)
      · exact .tail _ (.tail _ (k z m))) (.head _) (.tail _ (.head _))⟩⟩
theorem Ev.deck {cells : List Int} {mixed : Int} (h1 : Ev prog w ht n sc ρ e1 (kfr (intL cells))) (h2 : Ev prog w ht n sc ρ e2 (kim (.int mixed))) (h3 : Ev prog w ht n sc ρ e3 (kim (.int 0))) (hz : cells.length ≤ 16) :
    Ev prog w ht n sc ρ (.Dict [some (.Constant (.str (Str.ofString "cells")) k1 p1), some (.Constant (.str (Str.ofString "mixed")) k2 p2), some (.Constant (.str (Str.ofString "turn")) k3 p3)] [e1, e2, e3] pos) (kdeck prog w) := fun A env X s Q E R a S K => by
  refine wpAny_Dict_walk (knd := strKind prog w) rfl rfl nofun (by show 3 ≤ 15; decide) ?_
  have S₁ := Sf.grow (X' := s.heap.objs.size :: X) (⟨S, fun _ _ _ e => e, fun b m => .inl (S.fx b m), fun z p m b mb => .inl (let ⟨_, _, q⟩ := S.vars _ m; (q.1 b mb).2)⟩ : Sf ht s.heap X env X ρ s.heap) (Kp.push { cls := .type "dict", data := .dict #[] })
    (fun b m => (List.mem_cons.mp m).elim (fun q => .inr (q ▸ fresh_size _)) .inl) (fun _ m => .tail _ m) fun b m => by
      rcases List.mem_cons.mp m with rfl | m
      · exact ⟨_, Heap.get?_push_size _ rfl⟩
      · obtain ⟨o, e⟩ := S.xal b m
        exact ⟨o, Kp.push _ _ _ e⟩
  have D0 : (s.heap.push { cls := .type "dict", data := .dict #[] }).DictOf (strKind prog w) s.heap.objs.size [] := Heap.DictOf.new _
  have k0 : Kp s.heap (s.heap.push { cls := .type "dict", data := .dict #[] }) := Kp.push _
  have f0 := fresh_size s.heap
  have xal : ∀ b ∈ X, ∃ o, s.heap.get? b = some o := S.xal
  refine pairTrees_cons_walk (wpAny_Constant_str (h1 R a S₁.st fun u1 h₁ t₁ q₁ z₁ => ?_))
  refine pairTrees_cons_walk (wpAny_Constant_str (h2 R a (S₁.kp q₁).st fun u2 h₂ t₂ q₂ z₂ => ?_))
  refine pairTrees_cons_walk (wpAny_Constant_str (h3 R a ((S₁.kp q₁).kp q₂).st fun u3 h₃ t₃ q₃ z₃ => pairTrees_nil_walk ?_))
  obtain ⟨b, vs, c, rfl, fb, g, r⟩ := z₁
  cases z₂
  have z₃ : Rv h₃ (s.heap.objs.size :: X) u3 (.int 0) := z₃
  cases z₃
  rename_i m1 m2
  have D3 := D0.keep (q₁.trans (q₂.trans q₃))
  have g3 : h₃.get? b = some (lstO vs c) := (q₂.trans q₃) _ _ g
  have r3 : RvA h₃ (b :: s.heap.objs.size :: X) vs (intL cells) := r.kp (q₂.trans q₃)
  have kk : Kp s.heap h₃ := k0.trans (q₁.trans (q₂.trans q₃))
  have is : ∀ (key : Str) (t : Tok), (strKind prog w).is key (.str key t) = true := fun key t => by show Value.isStrOf key (.str key t) = true; simp [Value.isStrOf]
  have gd : ∃ o, (s.heap.push { cls := .type "dict", data := .dict #[] }).get? s.heap.objs.size = some o := ⟨_, Heap.get?_push_size _ rfl⟩
  dsimp only at *
  generalize s.heap.push { cls := .type "dict", data := .dict #[] } = H at *
  generalize s.heap.objs.size = d at *
  have nbd : b ≠ d := fun q => by obtain ⟨o, e⟩ := gd; rw [q, e] at fb; cases fb
  refine ⟨[(Str.ofString "cells", .ref b), (Str.ofString "mixed", .int mixed m1), (Str.ofString "turn", .int 0 m2)], ⟨is _ _, rfl, is _ _, rfl, is _ _, rfl, trivial⟩, D3, fun h' hm hs => ?_⟩
  have kX : KpX [d] h₃ h' := fun z o n e => (hs.2 z fun q => n (List.mem_singleton.mpr q)).trans e
  refine K _ h' _ (fun z o e => kX z o (fun m => by rw [List.mem_singleton.mp m, f0] at e; cases e) (kk _ _ e)) ⟨d, b, rfl, f0, none_of_kp k0 fb, cells, mixed, 0, ⟨hz, by (first | assumption | exact Nat.le_refl _ | exact Nat.add_le_add_left (by decide) _ | exact Nat.le_trans (by assumption) (by decide) | omega), by (first | assumption | exact Nat.le_refl _ | exact Nat.add_le_add_left (by decide) _ | exact Nat.le_trans (by assumption) (by decide) | omega)⟩, ⟨m1, m2, ?_⟩, vs, c, kX _ _ (fun m => nbd (List.mem_singleton.mp m)) g3, ?_⟩
  · exact hm
  · refine (r3.sub fun z m => ?_).step (X := d :: b :: X) (fun z o n e => kX z o (fun m => n (by rw [List.mem_singleton.mp m]; exact .head _)) e) fun _ m => .inl m
    rcases List.mem_cons.mp m with rfl | m
    · exact .tail _ (.head _)
    · rcases List.mem_cons.mp m with rfl | m
      · exact .head _
      · exact .tail _ (.tail _ m)
theorem Ex.ownDeck {ρ' : Addr → Addr → Rho} (h : Ev prog w ht n sc ρ e (kdeck prog w)) (hk : Stores sc x) (hρ : ∀ a b, Upd x (.res (deckP prog w a b 0)) ρ (ρ' a b)) (y : ∀ a b, (∀ z p, (z, Ent.res p) ∈ ρ → a ∉ p.as ∧ b ∉ p.as) → Ex prog w ht n sc (ρ' a b) rest (.ret r))
    (hs : ∀ env l, swapsWith e (some (.Name x xp)) l env = pure false := by intro _ _; rfl) : Ex prog w ht n sc ρ (.Assign [.Name x xp] e pos :: rest) (.ret r) := @fun A env hb B X₀ X s Q E R a k0 al O S K => by
  refine wpAny_execs_cons (wpAny_Assign_Name (h R a S.st fun v h' tk k z => ?_) (hs _ _))
  obtain ⟨D, b, rfl, hf, hg, x⟩ := z
  obtain ⟨hB, K⟩ := K
  subst hB
  have nX : ∀ z, s.heap.get? z = none → z ∉ X := fun z q m => by obtain ⟨o, e⟩ := S.st.xal z m; rw [q] at e; cases e
  have nD := nX D hf
  have nb := nX b hg
  have alive : ∀ z ∈ [D, b], ∃ o, h'.get? z = some o := by obtain ⟨_, _, _, _, x⟩ := x; exact deck_alive x
  have S2 : Sf ht hb [] env (D :: b :: X) ρ h' := Sf.grow S k (fun z m => by
    rcases List.mem_cons.mp m with rfl | m
    · exact .inr hf
    · rcases List.mem_cons.mp m with rfl | m
      · exact .inr hg
      · exact .inl m) (fun _ m => .tail _ (.tail _ m)) fun z m => by
    rcases List.mem_cons.mp m with rfl | m
    · exact alive _ (.head _)
    · rcases List.mem_cons.mp m with rfl | m
      · exact alive _ (.tail _ (.head _))
      · obtain ⟨o, e⟩ := S.st.xal z m; exact ⟨o, k _ _ e⟩
  have fr : ∀ z ∈ [D, b], hb.get? z = none := fun z m => by
    rcases List.mem_cons.mp m with rfl | m
    · exact none_of_kp (kp_nil S.base) hf
    · rw [List.mem_singleton.mp m]; exact none_of_kp (kp_nil S.base) hg
  refine wp_store (s := { s with heap := h', toks := tk }) (en := .res (deckP prog w D b 0)) S2 ⟨fun z m => ?_, rfl, x⟩ (hk.at a O) (hρ D b) (fun _ q => by cases q; exact fun z m => .inr (fr z m)) fun h'' tk' S' _ => y D b (fun z p m => ?_) R a k0 al ⟨fun z m => .tail _ (.tail _ (O.sub z m)), fun z m => ?_, O.cells⟩ S' ⟨rfl, K⟩
  · rcases List.mem_cons.mp m with rfl | m
    · exact ⟨fun m => nD (S.st.fx _ m), .head _⟩
    · rw [List.mem_singleton.mp m]; exact ⟨fun m => nb (S.st.fx _ m), .tail _ (.head _)⟩
  · obtain ⟨u, _, q2⟩ := S.st.vars _ m
    exact ⟨fun q => nD (q2.1 _ q).2, fun q => nb (q2.1 _ q).2⟩
  · rcases List.mem_cons.mp m with rfl | m
    · exact .inr (fr _ (.head _))
    · rcases List.mem_cons.mp m with rfl | m
      · exact .inr (fr _ (.tail _ (.head _)))
      · exact O.new z m
end
section
variable {prog : Program} {w : World} {ht : Heap} {n : Nat} {sc csc : Scope} {ρ ρ' ρ₁ ρ₂ : Rho} {p q r : KP} {e l f elt iter : Expr} {pos fpos : Pos} {po : Post} {rest body : List Stmt} {d : PyData} {ds : List PyData} {x y : Str} {xp px : Pos}
theorem fresh_in {hb h : Heap} {B X : List Addr} {D : Addr} (k : KpX B hb h) (hf : h.get? D = none) (inB : ∀ b ∈ B, b ∈ X) (nX : D ∉ X) : hb.get? D = none := (kpx_none k hf).elim (fun m => absurd (inB _ m) nX) id
theorem Ex.forG {ι : Type} {tgt iter : Expr} {Inv : Nat → ι → Rho} {ρin : Nat → ι → PyData → Rho} (he : Ev prog w ht n sc ρ iter (kit ds)) (j0 : ι) (h0 : ∀ y ∈ Inv 0 j0, y ∈ ρ) (hu : ∀ i j d, ds[i]? = some d → As prog w ht sc (Inv i j) tgt d (ρin i j d))
    (turn : ∀ i j d, ds[i]? = some d → Ex prog w ht n sc (ρin i j d) body (.grow ι (Inv (i + 1)))) (after : ∀ j, Ex prog w ht n sc (Inv ds.length j) rest po) (hpo : po.Grows)
    (hgo : (∀ it v, letOwnedTupleGo tgt it v = pure ()) ∨ (∃ es k p, tgt = .Tuple es k p) := by first | exact .inl (by intro _ _; rfl) | exact .inr ⟨_, _, _, rfl⟩)
    (hs : ∀ env x, foldedSetIterable iter env x = pure x := by intro _ _; rfl) :
    Ex prog w ht n sc ρ (.For tgt iter body [] pos :: rest) po := @fun A env hb B X₀ X s Q E R a k0 al O S K => by
  refine wpAny_execs_cons (wpAny_For (he R a S.st fun v h₁ t₁ k₁ z₁ => ?_) (hs _))
  refine iter_of (s := { s with heap := h₁, toks := t₁ }) R.1 (S.kp k₁).st.xal z₁ fun h₂ k₂ nf hI => ?_
  obtain ⟨fp, P, St, W, st0, hfX, hfa, hio, hP⟩ := hI
  have nI : h₁.objs.size ∉ X := hfX _ (W.sub _ (.head _))
  have dI := fresh_size h₁
  generalize h₁.objs.size = I at *
  have inB := K.inB hpo
  have S₁ := S.kp k₁
  have hbI : hb.get? I = none := fresh_in S₁.base dI inB nI
  have S₂ : Sf ht hb B env (I :: X) (Inv 0 j0) h₂ := (Sf.grow S₁ k₂ (fun b m => (List.mem_cons.mp m).elim (fun q => .inr (q ▸ dI)) .inl) (fun _ m => .tail _ m) fun b m => by
    rcases List.mem_cons.mp m with rfl | m
    · exact hfa _ (W.sub _ (.head _))
    · exact (S₁.kp k₂).st.xal b m).less h0
  have own₂ : ∀ z p, (z, Ent.res p) ∈ Inv 0 j0 → I ∉ p.as := fun z p m ma => nI (let ⟨_, _, q⟩ := S.st.vars _ (h0 _ m); (q.1 I ma).2)
  have nIf : I ∉ frameOf env := fun m => nI (S.st.fx _ m)
  refine codeAny_forLoop_any (fun k s' => ∃ i j h' tk Y, s' = { s with heap := h', toks := tk } ∧ k = ds.length - i ∧ i ≤ ds.length ∧ St i h' ∧ Sf ht hb B env Y (Inv i j) h' ∧ KpX (I :: X) h₂ h' ∧ I ∈ Y ∧ (∀ b ∈ X, b ∈ Y) ∧ (∀ b ∈ Y, b ∈ I :: X ∨ h₂.get? b = none) ∧ ∀ z p, (z, Ent.res p) ∈ Inv i j → I ∉ p.as) ?_ ds.length
    ⟨0, j0, h₂, _, I :: X, rfl, rfl, Nat.zero_le _, st0, S₂, fun _ _ _ e => e, .head _, fun _ m => .tail _ m, fun _ m => .inl m, own₂⟩
  rintro k s' ⟨i, j, h', tk, Y, rfl, rfl, hi, sti, Si, ki, IY, XY, YX, oi⟩
  have off : ∀ {h₃ : Heap}, KpX [I] h' h₃ → (∃ o, h₃.get? I = some o) → Sf ht hb B env Y (Inv i j) h₃ := fun {h₃} k₃ a₃ =>
    Si.chg (L := [I]) k₃ (fun b m => by rw [List.mem_singleton.mp m]; exact ⟨IY, (fun o e => by rw [hbI] at e; cases e), nIf, oi⟩) (fun _ m => m) (fun b _ m => by rw [List.mem_singleton.mp m]; exact a₃) Si.st.fx fun z p m b mb => let ⟨_, _, q⟩ := Si.st.vars _ m; (q.1 b mb).2
  by_cases hlt : i < ds.length
  · refine W.item i _ _ _ hlt sti fun v h₃ t₃ hv st₃ k₃ => ?_
    dsimp only
    have hkI : KpX [I] h' h₃ := k₃
    have a₃ : ∃ o, h₃.get? I = some o := by
      obtain ⟨o, _, _, e, _⟩ := hio _ _ st₃
      exact ⟨o, e⟩
    have S₃ := off hkI a₃
    have kX₃ : KpX (I :: X) h₂ h₃ := fun b o n e => hkI b o (fun m => n (by rw [List.mem_singleton.mp m]; exact .head _)) (ki b o n e)
    obtain ⟨d, hd, rd⟩ := hP i v h₃ Y hlt hv kX₃ YX
    have go : wpAny (model prog w) A (letOwnedTupleGo tgt (.ref I) v) (fun _ s₁' => s₁' = { s with heap := h₃, toks := t₃ }) (notedBy (model prog w) A env fun e s' => cameBackBy (model prog w) A env E e s') { s with heap := h₃, toks := t₃ } := by
      rcases hgo with hg | ⟨es, kk, pp, rfl⟩
      · rw [hg]; exact wpAny_pure rfl
      · cases v with
        | ref T =>
          obtain ⟨o, cn, vs, e1, e2, e3, e4⟩ := hio _ _ st₃
          unfold letOwnedTupleGo
          refine wpAny_bind (wpAny_load e1 ?_)
          rw [e2, e3]
          show wpAny _ A (if (owners.contains cn && vs[0]? == some (rawInt T)) = true then _ else _) _ _ _
          rw [e4, Bool.false_and, if_neg (by decide)]
          exact wpAny_pure rfl
        | _ => exact wpAny_pure rfl
    refine wpAny_mono go (fun _ s₁' q => ?_) fun _ _ x => x
    subst q
    obtain ⟨Z, hZ⟩ : ∃ Z, Z = Y.filter (fun b => decide (b ≠ I)) := ⟨_, rfl⟩
    have memZ : ∀ b, b ∈ Z ↔ b ∈ Y ∧ b ≠ I := fun b => by rw [hZ, List.mem_filter, decide_eq_true_eq]
    have T₃ : Sf ht h₃ (changes hb B Z) env Y (Inv i j) h₃ := ⟨S₃.st, fun _ _ _ e => e, fun a m => .inl (mem_changes.mpr ⟨(memZ _).mpr ⟨S₃.st.fx a m, fun q => nIf (q ▸ m)⟩, S.fb a m⟩), fun z p m a ma => .inl (mem_changes.mpr ⟨(memZ _).mpr ⟨let ⟨_, _, q⟩ := S₃.st.vars _ m; (q.1 a ma).2, fun q => oi z p m (q ▸ ma)⟩, S₃.ow z p m a ma⟩)⟩
    have O₃ : Ok h₃ Y Y env := ⟨fun _ m => m, fun _ m => .inl m, O.cells⟩
    refine hu i j d hd R.1 a O₃ T₃ rd fun h₄ t₄ T₄ _ => ?_
    refine turn i j d hd R a S₃.st.top S₃.st.xal O₃ T₄ ⟨fun b m => ((memZ b).mp (mem_changes.mp m).1).1, fun j' Y' h₅ t₅ g1 g2 T₅ => ?_⟩
    have kb : KpX (changes hb B Z) h₃ h₅ := T₅.base
    have inX : ∀ b ∈ changes hb B Z, b ∈ X ∨ h₂.get? b = none := fun b m => by
      obtain ⟨m1, m2⟩ := (memZ b).mp (mem_changes.mp m).1
      rcases YX b m1 with q | q
      · rcases List.mem_cons.mp q with q | q
        · exact absurd q m2
        · exact .inl q
      · exact .inr q
    have nB : ∀ b ∈ fp, b ∉ changes hb B Z := fun b m q => by
      rcases inX b q with q | q
      · exact hfX b m q
      · obtain ⟨o, e⟩ := hfa b m
        rw [e] at q; cases q
    refine ⟨ds.length - (i + 1), by (first | assumption | exact Nat.le_refl _ | exact Nat.add_le_add_left (by decide) _ | exact Nat.le_trans (by assumption) (by decide) | omega), i + 1, j', h₅, t₅, Y', rfl, rfl, hlt, W.frame _ _ _ st₃ fun b m o e => kb b o (nB b m) e, ⟨T₅.st, fun b o nb e => kb b o (fun m => ?_) (S₃.base b o nb e), S.fb, fun z p m b mb => ?_⟩, fun b o nb e => kb b o (fun m => ?_) (kX₃ b o nb e), g1 _ IY, fun b m => g1 _ (XY b m), fun b m => ?_, fun z p m ma => ?_⟩
    · rcases (mem_changes.mp m).2 with q | q
      · exact nb q
      · rw [q] at e; cases e
    · rcases T₅.ow z p m b mb with q | q
      · exact (mem_changes.mp q).2
      · exact kpx_none S₃.base q
    · rcases inX b m with q | q
      · exact nb (.tail _ q)
      · rw [q] at e; cases e
    · rcases g2 b m with q | q
      · exact YX b q
      · by_cases qb : b ∈ I :: X
        · exact .inl qb
        · refine .inr ?_
          cases e : h₂.get? b with
          | none => rfl
          | some o => rw [kX₃ b o qb e] at q; cases q
    · rcases T₅.ow z p m I ma with q | q
      · exact ((memZ I).mp (mem_changes.mp q).1).2 rfl
      · obtain ⟨o, e⟩ := a₃
        rw [e] at q; cases q
  · obtain rfl : i = ds.length := by (first | assumption | exact Nat.le_refl _ | exact Nat.add_le_add_left (by decide) _ | exact Nat.le_trans (by assumption) (by decide) | omega)
    refine W.done _ _ _ sti fun h₃ t₃ k₃ => ?_
    dsimp only
    obtain ⟨Z, hZ⟩ : ∃ Z, Z = Y.filter (fun b => decide (b ≠ I)) := ⟨_, rfl⟩
    have memZ : ∀ b, b ∈ Z ↔ b ∈ Y ∧ b ≠ I := fun b => by rw [hZ, List.mem_filter, decide_eq_true_eq]
    have k₃ : KpX [I] h' h₃ := k₃
    have S₄ : Sf ht hb B env Z (Inv ds.length j) h₃ := Si.chg (L := [I]) k₃ (fun b m => by rw [List.mem_singleton.mp m]; exact ⟨IY, (fun o e => by rw [hbI] at e; cases e), nIf, oi⟩) (fun b m => ((memZ b).mp m).1) (fun b m q => absurd (List.mem_singleton.mp q) ((memZ b).mp m).2) (fun b m => (memZ b).mpr ⟨Si.st.fx b m, fun q => nIf (q ▸ m)⟩) fun z p m b mb => (memZ b).mpr ⟨let ⟨_, _, q⟩ := Si.st.vars _ m; (q.1 b mb).2, fun q => oi z p m (q ▸ mb)⟩
    have XZ : ∀ b ∈ X, b ∈ Z := fun b m => (memZ b).mpr ⟨XY b m, fun q => nI (q ▸ m)⟩
    refine wpAny_execs_nil ?_
    have newY : ∀ b ∈ Z, b ∈ X ∨ hb.get? b = none := fun b m => by
      rcases YX b ((memZ b).mp m).1 with q | q
      · rcases List.mem_cons.mp q with rfl | q
        · exact .inr hbI
        · exact .inl q
      · by_cases qb : b ∈ X
        · exact .inl qb
        · exact .inr (fresh_in (S₁.kp k₂).base q inB qb)
    exact after j R a k0 al ⟨fun b m => XZ b (O.sub b m), fun b m => (newY b m).elim (O.new b) .inr, O.cells⟩ S₄ ((K.at h₃ t₃).wide hpo XZ newY)
theorem Ex.ownG {ρ' : Addr → Rho} (h : Ev prog w ht n sc ρ e (kfr ds)) (hk : Stores sc x) (hρ : ∀ a, Upd x (.own a ds) ρ (ρ' a)) (hpo : po.Grows) (y : ∀ a, (∀ z p, (z, Ent.res p) ∈ ρ → a ∉ p.as) → Ex prog w ht n sc (ρ' a) rest po)
    (hs : ∀ env l, swapsWith e (some (.Name x xp)) l env = pure false := by intro _ _; rfl) : Ex prog w ht n sc ρ (.Assign [.Name x xp] e pos :: rest) po := @fun A env hb B X₀ X s Q E R a k0 al O S K => by
  refine wpAny_execs_cons (wpAny_Assign_Name (h R a S.st fun v h' tk k z => ?_) (hs _ _))
  obtain ⟨D, vs, c, rfl, hf, g, rv⟩ := z
  have nX : D ∉ X := fun m => by obtain ⟨o, q⟩ := S.st.xal D m; rw [hf] at q; cases q
  have hbD := fresh_in S.base hf (K.inB hpo) nX
  have S2 := S.own k hf g
  refine wp_store (s := { s with heap := h', toks := tk }) (en := .own D ds) S2 ⟨fun b m => by rw [List.mem_singleton.mp m]; exact ⟨fun m => nX (S.st.fx _ m), .head _⟩, rfl, vs, c, g, rv⟩ (hk.at a O) (hρ D) (fun _ q => by cases q; exact fun b m => by rw [List.mem_singleton.mp m]; exact .inr hbD) fun h'' tk' S' _ => y D (fun z p m q => ?_) R a k0 al ⟨fun b m => .tail _ (O.sub b m), fun b m => ?_, O.cells⟩ S' ((K.at _ _).wide hpo (fun _ m => .tail _ m) fun b m => ?_)
  · obtain ⟨u, _, q2⟩ := S.st.vars _ m
    exact nX (q2.1 _ q).2
  · rcases List.mem_cons.mp m with rfl | m
    · exact .inr hbD
    · exact O.new b m
  · rcases List.mem_cons.mp m with rfl | m
    · exact .inr hbD
    · exact .inl m
theorem Ex.retOwn {a : Addr} (hx : (x, Ent.own a ds) ∈ ρ) (hd : (x == ("__debug__" : Str)) = false := by decide) (hn : (x == ("__classdict__" : Str)) = false := by decide) : Ex prog w ht n sc ρ (.Return (some (.Name x xp)) pos :: rest) (.ret (kfr ds)) := @fun A env hb B X₀ X s Q E R ae k0 al O S K => by
  obtain ⟨hB, K⟩ := K
  subst hB
  obtain ⟨q1, q2, vs, c, g, r⟩ := sf_res S hx
  refine wpAny_execs_cons (wpAny_Return_some (wpAny_Name (load_var S.st.ge.kind q1 ?_ hn) hd))
  have hf : hb.get? a = none := (S.ow _ _ hx a (.head _)).elim (fun m => nomatch m) id
  exact K (.ref a) s.heap s.toks (kp_nil S.base) ⟨a, vs, c, rfl, hf, g, r.sub fun b m => by
    rcases List.mem_cons.mp m with rfl | m
    · exact (q2 _ (.head _)).2
    · exact O.sub b m⟩

noncomputable def Sc : PyData → Prop
  | .none => True
  | .bool _ => True
  | .int _ => True
  | .str _ => True
  | _ => False
theorem Rv.scal {h h' : Heap} {X X' : List Addr} {v : Value} (hd : Sc d) (r : Rv h X v d) : Rv h' X' v d := by
  cases r with
  | none => exact .none
  | bool b => exact .bool b
  | int i t => exact .int i t
  | str x t => exact .str x t
  | _ => exact hd.elim
theorem RvA.scal {h h' : Heap} {X X' : List Addr} : ∀ {vs : List Value} {ds : List PyData}, (∀ d ∈ ds, Sc d) → RvA h X vs ds → RvA h' X' vs ds
  | _, _, _, .nil => .nil
  | _, _, hd, .cons a b => .cons (Rv.scal (hd _ (.head _)) a) (RvA.scal (fun d m => hd d (.tail _ m)) b)
noncomputable def Lent (p : KP) (v : VP) : Prop := ∀ {X X' : List Addr} {h₀ h : Heap} {u : Value}, p.P X h₀ h u → (∀ b ∈ X', h.get? b = none) → v.P X' h u
theorem lent_sl (ds : List PyData) : Lent (ksl ds) (im (.list ds)) := fun {X X' h₀ h u} ⟨a, vs, c, e, g, r⟩ hX => by
  subst e
  exact Rv.list (fun m => by rw [hX a m] at g; cases g) g (r.step (fun _ _ _ e => e) fun b m => .inr (hX b m))
theorem lent_im (d : PyData) : Lent (kim d) (im d) := fun {X X' h₀ h u} r hX => Rv.step (fun _ _ _ e => e) (fun b m => .inr (hX b m)) r
theorem Lent.all {X X' : List Addr} {h₀ h : Heap} (hX : ∀ b ∈ X', h.get? b = none) : ∀ {vs : List Value} {l : List (KP × VP)}, (∀ z ∈ l, Lent z.1 z.2) → PsA X h₀ h vs (l.map (·.1)) → PsA X' h h vs ((l.map (·.2)).map VP.kp)
  | _, [], _, .nil => .nil
  | _, z :: l, hz, .cons a b => .cons (hz z (.head _) a hX) (Lent.all hX (fun y m => hz y (.tail _ m)) b)
theorem Fn.lend {mg mb : Str → Option Value} {a : Addr} {o : Obj} {fd : FuncData} {body : List Stmt} {names : List Str} {l : List (KP × VP)} {es : List PyData} (T : TopF mg mb ht) (ho : ht.get? a = some o) (hd : o.data = .func fd) (hcd : ht.CodeRec fd.code fd.qualname)
    (hb : fd.body = .stmts body) (hbind : ∀ vs : List Value, vs.length = names.length → bindArgs fd ⟨vs, []⟩ = pure (names.zip vs)) (hlen : l.length = names.length) (hclo : fd.closure = [])
    (hkinds : All (fun x => fd.scope.names.lookup x = some .local ∨ fd.scope.names.lookup x = some .cell) names) (hnd : names.Nodup) (hgl : fd.globals = mainGlobals) (hbu : fd.builtins = builtinsNs)
    (hnc : ((cellsFrom 0 fd.scope.names []).map (·.1)).Nodup)
    (hco : fd.scope.isCoroutine = false) (hgen : fd.scope.isGenerator = false) (hk : fd.scope.kind = .function) (hL : ∀ z ∈ l, Lent z.1 z.2) (hes : ∀ d ∈ es, Sc d)
    (hbody : Body prog w ht n fd.scope (names.zip ((l.map (·.2)).map Ent.vp)) body (kfr es)) : Fn prog w ht (n + 1) (.ref a) (l.map (·.1)) (kfr es) := fun A X h₀ s vs Q E R k0 hX al k1 z K => by
  have hl : vs.length = names.length := by rw [z.len, List.length_map, hlen]
  have kt := k0.trans k1
  refine call_frame (X := []) (B := []) (ρ := names.zip ((l.map (·.2)).map Ent.vp)) T ho hd hcd hb (hbind _ hl) hl hclo hkinds hnd hgl hbu hnc hco hgen hk (by have := R.2.1; (first | assumption | exact Nat.le_refl _ | exact Nat.add_le_add_left (by decide) _ | exact Nat.le_trans (by assumption) (by decide) | omega)) kt (fun b m => nomatch m) (fun b m => nomatch m) (fun y hy => ?_) fun env h₁ tk E' hsc O S => ?_
  · obtain ⟨v, p, h1, h2, h3⟩ := psa_mem (Lent.all (X' := []) (fun b m => nomatch m) hL z) y hy
    exact ⟨v, h1, by rw [h2]; exact h3⟩
  · refine hbody (X₀ := []) (s := { s with heap := h₁, toks := tk }) (E := E') (R.deeper env) hsc kt (fun b m => nomatch m) O S fun v h' tk k' z' => K v h' tk k' ?_
    obtain ⟨D, vs', c, e, f, g, r⟩ := z'
    exact ⟨D, vs', c, e, f, g, r.scal hes⟩
theorem CompP.of {α : Type} {f : α → PyData} {un : PyData → α} {xs : List α} {t : α → Bool} {g : α → PyData} {x : Str} {ifs : List Expr} {ρin : PyData → Rho} (hun : ∀ a, un (f a) = a) (he : Ev prog w ht n sc ρ iter (kit (xs.map f)))
    (free : ∀ y ∈ csc.names, y.2 = .free → sc.names.lookup y.1 = some .cell) (cell : ∀ y ∈ csc.names, y.2 ≠ .cell) (kind : csc.kind = .function) (names : ∀ y ∈ csc.names, y.2 = .local → csc.names.lookup y.1 = some .local) (hx : csc.names.lookup x = some .local)
    (inn : ∀ d, All (fun y => y = (x, .vp (im d)) ∨ (y ∈ ρ ∧ (y.1, NameKind.free) ∈ csc.names ∧ (relS csc sc).names.lookup y.1 = some .cell)) (ρin d))
    (test : ∀ a ∈ xs, TstL prog w ht n (relS csc sc) (ρin (f a)) ifs (t a)) (eltE : ∀ a ∈ xs, t a = true → Ev prog w ht n (relS csc sc) (ρin (f a)) elt (kim (g a))) (size : xs.length ≤ 1000) (hs : ∀ env x, foldedSetIterable iter env x = pure x := by intro _ _; rfl) :
    Ev prog w ht n sc ρ (.ListComp elt [⟨.Name x px, iter, ifs, 0⟩] csc pos) (kfr ((xs.filter t).map g)) := by
  have e : ((xs.map f).filter (fun d => t (un d))).map (fun d => g (un d)) = (xs.filter t).map g := by
    rw [List.filter_map, List.map_map]
    congr 1
    · funext a; show g (un (f a)) = g a; rw [hun]
    · congr 1; funext a; show t (un (f a)) = t a; rw [hun]
  rw [← e]
  have C : CompP prog w ht n sc csc ρ elt x ifs (xs.map f) ρin (fun d => t (un d)) (fun d => g (un d)) := by
    refine ⟨free, cell, kind, names, hx, inn, fun d m => ?_, fun d m ht' => ?_, by rw [List.length_map]; exact size⟩
    · obtain ⟨a, ma, rfl⟩ := List.mem_map.mp m
      rw [hun]; exact test a ma
    · obtain ⟨a, ma, rfl⟩ := List.mem_map.mp m
      rw [hun] at ht' ⊢; exact eltE a ma ht'
  intro A env X s Q E R a S K
  exact C.ev (px := px) (pos := pos) he hs R a S K
end
theorem All.mono {α : Type} {p q : α → Prop} (h : ∀ a, p a → q a) : ∀ {l : List α}, All p l → All q l
  | [], _ => trivial
  | _ :: _, ⟨a, b⟩ => ⟨h _ a, All.mono h b⟩
theorem Upd.nil {x : Str} {e : Ent} : Upd x e [] [(x, e)] := ⟨.inl rfl, trivial⟩
theorem Upd.hit {x : Str} {e e' : Ent} {ρ ρ' : Rho} (h : Upd x e ρ ρ') : Upd x e ((x, e') :: ρ) ρ' := All.mono (fun y q => q.imp id fun q => ⟨.tail _ q.1, q.2⟩) h
theorem Upd.miss {x y : Str} {e e' : Ent} {ρ ρ' : Rho} (n : y ≠ x) (h : Upd x e ρ ρ') : Upd x e ((y, e') :: ρ) ((y, e') :: ρ') := ⟨.inr ⟨.head _, n⟩, All.mono (fun y q => q.imp id fun q => ⟨.tail _ q.1, q.2⟩) h⟩
theorem Upr.nil {x : Str} {p : RP} : Upr x p [] [(x, .res p)] := ⟨.inl rfl, trivial⟩
theorem Upr.hit {x : Str} {e' : Ent} {p : RP} {ρ ρ' : Rho} (h : Upr x p ρ ρ') : Upr x p ((x, e') :: ρ) ρ' := All.mono (fun y q => q.imp id fun q => ⟨.tail _ q.1, q.2⟩) h
theorem Upr.vp {x y : Str} {p : RP} {q : VP} {ρ ρ' : Rho} (h : Upr x p ρ ρ') : Upr x p ((y, .vp q) :: ρ) ((y, .vp q) :: ρ') := ⟨.inr ⟨.head _, trivial⟩, All.mono (fun y q => q.imp id fun q => ⟨.tail _ q.1, q.2⟩) h⟩
theorem Upr.res {x y : Str} {p q : RP} {ρ ρ' : Rho} (n : ∀ b ∈ q.as, b ∉ p.as) (h : Upr x p ρ ρ') : Upr x p ((y, .res q) :: ρ) ((y, .res q) :: ρ') := ⟨.inr ⟨.head _, n⟩, All.mono (fun y q => q.imp id fun q => ⟨.tail _ q.1, q.2⟩) h⟩
theorem sub_of_all {ρ ρ' : Rho} (h : All (fun y => y ∈ ρ) ρ') : ∀ y ∈ ρ', y ∈ ρ := fun y m => h.mem y m

noncomputable def fnAt (K : Frag) (a : Addr) : FuncData := match K.lookup a with
  | some ⟨_, _, .func fd, _⟩ => fd
  | _ => default
noncomputable def bodyAt (K : Frag) (a : Addr) : List Stmt := match (fnAt K a).body with
  | .stmts b => b
  | _ => []
noncomputable abbrev KK (P : Params) : Frag := Mine.hd.heap_39 P
noncomputable abbrev scA (P : Params) (a : Addr) : Scope := (fnAt (KK P) a).scope
noncomputable abbrev bdA (P : Params) (a : Addr) : List Stmt := bodyAt (KK P) a
structure TopX (P : Params) (mg mb : Str → Option Value) (h : Heap) : Prop where
  f : TopF mg mb h
  k : (KK P).In h
  b : ∀ x : Str, x ≠ "__name__" → mb x = bootBuiltins x
structure Fs (P : Params) (a : Addr) (names : List Str) : Prop where
  look : ∃ o, (KK P).lookup a = some o ∧ o.data = .func (fnAt (KK P) a) ∧ o.cls = .type "function"
  code : ∀ h : Heap, (KK P).In h → h.CodeRec (fnAt (KK P) a).code (fnAt (KK P) a).qualname
  body : (fnAt (KK P) a).body = .stmts (bdA P a)
  bind : ∀ vs : List Value, vs.length = names.length → bindArgs (fnAt (KK P) a) ⟨vs, []⟩ = pure (names.zip vs)
  clo : (fnAt (KK P) a).closure = []
  kinds : All (fun x => (scA P a).names.lookup x = some .local ∨ (scA P a).names.lookup x = some .cell) names
  nd : names.Nodup
  gl : (fnAt (KK P) a).globals = mainGlobals
  bu : (fnAt (KK P) a).builtins = builtinsNs
  nc : ((cellsFrom 0 (scA P a).names []).map (·.1)).Nodup
  co : (scA P a).isCoroutine = false
  gen : (scA P a).isGenerator = false
  k : (scA P a).kind = .function
section
variable {P : Params} {mg mb : Str → Option Value} {prog : Program} {w : World} {ht : Heap} {n : Nat} {sc : Scope} {ρ : Rho} {pos : Pos} {a : Addr} {names : List Str}
theorem Fs.fn {ps : List VP} {r : KP} (F : Fs P a names) (T : TopX P mg mb ht) (hlen : ps.length = names.length) (hbody : Ex prog w ht n (scA P a) (names.zip (ps.map Ent.vp)) (bdA P a) (.ret r)) : Fn prog w ht (n + 1) (.ref a) (ps.map VP.kp) r := by
  obtain ⟨o, h1, h2, _⟩ := F.look
  exact Fn.def T.f (T.k _ _ h1) h2 (F.code _ T.k) F.body F.bind hlen F.clo F.kinds F.nd F.gl F.bu F.nc F.co F.gen F.k (Ex.toBody hbody)
theorem Fs.fnR {z : Str} {ps : List VP} {p p' : RP} {ρ' : Rho} {Rr : PyData → Prop} {po : Post} (F : Fs P a (z :: names)) (T : TopX P mg mb ht) (hlen : ps.length = names.length) (has : p'.as = p.as) (hm : (z, Ent.res p') ∈ ρ') (hpo : po = .retE ρ' Rr ∨ po = .next ρ' ∧ Rr .none) (hbody : Ex prog w ht n (scA P a) ((z, .res p) :: names.zip (ps.map Ent.vp)) (bdA P a) po) : FnR prog w ht (n + 1) (.ref a) p ps p' Rr := by
  obtain ⟨o, h1, h2, _⟩ := F.look
  exact FnR.defG T.f (T.k _ _ h1) h2 (F.code _ T.k) F.body F.bind hlen F.clo F.kinds F.nd F.gl F.bu F.nc F.co F.gen F.k has hm hpo hbody
theorem Fs.lend {l : List (KP × VP)} {es : List PyData} (F : Fs P a names) (T : TopX P mg mb ht) (hlen : l.length = names.length) (hL : ∀ z ∈ l, Lent z.1 z.2) (hes : ∀ d ∈ es, Sc d) (hbody : Ex prog w ht n (scA P a) (names.zip ((l.map (·.2)).map Ent.vp)) (bdA P a) (.ret (kfr es))) : Fn prog w ht (n + 1) (.ref a) (l.map (·.1)) (kfr es) := by
  obtain ⟨o, h1, h2, _⟩ := F.look
  exact Fn.lend T.f (T.k _ _ h1) h2 (F.code _ T.k) F.body F.bind hlen F.clo F.kinds F.nd F.gl F.bu F.nc F.co F.gen F.k hL hes (Ex.toBody hbody)
theorem Fs.cls {C N : Addr} {mN : Str → Option Value} {z : Str} {ps : List VP} {ι : Type} {ρs : Addr → Addr → ι → Rho} {P' : Addr → Addr → ι → RP} {r : KP} (F : Fs P a (z :: names)) (T : TopX P mg mb ht) (cl : ClsAt ht C N mN) (hi : mN "__init__" = some (.ref a)) (hlen : ps.length = names.length)
    (hm : ∀ x dx i, (z, Ent.res (P' x dx i)) ∈ ρs x dx i) (hbody : ∀ x dx, Ex prog w ht n (scA P a) ((z, .res (objR x dx C [])) :: names.zip (ps.map Ent.vp)) (bdA P a) (.grow ι (ρs x dx)))
    (hfin : ∀ x dx i {X X' : List Addr} {h₀ h : Heap}, (P' x dx i).P X' h → (∀ b ∈ X, b ∈ X') → (∀ b ∈ (P' x dx i).as, b ∉ X) → x ∉ X → dx ∉ X → r.P X h₀ h (.ref x)) : Fn prog w ht (n + 2) (.ref C) (ps.map VP.kp) r := by
  obtain ⟨o, h1, h2, h3⟩ := F.look
  exact Fn.cls T.f cl hi (T.k _ _ h1) h3 h2 (F.code _ T.k) F.body F.bind hlen F.clo F.kinds F.nd F.gl F.bu F.nc F.co F.gen F.k hm hbody hfin

theorem Ev.gfn {x : Str} {v : Value} (T : TopX P mg mb ht) (e : nsIn (KK P) mainGlobals x = some (some v)) (hx : sc.names.lookup x = some .globalImplicit) (hd : (x == ("__debug__" : Str)) = false := by decide) : Ev prog w ht n sc ρ (.Name x pos) (kis v) :=
  Ev.glob T.f (mg_of T.k T.f.g e) hx (fun _ _ => rfl) hd
theorem Ev.gint {x : Str} {i : Int} {t : Tok} (T : TopX P mg mb ht) (e : nsIn (KK P) mainGlobals x = some (some (.int i t))) (hx : sc.names.lookup x = some .globalImplicit) (hd : (x == ("__debug__" : Str)) = false := by decide) : Ev prog w ht n sc ρ (.Name x pos) (kim (.int i)) :=
  Ev.glob T.f (mg_of T.k T.f.g e) hx (p := kim (.int i)) (fun _ _ => Rv.int _ _) hd
theorem Ev.gPLAIN (T : TopX P mg mb ht) (hx : sc.names.lookup (Str.ofString "SCRIPT_PLAIN") = some NameKind.globalImplicit) : Ev prog w ht n sc ρ (.Name "SCRIPT_PLAIN" pos) (kim (.int 0)) := Ev.gint (t := 189) T (by kernel_rfl) hx (by decide)
theorem Ev.gGOING (T : TopX P mg mb ht) (hx : sc.names.lookup (Str.ofString "SCRIPT_GOING") = some NameKind.globalImplicit) : Ev prog w ht n sc ρ (.Name "SCRIPT_GOING" pos) (kim (.int 1)) := Ev.gint (t := 191) T (by kernel_rfl) hx (by decide)
theorem Ev.gCOMING (T : TopX P mg mb ht) (hx : sc.names.lookup (Str.ofString "SCRIPT_COMING") = some NameKind.globalImplicit) : Ev prog w ht n sc ρ (.Name "SCRIPT_COMING" pos) (kim (.int 2)) := Ev.gint (t := 193) T (by kernel_rfl) hx (by decide)
theorem Ev.gkinds (T : TopX P mg mb ht) (hx : sc.names.lookup (Str.ofString "SCRIPT_KINDS") = some NameKind.globalImplicit) : Ev prog w ht n sc ρ (.Name "SCRIPT_KINDS" pos) (kim (.tuple (intL [0, 1, 2]))) :=
  Ev.glob T.f (mg_of T.k T.f.g (v := .ref 15) (by kernel_rfl)) hx (fun {X h} k hX => by
    have e : ht.get? 15 = some (tupO [.int 0 189, .int 1 191, .int 2 193] 0) := T.k _ _ rfl
    exact Rv.tuple (fun m => by rw [hX _ m] at e; cases e) (k _ _ e) (.cons (.int _ _) (.cons (.int _ _) (.cons (.int _ _) .nil)))) (by decide)
theorem Ev.bfn {x : Str} {v : Value} (T : TopX P mg mb ht) (e : nsIn (KK P) mainGlobals x = some Option.none) (hx : sc.names.lookup x = some .globalImplicit) (hb : bootBuiltins x = some v) (hn : x ≠ "__name__") (hd : (x == ("__debug__" : Str)) = false := by decide) : Ev prog w ht n sc ρ (.Name x pos) (kis v) :=
  Ev.bltin T.f (ns_none_of T.k T.f.g e) ((T.b x hn).trans hb) hx hd
theorem Tst.to {e : Expr} {b b' : Bool} (h : Tst prog w ht n sc ρ e b) (q : b = b') : Tst prog w ht n sc ρ e b' := q ▸ h
theorem Ev.to {e : Expr} {p q : KP} (h : Ev prog w ht n sc ρ e p) (i : p = q) : Ev prog w ht n sc ρ e q := i ▸ h
theorem sh_int (i : Int) : SeqAt.shaped (.int i) = true := by simp [SeqAt.shaped, PyData.canLay0, PyData.depth]
theorem sh_none : SeqAt.shaped .none = true := by simp [SeqAt.shaped, PyData.canLay0, PyData.depth]
theorem sh_str {x : Str} (h : PyData.strOk x = true) : SeqAt.shaped (.str x) = true := by simp [SeqAt.shaped, PyData.canLay0, PyData.depth, h]
theorem eqv_int (a b : Int) : PyData.eqv (.int a) (.int b) = (a == b) := by simp [PyData.eqv]
theorem eqv_str (a b : Str) : PyData.eqv (.str a) (.str b) = (a == b) := by simp [PyData.eqv]
end
theorem lst1 {p : List Value → Prop} (h : ∀ a, p [a]) : ∀ vs : List Value, vs.length = 1 → p vs
  | [a], _ => h a
theorem lst2 {p : List Value → Prop} (h : ∀ a b, p [a, b]) : ∀ vs : List Value, vs.length = 2 → p vs
  | a :: vs, q => lst1 (p := fun vs => p (a :: vs)) (h a) vs (Nat.succ.inj q)
theorem lst3 {p : List Value → Prop} (h : ∀ a b c, p [a, b, c]) : ∀ vs : List Value, vs.length = 3 → p vs
  | a :: vs, q => lst2 (p := fun vs => p (a :: vs)) (h a) vs (Nat.succ.inj q)
theorem lst4 {p : List Value → Prop} (h : ∀ a b c d, p [a, b, c, d]) : ∀ vs : List Value, vs.length = 4 → p vs
  | a :: vs, q => lst3 (p := fun vs => p (a :: vs)) (h a) vs (Nat.succ.inj q)
theorem lst5 {p : List Value → Prop} (h : ∀ a b c d e, p [a, b, c, d, e]) : ∀ vs : List Value, vs.length = 5 → p vs
  | a :: vs, q => lst4 (p := fun vs => p (a :: vs)) (h a) vs (Nat.succ.inj q)
theorem lst6 {p : List Value → Prop} (h : ∀ a b c d e f, p [a, b, c, d, e, f]) : ∀ vs : List Value, vs.length = 6 → p vs
  | a :: vs, q => lst5 (p := fun vs => p (a :: vs)) (h a) vs (Nat.succ.inj q)
theorem F57 (P : Params) : Fs P 57 ["step"] := by
  refine ⟨⟨_, rfl, rfl, rfl⟩, fun h K => ⟨_, _, _, _, rfl, K _ _ rfl, rfl, rfl⟩, rfl, ?_, rfl, ?_, by decide, rfl, rfl, of_decide_eq_true (by kernel_rfl), rfl, rfl, rfl⟩
  · exact lst1 fun v0 => by kernel_rfl
  · exact ⟨.inl (by kernel_rfl), trivial⟩
theorem F64 (P : Params) : Fs P 64 ["script", "costs"] := by
  refine ⟨⟨_, rfl, rfl, rfl⟩, fun h K => ⟨_, _, _, _, rfl, K _ _ rfl, rfl, rfl⟩, rfl, ?_, rfl, ?_, by decide, rfl, rfl, of_decide_eq_true (by kernel_rfl), rfl, rfl, rfl⟩
  · exact lst2 fun v0 v1 => by kernel_rfl
  · exact ⟨.inl (by kernel_rfl), ⟨.inl (by kernel_rfl), trivial⟩⟩
theorem F29 (P : Params) : Fs P 29 ["self", "delete_first", "delete_more", "insert_first", "insert_more", "draws"] := by
  refine ⟨⟨_, rfl, rfl, rfl⟩, fun h K => ⟨_, _, _, _, rfl, K _ _ rfl, rfl, rfl⟩, rfl, ?_, rfl, ?_, by decide, rfl, rfl, of_decide_eq_true (by kernel_rfl), rfl, rfl, rfl⟩
  · exact lst6 fun v0 v1 v2 v3 v4 v5 => by kernel_rfl
  · exact ⟨.inl (by kernel_rfl), ⟨.inl (by kernel_rfl), ⟨.inl (by kernel_rfl), ⟨.inl (by kernel_rfl), ⟨.inl (by kernel_rfl), ⟨.inl (by kernel_rfl), trivial⟩⟩⟩⟩⟩⟩
theorem F36 (P : Params) : Fs P 36 ["self", "kind"] := by
  refine ⟨⟨_, rfl, rfl, rfl⟩, fun h K => ⟨_, _, _, _, rfl, K _ _ rfl, rfl, rfl⟩, rfl, ?_, rfl, ?_, by decide, rfl, rfl, of_decide_eq_true (by kernel_rfl), rfl, rfl, rfl⟩
  · exact lst2 fun v0 v1 => by kernel_rfl
  · exact ⟨.inl (by kernel_rfl), ⟨.inl (by kernel_rfl), trivial⟩⟩
theorem F43 (P : Params) : Fs P 43 ["self", "kind", "new"] := by
  refine ⟨⟨_, rfl, rfl, rfl⟩, fun h K => ⟨_, _, _, _, rfl, K _ _ rfl, rfl, rfl⟩, rfl, ?_, rfl, ?_, by decide, rfl, rfl, of_decide_eq_true (by kernel_rfl), rfl, rfl, rfl⟩
  · exact lst3 fun v0 v1 v2 => by kernel_rfl
  · exact ⟨.inl (by kernel_rfl), ⟨.inl (by kernel_rfl), ⟨.inl (by kernel_rfl), trivial⟩⟩⟩
theorem F78 (P : Params) : Fs P 78 ["self", "old", "new", "costs"] := by
  refine ⟨⟨_, rfl, rfl, rfl⟩, fun h K => ⟨_, _, _, _, rfl, K _ _ rfl, rfl, rfl⟩, rfl, ?_, rfl, ?_, by decide, rfl, rfl, of_decide_eq_true (by kernel_rfl), rfl, rfl, rfl⟩
  · exact lst4 fun v0 v1 v2 v3 => by kernel_rfl
  · exact ⟨.inl (by kernel_rfl), ⟨.inl (by kernel_rfl), ⟨.inl (by kernel_rfl), ⟨.inl (by kernel_rfl), trivial⟩⟩⟩⟩
theorem F85 (P : Params) : Fs P 85 ["self", "place", "cost", "step", "before"] := by
  refine ⟨⟨_, rfl, rfl, rfl⟩, fun h K => ⟨_, _, _, _, rfl, K _ _ rfl, rfl, rfl⟩, rfl, ?_, rfl, ?_, by decide, rfl, rfl, of_decide_eq_true (by kernel_rfl), rfl, rfl, rfl⟩
  · exact lst5 fun v0 v1 v2 v3 v4 => by kernel_rfl
  · exact ⟨.inl (by kernel_rfl), ⟨.inl (by kernel_rfl), ⟨.inl (by kernel_rfl), ⟨.inl (by kernel_rfl), ⟨.inl (by kernel_rfl), trivial⟩⟩⟩⟩⟩
theorem F92 (P : Params) : Fs P 92 ["self", "i", "j"] := by
  refine ⟨⟨_, rfl, rfl, rfl⟩, fun h K => ⟨_, _, _, _, rfl, K _ _ rfl, rfl, rfl⟩, rfl, ?_, rfl, ?_, by decide, rfl, rfl, of_decide_eq_true (by kernel_rfl), rfl, rfl, rfl⟩
  · exact lst3 fun v0 v1 v2 => by kernel_rfl
  · exact ⟨.inl (by kernel_rfl), ⟨.inl (by kernel_rfl), ⟨.inl (by kernel_rfl), trivial⟩⟩⟩
theorem F97 (P : Params) : Fs P 97 ["self"] := by
  refine ⟨⟨_, rfl, rfl, rfl⟩, fun h K => ⟨_, _, _, _, rfl, K _ _ rfl, rfl, rfl⟩, rfl, ?_, rfl, ?_, by decide, rfl, rfl, of_decide_eq_true (by kernel_rfl), rfl, rfl, rfl⟩
  · exact lst1 fun v0 => by kernel_rfl
  · exact ⟨.inr (by kernel_rfl), trivial⟩
theorem F111 (P : Params) : Fs P 111 ["old", "new", "costs"] := by
  refine ⟨⟨_, rfl, rfl, rfl⟩, fun h K => ⟨_, _, _, _, rfl, K _ _ rfl, rfl, rfl⟩, rfl, ?_, rfl, ?_, by decide, rfl, rfl, of_decide_eq_true (by kernel_rfl), rfl, rfl, rfl⟩
  · exact lst3 fun v0 v1 v2 => by kernel_rfl
  · exact ⟨.inl (by kernel_rfl), ⟨.inl (by kernel_rfl), ⟨.inl (by kernel_rfl), trivial⟩⟩⟩
theorem F116 (P : Params) : Fs P 116 ["old", "new"] := by
  refine ⟨⟨_, rfl, rfl, rfl⟩, fun h K => ⟨_, _, _, _, rfl, K _ _ rfl, rfl, rfl⟩, rfl, ?_, rfl, ?_, by decide, rfl, rfl, of_decide_eq_true (by kernel_rfl), rfl, rfl, rfl⟩
  · exact lst2 fun v0 v1 => by kernel_rfl
  · exact ⟨.inr (by kernel_rfl), ⟨.inr (by kernel_rfl), trivial⟩⟩
theorem F121 (P : Params) : Fs P 121 ["script"] := by
  refine ⟨⟨_, rfl, rfl, rfl⟩, fun h K => ⟨_, _, _, _, rfl, K _ _ rfl, rfl, rfl⟩, rfl, ?_, rfl, ?_, by decide, rfl, rfl, of_decide_eq_true (by kernel_rfl), rfl, rfl, rfl⟩
  · exact lst1 fun v0 => by kernel_rfl
  · exact ⟨.inl (by kernel_rfl), trivial⟩
theorem F128 (P : Params) : Fs P 128 ["script"] := by
  refine ⟨⟨_, rfl, rfl, rfl⟩, fun h K => ⟨_, _, _, _, rfl, K _ _ rfl, rfl, rfl⟩, rfl, ?_, rfl, ?_, by decide, rfl, rfl, of_decide_eq_true (by kernel_rfl), rfl, rfl, rfl⟩
  · exact lst1 fun v0 => by kernel_rfl
  · exact ⟨.inl (by kernel_rfl), trivial⟩
theorem F135 (P : Params) : Fs P 135 ["rows", "run"] := by
  refine ⟨⟨_, rfl, rfl, rfl⟩, fun h K => ⟨_, _, _, _, rfl, K _ _ rfl, rfl, rfl⟩, rfl, ?_, rfl, ?_, by decide, rfl, rfl, of_decide_eq_true (by kernel_rfl), rfl, rfl, rfl⟩
  · exact lst2 fun v0 v1 => by kernel_rfl
  · exact ⟨.inl (by kernel_rfl), ⟨.inl (by kernel_rfl), trivial⟩⟩
theorem F142 (P : Params) : Fs P 142 ["lines", "script"] := by
  refine ⟨⟨_, rfl, rfl, rfl⟩, fun h K => ⟨_, _, _, _, rfl, K _ _ rfl, rfl, rfl⟩, rfl, ?_, rfl, ?_, by decide, rfl, rfl, of_decide_eq_true (by kernel_rfl), rfl, rfl, rfl⟩
  · exact lst2 fun v0 v1 => by kernel_rfl
  · exact ⟨.inl (by kernel_rfl), ⟨.inl (by kernel_rfl), trivial⟩⟩
theorem F147 (P : Params) : Fs P 147 ["script"] := by
  refine ⟨⟨_, rfl, rfl, rfl⟩, fun h K => ⟨_, _, _, _, rfl, K _ _ rfl, rfl, rfl⟩, rfl, ?_, rfl, ?_, by decide, rfl, rfl, of_decide_eq_true (by kernel_rfl), rfl, rfl, rfl⟩
  · exact lst1 fun v0 => by kernel_rfl
  · exact ⟨.inl (by kernel_rfl), trivial⟩
theorem F154 (P : Params) : Fs P 154 ["deck", "below"] := by
  refine ⟨⟨_, rfl, rfl, rfl⟩, fun h K => ⟨_, _, _, _, rfl, K _ _ rfl, rfl, rfl⟩, rfl, ?_, rfl, ?_, by decide, rfl, rfl, of_decide_eq_true (by kernel_rfl), rfl, rfl, rfl⟩
  · exact lst2 fun v0 v1 => by kernel_rfl
  · exact ⟨.inl (by kernel_rfl), ⟨.inl (by kernel_rfl), trivial⟩⟩
theorem F168 (P : Params) : Fs P 168 ["script", "prices", "draws"] := by
  refine ⟨⟨_, rfl, rfl, rfl⟩, fun h K => ⟨_, _, _, _, rfl, K _ _ rfl, rfl, rfl⟩, rfl, ?_, rfl, ?_, by decide, rfl, rfl, of_decide_eq_true (by kernel_rfl), rfl, rfl, rfl⟩
  · exact lst3 fun v0 v1 v2 => by kernel_rfl
  · exact ⟨.inl (by kernel_rfl), ⟨.inl (by kernel_rfl), ⟨.inl (by kernel_rfl), trivial⟩⟩⟩
theorem F173 (P : Params) : Fs P 173 ["old", "new", "near", "far"] := by
  refine ⟨⟨_, rfl, rfl, rfl⟩, fun h K => ⟨_, _, _, _, rfl, K _ _ rfl, rfl, rfl⟩, rfl, ?_, rfl, ?_, by decide, rfl, rfl, of_decide_eq_true (by kernel_rfl), rfl, rfl, rfl⟩
  · exact lst4 fun v0 v1 v2 v3 => by kernel_rfl
  · exact ⟨.inl (by kernel_rfl), ⟨.inl (by kernel_rfl), ⟨.inr (by kernel_rfl), ⟨.inr (by kernel_rfl), trivial⟩⟩⟩⟩
theorem F178 (P : Params) : Fs P 178 ["script", "old", "new"] := by
  refine ⟨⟨_, rfl, rfl, rfl⟩, fun h K => ⟨_, _, _, _, rfl, K _ _ rfl, rfl, rfl⟩, rfl, ?_, rfl, ?_, by decide, rfl, rfl, of_decide_eq_true (by kernel_rfl), rfl, rfl, rfl⟩
  · exact lst3 fun v0 v1 v2 => by kernel_rfl
  · exact ⟨.inl (by kernel_rfl), ⟨.inr (by kernel_rfl), ⟨.inr (by kernel_rfl), trivial⟩⟩⟩
theorem F185 (P : Params) : Fs P 185 ["rows", "runs"] := by
  refine ⟨⟨_, rfl, rfl, rfl⟩, fun h K => ⟨_, _, _, _, rfl, K _ _ rfl, rfl, rfl⟩, rfl, ?_, rfl, ?_, by decide, rfl, rfl, of_decide_eq_true (by kernel_rfl), rfl, rfl, rfl⟩
  · exact lst2 fun v0 v1 => by kernel_rfl
  · exact ⟨.inl (by kernel_rfl), ⟨.inl (by kernel_rfl), trivial⟩⟩
theorem F190 (P : Params) : Fs P 190 ["script"] := by
  refine ⟨⟨_, rfl, rfl, rfl⟩, fun h K => ⟨_, _, _, _, rfl, K _ _ rfl, rfl, rfl⟩, rfl, ?_, rfl, ?_, by decide, rfl, rfl, of_decide_eq_true (by kernel_rfl), rfl, rfl, rfl⟩
  · exact lst1 fun v0 => by kernel_rfl
  · exact ⟨.inl (by kernel_rfl), trivial⟩
inductive Stp where
  | keep (i j : Nat)
  | draw (i j : Nat)
  | del (i : Nat)
  | ins (j : Nat)
noncomputable def Stp.ds : Stp → List PyData
  | .keep i j => [.str "keep", .int i, .int j]
  | .draw i j => [.str "draw", .int i, .int j]
  | .del i => [.str "delete", .int i]
  | .ins j => [.str "insert", .int j]
noncomputable abbrev Stp.d (s : Stp) : PyData := .tuple s.ds
noncomputable def Stp.kind : Stp → Int
  | .del _ => 1
  | .ins _ => 2
  | _ => 0
noncomputable def Stp.word : Stp → Str
  | .keep .. => "keep"
  | .draw .. => "draw"
  | .del _ => "delete"
  | .ins _ => "insert"
noncomputable def Stp.is (x : Str) (s : Stp) : Bool := PyData.eqv (.str s.word) (.str x)
theorem is_keep_keep (i j : Nat) : (Stp.keep i j).is "keep" = true := (eqv_str _ _).trans (show (Str.ofString "keep" == Str.ofString "keep") = true by decide)
theorem is_draw_keep (i j : Nat) : (Stp.draw i j).is "keep" = false := (eqv_str _ _).trans (show (Str.ofString "draw" == Str.ofString "keep") = false by decide)
theorem is_del_keep (i : Nat) : (Stp.del i).is "keep" = false := (eqv_str _ _).trans (show (Str.ofString "delete" == Str.ofString "keep") = false by decide)
theorem is_ins_keep (i : Nat) : (Stp.ins i).is "keep" = false := (eqv_str _ _).trans (show (Str.ofString "insert" == Str.ofString "keep") = false by decide)
theorem is_keep_draw (i j : Nat) : (Stp.keep i j).is "draw" = false := (eqv_str _ _).trans (show (Str.ofString "keep" == Str.ofString "draw") = false by decide)
theorem is_draw_draw (i j : Nat) : (Stp.draw i j).is "draw" = true := (eqv_str _ _).trans (show (Str.ofString "draw" == Str.ofString "draw") = true by decide)
theorem is_del_draw (i : Nat) : (Stp.del i).is "draw" = false := (eqv_str _ _).trans (show (Str.ofString "delete" == Str.ofString "draw") = false by decide)
theorem is_ins_draw (i : Nat) : (Stp.ins i).is "draw" = false := (eqv_str _ _).trans (show (Str.ofString "insert" == Str.ofString "draw") = false by decide)
theorem is_keep_del (i j : Nat) : (Stp.keep i j).is "delete" = false := (eqv_str _ _).trans (show (Str.ofString "keep" == Str.ofString "delete") = false by decide)
theorem is_draw_del (i j : Nat) : (Stp.draw i j).is "delete" = false := (eqv_str _ _).trans (show (Str.ofString "draw" == Str.ofString "delete") = false by decide)
theorem is_del_del (i : Nat) : (Stp.del i).is "delete" = true := (eqv_str _ _).trans (show (Str.ofString "delete" == Str.ofString "delete") = true by decide)
theorem is_ins_del (i : Nat) : (Stp.ins i).is "delete" = false := (eqv_str _ _).trans (show (Str.ofString "insert" == Str.ofString "delete") = false by decide)
theorem is_keep_ins (i j : Nat) : (Stp.keep i j).is "insert" = false := (eqv_str _ _).trans (show (Str.ofString "keep" == Str.ofString "insert") = false by decide)
theorem is_draw_ins (i j : Nat) : (Stp.draw i j).is "insert" = false := (eqv_str _ _).trans (show (Str.ofString "draw" == Str.ofString "insert") = false by decide)
theorem is_del_ins (i : Nat) : (Stp.del i).is "insert" = false := (eqv_str _ _).trans (show (Str.ofString "delete" == Str.ofString "insert") = false by decide)
theorem is_ins_ins (i : Nat) : (Stp.ins i).is "insert" = true := (eqv_str _ _).trans (show (Str.ofString "insert" == Str.ofString "insert") = true by decide)
theorem Stp.at0 (s : Stp) : s.ds[0]? = some (.str s.word) := by cases s <;> rfl
theorem Stp.sh (s : Stp) : SeqAt.shaped (.str s.word) = true := sh_str (by cases s <;> (simp only [Stp.word]; decide +kernel))
noncomputable def Stp.is_ (s : Stp) (x : Str) (b : Bool) : Prop := s.is x = b
noncomputable def unStp : PyData → Stp
  | .tuple [.str x, .int i, .int j] => if x = Str.ofString "keep" then .keep i.toNat j.toNat else .draw i.toNat j.toNat
  | .tuple [.str x, .int i] => if x = Str.ofString "delete" then .del i.toNat else .ins i.toNat
  | _ => .del 0
theorem unStp_d (s : Stp) : unStp s.d = s := by
  cases s with
  | keep i j => show (if Str.ofString "keep" = Str.ofString "keep" then Stp.keep (Int.toNat i) (Int.toNat j) else Stp.draw (Int.toNat i) (Int.toNat j)) = _; rw [if_pos rfl]; rfl
  | draw i j => show (if Str.ofString "draw" = Str.ofString "keep" then Stp.keep (Int.toNat i) (Int.toNat j) else Stp.draw (Int.toNat i) (Int.toNat j)) = _; rw [if_neg (by decide)]; rfl
  | del i => show (if Str.ofString "delete" = Str.ofString "delete" then Stp.del (Int.toNat i) else Stp.ins (Int.toNat i)) = _; rw [if_pos rfl]; rfl
  | ins i => show (if Str.ofString "insert" = Str.ofString "delete" then Stp.del (Int.toNat i) else Stp.ins (Int.toNat i)) = _; rw [if_neg (by decide)]; rfl
noncomputable abbrev stps (l : List Stp) : PyData := .list (l.map Stp.d)
structure Cst where
  p0 : Int
  p1 : Int
  p2 : Int
  p3 : Int
  dr : List Int
noncomputable def Cst.at (c : Cst) (j : Nat) : Int := c.dr.getD j 0
noncomputable def Cst.dele (c : Cst) (k : Int) : Int := if k == 1 then c.p1 else c.p0
noncomputable def Cst.inse (c : Cst) (k : Int) (j : Nat) : Int := (if k == 2 then c.p3 else c.p2) + c.at j
noncomputable def Cst.of (c : Cst) (k : Int) : Stp → Int
  | .keep _ _ => 0
  | .draw _ j => c.at j
  | .del _ => c.dele k
  | .ins j => c.inse k j
noncomputable def Cst.tot (c : Cst) : Int → List Stp → Int
  | _, [] => 0
  | k, s :: l => c.of k s + c.tot s.kind l
noncomputable def lastKind (k : Int) (l : List Stp) : Int := match l.getLast? with
  | some s => s.kind
  | none => k
theorem tot_snoc (c : Cst) : ∀ (l : List Stp) (k : Int) (s : Stp), c.tot k (l ++ [s]) = c.tot k l + c.of (lastKind k l) s
  | [], k, s => by simp [Cst.tot, lastKind]
  | a :: l, k, s => by
    rw [List.cons_append]
    show c.of k a + c.tot a.kind (l ++ [s]) = c.of k a + c.tot a.kind l + c.of (lastKind k (a :: l)) s
    rw [tot_snoc c l a.kind s]
    have : lastKind k (a :: l) = lastKind a.kind l := by
      cases l with
      | nil => rfl
      | cons b r =>
        unfold lastKind
        rw [List.getLast?_cons_cons]
        cases q : (b :: r).getLast? with
        | none => simp at q
        | some s => rfl
    rw [this]; (first | assumption | exact Nat.le_refl _ | exact Nat.add_le_add_left (by decide) _ | exact Nat.le_trans (by assumption) (by decide) | omega)
theorem lastKind_snoc (k : Int) (l : List Stp) (s : Stp) : lastKind k (l ++ [s]) = s.kind := by simp [lastKind]
theorem take_snoc {α : Type} {l : List α} {i : Nat} {a : α} (h : l[i]? = some a) : l.take (i + 1) = l.take i ++ [a] := by
  rw [List.take_add_one, h]; rfl
noncomputable def Stp.inR (n : Nat) : Stp → Prop
  | .draw _ j => j < n
  | .ins j => j < n
  | _ => True
theorem Cst.get {c : Cst} {j : Nat} (h : j < c.dr.length) : c.dr[j]? = some (c.at j) := by
  unfold Cst.at; rw [List.getD_eq_getElem?_getD, List.getElem?_eq_getElem h]; rfl
theorem intL_get {l : List Int} {j : Nat} {v : Int} (h : l[j]? = some v) : (intL l)[j]? = some (.int v) := by
  unfold intL; rw [List.getElem?_map, h]; rfl

noncomputable def esA (P : Params) (a : Addr) : Array DictEntry := match (KK P).lookup a with
  | some ⟨_, _, .dict es _, _⟩ => es
  | _ => #[]
noncomputable abbrev mNA (P : Params) (a : Addr) : Str → Option Value := nsFind (esA P a)
noncomputable def strKeyed (es : Array DictEntry) : Bool := es.all fun e => match e.key with
  | .str _ _ => true
  | _ => false
theorem strKeys_of {es : Array DictEntry} (h : strKeyed es = true) : StrKeys es := by
  intro e he
  have := Array.all_eq_true_iff_forall_mem.mp h e he
  cases q : e.key with
  | str n t => exact ⟨n, t, rfl⟩
  | _ => rw [q] at this; cases this
section
variable {P : Params} {mg mb : Str → Option Value} {prog : Program} {w : World} {ht : Heap} {n : Nat} {sc : Scope} {ρ : Rho}
theorem Ev.itemJ {l e : Expr} {pos : Pos} {ds : List PyData} {j : Nat} {d : PyData} (hl : Ev prog w ht n sc ρ l (ksl ds)) (he : Ev prog w ht n sc ρ e (kim (.int (j : Int)))) (hz : ds.length ≤ 1000) (hd : ds[j]? = some d)
    (hs : ∀ o i, subscripted e false o i = operate [o, i] (getItem o i) := by intro _ _; with_unfolding_all rfl) : Ev prog w ht n sc ρ (.Subscript l e pos) (kim d) :=
  Ev.item hl he (by (first | assumption | exact Nat.le_refl _ | exact Nat.add_le_add_left (by decide) _ | exact Nat.le_trans (by assumption) (by decide) | omega)) (by have := (List.getElem?_eq_some_iff.mp hd).1; (first | assumption | exact Nat.le_refl _ | exact Nat.add_le_add_left (by decide) _ | exact Nat.le_trans (by assumption) (by decide) | omega)) hd hs
theorem cls46 (T : TopX P mg mb ht) : ClsAt ht 46 45 (mNA P 45) := ⟨⟨_, _, _, _, _, _, _, _, _, _, _, _, T.k _ _ rfl⟩, _, _, _, T.k _ _ rfl, rfl, strKeys_of (by kernel_rfl), fun _ => rfl⟩
theorem cls100 (T : TopX P mg mb ht) : ClsAt ht 100 99 (mNA P 99) := ⟨⟨_, _, _, _, _, _, _, _, _, _, _, _, T.k _ _ rfl⟩, _, _, _, T.k _ _ rfl, rfl, strKeys_of (by kernel_rfl), fun _ => rfl⟩
noncomputable def costsV (c : Cst) : VP := objP 46 [("delete_first", im (.int c.p0)), ("delete_more", im (.int c.p1)), ("insert_first", im (.int c.p2)), ("insert_more", im (.int c.p3)), ("draws", im (.list (intL c.dr)))]

theorem e_word {s : Stp} {x : Str} {xp p0 p1 p2 p3 : Pos} {k0 k1 : Nat} {y : Str} (hm : (x, Ent.vp (im s.d)) ∈ ρ) (hd : (x == ("__debug__" : Str)) = false := by decide) (hn : (x == ("__classdict__" : Str)) = false := by decide) (hy : PyData.strOk y = true := by decide +kernel) :
    Ev prog w ht n sc ρ (.Compare (.Subscript (.Name x xp) (.Constant (.int 0) k0 p0) p1) [.Eq] [.Constant (.str y) k1 p2] p3) (kim (.bool (s.is y))) :=
  Ev.cmp (Ev.itemT (ds := s.ds) (j := 0) (Ev.var hm hd hn) (Ev.int _ _) (by cases s <;> rfl) s.at0) (Ev.str _ _) (op_eq s.sh (sh_str hy))
theorem t_word {s : Stp} {x : Str} {xp p0 p1 p2 p3 : Pos} {k0 k1 : Nat} {y : Str} {b : Bool} (hm : (x, Ent.vp (im s.d)) ∈ ρ) (hb : s.is y = b) (hd : (x == ("__debug__" : Str)) = false := by decide) (hn : (x == ("__classdict__" : Str)) = false := by decide) (hy : PyData.strOk y = true := by decide +kernel) :
    Tst prog w ht n sc ρ (.Compare (.Subscript (.Name x xp) (.Constant (.int 0) k0 p0) p1) [.Eq] [.Constant (.str y) k1 p2] p3) b :=
  hb ▸ Tst.cmp (Ev.itemT (ds := s.ds) (j := 0) (Ev.var hm hd hn) (Ev.int _ _) (by cases s <;> rfl) s.at0) (Ev.str _ _) (op_eq s.sh (sh_str hy))
theorem t_wordN {s : Stp} {x : Str} {xp p0 p1 p2 p3 : Pos} {k0 k1 : Nat} {y : Str} {b : Bool} (hm : (x, Ent.vp (im s.d)) ∈ ρ) (hb : (!s.is y) = b) (hd : (x == ("__debug__" : Str)) = false := by decide) (hn : (x == ("__classdict__" : Str)) = false := by decide) (hy : PyData.strOk y = true := by decide +kernel) :
    Tst prog w ht n sc ρ (.Compare (.Subscript (.Name x xp) (.Constant (.int 0) k0 p0) p1) [.NotEq] [.Constant (.str y) k1 p2] p3) b :=
  hb ▸ Tst.cmp (Ev.itemT (ds := s.ds) (j := 0) (Ev.var hm hd hn) (Ev.int _ _) (by cases s <;> rfl) s.at0) (Ev.str _ _) (op_ne s.sh (sh_str hy))
theorem fn_kind (T : TopX P mg mb ht) (s : Stp) : Fn prog w ht (n + 1) (.ref 57) [kim s.d] (kim (.int s.kind)) := by
  refine (F57 P).fn (ps := [im s.d]) T rfl (show Ex _ _ _ _ _ [("step", .vp (im s.d))] _ _ from ?_)
  cases s with
  | del i => exact Ex.if_r (t_word (s := .del i) (by (repeat (first | with_reducible exact List.mem_cons_self | with_reducible refine List.mem_cons_of_mem _ ?_))) (is_del_del i)) (Ex.ret (Ev.gGOING T (by kernel_rfl)))
  | ins i => exact Ex.skip (t_word (s := .ins i) (by (repeat (first | with_reducible exact List.mem_cons_self | with_reducible refine List.mem_cons_of_mem _ ?_))) (is_ins_del i)) (Ex.ret (Ev.ite_t (t_word (s := .ins i) (by (repeat (first | with_reducible exact List.mem_cons_self | with_reducible refine List.mem_cons_of_mem _ ?_))) (is_ins_ins i)) (Ev.gCOMING T (by kernel_rfl))))
  | keep i j => exact Ex.skip (t_word (s := .keep i j) (by (repeat (first | with_reducible exact List.mem_cons_self | with_reducible refine List.mem_cons_of_mem _ ?_))) (is_keep_del i j)) (Ex.ret (Ev.ite_f (t_word (s := .keep i j) (by (repeat (first | with_reducible exact List.mem_cons_self | with_reducible refine List.mem_cons_of_mem _ ?_))) (is_keep_ins i j)) (Ev.gPLAIN T (by kernel_rfl))))
  | draw i j => exact Ex.skip (t_word (s := .draw i j) (by (repeat (first | with_reducible exact List.mem_cons_self | with_reducible refine List.mem_cons_of_mem _ ?_))) (is_draw_del i j)) (Ex.ret (Ev.ite_f (t_word (s := .draw i j) (by (repeat (first | with_reducible exact List.mem_cons_self | with_reducible refine List.mem_cons_of_mem _ ?_))) (is_draw_ins i j)) (Ev.gPLAIN T (by kernel_rfl))))
end
theorem Ex.nil0 {prog : Program} {w : World} {ht : Heap} {n : Nat} {sc : Scope} {ρ : Rho} : Ex prog w ht n sc ρ [] (.next ρ) := Ex.nil fun _ m => m
section
variable {P : Params} {mg mb : Str → Option Value} {prog : Program} {w : World} {ht : Heap} {n : Nat} {sc : Scope} {ρ ρ₁ ρ₂ : Rho} {c : Cst} {x : Str} {xp pos apos : Pos} {d : PyData} {e : Expr}
theorem cA {name : Str} {al : List (Str × VP)} {vp : VP} (T : TopX P mg mb ht) (hx : (x, Ent.vp (objP 46 al)) ∈ ρ) (hm : (name, vp) ∈ al) (hh : Handed vp) (hB : typeLookup (.type "object") name = pure none) (hna : mNA P 45 name = none) (hd : (x == ("__debug__" : Str)) = false := by decide) (hn : (x == ("__classdict__" : Str)) = false := by decide) : Ev prog w ht n sc ρ (.Attribute (.Name x xp) name apos) vp.kp :=
  Ev.attr (Ev.name hx hd hn) (cls46 T) hm hh (by kernel_rfl) hna hB
theorem tB (name : Str) (h : typeLookup (.type "object") name = pure none) : typeLookup (.type "object") name = pure none := h
theorem o_delete_first : typeLookup (.type "object") (Str.ofString "delete_first") = pure none := by rw [typeLookup_type, builtinLookup_eq_fast]; kernel_rfl
theorem o_delete_more : typeLookup (.type "object") (Str.ofString "delete_more") = pure none := by rw [typeLookup_type, builtinLookup_eq_fast]; kernel_rfl
theorem o_insert_first : typeLookup (.type "object") (Str.ofString "insert_first") = pure none := by rw [typeLookup_type, builtinLookup_eq_fast]; kernel_rfl
theorem o_insert_more : typeLookup (.type "object") (Str.ofString "insert_more") = pure none := by rw [typeLookup_type, builtinLookup_eq_fast]; kernel_rfl
theorem o_draws : typeLookup (.type "object") (Str.ofString "draws") = pure none := by rw [typeLookup_type, builtinLookup_eq_fast]; kernel_rfl
theorem o_deleting : typeLookup (.type "object") (Str.ofString "deleting") = pure none := by rw [typeLookup_type, builtinLookup_eq_fast]; kernel_rfl
theorem o_inserting : typeLookup (.type "object") (Str.ofString "inserting") = pure none := by rw [typeLookup_type, builtinLookup_eq_fast]; kernel_rfl
theorem t_eqI {a b : Int} {l r : Expr} (hl : Ev prog w ht n sc ρ l (kim (.int a))) (hr : Ev prog w ht n sc ρ r (kim (.int b))) {t : Bool} (h : (a == b) = t) (hm : behindInMarks .Eq r = false := by with_unfolding_all rfl) : Tst prog w ht n sc ρ (.Compare l [.Eq] [r] pos) t :=
  ((eqv_int a b).trans h) ▸ Tst.cmp hl hr (op_eq (sh_int a) (sh_int b)) hm
theorem fn_deleting (T : TopX P mg mb ht) (k : Int) : Fn prog w ht (n + 1) (.ref 36) [(costsV c).kp, kim (.int k)] (kim (.int (c.dele k))) := by
  refine (F36 P).fn (ps := [costsV c, im (.int k)]) T rfl (show Ex _ _ _ _ _ [("self", .vp (costsV c)), ("kind", .vp (im (.int k)))] _ _ from ?_)
  refine Ex.ret ?_
  unfold Cst.dele
  cases h : (k == 1) with
  | true => exact Ev.ite_t (t_eqI (by (first | with_reducible exact Ev.int _ _ | with_reducible exact Ev.str _ _ | with_reducible exact Ev.none _ | with_reducible exact Ev.bool _ _ | exact Ev.var (by (repeat (first | with_reducible exact List.mem_cons_self | with_reducible refine List.mem_cons_of_mem _ ?_))))) (Ev.gGOING T (by kernel_rfl)) h) (cA (al := _) (vp := im (.int c.p1)) T (List.mem_cons_self) (by (repeat (first | with_reducible exact List.mem_cons_self | with_reducible refine List.mem_cons_of_mem _ ?_))) (handed_im _) o_delete_more (by kernel_rfl))
  | false => exact Ev.ite_f (t_eqI (by (first | with_reducible exact Ev.int _ _ | with_reducible exact Ev.str _ _ | with_reducible exact Ev.none _ | with_reducible exact Ev.bool _ _ | exact Ev.var (by (repeat (first | with_reducible exact List.mem_cons_self | with_reducible refine List.mem_cons_of_mem _ ?_))))) (Ev.gGOING T (by kernel_rfl)) h) (cA (al := _) (vp := im (.int c.p0)) T (List.mem_cons_self) (by (repeat (first | with_reducible exact List.mem_cons_self | with_reducible refine List.mem_cons_of_mem _ ?_))) (handed_im _) o_delete_first (by kernel_rfl))
theorem fn_inserting (T : TopX P mg mb ht) (k : Int) {j : Nat} (hj : j < c.dr.length) (hz : c.dr.length ≤ 1000) : Fn prog w ht (n + 1) (.ref 43) [(costsV c).kp, kim (.int k), kim (.int j)] (kim (.int (c.inse k j))) := by
  refine (F43 P).fn (ps := [costsV c, im (.int k), im (.int j)]) T rfl (show Ex _ _ _ _ _ [("self", .vp (costsV c)), ("kind", .vp (im (.int k))), ("new", .vp (im (.int j)))] _ _ from ?_)
  refine Ex.ret (Ev.bin (q := kim (.int (c.at j))) (p := kim (.int (if k == 2 then c.p3 else c.p2))) ?_ ?_ (op_add _ _))
  · cases h : (k == 2) with
    | true => exact Ev.ite_t (t_eqI (by (first | with_reducible exact Ev.int _ _ | with_reducible exact Ev.str _ _ | with_reducible exact Ev.none _ | with_reducible exact Ev.bool _ _ | exact Ev.var (by (repeat (first | with_reducible exact List.mem_cons_self | with_reducible refine List.mem_cons_of_mem _ ?_))))) (Ev.gCOMING T (by kernel_rfl)) h) (cA (al := _) (vp := im (.int c.p3)) T (List.mem_cons_self) (by (repeat (first | with_reducible exact List.mem_cons_self | with_reducible refine List.mem_cons_of_mem _ ?_))) (handed_im _) o_insert_more (by kernel_rfl))
    | false => exact Ev.ite_f (t_eqI (by (first | with_reducible exact Ev.int _ _ | with_reducible exact Ev.str _ _ | with_reducible exact Ev.none _ | with_reducible exact Ev.bool _ _ | exact Ev.var (by (repeat (first | with_reducible exact List.mem_cons_self | with_reducible refine List.mem_cons_of_mem _ ?_))))) (Ev.gCOMING T (by kernel_rfl)) h) (cA (al := _) (vp := im (.int c.p2)) T (List.mem_cons_self) (by (repeat (first | with_reducible exact List.mem_cons_self | with_reducible refine List.mem_cons_of_mem _ ?_))) (handed_im _) o_insert_first (by kernel_rfl))
  · exact Ev.itemJ (ds := intL c.dr) (j := j) (Ev.sl (cA (al := _) (vp := im (.list (intL c.dr))) T (List.mem_cons_self) (by (repeat (first | with_reducible exact List.mem_cons_self | with_reducible refine List.mem_cons_of_mem _ ?_))) (handed_im _) o_draws (by kernel_rfl))) (by (first | with_reducible exact Ev.int _ _ | with_reducible exact Ev.str _ _ | with_reducible exact Ev.none _ | with_reducible exact Ev.bool _ _ | exact Ev.var (by (repeat (first | with_reducible exact List.mem_cons_self | with_reducible refine List.mem_cons_of_mem _ ?_))))) (by simpa [intL] using hz) (intL_get (Cst.get hj))

theorem fn_cost (T : TopX P mg mb ht) (l : List Stp) (hl : ∀ s ∈ l, s.inR c.dr.length) (hz : l.length ≤ 1000) (hz2 : c.dr.length ≤ 1000) : Fn prog w ht (n + 2) (.ref 64) [kim (stps l), (costsV c).kp] (kim (.int (c.tot 0 l))) := by
  refine (F64 P).fn (ps := [im (stps l), costsV c]) T rfl (show Ex _ _ _ _ _ [("script", .vp (im (stps l))), ("costs", .vp (costsV c))] _ _ from ?_)
  refine Ex.assign2 (d1 := .int 0) (d2 := .int 0) (EvS.tuple (ds := [.int 0, .int 0]) (EvS.cons (Ev.int _ _) (EvS.cons (Ev.gPLAIN T (by kernel_rfl)) EvS.nil))) (by kernel_rfl) (by kernel_rfl) (by (repeat (first | exact Upd.nil | (with_reducible apply Upd.hit) | ((with_reducible apply Upd.miss); (focus decide))))) (by (repeat (first | exact Upd.nil | (with_reducible apply Upd.hit) | ((with_reducible apply Upd.miss); (focus decide))))) ?_ (hw := ?_)
  · refine Ex.for_ (ds := l.map Stp.d) (Inv := fun i => [("script", .vp (im (stps l))), ("costs", .vp (costsV c)), ("kind", .vp (im (.int (lastKind 0 (l.take i))))), ("total", .vp (im (.int (c.tot 0 (l.take i)))))])
      (ρin := fun i d => [("script", .vp (im (stps l))), ("costs", .vp (costsV c)), ("kind", .vp (im (.int (lastKind 0 (l.take i))))), ("total", .vp (im (.int (c.tot 0 (l.take i))))), ("step", .vp (im d))])
      (Ev.le (Ev.var (by (repeat (first | with_reducible exact List.mem_cons_self | with_reducible refine List.mem_cons_of_mem _ ?_)))) (kim_kit_list _)) (show ∀ y ∈ ([("script", .vp (im (stps l))), ("costs", .vp (costsV c)), ("kind", .vp (im (.int 0))), ("total", .vp (im (.int 0)))] : Rho), _ from by (refine sub_of_all ?_; repeat (first | exact True.intro | refine And.intro (by (repeat (first | with_reducible exact List.mem_cons_self | with_reducible refine List.mem_cons_of_mem _ ?_))) ?_))) (fun i d hd => As.name (.inl (by kernel_rfl)) (by (repeat (first | exact Upd.nil | (with_reducible apply Upd.hit) | ((with_reducible apply Upd.miss); (focus decide)))))) (fun i d hd => ?_) ?_
    · rw [List.getElem?_map] at hd
      obtain ⟨s, hs, rfl⟩ := Option.map_eq_some_iff.mp hd
      rw [take_snoc hs, tot_snoc, lastKind_snoc]
      have hr := hl s (List.mem_of_getElem? hs)
      generalize c.tot 0 (l.take i) = t
      generalize lastKind 0 (l.take i) = k
      have fin : ∀ {v : Int} {ρ' : Rho} {p1 p2 p3 p4 p5 : Pos}, v = t + c.of k s → (Str.ofString "step", Ent.vp (im s.d)) ∈ ρ' → (∃ ρ₂, Upd (Str.ofString "kind") (.vp (im (.int s.kind))) ρ' ρ₂ ∧ ∀ y ∈ ([("script", .vp (im (stps l))), ("costs", .vp (costsV c)), ("kind", .vp (im (.int s.kind))), ("total", .vp (im (.int v)))] : Rho), y ∈ ρ₂) →
          Ex prog w ht (n + 1) (scA P 64) ρ' [.Assign [.Name "kind" p1] (.Call (.Name "script_kind" p2) [.Name "step" p3] [] p4) p5] (.next [("script", Ent.vp (im (stps l))), ("costs", .vp (costsV c)), ("kind", .vp (im (.int s.kind))), ("total", .vp (im (.int (t + c.of k s))))]) := by
        rintro v ρ' p1 p2 p3 p4 p5 rfl hm ⟨ρ₂, h1, h2⟩
        exact Ex.assignI (Ev.call (Ev.gfn T (v := .ref 57) (by kernel_rfl) (by kernel_rfl)) (Kpr.fn (fd := fnAt (KK P) 57) (T.k _ _ rfl) rfl) (EvS.cons (Ev.var hm) EvS.nil) (fn_kind T s)) (.inl (by kernel_rfl)) h1 (Ex.nil h2)
      cases s with
      | keep i j =>
        apply Ex.else_n
        · exact t_word (s := .keep i j) (by (repeat (first | with_reducible exact List.mem_cons_self | with_reducible refine List.mem_cons_of_mem _ ?_))) (is_keep_draw i j)
        · apply Ex.else_n
          · exact t_word (s := .keep i j) (by (repeat (first | with_reducible exact List.mem_cons_self | with_reducible refine List.mem_cons_of_mem _ ?_))) (is_keep_del i j)
          · exact Ex.skip (t_word (s := .keep i j) (by (repeat (first | with_reducible exact List.mem_cons_self | with_reducible refine List.mem_cons_of_mem _ ?_))) (is_keep_ins i j)) Ex.nil0
          · exact Ex.nil0
        · exact fin (v := t) (by simp [Cst.of]) (by (repeat (first | with_reducible exact List.mem_cons_self | with_reducible refine List.mem_cons_of_mem _ ?_))) ⟨_, by (repeat (first | exact Upd.nil | (with_reducible apply Upd.hit) | ((with_reducible apply Upd.miss); (focus decide)))), by (refine sub_of_all ?_; repeat (first | exact True.intro | refine And.intro (by (repeat (first | with_reducible exact List.mem_cons_self | with_reducible refine List.mem_cons_of_mem _ ?_))) ?_))⟩
      | draw i j =>
        apply Ex.if_n
        · exact t_word (s := .draw i j) (by (repeat (first | with_reducible exact List.mem_cons_self | with_reducible refine List.mem_cons_of_mem _ ?_))) (is_draw_draw i j)
        · apply Ex.aug
          · (repeat (first | with_reducible exact List.mem_cons_self | with_reducible refine List.mem_cons_of_mem _ ?_))
          · exact Ev.itemJ (ds := intL c.dr) (j := j) (Ev.sl (cA (al := _) (vp := im (.list (intL c.dr))) T (show (Str.ofString "costs", Ent.vp (costsV c)) ∈ _ from by (repeat (first | with_reducible exact List.mem_cons_self | with_reducible refine List.mem_cons_of_mem _ ?_))) (by (repeat (first | with_reducible exact List.mem_cons_self | with_reducible refine List.mem_cons_of_mem _ ?_))) (handed_im _) o_draws (by kernel_rfl))) (Ev.itemT (ds := (Stp.draw i j).ds) (k := 2) (j := 2) (Ev.var (by (repeat (first | with_reducible exact List.mem_cons_self | with_reducible refine List.mem_cons_of_mem _ ?_)))) (Ev.int _ _) rfl rfl) (by simpa [intL] using hz2) (intL_get (Cst.get hr))
          · exact .inl (by kernel_rfl)
          · (repeat (first | exact Upd.nil | (with_reducible apply Upd.hit) | ((with_reducible apply Upd.miss); (focus decide))))
          · exact Ex.nil0
          · decide
        · exact fin (v := t + c.at j) rfl (by (repeat (first | with_reducible exact List.mem_cons_self | with_reducible refine List.mem_cons_of_mem _ ?_))) ⟨_, by (repeat (first | exact Upd.nil | (with_reducible apply Upd.hit) | ((with_reducible apply Upd.miss); (focus decide)))), by (refine sub_of_all ?_; repeat (first | exact True.intro | refine And.intro (by (repeat (first | with_reducible exact List.mem_cons_self | with_reducible refine List.mem_cons_of_mem _ ?_))) ?_))⟩
      | del i =>
        apply Ex.else_n
        · exact t_word (s := .del i) (by (repeat (first | with_reducible exact List.mem_cons_self | with_reducible refine List.mem_cons_of_mem _ ?_))) (is_del_draw i)
        · apply Ex.if_n
          · exact t_word (s := .del i) (by (repeat (first | with_reducible exact List.mem_cons_self | with_reducible refine List.mem_cons_of_mem _ ?_))) (is_del_del i)
          · apply Ex.aug
            · (repeat (first | with_reducible exact List.mem_cons_self | with_reducible refine List.mem_cons_of_mem _ ?_))
            · exact Ev.meth (al := _) (Ev.name (show (Str.ofString "costs", Ent.vp (costsV c)) ∈ _ from by (repeat (first | with_reducible exact List.mem_cons_self | with_reducible refine List.mem_cons_of_mem _ ?_)))) (cls46 T) (fa := 36) (by kernel_rfl) (T.k _ _ rfl) rfl rfl (by kernel_rfl) (by kernel_rfl) (of_decide_eq_true (by kernel_rfl)) o_deleting (EvS.cons (Ev.var (by (repeat (first | with_reducible exact List.mem_cons_self | with_reducible refine List.mem_cons_of_mem _ ?_)))) EvS.nil) (fn_deleting T k)
            · exact .inl (by kernel_rfl)
            · (repeat (first | exact Upd.nil | (with_reducible apply Upd.hit) | ((with_reducible apply Upd.miss); (focus decide))))
            · exact Ex.nil0
            · decide
          · exact Ex.nil0
        · exact fin (v := t + c.dele k) rfl (by (repeat (first | with_reducible exact List.mem_cons_self | with_reducible refine List.mem_cons_of_mem _ ?_))) ⟨_, by (repeat (first | exact Upd.nil | (with_reducible apply Upd.hit) | ((with_reducible apply Upd.miss); (focus decide)))), by (refine sub_of_all ?_; repeat (first | exact True.intro | refine And.intro (by (repeat (first | with_reducible exact List.mem_cons_self | with_reducible refine List.mem_cons_of_mem _ ?_))) ?_))⟩
      | ins j =>
        apply Ex.else_n
        · exact t_word (s := .ins j) (by (repeat (first | with_reducible exact List.mem_cons_self | with_reducible refine List.mem_cons_of_mem _ ?_))) (is_ins_draw j)
        · apply Ex.else_n
          · exact t_word (s := .ins j) (by (repeat (first | with_reducible exact List.mem_cons_self | with_reducible refine List.mem_cons_of_mem _ ?_))) (is_ins_del j)
          · apply Ex.if_n
            · exact t_word (s := .ins j) (by (repeat (first | with_reducible exact List.mem_cons_self | with_reducible refine List.mem_cons_of_mem _ ?_))) (is_ins_ins j)
            · apply Ex.aug
              · (repeat (first | with_reducible exact List.mem_cons_self | with_reducible refine List.mem_cons_of_mem _ ?_))
              · exact Ev.meth (al := _) (Ev.name (show (Str.ofString "costs", Ent.vp (costsV c)) ∈ _ from by (repeat (first | with_reducible exact List.mem_cons_self | with_reducible refine List.mem_cons_of_mem _ ?_)))) (cls46 T) (fa := 43) (by kernel_rfl) (T.k _ _ rfl) rfl rfl (by kernel_rfl) (by kernel_rfl) (of_decide_eq_true (by kernel_rfl)) o_inserting (EvS.cons (Ev.var (by (repeat (first | with_reducible exact List.mem_cons_self | with_reducible refine List.mem_cons_of_mem _ ?_)))) (EvS.cons (Ev.itemT (ds := (Stp.ins j).ds) (k := 1) (j := 1) (Ev.var (by (repeat (first | with_reducible exact List.mem_cons_self | with_reducible refine List.mem_cons_of_mem _ ?_)))) (Ev.int _ _) rfl rfl) EvS.nil)) (fn_inserting T k hr hz2)
              · exact .inl (by kernel_rfl)
              · (repeat (first | exact Upd.nil | (with_reducible apply Upd.hit) | ((with_reducible apply Upd.miss); (focus decide))))
              · exact Ex.nil0
              · decide
            · exact Ex.nil0
          · exact Ex.nil0
        · exact fin (v := t + c.inse k j) rfl (by (repeat (first | with_reducible exact List.mem_cons_self | with_reducible refine List.mem_cons_of_mem _ ?_))) ⟨_, by (repeat (first | exact Upd.nil | (with_reducible apply Upd.hit) | ((with_reducible apply Upd.miss); (focus decide)))), by (refine sub_of_all ?_; repeat (first | exact True.intro | refine And.intro (by (repeat (first | with_reducible exact List.mem_cons_self | with_reducible refine List.mem_cons_of_mem _ ?_))) ?_))⟩
    · rw [List.length_map, List.take_length]
      exact Ex.ret (Ev.var (by (repeat (first | with_reducible exact List.mem_cons_self | with_reducible refine List.mem_cons_of_mem _ ?_))))
  · (intro env h1 h2; cases env; dsimp only at h1; subst h1; kernel_rfl)
end
noncomputable def lastW (l : List Stp) : Str := match l.getLast? with
  | some s => s.word
  | none => Str.ofString ""
theorem lastW_snoc (l : List Stp) (s : Stp) : lastW (l ++ [s]) = s.word := by simp [lastW]
theorem lw_del (l : List Stp) : PyData.eqv (.str (lastW l)) (.str (Str.ofString "delete")) = (lastKind 0 l == 1) := by
  unfold lastW lastKind
  cases l.getLast? with
  | none => exact (eqv_str _ _).trans (show (Str.ofString "" == Str.ofString "delete") = false by decide)
  | some s => cases s with
    | keep i j => exact is_keep_del i j
    | draw i j => exact is_draw_del i j
    | del i => exact is_del_del i
    | ins i => exact is_ins_del i
theorem lw_ins (l : List Stp) : PyData.eqv (.str (lastW l)) (.str (Str.ofString "insert")) = (lastKind 0 l == 2) := by
  unfold lastW lastKind
  cases l.getLast? with
  | none => exact (eqv_str _ _).trans (show (Str.ofString "" == Str.ofString "insert") = false by decide)
  | some s => cases s with
    | keep i j => exact is_keep_ins i j
    | draw i j => exact is_draw_ins i j
    | del i => exact is_del_ins i
    | ins i => exact is_ins_ins i
theorem lw_sh (l : List Stp) : SeqAt.shaped (.str (lastW l)) = true := by
  unfold lastW
  cases l.getLast? with
  | none => exact sh_str (by decide +kernel)
  | some s => exact s.sh
section
variable {P : Params} {mg mb : Str → Option Value} {prog : Program} {w : World} {ht : Heap} {n : Nat} {sc : Scope} {ρ ρ₁ ρ₂ : Rho} {c : Cst} {x : Str} {xp pos apos : Pos} {d : PyData} {e : Expr}
theorem t_eqS {a b : Str} {k : Nat} {p0 p1 : Pos} {t : Bool} (hx : (x, Ent.vp (im (.str a))) ∈ ρ) (ha : SeqAt.shaped (.str a) = true) (h : PyData.eqv (.str a) (.str b) = t) (hb : PyData.strOk b = true := by decide +kernel) (hd : (x == ("__debug__" : Str)) = false := by decide) (hn : (x == ("__classdict__" : Str)) = false := by decide) :
    Tst prog w ht n sc ρ (.Compare (.Name x xp) [.Eq] [.Constant (.str b) k p0] p1) t := h ▸ Tst.cmp (Ev.var hx hd hn) (Ev.str _ _) (op_eq ha (sh_str hb))
theorem Ev.step0 {s : Stp} {k : Nat} {p0 : Pos} (hx : (x, Ent.vp (im s.d)) ∈ ρ) (hd : (x == ("__debug__" : Str)) = false := by decide) (hn : (x == ("__classdict__" : Str)) = false := by decide) : Ev prog w ht n sc ρ (.Subscript (.Name x xp) (.Constant (.int 0) k p0) pos) (kim (.str s.word)) :=
  Ev.itemT (ds := s.ds) (j := 0) (Ev.var hx hd hn) (Ev.int _ _) (by cases s <;> rfl) s.at0
theorem Ev.constJ {l : Expr} {ds : List PyData} {j : Nat} {k : Nat} {p0 : Pos} {d : PyData} (hl : Ev prog w ht n sc ρ l (ksl ds)) (hz : ds.length ≤ 1000) (hd : ds[j]? = some d) : Ev prog w ht n sc ρ (.Subscript l (.Constant (.int (j : Int)) k p0) pos) (kim d) := Ev.itemJ hl (Ev.int _ _) hz hd
noncomputable abbrev Cst.pr (c : Cst) : List Int := [c.p0, c.p1, c.p2, c.p3]
theorem fn_lcost (T : TopX P mg mb ht) (l : List Stp) (hl : ∀ s ∈ l, s.inR c.dr.length) (hz : l.length ≤ 1000) (hz2 : c.dr.length ≤ 1000) : Fn prog w ht (n + 1) (.ref 168) [kim (stps l), kim (.list (intL c.pr)), kim (.list (intL c.dr))] (kim (.int (c.tot 0 l))) := by
  refine (F168 P).fn (ps := [im (stps l), im (.list (intL c.pr)), im (.list (intL c.dr))]) T rfl (show Ex _ _ _ _ _ [("script", .vp (im (stps l))), ("prices", .vp (im (.list (intL c.pr)))), ("draws", .vp (im (.list (intL c.dr))))] _ _ from ?_)
  refine Ex.assignT (d := .tuple [.int 0, .str (Str.ofString "")]) (EvS.tuple (ds := [.int 0, .str (Str.ofString "")]) (EvS.cons (Ev.int _ _) (EvS.cons (Ev.str _ _) EvS.nil))) (As.tuple (AsL.cons (As.name (.inl (by kernel_rfl)) (by (repeat (first | exact Upd.nil | (with_reducible apply Upd.hit) | ((with_reducible apply Upd.miss); (focus decide)))))) (AsL.cons (As.name (.inl (by kernel_rfl)) (by (repeat (first | exact Upd.nil | (with_reducible apply Upd.hit) | ((with_reducible apply Upd.miss); (focus decide)))))) AsL.nil))) ?_ (hw := ?_)
  · refine Ex.for_ (ds := l.map Stp.d) (Inv := fun i => [("script", .vp (im (stps l))), ("prices", .vp (im (.list (intL c.pr)))), ("draws", .vp (im (.list (intL c.dr)))), ("last", .vp (im (.str (lastW (l.take i))))), ("found", .vp (im (.int (c.tot 0 (l.take i)))))])
      (ρin := fun i d => [("script", .vp (im (stps l))), ("prices", .vp (im (.list (intL c.pr)))), ("draws", .vp (im (.list (intL c.dr)))), ("last", .vp (im (.str (lastW (l.take i))))), ("found", .vp (im (.int (c.tot 0 (l.take i))))), ("step", .vp (im d))])
      (Ev.le (Ev.var (by (repeat (first | with_reducible exact List.mem_cons_self | with_reducible refine List.mem_cons_of_mem _ ?_)))) (kim_kit_list _)) (show ∀ y ∈ ([("script", .vp (im (stps l))), ("prices", .vp (im (.list (intL c.pr)))), ("draws", .vp (im (.list (intL c.dr)))), ("last", .vp (im (.str (Str.ofString "")))), ("found", .vp (im (.int 0)))] : Rho), _ from by (refine sub_of_all ?_; repeat (first | exact True.intro | refine And.intro (by (repeat (first | with_reducible exact List.mem_cons_self | with_reducible refine List.mem_cons_of_mem _ ?_))) ?_))) (fun i d hd => As.name (.inl (by kernel_rfl)) (by (repeat (first | exact Upd.nil | (with_reducible apply Upd.hit) | ((with_reducible apply Upd.miss); (focus decide)))))) (fun i d hd => ?_) ?_
    · rw [List.getElem?_map] at hd
      obtain ⟨s, hs, rfl⟩ := Option.map_eq_some_iff.mp hd
      rw [take_snoc hs, tot_snoc, lastW_snoc]
      have hr := hl s (List.mem_of_getElem? hs)
      have d1 := lw_del (l.take i)
      have d2 := lw_ins (l.take i)
      have d3 := lw_sh (l.take i)
      generalize c.tot 0 (l.take i) = t
      generalize lastKind 0 (l.take i) = k at *
      generalize lastW (l.take i) = lw at *
      have fin : ∀ {v : Int} {ρ' : Rho} {p1 p2 p3 p4 p5 : Pos} {k1 : Nat}, v = t + c.of k s → (Str.ofString "step", Ent.vp (im s.d)) ∈ ρ' → (∃ ρ₂, Upd (Str.ofString "last") (.vp (im (.str s.word))) ρ' ρ₂ ∧ ∀ y ∈ ([("script", .vp (im (stps l))), ("prices", .vp (im (.list (intL c.pr)))), ("draws", .vp (im (.list (intL c.dr)))), ("last", .vp (im (.str s.word))), ("found", .vp (im (.int v)))] : Rho), y ∈ ρ₂) →
          Ex prog w ht n (scA P 168) ρ' [.Assign [.Name "last" p1] (.Subscript (.Name "step" p2) (.Constant (.int 0) k1 p3) p4) p5] (.next [("script", .vp (im (stps l))), ("prices", .vp (im (.list (intL c.pr)))), ("draws", .vp (im (.list (intL c.dr)))), ("last", .vp (im (.str s.word))), ("found", .vp (im (.int (t + c.of k s))))]) := by
        rintro v ρ' p1 p2 p3 p4 p5 k1 rfl hm ⟨ρ₂, h1, h2⟩
        exact Ex.assignI (Ev.step0 hm) (.inl (by kernel_rfl)) h1 (Ex.nil h2)
      have pr : ∀ {j : Nat} {v : Int} {k1 : Nat} {p1 p2 p3 : Pos} {ρ' : Rho}, (Str.ofString "prices", Ent.vp (im (.list (intL c.pr)))) ∈ ρ' → c.pr[j]? = some v → Ev prog w ht n (scA P 168) ρ' (.Subscript (.Name "prices" p1) (.Constant (.int (j : Int)) k1 p2) p3) (kim (.int v)) := by
        intro j v k1 p1 p2 p3 ρ' hm h
        exact Ev.constJ (ds := intL c.pr) (Ev.sl (Ev.var hm)) (by show 4 ≤ 1000; decide) (intL_get h)
      cases s with
      | keep i j =>
        apply Ex.else_n
        · exact t_word (s := .keep i j) (by (repeat (first | with_reducible exact List.mem_cons_self | with_reducible refine List.mem_cons_of_mem _ ?_))) (is_keep_del i j)
        · apply Ex.else_n
          · exact t_word (s := .keep i j) (by (repeat (first | with_reducible exact List.mem_cons_self | with_reducible refine List.mem_cons_of_mem _ ?_))) (is_keep_ins i j)
          · exact Ex.skip (t_word (s := .keep i j) (by (repeat (first | with_reducible exact List.mem_cons_self | with_reducible refine List.mem_cons_of_mem _ ?_))) (is_keep_draw i j)) Ex.nil0
          · exact Ex.nil0
        · exact fin (v := t) (by simp [Cst.of]) (by (repeat (first | with_reducible exact List.mem_cons_self | with_reducible refine List.mem_cons_of_mem _ ?_))) ⟨_, by (repeat (first | exact Upd.nil | (with_reducible apply Upd.hit) | ((with_reducible apply Upd.miss); (focus decide)))), by (refine sub_of_all ?_; repeat (first | exact True.intro | refine And.intro (by (repeat (first | with_reducible exact List.mem_cons_self | with_reducible refine List.mem_cons_of_mem _ ?_))) ?_))⟩
      | draw i j =>
        apply Ex.else_n
        · exact t_word (s := .draw i j) (by (repeat (first | with_reducible exact List.mem_cons_self | with_reducible refine List.mem_cons_of_mem _ ?_))) (is_draw_del i j)
        · apply Ex.else_n
          · exact t_word (s := .draw i j) (by (repeat (first | with_reducible exact List.mem_cons_self | with_reducible refine List.mem_cons_of_mem _ ?_))) (is_draw_ins i j)
          · apply Ex.if_n
            · exact t_word (s := .draw i j) (by (repeat (first | with_reducible exact List.mem_cons_self | with_reducible refine List.mem_cons_of_mem _ ?_))) (is_draw_draw i j)
            · refine Ex.assignI (d := .int (t + c.at j)) (Ev.bin (by (first | with_reducible exact Ev.int _ _ | with_reducible exact Ev.str _ _ | with_reducible exact Ev.none _ | with_reducible exact Ev.bool _ _ | exact Ev.var (by (repeat (first | with_reducible exact List.mem_cons_self | with_reducible refine List.mem_cons_of_mem _ ?_))))) (Ev.itemJ (ds := intL c.dr) (j := j) (Ev.sl (Ev.var (by (repeat (first | with_reducible exact List.mem_cons_self | with_reducible refine List.mem_cons_of_mem _ ?_))))) (Ev.itemT (ds := (Stp.draw i j).ds) (k := 2) (j := 2) (Ev.var (by (repeat (first | with_reducible exact List.mem_cons_self | with_reducible refine List.mem_cons_of_mem _ ?_)))) (Ev.int _ _) rfl rfl) (by simpa [intL] using hz2) (intL_get (Cst.get hr))) (op_add _ _)) (.inl (by kernel_rfl)) (by (repeat (first | exact Upd.nil | (with_reducible apply Upd.hit) | ((with_reducible apply Upd.miss); (focus decide))))) Ex.nil0
            · exact Ex.nil0
          · exact Ex.nil0
        · exact fin (v := t + c.at j) rfl (by (repeat (first | with_reducible exact List.mem_cons_self | with_reducible refine List.mem_cons_of_mem _ ?_))) ⟨_, by (repeat (first | exact Upd.nil | (with_reducible apply Upd.hit) | ((with_reducible apply Upd.miss); (focus decide)))), by (refine sub_of_all ?_; repeat (first | exact True.intro | refine And.intro (by (repeat (first | with_reducible exact List.mem_cons_self | with_reducible refine List.mem_cons_of_mem _ ?_))) ?_))⟩
      | del i =>
        apply Ex.if_n
        · exact t_word (s := .del i) (by (repeat (first | with_reducible exact List.mem_cons_self | with_reducible refine List.mem_cons_of_mem _ ?_))) (is_del_del i)
        · refine Ex.assignI (d := .int (t + c.dele k)) ?_ (.inl (by kernel_rfl)) (by (repeat (first | exact Upd.nil | (with_reducible apply Upd.hit) | ((with_reducible apply Upd.miss); (focus decide))))) Ex.nil0
          · refine Ev.bin (q := kim (.int (c.dele k))) (by (first | with_reducible exact Ev.int _ _ | with_reducible exact Ev.str _ _ | with_reducible exact Ev.none _ | with_reducible exact Ev.bool _ _ | exact Ev.var (by (repeat (first | with_reducible exact List.mem_cons_self | with_reducible refine List.mem_cons_of_mem _ ?_))))) ?_ (op_add _ _)
            unfold Cst.dele
            cases q : (k == 1) with
            | true => exact Ev.ite_t (t_eqS (by (repeat (first | with_reducible exact List.mem_cons_self | with_reducible refine List.mem_cons_of_mem _ ?_))) d3 (d1.trans q)) (pr (j := 1) (by (repeat (first | with_reducible exact List.mem_cons_self | with_reducible refine List.mem_cons_of_mem _ ?_))) rfl)
            | false => exact Ev.ite_f (t_eqS (by (repeat (first | with_reducible exact List.mem_cons_self | with_reducible refine List.mem_cons_of_mem _ ?_))) d3 (d1.trans q)) (pr (j := 0) (by (repeat (first | with_reducible exact List.mem_cons_self | with_reducible refine List.mem_cons_of_mem _ ?_))) rfl)
        · exact fin (v := t + c.dele k) rfl (by (repeat (first | with_reducible exact List.mem_cons_self | with_reducible refine List.mem_cons_of_mem _ ?_))) ⟨_, by (repeat (first | exact Upd.nil | (with_reducible apply Upd.hit) | ((with_reducible apply Upd.miss); (focus decide)))), by (refine sub_of_all ?_; repeat (first | exact True.intro | refine And.intro (by (repeat (first | with_reducible exact List.mem_cons_self | with_reducible refine List.mem_cons_of_mem _ ?_))) ?_))⟩
      | ins j =>
        apply Ex.else_n
        · exact t_word (s := .ins j) (by (repeat (first | with_reducible exact List.mem_cons_self | with_reducible refine List.mem_cons_of_mem _ ?_))) (is_ins_del j)
        · apply Ex.if_n
          · exact t_word (s := .ins j) (by (repeat (first | with_reducible exact List.mem_cons_self | with_reducible refine List.mem_cons_of_mem _ ?_))) (is_ins_ins j)
          · refine Ex.assignI (d := .int (t + (if k == 2 then c.p3 else c.p2) + c.at j)) ?_ (.inl (by kernel_rfl)) (by (repeat (first | exact Upd.nil | (with_reducible apply Upd.hit) | ((with_reducible apply Upd.miss); (focus decide))))) Ex.nil0
            · refine Ev.bin (p := kim (.int (t + (if k == 2 then c.p3 else c.p2)))) (Ev.bin (q := kim (.int (if k == 2 then c.p3 else c.p2))) (by (first | with_reducible exact Ev.int _ _ | with_reducible exact Ev.str _ _ | with_reducible exact Ev.none _ | with_reducible exact Ev.bool _ _ | exact Ev.var (by (repeat (first | with_reducible exact List.mem_cons_self | with_reducible refine List.mem_cons_of_mem _ ?_))))) ?_ (op_add _ _)) (Ev.itemJ (ds := intL c.dr) (j := j) (Ev.sl (Ev.var (by (repeat (first | with_reducible exact List.mem_cons_self | with_reducible refine List.mem_cons_of_mem _ ?_))))) (Ev.itemT (ds := (Stp.ins j).ds) (k := 1) (j := 1) (Ev.var (by (repeat (first | with_reducible exact List.mem_cons_self | with_reducible refine List.mem_cons_of_mem _ ?_)))) (Ev.int _ _) rfl rfl) (by simpa [intL] using hz2) (intL_get (Cst.get hr))) (op_add _ _)
              cases q : (k == 2) with
              | true => exact Ev.ite_t (t_eqS (by (repeat (first | with_reducible exact List.mem_cons_self | with_reducible refine List.mem_cons_of_mem _ ?_))) d3 (d2.trans q)) (pr (j := 3) (by (repeat (first | with_reducible exact List.mem_cons_self | with_reducible refine List.mem_cons_of_mem _ ?_))) rfl)
              | false => exact Ev.ite_f (t_eqS (by (repeat (first | with_reducible exact List.mem_cons_self | with_reducible refine List.mem_cons_of_mem _ ?_))) d3 (d2.trans q)) (pr (j := 2) (by (repeat (first | with_reducible exact List.mem_cons_self | with_reducible refine List.mem_cons_of_mem _ ?_))) rfl)
          · exact Ex.nil0
        · exact fin (v := t + (if k == 2 then c.p3 else c.p2) + c.at j) (by show _ = t + c.inse k j; unfold Cst.inse; (first | assumption | exact Nat.le_refl _ | exact Nat.add_le_add_left (by decide) _ | exact Nat.le_trans (by assumption) (by decide) | omega)) (by (repeat (first | with_reducible exact List.mem_cons_self | with_reducible refine List.mem_cons_of_mem _ ?_))) ⟨_, by (repeat (first | exact Upd.nil | (with_reducible apply Upd.hit) | ((with_reducible apply Upd.miss); (focus decide)))), by (refine sub_of_all ?_; repeat (first | exact True.intro | refine And.intro (by (repeat (first | with_reducible exact List.mem_cons_self | with_reducible refine List.mem_cons_of_mem _ ?_))) ?_))⟩
    · rw [List.length_map, List.take_length]
      exact Ex.ret (Ev.var (by (repeat (first | with_reducible exact List.mem_cons_self | with_reducible refine List.mem_cons_of_mem _ ?_))))
  · (intro env h1; cases env; dsimp only at h1; subst h1; kernel_rfl)
end
noncomputable def optD : Option Int → PyData
  | none => .none
  | some i => .int i
noncomputable def unOpt : PyData → Option Int
  | .int i => some i
  | _ => none
noncomputable abbrev rowsD (l : List (Option Int)) : List PyData := l.map optD
theorem sc_rows (l : List (Option Int)) : ∀ d ∈ rowsD l, Sc d := fun d m => by
  obtain ⟨o, _, rfl⟩ := List.mem_map.mp m
  cases o <;> exact trivial
structure Run where
  del : Bool
  at_ : Nat
  cnt : Nat
noncomputable def Run.word (r : Run) : Str := if r.del then Str.ofString "delete" else Str.ofString "insert"
noncomputable abbrev Run.ds (r : Run) : List PyData := [.str r.word, .int r.at_, .int r.cnt]
noncomputable abbrev Run.d (r : Run) : PyData := .tuple r.ds
noncomputable def Run.ok (N : Nat) (r : Run) : Prop := r.at_ ≤ N ∧ r.cnt ≤ N ∧ (r.del = true → r.at_ + r.cnt ≤ N)
noncomputable def move (rows : List (Option Int)) (r : Run) : List (Option Int) :=
  if r.del then rows.take r.at_ ++ rows.drop (r.at_ + r.cnt) ++ List.replicate r.cnt none else (rows.take r.at_ ++ List.replicate r.cnt none ++ rows.drop r.at_).take rows.length
theorem move_len {rows : List (Option Int)} {r : Run} (h : r.ok rows.length) : (move rows r).length = rows.length := by
  obtain ⟨h1, h2, h3⟩ := h
  unfold move
  split
  · rename_i q
    have := h3 q
    simp only [List.length_append, List.length_take, List.length_drop, List.length_replicate]
    (first | assumption | exact Nat.le_refl _ | exact Nat.add_le_add_left (by decide) _ | exact Nat.le_trans (by assumption) (by decide) | omega)
  · simp only [List.length_append, List.length_take, List.length_drop, List.length_replicate]
    (first | assumption | exact Nat.le_refl _ | exact Nat.add_le_add_left (by decide) _ | exact Nat.le_trans (by assumption) (by decide) | omega)
theorem Run.eqv_del (r : Run) : PyData.eqv (.str r.word) (.str (Str.ofString "delete")) = r.del := by
  unfold Run.word
  cases r.del with
  | true => exact (eqv_str _ _).trans (show (Str.ofString "delete" == Str.ofString "delete") = true by decide)
  | false => exact (eqv_str _ _).trans (show (Str.ofString "insert" == Str.ofString "delete") = false by decide)
theorem Run.sh (r : Run) : SeqAt.shaped (.str r.word) = true := by
  unfold Run.word
  cases r.del with
  | true => exact sh_str (by decide +kernel)
  | false => exact sh_str (by decide +kernel)
section
variable {P : Params} {mg mb : Str → Option Value} {prog : Program} {w : World} {ht : Heap} {n : Nat} {sc : Scope} {ρ ρ₁ ρ₂ : Rho} {x : Str} {xp pos apos p1 p2 p3 p4 p5 p6 p7 p8 p9 p10 : Pos} {d : PyData} {e er1 er2 er3 ea1 ea2 em1 em2 el : Expr} {ds : List PyData} {a m k : Nat}
theorem Ev.nones {x : Int} (hm : Ev prog w ht n sc ρ em1 (kim (.int x))) (hx : x.toNat = m) (h0 : 0 ≤ x) (hz : m ≤ 1000) : Ev prog w ht n sc ρ (.BinOp (.List [.Constant .none k p7] p8) .Mult em1 p9) (kfr (List.replicate m .none)) :=
  Ev.bin (EvS.lst (ds := [.none]) (EvS.cons (Ev.none _) EvS.nil)) hm (op_mulL .none x m hx h0 hz)
theorem Ev.upto (hr : Ev prog w ht n sc ρ er1 (ksl ds)) (ha : Ev prog w ht n sc ρ ea1 (kim (.int (a : Int)))) (h : a ≤ ds.length) (hz : ds.length ≤ 1000) : Ev prog w ht n sc ρ (.Subscript er1 (.Slice Option.none (some ea1) Option.none p1) p2) (kfr (ds.take a)) :=
  Ev.cut hr EvPt.none (EvPt.some ha) EvPt.none nofun (fun r => cut_upto h r) hz
theorem Ev.from_ (hr : Ev prog w ht n sc ρ er1 (ksl ds)) (ha : Ev prog w ht n sc ρ ea1 (kim (.int (a : Int)))) (h : a ≤ ds.length) (hz : ds.length ≤ 1000) : Ev prog w ht n sc ρ (.Subscript er1 (.Slice (some ea1) Option.none Option.none p1) p2) (kfr (ds.drop a)) :=
  Ev.cut hr (EvPt.some ha) EvPt.none EvPt.none nofun (fun r => cut_from h r) hz
theorem Ev.addN {i j : Nat} {l r : Expr} (hl : Ev prog w ht n sc ρ l (kim (.int (i : Int)))) (hr : Ev prog w ht n sc ρ r (kim (.int (j : Int)))) : Ev prog w ht n sc ρ (.BinOp l .Add r pos) (kim (.int ((i + j : Nat) : Int))) :=
  Ev.to (Ev.bin hl hr (op_add _ _)) (by rw [Int.natCast_add])
theorem Ev.mvDel {rows : List (Option Int)} {r : Run} (hr : Ev prog w ht n sc ρ er1 (ksl (rowsD rows))) (hr2 : Ev prog w ht n sc ρ er2 (ksl (rowsD rows))) (ha : Ev prog w ht n sc ρ ea1 (kim (.int (r.at_ : Int)))) (ha2 : Ev prog w ht n sc ρ ea2 (kim (.int (r.at_ : Int)))) (hm : Ev prog w ht n sc ρ em1 (kim (.int (r.cnt : Int)))) (hm2 : Ev prog w ht n sc ρ em2 (kim (.int (r.cnt : Int)))) (hd : r.del = true) (ok : r.ok rows.length) (hz : rows.length ≤ 300) :
    Ev prog w ht n sc ρ (.BinOp (.BinOp (.Subscript er1 (.Slice Option.none (some ea1) Option.none p1) p2) .Add (.Subscript er2 (.Slice (some (.BinOp ea2 .Add em1 p3)) Option.none Option.none p4) p5) p6) .Add (.BinOp (.List [.Constant .none k p7] p8) .Mult em2 p9) p10) (kfr (rowsD (move rows r))) := by
  obtain ⟨h1, h2, h3⟩ := ok
  have h3 := h3 hd
  have e : rowsD (move rows r) = (rowsD rows).take r.at_ ++ (rowsD rows).drop (r.at_ + r.cnt) ++ List.replicate r.cnt PyData.none := by
    unfold move
    rw [if_pos hd]
    simp [rowsD, List.map_append, List.map_take, List.map_drop, optD]
  rw [e]
  have len : (rowsD rows).length = rows.length := by simp
  apply Ev.bin (p := ksl ((rowsD rows).take r.at_ ++ (rowsD rows).drop (r.at_ + r.cnt))) (q := ksl (List.replicate r.cnt PyData.none))
  · apply Ev.fsl
    apply Ev.bin (p := ksl ((rowsD rows).take r.at_)) (q := ksl ((rowsD rows).drop (r.at_ + r.cnt)))
    · apply Ev.fsl
      apply Ev.upto hr ha (by rw [len]; exact h1) (by rw [len]; (first | assumption | exact Nat.le_refl _ | exact Nat.add_le_add_left (by decide) _ | exact Nat.le_trans (by assumption) (by decide) | omega))
    · apply Ev.fsl
      apply Ev.from_ hr2 (Ev.addN ha2 hm) (by rw [len]; exact h3) (by rw [len]; (first | assumption | exact Nat.le_refl _ | exact Nat.add_le_add_left (by decide) _ | exact Nat.le_trans (by assumption) (by decide) | omega))
    · apply op_addL
      simp only [List.length_take, List.length_drop, len]; (first | assumption | exact Nat.le_refl _ | exact Nat.add_le_add_left (by decide) _ | exact Nat.le_trans (by assumption) (by decide) | omega)
  · apply Ev.fsl
    apply Ev.nones (m := r.cnt) hm2 (Int.toNat_natCast _) (Int.natCast_nonneg _) (by (first | assumption | exact Nat.le_refl _ | exact Nat.add_le_add_left (by decide) _ | exact Nat.le_trans (by assumption) (by decide) | omega))
  · apply op_addL
    simp only [List.length_append, List.length_take, List.length_drop, len, List.length_replicate]; (first | assumption | exact Nat.le_refl _ | exact Nat.add_le_add_left (by decide) _ | exact Nat.le_trans (by assumption) (by decide) | omega)
theorem Ev.mvIns {rows : List (Option Int)} {r : Run} (hr : Ev prog w ht n sc ρ er1 (ksl (rowsD rows))) (hr2 : Ev prog w ht n sc ρ er2 (ksl (rowsD rows))) (ha : Ev prog w ht n sc ρ ea1 (kim (.int (r.at_ : Int)))) (ha2 : Ev prog w ht n sc ρ ea2 (kim (.int (r.at_ : Int)))) (hm : Ev prog w ht n sc ρ em1 (kim (.int (r.cnt : Int)))) (hl : Ev prog w ht n sc ρ el (kim (.int (rows.length : Int)))) (hd : r.del = false) (ok : r.ok rows.length) (hz : rows.length ≤ 300) :
    Ev prog w ht n sc ρ (.Subscript (.BinOp (.BinOp (.Subscript er1 (.Slice Option.none (some ea1) Option.none p1) p2) .Add (.BinOp (.List [.Constant .none k p7] p8) .Mult em1 p9) p6) .Add (.Subscript er2 (.Slice (some ea2) Option.none Option.none p4) p5) p10) (.Slice Option.none (some el) Option.none p3) pos) (kfr (rowsD (move rows r))) := by
  obtain ⟨h1, h2, h3⟩ := ok
  have e : rowsD (move rows r) = ((rowsD rows).take r.at_ ++ List.replicate r.cnt PyData.none ++ (rowsD rows).drop r.at_).take rows.length := by
    unfold move
    rw [if_neg (by rw [hd]; decide)]
    simp [rowsD, List.map_append, List.map_take, List.map_drop, optD]
  rw [e]
  have len : (rowsD rows).length = rows.length := by simp
  apply Ev.upto (ds := (rowsD rows).take r.at_ ++ List.replicate r.cnt PyData.none ++ (rowsD rows).drop r.at_)
  · apply Ev.fsl
    apply Ev.bin (p := ksl ((rowsD rows).take r.at_ ++ List.replicate r.cnt PyData.none)) (q := ksl ((rowsD rows).drop r.at_))
    · apply Ev.fsl
      apply Ev.bin (p := ksl ((rowsD rows).take r.at_)) (q := ksl (List.replicate r.cnt PyData.none))
      · apply Ev.fsl
        apply Ev.upto hr ha (by rw [len]; exact h1) (by rw [len]; (first | assumption | exact Nat.le_refl _ | exact Nat.add_le_add_left (by decide) _ | exact Nat.le_trans (by assumption) (by decide) | omega))
      · apply Ev.fsl
        apply Ev.nones (m := r.cnt) hm (Int.toNat_natCast _) (Int.natCast_nonneg _) (by (first | assumption | exact Nat.le_refl _ | exact Nat.add_le_add_left (by decide) _ | exact Nat.le_trans (by assumption) (by decide) | omega))
      · apply op_addL
        simp only [List.length_take, len, List.length_replicate]; (first | assumption | exact Nat.le_refl _ | exact Nat.add_le_add_left (by decide) _ | exact Nat.le_trans (by assumption) (by decide) | omega)
    · apply Ev.fsl
      apply Ev.from_ hr2 ha2 (by rw [len]; exact h1) (by rw [len]; (first | assumption | exact Nat.le_refl _ | exact Nat.add_le_add_left (by decide) _ | exact Nat.le_trans (by assumption) (by decide) | omega))
    · apply op_addL
      simp only [List.length_append, List.length_take, List.length_drop, len, List.length_replicate]; (first | assumption | exact Nat.le_refl _ | exact Nat.add_le_add_left (by decide) _ | exact Nat.le_trans (by assumption) (by decide) | omega)
  · exact hl
  · simp only [List.length_append, List.length_take, List.length_drop, len, List.length_replicate]; (first | assumption | exact Nat.le_refl _ | exact Nat.add_le_add_left (by decide) _ | exact Nat.le_trans (by assumption) (by decide) | omega)
  · simp only [List.length_append, List.length_take, List.length_drop, len, List.length_replicate]; (first | assumption | exact Nat.le_refl _ | exact Nat.add_le_add_left (by decide) _ | exact Nat.le_trans (by assumption) (by decide) | omega)
theorem Ev.len_ (T : TopX P mg mb ht) (hx : sc.names.lookup (Str.ofString "len") = some NameKind.globalImplicit) (he : Ev prog w ht n sc ρ e (ksl ds)) (hz : ds.length ≤ 1000) (hs : ∀ env, starEach [e] env = (false, eval e env) :: starEach [] env := by intro _; rfl) :
    Ev prog w ht n sc ρ (.Call (.Name "len" p1) [e] [] p2) (kim (.int (ds.length : Int))) :=
  Ev.call (Ev.bfn T (v := .builtin "len") (by kernel_rfl) hx (by kernel_rfl) (by decide)) Kpr.builtin (EvS.cons he EvS.nil hs) (fn_len ds hz) (he := hs)
theorem Ev.list_ (T : TopX P mg mb ht) (hx : sc.names.lookup (Str.ofString "list") = some NameKind.globalImplicit) (he : Ev prog w ht n sc ρ e (kit ds)) (hz : ds.length ≤ 1000) (hs : ∀ env, starEach [e] env = (false, eval e env) :: starEach [] env := by intro _; rfl) :
    Ev prog w ht n sc ρ (.Call (.Name "list" p1) [e] [] p2) (kfr ds) :=
  Ev.call (Ev.bfn T (v := .type "list") (by kernel_rfl) hx (by kernel_rfl) (by decide)) Kpr.type (EvS.cons he EvS.nil hs) (fn_list ds hz) (he := hs)
theorem Ev.range_ (T : TopX P mg mb ht) (hx : sc.names.lookup (Str.ofString "range") = some NameKind.globalImplicit) (he : Ev prog w ht n sc ρ e (kim (.int (k : Int)))) (hz : k ≤ 1000) (hs : ∀ env, starEach [e] env = (false, eval e env) :: starEach [] env := by intro _; rfl) :
    Ev prog w ht n sc ρ (.Call (.Name "range" p1) [e] [] p2) (kit (Mine.upto k)) :=
  Ev.call (Ev.bfn T (v := .type "range") (by kernel_rfl) hx (by kernel_rfl) (by decide)) Kpr.type (EvS.cons he EvS.nil hs) (fn_range k hz) (he := hs)

theorem fn_rdone (T : TopX P mg mb ht) (rows : List (Option Int)) (r : Run) (ok : r.ok rows.length) (hz : rows.length ≤ 300) : Fn prog w ht (n + 1) (.ref 135) [ksl (rowsD rows), kim r.d] (kfr (rowsD (move rows r))) := by
  refine (F135 P).lend (l := [(ksl (rowsD rows), im (.list (rowsD rows))), (kim r.d, im r.d)]) T rfl (fun z m => ?_) (sc_rows _) (show Ex _ _ _ _ _ [("rows", .vp (im (.list (rowsD rows)))), ("run", .vp (im r.d))] _ _ from ?_)
  · rcases List.mem_cons.mp m with rfl | m
    · exact lent_sl _
    · rw [List.mem_singleton.mp m]; exact lent_im _
  refine Ex.assignT (d := r.d) (Ev.var (by (repeat (first | with_reducible exact List.mem_cons_self | with_reducible refine List.mem_cons_of_mem _ ?_)))) (As.tuple (ds := r.ds) (AsL.cons (As.name (.inl (by kernel_rfl)) (by (repeat (first | exact Upd.nil | (with_reducible apply Upd.hit) | ((with_reducible apply Upd.miss); (focus decide)))))) (AsL.cons (As.name (.inl (by kernel_rfl)) (by (repeat (first | exact Upd.nil | (with_reducible apply Upd.hit) | ((with_reducible apply Upd.miss); (focus decide)))))) (AsL.cons (As.name (.inl (by kernel_rfl)) (by (repeat (first | exact Upd.nil | (with_reducible apply Upd.hit) | ((with_reducible apply Upd.miss); (focus decide)))))) AsL.nil)))) ?_ (hw := ?_)
  · cases q : r.del with
    | true => exact Ex.if_r (t_eqS (by (repeat (first | with_reducible exact List.mem_cons_self | with_reducible refine List.mem_cons_of_mem _ ?_))) r.sh (r.eqv_del.trans q)) (Ex.ret (Ev.mvDel (Ev.sl (Ev.var (by (repeat (first | with_reducible exact List.mem_cons_self | with_reducible refine List.mem_cons_of_mem _ ?_))))) (Ev.sl (Ev.var (by (repeat (first | with_reducible exact List.mem_cons_self | with_reducible refine List.mem_cons_of_mem _ ?_))))) (Ev.var (by (repeat (first | with_reducible exact List.mem_cons_self | with_reducible refine List.mem_cons_of_mem _ ?_)))) (Ev.var (by (repeat (first | with_reducible exact List.mem_cons_self | with_reducible refine List.mem_cons_of_mem _ ?_)))) (Ev.var (by (repeat (first | with_reducible exact List.mem_cons_self | with_reducible refine List.mem_cons_of_mem _ ?_)))) (Ev.var (by (repeat (first | with_reducible exact List.mem_cons_self | with_reducible refine List.mem_cons_of_mem _ ?_)))) q ok hz))
    | false => exact Ex.skip (t_eqS (by (repeat (first | with_reducible exact List.mem_cons_self | with_reducible refine List.mem_cons_of_mem _ ?_))) r.sh (r.eqv_del.trans q)) (Ex.ret (Ev.mvIns (Ev.sl (Ev.var (by (repeat (first | with_reducible exact List.mem_cons_self | with_reducible refine List.mem_cons_of_mem _ ?_))))) (Ev.sl (Ev.var (by (repeat (first | with_reducible exact List.mem_cons_self | with_reducible refine List.mem_cons_of_mem _ ?_))))) (Ev.var (by (repeat (first | with_reducible exact List.mem_cons_self | with_reducible refine List.mem_cons_of_mem _ ?_)))) (Ev.var (by (repeat (first | with_reducible exact List.mem_cons_self | with_reducible refine List.mem_cons_of_mem _ ?_)))) (Ev.var (by (repeat (first | with_reducible exact List.mem_cons_self | with_reducible refine List.mem_cons_of_mem _ ?_)))) (Ev.to (Ev.len_ (ds := rowsD rows) T (by kernel_rfl) (Ev.sl (Ev.var (by (repeat (first | with_reducible exact List.mem_cons_self | with_reducible refine List.mem_cons_of_mem _ ?_))))) (by rw [List.length_map]; (first | assumption | exact Nat.le_refl _ | exact Nat.add_le_add_left (by decide) _ | exact Nat.le_trans (by assumption) (by decide) | omega))) (by rw [List.length_map])) q ok hz))
  · (intro env h1; cases env; dsimp only at h1; subst h1; kernel_rfl)
end
section
variable {P : Params} {mg mb : Str → Option Value} {prog : Program} {w : World} {ht : Heap} {n : Nat} {sc : Scope} {ρ ρ₁ ρ₂ : Rho} {x : Str} {xp pos apos : Pos} {d : PyData} {e : Expr} {ds : List PyData} {a m k : Nat}
noncomputable def moves (rows : List (Option Int)) (runs : List Run) : List (Option Int) := runs.foldl move rows
theorem moves_len : ∀ (runs : List Run) {rows : List (Option Int)}, (∀ r ∈ runs, r.ok rows.length) → (moves rows runs).length = rows.length
  | [], rows, _ => rfl
  | r :: rs, rows, h => by
    have h1 := move_len (h r (.head _))
    show (moves (move rows r) rs).length = _
    rw [moves_len rs (fun r' m => by rw [h1]; exact h r' (.tail _ m)), h1]
theorem moves_snoc (rows : List (Option Int)) (rs : List Run) (r : Run) : moves rows (rs ++ [r]) = move (moves rows rs) r := by simp [moves, List.foldl_append]
theorem fn_moved (T : TopX P mg mb ht) (rows : List (Option Int)) (runs : List Run) (ok : ∀ r ∈ runs, r.ok rows.length) (hz : rows.length ≤ 300) (hz2 : runs.length ≤ 1000) : Fn prog w ht (n + 1) (.ref 185) [kim (.list (rowsD rows)), kim (.list (runs.map Run.d))] (kim (.list (rowsD (moves rows runs)))) := by
  refine (F185 P).fn (ps := [im (.list (rowsD rows)), im (.list (runs.map Run.d))]) T rfl (show Ex _ _ _ _ _ [("rows", .vp (im (.list (rowsD rows)))), ("runs", .vp (im (.list (runs.map Run.d))))] _ _ from ?_)
  refine Ex.assignI (d := .int (rows.length : Int)) (Ev.to (Ev.len_ (ds := rowsD rows) T (by kernel_rfl) (Ev.sl (Ev.var (by (repeat (first | with_reducible exact List.mem_cons_self | with_reducible refine List.mem_cons_of_mem _ ?_))))) (by rw [List.length_map]; (first | assumption | exact Nat.le_refl _ | exact Nat.add_le_add_left (by decide) _ | exact Nat.le_trans (by assumption) (by decide) | omega))) (by rw [List.length_map])) (.inl (by kernel_rfl)) (by (repeat (first | exact Upd.nil | (with_reducible apply Upd.hit) | ((with_reducible apply Upd.miss); (focus decide))))) ?_
  refine Ex.for_ (ds := runs.map Run.d) (Inv := fun i => [("rows", .vp (im (.list (rowsD (moves rows (runs.take i)))))), ("runs", .vp (im (.list (runs.map Run.d)))), ("many", .vp (im (.int (rows.length : Int))))])
    (ρin := fun i d => [("rows", .vp (im (.list (rowsD (moves rows (runs.take i)))))), ("runs", .vp (im (.list (runs.map Run.d)))), ("many", .vp (im (.int (rows.length : Int)))), ("word", .vp (im (.str (runs.getD i ⟨true, 0, 0⟩).word))), ("row", .vp (im (.int (runs.getD i ⟨true, 0, 0⟩).at_))), ("count", .vp (im (.int (runs.getD i ⟨true, 0, 0⟩).cnt)))])
    (Ev.le (Ev.var (by (repeat (first | with_reducible exact List.mem_cons_self | with_reducible refine List.mem_cons_of_mem _ ?_)))) (kim_kit_list _)) (show ∀ y ∈ ([("rows", .vp (im (.list (rowsD rows)))), ("runs", .vp (im (.list (runs.map Run.d)))), ("many", .vp (im (.int (rows.length : Int))))] : Rho), _ from by (refine sub_of_all ?_; repeat (first | exact True.intro | refine And.intro (by (repeat (first | with_reducible exact List.mem_cons_self | with_reducible refine List.mem_cons_of_mem _ ?_))) ?_))) (fun i d hd => ?_) (fun i d hd => ?_) ?_
  · rw [List.getElem?_map] at hd
    obtain ⟨r, hr, rfl⟩ := Option.map_eq_some_iff.mp hd
    rw [List.getD_eq_getElem?_getD, hr]
    show As prog w ht (scA P 185) _ _ _ ([("rows", .vp (im (.list (rowsD (moves rows (runs.take i)))))), ("runs", .vp (im (.list (runs.map Run.d)))), ("many", .vp (im (.int (rows.length : Int)))), ("word", .vp (im (.str r.word))), ("row", .vp (im (.int r.at_))), ("count", .vp (im (.int r.cnt)))])
    exact As.tuple (ds := r.ds) (AsL.cons (As.name (.inl (by kernel_rfl)) (by (repeat (first | exact Upd.nil | (with_reducible apply Upd.hit) | ((with_reducible apply Upd.miss); (focus decide)))))) (AsL.cons (As.name (.inl (by kernel_rfl)) (by (repeat (first | exact Upd.nil | (with_reducible apply Upd.hit) | ((with_reducible apply Upd.miss); (focus decide)))))) (AsL.cons (As.name (.inl (by kernel_rfl)) (by (repeat (first | exact Upd.nil | (with_reducible apply Upd.hit) | ((with_reducible apply Upd.miss); (focus decide)))))) AsL.nil)))
  · rw [List.getElem?_map] at hd
    obtain ⟨r, hr, rfl⟩ := Option.map_eq_some_iff.mp hd
    rw [List.getD_eq_getElem?_getD, hr, take_snoc hr, moves_snoc]
    have okr := ok r (List.mem_of_getElem? hr)
    have hl := moves_len (runs.take i) (rows := rows) fun r' m => ok r' (List.mem_of_mem_take m)
    rw [← hl] at okr
    show Ex prog w ht n (scA P 185) ([("rows", .vp (im (.list (rowsD (moves rows (runs.take i)))))), ("runs", .vp (im (.list (runs.map Run.d)))), ("many", .vp (im (.int (rows.length : Int)))), ("word", .vp (im (.str r.word))), ("row", .vp (im (.int r.at_))), ("count", .vp (im (.int r.cnt)))]) _ _
    rw [← hl]
    rw [← hl] at hz
    generalize moves rows (runs.take i) = q at *
    cases hd : r.del with
    | true => exact Ex.if_n (t_eqS (by (repeat (first | with_reducible exact List.mem_cons_self | with_reducible refine List.mem_cons_of_mem _ ?_))) r.sh (r.eqv_del.trans hd)) (Ex.assignI (d := .list (rowsD (move q r))) (Ev.list (Ev.mvDel (Ev.sl (Ev.var (by (repeat (first | with_reducible exact List.mem_cons_self | with_reducible refine List.mem_cons_of_mem _ ?_))))) (Ev.sl (Ev.var (by (repeat (first | with_reducible exact List.mem_cons_self | with_reducible refine List.mem_cons_of_mem _ ?_))))) (Ev.var (by (repeat (first | with_reducible exact List.mem_cons_self | with_reducible refine List.mem_cons_of_mem _ ?_)))) (Ev.var (by (repeat (first | with_reducible exact List.mem_cons_self | with_reducible refine List.mem_cons_of_mem _ ?_)))) (Ev.var (by (repeat (first | with_reducible exact List.mem_cons_self | with_reducible refine List.mem_cons_of_mem _ ?_)))) (Ev.var (by (repeat (first | with_reducible exact List.mem_cons_self | with_reducible refine List.mem_cons_of_mem _ ?_)))) hd okr hz)) (.inl (by kernel_rfl)) (by (repeat (first | exact Upd.nil | (with_reducible apply Upd.hit) | ((with_reducible apply Upd.miss); (focus decide))))) Ex.nil0) (Ex.nil (by (refine sub_of_all ?_; repeat (first | exact True.intro | refine And.intro (by (repeat (first | with_reducible exact List.mem_cons_self | with_reducible refine List.mem_cons_of_mem _ ?_))) ?_))))
    | false => exact Ex.else_n (t_eqS (by (repeat (first | with_reducible exact List.mem_cons_self | with_reducible refine List.mem_cons_of_mem _ ?_))) r.sh (r.eqv_del.trans hd)) (Ex.assignI (d := .list (rowsD (move q r))) (Ev.list (Ev.mvIns (Ev.sl (Ev.var (by (repeat (first | with_reducible exact List.mem_cons_self | with_reducible refine List.mem_cons_of_mem _ ?_))))) (Ev.sl (Ev.var (by (repeat (first | with_reducible exact List.mem_cons_self | with_reducible refine List.mem_cons_of_mem _ ?_))))) (Ev.var (by (repeat (first | with_reducible exact List.mem_cons_self | with_reducible refine List.mem_cons_of_mem _ ?_)))) (Ev.var (by (repeat (first | with_reducible exact List.mem_cons_self | with_reducible refine List.mem_cons_of_mem _ ?_)))) (Ev.var (by (repeat (first | with_reducible exact List.mem_cons_self | with_reducible refine List.mem_cons_of_mem _ ?_)))) (Ev.var (by (repeat (first | with_reducible exact List.mem_cons_self | with_reducible refine List.mem_cons_of_mem _ ?_)))) hd okr hz)) (.inl (by kernel_rfl)) (by (repeat (first | exact Upd.nil | (with_reducible apply Upd.hit) | ((with_reducible apply Upd.miss); (focus decide))))) Ex.nil0) (Ex.nil (by (refine sub_of_all ?_; repeat (first | exact True.intro | refine And.intro (by (repeat (first | with_reducible exact List.mem_cons_self | with_reducible refine List.mem_cons_of_mem _ ?_))) ?_))))
  · rw [List.length_map, List.take_length]
    exact Ex.ret (Ev.var (by (repeat (first | with_reducible exact List.mem_cons_self | with_reducible refine List.mem_cons_of_mem _ ?_))))

noncomputable def Stp.isDr : Stp → Bool
  | .draw _ _ => true
  | .ins _ => true
  | _ => false
noncomputable def Stp.last : Stp → Int
  | .keep _ j => j
  | .draw _ j => j
  | .del i => i
  | .ins j => j
theorem Stp.atLast (s : Stp) : ∃ j, seqIndex? (-1) s.ds.length = some j ∧ s.ds[j]? = some (.int s.last) := by
  cases s <;> exact ⟨_, rfl, rfl⟩
theorem Stp.lay (s : Stp) : (PyData.str s.word).canLay0 = true := by cases s <;> (simp only [Stp.word, PyData.canLay0]; decide +kernel)
theorem Stp.in_dr (s : Stp) : ([PyData.str (Str.ofString "draw"), .str (Str.ofString "insert")].any fun y => PyData.eqv y (.str s.word)) = s.isDr := by
  cases s <;> (simp only [List.any_cons, List.any_nil, eqv_str, Stp.word, Stp.isDr]; decide)
theorem Ev.stepL {s : Stp} {k : Nat} {p0 p1 : Pos} (hx : (x, Ent.vp (im s.d)) ∈ ρ) (hd : (x == ("__debug__" : Str)) = false := by decide) (hn : (x == ("__classdict__" : Str)) = false := by decide) : Ev prog w ht n sc ρ (.Subscript (.Name x xp) (.UnaryOp .USub (.Constant (.int 1) k p0) p1) pos) (kim (.int s.last)) := by
  obtain ⟨j, h1, h2⟩ := s.atLast
  exact Ev.itemT (ds := s.ds) (k := -1) (j := j) (Ev.var hx hd hn) (Ev.neg (Ev.int 1 _)) h1 h2
noncomputable def drs (l : List Stp) : List Int := (l.filter Stp.isDr).map Stp.last
theorem fn_draws (T : TopX P mg mb ht) (l : List Stp) (hz : l.length ≤ 1000) : Fn prog w ht (n + 1) (.ref 121) [kim (stps l)] (kfr (intL (drs l))) := by
  refine (F121 P).fn (ps := [im (stps l)]) T rfl (show Ex _ _ _ _ _ [("script", .vp (im (stps l)))] _ _ from ?_)
  refine Ex.ret ?_
  have e : intL (drs l) = (l.filter Stp.isDr).map fun s => PyData.int s.last := by simp [intL, drs, List.map_map]
  rw [e]
  exact CompP.of (f := Stp.d) (un := unStp) (xs := l) (ρin := fun d => [("step", .vp (im d))]) unStp_d (Ev.le (Ev.var (by (repeat (first | with_reducible exact List.mem_cons_self | with_reducible refine List.mem_cons_of_mem _ ?_)))) (kim_kit_list _)) (by exact of_decide_eq_true (by kernel_rfl)) (by exact of_decide_eq_true (by kernel_rfl)) (by kernel_rfl) (by exact of_decide_eq_true (by kernel_rfl)) (by kernel_rfl) (fun d => ⟨.inl rfl, trivial⟩)
    (fun s m => TstL.one (Tst.to (Tst.cmp (Ev.step0 (by (repeat (first | with_reducible exact List.mem_cons_self | with_reducible refine List.mem_cons_of_mem _ ?_)))) (EvS.tuple (ds := [.str (Str.ofString "draw"), .str (Str.ofString "insert")]) (EvS.cons (Ev.str _ _) (EvS.cons (Ev.str _ _) EvS.nil))) (op_in (by decide +kernel) s.lay (by show 0 ≤ 50; decide))) s.in_dr))
    (fun s m _ => Ev.stepL (by (repeat (first | with_reducible exact List.mem_cons_self | with_reducible refine List.mem_cons_of_mem _ ?_)))) hz
end
section
variable {P : Params} {mg mb : Str → Option Value} {prog : Program} {w : World} {ht : Heap} {n : Nat} {sc : Scope} {ρ ρ₁ ρ₂ : Rho} {x : Str} {xp pos apos : Pos} {d : PyData} {e : Expr} {ds : List PyData} {a m k : Nat}
noncomputable def plainAt (old new : List Int) (k : Nat) : Stp := if old.getD k 0 == new.getD k 0 then .keep k k else .draw k k
noncomputable def plainS (old new : List Int) : List Stp := (List.range new.length).map (plainAt old new)
noncomputable def unNat : PyData → Nat
  | .int i => i.toNat
  | _ => 0
theorem intL_at {l : List Int} {k : Nat} (h : k < l.length) : (intL l)[k]? = some (.int (l.getD k 0)) := intL_get (by rw [List.getD_eq_getElem?_getD, List.getElem?_eq_getElem h]; rfl)
theorem Ev.plainAt {old new : List Int} {k : Nat} {k1 : Nat} {eo en : Expr} {w1 w2 : Nat} {p1 p2 p3 p4 p5 p6 p7 p8 : Pos} (h1 : Ev prog w ht n sc ρ eo (ksl (intL old))) (h2 : Ev prog w ht n sc ρ en (ksl (intL new))) (hx : (x, Ent.vp (im (.int (k : Int)))) ∈ ρ) (hk : k < old.length) (hk' : k < new.length) (hz : old.length ≤ 1000) (hz' : new.length ≤ 1000)
    (hd : (x == ("__debug__" : Str)) = false := by decide) (hn : (x == ("__classdict__" : Str)) = false := by decide) :
    Ev prog w ht n sc ρ (.Tuple [.IfExp (.Compare (.Subscript eo (.Name x p1) p2) [.Eq] [.Subscript en (.Name x p3) p4] p5) (.Constant (.str (Str.ofString "keep")) w1 p6) (.Constant (.str (Str.ofString "draw")) w2 p7) p8, .Name x xp, .Name x apos] k1 pos) (kim (Mine.plainAt old new k).d) := by
  have tst : Tst prog w ht n sc ρ (.Compare (.Subscript eo (.Name x p1) p2) [.Eq] [.Subscript en (.Name x p3) p4] p5) (old.getD k 0 == new.getD k 0) := t_eqI (Ev.itemJ h1 (Ev.var hx hd hn) (by simpa [intL] using hz) (intL_at hk)) (Ev.itemJ h2 (Ev.var hx hd hn) (by simpa [intL] using hz') (intL_at hk')) rfl
  unfold Mine.plainAt
  cases q : (old.getD k 0 == new.getD k 0) with
  | true => exact EvS.tuple (ds := (Stp.keep k k).ds) (EvS.cons (Ev.ite_t (tst.to q) (Ev.str _ _)) (EvS.cons (Ev.var hx hd hn) (EvS.cons (Ev.var hx hd hn) EvS.nil))) (hz := by show 3 ≤ 1000; decide)
  | false => exact EvS.tuple (ds := (Stp.draw k k).ds) (EvS.cons (Ev.ite_f (tst.to q) (Ev.str _ _)) (EvS.cons (Ev.var hx hd hn) (EvS.cons (Ev.var hx hd hn) EvS.nil))) (hz := by show 3 ≤ 1000; decide)
theorem fn_plain (T : TopX P mg mb ht) (old new : List Int) (hl : new.length ≤ old.length) (hz : old.length ≤ 1000) : Fn prog w ht (n + 1) (.ref 116) [kim (.list (intL old)), kim (.list (intL new))] (kfr ((plainS old new).map Stp.d)) := by
  refine (F116 P).fn (ps := [im (.list (intL old)), im (.list (intL new))]) T rfl (show Ex _ _ _ _ _ [("old", .vp (im (.list (intL old)))), ("new", .vp (im (.list (intL new))))] _ _ from ?_)
  refine Ex.ret ?_
  have e : (plainS old new).map Stp.d = ((List.range new.length).filter fun _ => true).map fun k => (plainAt old new k).d := by
    rw [List.filter_eq_self.mpr fun _ _ => rfl]; simp [plainS, List.map_map]
  rw [e]
  exact CompP.of (f := fun k : Nat => PyData.int (k : Int)) (un := unNat) (xs := List.range new.length) (t := fun _ => true) (g := fun k => (plainAt old new k).d) (ρin := fun d => [("k", .vp (im d)), ("old", .vp (im (.list (intL old)))), ("new", .vp (im (.list (intL new))))]) (fun _ => rfl)
    (Ev.range_ T (by kernel_rfl) (Ev.to (Ev.len_ (ds := intL new) T (by kernel_rfl) (Ev.sl (Ev.var (by (repeat (first | with_reducible exact List.mem_cons_self | with_reducible refine List.mem_cons_of_mem _ ?_))))) (by simp [intL]; (first | assumption | exact Nat.le_refl _ | exact Nat.add_le_add_left (by decide) _ | exact Nat.le_trans (by assumption) (by decide) | omega))) (by simp [intL])) (by (first | assumption | exact Nat.le_refl _ | exact Nat.add_le_add_left (by decide) _ | exact Nat.le_trans (by assumption) (by decide) | omega))) (by exact of_decide_eq_true (by kernel_rfl)) (by exact of_decide_eq_true (by kernel_rfl)) (by kernel_rfl) (by exact of_decide_eq_true (by kernel_rfl)) (by kernel_rfl)
    (fun d => ⟨.inl rfl, .inr ⟨by (repeat (first | with_reducible exact List.mem_cons_self | with_reducible refine List.mem_cons_of_mem _ ?_)), by exact of_decide_eq_true (by kernel_rfl), by kernel_rfl⟩, .inr ⟨by (repeat (first | with_reducible exact List.mem_cons_self | with_reducible refine List.mem_cons_of_mem _ ?_)), by exact of_decide_eq_true (by kernel_rfl), by kernel_rfl⟩, trivial⟩)
    (fun s m => TstL.nil) (fun k m _ => by
      have hk : k < new.length := List.mem_range.mp m
      exact Ev.plainAt (Ev.sl (Ev.var (by (repeat (first | with_reducible exact List.mem_cons_self | with_reducible refine List.mem_cons_of_mem _ ?_))))) (Ev.sl (Ev.var (by (repeat (first | with_reducible exact List.mem_cons_self | with_reducible refine List.mem_cons_of_mem _ ?_))))) (by (repeat (first | with_reducible exact List.mem_cons_self | with_reducible refine List.mem_cons_of_mem _ ?_))) (by (first | assumption | exact Nat.le_refl _ | exact Nat.add_le_add_left (by decide) _ | exact Nat.le_trans (by assumption) (by decide) | omega)) hk hz (by (first | assumption | exact Nat.le_refl _ | exact Nat.add_le_add_left (by decide) _ | exact Nat.le_trans (by assumption) (by decide) | omega))) (by rw [List.length_range]; (first | assumption | exact Nat.le_refl _ | exact Nat.add_le_add_left (by decide) _ | exact Nat.le_trans (by assumption) (by decide) | omega))

structure Gs where
  gone : List Run
  many : Nat
  run : Bool
noncomputable def bump (l : List Run) : List Run := match l.getLast? with
  | some r => l.dropLast ++ [{ r with cnt := r.cnt + 1 }]
  | none => l
theorem bump_snoc (l : List Run) (r : Run) : bump (l ++ [r]) = l ++ [{ r with cnt := r.cnt + 1 }] := by simp [bump]
noncomputable def g1 (st : Gs) : Stp → Gs
  | .del i => ⟨if st.run then bump st.gone else st.gone ++ [⟨true, i - st.many, 1⟩], st.many + 1, true⟩
  | .ins _ => st
  | _ => { st with run := false }
noncomputable def G1 (l : List Stp) : Gs := l.foldl g1 ⟨[], 0, false⟩
structure Hs where
  come : List Run
  run : Bool
noncomputable def g2 (st : Hs) : Stp → Hs
  | .ins j => ⟨if st.run then bump st.come else st.come ++ [⟨false, j, 1⟩], true⟩
  | .del _ => st
  | _ => { st with run := false }
noncomputable def G2 (l : List Stp) : Hs := l.foldl g2 ⟨[], false⟩
noncomputable def runs (l : List Stp) : List Run := (G1 l).gone ++ (G2 l).come
theorem G1_snoc (l : List Stp) (s : Stp) : G1 (l ++ [s]) = g1 (G1 l) s := by simp [G1, List.foldl_append]
theorem G2_snoc (l : List Stp) (s : Stp) : G2 (l ++ [s]) = g2 (G2 l) s := by simp [G2, List.foldl_append]
theorem bump_len (l : List Run) : (bump l).length = l.length := by
  unfold bump
  cases h : l.getLast? with
  | none => rfl
  | some r =>
    have : l ≠ [] := by rintro rfl; simp at h
    have : 0 < l.length := List.length_pos_iff.mpr this
    simp only [List.length_append, List.length_dropLast, List.length_cons, List.length_nil]
    (first | assumption | exact Nat.le_refl _ | exact Nat.add_le_add_left (by decide) _ | exact Nat.le_trans (by assumption) (by decide) | omega)
theorem bump_del {b : Bool} {l : List Run} (h : ∀ r ∈ l, r.del = b) : ∀ r ∈ bump l, r.del = b := by
  unfold bump
  cases q : l.getLast? with
  | none => exact h
  | some r =>
    intro z m
    rcases List.mem_append.mp m with m | m
    · exact h z (List.dropLast_subset l m)
    · rw [List.mem_singleton.mp m]
      exact h r (List.mem_of_getLast? q)
theorem g1_inv (st : Gs) (s : Stp) (h : (∀ r ∈ st.gone, r.del = true) ∧ (st.run = true → st.gone ≠ [])) : (∀ r ∈ (g1 st s).gone, r.del = true) ∧ ((g1 st s).run = true → (g1 st s).gone ≠ []) := by
  cases s with
  | keep i j => exact ⟨h.1, nofun⟩
  | draw i j => exact ⟨h.1, nofun⟩
  | ins j => exact h
  | del i =>
    show (∀ r ∈ (if st.run = true then bump st.gone else st.gone ++ [⟨true, i - st.many, 1⟩]), r.del = true) ∧ (true = true → (if st.run = true then bump st.gone else st.gone ++ [⟨true, i - st.many, 1⟩]) ≠ [])
    split
    · rename_i q
      refine ⟨bump_del h.1, fun _ e => h.2 q ?_⟩
      have := congrArg List.length e
      rw [bump_len] at this
      exact List.length_eq_zero_iff.mp this
    · refine ⟨fun r m => ?_, fun _ e => by simp at e⟩
      rcases List.mem_append.mp m with m | m
      · exact h.1 r m
      · rw [List.mem_singleton.mp m]
theorem g2_inv (st : Hs) (s : Stp) (h : (∀ r ∈ st.come, r.del = false) ∧ (st.run = true → st.come ≠ [])) : (∀ r ∈ (g2 st s).come, r.del = false) ∧ ((g2 st s).run = true → (g2 st s).come ≠ []) := by
  cases s with
  | keep i j => exact ⟨h.1, nofun⟩
  | draw i j => exact ⟨h.1, nofun⟩
  | del j => exact h
  | ins i =>
    show (∀ r ∈ (if st.run = true then bump st.come else st.come ++ [⟨false, i, 1⟩]), r.del = false) ∧ (true = true → (if st.run = true then bump st.come else st.come ++ [⟨false, i, 1⟩]) ≠ [])
    split
    · rename_i q
      refine ⟨bump_del h.1, fun _ e => h.2 q ?_⟩
      have := congrArg List.length e
      rw [bump_len] at this
      exact List.length_eq_zero_iff.mp this
    · refine ⟨fun r m => ?_, fun _ e => by simp at e⟩
      rcases List.mem_append.mp m with m | m
      · exact h.1 r m
      · rw [List.mem_singleton.mp m]
theorem G1_inv (l : List Stp) : (∀ r ∈ (G1 l).gone, r.del = true) ∧ ((G1 l).run = true → (G1 l).gone ≠ []) := by
  suffices ∀ (l : List Stp) (st : Gs), ((∀ r ∈ st.gone, r.del = true) ∧ (st.run = true → st.gone ≠ [])) → (∀ r ∈ (l.foldl g1 st).gone, r.del = true) ∧ ((l.foldl g1 st).run = true → (l.foldl g1 st).gone ≠ []) from this l _ ⟨nofun, nofun⟩
  intro l
  induction l with
  | nil => intro st h; exact h
  | cons s l ih => intro st h; exact ih _ (g1_inv st s h)
theorem G2_inv (l : List Stp) : (∀ r ∈ (G2 l).come, r.del = false) ∧ ((G2 l).run = true → (G2 l).come ≠ []) := by
  suffices ∀ (l : List Stp) (st : Hs), ((∀ r ∈ st.come, r.del = false) ∧ (st.run = true → st.come ≠ [])) → (∀ r ∈ (l.foldl g2 st).come, r.del = false) ∧ ((l.foldl g2 st).run = true → (l.foldl g2 st).come ≠ []) from this l _ ⟨nofun, nofun⟩
  intro l
  induction l with
  | nil => intro st h; exact h
  | cons s l ih => intro st h; exact ih _ (g2_inv st s h)
theorem G1_len (l : List Stp) : (G1 l).gone.length ≤ l.length := by
  suffices ∀ (l : List Stp) (st : Gs), (l.foldl g1 st).gone.length ≤ st.gone.length + l.length by simpa [G1] using this l ⟨[], 0, false⟩
  intro l
  induction l with
  | nil => intro st; simp
  | cons s l ih =>
    intro st
    have h1 := ih (g1 st s)
    have : (g1 st s).gone.length ≤ st.gone.length + 1 := by
      cases s with
      | del i =>
        show (if st.run = true then bump st.gone else st.gone ++ [⟨true, i - st.many, 1⟩]).length ≤ _
        split
        · rw [bump_len]; (first | assumption | exact Nat.le_refl _ | exact Nat.add_le_add_left (by decide) _ | exact Nat.le_trans (by assumption) (by decide) | omega)
        · simp
      | _ => show st.gone.length ≤ _; (first | assumption | exact Nat.le_refl _ | exact Nat.add_le_add_left (by decide) _ | exact Nat.le_trans (by assumption) (by decide) | omega)
    rw [List.length_cons]
    exact Nat.le_trans h1 (by (first | assumption | exact Nat.le_refl _ | exact Nat.add_le_add_left (by decide) _ | exact Nat.le_trans (by assumption) (by decide) | omega))
theorem G2_len (l : List Stp) : (G2 l).come.length ≤ l.length := by
  suffices ∀ (l : List Stp) (st : Hs), (l.foldl g2 st).come.length ≤ st.come.length + l.length by simpa [G2] using this l ⟨[], false⟩
  intro l
  induction l with
  | nil => intro st; simp
  | cons s l ih =>
    intro st
    have h1 := ih (g2 st s)
    have : (g2 st s).come.length ≤ st.come.length + 1 := by
      cases s with
      | ins i =>
        show (if st.run = true then bump st.come else st.come ++ [⟨false, i, 1⟩]).length ≤ _
        split
        · rw [bump_len]; (first | assumption | exact Nat.le_refl _ | exact Nat.add_le_add_left (by decide) _ | exact Nat.le_trans (by assumption) (by decide) | omega)
        · simp
      | _ => show st.come.length ≤ _; (first | assumption | exact Nat.le_refl _ | exact Nat.add_le_add_left (by decide) _ | exact Nat.le_trans (by assumption) (by decide) | omega)
    rw [List.length_cons]
    exact Nat.le_trans h1 (by (first | assumption | exact Nat.le_refl _ | exact Nat.add_le_add_left (by decide) _ | exact Nat.le_trans (by assumption) (by decide) | omega))
end
theorem nres {a b : Addr} (h : a ≠ b) : ∀ z ∈ [b], z ∉ [a] := fun z m q => h ((List.mem_singleton.mp q).symm.trans (List.mem_singleton.mp m))
theorem nres' {a b : Addr} (h : a ≠ b) : ∀ z ∈ [a], z ∉ [b] := nres h.symm
section
variable {P : Params} {mg mb : Str → Option Value} {prog : Program} {w : World} {ht : Heap} {n : Nat} {sc : Scope} {ρ ρ' ρ₁ ρ₂ : Rho} {x : Str} {xp pos apos p0 p1 p2 p3 p4 p5 p6 p7 p8 p9 q1 q2 q3 q4 q5 q6 q7 q8 q9 : Pos} {d : PyData} {e : Expr} {ds : List PyData} {a m k : Nat} {k1 k2 k3 k4 k5 k6 : Nat} {po : Post} {rest : List Stmt}
noncomputable abbrev runsD (l : List Run) : List PyData := l.map Run.d
theorem Ev.lastRun {l : List Run} {r : Run} {A : Addr} (hx : (x, Ent.own A (runsD (l ++ [r]))) ∈ ρ) (hz : l.length ≤ 900) (hd : (x == ("__debug__" : Str)) = false := by decide) (hn : (x == ("__classdict__" : Str)) = false := by decide) :
    Ev prog w ht n sc ρ (.Subscript (.Name x p0) (.UnaryOp .USub (.Constant (.int 1) k1 p1) p2) p3) (kim r.d) :=
  Ev.itemN (ds := runsD (l ++ [r])) (k := -1) (Ev.own hx hd hn) (Ev.neg (Ev.int 1 _)) (by decide) (by simp; (first | assumption | exact Nat.le_refl _ | exact Nat.add_le_add_left (by decide) _ | exact Nat.le_trans (by assumption) (by decide) | omega)) (by decide) (by
    have len : (runsD (l ++ [r])).length = l.length + 1 := by simp
    have e : ((-1 : Int) + ((runsD (l ++ [r])).length : Int)).toNat = l.length := by rw [len]; (first | assumption | exact Nat.le_refl _ | exact Nat.add_le_add_left (by decide) _ | exact Nat.le_trans (by assumption) (by decide) | omega)
    rw [e]; simp [runsD])
theorem Ex.bump {l : List Run} {r : Run} {A : Addr} (hx : (x, Ent.own A (runsD (l ++ [r]))) ∈ ρ) (hw : e = .Constant (.str r.word) k3 p4) (hρ : Upr x (ownP A (runsD (l ++ [{ r with cnt := r.cnt + 1 }]))) ρ ρ') (hz : l.length ≤ 900) (y : Ex prog w ht n sc ρ' rest po)
    (hd : (x == ("__debug__" : Str)) = false := by decide) (hn : (x == ("__classdict__" : Str)) = false := by decide) (hs : ∀ env l, swapsWith (.Tuple [e, .Subscript (.Subscript (.Name x p5) (.UnaryOp .USub (.Constant (.int 1) k4 p6) p7) p8) (.Constant (.int 1) k5 p9) q1, .BinOp (.Subscript (.Subscript (.Name x q2) (.UnaryOp .USub (.Constant (.int 1) k6 q3) q4) q5) (.Constant (.int 2) a q6) q7) .Add (.Constant (.int 1) m q8) q9] k p3) (some (.Subscript (.Name x p0) (.UnaryOp .USub (.Constant (.int 1) k1 p1) p2) xp)) l env = pure false := by intro _ _; rfl) :
    Ex prog w ht n sc ρ (.Assign [.Subscript (.Name x p0) (.UnaryOp .USub (.Constant (.int 1) k1 p1) p2) xp] (.Tuple [e, .Subscript (.Subscript (.Name x p5) (.UnaryOp .USub (.Constant (.int 1) k4 p6) p7) p8) (.Constant (.int 1) k5 p9) q1, .BinOp (.Subscript (.Subscript (.Name x q2) (.UnaryOp .USub (.Constant (.int 1) k6 q3) q4) q5) (.Constant (.int 2) a q6) q7) .Add (.Constant (.int 1) m q8) q9] k p3) pos :: rest) po := by
  subst hw
  have len : (runsD (l ++ [r])).length = l.length + 1 := by simp
  refine Ex.setitem (ds := runsD (l ++ [r])) (d := Run.d { r with cnt := r.cnt + 1 }) (k := -1) hx ?_ (Ev.neg (Ev.int 1 _)) l.length (.inr ⟨by decide, by rw [len]; (first | assumption | exact Nat.le_refl _ | exact Nat.add_le_add_left (by decide) _ | exact Nat.le_trans (by assumption) (by decide) | omega), by rw [len]; (first | assumption | exact Nat.le_refl _ | exact Nat.add_le_add_left (by decide) _ | exact Nat.le_trans (by assumption) (by decide) | omega)⟩) (by rw [len]; (first | assumption | exact Nat.le_refl _ | exact Nat.add_le_add_left (by decide) _ | exact Nat.le_trans (by assumption) (by decide) | omega)) (by rw [len]; (first | assumption | exact Nat.le_refl _ | exact Nat.add_le_add_left (by decide) _ | exact Nat.le_trans (by assumption) (by decide) | omega)) ?_ y hs hd hn
  · refine EvS.tuple (ds := Run.ds { r with cnt := r.cnt + 1 }) (EvS.cons (Ev.str _ _) (EvS.cons (Ev.itemT (ds := r.ds) (k := 1) (j := 1) (Ev.lastRun hx hz hd hn) (Ev.int _ _) rfl rfl) (EvS.cons ?_ EvS.nil))) (hz := by show 3 ≤ 1000; decide)
    exact Ev.to (Ev.bin (Ev.itemT (ds := r.ds) (k := 2) (j := 2) (d := .int (r.cnt : Int)) (Ev.lastRun hx hz hd hn) (Ev.int _ _) rfl rfl) (Ev.int 1 _) (op_add _ _)) (by show kim _ = kim (.int ((r.cnt + 1 : Nat) : Int)); rw [Int.natCast_add]; rfl)
  · have e : (runsD (l ++ [r])).set l.length (Run.d { r with cnt := r.cnt + 1 }) = runsD (l ++ [{ r with cnt := r.cnt + 1 }]) := by simp [runsD]
    rw [e]; exact hρ
theorem snoc_of {l : List Run} (h : l ≠ []) : ∃ pre r, l = pre ++ [r] := ⟨l.dropLast, l.getLast h, (List.dropLast_concat_getLast h).symm⟩
noncomputable abbrev rs1 (l : List Stp) (a b : Addr) (g : List Run) (mm : Int) (r : Bool) : Rho := [("script", .vp (im (stps l))), ("come", .own b []), ("gone", .own a (runsD g)), ("many", .vp (im (.int mm))), ("is_run", .vp (im (.bool r)))]
noncomputable abbrev rs2 (l : List Stp) (a b : Addr) (g c : List Run) (r : Bool) : Rho := [("script", .vp (im (stps l))), ("come", .own b (runsD c)), ("gone", .own a (runsD g)), ("is_run", .vp (im (.bool r)))]
theorem run_word_t {r : Run} (h : r.del = true) : r.word = Str.ofString "delete" := by unfold Run.word; rw [h]; rfl
theorem run_word_f {r : Run} (h : r.del = false) : r.word = Str.ofString "insert" := by unfold Run.word; rw [h]; rfl
noncomputable def dels (l : List Stp) : Nat := (l.filter fun s => match s with | .del _ => true | _ => false).length
theorem dels_snoc (l : List Stp) (s : Stp) : dels (l ++ [s]) = dels l + (match s with | .del _ => 1 | _ => 0) := by
  cases s <;> simp [dels, List.filter_append]
theorem G1_many (l : List Stp) : (G1 l).many = dels l := by
  suffices ∀ (l : List Stp) (st : Gs), (l.foldl g1 st).many = st.many + dels l by simpa [G1] using this l ⟨[], 0, false⟩
  intro l
  induction l with
  | nil => intro st; simp [dels]
  | cons s l ih =>
    intro st
    rw [List.foldl_cons, ih]
    cases s with
    | del i =>
      show st.many + 1 + dels l = st.many + dels (.del i :: l)
      have : dels (.del i :: l) = dels l + 1 := by simp [dels]
      (first | assumption | exact Nat.le_refl _ | exact Nat.add_le_add_left (by decide) _ | exact Nat.le_trans (by assumption) (by decide) | omega)
    | _ => rfl
theorem fn_runs (T : TopX P mg mb ht) (l : List Stp) (hz : l.length ≤ 400) (hd : ∀ t i, l[t]? = some (.del i) → dels (l.take t) ≤ i) : Fn prog w ht (n + 1) (.ref 128) [kim (stps l)] (kfr (runsD (runs l))) := by
  rw [show runsD (runs l) = runsD (G1 l).gone ++ runsD (G2 l).come from by simp [runs, runsD]]
  refine (F128 P).fn (ps := [im (stps l)]) T rfl (show Ex _ _ _ _ _ [("script", .vp (im (stps l)))] _ _ from ?_)
  refine Ex.own2 (ds1 := []) (ds2 := []) (EvS.lst (ds := []) EvS.nil) (EvS.lst (ds := []) EvS.nil) (by kernel_rfl) (by kernel_rfl) (fun a b => by (repeat (first | exact Upd.nil | (with_reducible apply Upd.hit) | ((with_reducible apply Upd.miss); (focus decide))))) (fun a b => by (repeat (first | exact Upd.nil | (with_reducible apply Upd.hit) | ((with_reducible apply Upd.miss); (focus decide))))) (fun a b nab => ?_) (hw := by (intro env h1 h2; cases env; dsimp only at h1; subst h1; kernel_rfl))
  refine Ex.assignT (d := .tuple [.int 0, .bool false]) (EvS.tuple (ds := [.int 0, .bool false]) (EvS.cons (Ev.int _ _) (EvS.cons (Ev.bool _ _) EvS.nil))) (As.tuple (AsL.cons (As.name (.inl (by kernel_rfl)) (by (repeat (first | exact Upd.nil | (with_reducible apply Upd.hit) | ((with_reducible apply Upd.miss); (focus decide)))))) (AsL.cons (As.name (.inl (by kernel_rfl)) (by (repeat (first | exact Upd.nil | (with_reducible apply Upd.hit) | ((with_reducible apply Upd.miss); (focus decide)))))) AsL.nil))) ?_ (hw := by (intro env h1; cases env; dsimp only at h1; subst h1; kernel_rfl))
  refine Ex.for_ (ds := l.map Stp.d) (Inv := fun i => rs1 l a b (G1 (l.take i)).gone ((G1 (l.take i)).many : Nat) (G1 (l.take i)).run)
    (ρin := fun i d => [("script", .vp (im (stps l))), ("come", .own b []), ("gone", .own a (runsD (G1 (l.take i)).gone)), ("many", .vp (im (.int ((G1 (l.take i)).many : Nat)))), ("is_run", .vp (im (.bool (G1 (l.take i)).run))), ("step", .vp (im d))])
    (Ev.le (Ev.var (by (repeat (first | with_reducible exact List.mem_cons_self | with_reducible refine List.mem_cons_of_mem _ ?_)))) (kim_kit_list _)) (show ∀ y ∈ ([("script", .vp (im (stps l))), ("come", .own b []), ("gone", .own a []), ("many", .vp (im (.int 0))), ("is_run", .vp (im (.bool false)))] : Rho), _ from by (refine sub_of_all ?_; repeat (first | exact True.intro | refine And.intro (by (repeat (first | with_reducible exact List.mem_cons_self | with_reducible refine List.mem_cons_of_mem _ ?_))) ?_))) (fun i d hd => As.name (.inl (by kernel_rfl)) (by show Upd _ _ [_, _, _, _, _] [_, _, _, _, _, _]; (repeat (first | exact Upd.nil | (with_reducible apply Upd.hit) | ((with_reducible apply Upd.miss); (focus decide)))))) (fun i d hdd => ?_) ?_
  · rw [List.getElem?_map] at hdd
    obtain ⟨s, hs, rfl⟩ := Option.map_eq_some_iff.mp hdd
    have hdel := hd i
    rw [take_snoc hs, G1_snoc]
    have inv := G1_inv (l.take i)
    have ln := G1_len (l.take i)
    have hmany := G1_many (l.take i)
    have hil : i < l.length := (List.getElem?_eq_some_iff.mp hs).1
    rw [List.length_take] at ln
    generalize G1 (l.take i) = st at *
    obtain ⟨gone, many, run⟩ := st
    dsimp only at inv ln hmany
    show Ex prog w ht n (scA P 128) ([("script", .vp (im (stps l))), ("come", .own b []), ("gone", .own a (runsD gone)), ("many", .vp (im (.int (many : Int)))), ("is_run", .vp (im (.bool run))), ("step", .vp (im s.d))]) _ _
    cases s with
    | keep p q =>
      show Ex prog w ht n (scA P 128) _ _ (.next (rs1 l a b gone many false))
      exact Ex.skip (t_word (s := .keep p q) (by (repeat (first | with_reducible exact List.mem_cons_self | with_reducible refine List.mem_cons_of_mem _ ?_))) (is_keep_del p q)) (Ex.if_n (t_wordN (s := .keep p q) (by (repeat (first | with_reducible exact List.mem_cons_self | with_reducible refine List.mem_cons_of_mem _ ?_))) (show (!(Stp.keep p q).is (Str.ofString "insert")) = true by rw [is_keep_ins]; rfl)) (Ex.assignI (d := .bool false) (Ev.to (e_word (s := .keep p q) (by (repeat (first | with_reducible exact List.mem_cons_self | with_reducible refine List.mem_cons_of_mem _ ?_)))) (by rw [is_keep_del])) (.inl (by kernel_rfl)) (by (repeat (first | exact Upd.nil | (with_reducible apply Upd.hit) | ((with_reducible apply Upd.miss); (focus decide))))) Ex.nil0) (Ex.nil (by (refine sub_of_all ?_; repeat (first | exact True.intro | refine And.intro (by (repeat (first | with_reducible exact List.mem_cons_self | with_reducible refine List.mem_cons_of_mem _ ?_))) ?_)))))
    | draw p q =>
      show Ex prog w ht n (scA P 128) _ _ (.next (rs1 l a b gone many false))
      exact Ex.skip (t_word (s := .draw p q) (by (repeat (first | with_reducible exact List.mem_cons_self | with_reducible refine List.mem_cons_of_mem _ ?_))) (is_draw_del p q)) (Ex.if_n (t_wordN (s := .draw p q) (by (repeat (first | with_reducible exact List.mem_cons_self | with_reducible refine List.mem_cons_of_mem _ ?_))) (show (!(Stp.draw p q).is (Str.ofString "insert")) = true by rw [is_draw_ins]; rfl)) (Ex.assignI (d := .bool false) (Ev.to (e_word (s := .draw p q) (by (repeat (first | with_reducible exact List.mem_cons_self | with_reducible refine List.mem_cons_of_mem _ ?_)))) (by rw [is_draw_del])) (.inl (by kernel_rfl)) (by (repeat (first | exact Upd.nil | (with_reducible apply Upd.hit) | ((with_reducible apply Upd.miss); (focus decide))))) Ex.nil0) (Ex.nil (by (refine sub_of_all ?_; repeat (first | exact True.intro | refine And.intro (by (repeat (first | with_reducible exact List.mem_cons_self | with_reducible refine List.mem_cons_of_mem _ ?_))) ?_)))))
    | ins q =>
      show Ex prog w ht n (scA P 128) _ _ (.next (rs1 l a b gone many run))
      exact Ex.skip (t_word (s := .ins q) (by (repeat (first | with_reducible exact List.mem_cons_self | with_reducible refine List.mem_cons_of_mem _ ?_))) (is_ins_del q)) (Ex.skip (t_wordN (s := .ins q) (by (repeat (first | with_reducible exact List.mem_cons_self | with_reducible refine List.mem_cons_of_mem _ ?_))) (show (!(Stp.ins q).is (Str.ofString "insert")) = false by rw [is_ins_ins]; rfl)) (Ex.nil (by (refine sub_of_all ?_; repeat (first | exact True.intro | refine And.intro (by (repeat (first | with_reducible exact List.mem_cons_self | with_reducible refine List.mem_cons_of_mem _ ?_))) ?_)))))
    | del p =>
      have hp := hdel p hs
      rw [← hmany] at hp
      have fin : ∀ {ρ' : Rho} {p2 p3 p4 p5 p6 p7 p8 p9 q1 q2 q3 q4 q5 : Pos} {k1 k2 k3 k4 : Nat} {g : List Run}, (Str.ofString "step", Ent.vp (im (Stp.del p).d)) ∈ ρ' → (∃ ρ₃, Upd (Str.ofString "is_run") (.vp (im (.bool true))) ρ' ρ₃ ∧ ∀ y ∈ rs1 l a b g ((many : Int) + 1) true, y ∈ ρ₃) →
          Ex prog w ht n (scA P 128) ρ' [.If (.Compare (.Subscript (.Name "step" p2) (.Constant (.int 0) k1 p3) p4) [.NotEq] [.Constant (.str "insert") k2 p5] p6) [.Assign [.Name "is_run" p7] (.Compare (.Subscript (.Name "step" p8) (.Constant (.int 0) k3 p9) q1) [.Eq] [.Constant (.str "delete") k4 q2] q3) q4] [] q5]
            (.next (rs1 l a b g ((many + 1 : Nat) : Int) true)) := by
        rintro ρ' p2 p3 p4 p5 p6 p7 p8 p9 q1 q2 q3 q4 q5 k1 k2 k3 k4 g h2 ⟨ρ₃, h3, h4⟩
        rw [show ((many + 1 : Nat) : Int) = (many : Int) + 1 from by (first | assumption | exact Nat.le_refl _ | exact Nat.add_le_add_left (by decide) _ | exact Nat.le_trans (by assumption) (by decide) | omega)]
        exact Ex.if_n (t_wordN (s := .del p) h2 (show (!(Stp.del p).is (Str.ofString "insert")) = true by rw [is_del_ins]; rfl)) (Ex.assignI (d := .bool true) (Ev.to (e_word (s := .del p) h2) (by rw [is_del_del])) (.inl (by kernel_rfl)) h3 Ex.nil0) (Ex.nil h4)
      cases run with
      | true =>
        obtain ⟨pre, r, rfl⟩ := snoc_of (inv.2 rfl)
        have hr := inv.1 r (by simp)
        rw [List.length_append, List.length_singleton] at ln
        show Ex prog w ht n (scA P 128) _ _ (.next (rs1 l a b (bump (pre ++ [r])) ((many + 1 : Nat) : Int) true))
        rw [bump_snoc]
        exact Ex.if_n (t_word (s := .del p) (by (repeat (first | with_reducible exact List.mem_cons_self | with_reducible refine List.mem_cons_of_mem _ ?_))) (is_del_del p)) (Ex.if_n (Tst.bool (Ev.var (by (repeat (first | with_reducible exact List.mem_cons_self | with_reducible refine List.mem_cons_of_mem _ ?_))))) (Ex.bump (l := pre) (r := r) (A := a) (by (repeat (first | with_reducible exact List.mem_cons_self | with_reducible refine List.mem_cons_of_mem _ ?_))) (by rw [run_word_t hr]) (by (repeat (first | exact Upr.nil | (with_reducible apply Upr.hit) | (with_reducible apply Upr.vp) | ((with_reducible apply Upr.res); (focus (first | exact nres nab | exact nres' nab)))))) (by (first | assumption | exact Nat.le_refl _ | exact Nat.add_le_add_left (by decide) _ | exact Nat.le_trans (by assumption) (by decide) | omega)) Ex.nil0) (Ex.aug (by (repeat (first | with_reducible exact List.mem_cons_self | with_reducible refine List.mem_cons_of_mem _ ?_))) (Ev.int 1 _) (.inl (by kernel_rfl)) (by (repeat (first | exact Upd.nil | (with_reducible apply Upd.hit) | ((with_reducible apply Upd.miss); (focus decide))))) Ex.nil0)) (fin (by (repeat (first | with_reducible exact List.mem_cons_self | with_reducible refine List.mem_cons_of_mem _ ?_))) ⟨_, by (repeat (first | exact Upd.nil | (with_reducible apply Upd.hit) | ((with_reducible apply Upd.miss); (focus decide)))), by (refine sub_of_all ?_; repeat (first | exact True.intro | refine And.intro (by (repeat (first | with_reducible exact List.mem_cons_self | with_reducible refine List.mem_cons_of_mem _ ?_))) ?_))⟩)
      | false =>
        show Ex prog w ht n (scA P 128) _ _ (.next (rs1 l a b (gone ++ [⟨true, p - many, 1⟩]) ((many + 1 : Nat) : Int) true))
        refine Ex.if_n (t_word (s := .del p) (by (repeat (first | with_reducible exact List.mem_cons_self | with_reducible refine List.mem_cons_of_mem _ ?_))) (is_del_del p)) (Ex.else_n (Tst.bool (Ev.var (by (repeat (first | with_reducible exact List.mem_cons_self | with_reducible refine List.mem_cons_of_mem _ ?_))))) (Ex.append (ds := runsD gone) (d := Run.d ⟨true, p - many, 1⟩) (a := a) (by (repeat (first | with_reducible exact List.mem_cons_self | with_reducible refine List.mem_cons_of_mem _ ?_))) ?_ (by (repeat (first | exact Upr.nil | (with_reducible apply Upr.hit) | (with_reducible apply Upr.vp) | ((with_reducible apply Upr.res); (focus (first | exact nres nab | exact nres' nab)))))) (by simp; (first | assumption | exact Nat.le_refl _ | exact Nat.add_le_add_left (by decide) _ | exact Nat.le_trans (by assumption) (by decide) | omega)) Ex.nil0) (Ex.aug (by (repeat (first | with_reducible exact List.mem_cons_self | with_reducible refine List.mem_cons_of_mem _ ?_))) (Ev.int 1 _) (.inl (by kernel_rfl)) (by (repeat (first | exact Upd.nil | (with_reducible apply Upd.hit) | ((with_reducible apply Upd.miss); (focus decide))))) Ex.nil0)) (fin (by (repeat (first | with_reducible exact List.mem_cons_self | with_reducible refine List.mem_cons_of_mem _ ?_))) ⟨_, by (repeat (first | exact Upd.nil | (with_reducible apply Upd.hit) | ((with_reducible apply Upd.miss); (focus decide)))), ?_⟩)
        · refine EvS.tuple (ds := Run.ds ⟨true, p - many, 1⟩) (EvS.cons (Ev.str _ _) (EvS.cons (Ev.to (Ev.bin (Ev.itemT (ds := (Stp.del p).ds) (k := 1) (j := 1) (d := .int (p : Int)) (Ev.var (by (repeat (first | with_reducible exact List.mem_cons_self | with_reducible refine List.mem_cons_of_mem _ ?_)))) (Ev.int _ _) rfl rfl) (Ev.var (d := .int (many : Int)) (by (repeat (first | with_reducible exact List.mem_cons_self | with_reducible refine List.mem_cons_of_mem _ ?_)))) (op_sub _ _)) (by show kim _ = kim (.int ((p - many : Nat) : Int)); rw [Int.natCast_sub hp])) (EvS.cons (Ev.int _ _) EvS.nil))) (hz := by show 3 ≤ 1000; decide)
        · have e : runsD (gone ++ [⟨true, p - many, 1⟩]) = runsD gone ++ [Run.d ⟨true, p - many, 1⟩] := by simp [runsD]
          unfold rs1
          rw [e]
          (refine sub_of_all ?_; repeat (first | exact True.intro | refine And.intro (by (repeat (first | with_reducible exact List.mem_cons_self | with_reducible refine List.mem_cons_of_mem _ ?_))) ?_))
  · rw [List.length_map, List.take_length]
    have gl := G1_len l
    generalize (G1 l).gone = g at *
    generalize ((G1 l).many : Int) = mm
    generalize (G1 l).run = rr
    refine Ex.assignI (d := .bool false) (Ev.bool _ _) (.inl (by kernel_rfl)) (by (repeat (first | exact Upd.nil | (with_reducible apply Upd.hit) | ((with_reducible apply Upd.miss); (focus decide))))) ?_
    refine Ex.for_ (ds := l.map Stp.d) (Inv := fun i => rs2 l a b g (G2 (l.take i)).come (G2 (l.take i)).run)
      (ρin := fun i d => [("script", .vp (im (stps l))), ("come", .own b (runsD (G2 (l.take i)).come)), ("gone", .own a (runsD g)), ("is_run", .vp (im (.bool (G2 (l.take i)).run))), ("step", .vp (im d))])
      (Ev.le (Ev.var (by (repeat (first | with_reducible exact List.mem_cons_self | with_reducible refine List.mem_cons_of_mem _ ?_)))) (kim_kit_list _)) (show ∀ y ∈ ([("script", .vp (im (stps l))), ("come", .own b []), ("gone", .own a (runsD g)), ("is_run", .vp (im (.bool false)))] : Rho), _ from by (refine sub_of_all ?_; repeat (first | exact True.intro | refine And.intro (by (repeat (first | with_reducible exact List.mem_cons_self | with_reducible refine List.mem_cons_of_mem _ ?_))) ?_))) (fun i d hd => As.name (.inl (by kernel_rfl)) (by show Upd _ _ [_, _, _, _] [_, _, _, _, _]; (repeat (first | exact Upd.nil | (with_reducible apply Upd.hit) | ((with_reducible apply Upd.miss); (focus decide)))))) (fun i d hdd => ?_) ?_
    · rw [List.getElem?_map] at hdd
      obtain ⟨s, hs, rfl⟩ := Option.map_eq_some_iff.mp hdd
      rw [take_snoc hs, G2_snoc]
      have inv := G2_inv (l.take i)
      have ln := G2_len (l.take i)
      have hil : i < l.length := (List.getElem?_eq_some_iff.mp hs).1
      rw [List.length_take] at ln
      generalize G2 (l.take i) = st at *
      obtain ⟨come, run⟩ := st
      dsimp only at inv ln
      show Ex prog w ht n (scA P 128) ([("script", .vp (im (stps l))), ("come", .own b (runsD come)), ("gone", .own a (runsD g)), ("is_run", .vp (im (.bool run))), ("step", .vp (im s.d))]) _ _
      cases s with
      | keep p q =>
        show Ex prog w ht n (scA P 128) _ _ (.next (rs2 l a b g come false))
        exact Ex.skip (t_word (s := .keep p q) (by (repeat (first | with_reducible exact List.mem_cons_self | with_reducible refine List.mem_cons_of_mem _ ?_))) (is_keep_ins p q)) (Ex.if_n (t_wordN (s := .keep p q) (by (repeat (first | with_reducible exact List.mem_cons_self | with_reducible refine List.mem_cons_of_mem _ ?_))) (show (!(Stp.keep p q).is (Str.ofString "delete")) = true by rw [is_keep_del]; rfl)) (Ex.assignI (d := .bool false) (Ev.to (e_word (s := .keep p q) (by (repeat (first | with_reducible exact List.mem_cons_self | with_reducible refine List.mem_cons_of_mem _ ?_)))) (by rw [is_keep_ins])) (.inl (by kernel_rfl)) (by (repeat (first | exact Upd.nil | (with_reducible apply Upd.hit) | ((with_reducible apply Upd.miss); (focus decide))))) Ex.nil0) (Ex.nil (by (refine sub_of_all ?_; repeat (first | exact True.intro | refine And.intro (by (repeat (first | with_reducible exact List.mem_cons_self | with_reducible refine List.mem_cons_of_mem _ ?_))) ?_)))))
      | draw p q =>
        show Ex prog w ht n (scA P 128) _ _ (.next (rs2 l a b g come false))
        exact Ex.skip (t_word (s := .draw p q) (by (repeat (first | with_reducible exact List.mem_cons_self | with_reducible refine List.mem_cons_of_mem _ ?_))) (is_draw_ins p q)) (Ex.if_n (t_wordN (s := .draw p q) (by (repeat (first | with_reducible exact List.mem_cons_self | with_reducible refine List.mem_cons_of_mem _ ?_))) (show (!(Stp.draw p q).is (Str.ofString "delete")) = true by rw [is_draw_del]; rfl)) (Ex.assignI (d := .bool false) (Ev.to (e_word (s := .draw p q) (by (repeat (first | with_reducible exact List.mem_cons_self | with_reducible refine List.mem_cons_of_mem _ ?_)))) (by rw [is_draw_ins])) (.inl (by kernel_rfl)) (by (repeat (first | exact Upd.nil | (with_reducible apply Upd.hit) | ((with_reducible apply Upd.miss); (focus decide))))) Ex.nil0) (Ex.nil (by (refine sub_of_all ?_; repeat (first | exact True.intro | refine And.intro (by (repeat (first | with_reducible exact List.mem_cons_self | with_reducible refine List.mem_cons_of_mem _ ?_))) ?_)))))
      | del q =>
        show Ex prog w ht n (scA P 128) _ _ (.next (rs2 l a b g come run))
        exact Ex.skip (t_word (s := .del q) (by (repeat (first | with_reducible exact List.mem_cons_self | with_reducible refine List.mem_cons_of_mem _ ?_))) (is_del_ins q)) (Ex.skip (t_wordN (s := .del q) (by (repeat (first | with_reducible exact List.mem_cons_self | with_reducible refine List.mem_cons_of_mem _ ?_))) (show (!(Stp.del q).is (Str.ofString "delete")) = false by rw [is_del_del]; rfl)) (Ex.nil (by (refine sub_of_all ?_; repeat (first | exact True.intro | refine And.intro (by (repeat (first | with_reducible exact List.mem_cons_self | with_reducible refine List.mem_cons_of_mem _ ?_))) ?_)))))
      | ins p =>
        have fin : ∀ {ρ' : Rho} {p2 p3 p4 p5 p6 p7 p8 p9 q1 q2 q3 q4 q5 : Pos} {k1 k2 k3 k4 : Nat} {c : List Run}, (Str.ofString "step", Ent.vp (im (Stp.ins p).d)) ∈ ρ' → (∃ ρ₃, Upd (Str.ofString "is_run") (.vp (im (.bool true))) ρ' ρ₃ ∧ ∀ y ∈ rs2 l a b g c true, y ∈ ρ₃) →
            Ex prog w ht n (scA P 128) ρ' [.If (.Compare (.Subscript (.Name "step" p2) (.Constant (.int 0) k1 p3) p4) [.NotEq] [.Constant (.str "delete") k2 p5] p6) [.Assign [.Name "is_run" p7] (.Compare (.Subscript (.Name "step" p8) (.Constant (.int 0) k3 p9) q1) [.Eq] [.Constant (.str "insert") k4 q2] q3) q4] [] q5]
              (.next (rs2 l a b g c true)) := by
          rintro ρ' p2 p3 p4 p5 p6 p7 p8 p9 q1 q2 q3 q4 q5 k1 k2 k3 k4 c h2 ⟨ρ₃, h3, h4⟩
          exact Ex.if_n (t_wordN (s := .ins p) h2 (show (!(Stp.ins p).is (Str.ofString "delete")) = true by rw [is_ins_del]; rfl)) (Ex.assignI (d := .bool true) (Ev.to (e_word (s := .ins p) h2) (by rw [is_ins_ins])) (.inl (by kernel_rfl)) h3 Ex.nil0) (Ex.nil h4)
        cases run with
        | true =>
          obtain ⟨pre, r, rfl⟩ := snoc_of (inv.2 rfl)
          have hr := inv.1 r (by simp)
          rw [List.length_append, List.length_singleton] at ln
          show Ex prog w ht n (scA P 128) _ _ (.next (rs2 l a b g (bump (pre ++ [r])) true))
          rw [bump_snoc]
          exact Ex.if_n (t_word (s := .ins p) (by (repeat (first | with_reducible exact List.mem_cons_self | with_reducible refine List.mem_cons_of_mem _ ?_))) (is_ins_ins p)) (Ex.if_n (Tst.bool (Ev.var (by (repeat (first | with_reducible exact List.mem_cons_self | with_reducible refine List.mem_cons_of_mem _ ?_))))) (Ex.bump (l := pre) (r := r) (A := b) (by (repeat (first | with_reducible exact List.mem_cons_self | with_reducible refine List.mem_cons_of_mem _ ?_))) (by rw [run_word_f hr]) (by (repeat (first | exact Upr.nil | (with_reducible apply Upr.hit) | (with_reducible apply Upr.vp) | ((with_reducible apply Upr.res); (focus (first | exact nres nab | exact nres' nab)))))) (by (first | assumption | exact Nat.le_refl _ | exact Nat.add_le_add_left (by decide) _ | exact Nat.le_trans (by assumption) (by decide) | omega)) Ex.nil0) Ex.nil0) (fin (by (repeat (first | with_reducible exact List.mem_cons_self | with_reducible refine List.mem_cons_of_mem _ ?_))) ⟨_, by (repeat (first | exact Upd.nil | (with_reducible apply Upd.hit) | ((with_reducible apply Upd.miss); (focus decide)))), by (refine sub_of_all ?_; repeat (first | exact True.intro | refine And.intro (by (repeat (first | with_reducible exact List.mem_cons_self | with_reducible refine List.mem_cons_of_mem _ ?_))) ?_))⟩)
        | false =>
          show Ex prog w ht n (scA P 128) _ _ (.next (rs2 l a b g (come ++ [⟨false, p, 1⟩]) true))
          refine Ex.if_n (t_word (s := .ins p) (by (repeat (first | with_reducible exact List.mem_cons_self | with_reducible refine List.mem_cons_of_mem _ ?_))) (is_ins_ins p)) (Ex.else_n (Tst.bool (Ev.var (by (repeat (first | with_reducible exact List.mem_cons_self | with_reducible refine List.mem_cons_of_mem _ ?_))))) (Ex.append (ds := runsD come) (d := Run.d ⟨false, p, 1⟩) (a := b) (by (repeat (first | with_reducible exact List.mem_cons_self | with_reducible refine List.mem_cons_of_mem _ ?_))) ?_ (by (repeat (first | exact Upr.nil | (with_reducible apply Upr.hit) | (with_reducible apply Upr.vp) | ((with_reducible apply Upr.res); (focus (first | exact nres nab | exact nres' nab)))))) (by simp; (first | assumption | exact Nat.le_refl _ | exact Nat.add_le_add_left (by decide) _ | exact Nat.le_trans (by assumption) (by decide) | omega)) Ex.nil0) Ex.nil0) (fin (by (repeat (first | with_reducible exact List.mem_cons_self | with_reducible refine List.mem_cons_of_mem _ ?_))) ⟨_, by (repeat (first | exact Upd.nil | (with_reducible apply Upd.hit) | ((with_reducible apply Upd.miss); (focus decide)))), ?_⟩)
          · exact EvS.tuple (ds := Run.ds ⟨false, p, 1⟩) (EvS.cons (Ev.str _ _) (EvS.cons (Ev.itemT (ds := (Stp.ins p).ds) (k := 1) (j := 1) (d := .int (p : Int)) (Ev.var (by (repeat (first | with_reducible exact List.mem_cons_self | with_reducible refine List.mem_cons_of_mem _ ?_)))) (Ev.int _ _) rfl rfl) (EvS.cons (Ev.int _ _) EvS.nil))) (hz := by show 3 ≤ 1000; decide)
          · have e : runsD (come ++ [⟨false, p, 1⟩]) = runsD come ++ [Run.d ⟨false, p, 1⟩] := by simp [runsD]
            unfold rs2
            rw [e]
            (refine sub_of_all ?_; repeat (first | exact True.intro | refine And.intro (by (repeat (first | with_reducible exact List.mem_cons_self | with_reducible refine List.mem_cons_of_mem _ ?_))) ?_))
    · rw [List.length_map, List.take_length]
      have cl := G2_len l
      exact Ex.ret (Ev.bin (Ev.own (a := a) (ds := runsD g) (by (repeat (first | with_reducible exact List.mem_cons_self | with_reducible refine List.mem_cons_of_mem _ ?_)))) (Ev.own (a := b) (ds := runsD (G2 l).come) (by (repeat (first | with_reducible exact List.mem_cons_self | with_reducible refine List.mem_cons_of_mem _ ?_)))) (op_addL _ _ (by simp; (first | assumption | exact Nat.le_refl _ | exact Nat.add_le_add_left (by decide) _ | exact Nat.le_trans (by assumption) (by decide) | omega))))
end
section
variable {P : Params} {mg mb : Str → Option Value} {prog : Program} {w : World} {ht : Heap} {n : Nat} {sc : Scope} {ρ ρ' ρ₁ ρ₂ : Rho} {x : Str} {xp pos apos : Pos} {d : PyData} {e : Expr} {ds : List PyData} {a m k : Nat}
noncomputable def blank (rows : List (Option Int)) (js : List Int) : List (Option Int) := js.foldl (fun r j => r.set j.toNat none) rows
theorem blank_snoc (rows : List (Option Int)) (js : List Int) (j : Int) : blank rows (js ++ [j]) = (blank rows js).set j.toNat none := by simp [blank, List.foldl_append]
theorem blank_len : ∀ (js : List Int) (rows : List (Option Int)), (blank rows js).length = rows.length
  | [], rows => rfl
  | j :: js, rows => by
    show (blank (rows.set j.toNat none) js).length = _
    rw [blank_len js, List.length_set]
theorem fn_done (T : TopX P mg mb ht) (rows : List (Option Int)) (l : List Stp) (hz : rows.length ≤ 300) (hl : l.length ≤ 400) (hd : ∀ t i, l[t]? = some (.del i) → dels (l.take t) ≤ i) (ok : ∀ r ∈ runs l, r.ok rows.length) (hj : ∀ j ∈ drs l, 0 ≤ j ∧ j < rows.length) :
    Fn prog w ht (n + 2) (.ref 142) [kim (.list (rowsD rows)), kim (stps l)] (kfr (rowsD (blank (moves rows (runs l)) (drs l)))) := by
  refine (F142 P).fn (ps := [im (.list (rowsD rows)), im (stps l)]) T rfl (show Ex _ _ _ _ _ [("lines", .vp (im (.list (rowsD rows)))), ("script", .vp (im (stps l)))] _ _ from ?_)
  refine Ex.ownG (ds := rowsD rows) (Ev.list_ T (by kernel_rfl) (Ev.le (Ev.var (by (repeat (first | with_reducible exact List.mem_cons_self | with_reducible refine List.mem_cons_of_mem _ ?_)))) (kim_kit_list _)) (by rw [List.length_map]; (first | assumption | exact Nat.le_refl _ | exact Nat.add_le_add_left (by decide) _ | exact Nat.le_trans (by assumption) (by decide) | omega))) (.inl (by kernel_rfl)) (fun a => by (repeat (first | exact Upd.nil | (with_reducible apply Upd.hit) | ((with_reducible apply Upd.miss); (focus decide))))) trivial (fun a _ => ?_)
  have lens : ∀ i, (moves rows ((runs l).take i)).length = rows.length := fun i => moves_len _ fun r m => ok r (List.mem_of_mem_take m)
  refine Ex.forG (ι := Addr) (ds := runsD (runs l)) (Inv := fun i a => [("lines", .vp (im (.list (rowsD rows)))), ("script", .vp (im (stps l))), ("rows", .own a (rowsD (moves rows ((runs l).take i))))])
    (ρin := fun i a d => [("lines", .vp (im (.list (rowsD rows)))), ("script", .vp (im (stps l))), ("rows", .own a (rowsD (moves rows ((runs l).take i)))), ("run", .vp (im d))])
    (Ev.le (Ev.call (Ev.gfn T (v := .ref 128) (by kernel_rfl) (by kernel_rfl)) (Kpr.fn (fd := fnAt (KK P) 128) (T.k _ _ rfl) rfl) (EvS.cons (Ev.var (by (repeat (first | with_reducible exact List.mem_cons_self | with_reducible refine List.mem_cons_of_mem _ ?_)))) EvS.nil) (fn_runs T l hl hd)) (kfr_kit _)) a (show ∀ y ∈ ([("lines", .vp (im (.list (rowsD rows)))), ("script", .vp (im (stps l))), ("rows", .own a (rowsD rows))] : Rho), _ from by (refine sub_of_all ?_; repeat (first | exact True.intro | refine And.intro (by (repeat (first | with_reducible exact List.mem_cons_self | with_reducible refine List.mem_cons_of_mem _ ?_))) ?_))) (fun i j d hd => As.name (.inl (by kernel_rfl)) (by (repeat (first | exact Upd.nil | (with_reducible apply Upd.hit) | ((with_reducible apply Upd.miss); (focus decide)))))) (fun i j d hdd => ?_) (fun j => ?_) trivial
  · rw [List.getElem?_map] at hdd
    obtain ⟨r, hr, rfl⟩ := Option.map_eq_some_iff.mp hdd
    rw [take_snoc hr]
    have okr := ok r (List.mem_of_getElem? hr)
    rw [← lens i] at okr
    exact Ex.ownG (ds := rowsD (move (moves rows ((runs l).take i)) r)) (Ev.call (Ev.gfn T (v := .ref 135) (by kernel_rfl) (by kernel_rfl)) (Kpr.fn (fd := fnAt (KK P) 135) (T.k _ _ rfl) rfl) (EvS.cons (Ev.own (a := j) (ds := rowsD (moves rows ((runs l).take i))) (by (repeat (first | with_reducible exact List.mem_cons_self | with_reducible refine List.mem_cons_of_mem _ ?_)))) (EvS.cons (Ev.var (d := r.d) (by (repeat (first | with_reducible exact List.mem_cons_self | with_reducible refine List.mem_cons_of_mem _ ?_)))) EvS.nil)) (fn_rdone T _ r okr (by rw [lens]; exact hz))) (.inl (by kernel_rfl)) (fun a => by (repeat (first | exact Upd.nil | (with_reducible apply Upd.hit) | ((with_reducible apply Upd.miss); (focus decide))))) trivial (fun a _ => Ex.nilG a (by
      rw [moves_snoc]
      (refine sub_of_all ?_; repeat (first | exact True.intro | refine And.intro (by (repeat (first | with_reducible exact List.mem_cons_self | with_reducible refine List.mem_cons_of_mem _ ?_))) ?_))))
  · rw [List.length_map, List.take_length]
    have len := lens (runs l).length
    rw [List.take_length] at len
    generalize moves rows (runs l) = q at *
    refine Ex.for_ (ds := intL (drs l)) (Inv := fun i => [("script", .vp (im (stps l))), ("rows", .own j (rowsD (blank q ((drs l).take i))))])
      (ρin := fun i d => [("script", .vp (im (stps l))), ("rows", .own j (rowsD (blank q ((drs l).take i)))), ("new", .vp (im d))])
      (Ev.le (Ev.call (Ev.gfn T (v := .ref 121) (by kernel_rfl) (by kernel_rfl)) (Kpr.fn (fd := fnAt (KK P) 121) (T.k _ _ rfl) rfl) (EvS.cons (Ev.var (by (repeat (first | with_reducible exact List.mem_cons_self | with_reducible refine List.mem_cons_of_mem _ ?_)))) EvS.nil) (fn_draws T l (by (first | assumption | exact Nat.le_refl _ | exact Nat.add_le_add_left (by decide) _ | exact Nat.le_trans (by assumption) (by decide) | omega)))) (kfr_kit _)) (show ∀ y ∈ ([("script", .vp (im (stps l))), ("rows", .own j (rowsD q))] : Rho), _ from by (refine sub_of_all ?_; repeat (first | exact True.intro | refine And.intro (by (repeat (first | with_reducible exact List.mem_cons_self | with_reducible refine List.mem_cons_of_mem _ ?_))) ?_))) (fun i d hd => As.name (.inl (by kernel_rfl)) (by (repeat (first | exact Upd.nil | (with_reducible apply Upd.hit) | ((with_reducible apply Upd.miss); (focus decide)))))) (fun i d hdd => ?_) ?_
    · unfold intL at hdd
      rw [List.getElem?_map] at hdd
      obtain ⟨v, hv, rfl⟩ := Option.map_eq_some_iff.mp hdd
      rw [take_snoc hv, blank_snoc]
      have hjv := hj v (List.mem_of_getElem? hv)
      have bl := blank_len ((drs l).take i) q
      generalize blank q ((drs l).take i) = z at *
      have zl : (rowsD z).length = rows.length := by rw [List.length_map, bl, len]
      refine Ex.setitem (ds := rowsD z) (d := .none) (k := v) (by (repeat (first | with_reducible exact List.mem_cons_self | with_reducible refine List.mem_cons_of_mem _ ?_))) (Ev.none _) (Ev.var (by (repeat (first | with_reducible exact List.mem_cons_self | with_reducible refine List.mem_cons_of_mem _ ?_)))) v.toNat (.inl ⟨hjv.1, rfl⟩) (by rw [zl]; (first | assumption | exact Nat.le_refl _ | exact Nat.add_le_add_left (by decide) _ | exact Nat.le_trans (by assumption) (by decide) | omega)) (by rw [zl]; (first | assumption | exact Nat.le_refl _ | exact Nat.add_le_add_left (by decide) _ | exact Nat.le_trans (by assumption) (by decide) | omega)) (by (repeat (first | exact Upr.nil | (with_reducible apply Upr.hit) | (with_reducible apply Upr.vp)))) (Ex.nil ?_)
      have e : rowsD (z.set v.toNat none) = (rowsD z).set v.toNat .none := by simp [rowsD, List.map_set, optD]
      rw [e]
      (refine sub_of_all ?_; repeat (first | exact True.intro | refine And.intro (by (repeat (first | with_reducible exact List.mem_cons_self | with_reducible refine List.mem_cons_of_mem _ ?_))) ?_))
    · have e : (intL (drs l)).length = (drs l).length := by simp [intL]
      rw [e, List.take_length]
      exact Ex.retOwn (by (repeat (first | with_reducible exact List.mem_cons_self | with_reducible refine List.mem_cons_of_mem _ ?_)))
end
theorem lay_map {α : Type} {f : α → PyData} (h : ∀ a, (f a).canLay0 = true) : ∀ l : List α, PyData.canLayAll0 (l.map f) = true
  | [] => rfl
  | a :: l => by
    show ((f a).canLay0 && PyData.canLayAll0 (l.map f)) = true
    rw [h a, lay_map h l]; rfl
theorem depth_map {α : Type} {f : α → PyData} {k : Nat} (h : ∀ a, (f a).depth ≤ k) : ∀ l : List α, PyData.depthAll (l.map f) ≤ k
  | [] => Nat.zero_le _
  | a :: l => Nat.max_le.mpr ⟨h a, depth_map h l⟩
theorem lay_list {α : Type} {f : α → PyData} (h : ∀ a, (f a).canLay0 = true) (l : List α) : (PyData.list (l.map f)).canLay0 = true := lay_map h l
theorem sh_list {α : Type} {f : α → PyData} {k : Nat} (h : ∀ a, (f a).canLay0 = true) (hk : ∀ a, (f a).depth ≤ k) (h63 : k ≤ 63) (l : List α) : SeqAt.shaped (.list (l.map f)) = true := by
  unfold SeqAt.shaped
  rw [lay_list h l, Bool.true_and]
  exact decide_eq_true (Nat.succ_le_succ (Nat.le_trans (depth_map hk l) h63))
theorem lay_int (i : Int) : (PyData.int i).canLay0 = true := rfl
theorem dep_int (i : Int) : (PyData.int i).depth ≤ 0 := Nat.le_refl _
theorem sh_ints (l : List Int) : SeqAt.shaped (.list (intL l)) = true := sh_list lay_int dep_int (by decide) l
theorem lay_opt (o : Option Int) : (optD o).canLay0 = true := by cases o <;> rfl
theorem dep_opt (o : Option Int) : (optD o).depth ≤ 0 := by cases o <;> exact Nat.le_refl _
theorem sh_rows (l : List (Option Int)) : SeqAt.shaped (.list (rowsD l)) = true := sh_list lay_opt dep_opt (by decide) l
theorem lay_stp (s : Stp) : (Stp.d s).canLay0 = true := by
  have := s.lay
  cases s <;> (show PyData.canLayAll0 _ = true; simp only [Stp.ds, PyData.canLayAll0, Bool.and_true]; first | exact this | (rw [Bool.and_eq_true]; exact ⟨this, rfl⟩))
theorem dep_stp (s : Stp) : (Stp.d s).depth ≤ 1 := by cases s <;> exact Nat.le_refl _
theorem sh_stps (l : List Stp) : SeqAt.shaped (stps l) = true := sh_list lay_stp dep_stp (by decide) l
theorem upto_ints (n : Nat) : Mine.upto n = intL ((List.range n).map fun (k : Nat) => (k : Int)) := by simp [Mine.upto, intL, List.map_map]
noncomputable def Stp.snd : Stp → Int
  | .keep i _ => i
  | .draw i _ => i
  | .del i => i
  | .ins j => j
theorem Stp.at1 (s : Stp) : seqIndex? 1 s.ds.length = some 1 ∧ s.ds[1]? = some (.int s.snd) := by cases s <;> exact ⟨rfl, rfl⟩
noncomputable def Stp.nIns (s : Stp) : Bool := !s.is (Str.ofString "insert")
noncomputable def Stp.nDel (s : Stp) : Bool := !s.is (Str.ofString "delete")
noncomputable def olds (l : List Stp) : List Int := (l.filter Stp.nIns).map Stp.snd
noncomputable def news (l : List Stp) : List Int := (l.filter Stp.nDel).map Stp.last
noncomputable def upI (n : Nat) : List Int := (List.range n).map fun (k : Nat) => (k : Int)
noncomputable def Stp.bad (old new : List Int) : Stp → Bool
  | .keep i j => old.getD i 0 != new.getD j 0
  | _ => false
theorem Stp.in_all (s : Stp) : ([PyData.str (Str.ofString "keep"), .str (Str.ofString "draw"), .str (Str.ofString "delete"), .str (Str.ofString "insert")].any fun y => PyData.eqv y (.str s.word)) = true := by
  cases s <;> (simp only [List.any_cons, List.any_nil, eqv_str, Stp.word]; decide)
section
variable {P : Params} {mg mb : Str → Option Value} {prog : Program} {w : World} {ht : Heap} {n : Nat} {sc : Scope} {ρ ρ' ρ₁ ρ₂ : Rho} {x : Str} {xp pos apos p0 p1 p2 : Pos} {d : PyData} {e e1 e2 : Expr} {ds : List PyData} {a m k k1 : Nat}
theorem Ev.step1 {s : Stp} (hx : (x, Ent.vp (im s.d)) ∈ ρ) (hd : (x == ("__debug__" : Str)) = false := by decide) (hn : (x == ("__classdict__" : Str)) = false := by decide) : Ev prog w ht n sc ρ (.Subscript (.Name x xp) (.Constant (.int 1) k p0) pos) (kim (.int s.snd)) :=
  Ev.itemT (ds := s.ds) (k := 1) (j := 1) (Ev.var hx hd hn) (Ev.int 1 _) s.at1.1 s.at1.2
theorem Tst.andb {b : Bool} (h1 : Tst prog w ht n sc ρ e1 true) (h2 : Tst prog w ht n sc ρ e2 b) : Tst prog w ht n sc ρ (.BoolOp .And [e1, e2] pos) b := by
  refine Tst.and_t h1 ?_
  cases b with
  | true => exact Tst.and_t h2 Tst.and_nil
  | false => exact Tst.and_f h2
theorem t_neI {a b : Int} {l r : Expr} (hl : Ev prog w ht n sc ρ l (kim (.int a))) (hr : Ev prog w ht n sc ρ r (kim (.int b))) (hm : behindInMarks .NotEq r = false := by with_unfolding_all rfl) : Tst prog w ht n sc ρ (.Compare l [.NotEq] [r] pos) (a != b) :=
  Tst.to (Tst.cmp hl hr (op_ne (sh_int a) (sh_int b)) hm) (by rw [eqv_int]; rfl)
theorem e_eqRange (T : TopX P mg mb ht) {l : List Int} {ds : List PyData} {p3 p4 p5 p6 : Pos} (hx : (x, Ent.vp (im (.list (intL l)))) ∈ ρ) (he : Ev prog w ht n sc ρ e (ksl ds)) (hl : l = upI ds.length) (hz : ds.length ≤ 1000) (h1 : sc.names.lookup (Str.ofString "list") = some NameKind.globalImplicit) (h2 : sc.names.lookup (Str.ofString "range") = some NameKind.globalImplicit) (h3 : sc.names.lookup (Str.ofString "len") = some NameKind.globalImplicit)
    (hs : ∀ env, starEach [e] env = (false, eval e env) :: starEach [] env) (hd : (x == ("__debug__" : Str)) = false := by decide) (hn : (x == ("__classdict__" : Str)) = false := by decide) :
    Ev prog w ht n sc ρ (.Compare (.Name x xp) [.Eq] [.Call (.Name "list" p1) [.Call (.Name "range" p2) [.Call (.Name "len" p3) [e] [] p4] [] p5] [] p6] pos) (kim (.bool true)) := by
  have A := Ev.list_ (p1 := p1) (p2 := p6) T h1 (Ev.range_ (p1 := p2) (p2 := p5) (k := ds.length) T h2 (Ev.len_ (p1 := p3) (p2 := p4) T h3 he hz hs) hz) (by rw [upto_len]; exact hz)
  rw [upto_ints] at A
  refine Ev.to (Ev.cmp (Ev.var hx hd hn) (Ev.list A) (op_eq (sh_ints _) (sh_ints _))) ?_
  rw [hl]
  exact congrArg (fun b => kim (.bool b)) (SeqAt.eqv_refl _ (lay_list lay_int _))
theorem Ex.assignC {α : Type} {f : α → PyData} {un : PyData → α} {xs : List α} {t : α → Bool} {g : α → PyData} {x y : Str} {px py spos : Pos} {ifs : List Expr} {ρin : PyData → Rho} {csc : Scope} {elt iter : Expr} {rest : List Stmt} {po : Post} (es : List PyData) (hes : (xs.filter t).map g = es) (hun : ∀ a, un (f a) = a) (he : Ev prog w ht n sc ρ iter (kit (xs.map f)))
    (free : ∀ y ∈ csc.names, y.2 = .free → sc.names.lookup y.1 = some .cell) (cell : ∀ y ∈ csc.names, y.2 ≠ .cell) (kind : csc.kind = .function) (names : ∀ y ∈ csc.names, y.2 = .local → csc.names.lookup y.1 = some .local) (hx : csc.names.lookup x = some .local)
    (inn : ∀ d, All (fun y => y = (x, .vp (im d)) ∨ (y ∈ ρ ∧ (y.1, NameKind.free) ∈ csc.names ∧ (relS csc sc).names.lookup y.1 = some .cell)) (ρin d))
    (test : ∀ a ∈ xs, TstL prog w ht n (relS csc sc) (ρin (f a)) ifs (t a)) (eltE : ∀ a ∈ xs, t a = true → Ev prog w ht n (relS csc sc) (ρin (f a)) elt (kim (g a))) (size : xs.length ≤ 1000) (hk : Stores sc y) (hρ : Upd y (.vp (im (.list es))) ρ ρ')
    (hsw : ∀ env : Env, env.scope = sc → swapsWith (.ListComp elt [⟨.Name x px, iter, ifs, 0⟩] csc pos) (some (.Name y py)) spos.line env = pure true) (yy : Ex prog w ht n sc ρ' rest po) (hs : ∀ env x, foldedSetIterable iter env x = pure x := by intro _ _; rfl) :
    Ex prog w ht n sc ρ (.Assign [.Name y py] (.ListComp elt [⟨.Name x px, iter, ifs, 0⟩] csc pos) spos :: rest) po := by
  have e : ((xs.map f).filter (fun d => t (un d))).map (fun d => g (un d)) = es := by
    rw [List.filter_map, List.map_map, ← hes]
    congr 1
    · funext a; show g (un (f a)) = g a; rw [hun]
    · congr 1; funext a; show t (un (f a)) = t a; rw [hun]
  have C : CompP prog w ht n sc csc ρ elt x ifs (xs.map f) ρin (fun d => t (un d)) (fun d => g (un d)) := by
    refine ⟨free, cell, kind, names, hx, inn, fun d m => ?_, fun d m ht' => ?_, by rw [List.length_map]; exact size⟩
    · obtain ⟨a, ma, rfl⟩ := List.mem_map.mp m
      rw [hun]; exact test a ma
    · obtain ⟨a, ma, rfl⟩ := List.mem_map.mp m
      rw [hun] at ht' ⊢; exact eltE a ma ht'
  exact Ex.assignN (σ := fun _ => ρ) (R := fun es' => es' = es) (fun es' q => by subst q; exact ⟨ρ', hρ, yy⟩) C.ok (fun es' got => (got_full got).trans e) he hk hs (.inl hsw)
theorem fn_right (T : TopX P mg mb ht) (l : List Stp) (old new : List Int) (hz : l.length ≤ 1000) (hz1 : old.length ≤ 1000) (hz2 : new.length ≤ 1000) (ho : olds l = upI old.length) (hn : news l = upI new.length) (hb : ∀ s ∈ l, s.bad old new = false) (hr : ∀ i j, Stp.keep i j ∈ l → i < old.length ∧ j < new.length) :
    Fn prog w ht (n + 1) (.ref 178) [kim (stps l), kim (.list (intL old)), kim (.list (intL new))] (kim (.bool true)) := by
  refine (F178 P).fn (ps := [im (stps l), im (.list (intL old)), im (.list (intL new))]) T rfl (show Ex _ _ _ _ _ [("script", .vp (im (stps l))), ("old", .vp (im (.list (intL old)))), ("new", .vp (im (.list (intL new))))] _ _ from ?_)
  refine Ex.assignC (intL (olds l)) (by simp [intL, olds, List.map_map]) (f := Stp.d) (g := fun s => .int s.snd) (un := unStp) (xs := l) (t := Stp.nIns) (ρin := fun d => [("step", .vp (im d))]) unStp_d (Ev.le (Ev.var (by (repeat (first | with_reducible exact List.mem_cons_self | with_reducible refine List.mem_cons_of_mem _ ?_)))) (kim_kit_list _)) (by exact of_decide_eq_true (by kernel_rfl)) (by exact of_decide_eq_true (by kernel_rfl)) (by kernel_rfl) (by exact of_decide_eq_true (by kernel_rfl)) (by kernel_rfl) (fun d => ⟨.inl rfl, trivial⟩)
    (fun s m => TstL.one (t_wordN (by (repeat (first | with_reducible exact List.mem_cons_self | with_reducible refine List.mem_cons_of_mem _ ?_))) rfl)) (fun s m _ => Ev.step1 (by (repeat (first | with_reducible exact List.mem_cons_self | with_reducible refine List.mem_cons_of_mem _ ?_)))) hz (.inl (by kernel_rfl)) (by (repeat (first | exact Upd.nil | (with_reducible apply Upd.hit) | ((with_reducible apply Upd.miss); (focus decide))))) (by (intro env h1; cases env; dsimp only at h1; subst h1; kernel_rfl)) ?_
  refine Ex.assignC (intL (news l)) (by simp [intL, news, List.map_map]) (f := Stp.d) (g := fun s => .int s.last) (un := unStp) (xs := l) (t := Stp.nDel) (ρin := fun d => [("step", .vp (im d))]) unStp_d (Ev.le (Ev.var (by (repeat (first | with_reducible exact List.mem_cons_self | with_reducible refine List.mem_cons_of_mem _ ?_)))) (kim_kit_list _)) (by exact of_decide_eq_true (by kernel_rfl)) (by exact of_decide_eq_true (by kernel_rfl)) (by kernel_rfl) (by exact of_decide_eq_true (by kernel_rfl)) (by kernel_rfl) (fun d => ⟨.inl rfl, trivial⟩)
    (fun s m => TstL.one (t_wordN (by (repeat (first | with_reducible exact List.mem_cons_self | with_reducible refine List.mem_cons_of_mem _ ?_))) rfl)) (fun s m _ => Ev.stepL (by (repeat (first | with_reducible exact List.mem_cons_self | with_reducible refine List.mem_cons_of_mem _ ?_)))) hz (.inl (by kernel_rfl)) (by (repeat (first | exact Upd.nil | (with_reducible apply Upd.hit) | ((with_reducible apply Upd.miss); (focus decide))))) (by (intro env h1; cases env; dsimp only at h1; subst h1; kernel_rfl)) ?_
  refine Ex.assignC [] (by rw [List.filter_eq_nil_iff.mpr fun s m => by rw [hb s m]; decide]; rfl) (f := Stp.d) (g := Stp.d) (un := unStp) (xs := l) (t := Stp.bad old new) (ρin := fun d => [("step", .vp (im d)), ("old", .vp (im (.list (intL old)))), ("new", .vp (im (.list (intL new))))]) unStp_d (Ev.le (Ev.var (by (repeat (first | with_reducible exact List.mem_cons_self | with_reducible refine List.mem_cons_of_mem _ ?_)))) (kim_kit_list _)) (by exact of_decide_eq_true (by kernel_rfl)) (by exact of_decide_eq_true (by kernel_rfl)) (by kernel_rfl) (by exact of_decide_eq_true (by kernel_rfl)) (by kernel_rfl) (fun d => ⟨.inl rfl, .inr ⟨by (repeat (first | with_reducible exact List.mem_cons_self | with_reducible refine List.mem_cons_of_mem _ ?_)), by exact of_decide_eq_true (by kernel_rfl), by kernel_rfl⟩, .inr ⟨by (repeat (first | with_reducible exact List.mem_cons_self | with_reducible refine List.mem_cons_of_mem _ ?_)), by exact of_decide_eq_true (by kernel_rfl), by kernel_rfl⟩, trivial⟩)
    (fun s m => TstL.one (by
      cases s with
      | keep i j =>
        obtain ⟨h1, h2⟩ := hr i j m
        exact Tst.andb (t_word (s := .keep i j) (by (repeat (first | with_reducible exact List.mem_cons_self | with_reducible refine List.mem_cons_of_mem _ ?_))) (is_keep_keep i j)) (t_neI (Ev.itemJ (j := i) (Ev.sl (Ev.var (by (repeat (first | with_reducible exact List.mem_cons_self | with_reducible refine List.mem_cons_of_mem _ ?_))))) (Ev.step1 (s := .keep i j) (by (repeat (first | with_reducible exact List.mem_cons_self | with_reducible refine List.mem_cons_of_mem _ ?_)))) (by simpa [intL] using hz1) (intL_at h1)) (Ev.itemJ (j := j) (Ev.sl (Ev.var (by (repeat (first | with_reducible exact List.mem_cons_self | with_reducible refine List.mem_cons_of_mem _ ?_))))) (Ev.itemT (ds := (Stp.keep i j).ds) (k := 2) (j := 2) (Ev.var (by (repeat (first | with_reducible exact List.mem_cons_self | with_reducible refine List.mem_cons_of_mem _ ?_)))) (Ev.int _ _) rfl rfl) (by simpa [intL] using hz2) (intL_at h2)))
      | draw i j => exact Tst.and_f (t_word (s := .draw i j) (by (repeat (first | with_reducible exact List.mem_cons_self | with_reducible refine List.mem_cons_of_mem _ ?_))) (is_draw_keep i j))
      | del i => exact Tst.and_f (t_word (s := .del i) (by (repeat (first | with_reducible exact List.mem_cons_self | with_reducible refine List.mem_cons_of_mem _ ?_))) (is_del_keep i))
      | ins j => exact Tst.and_f (t_word (s := .ins j) (by (repeat (first | with_reducible exact List.mem_cons_self | with_reducible refine List.mem_cons_of_mem _ ?_))) (is_ins_keep j)))) (fun s m _ => Ev.var (by (repeat (first | with_reducible exact List.mem_cons_self | with_reducible refine List.mem_cons_of_mem _ ?_)))) hz (.inl (by kernel_rfl)) (by (repeat (first | exact Upd.nil | (with_reducible apply Upd.hit) | ((with_reducible apply Upd.miss); (focus decide))))) (by (intro env h1; cases env; dsimp only at h1; subst h1; kernel_rfl)) ?_
  refine Ex.assignC [] (by rw [List.filter_eq_nil_iff.mpr fun s m => by decide]; rfl) (f := Stp.d) (g := Stp.d) (un := unStp) (xs := l) (t := fun _ => false) (ρin := fun d => [("step", .vp (im d))]) unStp_d (Ev.le (Ev.var (by (repeat (first | with_reducible exact List.mem_cons_self | with_reducible refine List.mem_cons_of_mem _ ?_)))) (kim_kit_list _)) (by exact of_decide_eq_true (by kernel_rfl)) (by exact of_decide_eq_true (by kernel_rfl)) (by kernel_rfl) (by exact of_decide_eq_true (by kernel_rfl)) (by kernel_rfl) (fun d => ⟨.inl rfl, trivial⟩)
    (fun s m => TstL.one (Tst.to (Tst.cmp (Ev.step0 (by (repeat (first | with_reducible exact List.mem_cons_self | with_reducible refine List.mem_cons_of_mem _ ?_)))) (EvS.tuple (ds := [.str (Str.ofString "keep"), .str (Str.ofString "draw"), .str (Str.ofString "delete"), .str (Str.ofString "insert")]) (EvS.cons (Ev.str _ _) (EvS.cons (Ev.str _ _) (EvS.cons (Ev.str _ _) (EvS.cons (Ev.str _ _) EvS.nil))))) (op_nin (by decide +kernel) s.lay (by show 0 ≤ 50; decide))) (by rw [s.in_all]; rfl)))
    (fun s m _ => Ev.var (by (repeat (first | with_reducible exact List.mem_cons_self | with_reducible refine List.mem_cons_of_mem _ ?_)))) hz (.inl (by kernel_rfl)) (by (repeat (first | exact Upd.nil | (with_reducible apply Upd.hit) | ((with_reducible apply Upd.miss); (focus decide))))) (by (intro env h1; cases env; dsimp only at h1; subst h1; kernel_rfl)) ?_
  have nilE : ∀ {x : Str} {xp p1 p2 : Pos} {ρ : Rho}, (x, Ent.vp (im (.list []))) ∈ ρ → (x == ("__debug__" : Str)) = false → (x == ("__classdict__" : Str)) = false → Ev prog w ht n (scA P 178) ρ (.Compare (.Name x xp) [.Eq] [.List [] p1] p2) (kim (.bool true)) := fun hx hd hn =>
    Ev.to (Ev.cmp (Ev.var hx hd hn) (Ev.list (EvS.lst (ds := []) EvS.nil)) (op_eq (by decide +kernel) (by decide +kernel))) rfl
  have lo : (intL old).length = old.length := by simp [intL]
  have ln : (intL new).length = new.length := by simp [intL]
  exact Ex.ret (Ev.and_t (e_eqRange (ds := intL old) T (by (repeat (first | with_reducible exact List.mem_cons_self | with_reducible refine List.mem_cons_of_mem _ ?_))) (Ev.sl (Ev.var (by (repeat (first | with_reducible exact List.mem_cons_self | with_reducible refine List.mem_cons_of_mem _ ?_))))) (by rw [lo]; exact ho) (by rw [lo]; exact hz1) (by kernel_rfl) (by kernel_rfl) (by kernel_rfl) (fun _ => rfl)) (Ev.and_t (e_eqRange (ds := intL new) T (by (repeat (first | with_reducible exact List.mem_cons_self | with_reducible refine List.mem_cons_of_mem _ ?_))) (Ev.sl (Ev.var (by (repeat (first | with_reducible exact List.mem_cons_self | with_reducible refine List.mem_cons_of_mem _ ?_))))) (by rw [ln]; exact hn) (by rw [ln]; exact hz2) (by kernel_rfl) (by kernel_rfl) (by kernel_rfl) (fun _ => rfl)) (Ev.and_t (nilE (by (repeat (first | with_reducible exact List.mem_cons_self | with_reducible refine List.mem_cons_of_mem _ ?_))) (by decide) (by decide)) (Ev.and1 (nilE (by (repeat (first | with_reducible exact List.mem_cons_self | with_reducible refine List.mem_cons_of_mem _ ?_))) (by decide) (by decide))))))
end
noncomputable def scrs (old new : List Int) : Nat → Nat → Nat → List (List Stp)
  | 0, near, far => if near = old.length ∧ far = new.length then [[]] else []
  | k + 1, near, far => (if near = old.length ∧ far = new.length then [[]] else [])
    ++ (if near < old.length then (scrs old new k (near + 1) far).map (Stp.del near :: ·) else [])
    ++ (if far < new.length then (scrs old new k near (far + 1)).map (Stp.ins far :: ·) else [])
    ++ (if near < old.length ∧ far < new.length then (scrs old new k (near + 1) (far + 1)).map ((if old.getD near 0 == new.getD far 0 then Stp.keep near far else Stp.draw near far) :: ·) else [])
theorem scrs_len (old new : List Int) : ∀ k near far, near ≤ old.length → far ≤ new.length → (scrs old new k near far).length ≤ 3 ^ k
  | 0, near, far, _, _ => by unfold scrs; split <;> simp
  | k + 1, near, far, h1, h2 => by
    have a := scrs_len old new k (near + 1) far
    have b := scrs_len old new k near (far + 1)
    have c := scrs_len old new k (near + 1) (far + 1)
    have pos : 1 ≤ 3 ^ k := Nat.one_le_pow _ _ (by decide)
    have e : 3 ^ (k + 1) = 3 ^ k * 3 := Nat.pow_succ ..
    unfold scrs
    rw [List.length_append, List.length_append, List.length_append]
    by_cases q : near = old.length ∧ far = new.length
    · rw [if_pos q, if_neg (by (first | assumption | exact Nat.le_refl _ | exact Nat.add_le_add_left (by decide) _ | exact Nat.le_trans (by assumption) (by decide) | omega)), if_neg (by (first | assumption | exact Nat.le_refl _ | exact Nat.add_le_add_left (by decide) _ | exact Nat.le_trans (by assumption) (by decide) | omega)), if_neg (by (first | assumption | exact Nat.le_refl _ | exact Nat.add_le_add_left (by decide) _ | exact Nat.le_trans (by assumption) (by decide) | omega))]
      simp; (first | assumption | exact Nat.le_refl _ | exact Nat.add_le_add_left (by decide) _ | exact Nat.le_trans (by assumption) (by decide) | omega)
    · rw [if_neg q]
      have A : (if near < old.length then (scrs old new k (near + 1) far).map (Stp.del near :: ·) else []).length ≤ 3 ^ k := by
        split
        · rw [List.length_map]; exact a (by (first | assumption | exact Nat.le_refl _ | exact Nat.add_le_add_left (by decide) _ | exact Nat.le_trans (by assumption) (by decide) | omega)) h2
        · simp
      have B : (if far < new.length then (scrs old new k near (far + 1)).map (Stp.ins far :: ·) else []).length ≤ 3 ^ k := by
        split
        · rw [List.length_map]; exact b h1 (by (first | assumption | exact Nat.le_refl _ | exact Nat.add_le_add_left (by decide) _ | exact Nat.le_trans (by assumption) (by decide) | omega))
        · simp
      have C : (if near < old.length ∧ far < new.length then (scrs old new k (near + 1) (far + 1)).map ((if old.getD near 0 == new.getD far 0 then Stp.keep near far else Stp.draw near far) :: ·) else []).length ≤ 3 ^ k := by
        split
        · rw [List.length_map]; exact c (by (first | assumption | exact Nat.le_refl _ | exact Nat.add_le_add_left (by decide) _ | exact Nat.le_trans (by assumption) (by decide) | omega)) (by (first | assumption | exact Nat.le_refl _ | exact Nat.add_le_add_left (by decide) _ | exact Nat.le_trans (by assumption) (by decide) | omega))
        · simp
      simp only [List.length_nil]
      (first | assumption | exact Nat.le_refl _ | exact Nat.add_le_add_left (by decide) _ | exact Nat.le_trans (by assumption) (by decide) | omega)
theorem scrs_long (old new : List Int) : ∀ k near far, ∀ s ∈ scrs old new k near far, s.length ≤ k
  | 0, near, far, s, m => by
    unfold scrs at m
    split at m
    · rw [List.mem_singleton.mp m]; exact Nat.le_refl _
    · cases m
  | k + 1, near, far, s, m => by
    unfold scrs at m
    have help : ∀ {c : Prop} [Decidable c] {a b : Nat} {x : Stp}, s ∈ (if c then (scrs old new k a b).map (x :: ·) else []) → s.length ≤ k + 1 := by
      intro c _ a b x m
      split at m
      · obtain ⟨r, mr, rfl⟩ := List.mem_map.mp m
        have := scrs_long old new k a b r mr
        simp; (first | assumption | exact Nat.le_refl _ | exact Nat.add_le_add_left (by decide) _ | exact Nat.le_trans (by assumption) (by decide) | omega)
      · cases m
    rcases List.mem_append.mp m with m | m
    · rcases List.mem_append.mp m with m | m
      · rcases List.mem_append.mp m with m | m
        · split at m
          · rw [List.mem_singleton.mp m]; exact Nat.zero_le _
          · cases m
        · exact help m
      · exact help m
    · exact help m
noncomputable def unStps : PyData → List Stp
  | .list ds => ds.map unStp
  | _ => []
theorem unStps_d (l : List Stp) : unStps (stps l) = l := by
  show (l.map Stp.d).map unStp = l
  rw [List.map_map]
  have : (unStp ∘ Stp.d) = id := funext unStp_d
  rw [this, List.map_id]
noncomputable abbrev scrD (l : List (List Stp)) : List PyData := l.map stps
section
variable {P : Params} {mg mb : Str → Option Value} {prog : Program} {w : World} {ht : Heap} {n : Nat} {sc : Scope} {ρ ρ' ρ₁ ρ₂ : Rho} {x : Str} {xp pos apos p0 p1 p2 : Pos} {d : PyData} {e e1 e2 : Expr} {ds : List PyData} {a m k k1 : Nat} {t : Expr} {b : List Stmt} {rest : List Stmt} {po : Post}
theorem Ex.ifJ {c : Bool} (h : Tst prog w ht n sc ρ t c) (x : c = true → Ex prog w ht n sc ρ b (.next ρ₂)) (z : c = false → ∀ y ∈ ρ₂, y ∈ ρ) (y : Ex prog w ht n sc ρ₂ rest po) : Ex prog w ht n sc ρ (.If t b [] pos :: rest) po := by
  cases c with
  | true => exact Ex.if_n h (x rfl) y
  | false => exact Ex.skip h (Ex.weak (z rfl) y)
theorem t_ltN {i j : Nat} {l r : Expr} {c : Bool} (hl : Ev prog w ht n sc ρ l (kim (.int (i : Int)))) (hr : Ev prog w ht n sc ρ r (kim (.int (j : Int)))) (hc : decide (i < j) = c) (hm : behindInMarks .Lt r = false := by with_unfolding_all rfl) : Tst prog w ht n sc ρ (.Compare l [.Lt] [r] pos) c :=
  Tst.to (Tst.cmp hl hr (op_lt _ _) hm) (by rw [← hc]; simp)
theorem t_eqN {i j : Nat} {l r : Expr} {c : Bool} (hl : Ev prog w ht n sc ρ l (kim (.int (i : Int)))) (hr : Ev prog w ht n sc ρ r (kim (.int (j : Int)))) (hc : decide (i = j) = c) (hm : behindInMarks .Eq r = false := by with_unfolding_all rfl) : Tst prog w ht n sc ρ (.Compare l [.Eq] [r] pos) c :=
  t_eqI hl hr (by rw [← hc, Bool.eq_iff_iff, beq_iff_eq, decide_eq_true_iff, Int.natCast_inj]) hm
theorem Tst.andc {c1 c2 : Bool} (h1 : Tst prog w ht n sc ρ e1 c1) (h2 : Tst prog w ht n sc ρ e2 c2) : Tst prog w ht n sc ρ (.BoolOp .And [e1, e2] pos) (c1 && c2) := by
  cases c1 with
  | true => exact Tst.andb h1 h2
  | false => exact Tst.and_f h1
theorem Ev.inc {i : Nat} {l : Expr} (hl : Ev prog w ht n sc ρ l (kim (.int (i : Int)))) : Ev prog w ht n sc ρ (.BinOp l .Add (.Constant (.int 1) k p0) pos) (kim (.int ((i + 1 : Nat) : Int))) :=
  Ev.to (Ev.bin hl (Ev.int 1 _) (op_add _ _)) (by rw [Int.natCast_add]; rfl)
theorem Ev.growC {csc : Scope} {ρin : PyData → Rho} {tup iter : Expr} {A F : List (List Stp)} {s : Stp} {p3 p4 p5 p6 : Pos} (he : Ev prog w ht n sc ρ iter (kit (scrD A)))
    (free : ∀ y ∈ csc.names, y.2 = .free → sc.names.lookup y.1 = some .cell) (cell : ∀ y ∈ csc.names, y.2 ≠ .cell) (kind : csc.kind = .function) (names : ∀ y ∈ csc.names, y.2 = .local → csc.names.lookup y.1 = some .local) (hx : csc.names.lookup (Str.ofString "rest") = some .local)
    (inn : ∀ d, All (fun y => y = (Str.ofString "rest", .vp (im d)) ∨ (y ∈ ρ ∧ (y.1, NameKind.free) ∈ csc.names ∧ (relS csc sc).names.lookup y.1 = some .cell)) (ρin d))
    (hrest : ∀ d, (Str.ofString "rest", Ent.vp (im d)) ∈ ρin d) (htup : ∀ d, Ev prog w ht n (relS csc sc) (ρin d) tup (kim s.d)) (hF : (Str.ofString "found", Ent.vp (im (.list (scrD F)))) ∈ ρ) (h1 : F.length + A.length ≤ 1000) (h2 : ∀ r ∈ A, r.length ≤ 900)
    (hs : ∀ env x, foldedSetIterable iter env x = pure x := by intro _ _; rfl) (ht1 : ∀ env, starEach [tup] env = (false, eval tup env) :: starEach [] env := by intro _; rfl) :
    Ev prog w ht n sc ρ (.BinOp (.Name "found" p0) .Add (.ListComp (.BinOp (.List [tup] p1) .Add (.Name "rest" p2) p3) [⟨.Name "rest" p4, iter, [], 0⟩] csc p5) p6) (kim (.list (scrD (F ++ A.map (s :: ·))))) := by
  have C := CompP.of (f := stps) (un := unStps) (xs := A) (t := fun _ => true) (g := fun r => stps (s :: r)) (elt := .BinOp (.List [tup] p1) .Add (.Name "rest" p2) p3) (ifs := []) (px := p4) (pos := p5) (ρin := ρin) unStps_d he free cell kind names hx inn (fun _ _ => TstL.nil)
    (fun r m _ => Ev.list (Ev.bin (Ev.fsl (EvS.lst (ds := [s.d]) (EvS.cons (htup _) EvS.nil ht1) (hz := by simp))) (Ev.sl (Ev.var (d := stps r) (hrest _) (by decide) (by decide))) (op_addL [s.d] (r.map Stp.d) (by have := h2 r m; simp; (first | assumption | exact Nat.le_refl _ | exact Nat.add_le_add_left (by decide) _ | exact Nat.le_trans (by assumption) (by decide) | omega))))) (by (first | assumption | exact Nat.le_refl _ | exact Nat.add_le_add_left (by decide) _ | exact Nat.le_trans (by assumption) (by decide) | omega)) hs
  have e : (A.filter fun _ => true).map (fun r => stps (s :: r)) = scrD (A.map (s :: ·)) := by
    rw [List.filter_eq_self.mpr fun _ _ => rfl]; simp [scrD, List.map_map]
  rw [e] at C
  have B := Ev.list (Ev.bin (pos := p6) (Ev.sl (Ev.var (x := Str.ofString "found") (d := .list (scrD F)) (pos := p0) hF (by decide) (by decide))) (Ev.fsl C) (op_addL (scrD F) (scrD (A.map (s :: ·))) (by simpa using h1)))
  exact Ev.to B (by simp [scrD])
theorem fn_scrs1 (T : TopX P mg mb ht) (old new : List Int) (hz1 : old.length ≤ 900) (hz2 : new.length ≤ 900) (near far : Nat) (h1 : near ≤ old.length) (h2 : far ≤ new.length) (A B C : List (List Stp)) (lA : A.length ≤ 243) (lB : B.length ≤ 243) (lC : C.length ≤ 243) (mA : ∀ r ∈ A, r.length ≤ 900) (mB : ∀ r ∈ B, r.length ≤ 900) (mC : ∀ r ∈ C, r.length ≤ 900)
    (hA : near < old.length → Fn prog w ht n (.ref 173) [kim (.list (intL old)), kim (.list (intL new)), kim (.int ((near + 1 : Nat) : Int)), kim (.int (far : Int))] (kim (.list (scrD A))))
    (hB : far < new.length → Fn prog w ht n (.ref 173) [kim (.list (intL old)), kim (.list (intL new)), kim (.int (near : Int)), kim (.int ((far + 1 : Nat) : Int))] (kim (.list (scrD B))))
    (hC : near < old.length → far < new.length → Fn prog w ht n (.ref 173) [kim (.list (intL old)), kim (.list (intL new)), kim (.int ((near + 1 : Nat) : Int)), kim (.int ((far + 1 : Nat) : Int))] (kim (.list (scrD C)))) :
    Fn prog w ht (n + 1) (.ref 173) [kim (.list (intL old)), kim (.list (intL new)), kim (.int (near : Int)), kim (.int (far : Int))] (kim (.list (scrD ((if near = old.length ∧ far = new.length then [[]] else [])
      ++ (if near < old.length then A.map (Stp.del near :: ·) else []) ++ (if far < new.length then B.map (Stp.ins far :: ·) else [])
      ++ (if near < old.length ∧ far < new.length then C.map ((if old.getD near 0 == new.getD far 0 then Stp.keep near far else Stp.draw near far) :: ·) else []))))) := by
  refine (F173 P).fn (ps := [im (.list (intL old)), im (.list (intL new)), im (.int near), im (.int far)]) T rfl (show Ex _ _ _ _ _ [("old", .vp (im (.list (intL old)))), ("new", .vp (im (.list (intL new)))), ("near", .vp (im (.int near))), ("far", .vp (im (.int far)))] _ _ from ?_)
  have lo : (intL old).length = old.length := by simp [intL]
  have ln : (intL new).length = new.length := by simp [intL]
  have LO : ∀ {ρ : Rho} {p1 p2 p3 : Pos}, (Str.ofString "old", Ent.vp (im (.list (intL old)))) ∈ ρ → Ev prog w ht n (scA P 173) ρ (.Call (.Name "len" p1) [.Name "old" p2] [] p3) (kim (.int (old.length : Int))) := fun hm =>
    Ev.to (Ev.len_ (ds := intL old) T (by kernel_rfl) (Ev.sl (Ev.var hm)) (by rw [lo]; (first | assumption | exact Nat.le_refl _ | exact Nat.add_le_add_left (by decide) _ | exact Nat.le_trans (by assumption) (by decide) | omega))) (by rw [lo])
  have LN : ∀ {ρ : Rho} {p1 p2 p3 : Pos}, (Str.ofString "new", Ent.vp (im (.list (intL new)))) ∈ ρ → Ev prog w ht n (scA P 173) ρ (.Call (.Name "len" p1) [.Name "new" p2] [] p3) (kim (.int (new.length : Int))) := fun hm =>
    Ev.to (Ev.len_ (ds := intL new) T (by kernel_rfl) (Ev.sl (Ev.var hm)) (by rw [ln]; (first | assumption | exact Nat.le_refl _ | exact Nat.add_le_add_left (by decide) _ | exact Nat.le_trans (by assumption) (by decide) | omega))) (by rw [ln])
  obtain ⟨F0, hF0⟩ : ∃ F0 : List (List Stp), F0 = (if near = old.length ∧ far = new.length then [[]] else []) := ⟨_, rfl⟩
  have lF0 : F0.length ≤ 1 := by rw [hF0]; split <;> simp
  rw [← hF0]
  have rcall : ∀ {ρ : Rho} {p1 p2 p3 p4 : Pos} {ea eb : Expr} {na fa : Nat} {A : List (List Stp)}, (Str.ofString "old", Ent.vp (im (.list (intL old)))) ∈ ρ → (Str.ofString "new", Ent.vp (im (.list (intL new)))) ∈ ρ → Ev prog w ht n (scA P 173) ρ ea (kim (.int (na : Int))) → Ev prog w ht n (scA P 173) ρ eb (kim (.int (fa : Int))) →
      Fn prog w ht n (.ref 173) [kim (.list (intL old)), kim (.list (intL new)), kim (.int (na : Int)), kim (.int (fa : Int))] (kim (.list (scrD A))) →
      (∀ env, starEach [.Name "old" p2, .Name "new" p3, ea, eb] env = (false, eval (.Name "old" p2) env) :: starEach [.Name "new" p3, ea, eb] env) → (∀ env, starEach [.Name "new" p3, ea, eb] env = (false, eval (.Name "new" p3) env) :: starEach [ea, eb] env) → (∀ env, starEach [ea, eb] env = (false, eval ea env) :: starEach [eb] env) → (∀ env, starEach [eb] env = (false, eval eb env) :: starEach [] env) →
      (∀ env, (backTo p4 (starEach [.Name "new" p3, ea, eb] env)).any (·.1) = false) →
      Ev prog w ht n (scA P 173) ρ (.Call (.Name "_law_scripts" p1) [.Name "old" p2, .Name "new" p3, ea, eb] [] p4) (kit (scrD A)) := by
    intro ρ p1 p2 p3 p4 ea eb na fa A m1 m2 e1 e2 h s1 s2 s3 s4 s5
    exact Ev.le (Ev.call (Ev.gfn T (v := .ref 173) (by kernel_rfl) (by kernel_rfl)) (Kpr.fn (fd := fnAt (KK P) 173) (T.k _ _ rfl) rfl) (EvS.cons (Ev.var m1) (EvS.cons (Ev.var m2) (EvS.cons e1 (EvS.cons e2 EvS.nil s4) s3) s2) s1) h s1 s5) (kim_kit_list _)
  refine Ex.assignI (d := .list (scrD F0)) ?_ (.inl (by kernel_rfl)) (by (repeat (first | exact Upd.nil | (with_reducible apply Upd.hit) | ((with_reducible apply Upd.miss); (focus decide))))) ?_
  · have tst := fun (p1 p2 p3 p4 p5 p6 p7 p8 p9 p10 p11 : Pos) (ρ : Rho) (m1 : (Str.ofString "near", Ent.vp (im (.int near))) ∈ ρ) (m2 : (Str.ofString "far", Ent.vp (im (.int far))) ∈ ρ) (m3 : (Str.ofString "old", Ent.vp (im (.list (intL old)))) ∈ ρ) (m4 : (Str.ofString "new", Ent.vp (im (.list (intL new)))) ∈ ρ) =>
      Tst.andc (pos := p1) (t_eqN (pos := p2) (Ev.var (pos := p3) m1) (LO (p1 := p4) (p2 := p5) (p3 := p6) m3) rfl) (t_eqN (pos := p7) (Ev.var (pos := p8) m2) (LN (p1 := p9) (p2 := p10) (p3 := p11) m4) rfl)
    by_cases q : near = old.length ∧ far = new.length
    · rw [hF0, if_pos q]
      exact Ev.ite_t (Tst.to (tst _ _ _ _ _ _ _ _ _ _ _ _ (by (repeat (first | with_reducible exact List.mem_cons_self | with_reducible refine List.mem_cons_of_mem _ ?_))) (by (repeat (first | with_reducible exact List.mem_cons_self | with_reducible refine List.mem_cons_of_mem _ ?_))) (by (repeat (first | with_reducible exact List.mem_cons_self | with_reducible refine List.mem_cons_of_mem _ ?_))) (by (repeat (first | with_reducible exact List.mem_cons_self | with_reducible refine List.mem_cons_of_mem _ ?_)))) (by rw [decide_eq_true q.1, decide_eq_true q.2]; rfl)) (Ev.list (EvS.lst (ds := [.list []]) (EvS.cons (Ev.list (EvS.lst (ds := []) EvS.nil)) EvS.nil)))
    · rw [hF0, if_neg q]
      exact Ev.ite_f (Tst.to (tst _ _ _ _ _ _ _ _ _ _ _ _ (by (repeat (first | with_reducible exact List.mem_cons_self | with_reducible refine List.mem_cons_of_mem _ ?_))) (by (repeat (first | with_reducible exact List.mem_cons_self | with_reducible refine List.mem_cons_of_mem _ ?_))) (by (repeat (first | with_reducible exact List.mem_cons_self | with_reducible refine List.mem_cons_of_mem _ ?_))) (by (repeat (first | with_reducible exact List.mem_cons_self | with_reducible refine List.mem_cons_of_mem _ ?_)))) (by
        by_cases q1 : near = old.length
        · rw [decide_eq_true q1, decide_eq_false fun q2 => q ⟨q1, q2⟩]; rfl
        · rw [decide_eq_false q1]; rfl)) (Ev.list (EvS.lst (ds := []) EvS.nil))
  obtain ⟨F1, hF1⟩ : ∃ F1 : List (List Stp), F1 = F0 ++ (if near < old.length then A.map (Stp.del near :: ·) else []) := ⟨_, rfl⟩
  obtain ⟨F2, hF2⟩ : ∃ F2 : List (List Stp), F2 = F1 ++ (if far < new.length then B.map (Stp.ins far :: ·) else []) := ⟨_, rfl⟩
  obtain ⟨F3, hF3⟩ : ∃ F3 : List (List Stp), F3 = F2 ++ (if near < old.length ∧ far < new.length then C.map ((if old.getD near 0 == new.getD far 0 then Stp.keep near far else Stp.draw near far) :: ·) else []) := ⟨_, rfl⟩
  have lF1 : F1.length ≤ 244 := by
    rw [hF1, List.length_append]
    split
    · rw [List.length_map]; (first | assumption | exact Nat.le_refl _ | exact Nat.add_le_add_left (by decide) _ | exact Nat.le_trans (by assumption) (by decide) | omega)
    · simp; (first | assumption | exact Nat.le_refl _ | exact Nat.add_le_add_left (by decide) _ | exact Nat.le_trans (by assumption) (by decide) | omega)
  have lF2 : F2.length ≤ 487 := by
    rw [hF2, List.length_append]
    split
    · rw [List.length_map]; (first | assumption | exact Nat.le_refl _ | exact Nat.add_le_add_left (by decide) _ | exact Nat.le_trans (by assumption) (by decide) | omega)
    · simp; (first | assumption | exact Nat.le_refl _ | exact Nat.add_le_add_left (by decide) _ | exact Nat.le_trans (by assumption) (by decide) | omega)
  rw [← hF1, ← hF2, ← hF3]
  refine Ex.ifJ (ρ₂ := [("old", .vp (im (.list (intL old)))), ("new", .vp (im (.list (intL new)))), ("near", .vp (im (.int near))), ("far", .vp (im (.int far))), ("found", .vp (im (.list (scrD F1))))]) (t_ltN (Ev.var (by (repeat (first | with_reducible exact List.mem_cons_self | with_reducible refine List.mem_cons_of_mem _ ?_)))) (LO (by (repeat (first | with_reducible exact List.mem_cons_self | with_reducible refine List.mem_cons_of_mem _ ?_)))) rfl) (fun q => ?_) (fun q => ?_) ?_
  · have q := of_decide_eq_true q
    rw [hF1, if_pos q]
    exact Ex.assignI (d := .list (scrD (F0 ++ A.map (Stp.del near :: ·)))) (Ev.growC (s := .del near) (ρin := fun d => [("rest", .vp (im d)), ("near", .vp (im (.int near)))]) (rcall (by (repeat (first | with_reducible exact List.mem_cons_self | with_reducible refine List.mem_cons_of_mem _ ?_))) (by (repeat (first | with_reducible exact List.mem_cons_self | with_reducible refine List.mem_cons_of_mem _ ?_))) (Ev.inc (Ev.var (by (repeat (first | with_reducible exact List.mem_cons_self | with_reducible refine List.mem_cons_of_mem _ ?_))))) (Ev.var (by (repeat (first | with_reducible exact List.mem_cons_self | with_reducible refine List.mem_cons_of_mem _ ?_)))) (hA q) (fun _ => rfl) (fun _ => rfl) (fun _ => rfl) (fun _ => rfl) (fun _ => rfl))
      (by exact of_decide_eq_true (by kernel_rfl)) (by exact of_decide_eq_true (by kernel_rfl)) (by kernel_rfl) (by exact of_decide_eq_true (by kernel_rfl)) (by kernel_rfl) (fun d => ⟨.inl rfl, .inr ⟨by (repeat (first | with_reducible exact List.mem_cons_self | with_reducible refine List.mem_cons_of_mem _ ?_)), by exact of_decide_eq_true (by kernel_rfl), by kernel_rfl⟩, trivial⟩) (fun d => by (repeat (first | with_reducible exact List.mem_cons_self | with_reducible refine List.mem_cons_of_mem _ ?_))) (fun d => EvS.tuple (ds := (Stp.del near).ds) (EvS.cons (Ev.str _ _) (EvS.cons (Ev.var (by (repeat (first | with_reducible exact List.mem_cons_self | with_reducible refine List.mem_cons_of_mem _ ?_)))) EvS.nil)) (hz := by show 2 ≤ 1000; decide)) (by (repeat (first | with_reducible exact List.mem_cons_self | with_reducible refine List.mem_cons_of_mem _ ?_))) (by (first | assumption | exact Nat.le_refl _ | exact Nat.add_le_add_left (by decide) _ | exact Nat.le_trans (by assumption) (by decide) | omega)) mA) (.inl (by kernel_rfl)) (by (repeat (first | exact Upd.nil | (with_reducible apply Upd.hit) | ((with_reducible apply Upd.miss); (focus decide))))) Ex.nil0
  · rw [hF1, if_neg (of_decide_eq_false q), List.append_nil]
    (refine sub_of_all ?_; repeat (first | exact True.intro | refine And.intro (by (repeat (first | with_reducible exact List.mem_cons_self | with_reducible refine List.mem_cons_of_mem _ ?_))) ?_))
  refine Ex.ifJ (ρ₂ := [("old", .vp (im (.list (intL old)))), ("new", .vp (im (.list (intL new)))), ("near", .vp (im (.int near))), ("far", .vp (im (.int far))), ("found", .vp (im (.list (scrD F2))))]) (t_ltN (Ev.var (by (repeat (first | with_reducible exact List.mem_cons_self | with_reducible refine List.mem_cons_of_mem _ ?_)))) (LN (by (repeat (first | with_reducible exact List.mem_cons_self | with_reducible refine List.mem_cons_of_mem _ ?_)))) rfl) (fun q => ?_) (fun q => ?_) ?_
  · have q := of_decide_eq_true q
    rw [hF2, if_pos q]
    exact Ex.assignI (d := .list (scrD (F1 ++ B.map (Stp.ins far :: ·)))) (Ev.growC (s := .ins far) (ρin := fun d => [("rest", .vp (im d)), ("far", .vp (im (.int far)))]) (rcall (by (repeat (first | with_reducible exact List.mem_cons_self | with_reducible refine List.mem_cons_of_mem _ ?_))) (by (repeat (first | with_reducible exact List.mem_cons_self | with_reducible refine List.mem_cons_of_mem _ ?_))) (Ev.var (by (repeat (first | with_reducible exact List.mem_cons_self | with_reducible refine List.mem_cons_of_mem _ ?_)))) (Ev.inc (Ev.var (by (repeat (first | with_reducible exact List.mem_cons_self | with_reducible refine List.mem_cons_of_mem _ ?_))))) (hB q) (fun _ => rfl) (fun _ => rfl) (fun _ => rfl) (fun _ => rfl) (fun _ => rfl))
      (by exact of_decide_eq_true (by kernel_rfl)) (by exact of_decide_eq_true (by kernel_rfl)) (by kernel_rfl) (by exact of_decide_eq_true (by kernel_rfl)) (by kernel_rfl) (fun d => ⟨.inl rfl, .inr ⟨by (repeat (first | with_reducible exact List.mem_cons_self | with_reducible refine List.mem_cons_of_mem _ ?_)), by exact of_decide_eq_true (by kernel_rfl), by kernel_rfl⟩, trivial⟩) (fun d => by (repeat (first | with_reducible exact List.mem_cons_self | with_reducible refine List.mem_cons_of_mem _ ?_))) (fun d => EvS.tuple (ds := (Stp.ins far).ds) (EvS.cons (Ev.str _ _) (EvS.cons (Ev.var (by (repeat (first | with_reducible exact List.mem_cons_self | with_reducible refine List.mem_cons_of_mem _ ?_)))) EvS.nil)) (hz := by show 2 ≤ 1000; decide)) (by (repeat (first | with_reducible exact List.mem_cons_self | with_reducible refine List.mem_cons_of_mem _ ?_))) (by (first | assumption | exact Nat.le_refl _ | exact Nat.add_le_add_left (by decide) _ | exact Nat.le_trans (by assumption) (by decide) | omega)) mB) (.inl (by kernel_rfl)) (by (repeat (first | exact Upd.nil | (with_reducible apply Upd.hit) | ((with_reducible apply Upd.miss); (focus decide))))) Ex.nil0
  · rw [hF2, if_neg (of_decide_eq_false q), List.append_nil]
    (refine sub_of_all ?_; repeat (first | exact True.intro | refine And.intro (by (repeat (first | with_reducible exact List.mem_cons_self | with_reducible refine List.mem_cons_of_mem _ ?_))) ?_))
  refine Ex.ifJ (ρ₂ := [("old", .vp (im (.list (intL old)))), ("new", .vp (im (.list (intL new)))), ("near", .vp (im (.int near))), ("far", .vp (im (.int far))), ("found", .vp (im (.list (scrD F3))))]) (Tst.andc (t_ltN (Ev.var (by (repeat (first | with_reducible exact List.mem_cons_self | with_reducible refine List.mem_cons_of_mem _ ?_)))) (LO (by (repeat (first | with_reducible exact List.mem_cons_self | with_reducible refine List.mem_cons_of_mem _ ?_)))) rfl) (t_ltN (Ev.var (by (repeat (first | with_reducible exact List.mem_cons_self | with_reducible refine List.mem_cons_of_mem _ ?_)))) (LN (by (repeat (first | with_reducible exact List.mem_cons_self | with_reducible refine List.mem_cons_of_mem _ ?_)))) rfl)) (fun q => ?_) (fun q => ?_) ?_
  · rw [Bool.and_eq_true] at q
    have q1 := of_decide_eq_true q.1
    have q2 := of_decide_eq_true q.2
    rw [hF3, if_pos ⟨q1, q2⟩]
    obtain ⟨s, hs⟩ : ∃ s : Stp, s = (if old.getD near 0 == new.getD far 0 then Stp.keep near far else Stp.draw near far) := ⟨_, rfl⟩
    have hds : s.ds = [.str s.word, .int near, .int far] := by rw [hs]; split <;> rfl
    rw [← hs]
    refine Ex.assignI (d := .str s.word) ?_ (.inr (by kernel_rfl)) (by (repeat (first | exact Upd.nil | (with_reducible apply Upd.hit) | ((with_reducible apply Upd.miss); (focus decide))))) ?_
    · have tst := fun (p1 p2 p3 p4 p5 p6 p7 : Pos) (ρ : Rho) (m1 : (Str.ofString "near", Ent.vp (im (.int near))) ∈ ρ) (m2 : (Str.ofString "far", Ent.vp (im (.int far))) ∈ ρ) (m3 : (Str.ofString "old", Ent.vp (im (.list (intL old)))) ∈ ρ) (m4 : (Str.ofString "new", Ent.vp (im (.list (intL new)))) ∈ ρ) =>
        t_eqI (prog := prog) (w := w) (ht := ht) (n := n) (sc := scA P 173) (ρ := ρ) (pos := p1) (Ev.itemJ (pos := p2) (Ev.sl (Ev.var (pos := p3) m3)) (Ev.var (pos := p4) m1) (by rw [lo]; (first | assumption | exact Nat.le_refl _ | exact Nat.add_le_add_left (by decide) _ | exact Nat.le_trans (by assumption) (by decide) | omega)) (intL_at q1)) (Ev.itemJ (pos := p5) (Ev.sl (Ev.var (pos := p6) m4)) (Ev.var (pos := p7) m2) (by rw [ln]; (first | assumption | exact Nat.le_refl _ | exact Nat.add_le_add_left (by decide) _ | exact Nat.le_trans (by assumption) (by decide) | omega)) (intL_at q2)) rfl
      cases qq : (old.getD near 0 == new.getD far 0) with
      | true => rw [hs, if_pos qq]; exact Ev.ite_t (Tst.to (tst _ _ _ _ _ _ _ _ (by (repeat (first | with_reducible exact List.mem_cons_self | with_reducible refine List.mem_cons_of_mem _ ?_))) (by (repeat (first | with_reducible exact List.mem_cons_self | with_reducible refine List.mem_cons_of_mem _ ?_))) (by (repeat (first | with_reducible exact List.mem_cons_self | with_reducible refine List.mem_cons_of_mem _ ?_))) (by (repeat (first | with_reducible exact List.mem_cons_self | with_reducible refine List.mem_cons_of_mem _ ?_)))) qq) (Ev.str _ _)
      | false => rw [hs, if_neg (by rw [qq]; decide)]; exact Ev.ite_f (Tst.to (tst _ _ _ _ _ _ _ _ (by (repeat (first | with_reducible exact List.mem_cons_self | with_reducible refine List.mem_cons_of_mem _ ?_))) (by (repeat (first | with_reducible exact List.mem_cons_self | with_reducible refine List.mem_cons_of_mem _ ?_))) (by (repeat (first | with_reducible exact List.mem_cons_self | with_reducible refine List.mem_cons_of_mem _ ?_))) (by (repeat (first | with_reducible exact List.mem_cons_self | with_reducible refine List.mem_cons_of_mem _ ?_)))) qq) (Ev.str _ _)
    · refine Ex.assignI (d := .list (scrD (F2 ++ C.map (s :: ·)))) (Ev.growC (s := s) (ρin := fun d => [("rest", .vp (im d)), ("far", .vp (im (.int far))), ("near", .vp (im (.int near))), ("word", .vp (im (.str s.word)))]) (rcall (by (repeat (first | with_reducible exact List.mem_cons_self | with_reducible refine List.mem_cons_of_mem _ ?_))) (by (repeat (first | with_reducible exact List.mem_cons_self | with_reducible refine List.mem_cons_of_mem _ ?_))) (Ev.inc (Ev.var (by (repeat (first | with_reducible exact List.mem_cons_self | with_reducible refine List.mem_cons_of_mem _ ?_))))) (Ev.inc (Ev.var (by (repeat (first | with_reducible exact List.mem_cons_self | with_reducible refine List.mem_cons_of_mem _ ?_))))) (hC q1 q2) (fun _ => rfl) (fun _ => rfl) (fun _ => rfl) (fun _ => rfl) (fun _ => rfl))
        (by exact of_decide_eq_true (by kernel_rfl)) (by exact of_decide_eq_true (by kernel_rfl)) (by kernel_rfl) (by exact of_decide_eq_true (by kernel_rfl)) (by kernel_rfl) (fun d => ⟨.inl rfl, .inr ⟨by (repeat (first | with_reducible exact List.mem_cons_self | with_reducible refine List.mem_cons_of_mem _ ?_)), by exact of_decide_eq_true (by kernel_rfl), by kernel_rfl⟩, .inr ⟨by (repeat (first | with_reducible exact List.mem_cons_self | with_reducible refine List.mem_cons_of_mem _ ?_)), by exact of_decide_eq_true (by kernel_rfl), by kernel_rfl⟩, .inr ⟨by (repeat (first | with_reducible exact List.mem_cons_self | with_reducible refine List.mem_cons_of_mem _ ?_)), by exact of_decide_eq_true (by kernel_rfl), by kernel_rfl⟩, trivial⟩) (fun d => by (repeat (first | with_reducible exact List.mem_cons_self | with_reducible refine List.mem_cons_of_mem _ ?_))) (fun d => ?_) (by (repeat (first | with_reducible exact List.mem_cons_self | with_reducible refine List.mem_cons_of_mem _ ?_))) (by (first | assumption | exact Nat.le_refl _ | exact Nat.add_le_add_left (by decide) _ | exact Nat.le_trans (by assumption) (by decide) | omega)) mC) (.inl (by kernel_rfl)) (by (repeat (first | exact Upd.nil | (with_reducible apply Upd.hit) | ((with_reducible apply Upd.miss); (focus decide))))) (Ex.nil (by (refine sub_of_all ?_; repeat (first | exact True.intro | refine And.intro (by (repeat (first | with_reducible exact List.mem_cons_self | with_reducible refine List.mem_cons_of_mem _ ?_))) ?_))))
      show Ev _ _ _ _ _ _ _ (kim (.tuple s.ds))
      rw [hds]
      exact EvS.tuple (ds := [.str s.word, .int near, .int far]) (EvS.cons (Ev.var (by (repeat (first | with_reducible exact List.mem_cons_self | with_reducible refine List.mem_cons_of_mem _ ?_)))) (EvS.cons (Ev.var (by (repeat (first | with_reducible exact List.mem_cons_self | with_reducible refine List.mem_cons_of_mem _ ?_)))) (EvS.cons (Ev.var (by (repeat (first | with_reducible exact List.mem_cons_self | with_reducible refine List.mem_cons_of_mem _ ?_)))) EvS.nil))) (hz := by show 3 ≤ 1000; decide)
  · rw [hF3, if_neg (fun h => by rw [decide_eq_true h.1, decide_eq_true h.2] at q; cases q), List.append_nil]
    (refine sub_of_all ?_; repeat (first | exact True.intro | refine And.intro (by (repeat (first | with_reducible exact List.mem_cons_self | with_reducible refine List.mem_cons_of_mem _ ?_))) ?_))
  exact Ex.ret (Ev.var (by (repeat (first | with_reducible exact List.mem_cons_self | with_reducible refine List.mem_cons_of_mem _ ?_))))
theorem fn_scrs (T : TopX P mg mb ht) (old new : List Int) (hz1 : old.length ≤ 900) (hz2 : new.length ≤ 900) : ∀ (k near far : Nat), near ≤ old.length → far ≤ new.length → (old.length - near) + (new.length - far) ≤ k → k ≤ 6 →
    Fn prog w ht (n + k + 1) (.ref 173) [kim (.list (intL old)), kim (.list (intL new)), kim (.int (near : Int)), kim (.int (far : Int))] (kim (.list (scrD (scrs old new k near far))))
  | 0, near, far, h1, h2, h3, hk => by
    have := fn_scrs1 (prog := prog) (w := w) (n := n) T old new hz1 hz2 near far h1 h2 [] [] [] (by decide) (by decide) (by decide) nofun nofun nofun (fun q => by (first | assumption | exact Nat.le_refl _ | exact Nat.add_le_add_left (by decide) _ | exact Nat.le_trans (by assumption) (by decide) | omega)) (fun q => by (first | assumption | exact Nat.le_refl _ | exact Nat.add_le_add_left (by decide) _ | exact Nat.le_trans (by assumption) (by decide) | omega)) (fun q => by (first | assumption | exact Nat.le_refl _ | exact Nat.add_le_add_left (by decide) _ | exact Nat.le_trans (by assumption) (by decide) | omega))
    rw [if_neg (by (first | assumption | exact Nat.le_refl _ | exact Nat.add_le_add_left (by decide) _ | exact Nat.le_trans (by assumption) (by decide) | omega) : ¬ near < old.length), if_neg (by (first | assumption | exact Nat.le_refl _ | exact Nat.add_le_add_left (by decide) _ | exact Nat.le_trans (by assumption) (by decide) | omega) : ¬ far < new.length), if_neg (by (first | assumption | exact Nat.le_refl _ | exact Nat.add_le_add_left (by decide) _ | exact Nat.le_trans (by assumption) (by decide) | omega) : ¬ (near < old.length ∧ far < new.length)), List.append_nil, List.append_nil, List.append_nil] at this
    exact this
  | k + 1, near, far, h1, h2, h3, hk => by
    have p : 3 ^ k ≤ 243 := Nat.le_trans (Nat.pow_le_pow_right (by decide) (show k ≤ 5 by (first | assumption | exact Nat.le_refl _ | exact Nat.add_le_add_left (by decide) _ | exact Nat.le_trans (by assumption) (by decide) | omega))) (by decide)
    by_cases q1 : near < old.length
    · by_cases q2 : far < new.length
      · exact fn_scrs1 T old new hz1 hz2 near far h1 h2 (scrs old new k (near + 1) far) (scrs old new k near (far + 1)) (scrs old new k (near + 1) (far + 1)) (Nat.le_trans (scrs_len _ _ _ _ _ (by (first | assumption | exact Nat.le_refl _ | exact Nat.add_le_add_left (by decide) _ | exact Nat.le_trans (by assumption) (by decide) | omega)) h2) p) (Nat.le_trans (scrs_len _ _ _ _ _ h1 (by (first | assumption | exact Nat.le_refl _ | exact Nat.add_le_add_left (by decide) _ | exact Nat.le_trans (by assumption) (by decide) | omega))) p) (Nat.le_trans (scrs_len _ _ _ _ _ (by (first | assumption | exact Nat.le_refl _ | exact Nat.add_le_add_left (by decide) _ | exact Nat.le_trans (by assumption) (by decide) | omega)) (by (first | assumption | exact Nat.le_refl _ | exact Nat.add_le_add_left (by decide) _ | exact Nat.le_trans (by assumption) (by decide) | omega))) p)
          (fun r m => by have := scrs_long _ _ _ _ _ r m; (first | assumption | exact Nat.le_refl _ | exact Nat.add_le_add_left (by decide) _ | exact Nat.le_trans (by assumption) (by decide) | omega)) (fun r m => by have := scrs_long _ _ _ _ _ r m; (first | assumption | exact Nat.le_refl _ | exact Nat.add_le_add_left (by decide) _ | exact Nat.le_trans (by assumption) (by decide) | omega)) (fun r m => by have := scrs_long _ _ _ _ _ r m; (first | assumption | exact Nat.le_refl _ | exact Nat.add_le_add_left (by decide) _ | exact Nat.le_trans (by assumption) (by decide) | omega))
          (fun q => fn_scrs T old new hz1 hz2 k (near + 1) far (by (first | assumption | exact Nat.le_refl _ | exact Nat.add_le_add_left (by decide) _ | exact Nat.le_trans (by assumption) (by decide) | omega)) h2 (by (first | assumption | exact Nat.le_refl _ | exact Nat.add_le_add_left (by decide) _ | exact Nat.le_trans (by assumption) (by decide) | omega)) (by (first | assumption | exact Nat.le_refl _ | exact Nat.add_le_add_left (by decide) _ | exact Nat.le_trans (by assumption) (by decide) | omega))) (fun q => fn_scrs T old new hz1 hz2 k near (far + 1) h1 (by (first | assumption | exact Nat.le_refl _ | exact Nat.add_le_add_left (by decide) _ | exact Nat.le_trans (by assumption) (by decide) | omega)) (by (first | assumption | exact Nat.le_refl _ | exact Nat.add_le_add_left (by decide) _ | exact Nat.le_trans (by assumption) (by decide) | omega)) (by (first | assumption | exact Nat.le_refl _ | exact Nat.add_le_add_left (by decide) _ | exact Nat.le_trans (by assumption) (by decide) | omega))) (fun _ q => fn_scrs T old new hz1 hz2 k (near + 1) (far + 1) (by (first | assumption | exact Nat.le_refl _ | exact Nat.add_le_add_left (by decide) _ | exact Nat.le_trans (by assumption) (by decide) | omega)) (by (first | assumption | exact Nat.le_refl _ | exact Nat.add_le_add_left (by decide) _ | exact Nat.le_trans (by assumption) (by decide) | omega)) (by (first | assumption | exact Nat.le_refl _ | exact Nat.add_le_add_left (by decide) _ | exact Nat.le_trans (by assumption) (by decide) | omega)) (by (first | assumption | exact Nat.le_refl _ | exact Nat.add_le_add_left (by decide) _ | exact Nat.le_trans (by assumption) (by decide) | omega)))
      · have e : scrs old new (k + 1) near far = _ := rfl
        have := fn_scrs1 (prog := prog) (w := w) (n := n + k + 1) T old new hz1 hz2 near far h1 h2 (scrs old new k (near + 1) far) [] [] (Nat.le_trans (scrs_len _ _ _ _ _ (by (first | assumption | exact Nat.le_refl _ | exact Nat.add_le_add_left (by decide) _ | exact Nat.le_trans (by assumption) (by decide) | omega)) h2) p) (by decide) (by decide)
          (fun r m => by have := scrs_long _ _ _ _ _ r m; (first | assumption | exact Nat.le_refl _ | exact Nat.add_le_add_left (by decide) _ | exact Nat.le_trans (by assumption) (by decide) | omega)) nofun nofun
          (fun q => fn_scrs T old new hz1 hz2 k (near + 1) far (by (first | assumption | exact Nat.le_refl _ | exact Nat.add_le_add_left (by decide) _ | exact Nat.le_trans (by assumption) (by decide) | omega)) h2 (by (first | assumption | exact Nat.le_refl _ | exact Nat.add_le_add_left (by decide) _ | exact Nat.le_trans (by assumption) (by decide) | omega)) (by (first | assumption | exact Nat.le_refl _ | exact Nat.add_le_add_left (by decide) _ | exact Nat.le_trans (by assumption) (by decide) | omega))) (fun q => by (first | assumption | exact Nat.le_refl _ | exact Nat.add_le_add_left (by decide) _ | exact Nat.le_trans (by assumption) (by decide) | omega)) (fun _ q => by (first | assumption | exact Nat.le_refl _ | exact Nat.add_le_add_left (by decide) _ | exact Nat.le_trans (by assumption) (by decide) | omega))
        rw [if_neg q2, if_neg (by (first | assumption | exact Nat.le_refl _ | exact Nat.add_le_add_left (by decide) _ | exact Nat.le_trans (by assumption) (by decide) | omega) : ¬ (near < old.length ∧ far < new.length))] at this
        unfold scrs
        rw [if_neg q2, if_neg (by (first | assumption | exact Nat.le_refl _ | exact Nat.add_le_add_left (by decide) _ | exact Nat.le_trans (by assumption) (by decide) | omega) : ¬ (near < old.length ∧ far < new.length))]
        exact this
    · by_cases q2 : far < new.length
      · have := fn_scrs1 (prog := prog) (w := w) (n := n + k + 1) T old new hz1 hz2 near far h1 h2 [] (scrs old new k near (far + 1)) [] (by decide) (Nat.le_trans (scrs_len _ _ _ _ _ h1 (by (first | assumption | exact Nat.le_refl _ | exact Nat.add_le_add_left (by decide) _ | exact Nat.le_trans (by assumption) (by decide) | omega))) p) (by decide)
          nofun (fun r m => by have := scrs_long _ _ _ _ _ r m; (first | assumption | exact Nat.le_refl _ | exact Nat.add_le_add_left (by decide) _ | exact Nat.le_trans (by assumption) (by decide) | omega)) nofun
          (fun q => by (first | assumption | exact Nat.le_refl _ | exact Nat.add_le_add_left (by decide) _ | exact Nat.le_trans (by assumption) (by decide) | omega)) (fun q => fn_scrs T old new hz1 hz2 k near (far + 1) h1 (by (first | assumption | exact Nat.le_refl _ | exact Nat.add_le_add_left (by decide) _ | exact Nat.le_trans (by assumption) (by decide) | omega)) (by (first | assumption | exact Nat.le_refl _ | exact Nat.add_le_add_left (by decide) _ | exact Nat.le_trans (by assumption) (by decide) | omega)) (by (first | assumption | exact Nat.le_refl _ | exact Nat.add_le_add_left (by decide) _ | exact Nat.le_trans (by assumption) (by decide) | omega))) (fun q => by (first | assumption | exact Nat.le_refl _ | exact Nat.add_le_add_left (by decide) _ | exact Nat.le_trans (by assumption) (by decide) | omega))
        rw [if_neg q1, if_neg (by (first | assumption | exact Nat.le_refl _ | exact Nat.add_le_add_left (by decide) _ | exact Nat.le_trans (by assumption) (by decide) | omega) : ¬ (near < old.length ∧ far < new.length))] at this
        unfold scrs
        rw [if_neg q1, if_neg (by (first | assumption | exact Nat.le_refl _ | exact Nat.add_le_add_left (by decide) _ | exact Nat.le_trans (by assumption) (by decide) | omega) : ¬ (near < old.length ∧ far < new.length))]
        exact this
      · have := fn_scrs1 (prog := prog) (w := w) (n := n + k + 1) T old new hz1 hz2 near far h1 h2 [] [] [] (by decide) (by decide) (by decide) nofun nofun nofun (fun q => by (first | assumption | exact Nat.le_refl _ | exact Nat.add_le_add_left (by decide) _ | exact Nat.le_trans (by assumption) (by decide) | omega)) (fun q => by (first | assumption | exact Nat.le_refl _ | exact Nat.add_le_add_left (by decide) _ | exact Nat.le_trans (by assumption) (by decide) | omega)) (fun q => by (first | assumption | exact Nat.le_refl _ | exact Nat.add_le_add_left (by decide) _ | exact Nat.le_trans (by assumption) (by decide) | omega))
        rw [if_neg q1, if_neg q2, if_neg (by (first | assumption | exact Nat.le_refl _ | exact Nat.add_le_add_left (by decide) _ | exact Nat.le_trans (by assumption) (by decide) | omega) : ¬ (near < old.length ∧ far < new.length))] at this
        unfold scrs
        rw [if_neg q1, if_neg q2, if_neg (by (first | assumption | exact Nat.le_refl _ | exact Nat.add_le_add_left (by decide) _ | exact Nat.le_trans (by assumption) (by decide) | omega) : ¬ (near < old.length ∧ far < new.length))]
        exact this
end
theorem mulL {a b : Int} (h1 : -(2 ^ 64) < a) (h2 : a < 2 ^ 64) : IntMulOk a b := IntMulOk.of_left (intBits_le_64 h1 h2)
theorem mulR {a b : Int} (h1 : -(2 ^ 64) < b) (h2 : b < 2 ^ 64) : IntMulOk a b := IntMulOk.of_right (intBits_le_64 h1 h2)
noncomputable def mixes (l : List Int) : Int := l.foldl (fun m c => (m * 48271 + c.fmod 2147483629 + 3030).fmod 2147483587) 3030
theorem mixes_snoc (l : List Int) (c : Int) : mixes (l ++ [c]) = (mixes l * 48271 + c.fmod 2147483629 + 3030).fmod 2147483587 := by simp [mixes, List.foldl_append]
noncomputable def unInt : PyData → Int
  | .int i => i
  | _ => 0
section
variable {P : Params} {mg mb : Str → Option Value} {prog : Program} {w : World} {ht : Heap} {n : Nat} {sc : Scope} {ρ ρ' ρ₁ ρ₂ : Rho} {x : Str} {xp pos apos p0 p1 p2 : Pos} {d : PyData} {e e1 e2 : Expr} {ds : List PyData} {m k k1 : Nat} {t : Expr} {b : List Stmt} {rest : List Stmt} {po : Post} {a b' : Addr} {c : Nat}
theorem Ev.upto' (hr : Ev prog w ht n sc ρ e1 (ksl ds)) (ha : Ev prog w ht n sc ρ e2 (kim (.int (m : Int)))) (hz : ds.length ≤ 1000) : Ev prog w ht n sc ρ (.Subscript e1 (.Slice Option.none (some e2) Option.none p1) p2) (kfr (ds.take m)) :=
  Ev.cut hr EvPt.none (EvPt.some ha) EvPt.none nofun (fun {h X vs} r => by rw [slicePick_upto']; simpa using r.take m) hz
theorem fn_deck (T : TopX P mg mb ht) (xs : List Int) (hz : xs.length ≤ 900) : Fn prog w ht (n + 1) (.ref 147) [kim (.list (intL xs))] (kdeck prog w) := by
  refine (F147 P).fn (ps := [im (.list (intL xs))]) T rfl (show Ex _ _ _ _ _ [("script", .vp (im (.list (intL xs))))] _ _ from ?_)
  obtain ⟨cs, hcs⟩ : ∃ cs, cs = xs.take 16 := ⟨_, rfl⟩
  have lc : cs.length ≤ 16 := by rw [hcs, List.length_take]; (first | assumption | exact Nat.le_refl _ | exact Nat.add_le_add_left (by decide) _ | exact Nat.le_trans (by assumption) (by decide) | omega)
  have lx : (intL xs).length = xs.length := by simp [intL]
  refine Ex.assign2 (d1 := .list (intL cs)) (d2 := .int 3030) (EvS.tuple (ds := [.list (intL cs), .int 3030]) (EvS.cons (Ev.list (Ev.to (CompP.of (f := fun i : Int => PyData.int i) (un := unInt) (xs := cs) (t := fun _ => true) (g := fun i => .int i) (ρin := fun d => [("cell", .vp (im d))]) (fun _ => rfl)
    (Ev.le (Ev.to (Ev.upto' (m := 16) (Ev.sl (Ev.var (by (repeat (first | with_reducible exact List.mem_cons_self | with_reducible refine List.mem_cons_of_mem _ ?_))))) (Ev.int _ _) (by rw [lx]; (first | assumption | exact Nat.le_refl _ | exact Nat.add_le_add_left (by decide) _ | exact Nat.le_trans (by assumption) (by decide) | omega))) (by rw [hcs]; simp [intL, List.map_take])) (kfr_kit _)) (by exact of_decide_eq_true (by kernel_rfl)) (by exact of_decide_eq_true (by kernel_rfl)) (by kernel_rfl) (by exact of_decide_eq_true (by kernel_rfl)) (by kernel_rfl) (fun d => ⟨.inl rfl, trivial⟩) (fun _ _ => TstL.nil)
    (fun i _ _ => Ev.call (Ev.bfn T (v := .type "int") (by kernel_rfl) (by kernel_rfl) (by kernel_rfl) (by decide)) Kpr.type (EvS.cons (Ev.var (by (repeat (first | with_reducible exact List.mem_cons_self | with_reducible refine List.mem_cons_of_mem _ ?_)))) EvS.nil) (fn_int i)) (by (first | assumption | exact Nat.le_refl _ | exact Nat.add_le_add_left (by decide) _ | exact Nat.le_trans (by assumption) (by decide) | omega))) (by rw [List.filter_eq_self.mpr fun _ _ => rfl]; rfl))) (EvS.cons (Ev.int _ _) EvS.nil)) (hz := by show 2 ≤ 1000; decide)) (by kernel_rfl) (by kernel_rfl) (by (repeat (first | exact Upd.nil | (with_reducible apply Upd.hit) | ((with_reducible apply Upd.miss); (focus decide))))) (by (repeat (first | exact Upd.nil | (with_reducible apply Upd.hit) | ((with_reducible apply Upd.miss); (focus decide))))) ?_ (hw := by (intro env h1 h2; cases env; dsimp only at h1; subst h1; kernel_rfl))
  refine Ex.for_ (ds := intL cs) (Inv := fun i => [("cells", .vp (im (.list (intL cs)))), ("mixed", .vp (im (.int (mixes (cs.take i)))))])
    (ρin := fun i d => [("cells", .vp (im (.list (intL cs)))), ("mixed", .vp (im (.int (mixes (cs.take i))))), ("cell", .vp (im d))])
    (Ev.le (Ev.var (by (repeat (first | with_reducible exact List.mem_cons_self | with_reducible refine List.mem_cons_of_mem _ ?_)))) (kim_kit_list _)) (show ∀ y ∈ ([("cells", .vp (im (.list (intL cs)))), ("mixed", .vp (im (.int 3030)))] : Rho), _ from by (refine sub_of_all ?_; repeat (first | exact True.intro | refine And.intro (by (repeat (first | with_reducible exact List.mem_cons_self | with_reducible refine List.mem_cons_of_mem _ ?_))) ?_))) (fun i d hd => As.name (.inl (by kernel_rfl)) (by (repeat (first | exact Upd.nil | (with_reducible apply Upd.hit) | ((with_reducible apply Upd.miss); (focus decide)))))) (fun i d hdd => ?_) ?_
  · unfold intL at hdd
    rw [List.getElem?_map] at hdd
    obtain ⟨v, hv, rfl⟩ := Option.map_eq_some_iff.mp hdd
    rw [take_snoc hv, mixes_snoc]
    exact Ex.assignI (d := .int ((mixes (cs.take i) * 48271 + v.fmod 2147483629 + 3030).fmod 2147483587)) (Ev.bin (Ev.bin (Ev.bin (Ev.bin (Ev.var (by (repeat (first | with_reducible exact List.mem_cons_self | with_reducible refine List.mem_cons_of_mem _ ?_)))) (Ev.int 48271 _) (op_mul _ _ (mulR (by decide) (by decide)))) (Ev.bin (Ev.var (d := .int v) (by (repeat (first | with_reducible exact List.mem_cons_self | with_reducible refine List.mem_cons_of_mem _ ?_)))) (Ev.int 2147483629 _) (op_mod _ _ (by decide))) (op_add _ _)) (Ev.int 3030 _) (op_add _ _)) (Ev.int 2147483587 _) (op_mod _ _ (by decide))) (.inl (by kernel_rfl)) (by (repeat (first | exact Upd.nil | (with_reducible apply Upd.hit) | ((with_reducible apply Upd.miss); (focus decide))))) (Ex.nil (by (refine sub_of_all ?_; repeat (first | exact True.intro | refine And.intro (by (repeat (first | with_reducible exact List.mem_cons_self | with_reducible refine List.mem_cons_of_mem _ ?_))) ?_))))
  · exact Ex.ret (Ev.deck (cells := cs.reverse) (Ev.to (Ev.cut (es := (intL cs).reverse) (Ev.sl (Ev.var (d := .list (intL cs)) (by (repeat (first | with_reducible exact List.mem_cons_self | with_reducible refine List.mem_cons_of_mem _ ?_))))) EvPt.none EvPt.none (EvPt.some (Ev.neg (Ev.int 1 _))) (by decide) (fun r => cut_rev r) (by simp [intL]; (first | assumption | exact Nat.le_refl _ | exact Nat.add_le_add_left (by decide) _ | exact Nat.le_trans (by assumption) (by decide) | omega))) (by simp [intL])) (Ev.var (by (repeat (first | with_reducible exact List.mem_cons_self | with_reducible refine List.mem_cons_of_mem _ ?_)))) (Ev.int _ _) (by rw [List.length_reverse]; exact lc))
theorem deck_keep {cells : List Int} {mixed turn : Int} {X : List Addr} {h : Heap} (hl : cells.length ≤ 16) (h0 : 0 ≤ turn) (h1 : turn ≤ (c : Int)) (z : (deckS prog w a b' cells mixed turn).P X h) : (deckP prog w a b' c).P X h := ⟨cells, mixed, turn, ⟨hl, h0, h1⟩, z⟩
theorem fmod_in {x y : Int} (h : 0 < y) : 0 ≤ x.fmod y ∧ x.fmod y < y := ⟨Int.fmod_nonneg_of_pos _ h, Int.fmod_lt_of_pos _ h⟩
noncomputable abbrev DrawR (below : Int) : PyData → Prop := fun d => ∃ r, d = .int r ∧ 0 ≤ r ∧ r < below
theorem fn_draw (T : TopX P mg mb ht) (below : Int) (hb : 0 < below) (hb2 : below ≤ 1000) (hc : c ≤ 1000) : FnR prog w ht (n + 1) (.ref 154) (deckP prog w a b' c) [im (.int below)] (deckP prog w a b' (c + 1)) (DrawR below) := by
  refine (F154 P).fnR (names := ["below"]) (ρ' := [("deck", .res (deckP prog w a b' (c + 1)))]) (po := .retE [("deck", .res (deckP prog w a b' (c + 1)))] (DrawR below)) T rfl rfl (by (repeat (first | with_reducible exact List.mem_cons_self | with_reducible refine List.mem_cons_of_mem _ ?_))) (.inl rfl) (show Ex _ _ _ _ _ [("deck", .res (deckP prog w a b' c)), ("below", .vp (im (.int below)))] _ _ from ?_)
  refine Ex.open_ (ι := { p : List Int × Int × Int // p.1.length ≤ 16 ∧ 0 ≤ p.2.2 ∧ p.2.2 ≤ (c : Int) }) (P' := fun i => deckS prog w a b' i.1.1 i.1.2.1 i.1.2.2) (by (repeat (first | with_reducible exact List.mem_cons_self | with_reducible refine List.mem_cons_of_mem _ ?_))) (fun {X h} z => ?_) (fun _ => rfl) (fun _ => rfl) (fun i => by (repeat (first | exact Upr.nil | (with_reducible apply Upr.hit) | (with_reducible apply Upr.vp)))) (fun i => ?_)
  · obtain ⟨cells, mixed, turn, hh, z⟩ := z
    exact ⟨⟨(cells, mixed, turn), hh⟩, z⟩
  obtain ⟨⟨cells, mixed, turn⟩, hl, h0, h1⟩ := i
  dsimp only at hl h0 h1 ⊢
  have hfin : ∀ {fg : Int} {cells' : List Int} {ρ : Rho} {p1 p2 p3 p4 p5 p6 p7 p8 p9 q1 q2 q3 q4 q5 q6 q7 q8 q9 r1 r2 r3 r4 r5 r6 r7 r8 r9 s1 : Pos} {k1 k2 k3 k4 k5 k6 k7 k8 : Nat} {rest : List Stmt}, cells'.length ≤ 16 → ρ = ([("below", .vp (im (.int below))), ("deck", .res (deckS prog w a b' cells' mixed (turn + 1))), ("figure", .vp (im (.int fg)))] : Rho) →
      Ex prog w ht n (scA P 154) ρ (.Assign [.Name "figure" p1] (.BinOp (.BinOp (.BinOp (.Name "figure" p2) .Mod (.Constant (.int 2147483629) k1 p3) p4) .Mult (.Constant (.int 40692) k2 p5) p6) .Mod (.Constant (.int 2147483647) k3 p7) p8) p9
        :: .Assign [.Name "figure" q1] (.BinOp (.BinOp (.BinOp (.Name "figure" q2) .Mult (.Name "figure" q3) q4) .Add (.Constant (.int 3041) k4 q5) q6) .Mod (.Constant (.int 2147483587) k5 q7) q8) q9
        :: .Return (some (.BinOp (.BinOp (.BinOp (.BinOp (.Name "figure" r1) .Mult (.Constant (.int 39373) k6 r2) r3) .Mod (.Constant (.int 2147483579) k7 r4) r5) .FloorDiv (.Constant (.int 64) k8 r6) r7) .Mod (.Name "below" r8) r9)) s1 :: rest) (.retE [("deck", .res (deckP prog w a b' (c + 1)))] (DrawR below)) := by
    intro fg cells' ρ p1 p2 p3 p4 p5 p6 p7 p8 p9 q1 q2 q3 q4 q5 q6 q7 q8 q9 r1 r2 r3 r4 r5 r6 r7 r8 r9 s1 k1 k2 k3 k4 k5 k6 k7 k8 rest hl' hρ
    subst hρ
    have f1 := fmod_in (x := fg.fmod 2147483629 * 40692) (y := 2147483647) (by decide)
    refine Ex.assignI (d := .int ((fg.fmod 2147483629 * 40692).fmod 2147483647)) (Ev.bin (Ev.bin (Ev.bin (Ev.var (by (repeat (first | with_reducible exact List.mem_cons_self | with_reducible refine List.mem_cons_of_mem _ ?_)))) (Ev.int _ _) (op_mod _ _ (by decide))) (Ev.int _ _) (op_mul _ _ (mulR (by decide) (by decide)))) (Ev.int _ _) (op_mod _ _ (by decide))) (.inl (by kernel_rfl)) (by (repeat (first | exact Upd.nil | (with_reducible apply Upd.hit) | ((with_reducible apply Upd.miss); (focus decide))))) ?_
    generalize (fg.fmod 2147483629 * 40692).fmod 2147483647 = g at *
    refine Ex.assignI (d := .int ((g * g + 3041).fmod 2147483587)) (Ev.bin (Ev.bin (Ev.bin (Ev.var (by (repeat (first | with_reducible exact List.mem_cons_self | with_reducible refine List.mem_cons_of_mem _ ?_)))) (Ev.var (by (repeat (first | with_reducible exact List.mem_cons_self | with_reducible refine List.mem_cons_of_mem _ ?_)))) (op_mul _ _ (mulR (by (first | assumption | exact Nat.le_refl _ | exact Nat.add_le_add_left (by decide) _ | exact Nat.le_trans (by assumption) (by decide) | omega)) (by (first | assumption | exact Nat.le_refl _ | exact Nat.add_le_add_left (by decide) _ | exact Nat.le_trans (by assumption) (by decide) | omega))))) (Ev.int _ _) (op_add _ _)) (Ev.int _ _) (op_mod _ _ (by decide))) (.inl (by kernel_rfl)) (by (repeat (first | exact Upd.nil | (with_reducible apply Upd.hit) | ((with_reducible apply Upd.miss); (focus decide))))) ?_
    generalize (g * g + 3041).fmod 2147483587 = g2
    refine Ex.cast (P' := deckP prog w a b' (c + 1)) (x := Str.ofString "deck") (P := deckS prog w a b' cells' mixed (turn + 1)) (by (repeat (first | with_reducible exact List.mem_cons_self | with_reducible refine List.mem_cons_of_mem _ ?_))) (fun z => deck_keep hl' (by (first | assumption | exact Nat.le_refl _ | exact Nat.add_le_add_left (by decide) _ | exact Nat.le_trans (by assumption) (by decide) | omega)) (by (first | assumption | exact Nat.le_refl _ | exact Nat.add_le_add_left (by decide) _ | exact Nat.le_trans (by assumption) (by decide) | omega)) z) rfl rfl (by (repeat (first | exact Upr.nil | (with_reducible apply Upr.hit) | (with_reducible apply Upr.vp)))) ?_
    exact Ex.retE (d := .int ((((g2 * 39373).fmod 2147483579).fdiv 64).fmod below)) (Ev.bin (Ev.bin (Ev.bin (Ev.bin (Ev.var (by (repeat (first | with_reducible exact List.mem_cons_self | with_reducible refine List.mem_cons_of_mem _ ?_)))) (Ev.int _ _) (op_mul _ _ (mulR (by decide) (by decide)))) (Ev.int _ _) (op_mod _ _ (by decide))) (Ev.int _ _) (op_fdiv _ _ (by decide) (by decide))) (Ev.var (by (repeat (first | with_reducible exact List.mem_cons_self | with_reducible refine List.mem_cons_of_mem _ ?_)))) (op_mod _ _ (by (first | assumption | exact Nat.le_refl _ | exact Nat.add_le_add_left (by decide) _ | exact Nat.le_trans (by assumption) (by decide) | omega)))) ⟨_, rfl, fmod_in hb⟩ (by (refine sub_of_all ?_; repeat (first | exact True.intro | refine And.intro (by (repeat (first | with_reducible exact List.mem_cons_self | with_reducible refine List.mem_cons_of_mem _ ?_))) ?_)))
  refine Ex.deckTurn (v := turn + 1) (by (repeat (first | with_reducible exact List.mem_cons_self | with_reducible refine List.mem_cons_of_mem _ ?_))) (Ev.bin (Ev.deckI (by (repeat (first | with_reducible exact List.mem_cons_self | with_reducible refine List.mem_cons_of_mem _ ?_))) (.inr ⟨rfl, rfl⟩)) (Ev.int 1 _) (op_add _ _)) (by (repeat (first | exact Upr.nil | (with_reducible apply Upr.hit) | (with_reducible apply Upr.vp)))) ?_
  refine Ex.assignI (d := .int (mixed + 63033 * (turn + 1) * (turn + 1))) (Ev.bin (Ev.deckI (by (repeat (first | with_reducible exact List.mem_cons_self | with_reducible refine List.mem_cons_of_mem _ ?_))) (.inl ⟨rfl, rfl⟩)) (Ev.bin (Ev.bin (Ev.int 63033 _) (Ev.deckI (by (repeat (first | with_reducible exact List.mem_cons_self | with_reducible refine List.mem_cons_of_mem _ ?_))) (.inr ⟨rfl, rfl⟩)) (op_mul _ _ (mulL (by decide) (by decide)))) (Ev.deckI (by (repeat (first | with_reducible exact List.mem_cons_self | with_reducible refine List.mem_cons_of_mem _ ?_))) (.inr ⟨rfl, rfl⟩)) (op_mul _ _ (mulR (by (first | assumption | exact Nat.le_refl _ | exact Nat.add_le_add_left (by decide) _ | exact Nat.le_trans (by assumption) (by decide) | omega)) (by (first | assumption | exact Nat.le_refl _ | exact Nat.add_le_add_left (by decide) _ | exact Nat.le_trans (by assumption) (by decide) | omega))))) (op_add _ _)) (.inl (by kernel_rfl)) (by (repeat (first | exact Upd.nil | (with_reducible apply Upd.hit) | ((with_reducible apply Upd.miss); (focus decide))))) ?_
  generalize mixed + 63033 * (turn + 1) * (turn + 1) = fg
  have tst : ∀ {ρ : Rho} {p1 p2 p3 p4 p5 : Pos} {k1 : Nat} {b : Bool}, (Str.ofString "deck", Ent.res (deckS prog w a b' cells mixed (turn + 1))) ∈ ρ → (!PyData.eqv (.list (intL cells)) (.list [])) = b → Tst prog w ht n (scA P 154) ρ (.Compare (.Subscript (.Name "deck" p1) (.Constant (.str "cells") k1 p2) p3) [.NotEq] [.List [] p4] p5) b := fun hm hb =>
    Tst.to (Tst.cmp (Ev.deckL hm) (Ev.list (EvS.lst (ds := []) EvS.nil)) (op_neL (sh_ints _) (by decide +kernel))) hb
  rcases List.eq_nil_or_concat cells with hc0 | ⟨pre, v, hc0⟩
  · subst hc0
    exact Ex.skip (tst (by (repeat (first | with_reducible exact List.mem_cons_self | with_reducible refine List.mem_cons_of_mem _ ?_))) rfl) (hfin (cells' := []) (by decide) rfl)
  · rw [List.concat_eq_append] at hc0
    subst hc0
    have hne : (!PyData.eqv (.list (intL (pre ++ [v]))) (.list [])) = true := by
      cases pre with
      | nil => rfl
      | cons p q => rfl
    rw [List.length_append, List.length_singleton] at hl
    by_cases hv : 1000000 ≤ v
    · refine Ex.if_rE (tst (by (repeat (first | with_reducible exact List.mem_cons_self | with_reducible refine List.mem_cons_of_mem _ ?_))) hne) (Ex.deckPop (v := v) (cells' := pre) (by (repeat (first | with_reducible exact List.mem_cons_self | with_reducible refine List.mem_cons_of_mem _ ?_))) rfl (by simp; (first | assumption | exact Nat.le_refl _ | exact Nat.add_le_add_left (by decide) _ | exact Nat.le_trans (by assumption) (by decide) | omega)) (.inl (by kernel_rfl)) (by (repeat (first | exact Upr.nil | (with_reducible apply Upr.hit) | (with_reducible apply Upr.vp)))) (by (repeat (first | exact Upd.nil | (with_reducible apply Upd.hit) | ((with_reducible apply Upd.miss); (focus decide))))) (Ex.if_rE (Tst.to (Tst.cmp (Ev.var (by (repeat (first | with_reducible exact List.mem_cons_self | with_reducible refine List.mem_cons_of_mem _ ?_)))) (Ev.int 1000000 _) (op_ge _ _)) (decide_eq_true hv)) ?_))
      refine Ex.deckApp (v := v.fdiv below) (by (repeat (first | with_reducible exact List.mem_cons_self | with_reducible refine List.mem_cons_of_mem _ ?_))) (Ev.bin (Ev.var (by (repeat (first | with_reducible exact List.mem_cons_self | with_reducible refine List.mem_cons_of_mem _ ?_)))) (Ev.var (by (repeat (first | with_reducible exact List.mem_cons_self | with_reducible refine List.mem_cons_of_mem _ ?_)))) (op_fdiv _ _ (by (first | assumption | exact Nat.le_refl _ | exact Nat.add_le_add_left (by decide) _ | exact Nat.le_trans (by assumption) (by decide) | omega)) ?_)) (by (repeat (first | exact Upr.nil | (with_reducible apply Upr.hit) | (with_reducible apply Upr.vp)))) (by (first | assumption | exact Nat.le_refl _ | exact Nat.add_le_add_left (by decide) _ | exact Nat.le_trans (by assumption) (by decide) | omega)) ?_
      · have : below.natAbs ≤ 1000 := by (first | assumption | exact Nat.le_refl _ | exact Nat.add_le_add_left (by decide) _ | exact Nat.le_trans (by assumption) (by decide) | omega)
        have h2 : below.natAbs ≠ 0 := by (first | assumption | exact Nat.le_refl _ | exact Nat.add_le_add_left (by decide) _ | exact Nat.le_trans (by assumption) (by decide) | omega)
        have := (Nat.log2_lt h2 (k := 10)).mpr (by (first | assumption | exact Nat.le_refl _ | exact Nat.add_le_add_left (by decide) _ | exact Nat.le_trans (by assumption) (by decide) | omega))
        (first | assumption | exact Nat.le_refl _ | exact Nat.add_le_add_left (by decide) _ | exact Nat.le_trans (by assumption) (by decide) | omega)
      · refine Ex.cast (P' := deckP prog w a b' (c + 1)) (x := Str.ofString "deck") (P := deckS prog w a b' (pre ++ [v.fdiv below]) mixed (turn + 1)) (by (repeat (first | with_reducible exact List.mem_cons_self | with_reducible refine List.mem_cons_of_mem _ ?_))) (fun z => deck_keep (by rw [List.length_append, List.length_singleton]; exact hl) (by (first | assumption | exact Nat.le_refl _ | exact Nat.add_le_add_left (by decide) _ | exact Nat.le_trans (by assumption) (by decide) | omega)) (by (first | assumption | exact Nat.le_refl _ | exact Nat.add_le_add_left (by decide) _ | exact Nat.le_trans (by assumption) (by decide) | omega)) z) rfl rfl (by (repeat (first | exact Upr.nil | (with_reducible apply Upr.hit) | (with_reducible apply Upr.vp)))) ?_
        exact Ex.retE (d := .int (v.fmod below)) (Ev.bin (Ev.var (by (repeat (first | with_reducible exact List.mem_cons_self | with_reducible refine List.mem_cons_of_mem _ ?_)))) (Ev.var (by (repeat (first | with_reducible exact List.mem_cons_self | with_reducible refine List.mem_cons_of_mem _ ?_)))) (op_mod _ _ (by (first | assumption | exact Nat.le_refl _ | exact Nat.add_le_add_left (by decide) _ | exact Nat.le_trans (by assumption) (by decide) | omega)))) ⟨_, rfl, fmod_in hb⟩ (by (refine sub_of_all ?_; repeat (first | exact True.intro | refine And.intro (by (repeat (first | with_reducible exact List.mem_cons_self | with_reducible refine List.mem_cons_of_mem _ ?_))) ?_)))
    · refine Ex.if_n (ρ₂ := [("below", .vp (im (.int below))), ("deck", .res (deckS prog w a b' pre mixed (turn + 1))), ("figure", .vp (im (.int (fg + v.fmod 2147483563))))]) (tst (by (repeat (first | with_reducible exact List.mem_cons_self | with_reducible refine List.mem_cons_of_mem _ ?_))) hne) (Ex.deckPop (v := v) (cells' := pre) (by (repeat (first | with_reducible exact List.mem_cons_self | with_reducible refine List.mem_cons_of_mem _ ?_))) rfl (by simp; (first | assumption | exact Nat.le_refl _ | exact Nat.add_le_add_left (by decide) _ | exact Nat.le_trans (by assumption) (by decide) | omega)) (.inl (by kernel_rfl)) (by (repeat (first | exact Upr.nil | (with_reducible apply Upr.hit) | (with_reducible apply Upr.vp)))) (by (repeat (first | exact Upd.nil | (with_reducible apply Upd.hit) | ((with_reducible apply Upd.miss); (focus decide))))) (Ex.skip (Tst.to (Tst.cmp (Ev.var (by (repeat (first | with_reducible exact List.mem_cons_self | with_reducible refine List.mem_cons_of_mem _ ?_)))) (Ev.int 1000000 _) (op_ge _ _)) (decide_eq_false hv)) ?_)) (hfin (cells' := pre) (by (first | assumption | exact Nat.le_refl _ | exact Nat.add_le_add_left (by decide) _ | exact Nat.le_trans (by assumption) (by decide) | omega)) rfl)
      exact Ex.assignI (d := .int (fg + v.fmod 2147483563)) (Ev.bin (Ev.var (by (repeat (first | with_reducible exact List.mem_cons_self | with_reducible refine List.mem_cons_of_mem _ ?_)))) (Ev.bin (Ev.var (d := .int v) (by (repeat (first | with_reducible exact List.mem_cons_self | with_reducible refine List.mem_cons_of_mem _ ?_)))) (Ev.int _ _) (op_mod _ _ (by decide))) (op_add _ _)) (.inl (by kernel_rfl)) (by (repeat (first | exact Upd.nil | (with_reducible apply Upd.hit) | ((with_reducible apply Upd.miss); (focus decide))))) (Ex.nil (by (refine sub_of_all ?_; repeat (first | exact True.intro | refine And.intro (by (repeat (first | with_reducible exact List.mem_cons_self | with_reducible refine List.mem_cons_of_mem _ ?_))) ?_))))
end
noncomputable def sepD (p q : RP) : RP := ⟨p.as ++ q.as, p.root, fun X h => p.P X h ∧ q.P X h ∧ ∀ b ∈ p.as, b ∉ q.as, fun x k ka hX hb =>
  ⟨p.st x.1 k (fun b m o e => ka b (List.mem_append_left _ m) o e) hX fun b m => hb b (List.mem_append_left _ m), q.st x.2.1 k (fun b m o e => ka b (List.mem_append_right _ m) o e) hX fun b m => hb b (List.mem_append_right _ m), x.2.2⟩⟩
theorem Dk.mono {prog : Program} {w : World} {h : Heap} {X : List Addr} {d : Addr} {m : List Int → Option PyData} {c c' : Nat} (x : Dk prog w h X d m c) (hc : c ≤ c') : Dk prog w h X d m c' := by
  obtain ⟨xs, h1, h2, r⟩ := x
  exact ⟨xs, h1, Nat.le_trans h2 hc, r⟩
theorem DkO.mono {prog : Program} {w : World} {h : Heap} {X : List Addr} {d : Addr} {m : List Int → Option PyData} {c c' : Nat} (x : DkO prog w h X d m c) (hc : c ≤ c') : DkO prog w h X d m c' := ⟨x.1, x.2.mono hc⟩
structure Tb where
  M : List Int → Option Int
  S : List Int → Option (Stp × List Int)
noncomputable def Tb.mD (t : Tb) : List Int → Option PyData := fun k => (t.M k).map PyData.int
noncomputable def backD (p : Stp × List Int) : PyData := .tuple [p.1.d, .tuple (intL p.2)]
noncomputable def Tb.sD (t : Tb) : List Int → Option PyData := fun k => (t.S k).map backD
noncomputable def Tb.better (t : Tb) (place : List Int) (cost : Int) : Bool := match t.M place with
  | none => true
  | some v => decide (cost < v)
noncomputable def Tb.offer (t : Tb) (place : List Int) (cost : Int) (s : Stp) (before : List Int) : Tb :=
  if t.better place cost = true then ⟨put t.M place cost, put t.S place (s, before)⟩ else t
theorem put_mD (t : Tb) (k : List Int) (v : Int) : put t.mD k (.int v) = fun k' => (put t.M k v k').map PyData.int := by
  funext k'; unfold put Tb.mD; split <;> rfl
theorem put_sD (t : Tb) (k : List Int) (p : Stp × List Int) : put t.sD k (backD p) = fun k' => (put t.S k p k').map backD := by
  funext k'; unfold put Tb.sD; split <;> rfl
noncomputable abbrev tabAl (old new : List Int) (c : Cst) : List (Str × VP) := [("old", im (.list (intL old))), ("new", im (.list (intL new))), ("costs", costsV c)]
noncomputable abbrev tabAl2 (old new : List Int) (c : Cst) (dl ds : Addr) : List (Str × VP) := [("old", im (.list (intL old))), ("new", im (.list (intL new))), ("costs", costsV c), ("least", isv (.ref dl)), ("step", isv (.ref ds))]
noncomputable def tabR (prog : Program) (w : World) (a dx dl ds : Addr) (old new : List Int) (cc : Cst) (t : Tb) (c : Nat) : RP := sepD (sepD (objR a dx 100 (tabAl2 old new cc dl ds)) (dictR prog w dl t.mD c)) (dictR prog w ds t.sD c)
theorem handed_costs (c : Cst) : Handed (costsV c) := handed_obj _ _
theorem o_old : typeLookup (.type "object") (Str.ofString "old") = pure none := by rw [typeLookup_type, builtinLookup_eq_fast]; kernel_rfl
theorem o_new : typeLookup (.type "object") (Str.ofString "new") = pure none := by rw [typeLookup_type, builtinLookup_eq_fast]; kernel_rfl
theorem o_costs : typeLookup (.type "object") (Str.ofString "costs") = pure none := by rw [typeLookup_type, builtinLookup_eq_fast]; kernel_rfl
theorem o_least : typeLookup (.type "object") (Str.ofString "least") = pure none := by rw [typeLookup_type, builtinLookup_eq_fast]; kernel_rfl
theorem o_step : typeLookup (.type "object") (Str.ofString "step") = pure none := by rw [typeLookup_type, builtinLookup_eq_fast]; kernel_rfl
theorem o_offer : typeLookup (.type "object") (Str.ofString "offer") = pure none := by rw [typeLookup_type, builtinLookup_eq_fast]; kernel_rfl
theorem o_fill : typeLookup (.type "object") (Str.ofString "fill") = pure none := by rw [typeLookup_type, builtinLookup_eq_fast]; kernel_rfl
theorem o_script : typeLookup (.type "object") (Str.ofString "script") = pure none := by rw [typeLookup_type, builtinLookup_eq_fast]; kernel_rfl
section
variable {P : Params} {mg mb : Str → Option Value} {prog : Program} {w : World} {ht : Heap} {n : Nat} {sc : Scope} {ρ ρ' ρ₁ ρ₂ : Rho} {x : Str} {xp pos apos p0 p1 p2 : Pos} {d : PyData} {e e1 e2 : Expr} {m k k1 : Nat} {rest : List Stmt} {po : Post} {a dx dl ds : Addr} {c : Nat} {old new : List Int} {cc : Cst} {t : Tb}
theorem Tst.orb {b1 b2 : Bool} (h1 : Tst prog w ht n sc ρ e1 b1) (h2 : b1 = false → Tst prog w ht n sc ρ e2 b2) : Tst prog w ht n sc ρ (.BoolOp .Or [e1, e2] pos) (b1 || b2) := by
  cases b1 with
  | true => exact Tst.or_t h1
  | false =>
    refine Tst.or_f h1 ?_
    cases b2 with
    | true => exact Tst.or_t (h2 rfl)
    | false => exact Tst.or_f (h2 rfl) Tst.or_nil
theorem Ex.set46 {al : List (Str × VP)} {name : Str} {vp : VP} (T : TopX P mg mb ht) (hx : (x, Ent.res (objR a dx 46 al)) ∈ ρ) (he : Ev prog w ht n sc ρ e vp.kp) (hρ : Upr x (objR a dx 46 (al ++ [(name, vp)])) ρ ρ') (hna : mNA P 45 name = none) (hB : typeLookup (.type "object") name = pure none) (hnew : name ∉ al.map (·.1)) (hz : al.length ≤ 100) (y : Ex prog w ht n sc ρ' rest po)
    (hs : ∀ env, swapsWith e (some (.Attribute (.Name x xp) name apos)) pos.line env = pure false := by intro _; rfl) (hd : (x == ("__debug__" : Str)) = false := by decide) (hn : (x == ("__classdict__" : Str)) = false := by decide) : Ex prog w ht n sc ρ (.Assign [.Attribute (.Name x xp) name apos] e pos :: rest) po :=
  Ex.setattr (P' := objR a dx 46 (al ++ [(name, vp)])) hx rfl (fun z => z) (.head _) (.tail _ (.head _)) (cls46 T) he (fun _ _ _ z => z) rfl rfl hρ (by kernel_rfl) hna hB hnew hz y hs hd hn
theorem Ex.set100 {al : List (Str × VP)} {name : Str} {vp : VP} (T : TopX P mg mb ht) (hx : (x, Ent.res (objR a dx 100 al)) ∈ ρ) (he : Ev prog w ht n sc ρ e vp.kp) (hρ : Upr x (objR a dx 100 (al ++ [(name, vp)])) ρ ρ') (hna : mNA P 99 name = none) (hB : typeLookup (.type "object") name = pure none) (hnew : name ∉ al.map (·.1)) (hz : al.length ≤ 100) (y : Ex prog w ht n sc ρ' rest po)
    (hs : ∀ env, swapsWith e (some (.Attribute (.Name x xp) name apos)) pos.line env = pure false := by intro _; rfl) (hd : (x == ("__debug__" : Str)) = false := by decide) (hn : (x == ("__classdict__" : Str)) = false := by decide) : Ex prog w ht n sc ρ (.Assign [.Attribute (.Name x xp) name apos] e pos :: rest) po :=
  Ex.setattr (P' := objR a dx 100 (al ++ [(name, vp)])) hx rfl (fun z => z) (.head _) (.tail _ (.head _)) (cls100 T) he (fun _ _ _ z => z) rfl rfl hρ (by kernel_rfl) hna hB hnew hz y hs hd hn
theorem attrs_sub {h : Heap} {X X' : List Addr} {C : Addr} {al : List (Str × VP)} (z : AttrsAt h X' a dx C al) (hX : ∀ b ∈ X, b ∈ X') : AttrsAt h X a dx C al := z.step (fun _ _ _ e => e) (fun _ e => e) (fun _ e => e) fun b m => .inl (hX b m)
theorem fn_Costs (T : TopX P mg mb ht) (c : Cst) (hz : c.dr.length ≤ 1000) : Fn prog w ht (n + 2) (.ref 46) [kim (.int c.p0), kim (.int c.p1), kim (.int c.p2), kim (.int c.p3), kim (.list (intL c.dr))] (costsV c).kp := by
  refine (F29 P).cls (names := ["delete_first", "delete_more", "insert_first", "insert_more", "draws"]) (ps := [im (.int c.p0), im (.int c.p1), im (.int c.p2), im (.int c.p3), im (.list (intL c.dr))]) (ι := Unit)
    (P' := fun x dx _ => objR x dx 46 [("delete_first", im (.int c.p0)), ("delete_more", im (.int c.p1)), ("insert_first", im (.int c.p2)), ("insert_more", im (.int c.p3)), ("draws", im (.list (intL c.dr)))])
    (ρs := fun x dx _ => [("self", .res (objR x dx 46 [("delete_first", im (.int c.p0)), ("delete_more", im (.int c.p1)), ("insert_first", im (.int c.p2)), ("insert_more", im (.int c.p3)), ("draws", im (.list (intL c.dr)))]))]) T (cls46 T) (by kernel_rfl) rfl (fun _ _ _ => by (repeat (first | with_reducible exact List.mem_cons_self | with_reducible refine List.mem_cons_of_mem _ ?_)))
    (fun x dx => (show Ex _ _ _ _ _ [("self", .res (objR x dx 46 [])), ("delete_first", .vp (im (.int c.p0))), ("delete_more", .vp (im (.int c.p1))), ("insert_first", .vp (im (.int c.p2))), ("insert_more", .vp (im (.int c.p3))), ("draws", .vp (im (.list (intL c.dr))))] _ _ from ?_))
    (fun x dx _ {X X' h₀ h} z hX _ nx nd => ⟨x, dx, rfl, nx, nd, attrs_sub z hX⟩)
  refine Ex.set46 (al := []) (vp := im (.int c.p0)) T (by (repeat (first | with_reducible exact List.mem_cons_self | with_reducible refine List.mem_cons_of_mem _ ?_))) (Ev.name (by (repeat (first | with_reducible exact List.mem_cons_self | with_reducible refine List.mem_cons_of_mem _ ?_)))) (by (repeat (first | exact Upr.nil | (with_reducible apply Upr.hit) | (with_reducible apply Upr.vp)))) (by kernel_rfl) o_delete_first (by decide) (by decide) ?_
  refine Ex.set46 (vp := im (.int c.p1)) T (by (repeat (first | with_reducible exact List.mem_cons_self | with_reducible refine List.mem_cons_of_mem _ ?_))) (Ev.name (by (repeat (first | with_reducible exact List.mem_cons_self | with_reducible refine List.mem_cons_of_mem _ ?_)))) (by (repeat (first | exact Upr.nil | (with_reducible apply Upr.hit) | (with_reducible apply Upr.vp)))) (by kernel_rfl) o_delete_more (of_decide_eq_true (by kernel_rfl)) (by simp) ?_
  refine Ex.set46 (vp := im (.int c.p2)) T (by (repeat (first | with_reducible exact List.mem_cons_self | with_reducible refine List.mem_cons_of_mem _ ?_))) (Ev.name (by (repeat (first | with_reducible exact List.mem_cons_self | with_reducible refine List.mem_cons_of_mem _ ?_)))) (by (repeat (first | exact Upr.nil | (with_reducible apply Upr.hit) | (with_reducible apply Upr.vp)))) (by kernel_rfl) o_insert_first (of_decide_eq_true (by kernel_rfl)) (by simp) ?_
  refine Ex.set46 (vp := im (.int c.p3)) T (by (repeat (first | with_reducible exact List.mem_cons_self | with_reducible refine List.mem_cons_of_mem _ ?_))) (Ev.name (by (repeat (first | with_reducible exact List.mem_cons_self | with_reducible refine List.mem_cons_of_mem _ ?_)))) (by (repeat (first | exact Upr.nil | (with_reducible apply Upr.hit) | (with_reducible apply Upr.vp)))) (by kernel_rfl) o_insert_more (of_decide_eq_true (by kernel_rfl)) (by simp) ?_
  refine Ex.set46 (vp := im (.list (intL c.dr))) T (by (repeat (first | with_reducible exact List.mem_cons_self | with_reducible refine List.mem_cons_of_mem _ ?_))) (Ev.list (Ev.list_ (ds := intL c.dr) T (by kernel_rfl) (Ev.le (Ev.var (by (repeat (first | with_reducible exact List.mem_cons_self | with_reducible refine List.mem_cons_of_mem _ ?_)))) (kim_kit_list _)) (by simpa [intL] using hz))) (by (repeat (first | exact Upr.nil | (with_reducible apply Upr.hit) | (with_reducible apply Upr.vp)))) (by kernel_rfl) o_draws (of_decide_eq_true (by kernel_rfl)) (by simp) ?_
  exact Ex.nilG () (fun y m => by rw [List.mem_singleton.mp m]; (repeat (first | exact List.mem_cons_self | refine List.mem_cons_of_mem _ ?_)))
end
section
variable {P : Params} {mg mb : Str → Option Value} {prog : Program} {w : World} {ht : Heap} {n : Nat} {sc : Scope} {ρ ρ' ρ₁ ρ₂ : Rho} {x : Str} {xp pos apos p0 p1 p2 : Pos} {d : PyData} {e e1 e2 : Expr} {m k k1 : Nat} {rest : List Stmt} {po : Post} {a dx dl ds : Addr} {c : Nat} {old new : List Int} {cc : Cst} {t : Tb}
noncomputable def tabR1 (prog : Program) (w : World) (a dx dl ds : Addr) (old new : List Int) (cc : Cst) (M S : List Int → Option PyData) (c c' : Nat) : RP := sepD (sepD (objR a dx 100 (tabAl2 old new cc dl ds)) (dictR prog w dl M c)) (dictR prog w ds S c')
theorem tab_M {M S : List Int → Option PyData} {c c' : Nat} {X : List Addr} {h : Heap} (z : (tabR1 prog w a dx dl ds old new cc M S c c').P X h) : DkO prog w h X dl M c := z.1.2.1
theorem tab_S {M S : List Int → Option PyData} {c c' : Nat} {X : List Addr} {h : Heap} (z : (tabR1 prog w a dx dl ds old new cc M S c c').P X h) : DkO prog w h X ds S c' := z.2.1
theorem tab_A {M S : List Int → Option PyData} {c c' : Nat} {X : List Addr} {h : Heap} (z : (tabR1 prog w a dx dl ds old new cc M S c c').P X h) : AttrsAt h X a dx 100 (tabAl2 old new cc dl ds) := z.1.1
theorem tab_d1 {M S : List Int → Option PyData} {c c' : Nat} {X : List Addr} {h : Heap} (z : (tabR1 prog w a dx dl ds old new cc M S c c').P X h) : a ≠ dl ∧ dx ≠ dl ∧ a ≠ ds ∧ dx ≠ ds ∧ dl ≠ ds := by
  have h1 : ∀ b ∈ [a, dx], b ∉ [dl] := z.1.2.2
  have h2 : ∀ b ∈ [a, dx] ++ [dl], b ∉ [ds] := z.2.2
  exact ⟨fun q => h1 a (.head _) (q ▸ .head _), fun q => h1 dx (.tail _ (.head _)) (q ▸ .head _), fun q => h2 a (.head _) (q ▸ .head _), fun q => h2 dx (.tail _ (.head _)) (q ▸ .head _), fun q => h2 dl (.tail _ (.tail _ (.head _))) (q ▸ .head _)⟩
theorem tab_setM {M M' S : List Int → Option PyData} {c c' c2 : Nat} {X : List Addr} {h h' : Heap} (z : (tabR1 prog w a dx dl ds old new cc M S c c').P X h) (hX : dl ∈ X) (k : KpX [dl] h h') (D : DkO prog w h' X dl M' c2) : (tabR1 prog w a dx dl ds old new cc M' S c2 c').P X h' := by
  obtain ⟨n1, n2, n3, n4, n5⟩ := tab_d1 z
  have kX : KpX X h h' := fun b o nb e => k b o (fun q => nb (by rw [List.mem_singleton.mp q]; exact hX)) e
  have ke : ∀ b, b ≠ dl → ∀ o, h.get? b = some o → h'.get? b = some o := fun b nb o e => k b o (fun q => nb (List.mem_singleton.mp q)) e
  exact ⟨⟨(tab_A z).step kX (ke a n1) (ke dx n2) fun _ m => .inl m, D, z.1.2.2⟩, ⟨(tab_S z).1, (tab_S z).2.step kX (ke ds n5.symm) fun _ m => .inl m⟩, z.2.2⟩
theorem tab_setS {M S S' : List Int → Option PyData} {c c' c2 : Nat} {X : List Addr} {h h' : Heap} (z : (tabR1 prog w a dx dl ds old new cc M S c c').P X h) (hX : ds ∈ X) (k : KpX [ds] h h') (D : DkO prog w h' X ds S' c2) : (tabR1 prog w a dx dl ds old new cc M S' c c2).P X h' := by
  obtain ⟨n1, n2, n3, n4, n5⟩ := tab_d1 z
  have kX : KpX X h h' := fun b o nb e => k b o (fun q => nb (by rw [List.mem_singleton.mp q]; exact hX)) e
  have ke : ∀ b, b ≠ ds → ∀ o, h.get? b = some o → h'.get? b = some o := fun b nb o e => k b o (fun q => nb (List.mem_singleton.mp q)) e
  exact ⟨⟨(tab_A z).step kX (ke a n3) (ke dx n4) fun _ m => .inl m, ⟨(tab_M z).1, (tab_M z).2.step kX (ke dl n5) fun _ m => .inl m⟩, z.1.2.2⟩, D, z.2.2⟩
theorem tab_mono {M S : List Int → Option PyData} {c c' c2 c2' : Nat} {X : List Addr} {h : Heap} (z : (tabR1 prog w a dx dl ds old new cc M S c c').P X h) (h1 : c ≤ c2) (h2 : c' ≤ c2') : (tabR1 prog w a dx dl ds old new cc M S c2 c2').P X h := ⟨⟨tab_A z, (tab_M z).mono h1, z.1.2.2⟩, (tab_S z).mono h2, z.2.2⟩
theorem tA {M S : List Int → Option PyData} {c c' : Nat} {name : Str} {vp : VP} (T : TopX P mg mb ht) (hx : (x, Ent.res (tabR1 prog w a dx dl ds old new cc M S c c')) ∈ ρ) (hm : (name, vp) ∈ tabAl2 old new cc dl ds) (hh : Handed vp) (hna : mNA P 99 name = none) (hB : typeLookup (.type "object") name = pure none) (hd : (x == ("__debug__" : Str)) = false := by decide) (hn : (x == ("__classdict__" : Str)) = false := by decide) :
    Ev prog w ht n sc ρ (.Attribute (.Name x xp) name apos) vp.kp := Ev.attrR hx rfl (fun z => tab_A z) (cls100 T) hm hh (by kernel_rfl) hna hB hd hn
theorem tLeast {M S : List Int → Option PyData} {c c' : Nat} (T : TopX P mg mb ht) (hx : (x, Ent.res (tabR1 prog w a dx dl ds old new cc M S c c')) ∈ ρ) (hd : (x == ("__debug__" : Str)) = false := by decide) (hn : (x == ("__classdict__" : Str)) = false := by decide) : Ev prog w ht n sc ρ (.Attribute (.Name x xp) "least" apos) (kis (.ref dl)) :=
  tA (vp := isv (.ref dl)) T hx (.tail _ (.tail _ (.tail _ (.head _)))) (handed_ref _) (by kernel_rfl) o_least hd hn
theorem tStep {M S : List Int → Option PyData} {c c' : Nat} (T : TopX P mg mb ht) (hx : (x, Ent.res (tabR1 prog w a dx dl ds old new cc M S c c')) ∈ ρ) (hd : (x == ("__debug__" : Str)) = false := by decide) (hn : (x == ("__classdict__" : Str)) = false := by decide) : Ev prog w ht n sc ρ (.Attribute (.Name x xp) "step" apos) (kis (.ref ds)) :=
  tA (vp := isv (.ref ds)) T hx (.tail _ (.tail _ (.tail _ (.tail _ (.head _))))) (handed_ref _) (by kernel_rfl) o_step hd hn
theorem fn_offer (T : TopX P mg mb ht) (place : List Int) (cost : Int) (s : Stp) (before : List Int) (hc : c ≤ 1000) : FnR prog w ht (n + 1) (.ref 85) (tabR1 prog w a dx dl ds old new cc t.mD t.sD c c) [im (.tuple (intL place)), im (.int cost), im s.d, im (.tuple (intL before))] (tabR1 prog w a dx dl ds old new cc (t.offer place cost s before).mD (t.offer place cost s before).sD (c + 1) (c + 1)) (fun d => d = .none) := by
  refine (F85 P).fnR (names := ["place", "cost", "step", "before"]) (ρ' := [("self", .res (tabR1 prog w a dx dl ds old new cc (t.offer place cost s before).mD (t.offer place cost s before).sD (c + 1) (c + 1)))]) (po := .next [("self", .res (tabR1 prog w a dx dl ds old new cc (t.offer place cost s before).mD (t.offer place cost s before).sD (c + 1) (c + 1)))]) T rfl rfl (by (repeat (first | with_reducible exact List.mem_cons_self | with_reducible refine List.mem_cons_of_mem _ ?_))) (.inr ⟨rfl, rfl⟩)
    (show Ex _ _ _ _ _ [("self", .res (tabR1 prog w a dx dl ds old new cc t.mD t.sD c c)), ("place", .vp (im (.tuple (intL place)))), ("cost", .vp (im (.int cost))), ("step", .vp (im s.d)), ("before", .vp (im (.tuple (intL before))))] _ _ from ?_)
  have tst : ∀ {p1 p2 p3 p4 p5 p6 p7 p8 p9 q1 q2 : Pos}, Tst prog w ht n (scA P 85) ([("self", .res (tabR1 prog w a dx dl ds old new cc t.mD t.sD c c)), ("place", .vp (im (.tuple (intL place)))), ("cost", .vp (im (.int cost))), ("step", .vp (im s.d)), ("before", .vp (im (.tuple (intL before))))] : Rho)
      (.BoolOp .Or [.Compare (.Name "place" p1) [.NotIn] [.Attribute (.Name "self" p2) "least" p3] p4, .Compare (.Name "cost" p5) [.Lt] [.Subscript (.Attribute (.Name "self" p6) "least" p7) (.Name "place" p8) p9] q1] q2) (t.better place cost) := by
    intro p1 p2 p3 p4 p5 p6 p7 p8 p9 q1 q2
    unfold Tb.better
    cases q : t.M place with
    | none => exact Tst.or_t (Tst.to (Tst.dnin (by (repeat (first | with_reducible exact List.mem_cons_self | with_reducible refine List.mem_cons_of_mem _ ?_))) (fun z => tab_M z) (tLeast T (by (repeat (first | with_reducible exact List.mem_cons_self | with_reducible refine List.mem_cons_of_mem _ ?_)))) (Ev.var (by (repeat (first | with_reducible exact List.mem_cons_self | with_reducible refine List.mem_cons_of_mem _ ?_))))) (by unfold Tb.mD; rw [q]; rfl))
    | some v => exact Tst.to (Tst.orb (b1 := false) (Tst.to (Tst.dnin (by (repeat (first | with_reducible exact List.mem_cons_self | with_reducible refine List.mem_cons_of_mem _ ?_))) (fun z => tab_M z) (tLeast T (by (repeat (first | with_reducible exact List.mem_cons_self | with_reducible refine List.mem_cons_of_mem _ ?_)))) (Ev.var (by (repeat (first | with_reducible exact List.mem_cons_self | with_reducible refine List.mem_cons_of_mem _ ?_))))) (by unfold Tb.mD; rw [q]; rfl)) (fun _ => Tst.cmp (Ev.var (by (repeat (first | with_reducible exact List.mem_cons_self | with_reducible refine List.mem_cons_of_mem _ ?_)))) (Ev.dget (v := .int v) (by (repeat (first | with_reducible exact List.mem_cons_self | with_reducible refine List.mem_cons_of_mem _ ?_))) (fun z => tab_M z) (tLeast T (by (repeat (first | with_reducible exact List.mem_cons_self | with_reducible refine List.mem_cons_of_mem _ ?_)))) (Ev.var (by (repeat (first | with_reducible exact List.mem_cons_self | with_reducible refine List.mem_cons_of_mem _ ?_)))) (by unfold Tb.mD; rw [q]; rfl)) (op_lt _ _))) (Bool.false_or _)
  by_cases q : t.better place cost = true
  · have e : t.offer place cost s before = ⟨put t.M place cost, put t.S place (s, before)⟩ := by unfold Tb.offer; rw [if_pos q]
    rw [e]
    have e1 : put t.mD place (.int cost) = (⟨put t.M place cost, put t.S place (s, before)⟩ : Tb).mD := put_mD t place cost
    have e2 : put t.sD place (backD (s, before)) = (⟨put t.M place cost, put t.S place (s, before)⟩ : Tb).sD := put_sD t place (s, before)
    rw [← e1, ← e2]
    refine Ex.if_n (Tst.to tst q) ?_ Ex.nil0
    refine Ex.dset (v := .int cost) (P' := tabR1 prog w a dx dl ds old new cc (put t.mD place (.int cost)) t.sD (c + 1) c) (by (repeat (first | with_reducible exact List.mem_cons_self | with_reducible refine List.mem_cons_of_mem _ ?_))) (fun z => tab_M z) (.tail _ (.tail _ (.head _))) (tLeast T (by (repeat (first | with_reducible exact List.mem_cons_self | with_reducible refine List.mem_cons_of_mem _ ?_)))) (Ev.var (by (repeat (first | with_reducible exact List.mem_cons_self | with_reducible refine List.mem_cons_of_mem _ ?_)))) (Ev.var (by (repeat (first | with_reducible exact List.mem_cons_self | with_reducible refine List.mem_cons_of_mem _ ?_)))) (fun z hX k D => tab_setM z (hX _ (.tail _ (.tail _ (.head _)))) k D) rfl rfl (by (repeat (first | exact Upr.nil | (with_reducible apply Upr.hit) | (with_reducible apply Upr.vp)))) hc ?_
    refine Ex.dset (v := backD (s, before)) (P' := tabR1 prog w a dx dl ds old new cc (put t.mD place (.int cost)) (put t.sD place (backD (s, before))) (c + 1) (c + 1)) (by (repeat (first | with_reducible exact List.mem_cons_self | with_reducible refine List.mem_cons_of_mem _ ?_))) (fun z => tab_S z) (.tail _ (.tail _ (.tail _ (.head _)))) (tStep T (by (repeat (first | with_reducible exact List.mem_cons_self | with_reducible refine List.mem_cons_of_mem _ ?_)))) (Ev.var (by (repeat (first | with_reducible exact List.mem_cons_self | with_reducible refine List.mem_cons_of_mem _ ?_)))) (EvS.tuple (ds := [s.d, .tuple (intL before)]) (EvS.cons (Ev.var (by (repeat (first | with_reducible exact List.mem_cons_self | with_reducible refine List.mem_cons_of_mem _ ?_)))) (EvS.cons (Ev.var (by (repeat (first | with_reducible exact List.mem_cons_self | with_reducible refine List.mem_cons_of_mem _ ?_)))) EvS.nil)) (hz := by show 2 ≤ 1000; decide)) (fun z hX k D => tab_setS z (hX _ (.tail _ (.tail _ (.tail _ (.head _))))) k D) rfl rfl (by (repeat (first | exact Upr.nil | (with_reducible apply Upr.hit) | (with_reducible apply Upr.vp)))) hc (Ex.nil (by (refine sub_of_all ?_; repeat (first | exact True.intro | refine And.intro (by (repeat (first | with_reducible exact List.mem_cons_self | with_reducible refine List.mem_cons_of_mem _ ?_))) ?_))))
  · have e : t.offer place cost s before = t := by unfold Tb.offer; rw [if_neg q]
    rw [e]
    refine Ex.skip (Tst.to tst (Bool.eq_false_iff.mpr q)) ?_
    refine Ex.cast (P' := tabR1 prog w a dx dl ds old new cc t.mD t.sD (c + 1) (c + 1)) (P := tabR1 prog w a dx dl ds old new cc t.mD t.sD c c) (x := Str.ofString "self") (by (repeat (first | with_reducible exact List.mem_cons_self | with_reducible refine List.mem_cons_of_mem _ ?_))) (fun z => tab_mono z (by (first | assumption | exact Nat.le_refl _ | exact Nat.add_le_add_left (by decide) _ | exact Nat.le_trans (by assumption) (by decide) | omega)) (by (first | assumption | exact Nat.le_refl _ | exact Nat.add_le_add_left (by decide) _ | exact Nat.le_trans (by assumption) (by decide) | omega))) rfl rfl (by (repeat (first | exact Upr.nil | (with_reducible apply Upr.hit) | (with_reducible apply Upr.vp)))) ?_
    exact Ex.nil (by (refine sub_of_all ?_; repeat (first | exact True.intro | refine And.intro (by (repeat (first | with_reducible exact List.mem_cons_self | with_reducible refine List.mem_cons_of_mem _ ?_))) ?_)))
end
noncomputable abbrev key (i j : Nat) (k : Int) : List Int := [(i : Int), (j : Int), k]
noncomputable def kS (old new : List Int) (i j : Nat) (t : Tb) (k : Int) : Tb := match i, j with
  | i' + 1, j' + 1 => match t.M (key i' j' k) with
    | some v => if (old.getD i' 0 == new.getD j' 0) = true then t.offer (key (i' + 1) (j' + 1) 0) v (.keep i' j') (key i' j' k) else t
    | none => t
  | _, _ => t
noncomputable def dS (c : Cst) (i j : Nat) (t : Tb) (k : Int) : Tb := match i, j with
  | i' + 1, j' + 1 => match t.M (key i' j' k) with
    | some v => t.offer (key (i' + 1) (j' + 1) 0) (v + c.at j') (.draw i' j') (key i' j' k)
    | none => t
  | _, _ => t
noncomputable def xS (c : Cst) (i j : Nat) (t : Tb) (k : Int) : Tb := match i with
  | i' + 1 => match t.M (key i' j k) with
    | some v => t.offer (key (i' + 1) j 1) (v + c.dele k) (.del i') (key i' j k)
    | none => t
  | _ => t
noncomputable def nS (c : Cst) (i j : Nat) (t : Tb) (k : Int) : Tb := match j with
  | j' + 1 => match t.M (key i j' k) with
    | some v => t.offer (key i (j' + 1) 2) (v + c.inse k j') (.ins j') (key i j' k)
    | none => t
  | _ => t
noncomputable def kinds : List Int := [0, 1, 2]
noncomputable def fillT (old new : List Int) (c : Cst) (i j : Nat) (t : Tb) : Tb := kinds.foldl (nS c i j) (kinds.foldl (xS c i j) (kinds.foldl (dS c i j) (kinds.foldl (kS old new i j) t)))
noncomputable def NN (t : Tb) : Prop := ∀ x y k, t.M [x, y, k] ≠ none → 0 ≤ x ∧ 0 ≤ y
theorem NN.offer {t : Tb} (h : NN t) (i j : Nat) (k cost : Int) (s : Stp) (b : List Int) : NN (t.offer (key i j k) cost s b) := by
  unfold Tb.offer
  split
  · intro x y k' hm
    by_cases q : [x, y, k'] = key i j k
    · have e1 : x = (i : Int) := (List.cons.inj q).1
      have e2 : y = (j : Int) := (List.cons.inj (List.cons.inj q).2).1
      (first | assumption | exact Nat.le_refl _ | exact Nat.add_le_add_left (by decide) _ | exact Nat.le_trans (by assumption) (by decide) | omega)
    · refine h x y k' ?_
      have hm : put t.M (key i j k) cost [x, y, k'] ≠ none := hm
      unfold put at hm
      rwa [if_neg q] at hm
  · exact h
theorem NN.kS {old new : List Int} {i j : Nat} {t : Tb} (h : NN t) (k : Int) : NN (kS old new i j t k) := by
  unfold Mine.kS
  split
  · split
    · split
      · exact h.offer _ _ _ _ _ _
      · exact h
    · exact h
  · exact h
theorem NN.dS {c : Cst} {i j : Nat} {t : Tb} (h : NN t) (k : Int) : NN (dS c i j t k) := by
  unfold Mine.dS
  split
  · split
    · exact h.offer _ _ _ _ _ _
    · exact h
  · exact h
theorem NN.xS {c : Cst} {i j : Nat} {t : Tb} (h : NN t) (k : Int) : NN (xS c i j t k) := by
  unfold Mine.xS
  split
  · split
    · exact h.offer _ _ _ _ _ _
    · exact h
  · exact h
theorem NN.nS {c : Cst} {i j : Nat} {t : Tb} (h : NN t) (k : Int) : NN (nS c i j t k) := by
  unfold Mine.nS
  split
  · split
    · exact h.offer _ _ _ _ _ _
    · exact h
  · exact h
theorem NN.fold {F : Tb → Int → Tb} (hF : ∀ t k, NN t → NN (F t k)) : ∀ (l : List Int) (t : Tb), NN t → NN (l.foldl F t)
  | [], t, h => h
  | k :: l, t, h => NN.fold hF l _ (hF t k h)
theorem NN.fillT {old new : List Int} {c : Cst} {i j : Nat} {t : Tb} (h : NN t) : NN (fillT old new c i j t) :=
  NN.fold (fun _ k h => h.nS k) _ _ (NN.fold (fun _ k h => h.xS k) _ _ (NN.fold (fun _ k h => h.dS k) _ _ (NN.fold (fun _ k h => h.kS k) _ _ h)))
section
variable {P : Params} {mg mb : Str → Option Value} {prog : Program} {w : World} {ht : Heap} {n : Nat} {sc : Scope} {ρ ρ' ρ₁ ρ₂ : Rho} {x : Str} {xp pos apos p0 p1 p2 : Pos} {d : PyData} {e e1 e2 : Expr} {m : Nat} {rest body : List Stmt} {po : Post} {a dx dl ds : Addr} {c : Nat} {old new : List Int} {cc : Cst} {t : Tb} {i j : Nat} {k : Int}
noncomputable abbrev TR (prog : Program) (w : World) (a dx dl ds : Addr) (old new : List Int) (cc : Cst) (t : Tb) (c : Nat) : RP := tabR1 prog w a dx dl ds old new cc t.mD t.sD c c
theorem Ex.kinds {F : Tb → Int → Tb} {c0 : Nat} (T : TopX P mg mb ht) (hF : ∀ t k, NN t → NN (F t k)) (hN : NN t) (h0 : ∀ y ∈ ([("self", .res (TR prog w a dx dl ds old new cc t c0)), ("i", .vp (im (.int (i : Int)))), ("j", .vp (im (.int (j : Int))))] : Rho), y ∈ ρ)
    (turn : ∀ t k c, NN t → c ≤ c0 + 2 → Ex prog w ht n (scA P 92) ([("self", .res (TR prog w a dx dl ds old new cc t c)), ("i", .vp (im (.int (i : Int)))), ("j", .vp (im (.int (j : Int)))), ("kind", .vp (im (.int k)))]) body (.next [("self", .res (TR prog w a dx dl ds old new cc (F t k) (c + 1))), ("i", .vp (im (.int (i : Int)))), ("j", .vp (im (.int (j : Int))))]))
    (y : Ex prog w ht n (scA P 92) ([("self", .res (TR prog w a dx dl ds old new cc (Mine.kinds.foldl F t) (c0 + 3))), ("i", .vp (im (.int (i : Int)))), ("j", .vp (im (.int (j : Int))))]) rest po) :
    Ex prog w ht n (scA P 92) ρ (.For (.Name "kind" p0) (.Name "SCRIPT_KINDS" p1) body [] pos :: rest) po := by
  refine Ex.for_ (ds := intL [0, 1, 2]) (Inv := fun q => [("self", .res (TR prog w a dx dl ds old new cc ((Mine.kinds.take q).foldl F t) (c0 + q))), ("i", .vp (im (.int (i : Int)))), ("j", .vp (im (.int (j : Int))))])
    (ρin := fun q d => [("self", .res (TR prog w a dx dl ds old new cc ((Mine.kinds.take q).foldl F t) (c0 + q))), ("i", .vp (im (.int (i : Int)))), ("j", .vp (im (.int (j : Int)))), ("kind", .vp (im d))])
    (Ev.le (Ev.gkinds T (by kernel_rfl)) (kim_kit_tuple _)) h0 (fun q d hd => As.name (.inl (by kernel_rfl)) (by (repeat (first | exact Upd.nil | (with_reducible apply Upd.hit) | ((with_reducible apply Upd.miss); (focus decide)))))) (fun q d hd => ?_) y
  have hq : Mine.kinds[q]? = some (unInt d) ∧ d = .int (unInt d) := by
    unfold intL at hd
    rw [List.getElem?_map] at hd
    obtain ⟨v, hv, rfl⟩ := Option.map_eq_some_iff.mp hd
    exact ⟨hv, rfl⟩
  obtain ⟨h1, h2⟩ := hq
  rw [h2, take_snoc h1, List.foldl_append]
  have hq3 : q < 3 := (List.getElem?_eq_some_iff.mp h1).1
  exact turn _ _ (c0 + q) (NN.fold hF _ _ hN) (by (first | assumption | exact Nat.le_refl _ | exact Nat.add_le_add_left (by decide) _ | exact Nat.le_trans (by assumption) (by decide) | omega))
theorem ex_keep {ρ : Rho} (hx : (Str.ofString "self", Ent.res (TR prog w a dx dl ds old new cc t c)) ∈ ρ) (hρ : Upr (Str.ofString "self") (TR prog w a dx dl ds old new cc t (c + 1)) ρ ρ₁) (hs : ∀ y ∈ ([("self", .res (TR prog w a dx dl ds old new cc t (c + 1))), ("i", .vp (im (.int (i : Int)))), ("j", .vp (im (.int (j : Int))))] : Rho), y ∈ ρ₁) :
    Ex prog w ht n sc ρ [] (.next [("self", .res (TR prog w a dx dl ds old new cc t (c + 1))), ("i", .vp (im (.int (i : Int)))), ("j", .vp (im (.int (j : Int))))]) :=
  Ex.cast (P := TR prog w a dx dl ds old new cc t c) (P' := TR prog w a dx dl ds old new cc t (c + 1)) hx (fun z => tab_mono z (by (first | assumption | exact Nat.le_refl _ | exact Nat.add_le_add_left (by decide) _ | exact Nat.le_trans (by assumption) (by decide) | omega)) (by (first | assumption | exact Nat.le_refl _ | exact Nat.add_le_add_left (by decide) _ | exact Nat.le_trans (by assumption) (by decide) | omega))) rfl rfl hρ (Ex.nil hs)
end
section
variable {P : Params} {mg mb : Str → Option Value} {prog : Program} {w : World} {ht : Heap} {n : Nat} {sc : Scope} {ρ ρ' ρ₁ ρ₂ : Rho} {x : Str} {xp pos apos p0 p1 p2 p3 p4 : Pos} {d : PyData} {e e1 e2 : Expr} {m : Nat} {rest body : List Stmt} {po : Post} {a dx dl ds : Addr} {c : Nat} {old new : List Int} {cc : Cst} {t : Tb} {i j : Nat} {k : Int}
theorem Ev.dec {i : Nat} {l : Expr} {k1 : Nat} {v : Int} (hl : Ev prog w ht n sc ρ l (kim (.int (i : Int)))) (h : (i : Int) - 1 = v) : Ev prog w ht n sc ρ (.BinOp l .Sub (.Constant (.int 1) k1 p0) pos) (kim (.int v)) :=
  Ev.to (Ev.bin hl (Ev.int 1 _) (op_sub _ _)) (by rw [h])
theorem Ev.key3 {x y k : Int} {e1 e2 e3 : Expr} {k1 : Nat} (h1 : Ev prog w ht n sc ρ e1 (kim (.int x))) (h2 : Ev prog w ht n sc ρ e2 (kim (.int y))) (h3 : Ev prog w ht n sc ρ e3 (kim (.int k)))
    (s1 : ∀ env, starEach [e1, e2, e3] env = (false, eval e1 env) :: starEach [e2, e3] env := by intro _; rfl) (s2 : ∀ env, starEach [e2, e3] env = (false, eval e2 env) :: starEach [e3] env := by intro _; rfl) (s3 : ∀ env, starEach [e3] env = (false, eval e3 env) :: starEach [] env := by intro _; rfl) :
    Ev prog w ht n sc ρ (.Tuple [e1, e2, e3] k1 pos) (kim (.tuple (intL [x, y, k]))) :=
  EvS.tuple (ds := [.int x, .int y, .int k]) (EvS.cons h1 (EvS.cons h2 (EvS.cons h3 EvS.nil s3) s2) s1) (hz := by show 3 ≤ 1000; decide)
theorem Ev.attrG {l : Expr} {C N : Addr} {mN : Str → Option Value} {al : List (Str × VP)} {name : Str} {vp : VP} (hl : Ev prog w ht n sc ρ l (objP C al).kp) (cl : ClsAt ht C N mN) (hm : (name, vp) ∈ al) (hh : Handed vp) (hng : mN "__getattribute__" = Option.none) (hna : mN name = Option.none) (hB : typeLookup (.type "object") name = pure Option.none)
    (hbase : ∀ env, attributeBase l name env (eval l env) = eval l env := by intro _; rfl) : Ev prog w ht n sc ρ (.Attribute l name pos) vp.kp := fun A env X s Q E R a S K => by
  rw [arm_eval_Attribute, hbase]
  refine wpAny_bind (wpAny_mono (hl R a S (Q := fun v s' => wpAny _ _ _ _ _ s') fun v h₁ t₁ k₁ z₁ => ?_) (fun _ _ x => x) fun _ _ x => x)
  obtain ⟨b, dx, rfl, nb, nd, x⟩ := z₁
  refine wpAny_bind (wpAny_standAt (wpAny_bind (wpAny_holding (attr_get cl (S.top.trans k₁) x hm hh hng hna hB fun u tk pu => ?_))))
  exact wpAny_bind (wpAny_letTemporaryGo (wpAny_pure (K u _ _ k₁ pu)))
theorem t_in {b : Bool} {kk : List Int} (T : TopX P mg mb ht) (hx : (Str.ofString "self", Ent.res (TR prog w a dx dl ds old new cc t c)) ∈ ρ) (hb : (Str.ofString "before", Ent.vp (im (.tuple (intL kk)))) ∈ ρ) (h : (t.M kk).isSome = b) :
    Tst prog w ht n sc ρ (.Compare (.Name "before" p0) [.In] [.Attribute (.Name "self" p1) "least" p2] p3) b :=
  Tst.to (Tst.din hx (fun z => tab_M z) (tLeast T hx) (Ev.var hb)) (by rw [← h]; unfold Tb.mD; exact Option.isSome_map)
theorem e_least {v : Int} {kk : List Int} (T : TopX P mg mb ht) (hx : (Str.ofString "self", Ent.res (TR prog w a dx dl ds old new cc t c)) ∈ ρ) (hb : (Str.ofString "before", Ent.vp (im (.tuple (intL kk)))) ∈ ρ) (h : t.M kk = some v) :
    Ev prog w ht n sc ρ (.Subscript (.Attribute (.Name "self" p0) "least" p1) (.Name "before" p2) p3) (kim (.int v)) :=
  Ev.dget (v := .int v) hx (fun z => tab_M z) (tLeast T hx) (Ev.var hb) (by unfold Tb.mD; rw [h]; rfl)
theorem Ex.thenN {b : List Stmt} (x : Ex prog w ht n sc ρ b (.next ρ₂)) (h : ∀ y ∈ ρ₁, y ∈ ρ₂) : Ex prog w ht n sc ρ b (.next ρ₁) := fun A env hb B X₀ X s Q E R a k0 al O S K => x R a k0 al O S fun h' tk S' => K h' tk (S'.less h)
theorem ex_offer {place kk : List Int} {cost : Int} {s : Stp} {cpos : Pos} {es : List Expr} (T : TopX P mg mb ht) (hx : (Str.ofString "self", Ent.res (TR prog w a dx dl ds old new cc t c)) ∈ ρ) (hs : EvS prog w ht (n + 1) sc ρ (e :: es) [kim (.tuple (intL place)), kim (.int cost), kim s.d, kim (.tuple (intL kk))]) (hc : c ≤ 1000)
    (hρ : Upr (Str.ofString "self") (TR prog w a dx dl ds old new cc (t.offer place cost s kk) (c + 1)) ρ ρ₁) (he : ∀ env, starEach (e :: es) env = (false, eval e env) :: starEach es env)
    (hev : ∀ env, ∃ pl, eval (.Call (.Attribute (.Name "self" xp) "offer" apos) (e :: es) [] cpos) env = (do
      let ov ← eval (.Name "self" xp) env
      standAt apos.atName
      let (f, first) ← holding [ov] (getMethod ov "offer" pl)
      callWith cpos f first (backTo cpos (starEach (e :: es) env)) (backToKw cpos (keywordEach [] env))))
    (hsw : ∀ env, swapsWith (.Call (.Attribute (.Name "self" xp) "offer" apos) (e :: es) [] cpos) none pos.line env = pure false) :
    Ex prog w ht (n + 1) sc ρ [.Expr (.Call (.Attribute (.Name "self" xp) "offer" apos) (e :: es) [] cpos) pos] (.next ρ₁) :=
  Ex.meth (P := TR prog w a dx dl ds old new cc t c) (P' := TR prog w a dx dl ds old new cc (t.offer place cost s kk) (c + 1)) (ps := [im (.tuple (intL place)), im (.int cost), im s.d, im (.tuple (intL kk))]) hx rfl (fun z => tab_A z) (cls100 T) (fa := 85) (by kernel_rfl) (T.k _ _ rfl) rfl rfl (by kernel_rfl) (by kernel_rfl) (of_decide_eq_true (by kernel_rfl)) o_offer hs (fn_offer T place cost s kk hc) rfl rfl hρ Ex.nil0 he hev (hsw := hsw)
theorem nn_none {x y k : Int} (h : NN t) (hx : x < 0 ∨ y < 0) : t.M [x, y, k] = none := by
  cases q : t.M [x, y, k] with
  | none => rfl
  | some v =>
    have := h x y k (by rw [q]; simp)
    (first | assumption | exact Nat.le_refl _ | exact Nat.add_le_add_left (by decide) _ | exact Nat.le_trans (by assumption) (by decide) | omega)
theorem e_draws {jj : Nat} {l : Expr} (T : TopX P mg mb ht) (hx : (Str.ofString "self", Ent.res (TR prog w a dx dl ds old new cc t c)) ∈ ρ) (hl : Ev prog w ht n sc ρ l (kim (.int (jj : Int)))) (hj : jj < cc.dr.length) (hz : cc.dr.length ≤ 1000) (hs : ∀ o i, subscripted l false o i = operate [o, i] (getItem o i) := by intro _ _; with_unfolding_all rfl) :
    Ev prog w ht n sc ρ (.Subscript (.Attribute (.Attribute (.Name "self" p0) "costs" p1) "draws" p2) l p3) (kim (.int (cc.at jj))) :=
  Ev.itemJ (ds := intL cc.dr) (Ev.sl (Ev.attrG (vp := im (.list (intL cc.dr))) (tA (vp := costsV cc) T hx (.tail _ (.tail _ (.head _))) (handed_costs _) (by kernel_rfl) o_costs) (cls46 T) (.tail _ (.tail _ (.tail _ (.tail _ (.head _))))) (handed_im _) (by kernel_rfl) (by kernel_rfl) o_draws)) hl (by simpa [intL] using hz) (intL_get (Cst.get hj)) hs
theorem fn_fill (T : TopX P mg mb ht) (hN : NN t) (hi : i ≤ old.length) (hj : j ≤ new.length) (hz1 : old.length ≤ 900) (hz2 : new.length ≤ 900) (hdr : cc.dr.length = new.length) (hc : c ≤ 900) :
    FnR prog w ht (n + 2) (.ref 92) (TR prog w a dx dl ds old new cc t c) [im (.int (i : Int)), im (.int (j : Int))] (TR prog w a dx dl ds old new cc (fillT old new cc i j t) (c + 12)) (fun d => d = .none) := by
  refine (F92 P).fnR (names := ["i", "j"]) (ρ' := [("self", .res (TR prog w a dx dl ds old new cc (fillT old new cc i j t) (c + 12)))]) (po := .next [("self", .res (TR prog w a dx dl ds old new cc (fillT old new cc i j t) (c + 12)))]) T rfl rfl (by (repeat (first | with_reducible exact List.mem_cons_self | with_reducible refine List.mem_cons_of_mem _ ?_))) (.inr ⟨rfl, rfl⟩)
    (show Ex _ _ _ _ _ [("self", .res (TR prog w a dx dl ds old new cc t c)), ("i", .vp (im (.int (i : Int)))), ("j", .vp (im (.int (j : Int))))] _ _ from ?_)
  have lo : (intL old).length = old.length := by simp [intL]
  have ln : (intL new).length = new.length := by simp [intL]
  unfold fillT
  refine Ex.kinds (F := kS old new i j) (c0 := c) T (fun _ k h => h.kS k) hN (by (refine sub_of_all ?_; repeat (first | exact True.intro | refine And.intro (by (repeat (first | with_reducible exact List.mem_cons_self | with_reducible refine List.mem_cons_of_mem _ ?_))) ?_))) (fun t k c' hN hc' => ?_) ?_
  · cases i with
    | zero =>
      refine Ex.assignI (d := .tuple (intL [-1, (j : Int) - 1, k])) (Ev.key3 (Ev.dec (Ev.var (by (repeat (first | with_reducible exact List.mem_cons_self | with_reducible refine List.mem_cons_of_mem _ ?_)))) rfl) (Ev.dec (Ev.var (by (repeat (first | with_reducible exact List.mem_cons_self | with_reducible refine List.mem_cons_of_mem _ ?_)))) rfl) (Ev.var (by (repeat (first | with_reducible exact List.mem_cons_self | with_reducible refine List.mem_cons_of_mem _ ?_))))) (.inl (by kernel_rfl)) (by (repeat (first | exact Upd.nil | (with_reducible apply Upd.hit) | ((with_reducible apply Upd.miss); (focus decide))))) ?_
      refine Ex.skip (t_in T (by (repeat (first | with_reducible exact List.mem_cons_self | with_reducible refine List.mem_cons_of_mem _ ?_))) (by (repeat (first | with_reducible exact List.mem_cons_self | with_reducible refine List.mem_cons_of_mem _ ?_))) (by rw [nn_none hN (.inl (by decide))]; rfl)) ?_
      rw [show kS old new 0 j t k = t from rfl]
      exact ex_keep (by (repeat (first | with_reducible exact List.mem_cons_self | with_reducible refine List.mem_cons_of_mem _ ?_))) (by (repeat (first | exact Upr.nil | (with_reducible apply Upr.hit) | (with_reducible apply Upr.vp)))) (by (refine sub_of_all ?_; repeat (first | exact True.intro | refine And.intro (by (repeat (first | with_reducible exact List.mem_cons_self | with_reducible refine List.mem_cons_of_mem _ ?_))) ?_)))
    | succ i' =>
      cases j with
      | zero =>
        refine Ex.assignI (d := .tuple (intL [(i' : Int), -1, k])) (Ev.key3 (Ev.dec (Ev.var (by (repeat (first | with_reducible exact List.mem_cons_self | with_reducible refine List.mem_cons_of_mem _ ?_)))) (by (first | assumption | exact Nat.le_refl _ | exact Nat.add_le_add_left (by decide) _ | exact Nat.le_trans (by assumption) (by decide) | omega))) (Ev.dec (Ev.var (by (repeat (first | with_reducible exact List.mem_cons_self | with_reducible refine List.mem_cons_of_mem _ ?_)))) rfl) (Ev.var (by (repeat (first | with_reducible exact List.mem_cons_self | with_reducible refine List.mem_cons_of_mem _ ?_))))) (.inl (by kernel_rfl)) (by (repeat (first | exact Upd.nil | (with_reducible apply Upd.hit) | ((with_reducible apply Upd.miss); (focus decide))))) ?_
        refine Ex.skip (t_in T (by (repeat (first | with_reducible exact List.mem_cons_self | with_reducible refine List.mem_cons_of_mem _ ?_))) (by (repeat (first | with_reducible exact List.mem_cons_self | with_reducible refine List.mem_cons_of_mem _ ?_))) (by rw [nn_none hN (.inr (by decide))]; rfl)) ?_
        rw [show kS old new (i' + 1) 0 t k = t from rfl]
        exact ex_keep (by (repeat (first | with_reducible exact List.mem_cons_self | with_reducible refine List.mem_cons_of_mem _ ?_))) (by (repeat (first | exact Upr.nil | (with_reducible apply Upr.hit) | (with_reducible apply Upr.vp)))) (by (refine sub_of_all ?_; repeat (first | exact True.intro | refine And.intro (by (repeat (first | with_reducible exact List.mem_cons_self | with_reducible refine List.mem_cons_of_mem _ ?_))) ?_)))
      | succ j' =>
        refine Ex.assignI (d := .tuple (intL (key i' j' k))) (Ev.key3 (Ev.dec (Ev.var (by (repeat (first | with_reducible exact List.mem_cons_self | with_reducible refine List.mem_cons_of_mem _ ?_)))) (by (first | assumption | exact Nat.le_refl _ | exact Nat.add_le_add_left (by decide) _ | exact Nat.le_trans (by assumption) (by decide) | omega))) (Ev.dec (Ev.var (by (repeat (first | with_reducible exact List.mem_cons_self | with_reducible refine List.mem_cons_of_mem _ ?_)))) (by (first | assumption | exact Nat.le_refl _ | exact Nat.add_le_add_left (by decide) _ | exact Nat.le_trans (by assumption) (by decide) | omega))) (Ev.var (by (repeat (first | with_reducible exact List.mem_cons_self | with_reducible refine List.mem_cons_of_mem _ ?_))))) (.inl (by kernel_rfl)) (by (repeat (first | exact Upd.nil | (with_reducible apply Upd.hit) | ((with_reducible apply Upd.miss); (focus decide))))) ?_
        cases q : t.M (key i' j' k) with
        | none =>
          have e : kS old new (i' + 1) (j' + 1) t k = t := by unfold kS; simp only [q]
          rw [e]
          refine Ex.skip (t_in T (by (repeat (first | with_reducible exact List.mem_cons_self | with_reducible refine List.mem_cons_of_mem _ ?_))) (by (repeat (first | with_reducible exact List.mem_cons_self | with_reducible refine List.mem_cons_of_mem _ ?_))) (by rw [q]; rfl)) ?_
          exact ex_keep (by (repeat (first | with_reducible exact List.mem_cons_self | with_reducible refine List.mem_cons_of_mem _ ?_))) (by (repeat (first | exact Upr.nil | (with_reducible apply Upr.hit) | (with_reducible apply Upr.vp)))) (by (refine sub_of_all ?_; repeat (first | exact True.intro | refine And.intro (by (repeat (first | with_reducible exact List.mem_cons_self | with_reducible refine List.mem_cons_of_mem _ ?_))) ?_)))
        | some v =>
          have tst : ∀ {ρ : Rho} {p1 p2 p3 p4 p5 p6 p7 p8 p9 q1 q2 q3 q4 : Pos} {k1 k2 : Nat}, (Str.ofString "self", Ent.res (TR prog w a dx dl ds old new cc t c')) ∈ ρ → (Str.ofString "i", Ent.vp (im (.int ((i' + 1 : Nat) : Int)))) ∈ ρ → (Str.ofString "j", Ent.vp (im (.int ((j' + 1 : Nat) : Int)))) ∈ ρ →
              Tst prog w ht (n + 1) (scA P 92) ρ (.Compare (.Subscript (.Attribute (.Name "self" p1) "old" p2) (.BinOp (.Name "i" p3) .Sub (.Constant (.int 1) k1 p4) p5) p6) [.Eq] [.Subscript (.Attribute (.Name "self" p7) "new" p8) (.BinOp (.Name "j" p9) .Sub (.Constant (.int 1) k2 q1) q2) q3] q4) (old.getD i' 0 == new.getD j' 0) := fun m1 m2 m3 =>
            t_eqI (Ev.itemJ (j := i') (Ev.sl (tA (vp := im (.list (intL old))) T m1 (.head _) (handed_im _) (by kernel_rfl) o_old)) (Ev.dec (Ev.var m2) (by (first | assumption | exact Nat.le_refl _ | exact Nat.add_le_add_left (by decide) _ | exact Nat.le_trans (by assumption) (by decide) | omega))) (by rw [lo]; (first | assumption | exact Nat.le_refl _ | exact Nat.add_le_add_left (by decide) _ | exact Nat.le_trans (by assumption) (by decide) | omega)) (intL_at (by (first | assumption | exact Nat.le_refl _ | exact Nat.add_le_add_left (by decide) _ | exact Nat.le_trans (by assumption) (by decide) | omega)))) (Ev.itemJ (j := j') (Ev.sl (tA (vp := im (.list (intL new))) T m1 (.tail _ (.head _)) (handed_im _) (by kernel_rfl) o_new)) (Ev.dec (Ev.var m3) (by (first | assumption | exact Nat.le_refl _ | exact Nat.add_le_add_left (by decide) _ | exact Nat.le_trans (by assumption) (by decide) | omega))) (by rw [ln]; (first | assumption | exact Nat.le_refl _ | exact Nat.add_le_add_left (by decide) _ | exact Nat.le_trans (by assumption) (by decide) | omega)) (intL_at (by (first | assumption | exact Nat.le_refl _ | exact Nat.add_le_add_left (by decide) _ | exact Nat.le_trans (by assumption) (by decide) | omega)))) rfl
          cases qq : (old.getD i' 0 == new.getD j' 0) with
          | true =>
            have e : kS old new (i' + 1) (j' + 1) t k = t.offer (key (i' + 1) (j' + 1) 0) v (.keep i' j') (key i' j' k) := by unfold kS; simp only [q]; rw [if_pos qq]
            rw [e]
            refine Ex.if_n (ρ₂ := [("i", .vp (im (.int ((i' + 1 : Nat) : Int)))), ("j", .vp (im (.int ((j' + 1 : Nat) : Int)))), ("self", .res (TR prog w a dx dl ds old new cc (t.offer (key (i' + 1) (j' + 1) 0) v (.keep i' j') (key i' j' k)) (c' + 1)))]) (t_in T (by (repeat (first | with_reducible exact List.mem_cons_self | with_reducible refine List.mem_cons_of_mem _ ?_))) (by (repeat (first | with_reducible exact List.mem_cons_self | with_reducible refine List.mem_cons_of_mem _ ?_))) (by rw [q]; rfl)) ?_ (Ex.nil (by (refine sub_of_all ?_; repeat (first | exact True.intro | refine And.intro (by (repeat (first | with_reducible exact List.mem_cons_self | with_reducible refine List.mem_cons_of_mem _ ?_))) ?_))))
            refine Ex.if_n (Tst.to (tst (by (repeat (first | with_reducible exact List.mem_cons_self | with_reducible refine List.mem_cons_of_mem _ ?_))) (by (repeat (first | with_reducible exact List.mem_cons_self | with_reducible refine List.mem_cons_of_mem _ ?_))) (by (repeat (first | with_reducible exact List.mem_cons_self | with_reducible refine List.mem_cons_of_mem _ ?_)))) qq) (ex_offer (place := key (i' + 1) (j' + 1) 0) (cost := v) (s := .keep i' j') (kk := key i' j' k) T (by (repeat (first | with_reducible exact List.mem_cons_self | with_reducible refine List.mem_cons_of_mem _ ?_))) ?_ (by (first | assumption | exact Nat.le_refl _ | exact Nat.add_le_add_left (by decide) _ | exact Nat.le_trans (by assumption) (by decide) | omega)) (by (repeat (first | exact Upr.nil | (with_reducible apply Upr.hit) | (with_reducible apply Upr.vp)))) (fun _ => rfl) (fun _ => ⟨_, rfl⟩) (fun _ => rfl)) (Ex.nil (by (refine sub_of_all ?_; repeat (first | exact True.intro | refine And.intro (by (repeat (first | with_reducible exact List.mem_cons_self | with_reducible refine List.mem_cons_of_mem _ ?_))) ?_))))
            exact EvS.cons (Ev.key3 (Ev.var (by (repeat (first | with_reducible exact List.mem_cons_self | with_reducible refine List.mem_cons_of_mem _ ?_)))) (Ev.var (by (repeat (first | with_reducible exact List.mem_cons_self | with_reducible refine List.mem_cons_of_mem _ ?_)))) (Ev.gPLAIN T (by kernel_rfl))) (EvS.cons (e_least T (by (repeat (first | with_reducible exact List.mem_cons_self | with_reducible refine List.mem_cons_of_mem _ ?_))) (by (repeat (first | with_reducible exact List.mem_cons_self | with_reducible refine List.mem_cons_of_mem _ ?_))) q) (EvS.cons (EvS.tuple (ds := (Stp.keep i' j').ds) (EvS.cons (Ev.str _ _) (EvS.cons (Ev.dec (Ev.var (by (repeat (first | with_reducible exact List.mem_cons_self | with_reducible refine List.mem_cons_of_mem _ ?_)))) (by (first | assumption | exact Nat.le_refl _ | exact Nat.add_le_add_left (by decide) _ | exact Nat.le_trans (by assumption) (by decide) | omega))) (EvS.cons (Ev.dec (Ev.var (by (repeat (first | with_reducible exact List.mem_cons_self | with_reducible refine List.mem_cons_of_mem _ ?_)))) (by (first | assumption | exact Nat.le_refl _ | exact Nat.add_le_add_left (by decide) _ | exact Nat.le_trans (by assumption) (by decide) | omega))) EvS.nil))) (hz := by show 3 ≤ 1000; decide)) (EvS.cons (Ev.var (by (repeat (first | with_reducible exact List.mem_cons_self | with_reducible refine List.mem_cons_of_mem _ ?_)))) EvS.nil)))
          | false =>
            have e : kS old new (i' + 1) (j' + 1) t k = t := by unfold kS; simp only [q]; rw [if_neg (by rw [qq]; decide)]
            rw [e]
            refine Ex.if_n (t_in T (by (repeat (first | with_reducible exact List.mem_cons_self | with_reducible refine List.mem_cons_of_mem _ ?_))) (by (repeat (first | with_reducible exact List.mem_cons_self | with_reducible refine List.mem_cons_of_mem _ ?_))) (by rw [q]; rfl)) ?_ Ex.nil0
            refine Ex.skip (Tst.to (tst (by (repeat (first | with_reducible exact List.mem_cons_self | with_reducible refine List.mem_cons_of_mem _ ?_))) (by (repeat (first | with_reducible exact List.mem_cons_self | with_reducible refine List.mem_cons_of_mem _ ?_))) (by (repeat (first | with_reducible exact List.mem_cons_self | with_reducible refine List.mem_cons_of_mem _ ?_)))) qq) ?_
            exact ex_keep (by (repeat (first | with_reducible exact List.mem_cons_self | with_reducible refine List.mem_cons_of_mem _ ?_))) (by (repeat (first | exact Upr.nil | (with_reducible apply Upr.hit) | (with_reducible apply Upr.vp)))) (by (refine sub_of_all ?_; repeat (first | exact True.intro | refine And.intro (by (repeat (first | with_reducible exact List.mem_cons_self | with_reducible refine List.mem_cons_of_mem _ ?_))) ?_)))
  have hN := NN.fold (F := kS old new i j) (fun _ k h => h.kS k) kinds t hN
  generalize Mine.kinds.foldl (kS old new i j) t = t at *
  refine Ex.kinds (F := dS cc i j) (c0 := c + 3) T (fun _ k h => h.dS k) hN (by (refine sub_of_all ?_; repeat (first | exact True.intro | refine And.intro (by (repeat (first | with_reducible exact List.mem_cons_self | with_reducible refine List.mem_cons_of_mem _ ?_))) ?_))) (fun t k c' hN hc' => ?_) ?_
  · cases i with
    | zero =>
      refine Ex.assignI (d := .tuple (intL [-1, (j : Int) - 1, k])) (Ev.key3 (Ev.dec (Ev.var (by (repeat (first | with_reducible exact List.mem_cons_self | with_reducible refine List.mem_cons_of_mem _ ?_)))) rfl) (Ev.dec (Ev.var (by (repeat (first | with_reducible exact List.mem_cons_self | with_reducible refine List.mem_cons_of_mem _ ?_)))) rfl) (Ev.var (by (repeat (first | with_reducible exact List.mem_cons_self | with_reducible refine List.mem_cons_of_mem _ ?_))))) (.inl (by kernel_rfl)) (by (repeat (first | exact Upd.nil | (with_reducible apply Upd.hit) | ((with_reducible apply Upd.miss); (focus decide))))) ?_
      refine Ex.skip (t_in T (by (repeat (first | with_reducible exact List.mem_cons_self | with_reducible refine List.mem_cons_of_mem _ ?_))) (by (repeat (first | with_reducible exact List.mem_cons_self | with_reducible refine List.mem_cons_of_mem _ ?_))) (by rw [nn_none hN (.inl (by decide))]; rfl)) ?_
      rw [show dS cc 0 j t k = t from rfl]
      exact ex_keep (by (repeat (first | with_reducible exact List.mem_cons_self | with_reducible refine List.mem_cons_of_mem _ ?_))) (by (repeat (first | exact Upr.nil | (with_reducible apply Upr.hit) | (with_reducible apply Upr.vp)))) (by (refine sub_of_all ?_; repeat (first | exact True.intro | refine And.intro (by (repeat (first | with_reducible exact List.mem_cons_self | with_reducible refine List.mem_cons_of_mem _ ?_))) ?_)))
    | succ i' =>
      cases j with
      | zero =>
        refine Ex.assignI (d := .tuple (intL [(i' : Int), -1, k])) (Ev.key3 (Ev.dec (Ev.var (by (repeat (first | with_reducible exact List.mem_cons_self | with_reducible refine List.mem_cons_of_mem _ ?_)))) (by (first | assumption | exact Nat.le_refl _ | exact Nat.add_le_add_left (by decide) _ | exact Nat.le_trans (by assumption) (by decide) | omega))) (Ev.dec (Ev.var (by (repeat (first | with_reducible exact List.mem_cons_self | with_reducible refine List.mem_cons_of_mem _ ?_)))) rfl) (Ev.var (by (repeat (first | with_reducible exact List.mem_cons_self | with_reducible refine List.mem_cons_of_mem _ ?_))))) (.inl (by kernel_rfl)) (by (repeat (first | exact Upd.nil | (with_reducible apply Upd.hit) | ((with_reducible apply Upd.miss); (focus decide))))) ?_
        refine Ex.skip (t_in T (by (repeat (first | with_reducible exact List.mem_cons_self | with_reducible refine List.mem_cons_of_mem _ ?_))) (by (repeat (first | with_reducible exact List.mem_cons_self | with_reducible refine List.mem_cons_of_mem _ ?_))) (by rw [nn_none hN (.inr (by decide))]; rfl)) ?_
        rw [show dS cc (i' + 1) 0 t k = t from rfl]
        exact ex_keep (by (repeat (first | with_reducible exact List.mem_cons_self | with_reducible refine List.mem_cons_of_mem _ ?_))) (by (repeat (first | exact Upr.nil | (with_reducible apply Upr.hit) | (with_reducible apply Upr.vp)))) (by (refine sub_of_all ?_; repeat (first | exact True.intro | refine And.intro (by (repeat (first | with_reducible exact List.mem_cons_self | with_reducible refine List.mem_cons_of_mem _ ?_))) ?_)))
      | succ j' =>
        refine Ex.assignI (d := .tuple (intL (key i' j' k))) (Ev.key3 (Ev.dec (Ev.var (by (repeat (first | with_reducible exact List.mem_cons_self | with_reducible refine List.mem_cons_of_mem _ ?_)))) (by (first | assumption | exact Nat.le_refl _ | exact Nat.add_le_add_left (by decide) _ | exact Nat.le_trans (by assumption) (by decide) | omega))) (Ev.dec (Ev.var (by (repeat (first | with_reducible exact List.mem_cons_self | with_reducible refine List.mem_cons_of_mem _ ?_)))) (by (first | assumption | exact Nat.le_refl _ | exact Nat.add_le_add_left (by decide) _ | exact Nat.le_trans (by assumption) (by decide) | omega))) (Ev.var (by (repeat (first | with_reducible exact List.mem_cons_self | with_reducible refine List.mem_cons_of_mem _ ?_))))) (.inl (by kernel_rfl)) (by (repeat (first | exact Upd.nil | (with_reducible apply Upd.hit) | ((with_reducible apply Upd.miss); (focus decide))))) ?_
        cases q : t.M (key i' j' k) with
        | none =>
          have e : dS cc (i' + 1) (j' + 1) t k = t := by unfold dS; simp only [q]
          rw [e]
          refine Ex.skip (t_in T (by (repeat (first | with_reducible exact List.mem_cons_self | with_reducible refine List.mem_cons_of_mem _ ?_))) (by (repeat (first | with_reducible exact List.mem_cons_self | with_reducible refine List.mem_cons_of_mem _ ?_))) (by rw [q]; rfl)) ?_
          exact ex_keep (by (repeat (first | with_reducible exact List.mem_cons_self | with_reducible refine List.mem_cons_of_mem _ ?_))) (by (repeat (first | exact Upr.nil | (with_reducible apply Upr.hit) | (with_reducible apply Upr.vp)))) (by (refine sub_of_all ?_; repeat (first | exact True.intro | refine And.intro (by (repeat (first | with_reducible exact List.mem_cons_self | with_reducible refine List.mem_cons_of_mem _ ?_))) ?_)))
        | some v =>
          have e : dS cc (i' + 1) (j' + 1) t k = t.offer (key (i' + 1) (j' + 1) 0) (v + cc.at j') (.draw i' j') (key i' j' k) := by unfold dS; simp only [q]
          rw [e]
          refine Ex.if_n (ρ₂ := [("i", .vp (im (.int ((i' + 1 : Nat) : Int)))), ("j", .vp (im (.int ((j' + 1 : Nat) : Int)))), ("self", .res (TR prog w a dx dl ds old new cc (t.offer (key (i' + 1) (j' + 1) 0) (v + cc.at j') (.draw i' j') (key i' j' k)) (c' + 1)))]) (t_in T (by (repeat (first | with_reducible exact List.mem_cons_self | with_reducible refine List.mem_cons_of_mem _ ?_))) (by (repeat (first | with_reducible exact List.mem_cons_self | with_reducible refine List.mem_cons_of_mem _ ?_))) (by rw [q]; rfl)) ?_ (Ex.nil (by (refine sub_of_all ?_; repeat (first | exact True.intro | refine And.intro (by (repeat (first | with_reducible exact List.mem_cons_self | with_reducible refine List.mem_cons_of_mem _ ?_))) ?_))))
          refine Ex.assignI (d := .int (v + cc.at j')) (Ev.bin (e_least T (by (repeat (first | with_reducible exact List.mem_cons_self | with_reducible refine List.mem_cons_of_mem _ ?_))) (by (repeat (first | with_reducible exact List.mem_cons_self | with_reducible refine List.mem_cons_of_mem _ ?_))) q) (e_draws T (by (repeat (first | with_reducible exact List.mem_cons_self | with_reducible refine List.mem_cons_of_mem _ ?_))) (Ev.dec (Ev.var (by (repeat (first | with_reducible exact List.mem_cons_self | with_reducible refine List.mem_cons_of_mem _ ?_)))) (by (first | assumption | exact Nat.le_refl _ | exact Nat.add_le_add_left (by decide) _ | exact Nat.le_trans (by assumption) (by decide) | omega))) (by (first | assumption | exact Nat.le_refl _ | exact Nat.add_le_add_left (by decide) _ | exact Nat.le_trans (by assumption) (by decide) | omega)) (by (first | assumption | exact Nat.le_refl _ | exact Nat.add_le_add_left (by decide) _ | exact Nat.le_trans (by assumption) (by decide) | omega))) (op_add _ _)) (.inl (by kernel_rfl)) (by (repeat (first | exact Upd.nil | (with_reducible apply Upd.hit) | ((with_reducible apply Upd.miss); (focus decide))))) ?_
          refine Ex.weak (ρ' := [("i", .vp (im (.int ((i' + 1 : Nat) : Int)))), ("j", .vp (im (.int ((j' + 1 : Nat) : Int)))), ("before", .vp (im (.tuple (intL (key i' j' k))))), ("cost", .vp (im (.int (v + cc.at j')))), ("self", .res (TR prog w a dx dl ds old new cc t c'))]) (by (refine sub_of_all ?_; repeat (first | exact True.intro | refine And.intro (by (repeat (first | with_reducible exact List.mem_cons_self | with_reducible refine List.mem_cons_of_mem _ ?_))) ?_))) ?_
          refine Ex.thenN (ex_offer (place := key (i' + 1) (j' + 1) 0) (cost := v + cc.at j') (s := .draw i' j') (kk := key i' j' k) T (by (repeat (first | with_reducible exact List.mem_cons_self | with_reducible refine List.mem_cons_of_mem _ ?_))) ?_ (by (first | assumption | exact Nat.le_refl _ | exact Nat.add_le_add_left (by decide) _ | exact Nat.le_trans (by assumption) (by decide) | omega)) (by (repeat (first | exact Upr.nil | (with_reducible apply Upr.hit) | (with_reducible apply Upr.vp)))) (fun _ => rfl) (fun _ => ⟨_, rfl⟩) (fun _ => rfl)) (by (refine sub_of_all ?_; repeat (first | exact True.intro | refine And.intro (by (repeat (first | with_reducible exact List.mem_cons_self | with_reducible refine List.mem_cons_of_mem _ ?_))) ?_)))
          exact EvS.cons (Ev.key3 (Ev.var (by (repeat (first | with_reducible exact List.mem_cons_self | with_reducible refine List.mem_cons_of_mem _ ?_)))) (Ev.var (by (repeat (first | with_reducible exact List.mem_cons_self | with_reducible refine List.mem_cons_of_mem _ ?_)))) (Ev.gPLAIN T (by kernel_rfl))) (EvS.cons (Ev.var (by (repeat (first | with_reducible exact List.mem_cons_self | with_reducible refine List.mem_cons_of_mem _ ?_)))) (EvS.cons (EvS.tuple (ds := (Stp.draw i' j').ds) (EvS.cons (Ev.str _ _) (EvS.cons (Ev.dec (Ev.var (by (repeat (first | with_reducible exact List.mem_cons_self | with_reducible refine List.mem_cons_of_mem _ ?_)))) (by (first | assumption | exact Nat.le_refl _ | exact Nat.add_le_add_left (by decide) _ | exact Nat.le_trans (by assumption) (by decide) | omega))) (EvS.cons (Ev.dec (Ev.var (by (repeat (first | with_reducible exact List.mem_cons_self | with_reducible refine List.mem_cons_of_mem _ ?_)))) (by (first | assumption | exact Nat.le_refl _ | exact Nat.add_le_add_left (by decide) _ | exact Nat.le_trans (by assumption) (by decide) | omega))) EvS.nil))) (hz := by show 3 ≤ 1000; decide)) (EvS.cons (Ev.var (by (repeat (first | with_reducible exact List.mem_cons_self | with_reducible refine List.mem_cons_of_mem _ ?_)))) EvS.nil)))
  have hN := NN.fold (F := dS cc i j) (fun _ k h => h.dS k) kinds t hN
  generalize Mine.kinds.foldl (dS cc i j) t = t at *
  refine Ex.kinds (F := xS cc i j) (c0 := c + 6) T (fun _ k h => h.xS k) hN (by (refine sub_of_all ?_; repeat (first | exact True.intro | refine And.intro (by (repeat (first | with_reducible exact List.mem_cons_self | with_reducible refine List.mem_cons_of_mem _ ?_))) ?_))) (fun t k c' hN hc' => ?_) ?_
  · cases i with
    | zero =>
      refine Ex.assignI (d := .tuple (intL [-1, (j : Int), k])) (Ev.key3 (Ev.dec (Ev.var (by (repeat (first | with_reducible exact List.mem_cons_self | with_reducible refine List.mem_cons_of_mem _ ?_)))) rfl) (Ev.var (by (repeat (first | with_reducible exact List.mem_cons_self | with_reducible refine List.mem_cons_of_mem _ ?_)))) (Ev.var (by (repeat (first | with_reducible exact List.mem_cons_self | with_reducible refine List.mem_cons_of_mem _ ?_))))) (.inl (by kernel_rfl)) (by (repeat (first | exact Upd.nil | (with_reducible apply Upd.hit) | ((with_reducible apply Upd.miss); (focus decide))))) ?_
      refine Ex.skip (t_in T (by (repeat (first | with_reducible exact List.mem_cons_self | with_reducible refine List.mem_cons_of_mem _ ?_))) (by (repeat (first | with_reducible exact List.mem_cons_self | with_reducible refine List.mem_cons_of_mem _ ?_))) (by rw [nn_none hN (.inl (by decide))]; rfl)) ?_
      rw [show xS cc 0 j t k = t from rfl]
      exact ex_keep (by (repeat (first | with_reducible exact List.mem_cons_self | with_reducible refine List.mem_cons_of_mem _ ?_))) (by (repeat (first | exact Upr.nil | (with_reducible apply Upr.hit) | (with_reducible apply Upr.vp)))) (by (refine sub_of_all ?_; repeat (first | exact True.intro | refine And.intro (by (repeat (first | with_reducible exact List.mem_cons_self | with_reducible refine List.mem_cons_of_mem _ ?_))) ?_)))
    | succ i' =>
      refine Ex.assignI (d := .tuple (intL (key i' j k))) (Ev.key3 (Ev.dec (Ev.var (by (repeat (first | with_reducible exact List.mem_cons_self | with_reducible refine List.mem_cons_of_mem _ ?_)))) (by (first | assumption | exact Nat.le_refl _ | exact Nat.add_le_add_left (by decide) _ | exact Nat.le_trans (by assumption) (by decide) | omega))) (Ev.var (by (repeat (first | with_reducible exact List.mem_cons_self | with_reducible refine List.mem_cons_of_mem _ ?_)))) (Ev.var (by (repeat (first | with_reducible exact List.mem_cons_self | with_reducible refine List.mem_cons_of_mem _ ?_))))) (.inl (by kernel_rfl)) (by (repeat (first | exact Upd.nil | (with_reducible apply Upd.hit) | ((with_reducible apply Upd.miss); (focus decide))))) ?_
      cases q : t.M (key i' j k) with
      | none =>
        have e : xS cc (i' + 1) j t k = t := by unfold xS; simp only [q]
        rw [e]
        refine Ex.skip (t_in T (by (repeat (first | with_reducible exact List.mem_cons_self | with_reducible refine List.mem_cons_of_mem _ ?_))) (by (repeat (first | with_reducible exact List.mem_cons_self | with_reducible refine List.mem_cons_of_mem _ ?_))) (by rw [q]; rfl)) ?_
        exact ex_keep (by (repeat (first | with_reducible exact List.mem_cons_self | with_reducible refine List.mem_cons_of_mem _ ?_))) (by (repeat (first | exact Upr.nil | (with_reducible apply Upr.hit) | (with_reducible apply Upr.vp)))) (by (refine sub_of_all ?_; repeat (first | exact True.intro | refine And.intro (by (repeat (first | with_reducible exact List.mem_cons_self | with_reducible refine List.mem_cons_of_mem _ ?_))) ?_)))
      | some v =>
        have e : xS cc (i' + 1) j t k = t.offer (key (i' + 1) j 1) (v + cc.dele k) (.del i') (key i' j k) := by unfold xS; simp only [q]
        rw [e]
        refine Ex.if_n (ρ₂ := [("i", .vp (im (.int ((i' + 1 : Nat) : Int)))), ("j", .vp (im (.int (j : Int)))), ("self", .res (TR prog w a dx dl ds old new cc (t.offer (key (i' + 1) j 1) (v + cc.dele k) (.del i') (key i' j k)) (c' + 1)))]) (t_in T (by (repeat (first | with_reducible exact List.mem_cons_self | with_reducible refine List.mem_cons_of_mem _ ?_))) (by (repeat (first | with_reducible exact List.mem_cons_self | with_reducible refine List.mem_cons_of_mem _ ?_))) (by rw [q]; rfl)) ?_ (Ex.nil (by (refine sub_of_all ?_; repeat (first | exact True.intro | refine And.intro (by (repeat (first | with_reducible exact List.mem_cons_self | with_reducible refine List.mem_cons_of_mem _ ?_))) ?_))))
        refine Ex.assignI (d := .int (v + cc.dele k)) (Ev.bin (e_least T (by (repeat (first | with_reducible exact List.mem_cons_self | with_reducible refine List.mem_cons_of_mem _ ?_))) (by (repeat (first | with_reducible exact List.mem_cons_self | with_reducible refine List.mem_cons_of_mem _ ?_))) q) (Ev.meth (al := _) (tA (vp := costsV cc) T (show (Str.ofString "self", Ent.res (TR prog w a dx dl ds old new cc t c')) ∈ _ from by (repeat (first | with_reducible exact List.mem_cons_self | with_reducible refine List.mem_cons_of_mem _ ?_))) (.tail _ (.tail _ (.head _))) (handed_costs _) (by kernel_rfl) o_costs) (cls46 T) (fa := 36) (by kernel_rfl) (T.k _ _ rfl) rfl rfl (by kernel_rfl) (by kernel_rfl) (of_decide_eq_true (by kernel_rfl)) o_deleting (EvS.cons (Ev.var (by (repeat (first | with_reducible exact List.mem_cons_self | with_reducible refine List.mem_cons_of_mem _ ?_)))) EvS.nil) (fn_deleting T k)) (op_add _ _)) (.inl (by kernel_rfl)) (by (repeat (first | exact Upd.nil | (with_reducible apply Upd.hit) | ((with_reducible apply Upd.miss); (focus decide))))) ?_
        refine Ex.weak (ρ' := [("i", .vp (im (.int ((i' + 1 : Nat) : Int)))), ("j", .vp (im (.int (j : Int)))), ("before", .vp (im (.tuple (intL (key i' j k))))), ("cost", .vp (im (.int (v + cc.dele k)))), ("self", .res (TR prog w a dx dl ds old new cc t c'))]) (by (refine sub_of_all ?_; repeat (first | exact True.intro | refine And.intro (by (repeat (first | with_reducible exact List.mem_cons_self | with_reducible refine List.mem_cons_of_mem _ ?_))) ?_))) ?_
        refine Ex.thenN (ex_offer (place := key (i' + 1) j 1) (cost := v + cc.dele k) (s := .del i') (kk := key i' j k) T (by (repeat (first | with_reducible exact List.mem_cons_self | with_reducible refine List.mem_cons_of_mem _ ?_))) ?_ (by (first | assumption | exact Nat.le_refl _ | exact Nat.add_le_add_left (by decide) _ | exact Nat.le_trans (by assumption) (by decide) | omega)) (by (repeat (first | exact Upr.nil | (with_reducible apply Upr.hit) | (with_reducible apply Upr.vp)))) (fun _ => rfl) (fun _ => ⟨_, rfl⟩) (fun _ => rfl)) (by (refine sub_of_all ?_; repeat (first | exact True.intro | refine And.intro (by (repeat (first | with_reducible exact List.mem_cons_self | with_reducible refine List.mem_cons_of_mem _ ?_))) ?_)))
        exact EvS.cons (Ev.key3 (Ev.var (by (repeat (first | with_reducible exact List.mem_cons_self | with_reducible refine List.mem_cons_of_mem _ ?_)))) (Ev.var (by (repeat (first | with_reducible exact List.mem_cons_self | with_reducible refine List.mem_cons_of_mem _ ?_)))) (Ev.gGOING T (by kernel_rfl))) (EvS.cons (Ev.var (by (repeat (first | with_reducible exact List.mem_cons_self | with_reducible refine List.mem_cons_of_mem _ ?_)))) (EvS.cons (EvS.tuple (ds := (Stp.del i').ds) (EvS.cons (Ev.str _ _) (EvS.cons (Ev.dec (Ev.var (by (repeat (first | with_reducible exact List.mem_cons_self | with_reducible refine List.mem_cons_of_mem _ ?_)))) (by (first | assumption | exact Nat.le_refl _ | exact Nat.add_le_add_left (by decide) _ | exact Nat.le_trans (by assumption) (by decide) | omega))) EvS.nil)) (hz := by show 2 ≤ 1000; decide)) (EvS.cons (Ev.var (by (repeat (first | with_reducible exact List.mem_cons_self | with_reducible refine List.mem_cons_of_mem _ ?_)))) EvS.nil)))
  have hN := NN.fold (F := xS cc i j) (fun _ k h => h.xS k) kinds t hN
  generalize Mine.kinds.foldl (xS cc i j) t = t at *
  refine Ex.kinds (F := nS cc i j) (c0 := c + 9) T (fun _ k h => h.nS k) hN (by (refine sub_of_all ?_; repeat (first | exact True.intro | refine And.intro (by (repeat (first | with_reducible exact List.mem_cons_self | with_reducible refine List.mem_cons_of_mem _ ?_))) ?_))) (fun t k c' hN hc' => ?_) ?_
  · cases j with
    | zero =>
      refine Ex.assignI (d := .tuple (intL [(i : Int), -1, k])) (Ev.key3 (Ev.var (by (repeat (first | with_reducible exact List.mem_cons_self | with_reducible refine List.mem_cons_of_mem _ ?_)))) (Ev.dec (Ev.var (by (repeat (first | with_reducible exact List.mem_cons_self | with_reducible refine List.mem_cons_of_mem _ ?_)))) rfl) (Ev.var (by (repeat (first | with_reducible exact List.mem_cons_self | with_reducible refine List.mem_cons_of_mem _ ?_))))) (.inl (by kernel_rfl)) (by (repeat (first | exact Upd.nil | (with_reducible apply Upd.hit) | ((with_reducible apply Upd.miss); (focus decide))))) ?_
      refine Ex.skip (t_in T (by (repeat (first | with_reducible exact List.mem_cons_self | with_reducible refine List.mem_cons_of_mem _ ?_))) (by (repeat (first | with_reducible exact List.mem_cons_self | with_reducible refine List.mem_cons_of_mem _ ?_))) (by rw [nn_none hN (.inr (by decide))]; rfl)) ?_
      rw [show nS cc i 0 t k = t from rfl]
      exact ex_keep (by (repeat (first | with_reducible exact List.mem_cons_self | with_reducible refine List.mem_cons_of_mem _ ?_))) (by (repeat (first | exact Upr.nil | (with_reducible apply Upr.hit) | (with_reducible apply Upr.vp)))) (by (refine sub_of_all ?_; repeat (first | exact True.intro | refine And.intro (by (repeat (first | with_reducible exact List.mem_cons_self | with_reducible refine List.mem_cons_of_mem _ ?_))) ?_)))
    | succ j' =>
      refine Ex.assignI (d := .tuple (intL (key i j' k))) (Ev.key3 (Ev.var (by (repeat (first | with_reducible exact List.mem_cons_self | with_reducible refine List.mem_cons_of_mem _ ?_)))) (Ev.dec (Ev.var (by (repeat (first | with_reducible exact List.mem_cons_self | with_reducible refine List.mem_cons_of_mem _ ?_)))) (by (first | assumption | exact Nat.le_refl _ | exact Nat.add_le_add_left (by decide) _ | exact Nat.le_trans (by assumption) (by decide) | omega))) (Ev.var (by (repeat (first | with_reducible exact List.mem_cons_self | with_reducible refine List.mem_cons_of_mem _ ?_))))) (.inl (by kernel_rfl)) (by (repeat (first | exact Upd.nil | (with_reducible apply Upd.hit) | ((with_reducible apply Upd.miss); (focus decide))))) ?_
      cases q : t.M (key i j' k) with
      | none =>
        have e : nS cc i (j' + 1) t k = t := by unfold nS; simp only [q]
        rw [e]
        refine Ex.skip (t_in T (by (repeat (first | with_reducible exact List.mem_cons_self | with_reducible refine List.mem_cons_of_mem _ ?_))) (by (repeat (first | with_reducible exact List.mem_cons_self | with_reducible refine List.mem_cons_of_mem _ ?_))) (by rw [q]; rfl)) ?_
        exact ex_keep (by (repeat (first | with_reducible exact List.mem_cons_self | with_reducible refine List.mem_cons_of_mem _ ?_))) (by (repeat (first | exact Upr.nil | (with_reducible apply Upr.hit) | (with_reducible apply Upr.vp)))) (by (refine sub_of_all ?_; repeat (first | exact True.intro | refine And.intro (by (repeat (first | with_reducible exact List.mem_cons_self | with_reducible refine List.mem_cons_of_mem _ ?_))) ?_)))
      | some v =>
        have e : nS cc i (j' + 1) t k = t.offer (key i (j' + 1) 2) (v + cc.inse k j') (.ins j') (key i j' k) := by unfold nS; simp only [q]
        rw [e]
        refine Ex.if_n (ρ₂ := [("i", .vp (im (.int (i : Int)))), ("j", .vp (im (.int ((j' + 1 : Nat) : Int)))), ("self", .res (TR prog w a dx dl ds old new cc (t.offer (key i (j' + 1) 2) (v + cc.inse k j') (.ins j') (key i j' k)) (c' + 1)))]) (t_in T (by (repeat (first | with_reducible exact List.mem_cons_self | with_reducible refine List.mem_cons_of_mem _ ?_))) (by (repeat (first | with_reducible exact List.mem_cons_self | with_reducible refine List.mem_cons_of_mem _ ?_))) (by rw [q]; rfl)) ?_ (Ex.nil (by (refine sub_of_all ?_; repeat (first | exact True.intro | refine And.intro (by (repeat (first | with_reducible exact List.mem_cons_self | with_reducible refine List.mem_cons_of_mem _ ?_))) ?_))))
        refine Ex.assignI (d := .int (v + cc.inse k j')) (Ev.bin (e_least T (by (repeat (first | with_reducible exact List.mem_cons_self | with_reducible refine List.mem_cons_of_mem _ ?_))) (by (repeat (first | with_reducible exact List.mem_cons_self | with_reducible refine List.mem_cons_of_mem _ ?_))) q) (Ev.meth (al := _) (tA (vp := costsV cc) T (show (Str.ofString "self", Ent.res (TR prog w a dx dl ds old new cc t c')) ∈ _ from by (repeat (first | with_reducible exact List.mem_cons_self | with_reducible refine List.mem_cons_of_mem _ ?_))) (.tail _ (.tail _ (.head _))) (handed_costs _) (by kernel_rfl) o_costs) (cls46 T) (fa := 43) (by kernel_rfl) (T.k _ _ rfl) rfl rfl (by kernel_rfl) (by kernel_rfl) (of_decide_eq_true (by kernel_rfl)) o_inserting (EvS.cons (Ev.var (by (repeat (first | with_reducible exact List.mem_cons_self | with_reducible refine List.mem_cons_of_mem _ ?_)))) (EvS.cons (Ev.dec (i := j' + 1) (v := (j' : Int)) (Ev.var (by (repeat (first | with_reducible exact List.mem_cons_self | with_reducible refine List.mem_cons_of_mem _ ?_)))) (by (first | assumption | exact Nat.le_refl _ | exact Nat.add_le_add_left (by decide) _ | exact Nat.le_trans (by assumption) (by decide) | omega))) EvS.nil)) (fn_inserting T k (by (first | assumption | exact Nat.le_refl _ | exact Nat.add_le_add_left (by decide) _ | exact Nat.le_trans (by assumption) (by decide) | omega)) (by (first | assumption | exact Nat.le_refl _ | exact Nat.add_le_add_left (by decide) _ | exact Nat.le_trans (by assumption) (by decide) | omega)))) (op_add _ _)) (.inl (by kernel_rfl)) (by (repeat (first | exact Upd.nil | (with_reducible apply Upd.hit) | ((with_reducible apply Upd.miss); (focus decide))))) ?_
        refine Ex.weak (ρ' := [("i", .vp (im (.int (i : Int)))), ("j", .vp (im (.int ((j' + 1 : Nat) : Int)))), ("before", .vp (im (.tuple (intL (key i j' k))))), ("cost", .vp (im (.int (v + cc.inse k j')))), ("self", .res (TR prog w a dx dl ds old new cc t c'))]) (by (refine sub_of_all ?_; repeat (first | exact True.intro | refine And.intro (by (repeat (first | with_reducible exact List.mem_cons_self | with_reducible refine List.mem_cons_of_mem _ ?_))) ?_))) ?_
        refine Ex.thenN (ex_offer (place := key i (j' + 1) 2) (cost := v + cc.inse k j') (s := .ins j') (kk := key i j' k) T (by (repeat (first | with_reducible exact List.mem_cons_self | with_reducible refine List.mem_cons_of_mem _ ?_))) ?_ (by (first | assumption | exact Nat.le_refl _ | exact Nat.add_le_add_left (by decide) _ | exact Nat.le_trans (by assumption) (by decide) | omega)) (by (repeat (first | exact Upr.nil | (with_reducible apply Upr.hit) | (with_reducible apply Upr.vp)))) (fun _ => rfl) (fun _ => ⟨_, rfl⟩) (fun _ => rfl)) (by (refine sub_of_all ?_; repeat (first | exact True.intro | refine And.intro (by (repeat (first | with_reducible exact List.mem_cons_self | with_reducible refine List.mem_cons_of_mem _ ?_))) ?_)))
        exact EvS.cons (Ev.key3 (Ev.var (by (repeat (first | with_reducible exact List.mem_cons_self | with_reducible refine List.mem_cons_of_mem _ ?_)))) (Ev.var (by (repeat (first | with_reducible exact List.mem_cons_self | with_reducible refine List.mem_cons_of_mem _ ?_)))) (Ev.gCOMING T (by kernel_rfl))) (EvS.cons (Ev.var (by (repeat (first | with_reducible exact List.mem_cons_self | with_reducible refine List.mem_cons_of_mem _ ?_)))) (EvS.cons (EvS.tuple (ds := (Stp.ins j').ds) (EvS.cons (Ev.str _ _) (EvS.cons (Ev.dec (Ev.var (by (repeat (first | with_reducible exact List.mem_cons_self | with_reducible refine List.mem_cons_of_mem _ ?_)))) (by (first | assumption | exact Nat.le_refl _ | exact Nat.add_le_add_left (by decide) _ | exact Nat.le_trans (by assumption) (by decide) | omega))) EvS.nil)) (hz := by show 2 ≤ 1000; decide)) (EvS.cons (Ev.var (by (repeat (first | with_reducible exact List.mem_cons_self | with_reducible refine List.mem_cons_of_mem _ ?_)))) EvS.nil)))
  exact Ex.nil (by (refine sub_of_all ?_; repeat (first | exact True.intro | refine And.intro (by (repeat (first | with_reducible exact List.mem_cons_self | with_reducible refine List.mem_cons_of_mem _ ?_))) ?_)))
end
noncomputable def tb0 : Tb := ⟨put (fun _ => none) (key 0 0 0) 0, fun _ => none⟩
noncomputable def rowT (old new : List Int) (c : Cst) (i : Nat) (t : Tb) : Tb := (List.range (new.length + 1)).foldl (fun t j => fillT old new c i j t) t
noncomputable def tabT (old new : List Int) (c : Cst) : Tb := (List.range (old.length + 1)).foldl (fun t i => rowT old new c i t) tb0
theorem NN0 : NN tb0 := by
  intro x y k h
  have h : put (fun _ => (none : Option Int)) (key 0 0 0) 0 [x, y, k] ≠ none := h
  unfold put at h
  by_cases q : [x, y, k] = key 0 0 0
  · have e1 : x = ((0 : Nat) : Int) := (List.cons.inj q).1
    have e2 : y = ((0 : Nat) : Int) := (List.cons.inj (List.cons.inj q).2).1
    (first | assumption | exact Nat.le_refl _ | exact Nat.add_le_add_left (by decide) _ | exact Nat.le_trans (by assumption) (by decide) | omega)
  · rw [if_neg q] at h
    exact absurd rfl h
theorem NN.foldN {F : Tb → Nat → Tb} (hF : ∀ t k, NN t → NN (F t k)) : ∀ (l : List Nat) (t : Tb), NN t → NN (l.foldl F t)
  | [], t, h => h
  | k :: l, t, h => NN.foldN hF l _ (hF t k h)
theorem NN.rowT {old new : List Int} {c : Cst} {i : Nat} {t : Tb} (h : NN t) : NN (rowT old new c i t) := NN.foldN (fun _ _ h => h.fillT) _ _ h
section
variable {P : Params} {mg mb : Str → Option Value} {prog : Program} {w : World} {ht : Heap} {n : Nat} {sc : Scope} {ρ ρ' ρ₁ ρ₂ : Rho} {x : Str} {xp pos apos p0 p1 p2 p3 p4 : Pos} {d : PyData} {e e1 e2 : Expr} {m : Nat} {rest body : List Stmt} {po : Post} {a dx dl ds : Addr} {c : Nat} {old new : List Int} {cc : Cst} {t : Tb} {i j : Nat} {k : Int}
noncomputable def tabV (prog : Program) (w : World) (old new : List Int) (cc : Cst) (t : Tb) (c : Nat) : VP := objP 100 [("old", im (.list (intL old))), ("new", im (.list (intL new))), ("costs", costsV cc), ("least", dictVP prog w t.mD c), ("step", dictVP prog w t.sD c)]
theorem upto_at {n q : Nat} {d : PyData} (h : (Mine.upto n)[q]? = some d) : d = .int (q : Int) ∧ q < n := by
  have hl := (List.getElem?_eq_some_iff.mp h).1
  rw [upto_len] at hl
  rw [upto_get hl] at h
  exact ⟨(Option.some.inj h).symm, hl⟩
theorem range_snoc (n : Nat) : List.range (n + 1) = List.range n ++ [n] := List.range_succ
theorem fn_Table (T : TopX P mg mb ht) (hz1 : old.length ≤ 3) (hz2 : new.length ≤ 3) (hdr : cc.dr.length = new.length) :
    Fn prog w ht (n + 5) (.ref 100) [kim (.list (intL old)), kim (.list (intL new)), (costsV cc).kp] (tabV prog w old new cc (tabT old new cc) 193).kp := by
  refine (F78 P).cls (names := ["old", "new", "costs"]) (ps := [im (.list (intL old)), im (.list (intL new)), costsV cc]) (ι := Addr × Addr)
    (P' := fun x dx i => TR prog w x dx i.1 i.2 old new cc (tabT old new cc) 193) (ρs := fun x dx i => [("self", .res (TR prog w x dx i.1 i.2 old new cc (tabT old new cc) 193))]) T (cls100 T) (by kernel_rfl) rfl (fun _ _ _ => by (repeat (first | with_reducible exact List.mem_cons_self | with_reducible refine List.mem_cons_of_mem _ ?_)))
    (fun x dx => (show Ex _ _ _ _ _ [("self", .res (objR x dx 100 [])), ("old", .vp (im (.list (intL old)))), ("new", .vp (im (.list (intL new)))), ("costs", .vp (costsV cc))] _ _ from ?_))
    (fun x dx i {X X' h₀ h} z hX nas nx nd => ?_)
  · have lo : (intL old).length = old.length := by simp [intL]
    have ln : (intL new).length = new.length := by simp [intL]
    refine Ex.set100 (al := []) (vp := im (.list (intL old))) T (by (repeat (first | with_reducible exact List.mem_cons_self | with_reducible refine List.mem_cons_of_mem _ ?_))) (Ev.name (by (repeat (first | with_reducible exact List.mem_cons_self | with_reducible refine List.mem_cons_of_mem _ ?_)))) (by (repeat (first | exact Upr.nil | (with_reducible apply Upr.hit) | (with_reducible apply Upr.vp)))) (by kernel_rfl) o_old (by decide) (by decide) ?_
    refine Ex.set100 (vp := im (.list (intL new))) T (by (repeat (first | with_reducible exact List.mem_cons_self | with_reducible refine List.mem_cons_of_mem _ ?_))) (Ev.name (by (repeat (first | with_reducible exact List.mem_cons_self | with_reducible refine List.mem_cons_of_mem _ ?_)))) (by (repeat (first | exact Upr.nil | (with_reducible apply Upr.hit) | (with_reducible apply Upr.vp)))) (by kernel_rfl) o_new (of_decide_eq_true (by kernel_rfl)) (by simp) ?_
    refine Ex.set100 (vp := costsV cc) T (by (repeat (first | with_reducible exact List.mem_cons_self | with_reducible refine List.mem_cons_of_mem _ ?_))) (Ev.name (by (repeat (first | with_reducible exact List.mem_cons_self | with_reducible refine List.mem_cons_of_mem _ ?_)))) (by (repeat (first | exact Upr.nil | (with_reducible apply Upr.hit) | (with_reducible apply Upr.vp)))) (by kernel_rfl) o_costs (of_decide_eq_true (by kernel_rfl)) (by simp) ?_
    have a3 : ∃ o, ht.get? 3 = some o := ⟨_, T.k _ _ rfl⟩
    refine Ex.setattrD (P := objR x dx 100 (tabAl old new cc)) (P' := fun d => sepD (objR x dx 100 (tabAl old new cc ++ [(Str.ofString "least", isv (.ref d))])) (dictR prog w d (put nomap (key 0 0 0) (.int 0)) 1)) (ρ' := fun d => [("old", .vp (im (.list (intL old)))), ("new", .vp (im (.list (intL new)))), ("costs", .vp (costsV cc)), ("self", .res (sepD (objR x dx 100 (tabAl old new cc ++ [(Str.ofString "least", isv (.ref d))])) (dictR prog w d (put nomap (key 0 0 0) (.int 0)) 1)))])
      (by (repeat (first | exact List.mem_cons_self | refine List.mem_cons_of_mem _ ?_))) rfl (fun z => z) (.head _) (.tail _ (.head _)) (cls100 T) (Ev.dict1 (v := .int 0) (Ev.key3 (Ev.int _ _) (Ev.int _ _) (Ev.gPLAIN T (by kernel_rfl))) (Ev.int _ _)) a3
      (fun d {X h h'} z hX dX k x' D nP => ⟨x', ⟨D.1, D.2.step (fun b o nb e => k b o (fun q => nb (hX b q)) e) (fun o e => k _ _ nP e) fun _ m => .inl m⟩, fun b mb q => nP (List.mem_singleton.mp q ▸ mb)⟩) (fun _ => rfl) (fun _ => rfl) (fun d => by (repeat (first | exact Upr.nil | (with_reducible apply Upr.hit) | (with_reducible apply Upr.vp)))) (by kernel_rfl) (by kernel_rfl) o_least (of_decide_eq_true (by kernel_rfl)) (by simp) trivial (fun d => ?_)
    refine Ex.setattrD (P := sepD (objR x dx 100 (tabAl old new cc ++ [(Str.ofString "least", isv (.ref d))])) (dictR prog w d (put nomap (key 0 0 0) (.int 0)) 1)) (P' := fun d2 => tabR1 prog w x dx d d2 old new cc (put nomap (key 0 0 0) (.int 0)) nomap 1 0) (ρ' := fun d2 => [("old", .vp (im (.list (intL old)))), ("new", .vp (im (.list (intL new)))), ("costs", .vp (costsV cc)), ("self", .res (tabR1 prog w x dx d d2 old new cc (put nomap (key 0 0 0) (.int 0)) nomap 1 0))])
      (by (repeat (first | exact List.mem_cons_self | refine List.mem_cons_of_mem _ ?_))) rfl (fun z => z.1) (.head _) (.tail _ (.head _)) (cls100 T) Ev.dict0 a3
      (fun d2 {X h h'} z hX dX k x' D nP => ?_) (fun _ => rfl) (fun _ => rfl) (fun d => by (repeat (first | exact Upr.nil | (with_reducible apply Upr.hit) | (with_reducible apply Upr.vp)))) (by kernel_rfl) (by kernel_rfl) o_step (of_decide_eq_true (by kernel_rfl)) (by simp) trivial (fun d2 => ?_)
    · have dis : ∀ b ∈ [x, dx], b ∉ [d] := z.2.2
      have kX : KpX X h h' := fun b o nb e => k b o (fun q => nb (hX b (List.mem_append_left _ q))) e
      refine ⟨⟨x', ⟨z.2.1.1, z.2.1.2.step kX (fun o e => k _ _ (fun q => dis d q (.head _)) e) fun _ m => .inl m⟩, z.2.2⟩, ⟨D.1, D.2.step kX (fun o e => k _ _ (fun q => nP (List.mem_append_left _ q)) e) fun _ m => .inl m⟩, fun b mb q => nP (List.mem_singleton.mp q ▸ mb)⟩
    have e1 : put nomap (key 0 0 0) (.int 0) = tb0.mD := put_mD ⟨fun _ => none, fun _ => none⟩ (key 0 0 0) 0
    rw [e1]
    refine Ex.cast (P := tabR1 prog w x dx d d2 old new cc tb0.mD nomap 1 0) (P' := TR prog w x dx d d2 old new cc tb0 1) (x := Str.ofString "self") (by (repeat (first | with_reducible exact List.mem_cons_self | with_reducible refine List.mem_cons_of_mem _ ?_))) (fun z => tab_mono z (by (first | assumption | exact Nat.le_refl _ | exact Nat.add_le_add_left (by decide) _ | exact Nat.le_trans (by assumption) (by decide) | omega)) (by (first | assumption | exact Nat.le_refl _ | exact Nat.add_le_add_left (by decide) _ | exact Nat.le_trans (by assumption) (by decide) | omega))) rfl rfl (by (repeat (first | exact Upr.nil | (with_reducible apply Upr.hit) | (with_reducible apply Upr.vp)))) ?_
    have bd : ∀ i, NN ((List.range i).foldl (fun t i => rowT old new cc i t) tb0) := fun i => NN.foldN (fun _ _ h => h.rowT) _ _ NN0
    refine Ex.for_ (ds := Mine.upto (old.length + 1)) (Inv := fun q => [("self", .res (TR prog w x dx d d2 old new cc ((List.range q).foldl (fun t i => rowT old new cc i t) tb0) (1 + 48 * q))), ("old", .vp (im (.list (intL old)))), ("new", .vp (im (.list (intL new))))])
      (ρin := fun q d3 => [("self", .res (TR prog w x dx d d2 old new cc ((List.range q).foldl (fun t i => rowT old new cc i t) tb0) (1 + 48 * q))), ("old", .vp (im (.list (intL old)))), ("new", .vp (im (.list (intL new)))), ("i", .vp (im d3))])
      (Ev.range_ T (by kernel_rfl) (Ev.inc (Ev.to (Ev.len_ (ds := intL old) T (by kernel_rfl) (Ev.sl (Ev.var (by (repeat (first | with_reducible exact List.mem_cons_self | with_reducible refine List.mem_cons_of_mem _ ?_))))) (by rw [lo]; (first | assumption | exact Nat.le_refl _ | exact Nat.add_le_add_left (by decide) _ | exact Nat.le_trans (by assumption) (by decide) | omega))) (by rw [lo]))) (by (first | assumption | exact Nat.le_refl _ | exact Nat.add_le_add_left (by decide) _ | exact Nat.le_trans (by assumption) (by decide) | omega))) (show ∀ y ∈ ([("self", .res (TR prog w x dx d d2 old new cc tb0 1)), ("old", .vp (im (.list (intL old)))), ("new", .vp (im (.list (intL new))))] : Rho), _ from by (refine sub_of_all ?_; repeat (first | exact True.intro | refine And.intro (by (repeat (first | with_reducible exact List.mem_cons_self | with_reducible refine List.mem_cons_of_mem _ ?_))) ?_))) (fun q d3 hd => As.name (.inl (by kernel_rfl)) (by (repeat (first | exact Upd.nil | (with_reducible apply Upd.hit) | ((with_reducible apply Upd.miss); (focus decide)))))) (fun q d3 hd => ?_) ?_
    · obtain ⟨rfl, hq⟩ := upto_at hd
      have hN := bd q
      have e2 : (List.range (q + 1)).foldl (fun t i => rowT old new cc i t) tb0 = rowT old new cc q ((List.range q).foldl (fun t i => rowT old new cc i t) tb0) := by rw [range_snoc, List.foldl_append]; rfl
      rw [e2]
      generalize (List.range q).foldl (fun t i => rowT old new cc i t) tb0 = t at *
      have bd2 : ∀ r, NN ((List.range r).foldl (fun t j => fillT old new cc q j t) t) := fun r => NN.foldN (fun _ _ h => h.fillT) _ _ hN
      refine Ex.for_ (ds := Mine.upto (new.length + 1)) (Inv := fun r => [("self", .res (TR prog w x dx d d2 old new cc ((List.range r).foldl (fun t j => fillT old new cc q j t) t) (1 + 48 * q + 12 * r))), ("old", .vp (im (.list (intL old)))), ("new", .vp (im (.list (intL new)))), ("i", .vp (im (.int (q : Int))))])
        (ρin := fun r d3 => [("self", .res (TR prog w x dx d d2 old new cc ((List.range r).foldl (fun t j => fillT old new cc q j t) t) (1 + 48 * q + 12 * r))), ("old", .vp (im (.list (intL old)))), ("new", .vp (im (.list (intL new)))), ("i", .vp (im (.int (q : Int)))), ("j", .vp (im d3))])
        (Ev.range_ T (by kernel_rfl) (Ev.inc (Ev.to (Ev.len_ (ds := intL new) T (by kernel_rfl) (Ev.sl (Ev.var (by (repeat (first | with_reducible exact List.mem_cons_self | with_reducible refine List.mem_cons_of_mem _ ?_))))) (by rw [ln]; (first | assumption | exact Nat.le_refl _ | exact Nat.add_le_add_left (by decide) _ | exact Nat.le_trans (by assumption) (by decide) | omega))) (by rw [ln]))) (by (first | assumption | exact Nat.le_refl _ | exact Nat.add_le_add_left (by decide) _ | exact Nat.le_trans (by assumption) (by decide) | omega))) (show ∀ y ∈ ([("self", .res (TR prog w x dx d d2 old new cc t (1 + 48 * q))), ("old", .vp (im (.list (intL old)))), ("new", .vp (im (.list (intL new)))), ("i", .vp (im (.int (q : Int))))] : Rho), _ from by (refine sub_of_all ?_; repeat (first | exact True.intro | refine And.intro (by (repeat (first | with_reducible exact List.mem_cons_self | with_reducible refine List.mem_cons_of_mem _ ?_))) ?_))) (fun r d3 hd => As.name (.inl (by kernel_rfl)) (by (repeat (first | exact Upd.nil | (with_reducible apply Upd.hit) | ((with_reducible apply Upd.miss); (focus decide)))))) (fun r d3 hd => ?_) ?_
      · obtain ⟨rfl, hr⟩ := upto_at hd
        have hN2 := bd2 r
        have e3 : (List.range (r + 1)).foldl (fun t j => fillT old new cc q j t) t = fillT old new cc q r ((List.range r).foldl (fun t j => fillT old new cc q j t) t) := by rw [range_snoc, List.foldl_append]; rfl
        rw [e3, show 1 + 48 * q + 12 * (r + 1) = 1 + 48 * q + 12 * r + 12 from by (first | assumption | exact Nat.le_refl _ | exact Nat.add_le_add_left (by decide) _ | exact Nat.le_trans (by assumption) (by decide) | omega)]
        generalize (List.range r).foldl (fun t j => fillT old new cc q j t) t = t2 at *
        exact Ex.meth (P := TR prog w x dx d d2 old new cc t2 (1 + 48 * q + 12 * r)) (P' := TR prog w x dx d d2 old new cc (fillT old new cc q r t2) (1 + 48 * q + 12 * r + 12)) (ps := [im (.int (q : Int)), im (.int (r : Int))]) (by (repeat (first | with_reducible exact List.mem_cons_self | with_reducible refine List.mem_cons_of_mem _ ?_))) rfl (fun z => tab_A z) (cls100 T) (fa := 92) (by kernel_rfl) (T.k _ _ rfl) rfl rfl (by kernel_rfl) (by kernel_rfl) (of_decide_eq_true (by kernel_rfl)) o_fill (EvS.cons (Ev.var (by (repeat (first | with_reducible exact List.mem_cons_self | with_reducible refine List.mem_cons_of_mem _ ?_)))) (EvS.cons (Ev.var (by (repeat (first | with_reducible exact List.mem_cons_self | with_reducible refine List.mem_cons_of_mem _ ?_)))) EvS.nil)) (fn_fill (n := n + 1) T hN2 (by (first | assumption | exact Nat.le_refl _ | exact Nat.add_le_add_left (by decide) _ | exact Nat.le_trans (by assumption) (by decide) | omega)) (by (first | assumption | exact Nat.le_refl _ | exact Nat.add_le_add_left (by decide) _ | exact Nat.le_trans (by assumption) (by decide) | omega)) (by (first | assumption | exact Nat.le_refl _ | exact Nat.add_le_add_left (by decide) _ | exact Nat.le_trans (by assumption) (by decide) | omega)) (by (first | assumption | exact Nat.le_refl _ | exact Nat.add_le_add_left (by decide) _ | exact Nat.le_trans (by assumption) (by decide) | omega)) hdr (by (first | assumption | exact Nat.le_refl _ | exact Nat.add_le_add_left (by decide) _ | exact Nat.le_trans (by assumption) (by decide) | omega))) rfl rfl (by (repeat (first | exact Upr.nil | (with_reducible apply Upr.hit) | (with_reducible apply Upr.vp)))) (Ex.nil (by (refine sub_of_all ?_; repeat (first | exact True.intro | refine And.intro (by (repeat (first | with_reducible exact List.mem_cons_self | with_reducible refine List.mem_cons_of_mem _ ?_))) ?_))))
      · rw [upto_len]
        refine Ex.cast (P := TR prog w x dx d d2 old new cc (rowT old new cc q t) (1 + 48 * q + 12 * (new.length + 1))) (P' := TR prog w x dx d d2 old new cc (rowT old new cc q t) (1 + 48 * (q + 1))) (x := Str.ofString "self") (List.mem_cons_self) (fun z => tab_mono z (by (first | assumption | exact Nat.le_refl _ | exact Nat.add_le_add_left (by decide) _ | exact Nat.le_trans (by assumption) (by decide) | omega)) (by (first | assumption | exact Nat.le_refl _ | exact Nat.add_le_add_left (by decide) _ | exact Nat.le_trans (by assumption) (by decide) | omega))) rfl rfl (by (repeat (first | exact Upr.nil | (with_reducible apply Upr.hit) | (with_reducible apply Upr.vp)))) ?_
        exact Ex.nil (by (refine sub_of_all ?_; repeat (first | exact True.intro | refine And.intro (by (repeat (first | with_reducible exact List.mem_cons_self | with_reducible refine List.mem_cons_of_mem _ ?_))) ?_)))
    · rw [upto_len]
      refine Ex.cast (P := TR prog w x dx d d2 old new cc (tabT old new cc) (1 + 48 * (old.length + 1))) (P' := TR prog w x dx d d2 old new cc (tabT old new cc) 193) (x := Str.ofString "self") (List.mem_cons_self) (fun z => tab_mono z (by (first | assumption | exact Nat.le_refl _ | exact Nat.add_le_add_left (by decide) _ | exact Nat.le_trans (by assumption) (by decide) | omega)) (by (first | assumption | exact Nat.le_refl _ | exact Nat.add_le_add_left (by decide) _ | exact Nat.le_trans (by assumption) (by decide) | omega))) rfl rfl (by (repeat (first | exact Upr.nil | (with_reducible apply Upr.hit) | (with_reducible apply Upr.vp)))) ?_
      exact Ex.nilG (d, d2) (by (refine sub_of_all ?_; repeat (first | exact True.intro | refine And.intro (by (repeat (first | with_reducible exact List.mem_cons_self | with_reducible refine List.mem_cons_of_mem _ ?_))) ?_)))
  · obtain ⟨dl, ds⟩ := i
    obtain ⟨o, mm, h1, h2, h3, h4, h5, h6, h7, h8⟩ := attrs_sub (tab_A z) hX
    refine ⟨x, dx, rfl, nx, nd, o, mm, h1, h2, h3, h4, h5, h6, fun e me => ?_, h8⟩
    have sub : ∀ {d : Addr} {mM : List Int → Option PyData} {c : Nat}, DkO prog w h X' d mM c → DkO prog w h X d mM c := fun D => ⟨D.1, D.2.step (fun _ _ _ e => e) (fun _ e => e) fun b m => .inl (hX b m)⟩
    have get := fun (e : Str × VP) (me : e ∈ tabAl2 old new cc dl ds) => h7 e me
    rcases List.mem_cons.mp me with rfl | me
    · exact get ("old", im (.list (intL old))) (.head _)
    rcases List.mem_cons.mp me with rfl | me
    · exact get ("new", im (.list (intL new))) (.tail _ (.head _))
    rcases List.mem_cons.mp me with rfl | me
    · exact get ("costs", costsV cc) (.tail _ (.tail _ (.head _)))
    rcases List.mem_cons.mp me with rfl | me
    · obtain ⟨u, hu, q⟩ := get ("least", isv (.ref dl)) (.tail _ (.tail _ (.tail _ (.head _))))
      exact ⟨u, hu, dl, q, nas dl (.tail _ (.tail _ (.head _))), sub (tab_M z)⟩
    · rw [List.mem_singleton.mp me]
      obtain ⟨u, hu, q⟩ := get ("step", isv (.ref ds)) (.tail _ (.tail _ (.tail _ (.tail _ (.head _)))))
      exact ⟨u, hu, ds, q, nas ds (.tail _ (.tail _ (.tail _ (.head _)))), sub (tab_S z)⟩
end
noncomputable def pickF (t : Tb) (n m : Nat) (acc : Option Int) (k : Int) : Option Int := match t.M (key n m k) with
  | none => acc
  | some v => match acc with
    | none => some k
    | some k' => match t.M (key n m k') with
      | some v' => if v < v' then some k else acc
      | none => acc
noncomputable def bestK (t : Tb) (n m : Nat) : Option Int := kinds.foldl (pickF t n m) none
noncomputable def PickOk (t : Tb) (n m : Nat) (acc : Option Int) : Prop := ∀ k, acc = some k → t.M (key n m k) ≠ none
theorem PickOk.step {t : Tb} {n m : Nat} {acc : Option Int} (h : PickOk t n m acc) (k : Int) : PickOk t n m (pickF t n m acc k) := by
  unfold pickF
  split
  · exact h
  · rename_i v hv
    have hk : PickOk t n m (some k) := fun k' e => by cases e; rw [hv]; simp
    split
    · exact hk
    · split
      · split
        · exact hk
        · exact h
      · exact h
theorem PickOk.fold {t : Tb} {n m : Nat} : ∀ (l : List Int) {acc : Option Int}, PickOk t n m acc → PickOk t n m (l.foldl (pickF t n m) acc)
  | [], _, h => h
  | k :: l, _, h => PickOk.fold l (h.step k)
noncomputable def placeD (n m : Nat) : Option Int → PyData
  | none => .none
  | some k => .tuple (intL (key n m k))
inductive Chain (S : List Int → Option (Stp × List Int)) : List Int → List Stp → Prop
  | nil {p : List Int} : S p = none → Chain S p []
  | cons {p q : List Int} {s : Stp} {l : List Stp} : S p = some (s, q) → Chain S q l → Chain S p (s :: l)
theorem Chain.path {S : List Int → Option (Stp × List Int)} {p : List Int} {l : List Stp} (h : Chain S p l) : ∃ f : Nat → List Int, f 0 = p ∧ (∀ i s, l[i]? = some s → S (f i) = some (s, f (i + 1))) ∧ S (f l.length) = none := by
  induction h with
  | nil h => exact ⟨fun _ => _, rfl, fun i s e => by simp at e, h⟩
  | @cons p q s l h _ ih =>
    obtain ⟨f, f0, f1, f2⟩ := ih
    refine ⟨fun i => match i with | 0 => p | i + 1 => f i, rfl, fun i s' e => ?_, f2⟩
    cases i with
    | zero =>
      simp at e
      show S p = some (s', f 0)
      rw [h, f0, e]
    | succ i => exact f1 i s' (by simpa using e)
section
variable {P : Params} {mg mb : Str → Option Value} {prog : Program} {w : World} {ht : Heap} {n : Nat} {sc : Scope} {ρ ρ' ρ₁ ρ₂ : Rho} {x : Str} {xp pos apos p0 p1 p2 p3 p4 : Pos} {d : PyData} {e e1 e2 : Expr} {m : Nat} {rest body : List Stmt} {po : Post} {a dx dl ds : Addr} {c : Nat} {old new : List Int} {cc : Cst} {t : Tb} {i j : Nat} {k : Int}
theorem vA {name : Str} {vp : VP} (T : TopX P mg mb ht) (hx : (x, Ent.vp (tabV prog w old new cc t c)) ∈ ρ) (hm : (name, vp) ∈ [(Str.ofString "old", im (.list (intL old))), (Str.ofString "new", im (.list (intL new))), (Str.ofString "costs", costsV cc), (Str.ofString "least", dictVP prog w t.mD c), (Str.ofString "step", dictVP prog w t.sD c)]) (hh : Handed vp) (hna : mNA P 99 name = none) (hB : typeLookup (.type "object") name = pure none) (hd : (x == ("__debug__" : Str)) = false := by decide) (hn : (x == ("__classdict__" : Str)) = false := by decide) :
    Ev prog w ht n sc ρ (.Attribute (.Name x xp) name apos) vp.kp := Ev.attr (Ev.name hx hd hn) (cls100 T) hm hh (by kernel_rfl) hna hB
theorem vLeast (T : TopX P mg mb ht) (hx : (Str.ofString "self", Ent.vp (tabV prog w old new cc t c)) ∈ ρ) : Ev prog w ht n sc ρ (.Attribute (.Name "self" xp) "least" apos) (dictVP prog w t.mD c).kp := vA T hx (.tail _ (.tail _ (.tail _ (.head _)))) (handed_dict _ _) (by kernel_rfl) o_least
theorem vStep (T : TopX P mg mb ht) (hx : (Str.ofString "self", Ent.vp (tabV prog w old new cc t c)) ∈ ρ) : Ev prog w ht n sc ρ (.Attribute (.Name "self" xp) "step" apos) (dictVP prog w t.sD c).kp := vA T hx (.tail _ (.tail _ (.tail _ (.tail _ (.head _))))) (handed_dict _ _) (by kernel_rfl) o_step
theorem fn_script (T : TopX P mg mb ht) (hz1 : old.length ≤ 900) (hz2 : new.length ≤ 900) {κ : Int} {l : List Stp} (hb : bestK t old.length new.length = some κ) (hl : Chain t.S (key old.length new.length κ) l) (hz : l.length ≤ 900) :
    Fn prog w ht (n + 1) (.ref 97) [(tabV prog w old new cc t c).kp] (kfr (l.reverse.map Stp.d)) := by
  refine (F97 P).fn (ps := [tabV prog w old new cc t c]) T rfl (show Ex _ _ _ _ _ [("self", .vp (tabV prog w old new cc t c))] _ _ from ?_)
  have lo : (intL old).length = old.length := by simp [intL]
  have ln : (intL new).length = new.length := by simp [intL]
  refine Ex.assignC (kinds.map fun k => .tuple (intL (key old.length new.length k))) (by rw [List.filter_eq_self.mpr fun _ _ => rfl]) (f := fun i : Int => PyData.int i) (un := unInt) (xs := kinds) (t := fun _ => true) (g := fun k => .tuple (intL (key old.length new.length k))) (ρin := fun d => [("kind", .vp (im d)), ("self", .vp (tabV prog w old new cc t c))]) (fun _ => rfl)
    (Ev.le (Ev.gkinds T (by kernel_rfl)) (kim_kit_tuple _)) (by exact of_decide_eq_true (by kernel_rfl)) (by exact of_decide_eq_true (by kernel_rfl)) (by kernel_rfl) (by exact of_decide_eq_true (by kernel_rfl)) (by kernel_rfl) (fun d => ⟨.inl rfl, .inr ⟨by (repeat (first | with_reducible exact List.mem_cons_self | with_reducible refine List.mem_cons_of_mem _ ?_)), by exact of_decide_eq_true (by kernel_rfl), by kernel_rfl⟩, trivial⟩) (fun _ _ => TstL.nil)
    (fun k m _ => Ev.key3 (Ev.to (Ev.len_ (ds := intL old) T (by kernel_rfl) (Ev.sl (vA (vp := im (.list (intL old))) T (by (repeat (first | with_reducible exact List.mem_cons_self | with_reducible refine List.mem_cons_of_mem _ ?_))) (.head _) (handed_im _) (by kernel_rfl) o_old)) (by rw [lo]; (first | assumption | exact Nat.le_refl _ | exact Nat.add_le_add_left (by decide) _ | exact Nat.le_trans (by assumption) (by decide) | omega))) (by rw [lo])) (Ev.to (Ev.len_ (ds := intL new) T (by kernel_rfl) (Ev.sl (vA (vp := im (.list (intL new))) T (by (repeat (first | with_reducible exact List.mem_cons_self | with_reducible refine List.mem_cons_of_mem _ ?_))) (.tail _ (.head _)) (handed_im _) (by kernel_rfl) o_new)) (by rw [ln]; (first | assumption | exact Nat.le_refl _ | exact Nat.add_le_add_left (by decide) _ | exact Nat.le_trans (by assumption) (by decide) | omega))) (by rw [ln])) (Ev.var (by (repeat (first | with_reducible exact List.mem_cons_self | with_reducible refine List.mem_cons_of_mem _ ?_)))))
    (by decide) (.inl (by kernel_rfl)) (by (repeat (first | exact Upd.nil | (with_reducible apply Upd.hit) | ((with_reducible apply Upd.miss); (focus decide))))) (by (intro env h1; cases env; dsimp only at h1; subst h1; kernel_rfl)) ?_
  refine Ex.assignI (d := .none) (Ev.none _) (.inl (by kernel_rfl)) (by (repeat (first | exact Upd.nil | (with_reducible apply Upd.hit) | ((with_reducible apply Upd.miss); (focus decide))))) ?_
  refine Ex.for_ (ds := kinds.map fun k => .tuple (intL (key old.length new.length k))) (Inv := fun q => [("self", .vp (tabV prog w old new cc t c)), ("place", .vp (im (placeD old.length new.length ((kinds.take q).foldl (pickF t old.length new.length) none))))])
    (ρin := fun q d => [("self", .vp (tabV prog w old new cc t c)), ("place", .vp (im (placeD old.length new.length ((kinds.take q).foldl (pickF t old.length new.length) none)))), ("end", .vp (im d))])
    (Ev.le (Ev.var (by (repeat (first | with_reducible exact List.mem_cons_self | with_reducible refine List.mem_cons_of_mem _ ?_)))) (kim_kit_list _)) (show ∀ y ∈ ([("self", .vp (tabV prog w old new cc t c)), ("place", .vp (im .none))] : Rho), _ from by (refine sub_of_all ?_; repeat (first | exact True.intro | refine And.intro (by (repeat (first | with_reducible exact List.mem_cons_self | with_reducible refine List.mem_cons_of_mem _ ?_))) ?_))) (fun q d hd => As.name (.inl (by kernel_rfl)) (by (repeat (first | exact Upd.nil | (with_reducible apply Upd.hit) | ((with_reducible apply Upd.miss); (focus decide)))))) (fun q d hd => ?_) ?_
  · rw [List.getElem?_map] at hd
    obtain ⟨k, hk, rfl⟩ := Option.map_eq_some_iff.mp hd
    rw [take_snoc hk, List.foldl_append]
    have ok := PickOk.fold (t := t) (n := old.length) (m := new.length) (kinds.take q) (acc := none) nofun
    generalize (kinds.take q).foldl (pickF t old.length new.length) none = acc at *
    show Ex prog w ht n (scA P 97) _ _ (.next [("self", .vp (tabV prog w old new cc t c)), ("place", .vp (im (placeD old.length new.length (pickF t old.length new.length acc k))))])
    have tin : ∀ {ρ : Rho} {p1 p2 p3 p4 : Pos} {b : Bool}, (Str.ofString "self", Ent.vp (tabV prog w old new cc t c)) ∈ ρ → (Str.ofString "end", Ent.vp (im (.tuple (intL (key old.length new.length k))))) ∈ ρ → (t.M (key old.length new.length k)).isSome = b → Tst prog w ht n (scA P 97) ρ (.Compare (.Name "end" p1) [.In] [.Attribute (.Name "self" p2) "least" p3] p4) b := fun m1 m2 h =>
      Tst.to (Tst.cmp (Ev.var m2) (vLeast T m1) op_inD) (by rw [← h]; unfold Tb.mD; exact Option.isSome_map)
    cases qv : t.M (key old.length new.length k) with
    | none =>
      have e : pickF t old.length new.length acc k = acc := by unfold pickF; rw [qv]
      rw [e]
      exact Ex.skip (Tst.and_f (tin (by (repeat (first | with_reducible exact List.mem_cons_self | with_reducible refine List.mem_cons_of_mem _ ?_))) (by (repeat (first | with_reducible exact List.mem_cons_self | with_reducible refine List.mem_cons_of_mem _ ?_))) (by rw [qv]; rfl))) (Ex.nil (by (refine sub_of_all ?_; repeat (first | exact True.intro | refine And.intro (by (repeat (first | with_reducible exact List.mem_cons_self | with_reducible refine List.mem_cons_of_mem _ ?_))) ?_))))
    | some v =>
      have setp : ∀ {ρ : Rho} {p1 p2 p3 : Pos}, (Str.ofString "end", Ent.vp (im (.tuple (intL (key old.length new.length k))))) ∈ ρ → (∃ ρ₂, Upd (Str.ofString "place") (.vp (im (.tuple (intL (key old.length new.length k))))) ρ ρ₂ ∧ ∀ y ∈ ([("self", .vp (tabV prog w old new cc t c)), ("place", .vp (im (.tuple (intL (key old.length new.length k)))))] : Rho), y ∈ ρ₂) →
          Ex prog w ht n (scA P 97) ρ [.Assign [.Name "place" p1] (.Name "end" p2) p3] (.next [("self", .vp (tabV prog w old new cc t c)), ("place", .vp (im (.tuple (intL (key old.length new.length k)))))]) := fun m1 ⟨ρ₂, m2, m3⟩ => Ex.assignI (Ev.var m1) (.inl (by kernel_rfl)) m2 (Ex.nil m3)
      cases acc with
      | none =>
        have e : pickF t old.length new.length none k = some k := by unfold pickF; rw [qv]
        rw [e]
        exact Ex.if_n (Tst.andb (tin (by (repeat (first | with_reducible exact List.mem_cons_self | with_reducible refine List.mem_cons_of_mem _ ?_))) (by (repeat (first | with_reducible exact List.mem_cons_self | with_reducible refine List.mem_cons_of_mem _ ?_))) (by rw [qv]; rfl)) (Tst.or_t (Tst.cmp (Ev.var (by (repeat (first | with_reducible exact List.mem_cons_self | with_reducible refine List.mem_cons_of_mem _ ?_)))) (Ev.none _) (op_is _)))) (setp (by (repeat (first | with_reducible exact List.mem_cons_self | with_reducible refine List.mem_cons_of_mem _ ?_))) ⟨_, by (repeat (first | exact Upd.nil | (with_reducible apply Upd.hit) | ((with_reducible apply Upd.miss); (focus decide)))), by (refine sub_of_all ?_; repeat (first | exact True.intro | refine And.intro (by (repeat (first | with_reducible exact List.mem_cons_self | with_reducible refine List.mem_cons_of_mem _ ?_))) ?_))⟩) Ex.nil0
      | some k' =>
        obtain ⟨v', hv'⟩ := Option.ne_none_iff_exists'.mp (ok k' rfl)
        show Ex prog w ht n (scA P 97) ([("self", .vp (tabV prog w old new cc t c)), ("place", .vp (im (.tuple (intL (key old.length new.length k'))))), ("end", .vp (im (.tuple (intL (key old.length new.length k)))))]) _ _
        have lt : ∀ {ρ : Rho} {p1 p2 p3 p4 p5 p6 p7 p8 p9 q1 q2 q3 q4 : Pos} {kk : Nat}, (Str.ofString "self", Ent.vp (tabV prog w old new cc t c)) ∈ ρ → (Str.ofString "end", Ent.vp (im (.tuple (intL (key old.length new.length k))))) ∈ ρ → (Str.ofString "place", Ent.vp (im (.tuple (intL (key old.length new.length k'))))) ∈ ρ →
            Tst prog w ht n (scA P 97) ρ (.BoolOp .Or [.Compare (.Name "place" p1) [.Is] [.Constant .none kk p2] p3, .Compare (.Subscript (.Attribute (.Name "self" p4) "least" p5) (.Name "end" p6) p7) [.Lt] [.Subscript (.Attribute (.Name "self" p8) "least" p9) (.Name "place" q1) q2] q3] q4) (decide (v < v')) := fun m1 m2 m3 =>
          Tst.to (Tst.orb (b1 := false) (Tst.cmp (Ev.var m3) (Ev.none _) (op_is _)) (fun _ => Tst.cmp (Ev.dgetV (v := .int v) (vLeast T m1) (Ev.var m2) (by unfold Tb.mD; rw [qv]; rfl)) (Ev.dgetV (v := .int v') (vLeast T m1) (Ev.var m3) (by unfold Tb.mD; rw [hv']; rfl)) (op_lt _ _))) (Bool.false_or _)
        by_cases hlt : v < v'
        · have e : pickF t old.length new.length (some k') k = some k := by unfold pickF; rw [qv]; simp only [hv']; rw [if_pos hlt]
          rw [e]
          exact Ex.if_n (Tst.andb (tin (by (repeat (first | with_reducible exact List.mem_cons_self | with_reducible refine List.mem_cons_of_mem _ ?_))) (by (repeat (first | with_reducible exact List.mem_cons_self | with_reducible refine List.mem_cons_of_mem _ ?_))) (by rw [qv]; rfl)) (Tst.to (lt (by (repeat (first | with_reducible exact List.mem_cons_self | with_reducible refine List.mem_cons_of_mem _ ?_))) (by (repeat (first | with_reducible exact List.mem_cons_self | with_reducible refine List.mem_cons_of_mem _ ?_))) (by (repeat (first | with_reducible exact List.mem_cons_self | with_reducible refine List.mem_cons_of_mem _ ?_)))) (decide_eq_true hlt))) (setp (by (repeat (first | with_reducible exact List.mem_cons_self | with_reducible refine List.mem_cons_of_mem _ ?_))) ⟨_, by (repeat (first | exact Upd.nil | (with_reducible apply Upd.hit) | ((with_reducible apply Upd.miss); (focus decide)))), by (refine sub_of_all ?_; repeat (first | exact True.intro | refine And.intro (by (repeat (first | with_reducible exact List.mem_cons_self | with_reducible refine List.mem_cons_of_mem _ ?_))) ?_))⟩) Ex.nil0
        · have e : pickF t old.length new.length (some k') k = some k' := by unfold pickF; rw [qv]; simp only [hv']; rw [if_neg hlt]
          rw [e]
          show Ex prog w ht n (scA P 97) _ _ (.next [("self", .vp (tabV prog w old new cc t c)), ("place", .vp (im (.tuple (intL (key old.length new.length k')))))])
          exact Ex.skip (Tst.andb (tin (by (repeat (first | with_reducible exact List.mem_cons_self | with_reducible refine List.mem_cons_of_mem _ ?_))) (by (repeat (first | with_reducible exact List.mem_cons_self | with_reducible refine List.mem_cons_of_mem _ ?_))) (by rw [qv]; rfl)) (Tst.to (lt (by (repeat (first | with_reducible exact List.mem_cons_self | with_reducible refine List.mem_cons_of_mem _ ?_))) (by (repeat (first | with_reducible exact List.mem_cons_self | with_reducible refine List.mem_cons_of_mem _ ?_))) (by (repeat (first | with_reducible exact List.mem_cons_self | with_reducible refine List.mem_cons_of_mem _ ?_)))) (decide_eq_false hlt))) (Ex.nil (by (refine sub_of_all ?_; repeat (first | exact True.intro | refine And.intro (by (repeat (first | with_reducible exact List.mem_cons_self | with_reducible refine List.mem_cons_of_mem _ ?_))) ?_))))
  · show Ex prog w ht n (scA P 97) ([("self", .vp (tabV prog w old new cc t c)), ("place", .vp (im (placeD old.length new.length (bestK t old.length new.length))))]) _ _
    rw [hb]
    obtain ⟨f, f0, f1, f2⟩ := hl.path
    show Ex prog w ht n (scA P 97) ([("self", .vp (tabV prog w old new cc t c)), ("place", .vp (im (.tuple (intL (key old.length new.length κ)))))]) _ _
    rw [← f0]
    refine Ex.ownG (ds := []) (EvS.lst (ds := []) EvS.nil) (.inl (by kernel_rfl)) (fun a => by (repeat (first | exact Upd.nil | (with_reducible apply Upd.hit) | ((with_reducible apply Upd.miss); (focus decide))))) trivial (fun a _ => ?_)
    refine Ex.while_ (Inv := fun q => [("self", .vp (tabV prog w old new cc t c)), ("place", .vp (im (.tuple (intL (f q))))), ("found", .own a ((l.take q).map Stp.d))]) l.length (show ∀ y ∈ ([("self", .vp (tabV prog w old new cc t c)), ("place", .vp (im (.tuple (intL (f 0))))), ("found", .own a [])] : Rho), _ from by (refine sub_of_all ?_; repeat (first | exact True.intro | refine And.intro (by (repeat (first | with_reducible exact List.mem_cons_self | with_reducible refine List.mem_cons_of_mem _ ?_))) ?_))) (fun q hq => ?_) (fun q hq => ?_) ?_ ?_
    · have hs := f1 q _ (List.getElem?_eq_getElem hq)
      exact Tst.to (Tst.cmp (Ev.var (by (repeat (first | with_reducible exact List.mem_cons_self | with_reducible refine List.mem_cons_of_mem _ ?_)))) (vStep T (by (repeat (first | with_reducible exact List.mem_cons_self | with_reducible refine List.mem_cons_of_mem _ ?_)))) op_inD) (by unfold Tb.sD; rw [hs]; rfl)
    · have hg := List.getElem?_eq_getElem hq
      generalize l[q] = s at hg
      have hs := f1 q s hg
      rw [take_snoc hg]
      refine Ex.assignT (d := .tuple [s.d, .tuple (intL (f (q + 1)))]) (Ev.dgetV (v := backD (s, f (q + 1))) (vStep T (by (repeat (first | with_reducible exact List.mem_cons_self | with_reducible refine List.mem_cons_of_mem _ ?_)))) (Ev.var (by (repeat (first | with_reducible exact List.mem_cons_self | with_reducible refine List.mem_cons_of_mem _ ?_)))) (by unfold Tb.sD; rw [hs]; rfl)) (As.tuple (ds := [s.d, .tuple (intL (f (q + 1)))]) (AsL.cons (As.name (.inl (by kernel_rfl)) (by (repeat (first | exact Upd.nil | (with_reducible apply Upd.hit) | ((with_reducible apply Upd.miss); (focus decide)))))) (AsL.cons (As.name (.inl (by kernel_rfl)) (by (repeat (first | exact Upd.nil | (with_reducible apply Upd.hit) | ((with_reducible apply Upd.miss); (focus decide)))))) AsL.nil))) ?_ (hw := by (intro env h1; cases env; dsimp only at h1; subst h1; kernel_rfl))
      refine Ex.append (ds := (l.take q).map Stp.d) (d := s.d) (a := a) (by (repeat (first | with_reducible exact List.mem_cons_self | with_reducible refine List.mem_cons_of_mem _ ?_))) (Ev.var (by (repeat (first | with_reducible exact List.mem_cons_self | with_reducible refine List.mem_cons_of_mem _ ?_)))) (by (repeat (first | exact Upr.nil | (with_reducible apply Upr.hit) | (with_reducible apply Upr.vp)))) (by rw [List.length_map, List.length_take]; (first | assumption | exact Nat.le_refl _ | exact Nat.add_le_add_left (by decide) _ | exact Nat.le_trans (by assumption) (by decide) | omega)) (Ex.nil ?_)
      rw [List.map_append, show [s].map Stp.d = [s.d] from rfl]
      (refine sub_of_all ?_; repeat (first | exact True.intro | refine And.intro (by (repeat (first | with_reducible exact List.mem_cons_self | with_reducible refine List.mem_cons_of_mem _ ?_))) ?_))
    · exact Tst.to (Tst.cmp (Ev.var (by (repeat (first | with_reducible exact List.mem_cons_self | with_reducible refine List.mem_cons_of_mem _ ?_)))) (vStep T (by (repeat (first | with_reducible exact List.mem_cons_self | with_reducible refine List.mem_cons_of_mem _ ?_)))) op_inD) (by unfold Tb.sD; rw [f2]; rfl)
    · rw [List.take_length, List.map_reverse]
      exact Ex.ret (Ev.cut (es := (l.map Stp.d).reverse) (Ev.own (a := a) (by (repeat (first | with_reducible exact List.mem_cons_self | with_reducible refine List.mem_cons_of_mem _ ?_)))) EvPt.none EvPt.none (EvPt.some (Ev.neg (Ev.int 1 _))) (by decide) (fun r => cut_rev r) (by rw [List.length_map]; (first | assumption | exact Nat.le_refl _ | exact Nat.add_le_add_left (by decide) _ | exact Nat.le_trans (by assumption) (by decide) | omega)))
theorem Ev.meth0 {l : Expr} {r : KP} {C N : Addr} {mN : Str → Option Value} {al : List (Str × VP)} {name : Str} {fa : Addr} {o : Obj} {fd : FuncData} {y : Option Value} (hl : Ev prog w ht n sc ρ l (objP C al).kp) (cl : ClsAt ht C N mN) (hf : mN name = some (.ref fa)) (ho : ht.get? fa = some o) (hfc : o.cls = .type "function") (hdat : o.data = .func fd) (hng : mN "__getattribute__" = Option.none) (hnh : mN "__getattr__" = Option.none)
    (hsh : name ∉ al.map (·.1)) (hB : typeLookup (.type "object") name = pure y) (hc : Fn prog w ht n (.ref fa) [(objP C al).kp] r)
    (hev : ∀ env, ∃ pl, eval (.Call (.Attribute l name apos) [] [] pos) env = (do
      let ov ← eval l env
      standAt apos.atName
      let (f, first) ← holding [ov] (getMethod ov name pl)
      callWith pos f first (backTo pos (starEach [] env)) (backToKw pos (keywordEach [] env))) := by intro _; exact ⟨_, rfl⟩) :
    Ev prog w ht n sc ρ (.Call (.Attribute l name apos) [] [] pos) r := fun A env X s Q E R a S K => by
  obtain ⟨pl, hev⟩ := hev env
  refine methodCall_KW ?_ hev
  refine hl R a S fun v h₁ t₁ k₁ z₁ => ?_
  have z₁' := z₁
  obtain ⟨b, dx, rfl, nb, nd, x⟩ := z₁'
  obtain ⟨o', m, h1, h2, h3, h4, h5, h6, h7, h8⟩ := x
  obtain ⟨nm, q, bs, sn, sub, col, dd, k0, k1, k2, k3, k5, hC⟩ := (cl.keeps (S.top.trans k₁)).obj
  have hsm : m name = Option.none := by
    cases q : m name with
    | none => rfl
    | some u => exact absurd (h8 name (by rw [q]; simp)) hsh
  refine method_of hC (cl.keeps (S.top.trans k₁)).ns hng hnh hf (S.top.trans k₁ _ _ ho) hfc hB (AttrsAt.inst (l := al) (X := X) h1 h2 h3 h4 h5 h6) hsm ?_
  exact callWith_meth0 hdat (S.top.trans k₁ _ _ ho) (hc R (S.kp k₁).top S.xn (S.alive.kp k₁) (Kp.refl _) (.cons z₁ .nil) fun u h₃ t₃ k₃ z₃ => K u h₃ t₃ (k₁.trans k₃) (r.an z₃ k₁))
theorem kpr_cls {f : Value} (T : TopX P mg mb ht) (h : keepIn (KK P) f = true) : Kpr ht f := fun M h' k => keeps_K h h' (T.k.keeps k)
theorem fn_least (T : TopX P mg mb ht) (hz1 : old.length ≤ 3) (hz2 : new.length ≤ 3) (hdr : cc.dr.length = new.length) {κ : Int} {l : List Stp} (hb : bestK (tabT old new cc) old.length new.length = some κ) (hl : Chain (tabT old new cc).S (key old.length new.length κ) l) (hz : l.length ≤ 900) :
    Fn prog w ht (n + 6) (.ref 111) [kim (.list (intL old)), kim (.list (intL new)), (costsV cc).kp] (kfr (l.reverse.map Stp.d)) := by
  refine (F111 P).fn (ps := [im (.list (intL old)), im (.list (intL new)), costsV cc]) T rfl (show Ex _ _ _ _ _ [("old", .vp (im (.list (intL old)))), ("new", .vp (im (.list (intL new)))), ("costs", .vp (costsV cc))] _ _ from ?_)
  refine Ex.ret (Ev.meth0 (al := _) (C := 100) (N := 99) (mN := mNA P 99) (Ev.call (Ev.gfn T (v := .ref 100) (by kernel_rfl) (by kernel_rfl)) (kpr_cls T (by kernel_rfl)) (EvS.cons (Ev.var (by (repeat (first | with_reducible exact List.mem_cons_self | with_reducible refine List.mem_cons_of_mem _ ?_)))) (EvS.cons (Ev.var (by (repeat (first | with_reducible exact List.mem_cons_self | with_reducible refine List.mem_cons_of_mem _ ?_)))) (EvS.cons (Ev.name (by (repeat (first | with_reducible exact List.mem_cons_self | with_reducible refine List.mem_cons_of_mem _ ?_)))) EvS.nil))) (fn_Table T hz1 hz2 hdr)) (cls100 T) (fa := 97) (by kernel_rfl) (T.k _ _ rfl) rfl rfl (by kernel_rfl) (by kernel_rfl) (of_decide_eq_true (by kernel_rfl)) o_script ((fn_script (n := n) (c := 193) T (by (first | assumption | exact Nat.le_refl _ | exact Nat.add_le_add_left (by decide) _ | exact Nat.le_trans (by assumption) (by decide) | omega)) (by (first | assumption | exact Nat.le_refl _ | exact Nat.add_le_add_left (by decide) _ | exact Nat.le_trans (by assumption) (by decide) | omega)) hb hl hz).up (by (first | assumption | exact Nat.le_refl _ | exact Nat.add_le_add_left (by decide) _ | exact Nat.le_trans (by assumption) (by decide) | omega))))
end
structure Eg where
  s : Stp
  i : Nat
  j : Nat
  k : Int
  tk : Int
noncomputable def tryE (c : Cst) (i j : Nat) (t : Tb) (e : Eg) : Tb := match t.M (key e.i e.j e.k) with
  | some v => t.offer (key i j e.tk) (v + c.of e.k e.s) e.s (key e.i e.j e.k)
  | none => t
noncomputable def edges (old new : List Int) (i j : Nat) : List Eg :=
  (match i, j with | i' + 1, j' + 1 => if (old.getD i' 0 == new.getD j' 0) = true then kinds.map fun k => ⟨.keep i' j', i', j', k, 0⟩ else [] | _, _ => [])
  ++ (match i, j with | i' + 1, j' + 1 => kinds.map fun k => ⟨.draw i' j', i', j', k, 0⟩ | _, _ => [])
  ++ (match i with | i' + 1 => kinds.map fun k => ⟨.del i', i', j, k, 1⟩ | _ => [])
  ++ (match j with | j' + 1 => kinds.map fun k => ⟨.ins j', i, j', k, 2⟩ | _ => [])
theorem foldl_id {α β : Type} (l : List α) (t : β) (f : β → α → β) (h : ∀ t a, f t a = t) : l.foldl f t = t := by
  induction l generalizing t with
  | nil => rfl
  | cons a l ih => rw [List.foldl_cons, h, ih]
theorem fill_edges (old new : List Int) (c : Cst) (i j : Nat) (t : Tb) : fillT old new c i j t = (edges old new i j).foldl (tryE c i j) t := by
  unfold fillT edges
  rw [List.foldl_append, List.foldl_append, List.foldl_append]
  have h1 : ∀ t, kinds.foldl (kS old new i j) t = (match i, j with | i' + 1, j' + 1 => if (old.getD i' 0 == new.getD j' 0) = true then kinds.map fun k => (⟨.keep i' j', i', j', k, 0⟩ : Eg) else [] | _, _ => []).foldl (tryE c i j) t := by
    intro t
    cases i with
    | zero => exact foldl_id _ _ _ fun _ _ => rfl
    | succ i' =>
      cases j with
      | zero => exact foldl_id _ _ _ fun _ _ => rfl
      | succ j' =>
        dsimp only
        by_cases q : (old.getD i' 0 == new.getD j' 0) = true
        · rw [if_pos q, List.foldl_map]
          congr 1
          funext t k
          unfold kS tryE
          dsimp only
          cases t.M (key i' j' k) with
          | none => rfl
          | some v => dsimp only; rw [if_pos q]; simp [Cst.of]
        · rw [if_neg q]
          refine foldl_id _ _ _ fun t k => ?_
          unfold kS
          dsimp only
          cases t.M (key i' j' k) with
          | none => rfl
          | some v => dsimp only; rw [if_neg q]
  have h2 : ∀ t, kinds.foldl (dS c i j) t = (match i, j with | i' + 1, j' + 1 => kinds.map fun k => (⟨.draw i' j', i', j', k, 0⟩ : Eg) | _, _ => []).foldl (tryE c i j) t := by
    intro t
    cases i with
    | zero => exact foldl_id _ _ _ fun _ _ => rfl
    | succ i' =>
      cases j with
      | zero => exact foldl_id _ _ _ fun _ _ => rfl
      | succ j' =>
        dsimp only
        rw [List.foldl_map]
        rfl
  have h3 : ∀ t, kinds.foldl (xS c i j) t = (match i with | i' + 1 => kinds.map fun k => (⟨.del i', i', j, k, 1⟩ : Eg) | _ => []).foldl (tryE c i j) t := by
    intro t
    cases i with
    | zero => exact foldl_id _ _ _ fun _ _ => rfl
    | succ i' => dsimp only; rw [List.foldl_map]; rfl
  have h4 : ∀ t, kinds.foldl (nS c i j) t = (match j with | j' + 1 => kinds.map fun k => (⟨.ins j', i, j', k, 2⟩ : Eg) | _ => []).foldl (tryE c i j) t := by
    intro t
    cases j with
    | zero => exact foldl_id _ _ _ fun _ _ => rfl
    | succ j' => dsimp only; rw [List.foldl_map]; rfl
  rw [h4, h3, h2, h1]
theorem key_inj {i j i' j' : Nat} {k k' : Int} (h : key i j k = key i' j' k') : i = i' ∧ j = j' ∧ k = k' := by
  have h1 := (List.cons.inj h).1
  have h2 := (List.cons.inj (List.cons.inj h).2).1
  have h3 := (List.cons.inj (List.cons.inj (List.cons.inj h).2).2).1
  exact ⟨by (first | assumption | exact Nat.le_refl _ | exact Nat.add_le_add_left (by decide) _ | exact Nat.le_trans (by assumption) (by decide) | omega), by (first | assumption | exact Nat.le_refl _ | exact Nat.add_le_add_left (by decide) _ | exact Nat.le_trans (by assumption) (by decide) | omega), h3⟩
theorem offer_at (t : Tb) (p : List Int) (v : Int) (s : Stp) (b : List Int) : ((t.offer p v s b).M p = some v ∧ (t.offer p v s b).S p = some (s, b)) ∨ (t.offer p v s b = t ∧ ∃ w, t.M p = some w ∧ w ≤ v) := by
  unfold Tb.offer
  by_cases q : t.better p v = true
  · rw [if_pos q]
    exact .inl ⟨if_pos rfl, if_pos rfl⟩
  · rw [if_neg q]
    refine .inr ⟨rfl, ?_⟩
    unfold Tb.better at q
    cases h : t.M p with
    | none => rw [h] at q; exact absurd rfl q
    | some w =>
      rw [h] at q
      exact ⟨w, rfl, by simpa using q⟩
theorem offer_le (t : Tb) (p : List Int) (v : Int) (s : Stp) (b : List Int) {w : Int} (h : t.M p = some w) : ∃ w', (t.offer p v s b).M p = some w' ∧ w' ≤ w := by
  unfold Tb.offer
  by_cases q : t.better p v = true
  · rw [if_pos q]
    unfold Tb.better at q
    rw [h] at q
    exact ⟨v, if_pos rfl, by have := of_decide_eq_true q; (first | assumption | exact Nat.le_refl _ | exact Nat.add_le_add_left (by decide) _ | exact Nat.le_trans (by assumption) (by decide) | omega)⟩
  · rw [if_neg q]
    exact ⟨w, h, Int.le_refl _⟩
theorem offer_ne (t : Tb) {p k : List Int} (v : Int) (s : Stp) (b : List Int) (h : k ≠ p) : (t.offer p v s b).M k = t.M k ∧ (t.offer p v s b).S k = t.S k := by
  unfold Tb.offer
  split
  · exact ⟨if_neg h, if_neg h⟩
  · exact ⟨rfl, rfl⟩
theorem tryE_ne (c : Cst) {i j : Nat} (t : Tb) (e : Eg) {k : List Int} (h : ∀ x, k ≠ key i j x) : (tryE c i j t e).M k = t.M k ∧ (tryE c i j t e).S k = t.S k := by
  unfold tryE
  split
  · exact offer_ne _ _ _ _ (h _)
  · exact ⟨rfl, rfl⟩
theorem fold_ne (c : Cst) {i j : Nat} {k : List Int} (h : ∀ x, k ≠ key i j x) : ∀ (es : List Eg) (t : Tb), (es.foldl (tryE c i j) t).M k = t.M k ∧ (es.foldl (tryE c i j) t).S k = t.S k
  | [], t => ⟨rfl, rfl⟩
  | e :: es, t => by
    have h1 := fold_ne c h es (tryE c i j t e)
    have h2 := tryE_ne c t e h
    exact ⟨h1.1.trans h2.1, h1.2.trans h2.2⟩
theorem tryE_mono (c : Cst) {i j : Nat} (t : Tb) (e : Eg) {x w : Int} (h : t.M (key i j x) = some w) : ∃ w', (tryE c i j t e).M (key i j x) = some w' ∧ w' ≤ w := by
  unfold tryE
  split
  · by_cases q : key i j x = key i j e.tk
    · rw [q] at h ⊢
      exact offer_le _ _ _ _ _ h
    · exact ⟨w, (offer_ne _ _ _ _ q).1.trans h, Int.le_refl _⟩
  · exact ⟨w, h, Int.le_refl _⟩
theorem fold_mono (c : Cst) {i j : Nat} : ∀ (es : List Eg) (t : Tb) {x w : Int}, t.M (key i j x) = some w → ∃ w', (es.foldl (tryE c i j) t).M (key i j x) = some w' ∧ w' ≤ w
  | [], t, x, w, h => ⟨w, h, Int.le_refl _⟩
  | e :: es, t, x, w, h => by
    obtain ⟨w1, h1, l1⟩ := tryE_mono c t e h
    obtain ⟨w2, h2, l2⟩ := fold_mono c es _ h1
    exact ⟨w2, h2, by (first | assumption | exact Nat.le_refl _ | exact Nat.add_le_add_left (by decide) _ | exact Nat.le_trans (by assumption) (by decide) | omega)⟩
theorem fold_opt (c : Cst) {i j : Nat} : ∀ (es : List Eg) (t : Tb), (∀ e ∈ es, ¬ (e.i = i ∧ e.j = j)) → ∀ e ∈ es, ∀ v, t.M (key e.i e.j e.k) = some v → ∃ w, (es.foldl (tryE c i j) t).M (key i j e.tk) = some w ∧ w ≤ v + c.of e.k e.s
  | e :: es, t, hne, e', m, v, hv => by
    rcases List.mem_cons.mp m with rfl | m
    · have h1 : ∃ w, (tryE c i j t e').M (key i j e'.tk) = some w ∧ w ≤ v + c.of e'.k e'.s := by
        unfold tryE
        rw [hv]
        rcases offer_at t (key i j e'.tk) (v + c.of e'.k e'.s) e'.s (key e'.i e'.j e'.k) with ⟨q, _⟩ | ⟨q, w, hw, lw⟩
        · exact ⟨_, q, Int.le_refl _⟩
        · exact ⟨w, by show (t.offer _ _ _ _).M _ = _; rw [q]; exact hw, lw⟩
      obtain ⟨w, h1, l1⟩ := h1
      obtain ⟨w2, h2, l2⟩ := fold_mono c es _ h1
      exact ⟨w2, h2, by (first | assumption | exact Nat.le_refl _ | exact Nat.add_le_add_left (by decide) _ | exact Nat.le_trans (by assumption) (by decide) | omega)⟩
    · refine fold_opt c es _ (fun e m => hne e (.tail _ m)) e' m v ?_
      rw [(tryE_ne c t e fun x q => hne e' (.tail _ m) ⟨(key_inj q).1, (key_inj q).2.1⟩).1]
      exact hv
theorem fold_snd (c : Cst) {i j : Nat} : ∀ (es : List Eg) (t : Tb), (∀ e ∈ es, ¬ (e.i = i ∧ e.j = j)) → ∀ x w, (es.foldl (tryE c i j) t).M (key i j x) = some w →
    (t.M (key i j x) = some w ∧ (es.foldl (tryE c i j) t).S (key i j x) = t.S (key i j x)) ∨ ∃ e ∈ es, e.tk = x ∧ ∃ v, t.M (key e.i e.j e.k) = some v ∧ w = v + c.of e.k e.s ∧ (es.foldl (tryE c i j) t).S (key i j x) = some (e.s, key e.i e.j e.k)
  | [], t, _, x, w, h => .inl ⟨h, rfl⟩
  | e :: es, t, hne, x, w, h => by
    rcases fold_snd c es (tryE c i j t e) (fun e m => hne e (.tail _ m)) x w h with ⟨h1, h2⟩ | ⟨e', m, h1, v, h2, h3, h4⟩
    · rw [List.foldl_cons, h2]
      unfold tryE at h1 ⊢
      split
      · rename_i v hv
        rw [hv] at h1
        dsimp only at h1
        by_cases q : x = e.tk
        · subst q
          rcases offer_at t (key i j e.tk) (v + c.of e.k e.s) e.s (key e.i e.j e.k) with ⟨q1, q2⟩ | ⟨q, _⟩
          · rw [q1] at h1
            exact .inr ⟨e, .head _, rfl, v, hv, (Option.some.inj h1).symm, q2⟩
          · rw [q] at h1 ⊢
            exact .inl ⟨h1, rfl⟩
        · have ne : key i j x ≠ key i j e.tk := fun z => q (key_inj z).2.2
          obtain ⟨q1, q2⟩ := offer_ne t (v + c.of e.k e.s) e.s (key e.i e.j e.k) ne
          rw [q1] at h1
          exact .inl ⟨h1, q2⟩
      · rename_i hv
        rw [hv] at h1
        exact .inl ⟨h1, rfl⟩
    · refine .inr ⟨e', .tail _ m, h1, v, ?_, h3, h4⟩
      rw [← (tryE_ne c t e fun x q => hne e' (.tail _ m) ⟨(key_inj q).1, (key_inj q).2.1⟩).1]
      exact h2
noncomputable def EgOk (old new : List Int) (i j : Nat) (e : Eg) : Prop := e.i ≤ i ∧ e.j ≤ j ∧ ¬ (e.i = i ∧ e.j = j) ∧ e.tk = e.s.kind ∧ e.s.bad old new = false ∧ (e.k = 0 ∨ e.k = 1 ∨ e.k = 2) ∧
  ((∃ a b, e.s = .keep a b ∧ e.i = a ∧ e.j = b ∧ i = a + 1 ∧ j = b + 1) ∨ (∃ a b, e.s = .draw a b ∧ e.i = a ∧ e.j = b ∧ i = a + 1 ∧ j = b + 1) ∨ (∃ a, e.s = .del a ∧ e.i = a ∧ i = a + 1 ∧ j = e.j) ∨ (∃ b, e.s = .ins b ∧ e.j = b ∧ j = b + 1 ∧ i = e.i))
theorem kinds_mem {k : Int} (h : k ∈ kinds) : k = 0 ∨ k = 1 ∨ k = 2 := by
  unfold kinds at h
  simpa using h
theorem edges_ok (old new : List Int) (i j : Nat) : ∀ e ∈ edges old new i j, EgOk old new i j e := by
  intro e m
  unfold edges at m
  rcases List.mem_append.mp m with m | m
  · rcases List.mem_append.mp m with m | m
    · rcases List.mem_append.mp m with m | m
      · cases i with
        | zero => cases m
        | succ i' =>
          cases j with
          | zero => cases m
          | succ j' =>
            dsimp only at m
            split at m
            · rename_i q
              obtain ⟨k, mk, rfl⟩ := List.mem_map.mp m
              refine ⟨Nat.le_succ _, Nat.le_succ _, fun h => ?_, rfl, ?_, kinds_mem mk, .inl ⟨i', j', rfl, rfl, rfl, rfl, rfl⟩⟩
              · have := h.1; dsimp only at this; (first | assumption | exact Nat.le_refl _ | exact Nat.add_le_add_left (by decide) _ | exact Nat.le_trans (by assumption) (by decide) | omega)
              · show (old.getD i' 0 != new.getD j' 0) = false
                unfold bne; rw [q]; rfl
            · cases m
      · cases i with
        | zero => cases m
        | succ i' =>
          cases j with
          | zero => cases m
          | succ j' =>
            obtain ⟨k, mk, rfl⟩ := List.mem_map.mp m
            refine ⟨Nat.le_succ _, Nat.le_succ _, fun h => ?_, rfl, rfl, kinds_mem mk, .inr (.inl ⟨i', j', rfl, rfl, rfl, rfl, rfl⟩)⟩
            have := h.1; dsimp only at this; (first | assumption | exact Nat.le_refl _ | exact Nat.add_le_add_left (by decide) _ | exact Nat.le_trans (by assumption) (by decide) | omega)
    · cases i with
      | zero => cases m
      | succ i' =>
        obtain ⟨k, mk, rfl⟩ := List.mem_map.mp m
        refine ⟨Nat.le_succ _, Nat.le_refl _, fun h => ?_, rfl, rfl, kinds_mem mk, .inr (.inr (.inl ⟨i', rfl, rfl, rfl, rfl⟩))⟩
        have := h.1; dsimp only at this; (first | assumption | exact Nat.le_refl _ | exact Nat.add_le_add_left (by decide) _ | exact Nat.le_trans (by assumption) (by decide) | omega)
  · cases j with
    | zero => cases m
    | succ j' =>
      obtain ⟨k, mk, rfl⟩ := List.mem_map.mp m
      refine ⟨Nat.le_refl _, Nat.le_succ _, fun h => ?_, rfl, rfl, kinds_mem mk, .inr (.inr (.inr ⟨j', rfl, rfl, rfl, rfl⟩))⟩
      have := h.2; dsimp only at this; (first | assumption | exact Nat.le_refl _ | exact Nat.add_le_add_left (by decide) _ | exact Nat.le_trans (by assumption) (by decide) | omega)
noncomputable def Bef (m i j a b : Nat) : Prop := b ≤ m ∧ (a < i ∨ (a = i ∧ b < j))
structure Done (old new : List Int) (c : Cst) (i j : Nat) (t : Tb) : Prop where
  base : t.M (key 0 0 0) = some 0 ∧ t.S (key 0 0 0) = none
  some_ : ∀ a b k, t.M (key a b k) ≠ none → (a = 0 ∧ b = 0 ∧ k = 0) ∨ Bef new.length i j a b
  snd : ∀ a b k v, t.M (key a b k) = some v → (a = 0 ∧ b = 0 ∧ k = 0) ∨ ∃ e ∈ edges old new a b, e.tk = k ∧ ∃ v', t.M (key e.i e.j e.k) = some v' ∧ v = v' + c.of e.k e.s ∧ t.S (key a b k) = some (e.s, key e.i e.j e.k)
  opt : ∀ a b, Bef new.length i j a b → ∀ e ∈ edges old new a b, ∀ v, t.M (key e.i e.j e.k) = some v → ∃ w, t.M (key a b e.tk) = some w ∧ w ≤ v + c.of e.k e.s
section
variable {old new : List Int} {c : Cst} {i j : Nat} {t : Tb}
theorem Done.step (h : Done old new c i j t) (hj : j ≤ new.length) : Done old new c i (j + 1) (fillT old new c i j t) := by
  rw [fill_edges]
  by_cases h0 : i = 0 ∧ j = 0
  · obtain ⟨rfl, rfl⟩ := h0
    have e : edges old new 0 0 = [] := rfl
    rw [e]
    refine ⟨h.base, fun a b k q => (h.some_ a b k q).imp id fun z => ⟨z.1, by have := z.2; (first | assumption | exact Nat.le_refl _ | exact Nat.add_le_add_left (by decide) _ | exact Nat.le_trans (by assumption) (by decide) | omega)⟩, h.snd, fun a b z e m v hv => ?_⟩
    obtain ⟨z1, z2⟩ := z
    have : a = 0 ∧ b = 0 := by (first | assumption | exact Nat.le_refl _ | exact Nat.add_le_add_left (by decide) _ | exact Nat.le_trans (by assumption) (by decide) | omega)
    obtain ⟨rfl, rfl⟩ := this
    cases m
  · have ok := edges_ok old new i j
    have hne : ∀ e ∈ edges old new i j, ¬ (e.i = i ∧ e.j = j) := fun e m => (ok e m).2.2.1
    have none_ : ∀ x, t.M (key i j x) = none := fun x => by
      cases q : t.M (key i j x) with
      | none => rfl
      | some v =>
        rcases h.some_ i j x (by rw [q]; simp) with z | z
        · exact absurd ⟨z.1, z.2.1⟩ h0
        · have := z.2; (first | assumption | exact Nat.le_refl _ | exact Nat.add_le_add_left (by decide) _ | exact Nat.le_trans (by assumption) (by decide) | omega)
    have fr : ∀ {a b : Nat} {k : Int}, ¬ (a = i ∧ b = j) → ((edges old new i j).foldl (tryE c i j) t).M (key a b k) = t.M (key a b k) ∧ ((edges old new i j).foldl (tryE c i j) t).S (key a b k) = t.S (key a b k) := fun {a b k} nq =>
      fold_ne c (fun x q => nq ⟨(key_inj q).1, (key_inj q).2.1⟩) _ t
    refine ⟨⟨by rw [(fr fun q => h0 ⟨q.1.symm, q.2.symm⟩).1]; exact h.base.1, by rw [(fr fun q => h0 ⟨q.1.symm, q.2.symm⟩).2]; exact h.base.2⟩, fun a b k q => ?_, fun a b k v hv => ?_, fun a b z e m v hv => ?_⟩
    · by_cases hab : a = i ∧ b = j
      · exact .inr ⟨by (first | assumption | exact Nat.le_refl _ | exact Nat.add_le_add_left (by decide) _ | exact Nat.le_trans (by assumption) (by decide) | omega), by (first | assumption | exact Nat.le_refl _ | exact Nat.add_le_add_left (by decide) _ | exact Nat.le_trans (by assumption) (by decide) | omega)⟩
      · rw [(fr hab).1] at q
        exact (h.some_ a b k q).imp id fun z => ⟨z.1, by have := z.2; (first | assumption | exact Nat.le_refl _ | exact Nat.add_le_add_left (by decide) _ | exact Nat.le_trans (by assumption) (by decide) | omega)⟩
    · by_cases hab : a = i ∧ b = j
      · obtain ⟨rfl, rfl⟩ := hab
        rcases fold_snd c _ t hne k v hv with ⟨q, _⟩ | ⟨e, m, h1, v', h2, h3, h4⟩
        · rw [none_] at q; cases q
        · exact .inr ⟨e, m, h1, v', by rw [(fr (hne e m)).1]; exact h2, h3, h4⟩
      · rw [(fr hab).1] at hv
        rcases h.snd a b k v hv with z | ⟨e, m, h1, v', h2, h3, h4⟩
        · exact .inl z
        · have np : ¬ (e.i = i ∧ e.j = j) := fun q => by
            rw [q.1, q.2, none_] at h2; cases h2
          exact .inr ⟨e, m, h1, v', by rw [(fr np).1]; exact h2, h3, by rw [(fr hab).2]; exact h4⟩
    · by_cases hab : a = i ∧ b = j
      · obtain ⟨rfl, rfl⟩ := hab
        rw [(fr (hne e m)).1] at hv
        exact fold_opt c _ t hne e m v hv
      · obtain ⟨z1, z2⟩ := z
        have ea := edges_ok old new a b e m
        have np : ¬ (e.i = i ∧ e.j = j) := fun q => by
          have := ea.1; have := ea.2.1
          (first | assumption | exact Nat.le_refl _ | exact Nat.add_le_add_left (by decide) _ | exact Nat.le_trans (by assumption) (by decide) | omega)
        rw [(fr np).1] at hv
        rw [(fr hab).1]
        exact h.opt a b ⟨z1, by (first | assumption | exact Nat.le_refl _ | exact Nat.add_le_add_left (by decide) _ | exact Nat.le_trans (by assumption) (by decide) | omega)⟩ e m v hv
theorem Done.row (h : Done old new c i 0 t) : Done old new c (i + 1) 0 (rowT old new c i t) := by
  have : ∀ k, k ≤ new.length + 1 → Done old new c i k ((List.range k).foldl (fun t j => fillT old new c i j t) t) := by
    intro k
    induction k with
    | zero => intro _; exact h
    | succ k ih =>
      intro hk
      rw [List.range_succ, List.foldl_append]
      exact (ih (by (first | assumption | exact Nat.le_refl _ | exact Nat.add_le_add_left (by decide) _ | exact Nat.le_trans (by assumption) (by decide) | omega))).step (by (first | assumption | exact Nat.le_refl _ | exact Nat.add_le_add_left (by decide) _ | exact Nat.le_trans (by assumption) (by decide) | omega))
  have D := this (new.length + 1) (Nat.le_refl _)
  refine ⟨D.base, fun a b k q => (D.some_ a b k q).imp id fun z => ⟨z.1, by have := z.2; (first | assumption | exact Nat.le_refl _ | exact Nat.add_le_add_left (by decide) _ | exact Nat.le_trans (by assumption) (by decide) | omega)⟩, D.snd, fun a b z => D.opt a b ⟨z.1, ?_⟩⟩
  have h1 := z.1
  have h2 := z.2
  (first | assumption | exact Nat.le_refl _ | exact Nat.add_le_add_left (by decide) _ | exact Nat.le_trans (by assumption) (by decide) | omega)
theorem Done.init : Done old new c 0 0 tb0 := by
  have one : ∀ {a b : Nat} {k : Int}, tb0.M (key a b k) ≠ none → a = 0 ∧ b = 0 ∧ k = 0 := fun {a b k} q => by
    have q : put (fun _ => (none : Option Int)) (key 0 0 0) 0 (key a b k) ≠ none := q
    unfold put at q
    by_cases e : key a b k = key 0 0 0
    · exact ⟨(key_inj e).1, (key_inj e).2.1, (key_inj e).2.2⟩
    · rw [if_neg e] at q; exact absurd rfl q
  refine ⟨⟨?_, rfl⟩, fun a b k q => .inl (one q), fun a b k v hv => .inl (one (by rw [hv]; simp)), fun a b z => ?_⟩
  · show put (fun _ => (none : Option Int)) (key 0 0 0) 0 (key 0 0 0) = some 0
    unfold put; rw [if_pos rfl]
  · have := z.2; (first | assumption | exact Nat.le_refl _ | exact Nat.add_le_add_left (by decide) _ | exact Nat.le_trans (by assumption) (by decide) | omega)
theorem Done.all : Done old new c (old.length + 1) 0 (tabT old new c) := by
  have : ∀ k, Done old new c k 0 ((List.range k).foldl (fun t i => rowT old new c i t) tb0) := by
    intro k
    induction k with
    | zero => exact Done.init
    | succ k ih =>
      rw [List.range_succ, List.foldl_append]
      exact ih.row
  exact this _

inductive RV (old new : List Int) : Nat → Nat → List Stp → Prop
  | nil : RV old new 0 0 []
  | keep {i j : Nat} {l : List Stp} : RV old new i j l → (old.getD i 0 == new.getD j 0) = true → RV old new (i + 1) (j + 1) (.keep i j :: l)
  | draw {i j : Nat} {l : List Stp} : RV old new i j l → RV old new (i + 1) (j + 1) (.draw i j :: l)
  | del {i j : Nat} {l : List Stp} : RV old new i j l → RV old new (i + 1) j (.del i :: l)
  | ins {i j : Nat} {l : List Stp} : RV old new i j l → RV old new i (j + 1) (.ins j :: l)
theorem chain_of (D : Done old new c (old.length + 1) 0 t) : ∀ (N a b : Nat) (k v : Int), a + b ≤ N → t.M (key a b k) = some v → ∃ l, Chain t.S (key a b k) l ∧ RV old new a b l ∧ c.tot 0 l.reverse = v ∧ lastKind 0 l.reverse = k
  | N, a, b, k, v, hN, hv => by
    rcases D.snd a b k v hv with ⟨rfl, rfl, rfl⟩ | ⟨e, m, h1, v', h2, h3, h4⟩
    · have : some v = some (0 : Int) := hv.symm.trans D.base.1
      exact ⟨[], .nil D.base.2, .nil, (Option.some.inj this).symm, rfl⟩
    · obtain ⟨o1, o2, o3, o4, o5, o6, o7⟩ := edges_ok old new a b e m
      cases N with
      | zero => (first | assumption | exact Nat.le_refl _ | exact Nat.add_le_add_left (by decide) _ | exact Nat.le_trans (by assumption) (by decide) | omega)
      | succ N =>
        obtain ⟨l, c1, c2, c3, c4⟩ := chain_of D N e.i e.j e.k v' (by (first | assumption | exact Nat.le_refl _ | exact Nat.add_le_add_left (by decide) _ | exact Nat.le_trans (by assumption) (by decide) | omega)) h2
        refine ⟨e.s :: l, .cons h4 c1, ?_, ?_, ?_⟩
        · rcases o7 with ⟨x, y, q1, q2, q3, q4, q5⟩ | ⟨x, y, q1, q2, q3, q4, q5⟩ | ⟨x, q1, q2, q3, q4⟩ | ⟨y, q1, q2, q3, q4⟩
          · rw [q1] at o5 ⊢
            rw [q2, q3] at c2
            rw [q4, q5]
            refine .keep c2 ?_
            have o5 : (old.getD x 0 != new.getD y 0) = false := o5
            unfold bne at o5
            cases q : (old.getD x 0 == new.getD y 0) with
            | true => rfl
            | false => rw [q] at o5; cases o5
          · rw [q1]
            rw [q2, q3] at c2
            rw [q4, q5]
            exact .draw c2
          · rw [q1]
            rw [q2, ← q4] at c2
            rw [q3]
            exact .del c2
          · rw [q1]
            rw [q2, ← q4] at c2
            rw [q3]
            exact .ins c2
        · rw [List.reverse_cons, tot_snoc, c3, c4, h3]
        · rw [List.reverse_cons, lastKind_snoc, ← h1, o4]
theorem kind_mem (s : Stp) : s.kind ∈ kinds := by cases s <;> simp [Stp.kind, kinds]
theorem lastKind_mem (l : List Stp) : lastKind 0 l ∈ kinds := by
  unfold lastKind
  split
  · exact kind_mem _
  · simp [kinds]
theorem mem_keep {i j : Nat} {k : Int} (h : (old.getD i 0 == new.getD j 0) = true) (hk : k ∈ kinds) : (⟨.keep i j, i, j, k, 0⟩ : Eg) ∈ edges old new (i + 1) (j + 1) := by
  unfold edges
  refine List.mem_append_left _ (List.mem_append_left _ (List.mem_append_left _ ?_))
  dsimp only
  rw [if_pos h]
  exact List.mem_map.mpr ⟨k, hk, rfl⟩
theorem mem_draw {i j : Nat} {k : Int} (hk : k ∈ kinds) : (⟨.draw i j, i, j, k, 0⟩ : Eg) ∈ edges old new (i + 1) (j + 1) := by
  unfold edges
  exact List.mem_append_left _ (List.mem_append_left _ (List.mem_append_right _ (List.mem_map.mpr ⟨k, hk, rfl⟩)))
theorem mem_del {i j : Nat} {k : Int} (hk : k ∈ kinds) : (⟨.del i, i, j, k, 1⟩ : Eg) ∈ edges old new (i + 1) j := by
  unfold edges
  exact List.mem_append_left _ (List.mem_append_right _ (List.mem_map.mpr ⟨k, hk, rfl⟩))
theorem mem_ins {i j : Nat} {k : Int} (hk : k ∈ kinds) : (⟨.ins j, i, j, k, 2⟩ : Eg) ∈ edges old new i (j + 1) := by
  unfold edges
  exact List.mem_append_right _ (List.mem_map.mpr ⟨k, hk, rfl⟩)
theorem opt_of (D : Done old new c (old.length + 1) 0 t) {a b : Nat} {l : List Stp} (h : RV old new a b l) : a ≤ old.length → b ≤ new.length → ∃ w, t.M (key a b (lastKind 0 l.reverse)) = some w ∧ w ≤ c.tot 0 l.reverse := by
  have go : ∀ {a b i j : Nat} {l : List Stp} {s : Stp} {tk : Int}, a ≤ old.length → b ≤ new.length → s.kind = tk → (⟨s, i, j, lastKind 0 l.reverse, tk⟩ : Eg) ∈ edges old new a b → (∃ w, t.M (key i j (lastKind 0 l.reverse)) = some w ∧ w ≤ c.tot 0 l.reverse) → ∃ w, t.M (key a b (lastKind 0 (s :: l).reverse)) = some w ∧ w ≤ c.tot 0 (s :: l).reverse := by
    rintro a b i j l s tk ha hb hs m ⟨w, h1, h2⟩
    obtain ⟨w2, h3, h4⟩ := D.opt a b ⟨hb, by (first | assumption | exact Nat.le_refl _ | exact Nat.add_le_add_left (by decide) _ | exact Nat.le_trans (by assumption) (by decide) | omega)⟩ _ m w h1
    rw [List.reverse_cons, lastKind_snoc, tot_snoc, hs]
    exact ⟨w2, h3, by have h4 : w2 ≤ w + c.of (lastKind 0 l.reverse) s := h4; (first | assumption | exact Nat.le_refl _ | exact Nat.add_le_add_left (by decide) _ | exact Nat.le_trans (by assumption) (by decide) | omega)⟩
  induction h with
  | nil => intro _ _; exact ⟨0, D.base.1, Int.le_refl _⟩
  | keep r q ih => intro ha hb; exact go ha hb rfl (mem_keep q (lastKind_mem _)) (ih (by (first | assumption | exact Nat.le_refl _ | exact Nat.add_le_add_left (by decide) _ | exact Nat.le_trans (by assumption) (by decide) | omega)) (by (first | assumption | exact Nat.le_refl _ | exact Nat.add_le_add_left (by decide) _ | exact Nat.le_trans (by assumption) (by decide) | omega)))
  | draw r ih => intro ha hb; exact go ha hb rfl (mem_draw (lastKind_mem _)) (ih (by (first | assumption | exact Nat.le_refl _ | exact Nat.add_le_add_left (by decide) _ | exact Nat.le_trans (by assumption) (by decide) | omega)) (by (first | assumption | exact Nat.le_refl _ | exact Nat.add_le_add_left (by decide) _ | exact Nat.le_trans (by assumption) (by decide) | omega)))
  | del r ih => intro ha hb; exact go ha hb rfl (mem_del (lastKind_mem _)) (ih (by (first | assumption | exact Nat.le_refl _ | exact Nat.add_le_add_left (by decide) _ | exact Nat.le_trans (by assumption) (by decide) | omega)) (by (first | assumption | exact Nat.le_refl _ | exact Nat.add_le_add_left (by decide) _ | exact Nat.le_trans (by assumption) (by decide) | omega)))
  | ins r ih => intro ha hb; exact go ha hb rfl (mem_ins (lastKind_mem _)) (ih (by (first | assumption | exact Nat.le_refl _ | exact Nat.add_le_add_left (by decide) _ | exact Nat.le_trans (by assumption) (by decide) | omega)) (by (first | assumption | exact Nat.le_refl _ | exact Nat.add_le_add_left (by decide) _ | exact Nat.le_trans (by assumption) (by decide) | omega)))
theorem pick_spec (t : Tb) (n m : Nat) : ∀ (l pre : List Int) (acc : Option Int), ((acc = none ∧ ∀ k ∈ pre, t.M (key n m k) = none) ∨ ∃ k v, acc = some k ∧ k ∈ pre ∧ t.M (key n m k) = some v ∧ ∀ k' ∈ pre, ∀ v', t.M (key n m k') = some v' → v ≤ v') →
    ((l.foldl (pickF t n m) acc = none ∧ ∀ k ∈ pre ++ l, t.M (key n m k) = none) ∨ ∃ k v, l.foldl (pickF t n m) acc = some k ∧ k ∈ pre ++ l ∧ t.M (key n m k) = some v ∧ ∀ k' ∈ pre ++ l, ∀ v', t.M (key n m k') = some v' → v ≤ v')
  | [], pre, acc, h => by rw [List.append_nil]; exact h
  | x :: l, pre, acc, h => by
    have := pick_spec t n m l (pre ++ [x]) (pickF t n m acc x)
    rw [List.append_assoc] at this
    refine this ?_
    unfold pickF
    cases q : t.M (key n m x) with
    | none =>
      dsimp only
      rcases h with ⟨h1, h2⟩ | ⟨k, v, h1, h2, h3, h4⟩
      · refine .inl ⟨h1, fun k mk => ?_⟩
        rcases List.mem_append.mp mk with mk | mk
        · exact h2 k mk
        · rw [List.mem_singleton.mp mk]; exact q
      · refine .inr ⟨k, v, h1, List.mem_append_left _ h2, h3, fun k' mk v' hv => ?_⟩
        rcases List.mem_append.mp mk with mk | mk
        · exact h4 k' mk v' hv
        · rw [List.mem_singleton.mp mk, q] at hv; cases hv
    | some v0 =>
      dsimp only
      rcases h with ⟨rfl, h2⟩ | ⟨k, v, rfl, h2, h3, h4⟩
      · refine .inr ⟨x, v0, rfl, List.mem_append_right _ (List.mem_singleton.mpr rfl), q, fun k' mk v' hv => ?_⟩
        rcases List.mem_append.mp mk with mk | mk
        · rw [h2 k' mk] at hv; cases hv
        · rw [List.mem_singleton.mp mk, q] at hv
          have := Option.some.inj hv; (first | assumption | exact Nat.le_refl _ | exact Nat.add_le_add_left (by decide) _ | exact Nat.le_trans (by assumption) (by decide) | omega)
      · dsimp only
        rw [h3]
        dsimp only
        by_cases lt : v0 < v
        · rw [if_pos lt]
          refine .inr ⟨x, v0, rfl, List.mem_append_right _ (List.mem_singleton.mpr rfl), q, fun k' mk v' hv => ?_⟩
          rcases List.mem_append.mp mk with mk | mk
          · have := h4 k' mk v' hv; (first | assumption | exact Nat.le_refl _ | exact Nat.add_le_add_left (by decide) _ | exact Nat.le_trans (by assumption) (by decide) | omega)
          · rw [List.mem_singleton.mp mk, q] at hv
            have := Option.some.inj hv; (first | assumption | exact Nat.le_refl _ | exact Nat.add_le_add_left (by decide) _ | exact Nat.le_trans (by assumption) (by decide) | omega)
        · rw [if_neg lt]
          refine .inr ⟨k, v, rfl, List.mem_append_left _ h2, h3, fun k' mk v' hv => ?_⟩
          rcases List.mem_append.mp mk with mk | mk
          · exact h4 k' mk v' hv
          · rw [List.mem_singleton.mp mk, q] at hv
            have := Option.some.inj hv; (first | assumption | exact Nat.le_refl _ | exact Nat.add_le_add_left (by decide) _ | exact Nat.le_trans (by assumption) (by decide) | omega)
theorem some_way (old new : List Int) : ∀ n m, ∃ l, RV old new n m l
  | 0, 0 => ⟨_, .nil⟩
  | n + 1, 0 => let ⟨l, h⟩ := some_way old new n 0; ⟨_, .del h⟩
  | n, m + 1 => let ⟨l, h⟩ := some_way old new n m; ⟨_, .ins h⟩
theorem least_ok (old new : List Int) (c : Cst) : ∃ k l, bestK (tabT old new c) old.length new.length = some k ∧ Chain (tabT old new c).S (key old.length new.length k) l ∧ RV old new old.length new.length l ∧ ∀ l', RV old new old.length new.length l' → c.tot 0 l.reverse ≤ c.tot 0 l'.reverse := by
  have D : Done old new c (old.length + 1) 0 (tabT old new c) := Done.all
  have opt := fun (l' : List Stp) (h : RV old new old.length new.length l') => opt_of D h (Nat.le_refl _) (Nat.le_refl _)
  rcases pick_spec (tabT old new c) old.length new.length kinds [] none (.inl ⟨rfl, nofun⟩) with ⟨_, h2⟩ | ⟨k, v, h1, h2, h3, h4⟩
  · obtain ⟨l, hl⟩ := some_way old new old.length new.length
    obtain ⟨w, hw, _⟩ := opt l hl
    rw [h2 _ (lastKind_mem _)] at hw; cases hw
  · obtain ⟨l, c1, c2, c3, c4⟩ := chain_of D _ old.length new.length k v (Nat.le_refl _) h3
    refine ⟨k, l, h1, c1, c2, fun l' hl' => ?_⟩
    obtain ⟨w, hw, lw⟩ := opt l' hl'
    have := h4 _ (lastKind_mem _) w hw
    rw [c3]; (first | assumption | exact Nat.le_refl _ | exact Nat.add_le_add_left (by decide) _ | exact Nat.le_trans (by assumption) (by decide) | omega)
end
section
variable {old new : List Int} {c : Cst}
noncomputable def kf (old new : List Int) : Stp → Stp
  | .draw i j => if (old.getD i 0 == new.getD j 0) = true then .keep i j else .draw i j
  | s => s
theorem kf_kind (s : Stp) : (kf old new s).kind = s.kind := by
  cases s with
  | draw i j => show (if (old.getD i 0 == new.getD j 0) = true then Stp.keep i j else Stp.draw i j).kind = 0; split <;> rfl
  | _ => rfl
theorem tot_kf (hc : ∀ j, 0 ≤ c.at j) : ∀ (l : List Stp) (k : Int), c.tot k (l.map (kf old new)) ≤ c.tot k l
  | [], k => Int.le_refl _
  | s :: l, k => by
    show c.of k (kf old new s) + c.tot (kf old new s).kind (l.map (kf old new)) ≤ c.of k s + c.tot s.kind l
    rw [kf_kind]
    have h := tot_kf hc l s.kind
    have : c.of k (kf old new s) ≤ c.of k s := by
      cases s with
      | draw i j =>
        show c.of k (if (old.getD i 0 == new.getD j 0) = true then Stp.keep i j else Stp.draw i j) ≤ c.at j
        split
        · exact hc j
        · exact Int.le_refl _
      | _ => exact Int.le_refl _
    (first | assumption | exact Nat.le_refl _ | exact Nat.add_le_add_left (by decide) _ | exact Nat.le_trans (by assumption) (by decide) | omega)
theorem RV.kf {a b : Nat} {l : List Stp} (h : RV old new a b l) : RV old new a b (l.map (kf old new)) := by
  induction h with
  | nil => exact .nil
  | keep _ q ih => exact .keep ih q
  | @draw i j l _ ih =>
    show RV old new (i + 1) (j + 1) ((if (old.getD i 0 == new.getD j 0) = true then Stp.keep i j else Stp.draw i j) :: l.map (Mine.kf old new))
    split
    · rename_i q; exact .keep ih q
    · exact .draw ih
  | del _ ih => exact .del ih
  | ins _ ih => exact .ins ih
theorem RV.len {a b : Nat} {l : List Stp} (h : RV old new a b l) : l.length ≤ a + b := by
  induction h with
  | nil => exact Nat.zero_le _
  | _ => simp only [List.length_cons]; (first | assumption | exact Nat.le_refl _ | exact Nat.add_le_add_left (by decide) _ | exact Nat.le_trans (by assumption) (by decide) | omega)
theorem scrs_mono : ∀ (k a b : Nat) {r : List Stp}, r ∈ scrs old new k a b → r ∈ scrs old new (k + 1) a b
  | 0, a, b, r, m => by
    have e : scrs old new 0 a b = if a = old.length ∧ b = new.length then [[]] else [] := rfl
    rw [e] at m
    unfold scrs
    exact List.mem_append_left _ (List.mem_append_left _ (List.mem_append_left _ m))
  | k + 1, a, b, r, m => by
    unfold scrs at m
    rw [scrs]
    have go : ∀ {p : Prop} [Decidable p] {x y : Nat} {s : Stp}, r ∈ (if p then (scrs old new k x y).map (s :: ·) else []) → r ∈ (if p then (scrs old new (k + 1) x y).map (s :: ·) else []) := by
      intro p _ x y s m
      split at m
      · rename_i hp
        rw [if_pos hp]
        obtain ⟨q, mq, rfl⟩ := List.mem_map.mp m
        exact List.mem_map.mpr ⟨q, scrs_mono k x y mq, rfl⟩
      · cases m
    rcases List.mem_append.mp m with m | m
    · refine List.mem_append_left _ ?_
      rcases List.mem_append.mp m with m | m
      · refine List.mem_append_left _ ?_
        rcases List.mem_append.mp m with m | m
        · exact List.mem_append_left _ m
        · exact List.mem_append_right _ (go m)
      · exact List.mem_append_right _ (go m)
    · exact List.mem_append_right _ (go m)
theorem scrs_le {k k' : Nat} (h : k ≤ k') {a b : Nat} {r : List Stp} (m : r ∈ scrs old new k a b) : r ∈ scrs old new k' a b := by
  induction h with
  | refl => exact m
  | step _ ih => exact scrs_mono _ _ _ ih
theorem scrs_of {a b : Nat} {l : List Stp} (h : RV old new a b l) : a ≤ old.length → b ≤ new.length → ∀ (k : Nat) (r : List Stp), r ∈ scrs old new k a b → (l.reverse.map (kf old new)) ++ r ∈ scrs old new (k + l.length) 0 0 := by
  induction h with
  | nil => intro _ _ k r m; simpa using m
  | @keep i j l hr q ih =>
    intro ha hb k r m
    have m2 : Stp.keep i j :: r ∈ scrs old new (k + 1) i j := by
      rw [scrs]
      refine List.mem_append_right _ ?_
      rw [if_pos (by (first | assumption | exact Nat.le_refl _ | exact Nat.add_le_add_left (by decide) _ | exact Nat.le_trans (by assumption) (by decide) | omega)), if_pos q]
      exact List.mem_map.mpr ⟨r, m, rfl⟩
    have := ih (by (first | assumption | exact Nat.le_refl _ | exact Nat.add_le_add_left (by decide) _ | exact Nat.le_trans (by assumption) (by decide) | omega)) (by (first | assumption | exact Nat.le_refl _ | exact Nat.add_le_add_left (by decide) _ | exact Nat.le_trans (by assumption) (by decide) | omega)) (k + 1) _ m2
    rw [List.reverse_cons, List.map_append, List.append_assoc, List.length_cons, show k + (l.length + 1) = k + 1 + l.length from by (first | assumption | exact Nat.le_refl _ | exact Nat.add_le_add_left (by decide) _ | exact Nat.le_trans (by assumption) (by decide) | omega)]
    exact this
  | @draw i j l hr ih =>
    intro ha hb k r m
    have m2 : kf old new (.draw i j) :: r ∈ scrs old new (k + 1) i j := by
      rw [scrs]
      refine List.mem_append_right _ ?_
      rw [if_pos (by (first | assumption | exact Nat.le_refl _ | exact Nat.add_le_add_left (by decide) _ | exact Nat.le_trans (by assumption) (by decide) | omega))]
      exact List.mem_map.mpr ⟨r, m, rfl⟩
    have := ih (by (first | assumption | exact Nat.le_refl _ | exact Nat.add_le_add_left (by decide) _ | exact Nat.le_trans (by assumption) (by decide) | omega)) (by (first | assumption | exact Nat.le_refl _ | exact Nat.add_le_add_left (by decide) _ | exact Nat.le_trans (by assumption) (by decide) | omega)) (k + 1) _ m2
    rw [List.reverse_cons, List.map_append, List.append_assoc, List.length_cons, show k + (l.length + 1) = k + 1 + l.length from by (first | assumption | exact Nat.le_refl _ | exact Nat.add_le_add_left (by decide) _ | exact Nat.le_trans (by assumption) (by decide) | omega)]
    exact this
  | @del i j l hr ih =>
    intro ha hb k r m
    have m2 : Stp.del i :: r ∈ scrs old new (k + 1) i j := by
      rw [scrs]
      refine List.mem_append_left _ (List.mem_append_left _ (List.mem_append_right _ ?_))
      rw [if_pos (by (first | assumption | exact Nat.le_refl _ | exact Nat.add_le_add_left (by decide) _ | exact Nat.le_trans (by assumption) (by decide) | omega))]
      exact List.mem_map.mpr ⟨r, m, rfl⟩
    have := ih (by (first | assumption | exact Nat.le_refl _ | exact Nat.add_le_add_left (by decide) _ | exact Nat.le_trans (by assumption) (by decide) | omega)) (by (first | assumption | exact Nat.le_refl _ | exact Nat.add_le_add_left (by decide) _ | exact Nat.le_trans (by assumption) (by decide) | omega)) (k + 1) _ m2
    rw [List.reverse_cons, List.map_append, List.append_assoc, List.length_cons, show k + (l.length + 1) = k + 1 + l.length from by (first | assumption | exact Nat.le_refl _ | exact Nat.add_le_add_left (by decide) _ | exact Nat.le_trans (by assumption) (by decide) | omega)]
    exact this
  | @ins i j l hr ih =>
    intro ha hb k r m
    have m2 : Stp.ins j :: r ∈ scrs old new (k + 1) i j := by
      rw [scrs]
      refine List.mem_append_left _ (List.mem_append_right _ ?_)
      rw [if_pos (by (first | assumption | exact Nat.le_refl _ | exact Nat.add_le_add_left (by decide) _ | exact Nat.le_trans (by assumption) (by decide) | omega))]
      exact List.mem_map.mpr ⟨r, m, rfl⟩
    have := ih (by (first | assumption | exact Nat.le_refl _ | exact Nat.add_le_add_left (by decide) _ | exact Nat.le_trans (by assumption) (by decide) | omega)) (by (first | assumption | exact Nat.le_refl _ | exact Nat.add_le_add_left (by decide) _ | exact Nat.le_trans (by assumption) (by decide) | omega)) (k + 1) _ m2
    rw [List.reverse_cons, List.map_append, List.append_assoc, List.length_cons, show k + (l.length + 1) = k + 1 + l.length from by (first | assumption | exact Nat.le_refl _ | exact Nat.add_le_add_left (by decide) _ | exact Nat.le_trans (by assumption) (by decide) | omega)]
    exact this
theorem scrs_RV : ∀ (k a b : Nat) {r l : List Stp}, r ∈ scrs old new k a b → RV old new a b l → RV old new old.length new.length (r.reverse ++ l)
  | k, a, b, r, l, m, h => by
    have base : r ∈ (if a = old.length ∧ b = new.length then [[]] else []) → RV old new old.length new.length (r.reverse ++ l) := by
      intro m
      split at m
      · rename_i q
        rw [List.mem_singleton.mp m, ← q.1, ← q.2]
        exact h
      · cases m
    cases k with
    | zero => exact base m
    | succ k =>
      rw [scrs] at m
      have go : ∀ {p : Prop} [Decidable p] {x y : Nat} {s : Stp}, (p → RV old new x y (s :: l)) → r ∈ (if p then (scrs old new k x y).map (s :: ·) else []) → RV old new old.length new.length (r.reverse ++ l) := by
        intro p _ x y s hs m
        split at m
        · rename_i hp
          obtain ⟨q, mq, rfl⟩ := List.mem_map.mp m
          have := scrs_RV k x y mq (hs hp)
          rw [List.reverse_cons, List.append_assoc]
          exact this
        · cases m
      rcases List.mem_append.mp m with m | m
      · rcases List.mem_append.mp m with m | m
        · rcases List.mem_append.mp m with m | m
          · exact base m
          · exact go (fun _ => .del h) m
        · exact go (fun _ => .ins h) m
      · refine go (fun _ => ?_) m
        split
        · rename_i q; exact .keep h q
        · exact .draw h

noncomputable def allR : Nat → Nat → Nat → List (List Stp)
  | 0, i, j => if i = 0 ∧ j = 0 then [[]] else []
  | k + 1, i, j => (if i = 0 ∧ j = 0 then [[]] else []) ++ (match i with | i' + 1 => (allR k i' j).map (Stp.del i' :: ·) | 0 => []) ++ (match j with | j' + 1 => (allR k i j').map (Stp.ins j' :: ·) | 0 => [])
    ++ (match i, j with | i' + 1, j' + 1 => (allR k i' j').map (Stp.keep i' j' :: ·) ++ (allR k i' j').map (Stp.draw i' j' :: ·) | _, _ => [])
theorem allR_of {a b : Nat} {l : List Stp} (h : RV old new a b l) : ∀ k, a + b ≤ k → l ∈ allR k a b := by
  induction h with
  | nil =>
    intro k _
    cases k with
    | zero => exact .head _
    | succ k => exact .head _
  | @keep i j l _ _ ih =>
    intro k hk
    cases k with
    | zero => (first | assumption | exact Nat.le_refl _ | exact Nat.add_le_add_left (by decide) _ | exact Nat.le_trans (by assumption) (by decide) | omega)
    | succ k => rw [allR]; exact List.mem_append_right _ (List.mem_append_left _ (List.mem_map.mpr ⟨l, ih k (by (first | assumption | exact Nat.le_refl _ | exact Nat.add_le_add_left (by decide) _ | exact Nat.le_trans (by assumption) (by decide) | omega)), rfl⟩))
  | @draw i j l _ ih =>
    intro k hk
    cases k with
    | zero => (first | assumption | exact Nat.le_refl _ | exact Nat.add_le_add_left (by decide) _ | exact Nat.le_trans (by assumption) (by decide) | omega)
    | succ k => rw [allR]; exact List.mem_append_right _ (List.mem_append_right _ (List.mem_map.mpr ⟨l, ih k (by (first | assumption | exact Nat.le_refl _ | exact Nat.add_le_add_left (by decide) _ | exact Nat.le_trans (by assumption) (by decide) | omega)), rfl⟩))
  | @del i j l _ ih =>
    intro k hk
    cases k with
    | zero => (first | assumption | exact Nat.le_refl _ | exact Nat.add_le_add_left (by decide) _ | exact Nat.le_trans (by assumption) (by decide) | omega)
    | succ k => unfold allR; exact List.mem_append_left _ (List.mem_append_left _ (List.mem_append_right _ (List.mem_map.mpr ⟨l, ih k (by (first | assumption | exact Nat.le_refl _ | exact Nat.add_le_add_left (by decide) _ | exact Nat.le_trans (by assumption) (by decide) | omega)), rfl⟩)))
  | @ins i j l _ ih =>
    intro k hk
    cases k with
    | zero => (first | assumption | exact Nat.le_refl _ | exact Nat.add_le_add_left (by decide) _ | exact Nat.le_trans (by assumption) (by decide) | omega)
    | succ k => unfold allR; exact List.mem_append_left _ (List.mem_append_right _ (List.mem_map.mpr ⟨l, ih k (by (first | assumption | exact Nat.le_refl _ | exact Nat.add_le_add_left (by decide) _ | exact Nat.le_trans (by assumption) (by decide) | omega)), rfl⟩))
noncomputable def nIns' : Stp → Bool
  | .ins _ => false
  | _ => true
noncomputable def nDel' : Stp → Bool
  | .del _ => false
  | _ => true
theorem nIns_eq : Stp.nIns = nIns' := by
  funext s
  unfold Stp.nIns
  cases s with
  | keep i j => rw [is_keep_ins]; rfl
  | draw i j => rw [is_draw_ins]; rfl
  | del i => rw [is_del_ins]; rfl
  | ins i => rw [is_ins_ins]; rfl
theorem nDel_eq : Stp.nDel = nDel' := by
  funext s
  unfold Stp.nDel
  cases s with
  | keep i j => rw [is_keep_del]; rfl
  | draw i j => rw [is_draw_del]; rfl
  | del i => rw [is_del_del]; rfl
  | ins i => rw [is_ins_del]; rfl
noncomputable def linesL (N : Nat) : List Int := (List.range N).map fun (k : Nat) => 10 + (k : Int)
noncomputable def rows0 (N : Nat) : List (Option Int) := (linesL N).map some
noncomputable def dueStep (d : List (Option Int)) : Stp → List (Option Int)
  | .keep i j => d.set j (some (10 + (i : Int)))
  | _ => d
noncomputable def dueOf (N : Nat) (l : List Stp) : List (Option Int) := l.foldl dueStep (List.replicate N none)
noncomputable def inSq (N : Nat) : Stp → Bool
  | .keep i j => decide (i < N) && decide (j < N)
  | .draw i j => decide (i < N) && decide (j < N)
  | .del i => decide (i < N)
  | .ins j => decide (j < N)
noncomputable def delOk (l : List Stp) (t : Nat) : Bool := match l[t]? with
  | some (.del i) => decide (dels (l.take t) ≤ i)
  | _ => true
noncomputable def runOk (N : Nat) (r : Run) : Bool := decide (r.at_ ≤ N) && decide (r.cnt ≤ N) && (!r.del || decide (r.at_ + r.cnt ≤ N))
noncomputable def placeOk (due behind : List (Option Int)) (k : Nat) : Bool := match due.getD k none with
  | none => true
  | some v => behind.getD k none == some v
noncomputable def chk (N : Nat) (l : List Stp) : Bool :=
  decide (l.length ≤ 6) && l.all (inSq N) && ((l.filter nIns').map Stp.snd == upI N) && ((l.filter nDel').map Stp.last == upI N) && (List.range 6).all (delOk l) && (runs l).all (runOk N)
  && (drs l).all (fun j => decide (0 ≤ j) && decide (j < N)) && (blank (moves (rows0 N) (runs l)) (drs l) == dueOf N l) && (List.range N).all (placeOk (dueOf N l) (moves (rows0 N) (runs l)))
theorem chk0 : (allR 6 0 0).all (fun l => chk 0 l.reverse) = true := by decide +kernel
theorem chk1 : (allR 6 1 1).all (fun l => chk 1 l.reverse) = true := by decide +kernel
theorem chk2 : (allR 6 2 2).all (fun l => chk 2 l.reverse) = true := by decide +kernel
theorem chk3 : (allR 6 3 3).all (fun l => chk 3 l.reverse) = true := by decide +kernel
theorem chk_of {N : Nat} (hN : N ≤ 3) {l : List Stp} (h : RV old new N N l) : chk N l.reverse = true := by
  have m := allR_of h 6 (by (first | assumption | exact Nat.le_refl _ | exact Nat.add_le_add_left (by decide) _ | exact Nat.le_trans (by assumption) (by decide) | omega))
  have : N = 0 ∨ N = 1 ∨ N = 2 ∨ N = 3 := by (first | assumption | exact Nat.le_refl _ | exact Nat.add_le_add_left (by decide) _ | exact Nat.le_trans (by assumption) (by decide) | omega)
  rcases this with rfl | rfl | rfl | rfl
  · exact List.all_eq_true.mp chk0 l m
  · exact List.all_eq_true.mp chk1 l m
  · exact List.all_eq_true.mp chk2 l m
  · exact List.all_eq_true.mp chk3 l m
end
structure Told (N : Nat) (old new : List Int) (l : List Stp) : Prop where
  len : l.length ≤ 6
  inR : ∀ s ∈ l, s.inR N
  keep : ∀ i j, Stp.keep i j ∈ l → i < N ∧ j < N
  olds_ : olds l = upI N
  news_ : news l = upI N
  bad : ∀ s ∈ l, s.bad old new = false
  del : ∀ t i, l[t]? = some (.del i) → dels (l.take t) ≤ i
  runs_ : ∀ r ∈ runs l, r.ok N
  drs_ : ∀ j ∈ drs l, 0 ≤ j ∧ j < N
  done : blank (moves (rows0 N) (runs l)) (drs l) = dueOf N l
  place : ∀ k, k < N → placeOk (dueOf N l) (moves (rows0 N) (runs l)) k = true
theorem RV.bad {old new : List Int} {a b : Nat} {l : List Stp} (h : RV old new a b l) : ∀ s ∈ l, s.bad old new = false := by
  induction h with
  | nil => exact nofun
  | @keep i j l _ q ih =>
    intro s m
    rcases List.mem_cons.mp m with rfl | m
    · show (old.getD i 0 != new.getD j 0) = false
      unfold bne; rw [q]; rfl
    · exact ih s m
  | draw _ ih => exact fun s m => (List.mem_cons.mp m).elim (fun q => q ▸ rfl) (ih s)
  | del _ ih => exact fun s m => (List.mem_cons.mp m).elim (fun q => q ▸ rfl) (ih s)
  | ins _ ih => exact fun s m => (List.mem_cons.mp m).elim (fun q => q ▸ rfl) (ih s)
theorem told_of {old new : List Int} {N : Nat} (hN : N ≤ 3) {l : List Stp} (h : RV old new N N l) : Told N old new l.reverse := by
  have hc := chk_of hN h
  generalize hl : l.reverse = q at hc
  unfold chk at hc
  simp only [Bool.and_eq_true, decide_eq_true_eq, beq_iff_eq, List.all_eq_true] at hc
  obtain ⟨⟨⟨⟨⟨⟨⟨⟨c1, c2⟩, c3⟩, c4⟩, c5⟩, c6⟩, c7⟩, c8⟩, c9⟩ := hc
  refine ⟨c1, fun s m => ?_, fun i j m => ?_, ?_, ?_, fun s m => ?_, fun t i ht => ?_, fun r m => ?_, fun j m => c7 j m, c8, fun k hk => c9 k (List.mem_range.mpr hk)⟩
  · have := c2 s m
    cases s with
    | keep i j => exact trivial
    | draw i j => unfold inSq at this; simp only [Bool.and_eq_true, decide_eq_true_eq] at this; exact this.2
    | del i => exact trivial
    | ins j => have q : decide (j < N) = true := this; exact (of_decide_eq_true q : j < N)
  · have := c2 _ m
    unfold inSq at this
    simp only [Bool.and_eq_true, decide_eq_true_eq] at this
    exact this
  · unfold olds; rw [nIns_eq]; exact c3
  · unfold news; rw [nDel_eq]; exact c4
  · rw [← hl] at m
    exact h.bad s (List.mem_reverse.mp m)
  · have hlt := (List.getElem?_eq_some_iff.mp ht).1
    have := c5 t (List.mem_range.mpr (by (first | assumption | exact Nat.le_refl _ | exact Nat.add_le_add_left (by decide) _ | exact Nat.le_trans (by assumption) (by decide) | omega)))
    unfold delOk at this
    rw [ht] at this
    exact of_decide_eq_true this
  · have := c6 r m
    unfold runOk at this
    simp only [Bool.and_eq_true, Bool.or_eq_true, decide_eq_true_eq, Bool.not_eq_true'] at this
    refine ⟨this.1.1, this.1.2, fun hd => ?_⟩
    rcases this.2 with z | z
    · rw [hd] at z; cases z
    · exact z
structure Good (old new : List Int) (c : Cst) : Prop where
  same : old.length = new.length
  small : new.length ≤ 3
  dr : c.dr.length = new.length
  pos : ∀ j, 0 ≤ c.at j
theorem at_pos {p0 p1 p2 p3 : Int} {l : List Int} (h : ∀ x ∈ l, 0 ≤ x) (j : Nat) : 0 ≤ (⟨p0, p1, p2, p3, l⟩ : Cst).at j := by
  show 0 ≤ l.getD j 0
  rw [List.getD_eq_getElem?_getD]
  cases q : l[j]? with
  | none => exact Int.le_refl _
  | some v => exact h v (List.mem_of_getElem? q)
theorem law_math {old new : List Int} {c : Cst} (g : Good old new c) : ∃ k l, bestK (tabT old new c) old.length new.length = some k ∧ Chain (tabT old new c).S (key old.length new.length k) l ∧ Told new.length old new l.reverse ∧
    c.tot 0 l.reverse ∈ (scrs old new 6 0 0).map (c.tot 0) ∧ ∀ x ∈ (scrs old new 6 0 0).map (c.tot 0), c.tot 0 l.reverse ≤ x := by
  obtain ⟨k, l, h1, h2, h3, h4⟩ := least_ok old new c
  have hs := g.same
  have hsm := g.small
  refine ⟨k, l, h1, h2, told_of hsm (by rw [hs] at h3; exact h3), ?_, fun x m => ?_⟩
  · have fin : [] ∈ scrs old new 0 old.length new.length := by
      have e : scrs old new 0 old.length new.length = if old.length = old.length ∧ new.length = new.length then [[]] else [] := rfl
      rw [e, if_pos ⟨rfl, rfl⟩]; exact .head _
    have m := scrs_of h3 (Nat.le_refl _) (Nat.le_refl _) 0 [] fin
    rw [List.append_nil, Nat.zero_add] at m
    have m := scrs_le (show l.length ≤ 6 by have := h3.len; (first | assumption | exact Nat.le_refl _ | exact Nat.add_le_add_left (by decide) _ | exact Nat.le_trans (by assumption) (by decide) | omega)) m
    refine List.mem_map.mpr ⟨_, m, ?_⟩
    have a := tot_kf (old := old) (new := new) g.pos l.reverse 0
    have b := h4 _ h3.kf
    rw [← List.map_reverse] at b
    (first | assumption | exact Nat.le_refl _ | exact Nat.add_le_add_left (by decide) _ | exact Nat.le_trans (by assumption) (by decide) | omega)
  · obtain ⟨r, m2, rfl⟩ := List.mem_map.mp m
    have := h4 _ (scrs_RV 6 0 0 m2 .nil)
    rw [List.append_nil, List.reverse_reverse] at this
    exact this
noncomputable abbrev InR (below : Int) (N : Nat) (l : List Int) : Prop := l.length = N ∧ ∀ v ∈ l, 0 ≤ v ∧ v < below
theorem got_draws {ds : List PyData} {below : Int} : ∀ {i : Nat} {es : List PyData}, Got (fun _ _ => some (DrawR below)) ds i es → ∃ l : List Int, es = intL l ∧ InR below i l := by
  intro i es h
  induction h with
  | zero => exact ⟨[], rfl, rfl, nofun⟩
  | skip _ _ q _ => cases q
  | put _ _ q r ih =>
    cases q
    obtain ⟨l, rfl, h1, h2⟩ := ih
    obtain ⟨v, rfl, h3, h4⟩ := r
    refine ⟨l ++ [v], by simp [intL], by simp [h1], fun y m => ?_⟩
    rcases List.mem_append.mp m with m | m
    · exact h2 y m
    · rw [List.mem_singleton.mp m]; exact ⟨h3, h4⟩
section
variable {P : Params} {mg mb : Str → Option Value} {prog : Program} {w : World} {ht : Heap} {n : Nat} {sc csc : Scope} {ρ ρ' ρ₁ ρ₂ : Rho} {x : Str} {xp pos fp px p0 p1 p2 p3 p4 : Pos} {iter : Expr} {a b : Addr} {c N k : Nat} {below : Int}
theorem EvE.draw (T : TopX P mg mb ht) (hb : 0 < below) (hb2 : below ≤ 1000) (hc : c ≤ 1000) (hx : (Str.ofString "deck", Ent.res (deckP prog w a b c)) ∈ ρ) (hρ : Upr (Str.ofString "deck") (deckP prog w a b (c + 1)) ρ ρ') (hg : sc.names.lookup (Str.ofString "_law_draw") = some NameKind.globalImplicit) :
    EvE prog w ht (n + 1) sc ρ ρ' [a, b] (.Call (.Name "_law_draw" fp) [.Name "deck" p1, .Constant (.int below) k p2] [] p3) (DrawR below) :=
  EvE.call (P := deckP prog w a b c) (P' := deckP prog w a b (c + 1)) (ps := [im (.int below)]) (Ev.gfn T (v := .ref 154) (by kernel_rfl) hg) (kpr_cls T (by kernel_rfl)) hx (EvS.cons (Ev.int _ _) EvS.nil) (fn_draw T below hb hb2 hc) rfl rfl hρ (fun _ => rfl) (fun _ => rfl)
theorem all_of {α : Type} {p : α → Prop} : ∀ {l : List α}, (∀ y ∈ l, p y) → All p l
  | [], _ => trivial
  | y :: l, h => ⟨h y (.head _), all_of fun y m => h y (.tail _ m)⟩
theorem EvN.draws (T : TopX P mg mb ht) (hb : 0 < below) (hb2 : below ≤ 1000) (hc : c + N ≤ 1000) (hvp : ∀ y ∈ ρ, NotRes [a, b] y.2) (hvp' : ∀ z p, (z, Ent.res p) ∈ ρ → False)
    (he : Ev prog w ht (n + 1) sc (("deck", .res (deckP prog w a b c)) :: ρ) iter (kit (Mine.upto N)))
    (free : ∀ y ∈ csc.names, y.2 = .free → sc.names.lookup y.1 = some .cell) (cell : ∀ y ∈ csc.names, y.2 ≠ .cell) (kind : csc.kind = .function) (names : ∀ y ∈ csc.names, y.2 = .local → csc.names.lookup y.1 = some .local) (hx : csc.names.lookup (Str.ofString "k") = some .local)
    (hfr : (Str.ofString "deck", NameKind.free) ∈ csc.names) (hlk : (relS csc sc).names.lookup (Str.ofString "deck") = some .cell) (hg : (relS csc sc).names.lookup (Str.ofString "_law_draw") = some NameKind.globalImplicit)
    (hs : ∀ env x, foldedSetIterable iter env x = pure x := by intro _ _; rfl) :
    EvN prog w ht (n + 1) sc (("deck", .res (deckP prog w a b c)) :: ρ) (("deck", .res (deckP prog w a b (c + N))) :: ρ) [a, b] (.ListComp (.Call (.Name "_law_draw" fp) [.Name "deck" p1, .Constant (.int below) k p2] [] p3) [⟨.Name "k" px, iter, [], 0⟩] csc pos) (fun es => ∃ l : List Int, es = intL l ∧ InR below N l) := by
  have hl : (Mine.upto N).length = N := upto_len N
  have C₀ : CompOk prog w ht (n + 1) sc csc (fun i => ("deck", .res (deckP prog w a b (c + i))) :: ρ) [a, b] (.Call (.Name "_law_draw" fp) [.Name "deck" p1, .Constant (.int below) k p2] [] p3) (Str.ofString "k") [] (Mine.upto N)
      (fun i d => [("k", .vp (im d)), ("deck", .res (deckP prog w a b (c + i)))]) (fun i d => [("k", .vp (im d)), ("deck", .res (deckP prog w a b (c + (i + 1))))]) (fun _ _ => some (DrawR below)) := by
    refine ⟨free, cell, kind, names, hx, fun i d => ⟨.inl rfl, .inr ⟨.head _, hfr, hlk⟩, trivial⟩, nofun, fun i z p m => ?_, fun i d hd => ?_, fun S y m => ?_, fun i d {env cenv hb hb₂ h h' B B₂ X} S S' kk => ?_, by (first | assumption | exact Nat.le_refl _ | exact Nat.add_le_add_left (by decide) _ | exact Nat.le_trans (by assumption) (by decide) | omega)⟩
    · rcases List.mem_cons.mp m with q | m
      · cases q
        exact ⟨_, _, .head _, rfl⟩
      · exact (hvp' z p m).elim
    · have := (List.getElem?_eq_some_iff.mp hd).1
      exact ⟨TstL.nil, EvE.draw T hb hb2 (by (first | assumption | exact Nat.le_refl _ | exact Nat.add_le_add_left (by decide) _ | exact Nat.le_trans (by assumption) (by decide) | omega)) (.tail _ (.head _)) ⟨.inr ⟨.head _, trivial⟩, .inl rfl, trivial⟩ hg⟩
    · obtain ⟨_, q, _⟩ := sf_res S (.head _)
      exact ⟨(q y m).2, S.ow _ _ (.head _) y m, (q y m).1⟩
    · obtain ⟨_, q1, q2⟩ := sf_res S' (.tail _ (.head _))
      refine S.upr (p := deckP prog w a b (c + i)) (p' := deckP prog w a b (c + (i + 1))) (.head _) rfl rfl ⟨.inl rfl, all_of fun y m => .inr ⟨.tail _ m, hvp y m⟩⟩ kk (fun y m => S'.st.xal y (q1 y m).2) q2
  have R := EvN.comp (pos := pos) (px := px) C₀ he hs
  rw [hl] at R
  intro A env hb B X s Q E R0 a0 S K
  refine R R0 a0 S fun ds v h' tk g => K ds v h' tk (got_draws g)
end
noncomputable def unRun : PyData → Run
  | .tuple [.str w, .int a, .int c] => ⟨w == Str.ofString "delete", a.toNat, c.toNat⟩
  | _ => ⟨true, 0, 0⟩
theorem unRun_d (r : Run) : unRun r.d = r := by
  obtain ⟨b, a, c⟩ := r
  cases b <;> rfl
theorem rows0_D (N : Nat) : rowsD (rows0 N) = intL (linesL N) := by simp [rowsD, rows0, intL, List.map_map]; intro a _; rfl
theorem rows0_len (N : Nat) : (rows0 N).length = N := by simp [rows0, linesL]
theorem linesL_len (N : Nat) : (linesL N).length = N := by simp [linesL]
theorem linesL_at {N i : Nat} (h : i < N) : (intL (linesL N))[i]? = some (.int (10 + (i : Int))) := intL_get (by simp [linesL, h])
theorem dueStep_len (d : List (Option Int)) (s : Stp) : (dueStep d s).length = d.length := by cases s <;> simp [dueStep]
theorem dueFold_len : ∀ (l : List Stp) (d : List (Option Int)), (l.foldl dueStep d).length = d.length
  | [], _ => rfl
  | s :: l, d => by
    show (l.foldl dueStep (dueStep d s)).length = _
    rw [dueFold_len l, dueStep_len]
theorem rowsD_at {l : List (Option Int)} {k : Nat} (h : k < l.length) : (rowsD l)[k]? = some (optD (l.getD k none)) := by
  simp [rowsD, List.getD_eq_getElem?_getD, h]
theorem sh_opt (o : Option Int) : SeqAt.shaped (optD o) = true := by cases o <;> first | exact sh_none | exact sh_int _
theorem runs_len (l : List Stp) : (runs l).length ≤ 2 * l.length := by
  have h1 := G1_len l
  have h2 := G2_len l
  unfold runs
  rw [List.length_append]
  (first | assumption | exact Nat.le_refl _ | exact Nat.add_le_add_left (by decide) _ | exact Nat.le_trans (by assumption) (by decide) | omega)
section
variable {P : Params} {mg mb : Str → Option Value} {prog : Program} {w : World} {ht : Heap} {n : Nat} {sc csc : Scope} {ρ ρ' ρ₁ ρ₂ : Rho} {x : Str} {xp pos fp px p0 p1 p2 p3 p4 : Pos} {iter : Expr} {a b : Addr} {c N k : Nat} {below : Int} {old new : List Int} {l : List Stp}
theorem Ev.tuple_ {d : List PyData} (T : TopX P mg mb ht) (hx : sc.names.lookup (Str.ofString "tuple") = some NameKind.globalImplicit) (hm : (x, Ent.vp (im (.tuple d))) ∈ ρ) (hd : (x == ("__debug__" : Str)) = false := by decide) (hn : (x == ("__classdict__" : Str)) = false := by decide) :
    Ev prog w ht n sc ρ (.Call (.Name "tuple" p1) [.Name x p2] [] p3) (kim (.tuple d)) :=
  Ev.call (Ev.bfn T (v := .type "tuple") (by kernel_rfl) hx (by kernel_rfl) (by decide)) Kpr.type (EvS.cons (Ev.var hm hd hn) EvS.nil) (fn_tuple d)
theorem law_tail (T : TopX P mg mb ht) (ho : old.length = N) (hn : new.length = N) (hN : N ≤ 3) (t : Told N old new l) :
    Ex prog w ht (n + 7) (scA P 190) [("old", .vp (im (.list (intL old)))), ("new", .vp (im (.list (intL new)))), ("told", .vp (im (stps l)))] ((bdA P 190).drop 8) (.ret (kim (.bool true))) := by
  have lo : (intL old).length = N := by simp [intL, ho]
  have ln : (intL new).length = N := by simp [intL, hn]
  refine Ex.assignC (intL (linesL N)) (by rw [List.filter_eq_self.mpr fun _ _ => rfl]; simp [intL, linesL, List.map_map]) (f := fun k : Nat => PyData.int (k : Int)) (un := unNat) (xs := List.range N) (t := fun _ => true) (g := fun k => .int (10 + (k : Int))) (ρin := fun d => [("k", .vp (im d))]) (fun _ => rfl)
    (Ev.range_ T (by kernel_rfl) (Ev.to (Ev.len_ (ds := intL old) T (by kernel_rfl) (Ev.sl (Ev.var (by (repeat (first | with_reducible exact List.mem_cons_self | with_reducible refine List.mem_cons_of_mem _ ?_))))) (by (first | assumption | exact Nat.le_refl _ | exact Nat.add_le_add_left (by decide) _ | exact Nat.le_trans (by assumption) (by decide) | omega))) (by rw [lo])) (by (first | assumption | exact Nat.le_refl _ | exact Nat.add_le_add_left (by decide) _ | exact Nat.le_trans (by assumption) (by decide) | omega))) (by exact of_decide_eq_true (by kernel_rfl)) (by exact of_decide_eq_true (by kernel_rfl)) (by kernel_rfl) (by exact of_decide_eq_true (by kernel_rfl)) (by kernel_rfl) (fun d => ⟨.inl rfl, trivial⟩)
    (fun _ _ => TstL.nil) (fun k m _ => Ev.bin (Ev.int _ _) (Ev.var (d := .int (k : Int)) (by (repeat (first | with_reducible exact List.mem_cons_self | with_reducible refine List.mem_cons_of_mem _ ?_)))) (op_add _ _)) (by rw [List.length_range]; (first | assumption | exact Nat.le_refl _ | exact Nat.add_le_add_left (by decide) _ | exact Nat.le_trans (by assumption) (by decide) | omega)) (.inl (by kernel_rfl)) (by (repeat (first | exact Upd.nil | (with_reducible apply Upd.hit) | ((with_reducible apply Upd.miss); (focus decide))))) (by (intro env h1; cases env; dsimp only at h1; subst h1; kernel_rfl)) ?_
  have ok : ∀ r ∈ runs l, r.ok (rows0 N).length := fun r m => by rw [rows0_len]; exact t.runs_ r m
  have t6 := t.len
  have rl := runs_len l
  have del := t.del
  refine Ex.ownT (ds1 := List.replicate N .none) (d2 := .list (rowsD (moves (rows0 N) (runs l)))) (Ev.nones (Ev.to (Ev.len_ (ds := intL new) T (by kernel_rfl) (Ev.sl (Ev.var (by (repeat (first | with_reducible exact List.mem_cons_self | with_reducible refine List.mem_cons_of_mem _ ?_))))) (by (first | assumption | exact Nat.le_refl _ | exact Nat.add_le_add_left (by decide) _ | exact Nat.le_trans (by assumption) (by decide) | omega))) (by rw [ln])) (Int.toNat_natCast _) (Int.natCast_nonneg _) (by (first | assumption | exact Nat.le_refl _ | exact Nat.add_le_add_left (by decide) _ | exact Nat.le_trans (by assumption) (by decide) | omega)))
    (Ev.call (Ev.gfn T (v := .ref 185) (by kernel_rfl) (by kernel_rfl)) (kpr_cls T (by kernel_rfl)) (EvS.cons (Ev.list (Ev.to (Ev.list_ (ds := intL (linesL N)) T (by kernel_rfl) (Ev.le (Ev.var (by (repeat (first | with_reducible exact List.mem_cons_self | with_reducible refine List.mem_cons_of_mem _ ?_)))) (kim_kit_list _)) (by simp [intL, linesL]; (first | assumption | exact Nat.le_refl _ | exact Nat.add_le_add_left (by decide) _ | exact Nat.le_trans (by assumption) (by decide) | omega))) (by rw [← rows0_D])))
      (EvS.cons (Ev.list (Ev.to (CompP.of (f := Run.d) (un := unRun) (xs := runs l) (t := fun _ => true) (g := Run.d) (ρin := fun d => [("run", .vp (im d))]) unRun_d
        (Ev.le (Ev.call (Ev.gfn T (v := .ref 128) (by kernel_rfl) (by kernel_rfl)) (kpr_cls T (by kernel_rfl)) (EvS.cons (Ev.var (by (repeat (first | with_reducible exact List.mem_cons_self | with_reducible refine List.mem_cons_of_mem _ ?_)))) EvS.nil) ((fn_runs (n := n) T l (by (first | assumption | exact Nat.le_refl _ | exact Nat.add_le_add_left (by decide) _ | exact Nat.le_trans (by assumption) (by decide) | omega)) del).up (by (first | assumption | exact Nat.le_refl _ | exact Nat.add_le_add_left (by decide) _ | exact Nat.le_trans (by assumption) (by decide) | omega)))) (kfr_kit _))
        (by exact of_decide_eq_true (by kernel_rfl)) (by exact of_decide_eq_true (by kernel_rfl)) (by kernel_rfl) (by exact of_decide_eq_true (by kernel_rfl)) (by kernel_rfl) (fun d => ⟨.inl rfl, trivial⟩) (fun _ _ => TstL.nil) (fun r m _ => Ev.tuple_ T (by kernel_rfl) (by (repeat (first | with_reducible exact List.mem_cons_self | with_reducible refine List.mem_cons_of_mem _ ?_)))) (by (first | assumption | exact Nat.le_refl _ | exact Nat.add_le_add_left (by decide) _ | exact Nat.le_trans (by assumption) (by decide) | omega))) (by rw [List.filter_eq_self.mpr fun _ _ => rfl]))) EvS.nil))
      ((fn_moved (n := n) T (rows0 N) (runs l) ok (by rw [rows0_len]; (first | assumption | exact Nat.le_refl _ | exact Nat.add_le_add_left (by decide) _ | exact Nat.le_trans (by assumption) (by decide) | omega)) (by (first | assumption | exact Nat.le_refl _ | exact Nat.add_le_add_left (by decide) _ | exact Nat.le_trans (by assumption) (by decide) | omega))).up (by (first | assumption | exact Nat.le_refl _ | exact Nat.add_le_add_left (by decide) _ | exact Nat.le_trans (by assumption) (by decide) | omega)))) (.inr (by kernel_rfl)) (.inr (by kernel_rfl)) (fun a => by (repeat (first | exact Upd.nil | (with_reducible apply Upd.hit) | ((with_reducible apply Upd.miss); (focus decide))))) (fun a => by (repeat (first | exact Upd.nil | (with_reducible apply Upd.hit) | ((with_reducible apply Upd.miss); (focus decide))))) (fun a _ => ?_) (hw := by (intro env h1; cases env; dsimp only at h1; subst h1; kernel_rfl))
  have behl : (moves (rows0 N) (runs l)).length = N := by rw [moves_len _ ok, rows0_len]
  have place := t.place
  have done := t.done
  generalize hbeh : moves (rows0 N) (runs l) = beh at behl place ⊢
  have dl : ∀ i, ((l.take i).foldl dueStep (List.replicate N none)).length = N := fun i => by rw [dueFold_len, List.length_replicate]
  refine Ex.for_ (ds := l.map Stp.d) (Inv := fun i => [("told", .vp (im (stps l))), ("lines", .vp (im (.list (intL (linesL N))))), ("behind", .vp (im (.list (rowsD beh)))), ("due", .own a (rowsD ((l.take i).foldl dueStep (List.replicate N none))))])
    (ρin := fun i d => [("told", .vp (im (stps l))), ("lines", .vp (im (.list (intL (linesL N))))), ("behind", .vp (im (.list (rowsD beh)))), ("due", .own a (rowsD ((l.take i).foldl dueStep (List.replicate N none)))), ("step", .vp (im d))])
    (Ev.le (Ev.var (by (repeat (first | with_reducible exact List.mem_cons_self | with_reducible refine List.mem_cons_of_mem _ ?_)))) (kim_kit_list _)) (show ∀ y ∈ ([("told", .vp (im (stps l))), ("lines", .vp (im (.list (intL (linesL N))))), ("behind", .vp (im (.list (rowsD beh)))), ("due", .own a (rowsD (List.replicate N none)))] : Rho), _ from by rw [show rowsD (List.replicate N none) = List.replicate N .none from by simp [rowsD, optD]]; (refine sub_of_all ?_; repeat (first | exact True.intro | refine And.intro (by (repeat (first | with_reducible exact List.mem_cons_self | with_reducible refine List.mem_cons_of_mem _ ?_))) ?_))) (fun i d hd => As.name (.inl (by kernel_rfl)) (by (repeat (first | exact Upd.nil | (with_reducible apply Upd.hit) | ((with_reducible apply Upd.miss); (focus decide)))))) (fun i d hdd => ?_) ?_
  · rw [List.getElem?_map] at hdd
    obtain ⟨s, hs, rfl⟩ := Option.map_eq_some_iff.mp hdd
    rw [take_snoc hs, List.foldl_append]
    have kp := t.keep
    have dli := dl i
    generalize (l.take i).foldl dueStep (List.replicate N none) = q at *
    show Ex prog w ht (n + 7) (scA P 190) _ _ (.next [("told", .vp (im (stps l))), ("lines", .vp (im (.list (intL (linesL N))))), ("behind", .vp (im (.list (rowsD beh)))), ("due", .own a (rowsD (dueStep q s)))])
    have ql : (rowsD q).length = N := by rw [List.length_map, dli]
    cases s with
    | keep i' j =>
      obtain ⟨h1, h2⟩ := kp i' j (List.mem_of_getElem? hs)
      refine Ex.if_n (t_word (s := .keep i' j) (by (repeat (first | with_reducible exact List.mem_cons_self | with_reducible refine List.mem_cons_of_mem _ ?_))) (is_keep_keep i' j)) ?_ Ex.nil0
      refine Ex.setitem (ds := rowsD q) (d := .int (10 + (i' : Int))) (k := (j : Int)) (a := a) (by (repeat (first | with_reducible exact List.mem_cons_self | with_reducible refine List.mem_cons_of_mem _ ?_))) (Ev.itemJ (ds := intL (linesL N)) (j := i') (Ev.sl (Ev.var (by (repeat (first | with_reducible exact List.mem_cons_self | with_reducible refine List.mem_cons_of_mem _ ?_))))) (Ev.step1 (s := .keep i' j) (by (repeat (first | with_reducible exact List.mem_cons_self | with_reducible refine List.mem_cons_of_mem _ ?_)))) (by simp [intL, linesL]; (first | assumption | exact Nat.le_refl _ | exact Nat.add_le_add_left (by decide) _ | exact Nat.le_trans (by assumption) (by decide) | omega)) (linesL_at h1)) (Ev.itemT (ds := (Stp.keep i' j).ds) (k := 2) (j := 2) (Ev.var (by (repeat (first | with_reducible exact List.mem_cons_self | with_reducible refine List.mem_cons_of_mem _ ?_)))) (Ev.int _ _) rfl rfl) j (.inl ⟨Int.natCast_nonneg _, (Int.toNat_natCast _).symm⟩) (by (first | assumption | exact Nat.le_refl _ | exact Nat.add_le_add_left (by decide) _ | exact Nat.le_trans (by assumption) (by decide) | omega)) (by (first | assumption | exact Nat.le_refl _ | exact Nat.add_le_add_left (by decide) _ | exact Nat.le_trans (by assumption) (by decide) | omega)) (by (repeat (first | exact Upr.nil | (with_reducible apply Upr.hit) | (with_reducible apply Upr.vp)))) (Ex.nil ?_)
      have e : rowsD (dueStep q (.keep i' j)) = (rowsD q).set j (.int (10 + (i' : Int))) := by simp [rowsD, List.map_set, optD, dueStep]
      rw [e]
      (refine sub_of_all ?_; repeat (first | exact True.intro | refine And.intro (by (repeat (first | with_reducible exact List.mem_cons_self | with_reducible refine List.mem_cons_of_mem _ ?_))) ?_))
    | draw i' j => rw [show dueStep q _ = q from rfl]; exact Ex.skip (t_word (s := .draw i' j) (by (repeat (first | with_reducible exact List.mem_cons_self | with_reducible refine List.mem_cons_of_mem _ ?_))) (is_draw_keep i' j)) (Ex.nil (by (refine sub_of_all ?_; repeat (first | exact True.intro | refine And.intro (by (repeat (first | with_reducible exact List.mem_cons_self | with_reducible refine List.mem_cons_of_mem _ ?_))) ?_))))
    | del i' => rw [show dueStep q _ = q from rfl]; exact Ex.skip (t_word (s := .del i') (by (repeat (first | with_reducible exact List.mem_cons_self | with_reducible refine List.mem_cons_of_mem _ ?_))) (is_del_keep i')) (Ex.nil (by (refine sub_of_all ?_; repeat (first | exact True.intro | refine And.intro (by (repeat (first | with_reducible exact List.mem_cons_self | with_reducible refine List.mem_cons_of_mem _ ?_))) ?_))))
    | ins j => rw [show dueStep q _ = q from rfl]; exact Ex.skip (t_word (s := .ins j) (by (repeat (first | with_reducible exact List.mem_cons_self | with_reducible refine List.mem_cons_of_mem _ ?_))) (is_ins_keep j)) (Ex.nil (by (refine sub_of_all ?_; repeat (first | exact True.intro | refine And.intro (by (repeat (first | with_reducible exact List.mem_cons_self | with_reducible refine List.mem_cons_of_mem _ ?_))) ?_))))
  · have dln := dl l.length
    rw [List.length_map, List.take_length] at *
    rw [hbeh] at done
    have drs_ := t.drs_
    generalize hdue : dueOf N l = due at place done
    rw [show l.foldl dueStep (List.replicate N none) = due from hdue] at *
    have bl : (rowsD beh).length = N := by rw [List.length_map, behl]
    have ul : (rowsD due).length = N := by rw [List.length_map, dln]
    refine Ex.skip (Tst.or_f (Tst.to (t_neI (Ev.to (Ev.len_ (ds := rowsD beh) T (by kernel_rfl) (Ev.sl (Ev.var (by (repeat (first | with_reducible exact List.mem_cons_self | with_reducible refine List.mem_cons_of_mem _ ?_))))) (by (first | assumption | exact Nat.le_refl _ | exact Nat.add_le_add_left (by decide) _ | exact Nat.le_trans (by assumption) (by decide) | omega))) (by rw [bl])) (Ev.to (Ev.len_ (ds := rowsD due) T (by kernel_rfl) (Ev.own (a := a) (by (repeat (first | with_reducible exact List.mem_cons_self | with_reducible refine List.mem_cons_of_mem _ ?_)))) (by (first | assumption | exact Nat.le_refl _ | exact Nat.add_le_add_left (by decide) _ | exact Nat.le_trans (by assumption) (by decide) | omega))) (by rw [ul]))) (bne_self_eq_false _)) (Tst.or_f (Tst.cmp (Ev.list (Ev.to (CompP.of (f := fun k : Nat => PyData.int (k : Int)) (un := unNat) (xs := List.range N) (t := fun _ => false) (g := fun k => .int (k : Int)) (ρin := fun d => [("k", .vp (im d)), ("due", .own a (rowsD due)), ("behind", .vp (im (.list (rowsD beh))))]) (fun _ => rfl)
      (Ev.range_ T (by kernel_rfl) (Ev.to (Ev.len_ (ds := rowsD due) T (by kernel_rfl) (Ev.own (a := a) (by (repeat (first | with_reducible exact List.mem_cons_self | with_reducible refine List.mem_cons_of_mem _ ?_)))) (by (first | assumption | exact Nat.le_refl _ | exact Nat.add_le_add_left (by decide) _ | exact Nat.le_trans (by assumption) (by decide) | omega))) (by rw [ul])) (by (first | assumption | exact Nat.le_refl _ | exact Nat.add_le_add_left (by decide) _ | exact Nat.le_trans (by assumption) (by decide) | omega))) (by exact of_decide_eq_true (by kernel_rfl)) (by exact of_decide_eq_true (by kernel_rfl)) (by kernel_rfl) (by exact of_decide_eq_true (by kernel_rfl)) (by kernel_rfl) (fun d => ⟨.inl rfl, .inr ⟨by (repeat (first | with_reducible exact List.mem_cons_self | with_reducible refine List.mem_cons_of_mem _ ?_)), by exact of_decide_eq_true (by kernel_rfl), by kernel_rfl⟩, .inr ⟨by (repeat (first | with_reducible exact List.mem_cons_self | with_reducible refine List.mem_cons_of_mem _ ?_)), by exact of_decide_eq_true (by kernel_rfl), by kernel_rfl⟩, trivial⟩)
      (fun k m => TstL.one ?_) (fun k m _ => Ev.var (by (repeat (first | with_reducible exact List.mem_cons_self | with_reducible refine List.mem_cons_of_mem _ ?_)))) (by rw [List.length_range]; (first | assumption | exact Nat.le_refl _ | exact Nat.add_le_add_left (by decide) _ | exact Nat.le_trans (by assumption) (by decide) | omega))) (show kfr _ = kfr [] from by rw [List.filter_eq_nil_iff.mpr fun s m => by decide]; rfl))) (Ev.list (EvS.lst (ds := []) EvS.nil)) (op_ne (d := .list []) (d' := .list []) (by decide +kernel) (by decide +kernel))) Tst.or_nil)) ?_
    · have hk : k < N := List.mem_range.mp m
      have pk := place k hk
      unfold placeOk at pk
      have g1 : (rowsD due)[k]? = _ := rowsD_at (by (first | assumption | exact Nat.le_refl _ | exact Nat.add_le_add_left (by decide) _ | exact Nat.le_trans (by assumption) (by decide) | omega))
      have g2 : (rowsD beh)[k]? = _ := rowsD_at (by (first | assumption | exact Nat.le_refl _ | exact Nat.add_le_add_left (by decide) _ | exact Nat.le_trans (by assumption) (by decide) | omega))
      cases q : due.getD k none with
      | none =>
        rw [q] at g1
        exact Tst.and_f (Tst.to (Tst.cmp (Ev.itemJ (ds := rowsD due) (j := k) (Ev.own (a := a) (by (repeat (first | with_reducible exact List.mem_cons_self | with_reducible refine List.mem_cons_of_mem _ ?_)))) (Ev.var (by (repeat (first | with_reducible exact List.mem_cons_self | with_reducible refine List.mem_cons_of_mem _ ?_)))) (by (first | assumption | exact Nat.le_refl _ | exact Nat.add_le_add_left (by decide) _ | exact Nat.le_trans (by assumption) (by decide) | omega)) g1) (Ev.none _) (op_isnot _)) rfl)
      | some v =>
        rw [q] at g1 pk
        have pk := eq_of_beq pk
        rw [pk] at g2
        exact Tst.andb (Tst.to (Tst.cmp (Ev.itemJ (ds := rowsD due) (j := k) (Ev.own (a := a) (by (repeat (first | with_reducible exact List.mem_cons_self | with_reducible refine List.mem_cons_of_mem _ ?_)))) (Ev.var (by (repeat (first | with_reducible exact List.mem_cons_self | with_reducible refine List.mem_cons_of_mem _ ?_)))) (by (first | assumption | exact Nat.le_refl _ | exact Nat.add_le_add_left (by decide) _ | exact Nat.le_trans (by assumption) (by decide) | omega)) g1) (Ev.none _) (op_isnot _)) rfl) (Tst.to (t_neI (a := v) (b := v) (Ev.itemJ (ds := rowsD beh) (j := k) (Ev.sl (Ev.var (by (repeat (first | with_reducible exact List.mem_cons_self | with_reducible refine List.mem_cons_of_mem _ ?_))))) (Ev.var (by (repeat (first | with_reducible exact List.mem_cons_self | with_reducible refine List.mem_cons_of_mem _ ?_)))) (by (first | assumption | exact Nat.le_refl _ | exact Nat.add_le_add_left (by decide) _ | exact Nat.le_trans (by assumption) (by decide) | omega)) g2) (Ev.itemJ (ds := rowsD due) (j := k) (Ev.own (a := a) (by (repeat (first | with_reducible exact List.mem_cons_self | with_reducible refine List.mem_cons_of_mem _ ?_)))) (Ev.var (by (repeat (first | with_reducible exact List.mem_cons_self | with_reducible refine List.mem_cons_of_mem _ ?_)))) (by (first | assumption | exact Nat.le_refl _ | exact Nat.add_le_add_left (by decide) _ | exact Nat.le_trans (by assumption) (by decide) | omega)) g1)) (bne_self_eq_false _))
    · refine Ex.ret (Ev.to (Ev.cmp (Ev.list (Ev.list_ (ds := rowsD due) T (by kernel_rfl) (Ev.to (Ev.le (Ev.call (Ev.gfn T (v := .ref 142) (by kernel_rfl) (by kernel_rfl)) (kpr_cls T (by kernel_rfl)) (EvS.cons (Ev.list (Ev.to (Ev.list_ (ds := intL (linesL N)) T (by kernel_rfl) (Ev.le (Ev.var (by (repeat (first | with_reducible exact List.mem_cons_self | with_reducible refine List.mem_cons_of_mem _ ?_)))) (kim_kit_list _)) (by simp [intL, linesL]; (first | assumption | exact Nat.le_refl _ | exact Nat.add_le_add_left (by decide) _ | exact Nat.le_trans (by assumption) (by decide) | omega))) (by rw [← rows0_D]))) (EvS.cons (Ev.var (by (repeat (first | with_reducible exact List.mem_cons_self | with_reducible refine List.mem_cons_of_mem _ ?_)))) EvS.nil))
        ((fn_done (n := n) T (rows0 N) l (by rw [rows0_len]; (first | assumption | exact Nat.le_refl _ | exact Nat.add_le_add_left (by decide) _ | exact Nat.le_trans (by assumption) (by decide) | omega)) (by (first | assumption | exact Nat.le_refl _ | exact Nat.add_le_add_left (by decide) _ | exact Nat.le_trans (by assumption) (by decide) | omega)) del ok (by rw [rows0_len]; exact drs_)).up (by (first | assumption | exact Nat.le_refl _ | exact Nat.add_le_add_left (by decide) _ | exact Nat.le_trans (by assumption) (by decide) | omega)))) (kfr_kit _)) (by rw [hbeh, done])) (by (first | assumption | exact Nat.le_refl _ | exact Nat.add_le_add_left (by decide) _ | exact Nat.le_trans (by assumption) (by decide) | omega)))) (Ev.own (a := a) (by (repeat (first | with_reducible exact List.mem_cons_self | with_reducible refine List.mem_cons_of_mem _ ?_)))) (op_eqL (sh_rows _) (sh_rows _))) (congrArg (fun b => kim (.bool b)) (SeqAt.eqv_refl _ (lay_list lay_opt _))))
end
section
variable {P : Params} {mg mb : Str → Option Value} {prog : Program} {w : World} {ht : Heap} {n : Nat} {sc csc : Scope} {ρ ρ' ρ₁ ρ₂ : Rho} {x : Str} {xp pos fp px p0 p1 p2 p3 p4 : Pos} {iter e : Expr} {a b : Addr} {N k : Nat} {below : Int} {old new : List Int} {l : List Stp} {c : Cst}
theorem Ev.copy {ds : List PyData} (T : TopX P mg mb ht) (hx : sc.names.lookup (Str.ofString "list") = some NameKind.globalImplicit) (hm : (x, Ent.vp (im (.list ds))) ∈ ρ) (hz : ds.length ≤ 1000) (hd : (x == ("__debug__" : Str)) = false := by decide) (hn : (x == ("__classdict__" : Str)) = false := by decide) :
    Ev prog w ht n sc ρ (.Call (.Name "list" p1) [.Name x p2] [] p3) (kim (.list ds)) :=
  Ev.list (Ev.list_ T hx (Ev.le (Ev.var hm hd hn) (kim_kit_list _)) hz)
theorem Ev.lcost (T : TopX P mg mb ht) (hx : sc.names.lookup (Str.ofString "_law_cost") = some NameKind.globalImplicit) (h1 : (x, Ent.vp (im (stps l))) ∈ ρ) (h2 : (Str.ofString "prices", Ent.vp (im (.list (intL c.pr)))) ∈ ρ) (h3 : (Str.ofString "draws", Ent.vp (im (.list (intL c.dr)))) ∈ ρ)
    (hl : ∀ s ∈ l, s.inR c.dr.length) (hz : l.length ≤ 1000) (hz2 : c.dr.length ≤ 1000) (hd : (x == ("__debug__" : Str)) = false := by decide) (hn : (x == ("__classdict__" : Str)) = false := by decide) :
    Ev prog w ht (n + 1) sc ρ (.Call (.Name "_law_cost" p0) [.Name x p1, .Name "prices" p2, .Name "draws" p3] [] p4) (kim (.int (c.tot 0 l))) :=
  Ev.call (Ev.gfn T (v := .ref 168) (by kernel_rfl) hx) (kpr_cls T (by kernel_rfl)) (EvS.cons (Ev.var h1 hd hn) (EvS.cons (Ev.var h2) (EvS.cons (Ev.var h3) EvS.nil))) (fn_lcost T l hl hz hz2)
theorem law_mid (T : TopX P mg mb ht) (g : Good old new c) :
    Ex prog w ht (n + 7) (scA P 190) [("old", .vp (im (.list (intL old)))), ("new", .vp (im (.list (intL new)))), ("prices", .vp (im (.list (intL c.pr)))), ("draws", .vp (im (.list (intL c.dr))))] ((bdA P 190).drop 2) (.ret (kim (.bool true))) := by
  obtain ⟨κ, lr, hb, hch, told, hm, hle⟩ := law_math g
  have same := g.same
  have small := g.small
  have gdr := g.dr
  have lo : (intL old).length = old.length := by simp [intL]
  have ln : (intL new).length = new.length := by simp [intL]
  have ld : (intL c.dr).length = new.length := by simp [intL, gdr]
  have t6 := told.len
  have lr6 : lr.length ≤ 6 := by rw [List.length_reverse] at t6; exact t6
  have inR := told.inR
  rw [← gdr] at inR
  have p4 : (intL c.pr).length ≤ 1000 := by show 4 ≤ 1000; decide
  refine Ex.assign (p := costsV c) (Ev.call (Ev.gfn T (v := .ref 46) (by kernel_rfl) (by kernel_rfl)) (kpr_cls T (by kernel_rfl)) (EvS.cons (Ev.itemJ (ds := intL c.pr) (j := 0) (d := .int c.p0) (Ev.sl (Ev.var (by (repeat (first | with_reducible exact List.mem_cons_self | with_reducible refine List.mem_cons_of_mem _ ?_))))) (Ev.int _ _) p4 rfl) (EvS.cons (Ev.itemJ (ds := intL c.pr) (j := 1) (d := .int c.p1) (Ev.sl (Ev.var (by (repeat (first | with_reducible exact List.mem_cons_self | with_reducible refine List.mem_cons_of_mem _ ?_))))) (Ev.int _ _) p4 rfl)
    (EvS.cons (Ev.itemJ (ds := intL c.pr) (j := 2) (d := .int c.p2) (Ev.sl (Ev.var (by (repeat (first | with_reducible exact List.mem_cons_self | with_reducible refine List.mem_cons_of_mem _ ?_))))) (Ev.int _ _) p4 rfl) (EvS.cons (Ev.itemJ (ds := intL c.pr) (j := 3) (d := .int c.p3) (Ev.sl (Ev.var (by (repeat (first | with_reducible exact List.mem_cons_self | with_reducible refine List.mem_cons_of_mem _ ?_))))) (Ev.int _ _) p4 rfl) (EvS.cons (Ev.copy (ds := intL c.dr) T (by kernel_rfl) (by (repeat (first | with_reducible exact List.mem_cons_self | with_reducible refine List.mem_cons_of_mem _ ?_))) (by (first | assumption | exact Nat.le_refl _ | exact Nat.add_le_add_left (by decide) _ | exact Nat.le_trans (by assumption) (by decide) | omega))) EvS.nil)))))
    ((fn_Costs (n := n) T c (by (first | assumption | exact Nat.le_refl _ | exact Nat.add_le_add_left (by decide) _ | exact Nat.le_trans (by assumption) (by decide) | omega))).up (by (first | assumption | exact Nat.le_refl _ | exact Nat.add_le_add_left (by decide) _ | exact Nat.le_trans (by assumption) (by decide) | omega)))) (.inl (by kernel_rfl)) (by (repeat (first | exact Upd.nil | (with_reducible apply Upd.hit) | ((with_reducible apply Upd.miss); (focus decide))))) ?_
  refine Ex.assignC (lr.reverse.map Stp.d) (by rw [List.filter_eq_self.mpr fun _ _ => rfl]) (f := Stp.d) (un := unStp) (xs := lr.reverse) (t := fun _ => true) (g := Stp.d) (ρin := fun d => [("step", .vp (im d))]) unStp_d
    (Ev.le (Ev.call (Ev.gfn T (v := .ref 111) (by kernel_rfl) (by kernel_rfl)) (kpr_cls T (by kernel_rfl)) (EvS.cons (Ev.copy (ds := intL old) T (by kernel_rfl) (by (repeat (first | with_reducible exact List.mem_cons_self | with_reducible refine List.mem_cons_of_mem _ ?_))) (by (first | assumption | exact Nat.le_refl _ | exact Nat.add_le_add_left (by decide) _ | exact Nat.le_trans (by assumption) (by decide) | omega))) (EvS.cons (Ev.copy (ds := intL new) T (by kernel_rfl) (by (repeat (first | with_reducible exact List.mem_cons_self | with_reducible refine List.mem_cons_of_mem _ ?_))) (by (first | assumption | exact Nat.le_refl _ | exact Nat.add_le_add_left (by decide) _ | exact Nat.le_trans (by assumption) (by decide) | omega))) (EvS.cons (Ev.name (by (repeat (first | with_reducible exact List.mem_cons_self | with_reducible refine List.mem_cons_of_mem _ ?_)))) EvS.nil))) ((fn_least (n := n) T (by (first | assumption | exact Nat.le_refl _ | exact Nat.add_le_add_left (by decide) _ | exact Nat.le_trans (by assumption) (by decide) | omega)) small gdr hb hch (by (first | assumption | exact Nat.le_refl _ | exact Nat.add_le_add_left (by decide) _ | exact Nat.le_trans (by assumption) (by decide) | omega))).up (by (first | assumption | exact Nat.le_refl _ | exact Nat.add_le_add_left (by decide) _ | exact Nat.le_trans (by assumption) (by decide) | omega)))) (kfr_kit _))
    (by exact of_decide_eq_true (by kernel_rfl)) (by exact of_decide_eq_true (by kernel_rfl)) (by kernel_rfl) (by exact of_decide_eq_true (by kernel_rfl)) (by kernel_rfl) (fun d => ⟨.inl rfl, trivial⟩) (fun _ _ => TstL.nil) (fun s m _ => Ev.tuple_ T (by kernel_rfl) (by (repeat (first | with_reducible exact List.mem_cons_self | with_reducible refine List.mem_cons_of_mem _ ?_)))) (by (first | assumption | exact Nat.le_refl _ | exact Nat.add_le_add_left (by decide) _ | exact Nat.le_trans (by assumption) (by decide) | omega)) (.inl (by kernel_rfl)) (by (repeat (first | exact Upd.nil | (with_reducible apply Upd.hit) | ((with_reducible apply Upd.miss); (focus decide))))) (by (intro env h1; cases env; dsimp only at h1; subst h1; kernel_rfl)) ?_
  generalize hL : lr.reverse = L at *
  refine Ex.skip (Tst.or_f (Tst.not (b := true) (Tst.bool (Ev.call (Ev.gfn T (v := .ref 178) (by kernel_rfl) (by kernel_rfl)) (kpr_cls T (by kernel_rfl)) (EvS.cons (Ev.var (by (repeat (first | with_reducible exact List.mem_cons_self | with_reducible refine List.mem_cons_of_mem _ ?_)))) (EvS.cons (Ev.var (by (repeat (first | with_reducible exact List.mem_cons_self | with_reducible refine List.mem_cons_of_mem _ ?_)))) (EvS.cons (Ev.var (by (repeat (first | with_reducible exact List.mem_cons_self | with_reducible refine List.mem_cons_of_mem _ ?_)))) EvS.nil)))
    ((fn_right (n := n) T L old new (by (first | assumption | exact Nat.le_refl _ | exact Nat.add_le_add_left (by decide) _ | exact Nat.le_trans (by assumption) (by decide) | omega)) (by (first | assumption | exact Nat.le_refl _ | exact Nat.add_le_add_left (by decide) _ | exact Nat.le_trans (by assumption) (by decide) | omega)) (by (first | assumption | exact Nat.le_refl _ | exact Nat.add_le_add_left (by decide) _ | exact Nat.le_trans (by assumption) (by decide) | omega)) (by rw [same]; exact told.olds_) told.news_ told.bad (fun i j m => by rw [same]; exact told.keep i j m)).up (by (first | assumption | exact Nat.le_refl _ | exact Nat.add_le_add_left (by decide) _ | exact Nat.le_trans (by assumption) (by decide) | omega)))))) (Tst.or_f (Tst.to (t_neI (Ev.call (Ev.gfn T (v := .ref 64) (by kernel_rfl) (by kernel_rfl)) (kpr_cls T (by kernel_rfl)) (EvS.cons (Ev.var (by (repeat (first | with_reducible exact List.mem_cons_self | with_reducible refine List.mem_cons_of_mem _ ?_)))) (EvS.cons (Ev.name (by (repeat (first | with_reducible exact List.mem_cons_self | with_reducible refine List.mem_cons_of_mem _ ?_)))) EvS.nil))
      ((fn_cost (n := n) T L inR (by (first | assumption | exact Nat.le_refl _ | exact Nat.add_le_add_left (by decide) _ | exact Nat.le_trans (by assumption) (by decide) | omega)) (by (first | assumption | exact Nat.le_refl _ | exact Nat.add_le_add_left (by decide) _ | exact Nat.le_trans (by assumption) (by decide) | omega))).up (by (first | assumption | exact Nat.le_refl _ | exact Nat.add_le_add_left (by decide) _ | exact Nat.le_trans (by assumption) (by decide) | omega)))) (Ev.lcost (l := L) (c := c) T (by kernel_rfl) (by (repeat (first | with_reducible exact List.mem_cons_self | with_reducible refine List.mem_cons_of_mem _ ?_))) (by (repeat (first | with_reducible exact List.mem_cons_self | with_reducible refine List.mem_cons_of_mem _ ?_))) (by (repeat (first | with_reducible exact List.mem_cons_self | with_reducible refine List.mem_cons_of_mem _ ?_))) inR (by (first | assumption | exact Nat.le_refl _ | exact Nat.add_le_add_left (by decide) _ | exact Nat.le_trans (by assumption) (by decide) | omega)) (by (first | assumption | exact Nat.le_refl _ | exact Nat.add_le_add_left (by decide) _ | exact Nat.le_trans (by assumption) (by decide) | omega)))) (bne_self_eq_false _)) Tst.or_nil)) ?_
  have each : ∀ r ∈ scrs old new 6 0 0, Told new.length old new r := fun r m => by
    have q := scrs_RV 6 0 0 m .nil
    rw [List.append_nil, same] at q
    have q := told_of small q
    rw [List.reverse_reverse] at q
    exact q
  have slen : (scrs old new 6 0 0).length ≤ 3 ^ 6 := scrs_len old new 6 0 0 (by (first | assumption | exact Nat.le_refl _ | exact Nat.add_le_add_left (by decide) _ | exact Nat.le_trans (by assumption) (by decide) | omega)) (by (first | assumption | exact Nat.le_refl _ | exact Nat.add_le_add_left (by decide) _ | exact Nat.le_trans (by assumption) (by decide) | omega))
  refine Ex.skip (Tst.to (t_neI (b := c.tot 0 L) (Ev.lcost (l := L) (c := c) T (by kernel_rfl) (by (repeat (first | with_reducible exact List.mem_cons_self | with_reducible refine List.mem_cons_of_mem _ ?_))) (by (repeat (first | with_reducible exact List.mem_cons_self | with_reducible refine List.mem_cons_of_mem _ ?_))) (by (repeat (first | with_reducible exact List.mem_cons_self | with_reducible refine List.mem_cons_of_mem _ ?_))) inR (by (first | assumption | exact Nat.le_refl _ | exact Nat.add_le_add_left (by decide) _ | exact Nat.le_trans (by assumption) (by decide) | omega)) (by (first | assumption | exact Nat.le_refl _ | exact Nat.add_le_add_left (by decide) _ | exact Nat.le_trans (by assumption) (by decide) | omega))) (Ev.call (Ev.bfn T (v := .builtin "min") (by kernel_rfl) (by kernel_rfl) (by kernel_rfl) (by decide)) Kpr.builtin
    (EvS.cons (Ev.fsl (Ev.to (CompP.of (f := stps) (un := unStps) (xs := scrs old new 6 0 0) (t := fun _ => true) (g := fun r => .int (c.tot 0 r)) (ρin := fun d => [("one", .vp (im d)), ("prices", .vp (im (.list (intL c.pr)))), ("draws", .vp (im (.list (intL c.dr))))]) unStps_d
      (Ev.le (Ev.call (Ev.gfn T (v := .ref 173) (by kernel_rfl) (by kernel_rfl)) (kpr_cls T (by kernel_rfl)) (EvS.cons (Ev.var (by (repeat (first | with_reducible exact List.mem_cons_self | with_reducible refine List.mem_cons_of_mem _ ?_)))) (EvS.cons (Ev.var (by (repeat (first | with_reducible exact List.mem_cons_self | with_reducible refine List.mem_cons_of_mem _ ?_)))) (EvS.cons (Ev.int 0 _) (EvS.cons (Ev.int 0 _) EvS.nil)))) (fn_scrs (n := n) T old new (by (first | assumption | exact Nat.le_refl _ | exact Nat.add_le_add_left (by decide) _ | exact Nat.le_trans (by assumption) (by decide) | omega)) (by (first | assumption | exact Nat.le_refl _ | exact Nat.add_le_add_left (by decide) _ | exact Nat.le_trans (by assumption) (by decide) | omega)) 6 0 0 (by (first | assumption | exact Nat.le_refl _ | exact Nat.add_le_add_left (by decide) _ | exact Nat.le_trans (by assumption) (by decide) | omega)) (by (first | assumption | exact Nat.le_refl _ | exact Nat.add_le_add_left (by decide) _ | exact Nat.le_trans (by assumption) (by decide) | omega)) (by (first | assumption | exact Nat.le_refl _ | exact Nat.add_le_add_left (by decide) _ | exact Nat.le_trans (by assumption) (by decide) | omega)) (by (first | assumption | exact Nat.le_refl _ | exact Nat.add_le_add_left (by decide) _ | exact Nat.le_trans (by assumption) (by decide) | omega)))) (kim_kit_list _))
      (by exact of_decide_eq_true (by kernel_rfl)) (by exact of_decide_eq_true (by kernel_rfl)) (by kernel_rfl) (by exact of_decide_eq_true (by kernel_rfl)) (by kernel_rfl) (fun d => ⟨.inl rfl, .inr ⟨by (repeat (first | with_reducible exact List.mem_cons_self | with_reducible refine List.mem_cons_of_mem _ ?_)), by exact of_decide_eq_true (by kernel_rfl), by kernel_rfl⟩, .inr ⟨by (repeat (first | with_reducible exact List.mem_cons_self | with_reducible refine List.mem_cons_of_mem _ ?_)), by exact of_decide_eq_true (by kernel_rfl), by kernel_rfl⟩, trivial⟩) (fun _ _ => TstL.nil)
      (fun r m _ => Ev.lcost (l := r) (c := c) T (by kernel_rfl) (by (repeat (first | with_reducible exact List.mem_cons_self | with_reducible refine List.mem_cons_of_mem _ ?_))) (by (repeat (first | with_reducible exact List.mem_cons_self | with_reducible refine List.mem_cons_of_mem _ ?_))) (by (repeat (first | with_reducible exact List.mem_cons_self | with_reducible refine List.mem_cons_of_mem _ ?_))) (by rw [gdr]; exact (each r m).inR) (by have := (each r m).len; (first | assumption | exact Nat.le_refl _ | exact Nat.add_le_add_left (by decide) _ | exact Nat.le_trans (by assumption) (by decide) | omega)) (by (first | assumption | exact Nat.le_refl _ | exact Nat.add_le_add_left (by decide) _ | exact Nat.le_trans (by assumption) (by decide) | omega))) (by (first | assumption | exact Nat.le_refl _ | exact Nat.add_le_add_left (by decide) _ | exact Nat.le_trans (by assumption) (by decide) | omega))) (show kfr _ = kfr (((scrs old new 6 0 0).map (c.tot 0)).map PyData.int) from by rw [List.filter_eq_self.mpr fun _ _ => rfl, List.map_map]; rfl))) EvS.nil) (fn_min _ _ hm hle))) (bne_self_eq_false _)) ?_
  refine Ex.assignC ((plainS old new).map Stp.d) (by rw [List.filter_eq_self.mpr fun _ _ => rfl, same]; simp [plainS, List.map_map]) (f := fun k : Nat => PyData.int (k : Int)) (un := unNat) (xs := List.range old.length) (t := fun _ => true) (g := fun k => (plainAt old new k).d) (ρin := fun d => [("k", .vp (im d)), ("old", .vp (im (.list (intL old)))), ("new", .vp (im (.list (intL new))))]) (fun _ => rfl)
    (Ev.range_ T (by kernel_rfl) (Ev.to (Ev.len_ (ds := intL old) T (by kernel_rfl) (Ev.sl (Ev.var (by (repeat (first | with_reducible exact List.mem_cons_self | with_reducible refine List.mem_cons_of_mem _ ?_))))) (by (first | assumption | exact Nat.le_refl _ | exact Nat.add_le_add_left (by decide) _ | exact Nat.le_trans (by assumption) (by decide) | omega))) (by rw [lo])) (by (first | assumption | exact Nat.le_refl _ | exact Nat.add_le_add_left (by decide) _ | exact Nat.le_trans (by assumption) (by decide) | omega))) (by exact of_decide_eq_true (by kernel_rfl)) (by exact of_decide_eq_true (by kernel_rfl)) (by kernel_rfl) (by exact of_decide_eq_true (by kernel_rfl)) (by kernel_rfl)
    (fun d => ⟨.inl rfl, .inr ⟨by (repeat (first | with_reducible exact List.mem_cons_self | with_reducible refine List.mem_cons_of_mem _ ?_)), by exact of_decide_eq_true (by kernel_rfl), by kernel_rfl⟩, .inr ⟨by (repeat (first | with_reducible exact List.mem_cons_self | with_reducible refine List.mem_cons_of_mem _ ?_)), by exact of_decide_eq_true (by kernel_rfl), by kernel_rfl⟩, trivial⟩)
    (fun s m => TstL.nil) (fun k m _ => by
      have hk : k < old.length := List.mem_range.mp m
      exact Ev.plainAt (Ev.sl (Ev.var (by (repeat (first | with_reducible exact List.mem_cons_self | with_reducible refine List.mem_cons_of_mem _ ?_))))) (Ev.sl (Ev.var (by (repeat (first | with_reducible exact List.mem_cons_self | with_reducible refine List.mem_cons_of_mem _ ?_))))) (by (repeat (first | with_reducible exact List.mem_cons_self | with_reducible refine List.mem_cons_of_mem _ ?_))) hk (by (first | assumption | exact Nat.le_refl _ | exact Nat.add_le_add_left (by decide) _ | exact Nat.le_trans (by assumption) (by decide) | omega)) (by (first | assumption | exact Nat.le_refl _ | exact Nat.add_le_add_left (by decide) _ | exact Nat.le_trans (by assumption) (by decide) | omega)) (by (first | assumption | exact Nat.le_refl _ | exact Nat.add_le_add_left (by decide) _ | exact Nat.le_trans (by assumption) (by decide) | omega))) (by rw [List.length_range]; (first | assumption | exact Nat.le_refl _ | exact Nat.add_le_add_left (by decide) _ | exact Nat.le_trans (by assumption) (by decide) | omega)) (.inl (by kernel_rfl)) (by (repeat (first | exact Upd.nil | (with_reducible apply Upd.hit) | ((with_reducible apply Upd.miss); (focus decide))))) (by (intro env h1; cases env; dsimp only at h1; subst h1; kernel_rfl)) ?_
  have pl : (plainS old new).length ≤ 1000 := by simp [plainS]; (first | assumption | exact Nat.le_refl _ | exact Nat.add_le_add_left (by decide) _ | exact Nat.le_trans (by assumption) (by decide) | omega)
  refine Ex.skip (Tst.to (Tst.cmp (Ev.list (Ev.to (CompP.of (f := Stp.d) (un := unStp) (xs := plainS old new) (t := fun _ => true) (g := Stp.d) (ρin := fun d => [("step", .vp (im d))]) unStp_d
      (Ev.le (Ev.call (Ev.gfn T (v := .ref 116) (by kernel_rfl) (by kernel_rfl)) (kpr_cls T (by kernel_rfl)) (EvS.cons (Ev.copy (ds := intL old) T (by kernel_rfl) (by (repeat (first | with_reducible exact List.mem_cons_self | with_reducible refine List.mem_cons_of_mem _ ?_))) (by (first | assumption | exact Nat.le_refl _ | exact Nat.add_le_add_left (by decide) _ | exact Nat.le_trans (by assumption) (by decide) | omega))) (EvS.cons (Ev.copy (ds := intL new) T (by kernel_rfl) (by (repeat (first | with_reducible exact List.mem_cons_self | with_reducible refine List.mem_cons_of_mem _ ?_))) (by (first | assumption | exact Nat.le_refl _ | exact Nat.add_le_add_left (by decide) _ | exact Nat.le_trans (by assumption) (by decide) | omega))) EvS.nil)) ((fn_plain (n := n) T old new (by (first | assumption | exact Nat.le_refl _ | exact Nat.add_le_add_left (by decide) _ | exact Nat.le_trans (by assumption) (by decide) | omega)) (by (first | assumption | exact Nat.le_refl _ | exact Nat.add_le_add_left (by decide) _ | exact Nat.le_trans (by assumption) (by decide) | omega))).up (by (first | assumption | exact Nat.le_refl _ | exact Nat.add_le_add_left (by decide) _ | exact Nat.le_trans (by assumption) (by decide) | omega)))) (kfr_kit _))
      (by exact of_decide_eq_true (by kernel_rfl)) (by exact of_decide_eq_true (by kernel_rfl)) (by kernel_rfl) (by exact of_decide_eq_true (by kernel_rfl)) (by kernel_rfl) (fun d => ⟨.inl rfl, trivial⟩) (fun _ _ => TstL.nil) (fun s m _ => Ev.tuple_ T (by kernel_rfl) (by (repeat (first | with_reducible exact List.mem_cons_self | with_reducible refine List.mem_cons_of_mem _ ?_)))) pl) (show kfr _ = kfr ((plainS old new).map Stp.d) from by rw [List.filter_eq_self.mpr fun _ _ => rfl]))) (Ev.var (d := stps (plainS old new)) (by (repeat (first | with_reducible exact List.mem_cons_self | with_reducible refine List.mem_cons_of_mem _ ?_)))) (op_ne (d := stps (plainS old new)) (d' := stps (plainS old new)) (sh_stps _) (sh_stps _)))
    (show (!PyData.eqv (stps (plainS old new)) (stps (plainS old new))) = false from by rw [SeqAt.eqv_refl _ (lay_list lay_stp _)]; rfl)) ?_
  exact Ex.weak (by (refine sub_of_all ?_; repeat (first | exact True.intro | refine And.intro (by (repeat (first | with_reducible exact List.mem_cons_self | with_reducible refine List.mem_cons_of_mem _ ?_))) ?_))) (law_tail T same rfl small told)
end
noncomputable abbrev AllVp (ρ : Rho) : Prop := All (fun y => ∃ p, y.2 = Ent.vp p) ρ
theorem AllVp.nr {ρ : Rho} (h : AllVp ρ) (as : List Addr) : ∀ y ∈ ρ, NotRes as y.2 := fun y m => by
  obtain ⟨p, q⟩ := h.mem y m
  rw [q]; exact trivial
theorem AllVp.no {ρ : Rho} (h : AllVp ρ) : ∀ z p, (z, Ent.res p) ∈ ρ → False := fun z p m => by
  obtain ⟨p', q⟩ := h.mem _ m
  cases q
noncomputable abbrev Inp : Type := {q : List Int × List Int × Cst // Good q.1 q.2.1 q.2.2}
noncomputable abbrev inpR (i : Inp) : Rho := [("old", .vp (im (.list (intL i.1.1)))), ("new", .vp (im (.list (intL i.1.2.1)))), ("prices", .vp (im (.list (intL i.1.2.2.pr)))), ("draws", .vp (im (.list (intL i.1.2.2.dr))))]
theorem pr_of {l : List Int} (h : l.length = 4) (dr : List Int) : ∃ c : Cst, c.pr = l ∧ c.dr = dr := by
  match l, h with
  | [a, b, c, d], _ => exact ⟨⟨a, b, c, d, dr⟩, rfl, rfl⟩
theorem good0 : Good [1, 2, 3] [2, 3, 4] ⟨1, 1, 1, 1, [9, 9, 9]⟩ := ⟨rfl, by decide, rfl, at_pos (by decide)⟩
section
variable {P : Params} {mg mb : Str → Option Value} {prog : Program} {w : World} {ht : Heap} {n : Nat} {sc csc : Scope} {ρ ρ' ρ₁ ρ₂ : Rho} {xs : List Int}
variable {x : Str} {xp pos fp px p0 p1 p2 p3 p4 : Pos} {iter : Expr} {a b : Addr} {c N k : Nat} {below : Int}
theorem EvN.drawsV (T : TopX P mg mb ht) (hb : 0 < below) (hb2 : below ≤ 1000) (hc : c + N ≤ 1000) (hv : AllVp ρ)
    (he : Ev prog w ht (n + 1) sc (("deck", .res (deckP prog w a b c)) :: ρ) iter (kit (Mine.upto N)))
    (free : ∀ y ∈ csc.names, y.2 = .free → sc.names.lookup y.1 = some .cell) (cell : ∀ y ∈ csc.names, y.2 ≠ .cell) (kind : csc.kind = .function) (names : ∀ y ∈ csc.names, y.2 = .local → csc.names.lookup y.1 = some .local) (hx : csc.names.lookup (Str.ofString "k") = some .local)
    (hfr : (Str.ofString "deck", NameKind.free) ∈ csc.names) (hlk : (relS csc sc).names.lookup (Str.ofString "deck") = some .cell) (hg : (relS csc sc).names.lookup (Str.ofString "_law_draw") = some NameKind.globalImplicit)
    (hs : ∀ env x, foldedSetIterable iter env x = pure x := by intro _ _; rfl) :
    EvN prog w ht (n + 1) sc (("deck", .res (deckP prog w a b c)) :: ρ) (("deck", .res (deckP prog w a b (c + N))) :: ρ) [a, b] (.ListComp (.Call (.Name "_law_draw" fp) [.Name "deck" p1, .Constant (.int below) k p2] [] p3) [⟨.Name "k" px, iter, [], 0⟩] csc pos) (fun es => ∃ l : List Int, es = intL l ∧ InR below N l) :=
  EvN.draws T hb hb2 hc (hv.nr _) hv.no he free cell kind names hx hfr hlk hg hs
theorem fn_law (T : TopX P mg mb ht) (hz : xs.length ≤ 900) : Fn prog w ht (n + 8) (.ref 190) [kim (.list (intL xs))] (kim (.bool true)) := by
  refine (F190 P).fn (ps := [im (.list (intL xs))]) T rfl (show Ex _ _ _ (n + 7) _ [("script", .vp (im (.list (intL xs))))] _ _ from ?_)
  refine Ex.ownDeck (Ev.call (Ev.gfn T (v := .ref 147) (by kernel_rfl) (by kernel_rfl)) (kpr_cls T (by kernel_rfl)) (EvS.cons (Ev.var (by (repeat (first | with_reducible exact List.mem_cons_self | with_reducible refine List.mem_cons_of_mem _ ?_)))) EvS.nil) ((fn_deck (n := n) T xs hz).up (by (first | assumption | exact Nat.le_refl _ | exact Nat.add_le_add_left (by decide) _ | exact Nat.le_trans (by assumption) (by decide) | omega)))) (.inr (by kernel_rfl)) (fun a b => by (repeat (first | exact Upd.nil | (with_reducible apply Upd.hit) | ((with_reducible apply Upd.miss); (focus decide))))) (fun a b _ => ?_)
  refine Ex.if_E (ι := Inp) (ρs := inpR) (ρ' := [("deck", .res (deckP prog w a b 1))]) (k₀ := 0) (EvE.draw (a := a) (b := b) (c := 0) (below := 3) T (by decide) (by decide) (by decide) (by (repeat (first | with_reducible exact List.mem_cons_self | with_reducible refine List.mem_cons_of_mem _ ?_))) ⟨.inl rfl, trivial⟩ (by kernel_rfl)) (fun d ⟨r, q, _⟩ => ⟨r, q⟩) (Ev.int _ _) ?_ ?_ (fun i => law_mid T i.2)
  · refine Ex.assignT (d := .tuple [.list (intL [1, 2, 3]), .list (intL [2, 3, 4]), .list (intL [1, 1, 1, 1]), .list (intL [9, 9, 9])])
      (EvS.tuple (ds := [.list (intL [1, 2, 3]), .list (intL [2, 3, 4]), .list (intL [1, 1, 1, 1]), .list (intL [9, 9, 9])])
        (EvS.cons (Ev.list (EvS.lst (ds := intL [1, 2, 3]) (EvS.cons (Ev.int _ _) (EvS.cons (Ev.int _ _) (EvS.cons (Ev.int _ _) EvS.nil)))))
        (EvS.cons (Ev.list (EvS.lst (ds := intL [2, 3, 4]) (EvS.cons (Ev.int _ _) (EvS.cons (Ev.int _ _) (EvS.cons (Ev.int _ _) EvS.nil)))))
        (EvS.cons (Ev.list (EvS.lst (ds := intL [1, 1, 1, 1]) (EvS.cons (Ev.int _ _) (EvS.cons (Ev.int _ _) (EvS.cons (Ev.int _ _) (EvS.cons (Ev.int _ _) EvS.nil))))))
        (EvS.cons (Ev.list (EvS.lst (ds := intL [9, 9, 9]) (EvS.cons (Ev.int _ _) (EvS.cons (Ev.int _ _) (EvS.cons (Ev.int _ _) EvS.nil))))) EvS.nil)))))
      (As.tuple (ds := [.list (intL [1, 2, 3]), .list (intL [2, 3, 4]), .list (intL [1, 1, 1, 1]), .list (intL [9, 9, 9])]) (AsL.cons (As.name (.inr (by kernel_rfl)) (by (repeat (first | exact Upd.nil | (with_reducible apply Upd.hit) | ((with_reducible apply Upd.miss); (focus decide)))))) (AsL.cons (As.name (.inr (by kernel_rfl)) (by (repeat (first | exact Upd.nil | (with_reducible apply Upd.hit) | ((with_reducible apply Upd.miss); (focus decide)))))) (AsL.cons (As.name (.inr (by kernel_rfl)) (by (repeat (first | exact Upd.nil | (with_reducible apply Upd.hit) | ((with_reducible apply Upd.miss); (focus decide)))))) (AsL.cons (As.name (.inr (by kernel_rfl)) (by (repeat (first | exact Upd.nil | (with_reducible apply Upd.hit) | ((with_reducible apply Upd.miss); (focus decide)))))) AsL.nil))))) ?_ (hw := by (intro env h1; cases env; dsimp only at h1; subst h1; kernel_rfl))
    exact Ex.nilF ⟨⟨[1, 2, 3], [2, 3, 4], ⟨1, 1, 1, 1, [9, 9, 9]⟩⟩, good0⟩ (by (refine sub_of_all ?_; repeat (first | exact True.intro | refine And.intro (by (repeat (first | with_reducible exact List.mem_cons_self | with_reducible refine List.mem_cons_of_mem _ ?_))) ?_)))
  · refine Ex.assignE (d₀ := ()) (ρ' := [("deck", .res (deckP prog w a b 2))]) (EvE.draw (a := a) (b := b) (c := 1) (below := 4) T (by decide) (by decide) (by decide) (by (repeat (first | with_reducible exact List.mem_cons_self | with_reducible refine List.mem_cons_of_mem _ ?_))) ⟨.inl rfl, trivial⟩ (by kernel_rfl)) (.inl (by kernel_rfl)) (fun d hd => ?_)
    obtain ⟨m, rfl, h0, h4⟩ := hd
    obtain ⟨N, rfl⟩ := Int.eq_ofNat_of_zero_le h0
    have hN : N ≤ 3 := by (first | assumption | exact Nat.le_refl _ | exact Nat.add_le_add_left (by decide) _ | exact Nat.le_trans (by assumption) (by decide) | omega)
    refine ⟨_, by (repeat (first | exact Upd.nil | (with_reducible apply Upd.hit) | ((with_reducible apply Upd.miss); (focus decide)))), ?_⟩
    refine Ex.assignTE (EvE.tuple2 (EvN.drawsV (a := a) (b := b) (c := 2) (N := N) (below := 4) (ρ := [("many", .vp (im (.int (N : Int))))]) T (by decide) (by decide) (by (first | assumption | exact Nat.le_refl _ | exact Nat.add_le_add_left (by decide) _ | exact Nat.le_trans (by assumption) (by decide) | omega)) ⟨⟨_, rfl⟩, trivial⟩
        (Ev.range_ T (by kernel_rfl) (Ev.var (by (repeat (first | with_reducible exact List.mem_cons_self | with_reducible refine List.mem_cons_of_mem _ ?_)))) (by (first | assumption | exact Nat.le_refl _ | exact Nat.add_le_add_left (by decide) _ | exact Nat.le_trans (by assumption) (by decide) | omega))) (by exact of_decide_eq_true (by kernel_rfl)) (by exact of_decide_eq_true (by kernel_rfl)) (by kernel_rfl) (by exact of_decide_eq_true (by kernel_rfl)) (by kernel_rfl) (by exact of_decide_eq_true (by kernel_rfl)) (by kernel_rfl) (by kernel_rfl))
      (EvN.drawsV (a := a) (b := b) (c := 2 + N) (N := N) (below := 4) (ρ := [("many", .vp (im (.int (N : Int))))]) T (by decide) (by decide) (by (first | assumption | exact Nat.le_refl _ | exact Nat.add_le_add_left (by decide) _ | exact Nat.le_trans (by assumption) (by decide) | omega)) ⟨⟨_, rfl⟩, trivial⟩
        (Ev.range_ T (by kernel_rfl) (Ev.var (by (repeat (first | with_reducible exact List.mem_cons_self | with_reducible refine List.mem_cons_of_mem _ ?_)))) (by (first | assumption | exact Nat.le_refl _ | exact Nat.add_le_add_left (by decide) _ | exact Nat.le_trans (by assumption) (by decide) | omega))) (by exact of_decide_eq_true (by kernel_rfl)) (by exact of_decide_eq_true (by kernel_rfl)) (by kernel_rfl) (by exact of_decide_eq_true (by kernel_rfl)) (by kernel_rfl) (by exact of_decide_eq_true (by kernel_rfl)) (by kernel_rfl) (by kernel_rfl))
      (fun S y m => ((sf_res S (.head _)).2.1 y m).2)) (fun d hd => ?_) (hw := by (intro env h1; cases env; dsimp only at h1; subst h1; kernel_rfl))
    obtain ⟨_, _, ⟨old, rfl, o1, o2⟩, ⟨new, rfl, n1, n2⟩, rfl⟩ := hd
    refine ⟨_, As.tuple (ds := [.list (intL old), .list (intL new)]) (AsL.cons (As.name (.inr (by kernel_rfl)) (by (repeat (first | exact Upd.nil | (with_reducible apply Upd.hit) | ((with_reducible apply Upd.miss); (focus decide)))))) (AsL.cons (As.name (.inr (by kernel_rfl)) (by (repeat (first | exact Upd.nil | (with_reducible apply Upd.hit) | ((with_reducible apply Upd.miss); (focus decide)))))) AsL.nil)), ?_⟩
    refine Ex.assignTE (EvE.tuple2 (EvN.drawsV (a := a) (b := b) (c := 2 + N + N) (N := 4) (below := 5) (ρ := [("many", .vp (im (.int (N : Int)))), ("old", .vp (im (.list (intL old)))), ("new", .vp (im (.list (intL new))))]) T (by decide) (by decide) (by (first | assumption | exact Nat.le_refl _ | exact Nat.add_le_add_left (by decide) _ | exact Nat.le_trans (by assumption) (by decide) | omega)) ⟨⟨_, rfl⟩, ⟨_, rfl⟩, ⟨_, rfl⟩, trivial⟩
        (Ev.range_ (k := 4) T (by kernel_rfl) (Ev.int _ _) (by (first | assumption | exact Nat.le_refl _ | exact Nat.add_le_add_left (by decide) _ | exact Nat.le_trans (by assumption) (by decide) | omega))) (by exact of_decide_eq_true (by kernel_rfl)) (by exact of_decide_eq_true (by kernel_rfl)) (by kernel_rfl) (by exact of_decide_eq_true (by kernel_rfl)) (by kernel_rfl) (by exact of_decide_eq_true (by kernel_rfl)) (by kernel_rfl) (by kernel_rfl))
      (EvN.drawsV (a := a) (b := b) (c := 2 + N + N + 4) (N := N) (below := 9) (ρ := [("many", .vp (im (.int (N : Int)))), ("old", .vp (im (.list (intL old)))), ("new", .vp (im (.list (intL new))))]) T (by decide) (by decide) (by (first | assumption | exact Nat.le_refl _ | exact Nat.add_le_add_left (by decide) _ | exact Nat.le_trans (by assumption) (by decide) | omega)) ⟨⟨_, rfl⟩, ⟨_, rfl⟩, ⟨_, rfl⟩, trivial⟩
        (Ev.range_ T (by kernel_rfl) (Ev.var (by (repeat (first | with_reducible exact List.mem_cons_self | with_reducible refine List.mem_cons_of_mem _ ?_)))) (by (first | assumption | exact Nat.le_refl _ | exact Nat.add_le_add_left (by decide) _ | exact Nat.le_trans (by assumption) (by decide) | omega))) (by exact of_decide_eq_true (by kernel_rfl)) (by exact of_decide_eq_true (by kernel_rfl)) (by kernel_rfl) (by exact of_decide_eq_true (by kernel_rfl)) (by kernel_rfl) (by exact of_decide_eq_true (by kernel_rfl)) (by kernel_rfl) (by kernel_rfl))
      (fun S y m => ((sf_res S (.head _)).2.1 y m).2)) (fun d hd => ?_) (hw := by (intro env h1; cases env; dsimp only at h1; subst h1; kernel_rfl))
    obtain ⟨_, _, ⟨pr, rfl, r1, r2⟩, ⟨dr, rfl, d1, d2⟩, rfl⟩ := hd
    obtain ⟨c, c1, c2⟩ := pr_of r1 dr
    subst c1 c2
    refine ⟨_, As.tuple (ds := [.list (intL c.pr), .list (intL c.dr)]) (AsL.cons (As.name (.inr (by kernel_rfl)) (by (repeat (first | exact Upd.nil | (with_reducible apply Upd.hit) | ((with_reducible apply Upd.miss); (focus decide)))))) (AsL.cons (As.name (.inr (by kernel_rfl)) (by (repeat (first | exact Upd.nil | (with_reducible apply Upd.hit) | ((with_reducible apply Upd.miss); (focus decide)))))) AsL.nil)), ?_⟩
    exact Ex.nilF (⟨⟨old, new, c⟩, ⟨by show old.length = new.length; (first | assumption | exact Nat.le_refl _ | exact Nat.add_le_add_left (by decide) _ | exact Nat.le_trans (by assumption) (by decide) | omega), by show new.length ≤ 3; (first | assumption | exact Nat.le_refl _ | exact Nat.add_le_add_left (by decide) _ | exact Nat.le_trans (by assumption) (by decide) | omega), by show c.dr.length = new.length; (first | assumption | exact Nat.le_refl _ | exact Nat.add_le_add_left (by decide) _ | exact Nat.le_trans (by assumption) (by decide) | omega), at_pos fun x m => (d2 x m).1⟩⟩ : Inp) (by (refine sub_of_all ?_; repeat (first | exact True.intro | refine And.intro (by (repeat (first | with_reducible exact List.mem_cons_self | with_reducible refine List.mem_cons_of_mem _ ?_))) ?_)))
end
theorem rva_well {Pm : Params} {h : Heap} {X : List Addr} : ∀ {xs : List Int} {vs : List Value}, WellAll Pm h vs (ofPys (xs.map PyData.int)) → RvA h X vs (intL xs)
  | [], vs, z => by
    have z : WellAll Pm h vs [] := z
    cases z; exact .nil
  | x :: xs, vs, z => by
    have z : WellAll Pm h vs (WData.int x :: ofPys (xs.map PyData.int)) := z
    cases z with
    | cons a b =>
      cases a
      exact .cons (.int _ _) (rva_well b)
theorem rv_well {Pm : Params} {h : Heap} {v : Value} {xs : List Int} (z : Well Pm h v (ofPy (.list (xs.map PyData.int)))) : Rv h [] v (.list (intL xs)) := by
  have z : Well Pm h v (.list (ofPys (xs.map PyData.int))) := z
  cases z with
  | list g r => exact Rv.list (n := 0) nofun g (rva_well r)
theorem room0 : Room 8 callerA := ⟨rfl, by decide +kernel, by decide +kernel⟩
theorem law_ends {P : Params} {mg mb : Str → Option Value} {prog : Program} {w : World} {c : ClaimW} {cl : Str → Option Addr} {mean : ExcName → Option Value} {args : List WData} {s₁ : Shared} {fa : Addr} {v : Value} {xs : List Int}
    (T : TopX P mg mb s₁.heap) (hfa : mg (Str.ofString "law") = some (.ref fa)) (hg : s₁.gens = #[]) (z : Rv s₁.heap [] v (.list (intL xs))) (hz : xs.length ≤ 900) (hn : ∀ cls, c.raises args cls = false) (hp : c.post args (.bool true) args = true) :
    wpAny (model prog w) callerA (call (.ref fa) [v]) (fun v s' => GoodWG c cl mean args s₁ (.ok (.ret v)) s') (fun e s' => GoodWG c cl mean args s₁ (.error e) s') s₁ := by
  have e := mg_of (n := Str.ofString "law") (v := .ref 190) T.k T.f.g (by kernel_rfl)
  rw [hfa] at e
  cases e
  refine fn_law (n := 0) T hz room0 (Kp.refl _) (by intro _ m; cases m) (by intro _ m; cases m) (Kp.refl _) (.cons z .nil) fun u h' tk k r => ?_
  have r : Rv h' [] u (.bool true) := r
  cases r
  exact ⟨.inl ⟨_, .bool true, [], rfl, hn, .bool true, hp, fun _ => ⟨.nil, fun _ m => nomatch m⟩⟩, .of_keep k, rfl, .of_eq hg⟩
theorem law_holds : PySem.Challenge.rw_np0271_01.Holds := by
  refine hd ?_
  k_fill
  intro w s₀ s₁ mg mb G Y fa o pm cd doc dV kV ho hd hcd hD hmg hg args vals as hpre hlay hrd hwl hlo
  have KX := kIn_of Y
  refine Ground.open G ?_
  intro T B D TE TW
  have TX : TopX w.params mg mb s₁.heap := ⟨⟨T.g, T.b, T.nolimit⟩, KX, T.builtins⟩
  clear D hD hd hcd TE TW B T Y G
  wrow_args hpre hlay hrd hwl hlo
  rename Well _ _ _ _ => wl
  rename ¬ _ => hc
  refine law_ends TX hmg hg (rv_well wl) ?_ ?_ ?_
  · (first | assumption | exact Nat.le_refl _ | exact Nat.add_le_add_left (by decide) _ | exact Nat.le_trans (by assumption) (by decide) | omega)
  · intro cls; rfl
  · refine' postW_of ?pS ?pV ?pE
    case pS => o_shape
    case pV => wtm_val
    case pE => first | rfl | w_fin
end Mine
theorem PySem.Challenge.cw_np0271_01_holds : PySem.Challenge.rw_np0271_01.Holds := by
  exact Mine.law_holds
