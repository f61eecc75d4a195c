import PyProof.Rows.All
import Wide.All
import OpenK.AllK
import Wide.FinOn
import KE.KItemsList
import KE.KSortTup
import KE.KDictSum
import KE.KDictOf
import PySem.Challenge.RW_uf020028_02
set_option Elab.async false
set_option maxRecDepth 100000
set_option maxHeartbeats 8000000
set_option linter.unusedVariables false
section
namespace Mine
open PySem PyProof.Rows
abbrev Fact := List Str
abbrev Xs := Addr → Prop
inductive T where
  | none
  | bool (b : Bool)
  | int (i : Int)
  | str (s : Str)
  | tup (xs : List T)
  | list (xs : List T)
  | sd (es : List (Str × Option Str))
  | fd (ks : List Fact)
def sOk (x : Str) : Bool := PyData.strOk x && decide (x.cps.size ≤ 2 ^ 16)
def SdV : Option Str → Value → Prop
  | .none, v => v = .bool true
  | .some x, v => ∃ t, v = .str x t ∧ sOk x = true
def SdVals : List (Str × Option Str) → List (Str × Value) → Prop
  | [], kvs => kvs = []
  | (k, o) :: r, kvs => ∃ v r', kvs = (k, v) :: r' ∧ sOk k = true ∧ SdV o v ∧ SdVals r r'
def FdOk (X : Xs) (h : Heap) (x : Fact × Addr × Value) : Prop := x.2.2 = .bool true ∧ ¬ X x.2.1 ∧ (∀ y ∈ x.1, sOk y = true) ∧ ∃ vs n, h.get? x.2.1 = some (seqObj "tuple" vs n)
section
variable (prog : Program) (w : World)
abbrev tkind := tupleKind (strKind prog w)
mutual
def Rd (X : Xs) (h : Heap) : T → Value → Prop
  | .none, v => v = .none
  | .bool b, v => v = .bool b
  | .int i, v => ∃ t, v = .int i t
  | .str x, v => ∃ t, v = .str x t ∧ sOk x = true
  | .tup xs, v => ∃ a, v = .ref a ∧ ¬ X a ∧ ∃ vs n, h.get? a = some (seqObj "tuple" vs n) ∧ RdL X h xs vs.toList
  | .list xs, v => ∃ a, v = .ref a ∧ ¬ X a ∧ ∃ vs n, h.get? a = some (seqObj "list" vs n) ∧ RdL X h xs vs.toList
  | .sd es, v => ∃ a, v = .ref a ∧ ¬ X a ∧ (a == sysModules) = false ∧ ∃ kvs, h.DictOf (strKind prog w) a kvs ∧ SdVals es kvs
  | .fd ks, v => ∃ a, v = .ref a ∧ ¬ X a ∧ (a == sysModules) = false ∧ ∃ xs, h.DictOfH (tkind prog w) a xs ∧ xs.map (·.1) = ks ∧ ∀ x ∈ xs, FdOk X h x
def RdL (X : Xs) (h : Heap) : List T → List Value → Prop
  | [], vs => vs = []
  | t :: ts, vs => ∃ v r, vs = v :: r ∧ Rd X h t v ∧ RdL X h ts r
end
def At (X : Xs) (h : Heap) (a : Addr) : T → Prop
  | .list xs => ∃ vs n, h.get? a = some (seqObj "list" vs n) ∧ RdL prog w X h xs vs.toList
  | .sd es => (a == sysModules) = false ∧ ∃ kvs, h.DictOf (strKind prog w) a kvs ∧ SdVals es kvs
  | .fd ks => (a == sysModules) = false ∧ ∃ xs, h.DictOfH (tkind prog w) a xs ∧ xs.map (·.1) = ks ∧ ∀ x ∈ xs, FdOk X h x
  | _ => False
def RdS (X : Xs) (h : Heap) (t : T) (v : Value) : Prop := Rd prog w X h t v ∨ ∃ a, v = .ref a ∧ At prog w X h a t
end

def Kept (X : Xs) (h h' : Heap) : Prop := ∀ a o, h.get? a = some o → ¬ X a → h'.get? a = some o
def Keep (h h' : Heap) : Prop := ∀ a o, h.get? a = some o → h'.get? a = some o
theorem Keep.kept {X : Xs} {h h' : Heap} (k : Keep h h') : Kept X h h' := fun a o e _ => k a o e
theorem Keep.refl (h : Heap) : Keep h h := fun _ _ e => e
theorem Keep.trans {a b c : Heap} (x : Keep a b) (y : Keep b c) : Keep a c := fun i o e => y i o (x i o e)
theorem Keep.push (h : Heap) (o : Obj) : Keep h (h.push o) := fun _ _ e => Heap.get?_push_of_some _ e
variable {prog : Program} {w : World}
theorem DictOf_kept {X : Xs} {h h' : Heap} {a : Addr} {kvs : List (Str × Value)} (hk : Kept X h h') (ha : ¬ X a) (d : h.DictOf (strKind prog w) a kvs) : h'.DictOf (strKind prog w) a kvs :=
  let ⟨o, es, ep, ho, r⟩ := d; ⟨o, es, ep, hk a o ho ha, r⟩
theorem key_kept {X : Xs} {h h' : Heap} {a : Addr} {k : Fact} (hk : Kept X h h') (ha : ¬ X a) (d : (tkind prog w).is h k a) : (tkind prog w).is h' k a :=
  let ⟨o, vs, n, ho, hc, hd, r⟩ := d; ⟨o, vs, n, hk a o ho ha, hc, hd, r⟩
theorem DictOfH_kept {X : Xs} {h h' : Heap} {a : Addr} {xs : List (Fact × Addr × Value)} (hk : Kept X h h') (ha : ∀ o, h.get? a = some o → h'.get? a = some o) (hx : ∀ x ∈ xs, ¬ X x.2.1) (d : h.DictOfH (tkind prog w) a xs) : h'.DictOfH (tkind prog w) a xs :=
  let ⟨o, es, ep, ho, hx1, hd, he, hi, hn⟩ := d; ⟨o, es, ep, ha o ho, hx1, hd, he, fun x hx' => key_kept hk (hx x hx') (hi x hx'), hn⟩
theorem DictOf_live {h : Heap} {a : Addr} {kvs : List (Str × Value)} (d : h.DictOf (strKind prog w) a kvs) : ∃ o, h.get? a = some o := let ⟨o, _, _, ho, _⟩ := d; ⟨o, ho⟩
theorem DictOfH_live {h : Heap} {a : Addr} {xs : List (Fact × Addr × Value)} (d : h.DictOfH (tkind prog w) a xs) : ∃ o, h.get? a = some o := let ⟨o, _, _, ho, _⟩ := d; ⟨o, ho⟩
theorem notX' {X X' : Xs} {h : Heap} {a : Addr} (hx : ∀ a, X' a → X a ∨ h.get? a = none) (hX : ¬ X a) (hl : ∃ o, h.get? a = some o) : ¬ X' a := fun q =>
  (hx a q).elim hX fun q => by obtain ⟨o, ho⟩ := hl; rw [ho] at q; cases q
theorem FdOk.step {X X' : Xs} {h h' : Heap} {x : Fact × Addr × Value} (hk : Kept X h h') (hx : ∀ a, X' a → X a ∨ h.get? a = none) (r : FdOk X h x) : FdOk X' h' x :=
  let ⟨h1, h2, h3, vs, n, ho⟩ := r
  ⟨h1, notX' hx h2 ⟨_, ho⟩, h3, vs, n, hk _ _ ho h2⟩
mutual
theorem Rd.step {X X' : Xs} {h h' : Heap} (hk : Kept X h h') (hx : ∀ a, X' a → X a ∨ h.get? a = none) : ∀ (t : T) {v : Value}, Rd prog w X h t v → Rd prog w X' h' t v
  | .none, _, r => r
  | .bool _, _, r => r
  | .int _, _, r => r
  | .str _, _, r => r
  | .tup xs, _, r => by
    unfold Rd at r ⊢
    obtain ⟨a, e, hX, vs, n, ho, r⟩ := r
    exact ⟨a, e, notX' hx hX ⟨_, ho⟩, vs, n, hk _ _ ho hX, RdL.step hk hx xs r⟩
  | .list xs, _, r => by
    unfold Rd at r ⊢
    obtain ⟨a, e, hX, vs, n, ho, r⟩ := r
    exact ⟨a, e, notX' hx hX ⟨_, ho⟩, vs, n, hk _ _ ho hX, RdL.step hk hx xs r⟩
  | .sd _, _, r => by
    unfold Rd at r ⊢
    obtain ⟨a, e, hX, hy, kvs, ho, r⟩ := r
    exact ⟨a, e, notX' hx hX (DictOf_live ho), hy, kvs, DictOf_kept hk hX ho, r⟩
  | .fd _, _, r => by
    unfold Rd at r ⊢
    obtain ⟨a, e, hX, hy, xs, ho, r1, r2⟩ := r
    exact ⟨a, e, notX' hx hX (DictOfH_live ho), hy, xs, DictOfH_kept hk (fun o q => hk a o q hX) (fun x q => (r2 x q).2.1) ho, r1, fun x q => (r2 x q).step hk hx⟩
theorem RdL.step {X X' : Xs} {h h' : Heap} (hk : Kept X h h') (hx : ∀ a, X' a → X a ∨ h.get? a = none) : ∀ (ts : List T) {vs : List Value}, RdL prog w X h ts vs → RdL prog w X' h' ts vs
  | [], _, r => r
  | t :: ts, _, r => by
    unfold RdL at r ⊢
    obtain ⟨v, r', e, h1, h2⟩ := r
    exact ⟨v, r', e, Rd.step hk hx t h1, RdL.step hk hx ts h2⟩
end
theorem Rd.keep {X : Xs} {h h' : Heap} {t : T} {v : Value} (r : Rd prog w X h t v) (k : Keep h h') : Rd prog w X h' t v := r.step k.kept (fun _ q => .inl q)
theorem RdL.keep {X : Xs} {h h' : Heap} {t : List T} {v : List Value} (r : RdL prog w X h t v) (k : Keep h h') : RdL prog w X h' t v := RdL.step k.kept (fun _ q => .inl q) _ r
theorem Rd.less {X X' : Xs} {h : Heap} {t : T} {v : Value} (r : Rd prog w X h t v) (hx : ∀ a, X' a → X a) : Rd prog w X' h t v := r.step (Keep.refl h).kept (fun a q => .inl (hx a q))
theorem At.step {X X' : Xs} {h h' : Heap} {a : Addr} (hk : Kept X h h') (hx : ∀ a, X' a → X a ∨ h.get? a = none) (ha : ∀ o, h.get? a = some o → h'.get? a = some o) : ∀ {t : T}, At prog w X h a t → At prog w X' h' a t
  | .list xs, ⟨vs, n, ho, r⟩ => ⟨vs, n, ha _ ho, RdL.step hk hx _ r⟩
  | .sd es, ⟨hy, kvs, ⟨o, es', ep, ho, r⟩, v⟩ => ⟨hy, kvs, ⟨o, es', ep, ha _ ho, r⟩, v⟩
  | .fd ks, ⟨hy, xs, ho, v, r2⟩ => ⟨hy, xs, DictOfH_kept hk ha (fun x q => (r2 x q).2.1) ho, v, fun x q => (r2 x q).step hk hx⟩
theorem At.keep {X : Xs} {h h' : Heap} {a : Addr} {t : T} (r : At prog w X h a t) (k : Keep h h') : At prog w X h' a t := At.step k.kept (fun _ q => .inl q) (fun o => k a o) r
theorem At.live {X : Xs} {h : Heap} {a : Addr} : ∀ {t : T}, At prog w X h a t → ∃ o, h.get? a = some o
  | .list _, ⟨_, _, ho, _⟩ => ⟨_, ho⟩
  | .sd _, ⟨_, _, d, _⟩ => DictOf_live d
  | .fd _, ⟨_, _, d, _⟩ => DictOfH_live d
theorem At.rd {X : Xs} {h : Heap} {a : Addr} (hX : ¬ X a) : ∀ {t : T}, At prog w X h a t → Rd prog w X h t (.ref a)
  | .list _, x => by unfold Rd; exact ⟨a, rfl, hX, x⟩
  | .sd _, x => by unfold Rd; exact ⟨a, rfl, hX, x⟩
  | .fd _, x => by unfold Rd; exact ⟨a, rfl, hX, x⟩
theorem RdS.keep {X : Xs} {h h' : Heap} {t : T} {v : Value} (r : RdS prog w X h t v) (k : Keep h h') : RdS prog w X h' t v := r.imp (·.keep k) fun ⟨a, e, x⟩ => ⟨a, e, x.keep k⟩
end Mine

end
section
namespace Mine
open PySem PyProof.Rows
inductive Slot where
  | un
  | fz (t : T)
  | vw (t : T)
  | ow (t : T)
  | gl
  | ce (n : Str)
abbrev Rho := List (Str × Slot)
inductive Role where
  | loc
  | cell (x : Str)
  | own (x : Str)
  | hid
def Wr : Option Role → Prop
  | some .loc => True
  | some (.cell _) => True
  | some (.own _) => True
  | _ => False
def Var (env : Env) (h : Heap) (x : Str) (ov : Option Value) : Prop :=
  (env.kindOf x = some .local ∧ ∃ m, h.Ns env.locals m ∧ m x = ov) ∨
  ((env.kindOf x = some .cell ∨ env.kindOf x = some .free) ∧ ∃ c, env.cells.lookup x = some c ∧ h.IsCell c ov)
theorem Var.keep {env : Env} {h h' : Heap} {x : Str} {ov : Option Value} (v : Var env h x ov) (k : Keep h h') : Var env h' x ov :=
  v.imp (fun ⟨a, m, n, e⟩ => ⟨a, m, n.keeps k, e⟩) fun ⟨a, c, e, i⟩ => ⟨a, c, e, i.keeps k⟩
section
variable (prog : Program) (w : World)
def Held (X : Xs) (role : Addr → Option Role) (env : Env) (h : Heap) (x : Str) : Slot → Prop
  | .un => ∃ ov, Var env h x ov
  | .fz t => ∃ v, Var env h x (some v) ∧ Rd prog w X h t v
  | .vw t => ∃ v, Var env h x (some v) ∧ (Rd prog w X h t v ∨ ∃ a, v = .ref a ∧ role a = none ∧ At prog w X h a t)
  | .ow t => ∃ a, Var env h x (some (.ref a)) ∧ role a = some (.own x) ∧ At prog w X h a t
  | .gl => env.kindOf x = some .globalImplicit
  | .ce n => (env.kindOf n = some .cell ∨ env.kindOf n = some .free) ∧ ∃ c, env.cells.lookup n = some c
structure St (H : Heap) (X : Xs) (role : Addr → Option Role) (env : Env) (ρ : Rho) (h : Heap) : Prop where
  kind : env.scope.kind = .function
  glo : env.globals = mainGlobals
  blt : env.builtins = builtinsNs
  top : Keep H h
  live : ∀ a, X a → ∃ o, h.get? a = some o
  rx : ∀ a, role a ≠ none → X a
  nodup : (ρ.map (·.1)).Nodup
  vars : ∀ p ∈ ρ, Held prog w X role env h p.1 p.2
end
variable {prog : Program} {w : World}
theorem Held.keep {X : Xs} {role : Addr → Option Role} {env : Env} {h h' : Heap} {x : Str} (k : Keep h h') : ∀ {sl : Slot}, Held prog w X role env h x sl → Held prog w X role env h' x sl
  | .un, ⟨ov, v⟩ => ⟨ov, v.keep k⟩
  | .fz _, ⟨v, a, r⟩ => ⟨v, a.keep k, r.keep k⟩
  | .vw _, ⟨v, a, r⟩ => ⟨v, a.keep k, r.imp (·.keep k) fun ⟨b, e, n, q⟩ => ⟨b, e, n, q.keep k⟩⟩
  | .ow _, ⟨a, v, o, r⟩ => ⟨a, v.keep k, o, r.keep k⟩
  | .gl, e => e
  | .ce _, e => e
theorem St.keep {H : Heap} {X : Xs} {role : Addr → Option Role} {env : Env} {ρ : Rho} {h h' : Heap} (S : St prog w H X role env ρ h) (k : Keep h h') : St prog w H X role env ρ h' :=
  ⟨S.kind, S.glo, S.blt, S.top.trans k, fun a q => let ⟨o, e⟩ := S.live a q; ⟨o, k a o e⟩, S.rx, S.nodup, fun p hp => (S.vars p hp).keep k⟩
def Ext (s s' : Shared) : Prop := ∃ h' tk, s' = { s with heap := h', toks := tk } ∧ Keep s.heap h'
theorem Ext.refl (s : Shared) : Ext s s := ⟨s.heap, s.toks, rfl, Keep.refl _⟩
theorem Ext.trans {a b c : Shared} (x : Ext a b) (y : Ext b c) : Ext a c := by
  obtain ⟨h, t, rfl, k⟩ := x
  obtain ⟨h', t', rfl, k'⟩ := y
  exact ⟨h', t', rfl, k.trans k'⟩
theorem Ext.keep {a b : Shared} (x : Ext a b) : Keep a.heap b.heap := by obtain ⟨h, t, rfl, k⟩ := x; exact k
theorem Ext.tok (s : Shared) (t : Nat) : Ext s { s with toks := t } := ⟨s.heap, t, rfl, Keep.refl _⟩
theorem Ext.push (s : Shared) (o : Obj) (t : Nat) : Ext s { s with heap := s.heap.push o, toks := t } := ⟨_, t, rfl, Keep.push _ o⟩
theorem Ext.hp (s : Shared) {h : Heap} (k : Keep s.heap h) : Ext s { s with heap := h } := ⟨h, s.toks, rfl, k⟩
def Rm (k : Nat) (A : Around) : Prop := A.depth + k < recursionLimit ∧ A.units + 100 * k + 300 < cLine ∧ A.handled = none
theorem Rm.mono {k k' : Nat} {A : Around} (r : Rm k A) (h : k' ≤ k) : Rm k' A := ⟨by have := r.1; omega, by have := r.2.1; omega, r.2.2⟩
abbrev nil : Value → Shared → Prop := fun _ _ => False
section
variable (prog : Program) (w : World) (H : Heap)
def EvR (R : Xs → Heap → Heap → Value → Prop) (ρ : Rho) (k : Nat) (e : Expr) : Prop :=
  ∀ (A : Around) (env : Env) (X : Xs) (role : Addr → Option Role) (s : Shared), Rm k A → St prog w H X role env ρ s.heap →
    wpAny (model prog w) A (eval e env) (fun v s' => Ext s s' ∧ R X s.heap s'.heap v) nil s
def Sh (t : T) : Xs → Heap → Heap → Value → Prop := fun X _ h' v => Rd prog w X h' t v
def Sw (t : T) : Xs → Heap → Heap → Value → Prop := fun X _ h' v => RdS prog w X h' t v
def Pk (t : T) : Xs → Heap → Heap → Value → Prop := fun _ _ h' v => Rd prog w (fun _ => False) h' t v
def Fh (t : T) : Xs → Heap → Heap → Value → Prop := fun X h h' v => ∃ a, v = .ref a ∧ h.get? a = none ∧ At prog w (fun b => X b ∨ b = a) h' a t
abbrev Ev (ρ : Rho) (k : Nat) (e : Expr) (t : T) : Prop := EvR prog w H (Sh prog w t) ρ k e
abbrev EvS (ρ : Rho) (k : Nat) (e : Expr) (t : T) : Prop := EvR prog w H (Sw prog w t) ρ k e
abbrev EvP (ρ : Rho) (k : Nat) (e : Expr) (t : T) : Prop := EvR prog w H (Pk prog w t) ρ k e
abbrev EvF (ρ : Rho) (k : Nat) (e : Expr) (t : T) : Prop := EvR prog w H (Fh prog w t) ρ k e
def Tr (ρ : Rho) (k : Nat) (e : Expr) (b : Bool) : Prop :=
  ∀ (A : Around) (env : Env) (X : Xs) (role : Addr → Option Role) (s : Shared), Rm k A → St prog w H X role env ρ s.heap →
    wpAny (model prog w) A (isTrue e env (eval e env)) (fun c s' => Ext s s' ∧ c = b) nil s
end
variable {H : Heap}

theorem At.less {X X' : Xs} {h : Heap} {a : Addr} {t : T} (r : At prog w X h a t) (hx : ∀ a, X' a → X a) : At prog w X' h a t := At.step (Keep.refl h).kept (fun a q => .inl (hx a q)) (fun _ e => e) r
theorem At.pk {X : Xs} {h : Heap} {a : Addr} {t : T} (r : At prog w X h a t) : Rd prog w (fun _ => False) h t (.ref a) := (r.less (X' := fun _ => False) (fun _ q => q.elim)).rd (fun q => q)
theorem RdS.pk {X : Xs} {h : Heap} {t : T} {v : Value} (r : RdS prog w X h t v) : Rd prog w (fun _ => False) h t v := by
  rcases r with r | ⟨a, rfl, x⟩
  · exact r.less (fun _ q => q.elim)
  · exact x.pk
theorem Fh.sh {t : T} {X : Xs} {h h' : Heap} {v : Value} (r : Fh prog w t X h h' v) (hl : ∀ a, X a → ∃ o, h.get? a = some o) : Rd prog w X h' t v := by
  obtain ⟨a, rfl, hn, x⟩ := r
  exact (x.less fun _ q => .inl q).rd fun q => by obtain ⟨o, e⟩ := hl a q; rw [hn] at e; cases e
theorem EvR.mono {R R' : Xs → Heap → Heap → Value → Prop} {ρ : Rho} {k : Nat} {e : Expr} (x : EvR prog w H R ρ k e) (f : ∀ X h h' v, (∀ a, X a → ∃ o, h.get? a = some o) → R X h h' v → R' X h h' v) : EvR prog w H R' ρ k e :=
  fun A env X role s hr S => wpAny_mono (x A env X role s hr S) (fun v s' h => ⟨h.1, f X _ _ v S.live h.2⟩) fun _ _ q => q
theorem Ev.sw {ρ : Rho} {k : Nat} {e : Expr} {t : T} (x : Ev prog w H ρ k e t) : EvS prog w H ρ k e t := EvR.mono x fun _ _ _ _ _ r => .inl r
theorem EvS.pk {ρ : Rho} {k : Nat} {e : Expr} {t : T} (x : EvS prog w H ρ k e t) : EvP prog w H ρ k e t := EvR.mono x fun _ _ _ _ _ r => RdS.pk r
theorem Ev.pk {ρ : Rho} {k : Nat} {e : Expr} {t : T} (x : Ev prog w H ρ k e t) : EvP prog w H ρ k e t := EvS.pk (Ev.sw x)
theorem EvF.sh {ρ : Rho} {k : Nat} {e : Expr} {t : T} (x : EvF prog w H ρ k e t) : Ev prog w H ρ k e t := EvR.mono x fun _ _ _ _ l r => Fh.sh r l
section names
variable {ρ : Rho} {k : Nat} {x : Str} {pos : Pos} {t : T}
theorem loadVar {M : Model} {A : Around} {env : Env} {s : Shared} {v : Value} {E : Value → Shared → Prop} {Q : Value → Shared → Prop} (hk : env.scope.kind = .function) (hv : Var env s.heap x (some v)) (h : Q v s)
    (hd : (x == ("__debug__" : Str)) = false) (hn : (x == ("__classdict__" : Str)) = false) : wpAny M A (eval (.Name x pos) env) Q E s := by
  refine wpAny_Name ?_ hd
  rcases hv with ⟨hl, m, hm, e⟩ | ⟨hl | hl, c, hc, hi⟩
  · exact wpAny_loadName_local hk hl hm e h
  · exact wpAny_loadName_cell hk hl hc hi h
  · exact wpAny_loadName_free hk hl hc hi h hn
theorem ev_name (hm : (x, Slot.fz t) ∈ ρ) (hd : (x == ("__debug__" : Str)) = false := by decide +kernel) (hn : (x == ("__classdict__" : Str)) = false := by decide +kernel) : Ev prog w H ρ k (.Name x pos) t :=
  fun A env X role s _ S => by
    obtain ⟨v, hv, r⟩ := S.vars _ hm
    exact loadVar S.kind hv ⟨Ext.refl s, r⟩ hd hn
theorem evs_name_vw (hm : (x, Slot.vw t) ∈ ρ) (hd : (x == ("__debug__" : Str)) = false := by decide +kernel) (hn : (x == ("__classdict__" : Str)) = false := by decide +kernel) : EvS prog w H ρ k (.Name x pos) t :=
  fun A env X role s _ S => by
    obtain ⟨v, hv, r⟩ := S.vars _ hm
    exact loadVar S.kind hv ⟨Ext.refl s, r.imp id fun ⟨b, e, _, q⟩ => ⟨b, e, q⟩⟩ hd hn
theorem evs_name_ow (hm : (x, Slot.ow t) ∈ ρ) (hd : (x == ("__debug__" : Str)) = false := by decide +kernel) (hn : (x == ("__classdict__" : Str)) = false := by decide +kernel) : EvS prog w H ρ k (.Name x pos) t :=
  fun A env X role s _ S => by
    obtain ⟨a, hv, _, r⟩ := S.vars _ hm
    exact loadVar S.kind hv ⟨Ext.refl s, .inr ⟨a, rfl, r⟩⟩ hd hn
end names

section consts
variable {ρ : Rho} {k : Nat} {kd : Nat} {pos : Pos}
theorem ev_cint {i : Int} : Ev prog w H ρ k (.Constant (.int i) kd pos) (.int i) := fun A env X role s _ _ => by
  show wpAny _ _ (mkInt i) _ _ _
  exact wpAny_mkInt ⟨Ext.tok s _, by unfold Sh Rd; exact ⟨_, rfl⟩⟩
theorem ev_cstr {x : Str} (hx : sOk x = true := by decide +kernel) : Ev prog w H ρ k (.Constant (.str x) kd pos) (.str x) := fun A env X role s _ _ => by
  show wpAny _ _ (mkText x) _ _ _
  exact wpAny_mkText ⟨Ext.tok s _, by unfold Sh Rd; exact ⟨_, rfl, hx⟩⟩
theorem ev_cnone : Ev prog w H ρ k (.Constant .none kd pos) .none := fun A env X role s _ _ => by
  show wpAny _ _ (pure Value.none) _ _ _
  exact wpAny_pure ⟨Ext.refl s, by unfold Sh Rd; rfl⟩
end consts

theorem ev_two {R R₁ R₂ : Xs → Heap → Heap → Value → Prop} {ρ : Rho} {k : Nat} {l r e : Expr} {f : Value → Value → Sem Value}
    (hl : EvR prog w H R₁ ρ k l) (hr : EvR prog w H R₂ ρ k r)
    (he : ∀ (A : Around) (env : Env) (Q : Value → Shared → Prop) (s : Shared), wpAny (model prog w) A (eval l env) (fun a s₁ => wpAny (model prog w) A (eval r env) (fun b s₂ => wpAny (model prog w) A (f a b) Q nil s₂) nil s₁) nil s → wpAny (model prog w) A (eval e env) Q nil s)
    (hf : ∀ (A : Around) (X : Xs) (s₀ s₁ s : Shared) (a b : Value), Rm k A → (∀ a, X a → ∃ o, s₀.heap.get? a = some o) → Ext s₀ s₁ → Ext s₁ s → R₁ X s₀.heap s₁.heap a → R₂ X s₁.heap s.heap b → wpAny (model prog w) A (f a b) (fun v s' => Ext s s' ∧ R X s₀.heap s'.heap v) nil s) :
    EvR prog w H R ρ k e := fun A env X role s hr' S => by
  refine he A env _ s (wpAny_mono (hl A env X role s hr' S) (fun a s₁ h₁ => ?_) fun _ _ q => q)
  refine wpAny_mono (hr A env X role s₁ hr' (S.keep h₁.1.keep)) (fun b s₂ h₂ => ?_) fun _ _ q => q
  exact wpAny_mono (hf A X s s₁ s₂ a b hr' S.live h₁.1 h₂.1 h₁.2 h₂.2) (fun v s' h => ⟨(h₁.1.trans h₂.1).trans h.1, h.2⟩) fun _ _ q => q
section
variable {ρ : Rho} {k : Nat} {l r : Expr} {pos : Pos} {a b : Int}
theorem rd_int {X : Xs} {h : Heap} {i : Int} {t : Tok} : Rd prog w X h (.int i) (.int i t) := by unfold Rd; exact ⟨t, rfl⟩
theorem rd_str {X : Xs} {h : Heap} {x : Str} {t : Tok} (hx : sOk x = true) : Rd prog w X h (.str x) (.str x t) := by unfold Rd; exact ⟨t, rfl, hx⟩
theorem rd_bool {X : Xs} {h : Heap} {b : Bool} : Rd prog w X h (.bool b) (.bool b) := by unfold Rd; rfl
theorem rd_int_iff {X : Xs} {h : Heap} {i : Int} {v : Value} : Rd prog w X h (.int i) v ↔ ∃ t, v = .int i t := by unfold Rd; rfl
theorem rd_str_iff {X : Xs} {h : Heap} {x : Str} {v : Value} : Rd prog w X h (.str x) v ↔ ∃ t, v = .str x t ∧ sOk x = true := by unfold Rd; rfl
theorem rd_bool_iff {X : Xs} {h : Heap} {b : Bool} {v : Value} : Rd prog w X h (.bool b) v ↔ v = .bool b := by unfold Rd; rfl
theorem rd_none_iff {X : Xs} {h : Heap} {v : Value} : Rd prog w X h .none v ↔ v = .none := by unfold Rd; rfl
theorem ev_int2 {op : Operator} {c : Int} (hl : Ev prog w H ρ k l (.int a)) (hr : Ev prog w H ρ k r (.int b))
    (h : ∀ (A : Around) (s : Shared) (t u : Tok) (Q : Value → Shared → Prop), Q (.int c s.toks) { s with toks := s.toks + 1 } → wpAny (model prog w) A (binaryOp op (.int a t) (.int b u)) Q nil s) :
    Ev prog w H ρ k (.BinOp l op r pos) (.int c) :=
  ev_two hl hr (fun _ _ _ _ h => wpAny_BinOp h) fun A X s₀ s₁ s va vb _ _ _ _ ha hb => by
    obtain ⟨t, rfl⟩ := rd_int_iff.mp ha
    obtain ⟨u, rfl⟩ := rd_int_iff.mp hb
    exact h A s t u _ ⟨Ext.tok s _, rd_int⟩
theorem ev_add (hl : Ev prog w H ρ k l (.int a)) (hr : Ev prog w H ρ k r (.int b)) : Ev prog w H ρ k (.BinOp l .Add r pos) (.int (a + b)) := ev_int2 hl hr fun _ _ _ _ _ h => wpAny_add_int h
theorem ev_sub (hl : Ev prog w H ρ k l (.int a)) (hr : Ev prog w H ρ k r (.int b)) : Ev prog w H ρ k (.BinOp l .Sub r pos) (.int (a - b)) := ev_int2 hl hr fun _ _ _ _ _ h => sub_int h
theorem mulOk_small {a b : Int} (h : a.natAbs < 2 ^ 64 ∨ b.natAbs < 2 ^ 64) : IntMulOk a b := by
  have key : ∀ {c : Int}, c.natAbs < 2 ^ 64 → Builtin.Int.intBits c ≤ 64 := fun {c} hc => by
    unfold Builtin.Int.intBits
    split
    · omega
    · rename_i h0
      have h1 : c.natAbs ≠ 0 := fun q => h0 (by simpa using q)
      have := (Nat.log2_lt h1).mpr hc
      omega
  exact h.elim (fun h => .of_left (key h)) fun h => .of_right (key h)
theorem ev_mul (hl : Ev prog w H ρ k l (.int a)) (hr : Ev prog w H ρ k r (.int b)) (hm : a.natAbs < 2 ^ 64 ∨ b.natAbs < 2 ^ 64) : Ev prog w H ρ k (.BinOp l .Mult r pos) (.int (a * b)) := ev_int2 hl hr fun _ _ _ _ _ h => mul_int h (mulOk_small hm)
theorem noPy {a b : Int} (hb : 0 < b ∧ b < 2 ^ 64) : Builtin.divisionGoesByPylong a b = false := PyProof.noPylong_of_log2 (by
  have h1 : b.natAbs ≠ 0 := by omega
  have : b.natAbs.log2 < 64 := (Nat.log2_lt h1).mpr (by omega)
  omega)
theorem ev_div (hl : Ev prog w H ρ k l (.int a)) (hr : Ev prog w H ρ k r (.int b)) (hb : 0 < b ∧ b < 2 ^ 64) : Ev prog w H ρ k (.BinOp l .FloorDiv r pos) (.int (a / b)) := by
  rw [← Int.fdiv_eq_ediv_of_nonneg a (Int.le_of_lt hb.1)]
  exact ev_int2 hl hr fun _ _ _ _ _ h => floordiv_int (by omega) h (.inl (noPy hb))
theorem ev_mod (hl : Ev prog w H ρ k l (.int a)) (hr : Ev prog w H ρ k r (.int b)) (hb : 0 < b ∧ b < 2 ^ 64) : Ev prog w H ρ k (.BinOp l .Mod r pos) (.int (a % b)) := by
  rw [← Int.fmod_eq_emod_of_nonneg a (Int.le_of_lt hb.1)]
  exact ev_int2 hl hr fun _ _ _ _ _ h => mod_int' (by omega) h
end
end Mine

end
section
namespace Mine
open PySem PyProof.Rows
variable {prog : Program} {w : World} {H : Heap}

theorem Ns_unique {h : Heap} {a : Addr} {m m' : Str → Option Value} (x : h.Ns a m) (y : h.Ns a m') : m = m' := by
  obtain ⟨o, es, ep, ho, hd, _, hf⟩ := x
  obtain ⟨o', es', ep', ho', hd', _, hf'⟩ := y
  rw [ho] at ho'; cases ho'
  rw [hd] at hd'; cases hd'
  funext n
  rw [← hf, ← hf']
def Xof (X₀ : Xs) (role : Addr → Option Role) : Xs := fun a => X₀ a ∨ role a ≠ none
section
variable (prog : Program) (w : World) (H : Heap)
structure Fs (X₀ : Xs) (h₀ : Heap) (role : Addr → Option Role) (env : Env) (ρ : Rho) (h : Heap) : Prop where
  st : St prog w H (Xof X₀ role) role env ρ h
  keep : Keep h₀ h
  top0 : Keep H h₀
  x0 : ∀ a, X₀ a → role a = none
  fresh : ∀ a, role a ≠ none → h₀.get? a = none
  loc : role env.locals = some .loc
  cel : ∀ x c, env.cells.lookup x = some c → role c = some (.cell x)
  ns : ∃ m, h.Ns env.locals m
def SlotOk (X : Xs) (role : Addr → Option Role) (h : Heap) (x : Str) (v : Value) : Slot → Prop
  | .un => True
  | .fz t => Rd prog w X h t v
  | .vw t => Rd prog w X h t v ∨ ∃ a, v = .ref a ∧ role a = none ∧ At prog w X h a t
  | .ow t => ∃ a, v = .ref a ∧ role a = some (.own x) ∧ At prog w X h a t
  | .gl => False
  | .ce _ => False
end
def Slot.isVar : Slot → Bool
  | .gl => false
  | .ce _ => false
  | _ => true
inductive Put (x : Str) (sl : Slot) : Rho → Rho → Prop
  | here {old : Slot} {r : Rho} (h : old.isVar = true) : Put x sl ((x, old) :: r) ((x, sl) :: r)
  | there {p : Str × Slot} {r r' : Rho} : Put x sl r r' → Put x sl (p :: r) (p :: r')
theorem Put.names {x : Str} {sl : Slot} {ρ ρ' : Rho} (p : Put x sl ρ ρ') : ρ'.map (·.1) = ρ.map (·.1) := by
  induction p with
  | here => rfl
  | there _ ih => rw [List.map_cons, List.map_cons, ih]
theorem Put.old {x : Str} {sl : Slot} {ρ ρ' : Rho} (p : Put x sl ρ ρ') : ∃ o : Slot, o.isVar = true ∧ (x, o) ∈ ρ := by
  induction p with
  | here h => exact ⟨_, h, List.mem_cons_self⟩
  | there _ ih => obtain ⟨o, h, m⟩ := ih; exact ⟨o, h, List.mem_cons_of_mem _ m⟩
theorem Put.mem {x : Str} {sl : Slot} {ρ ρ' : Rho} (p : Put x sl ρ ρ') (hn : (ρ.map (·.1)).Nodup) : ∀ q ∈ ρ', q = (x, sl) ∨ (q ∈ ρ ∧ q.1 ≠ x) := by
  induction p with
  | @here old r h =>
    intro q hq
    rw [List.map_cons, List.nodup_cons] at hn
    rcases List.mem_cons.mp hq with rfl | hq
    · exact .inl rfl
    · exact .inr ⟨List.mem_cons_of_mem _ hq, fun e => hn.1 (e ▸ List.mem_map_of_mem (f := (·.1)) hq)⟩
  | @there p' r r' hp ih =>
    intro q hq
    rw [List.map_cons, List.nodup_cons] at hn
    rcases List.mem_cons.mp hq with rfl | hq
    · obtain ⟨o, _, ho⟩ := hp.old
      exact .inr ⟨List.mem_cons_self, fun e => hn.1 (e ▸ List.mem_map_of_mem (f := (·.1)) ho)⟩
    · exact (ih hn.2 q hq).imp id fun ⟨a, b⟩ => ⟨List.mem_cons_of_mem _ a, b⟩
theorem Held.var {X : Xs} {role : Addr → Option Role} {env : Env} {h : Heap} {x : Str} : ∀ {sl : Slot}, sl.isVar = true → Held prog w X role env h x sl → ∃ ov, Var env h x ov
  | .un, _, v => v
  | .fz _, _, ⟨v, a, _⟩ => ⟨_, a⟩
  | .vw _, _, ⟨v, a, _⟩ => ⟨_, a⟩
  | .ow _, _, ⟨_, a, _⟩ => ⟨_, a⟩
theorem kept_same {X : Xs} {h h' : Heap} {a : Addr} (hs : Heap.SameBut a h h') (hX : X a) : Kept X h h' := fun b o e q => (hs.2 b fun z => q (z ▸ hX)).trans e
theorem Held.other {X : Xs} {role : Addr → Option Role} {env : Env} {h h' : Heap} {y : Str} (hk : Kept X h h') (hv : ∀ ov, Var env h y ov → Var env h' y ov)
    (ha : ∀ b o, h.get? b = some o → (role b = some (.own y) ∨ role b = none) → h'.get? b = some o) :
    ∀ {sl : Slot}, Held prog w X role env h y sl → Held prog w X role env h' y sl
  | .un, ⟨ov, v⟩ => ⟨ov, hv _ v⟩
  | .fz _, ⟨v, q, r⟩ => ⟨v, hv _ q, r.step hk fun _ q => .inl q⟩
  | .vw _, ⟨v, q, r⟩ => ⟨v, hv _ q, r.imp (fun r => r.step hk fun _ q => .inl q) fun ⟨b, e, n, r⟩ => ⟨b, e, n, At.step hk (fun _ q => .inl q) (fun o' e' => ha b o' e' (.inr n)) r⟩⟩
  | .ow _, ⟨b, q, o, r⟩ => ⟨b, hv _ q, o, At.step hk (fun _ q => .inl q) (fun o' e => ha b o' e (.inl o)) r⟩
  | .gl, e => e
  | .ce _, e => e
theorem SlotOk.step {X : Xs} {role : Addr → Option Role} {h h' : Heap} {x : Str} {v : Value} (hk : Kept X h h')
    (ha : ∀ b o, h.get? b = some o → (role b = some (.own x) ∨ role b = none) → h'.get? b = some o) : ∀ {sl : Slot}, SlotOk prog w X role h x v sl → SlotOk prog w X role h' x v sl
  | .un, _ => trivial
  | .fz _, r => Rd.step hk (fun _ q => .inl q) _ r
  | .vw _, r => r.imp (fun r => r.step hk fun _ q => .inl q) fun ⟨b, e, n, r⟩ => ⟨b, e, n, At.step hk (fun _ q => .inl q) (fun o' e' => ha b o' e' (.inr n)) r⟩
  | .ow _, ⟨b, e, o, r⟩ => ⟨b, e, o, At.step hk (fun _ q => .inl q) (fun o' e => ha b o' e (.inl o)) r⟩
theorem SlotOk.held {X : Xs} {role : Addr → Option Role} {env : Env} {h : Heap} {x : Str} {v : Value} (hv : Var env h x (some v)) : ∀ {sl : Slot}, SlotOk prog w X role h x v sl → Held prog w X role env h x sl
  | .un, _ => ⟨_, hv⟩
  | .fz _, r => ⟨v, hv, r⟩
  | .vw _, r => ⟨v, hv, r⟩
  | .ow _, ⟨b, e, o, r⟩ => ⟨b, e ▸ hv, o, r⟩
def Chg (s s' : Shared) : Prop := ∃ h' tk, s' = { s with heap := h', toks := tk }
theorem Chg.refl (s : Shared) : Chg s s := ⟨_, _, rfl⟩
theorem Chg.trans {a b c : Shared} (x : Chg a b) (y : Chg b c) : Chg a c := by
  obtain ⟨h, t, rfl⟩ := x; obtain ⟨h', t', rfl⟩ := y; exact ⟨h', t', rfl⟩
theorem Ext.chg {s s' : Shared} (x : Ext s s') : Chg s s' := let ⟨h, t, e, _⟩ := x; ⟨h, t, e⟩
theorem Fs.store {X₀ : Xs} {h₀ h h' : Heap} {role : Addr → Option Role} {env : Env} {ρ ρ' : Rho} {x : Str} {v : Value} {sl : Slot} {a : Addr} (F : Fs prog w H X₀ h₀ role env ρ h) (hp : Put x sl ρ ρ')
    (hs : Heap.SameBut a h h') (hr : role a = some .loc ∨ role a = some (.cell x)) (hl : ∃ o, h'.get? a = some o)
    (hv : Var env h' x (some v)) (ho : ∀ y ov, y ≠ x → Var env h y ov → Var env h' y ov) (hns : ∃ m, h'.Ns env.locals m) (hsl : SlotOk prog w (Xof X₀ role) role h x v sl) : Fs prog w H X₀ h₀ role env ρ' h' := by
  have hra : role a ≠ none := by rcases hr with e | e <;> rw [e] <;> simp
  have hX : Xof X₀ role a := .inr hra
  have hk : Kept (Xof X₀ role) h h' := kept_same hs hX
  have h0a : ∀ b o, h₀.get? b = some o → b ≠ a := fun b o e q => by subst q; rw [F.fresh _ hra] at e; cases e
  have hkeep : Keep h₀ h' := fun b o e => (hs.2 b (h0a b o e)).trans (F.keep b o e)
  have hown : ∀ y b o, h.get? b = some o → (role b = some (.own y) ∨ role b = none) → h'.get? b = some o := fun y b o e q => by
    refine (hs.2 b fun hb => ?_).trans e
    subst hb
    rcases hr with r | r <;> rcases q with q | q <;> rw [r] at q <;> simp at q
  refine ⟨⟨F.st.kind, F.st.glo, F.st.blt, F.top0.trans hkeep, fun b q => ?_, F.st.rx, hp.names ▸ F.st.nodup, fun p hm => ?_⟩, hkeep, F.top0, F.x0, F.fresh, F.loc, F.cel, hns⟩
  · by_cases hb : b = a
    · subst hb; exact hl
    · obtain ⟨o, e⟩ := F.st.live b q; exact ⟨o, (hs.2 b hb).trans e⟩
  · rcases hp.mem F.st.nodup p hm with rfl | ⟨hm, hne⟩
    · exact (hsl.step hk (hown _)).held hv
    · exact (F.st.vars p hm).other hk (fun ov => ho p.1 ov hne) (hown _)
theorem storeVar {A : Around} {X₀ : Xs} {h₀ : Heap} {role : Addr → Option Role} {env : Env} {ρ ρ' : Rho} {x : Str} {v : Value} {sl : Slot} {s : Shared} {E : Value → Shared → Prop} {Q : Unit → Shared → Prop}
    (F : Fs prog w H X₀ h₀ role env ρ s.heap) (hp : Put x sl ρ ρ') (hsl : SlotOk prog w (Xof X₀ role) role s.heap x v sl)
    (h : ∀ s', Chg s s' → (∀ a o, s.heap.get? a = some o → ¬ Wr (role a) → s'.heap.get? a = some o) → Fs prog w H X₀ h₀ role env ρ' s'.heap → Q () s') : wpAny (model prog w) A (storeName env x v) Q E s := by
  obtain ⟨old, hne, hm⟩ := hp.old
  obtain ⟨ov, hv⟩ := (F.st.vars _ hm).var hne
  have hloc : role env.locals = some .loc := F.loc
  have cellRole : ∀ {y c}, env.cells.lookup y = some c → c ≠ env.locals := fun {y c} e q => by
    have := F.cel y c e; rw [q, hloc] at this; simp at this
  rcases hv with ⟨hl, m, hm', e⟩ | ⟨hl, c, hc, hi⟩
  · refine wpAny_storeName_local hl hm' (fun h' hn' hs' => h _ ⟨h', _, rfl⟩ (fun b o e q => (hs'.2 b fun z => by rw [z, hloc] at q; exact q trivial).trans e) ?_) (by rw [F.st.kind]; rfl)
    refine F.store hp hs' (.inl hloc) ?_ (.inl ⟨hl, _, hn', if_pos rfl⟩) (fun y ov hne hv => ?_) ⟨_, hn'⟩ hsl
    · obtain ⟨o', _, _, ho', hd', _⟩ := hn'; exact ⟨o', ho'⟩
    · rcases hv with ⟨hl', m', hm'', e'⟩ | ⟨hl', c, hc, hi⟩
      · refine .inl ⟨hl', _, hn', ?_⟩
        rw [if_neg hne, Ns_unique hm' hm'']; exact e'
      · exact .inr ⟨hl', c, hc, hi.sameBut hs' (cellRole hc)⟩
  · have hcr := F.cel x c hc
    have fin : ∀ h', h'.IsCell c (some v) → Heap.SameBut c s.heap h' → Fs prog w H X₀ h₀ role env ρ' h' := fun h' hi' hs' => by
      have hlc : env.locals ≠ c := fun q => cellRole hc q.symm
      refine F.store hp hs' (.inr hcr) (let ⟨o, e, hd'⟩ := hi'; ⟨o, e⟩) (.inr ⟨hl, c, hc, hi'⟩) (fun y ov hne hv => ?_) (let ⟨m, hm⟩ := F.ns; ⟨m, hm.sameBut hs' hlc⟩) hsl
      · rcases hv with ⟨hl', m', hm'', e'⟩ | ⟨hl', c', hc', hi''⟩
        · exact .inl ⟨hl', _, hm''.sameBut hs' hlc, e'⟩
        · refine .inr ⟨hl', c', hc', hi''.sameBut hs' fun q => ?_⟩
          have := F.cel y c' hc'
          rw [q, hcr] at this
          exact hne (by simpa using this.symm)
    rcases hl with hl | hl
    · exact wpAny_storeName_cell F.st.kind hl hc hi fun h' hi' hs' => h _ ⟨h', _, rfl⟩ (fun b o e q => (hs'.2 b fun z => by rw [z, hcr] at q; exact q trivial).trans e) (fin h' hi' hs')
    · unfold storeName
      simp only [hl, F.st.kind]
      exact wpAny_bind (wpAny_cellOf hc (wpAny_cellSet hi fun h' hi' hs' => h _ ⟨h', _, rfl⟩ (fun b o e q => (hs'.2 b fun z => by rw [z, hcr] at q; exact q trivial).trans e) (fin h' hi' hs')))
end Mine

end
section
namespace Mine
open PySem PyProof.Rows
variable {prog : Program} {w : World} {H : Heap}

inductive Out where
  | next (ρ : Rho)
  | ret (t : T)
  | retF (t : T)
section
variable (prog : Program) (w : World) (H : Heap)
def Kp (role : Addr → Option Role) (s s' : Shared) : Prop := Chg s s' ∧ ∀ a o, s.heap.get? a = some o → ¬ Wr (role a) → s'.heap.get? a = some o
structure RoleLe (role : Addr → Option Role) (h : Heap) (role' : Addr → Option Role) : Prop where
  ne : ∀ a, role' a ≠ none → role a ≠ none ∨ h.get? a = none
  wr : ∀ a, Wr (role' a) → Wr (role a) ∨ h.get? a = none
  hid : ∀ a, role a = some .hid → role' a = some .hid
def Post (X₀ : Xs) (h₀ : Heap) (role : Addr → Option Role) (h : Heap) (env : Env) : Out → Flow → Shared → Prop
  | .next ρ, fl, s' => fl = .next ∧ ∃ role', RoleLe role h role' ∧ Fs prog w H X₀ h₀ role' env ρ s'.heap
  | .ret t, fl, s' => ∃ v, fl = .ret v ∧ Keep h₀ s'.heap ∧ Rd prog w X₀ s'.heap t v
  | .retF t, fl, s' => ∃ a, fl = .ret (.ref a) ∧ Keep h₀ s'.heap ∧ h₀.get? a = none ∧ At prog w (fun b => X₀ b ∨ b = a) s'.heap a t
def Run1 (ρ : Rho) (k : Nat) (st : Stmt) (Q : Out → Prop) : Prop :=
  ∀ (A : Around) (env : Env) (X₀ : Xs) (h₀ : Heap) (role : Addr → Option Role) (s : Shared), Rm k A → Fs prog w H X₀ h₀ role env ρ s.heap →
    wpAny (model prog w) A (exec st env) (fun fl s' => Kp role s s' ∧ ∃ o, Q o ∧ Post prog w H X₀ h₀ role s.heap env o fl s') nil s
def Run (ρ : Rho) (k : Nat) (ss : List Stmt) (Q : Out → Prop) : Prop :=
  ∀ (A : Around) (env : Env) (X₀ : Xs) (h₀ : Heap) (role : Addr → Option Role) (s : Shared), Rm k A → Fs prog w H X₀ h₀ role env ρ s.heap →
    wpAny (model prog w) A (execs ss env) (fun fl s' => Kp role s s' ∧ ∃ o, Q o ∧ Post prog w H X₀ h₀ role s.heap env o fl s') nil s
def Then (k : Nat) (rest : List Stmt) (Q : Out → Prop) : Out → Prop
  | .next ρ => Run prog w H ρ k rest Q
  | o => Q o
end

theorem RoleLe.refl (role : Addr → Option Role) (h : Heap) : RoleLe role h role := ⟨fun _ q => .inl q, fun _ q => .inl q, fun _ q => q⟩
theorem wr_ne {r : Option Role} (h : Wr r) : r ≠ none := fun e => by rw [e] at h; exact h
theorem RoleLe.trans {r1 r2 r3 : Addr → Option Role} {s s' : Shared} (a : RoleLe r1 s.heap r2) (k : Kp r1 s s') (b : RoleLe r2 s'.heap r3) : RoleLe r1 s.heap r3 where
  ne := fun x q => by
    by_cases e : r1 x = none
    · rcases b.ne x q with q | q
      · exact a.ne x q
      · refine .inr ?_
        cases z : s.heap.get? x with
        | none => rfl
        | some o => rw [k.2 x o z (by rw [e]; exact id)] at q; cases q
    · exact .inl e
  wr := fun x q => by
    by_cases e : Wr (r1 x)
    · exact .inl e
    · rcases b.wr x q with q | q
      · exact a.wr x q
      · refine .inr ?_
        cases z : s.heap.get? x with
        | none => rfl
        | some o => rw [k.2 x o z e] at q; cases q
  hid := fun x q => b.hid x (a.hid x q)
theorem Kp.refl (role : Addr → Option Role) (s : Shared) : Kp role s s := ⟨Chg.refl s, fun _ _ e _ => e⟩
theorem Kp.trans {r1 r2 : Addr → Option Role} {a b c : Shared} (x : Kp r1 a b) (le : RoleLe r1 a.heap r2) (y : Kp r2 b c) : Kp r1 a c :=
  ⟨x.1.trans y.1, fun i o e n => y.2 i o (x.2 i o e n) fun q => (le.wr i q).elim n fun z => by rw [e] at z; cases z⟩
theorem Ext.kp {role : Addr → Option Role} {s s' : Shared} (x : Ext s s') : Kp role s s' := ⟨x.chg, fun a o e _ => x.keep a o e⟩
theorem Ext.thenKp {role : Addr → Option Role} {a b c : Shared} (x : Ext a b) (y : Kp role b c) : Kp role a c := (x.kp (role := role)).trans (RoleLe.refl _ _) y
theorem none_of_keep {h h' : Heap} (k : Keep h h') {a : Addr} (z : h'.get? a = none) : h.get? a = none := by
  cases e : h.get? a with
  | none => rfl
  | some o => rw [k a o e] at z; cases z
theorem RoleLe.ext {role role' : Addr → Option Role} {h h' : Heap} (k : Keep h h') (x : RoleLe role h' role') : RoleLe role h role' :=
  ⟨fun a q => (x.ne a q).imp id (none_of_keep k), fun a q => (x.wr a q).imp id (none_of_keep k), x.hid⟩
theorem Post.ext {X₀ : Xs} {h₀ h h' : Heap} {role : Addr → Option Role} {env : Env} {fl : Flow} {s : Shared} (k : Keep h h') : ∀ {o : Out}, Post prog w H X₀ h₀ role h' env o fl s → Post prog w H X₀ h₀ role h env o fl s
  | .next _, ⟨e, r, l, F⟩ => ⟨e, r, l.ext k, F⟩
  | .ret _, x => x
  | .retF _, x => x
theorem Run.mono {ρ : Rho} {k : Nat} {ss : List Stmt} {Q Q' : Out → Prop} (r : Run prog w H ρ k ss Q) (h : ∀ o, Q o → Q' o) : Run prog w H ρ k ss Q' :=
  fun A env X₀ h₀ role s hr F => wpAny_mono (r A env X₀ h₀ role s hr F) (fun fl s' ⟨c, o, q, p⟩ => ⟨c, o, h o q, p⟩) fun _ _ q => q
theorem run_nil {ρ : Rho} {k : Nat} {Q : Out → Prop} (h : Q (.next ρ)) : Run prog w H ρ k [] Q :=
  fun A env X₀ h₀ role s hr F => wpAny_execs_nil ⟨Kp.refl _ s, _, h, rfl, role, RoleLe.refl _ _, F⟩
theorem run_seq {ρ : Rho} {k : Nat} {st : Stmt} {rest : List Stmt} {Q : Out → Prop} (h : Run1 prog w H ρ k st (Then prog w H k rest Q)) : Run prog w H ρ k (st :: rest) Q :=
  fun A env X₀ h₀ role s hr F => by
    refine wpAny_execs_cons (wpAny_mono (h A env X₀ h₀ role s hr F) (fun fl s' ⟨c, o, q, p⟩ => ?_) fun _ _ q => q)
    cases o with
    | next ρ' =>
      obtain ⟨rfl, role', le, F'⟩ := p
      refine wpAny_mono (q A env X₀ h₀ role' s' hr F') (fun fl s'' ⟨c', o, q, r⟩ => ⟨c.trans le c', o, q, ?_⟩) fun _ _ q => q
      cases o with
      | next ρ'' => obtain ⟨e, r', le', F''⟩ := r; exact ⟨e, r', le.trans c le', F''⟩
      | ret t => exact r
      | retF t => exact r
    | ret t =>
      obtain ⟨v, rfl, p⟩ := p
      exact ⟨c, _, q, v, rfl, p⟩
    | retF t =>
      obtain ⟨v, rfl, p⟩ := p
      exact ⟨c, _, q, v, rfl, p⟩
theorem then_next {ρ : Rho} {k : Nat} {rest : List Stmt} {Q : Out → Prop} (h : Run prog w H ρ k rest Q) : Then prog w H k rest Q (.next ρ) := h
inductive Weak1 : Slot → Slot → Prop
  | same (s : Slot) : Weak1 s s
  | fz (t : T) : Weak1 (.fz t) .un
  | vw (t : T) : Weak1 (.vw t) .un
  | ow (t : T) : Weak1 (.ow t) .un
  | fzvw (t : T) : Weak1 (.fz t) (.vw t)
inductive Weak : Rho → Rho → Prop
  | nil : Weak [] []
  | cons {x : Str} {a b : Slot} {r r' : Rho} : Weak1 a b → Weak r r' → Weak ((x, a) :: r) ((x, b) :: r')
theorem Weak.names {ρ ρ' : Rho} (h : Weak ρ ρ') : ρ'.map (·.1) = ρ.map (·.1) := by
  induction h with
  | nil => rfl
  | cons _ _ ih => rw [List.map_cons, List.map_cons, ih]
theorem Held.weak {X : Xs} {role : Addr → Option Role} {env : Env} {h : Heap} {x : Str} {a b : Slot} (q : Weak1 a b) (hh : Held prog w X role env h x a) : Held prog w X role env h x b := by
  cases q with
  | same => exact hh
  | fz => obtain ⟨v, a, _⟩ := hh; exact ⟨_, a⟩
  | vw => obtain ⟨v, a, _⟩ := hh; exact ⟨_, a⟩
  | ow => obtain ⟨v, a, _⟩ := hh; exact ⟨_, a⟩
  | fzvw => obtain ⟨v, a, r⟩ := hh; exact ⟨_, a, .inl r⟩
theorem Weak.vars {X : Xs} {role : Addr → Option Role} {env : Env} {h : Heap} {ρ ρ' : Rho} (q : Weak ρ ρ') : (∀ p ∈ ρ, Held prog w X role env h p.1 p.2) → ∀ p ∈ ρ', Held prog w X role env h p.1 p.2 := by
  induction q with
  | nil => intro h; exact h
  | @cons x a b r r' q _ ih =>
    intro h p hp
    rcases List.mem_cons.mp hp with rfl | hp
    · exact Held.weak q (h (x, a) List.mem_cons_self)
    · exact ih (fun p hp => h p (List.mem_cons_of_mem _ hp)) p hp
theorem St.weak {X : Xs} {role : Addr → Option Role} {env : Env} {h : Heap} {ρ ρ' : Rho} (q : Weak ρ ρ') (S : St prog w H X role env ρ h) : St prog w H X role env ρ' h :=
  ⟨S.kind, S.glo, S.blt, S.top, S.live, S.rx, q.names ▸ S.nodup, q.vars S.vars⟩
theorem Fs.weak {X₀ : Xs} {h₀ : Heap} {role : Addr → Option Role} {env : Env} {h : Heap} {ρ ρ' : Rho} (q : Weak ρ ρ') (F : Fs prog w H X₀ h₀ role env ρ h) : Fs prog w H X₀ h₀ role env ρ' h :=
  ⟨F.st.weak q, F.keep, F.top0, F.x0, F.fresh, F.loc, F.cel, F.ns⟩
theorem run_weak {ρ ρ' : Rho} {k : Nat} {ss : List Stmt} {Q : Out → Prop} (q : Weak ρ ρ') (h : Run prog w H ρ' k ss Q) : Run prog w H ρ k ss Q :=
  fun A env X₀ h₀ role s hr F => h A env X₀ h₀ role s hr (F.weak q)
theorem Fs.freeze {X₀ : Xs} {h₀ : Heap} {role : Addr → Option Role} {env : Env} {h : Heap} {ρ ρ' : Rho} {x : Str} {t : T} (F : Fs prog w H X₀ h₀ role env ρ h) (hm : (x, Slot.ow t) ∈ ρ) (hp : Put x (.fz t) ρ ρ') :
    ∃ role', (∀ b, role' b = role b ∨ (role' b = none ∧ role b = some (.own x))) ∧ Fs prog w H X₀ h₀ role' env ρ' h := by
  obtain ⟨a, hv, hra, hat⟩ := F.st.vars _ hm
  let role' : Addr → Option Role := fun b => if b = a then none else role b
  have hsub : ∀ b, role' b ≠ none → role b ≠ none := fun b q e => q (by show (if b = a then none else role b) = none; split <;> simp [e])
  have hXs : ∀ b, Xof X₀ role' b → Xof X₀ role b := fun b q => q.imp id (hsub b)
  have hX0 : ¬ X₀ a := fun q => by have := F.x0 a q; rw [hra] at this; cases this
  have hXa : ¬ Xof X₀ role' a := fun q => q.elim hX0 fun q => q (by show (if a = a then none else role a) = none; simp)
  have hrole : ∀ b r, r ≠ Role.own x → role b = some r → role' b = some r := fun b r hr e => by
    show (if b = a then none else role b) = some r
    split
    · rename_i q; subst q; rw [hra] at e; cases e; exact absurd rfl hr
    · exact e
  have hor : ∀ b, role' b = role b ∨ (role' b = none ∧ role b = some (.own x)) := fun b => by
    show (if b = a then none else role b) = role b ∨ ((if b = a then none else role b) = none ∧ role b = some (.own x))
    by_cases e : b = a
    · rw [if_pos e]; exact .inr ⟨rfl, e ▸ hra⟩
    · rw [if_neg e]; exact .inl rfl
  refine ⟨role', hor, ⟨F.st.kind, F.st.glo, F.st.blt, F.st.top, fun b q => F.st.live b (hXs b q), fun b q => .inr q, hp.names ▸ F.st.nodup, fun p hm' => ?_⟩, F.keep, F.top0, fun b q => by
    cases z : role' b with
    | none => rfl
    | some r => exact absurd (F.x0 b q) (hsub b (by rw [z]; simp)), fun b q => F.fresh b (hsub b q), hrole _ _ (by simp) F.loc, fun y c e => hrole _ _ (by simp) (F.cel y c e), F.ns⟩
  rcases hp.mem F.st.nodup p hm' with rfl | ⟨hm', hne⟩
  · exact ⟨_, hv, (hat.less hXs).rd hXa⟩
  · have := F.st.vars p hm'
    obtain ⟨y, sl⟩ := p
    cases sl with
    | un => exact this
    | fz t => obtain ⟨v, q, r⟩ := this; exact ⟨v, q, r.less hXs⟩
    | vw t =>
      obtain ⟨v, q, r⟩ := this
      refine ⟨v, q, r.imp (·.less hXs) fun ⟨b, e, n, r⟩ => ⟨b, e, ?_, r.less hXs⟩⟩
      show (if b = a then none else role b) = none
      split <;> simp [n]
    | ow t =>
      obtain ⟨b, q, o, r⟩ := this
      exact ⟨b, q, hrole _ _ (fun e => hne (by simpa using e)) o, r.less hXs⟩
    | gl => exact this
    | ce n => exact this
theorem run_freeze {ρ ρ' : Rho} {k : Nat} {ss : List Stmt} {Q : Out → Prop} {x : Str} {t : T} (hm : (x, Slot.ow t) ∈ ρ) (hp : Put x (.fz t) ρ ρ') (h : Run prog w H ρ' k ss Q) : Run prog w H ρ k ss Q :=
  fun A env X₀ h₀ role s hr F => by
    obtain ⟨role', hs, F'⟩ := F.freeze hm hp
    have hw : ∀ a, Wr (role' a) → Wr (role a) := fun a q => (hs a).elim (fun e => e ▸ q) fun e => by rw [e.2]; trivial
    have hn : ∀ a, role' a ≠ none → role a ≠ none := fun a q => (hs a).elim (fun e => e ▸ q) fun e => absurd e.1 q
    refine wpAny_mono (h A env X₀ h₀ role' s hr F') (fun fl s' ⟨c, o, q, p⟩ => ⟨⟨c.1, fun a o e n => c.2 a o e fun z => n (hw a z)⟩, o, q, ?_⟩) fun _ _ q => q
    cases o with
    | next ρ'' =>
      obtain ⟨e, r', le', F''⟩ := p
      exact ⟨e, r', ⟨fun a q => (le'.ne a q).imp (hn a) id, fun a q => (le'.wr a q).imp (hw a) id, fun a q => le'.hid a ((hs a).elim (fun e => e ▸ q) fun e => by rw [e.2] at q; cases q)⟩, F''⟩
    | ret t => exact p
    | retF t => exact p
theorem Fs.ext {X₀ : Xs} {h₀ : Heap} {role : Addr → Option Role} {env : Env} {h h' : Heap} {ρ : Rho} (F : Fs prog w H X₀ h₀ role env ρ h) (k : Keep h h') : Fs prog w H X₀ h₀ role env ρ h' :=
  ⟨F.st.keep k, F.keep.trans k, F.top0, F.x0, F.fresh, F.loc, F.cel, let ⟨m, e⟩ := F.ns; ⟨m, e.keeps k⟩⟩
theorem Fs.grow {X₀ : Xs} {h₀ : Heap} {role : Addr → Option Role} {env : Env} {h h' : Heap} {ρ : Rho} {a : Addr} (x : Str) (F : Fs prog w H X₀ h₀ role env ρ h) (k : Keep h h') (ha : h.get? a = none) (hl : ∃ o, h'.get? a = some o) :
    Fs prog w H X₀ h₀ (fun b => if b = a then some (.own x) else role b) env ρ h' := by
  have hra : role a = none := by
    cases e : role a with
    | none => rfl
    | some r => obtain ⟨o, q⟩ := F.st.live a (.inr (by rw [e]; simp)); rw [ha] at q; cases q
  have hx : ∀ b, Xof X₀ (fun b => if b = a then some (.own x) else role b) b → Xof X₀ role b ∨ h.get? b = none := fun b q => by
    by_cases e : b = a
    · subst e; exact .inr ha
    · refine .inl (q.imp id fun q => ?_)
      simpa [e] using q
  have hlive : ∀ {b o}, h.get? b = some o → b ≠ a := fun {b o} e q => by subst q; rw [ha] at e; cases e
  have hmono : ∀ b r, role b = some r → (if b = a then some (Role.own x) else role b) = some r := fun b r e => by
    have : b ≠ a := fun q => by subst q; rw [hra] at e; cases e
    rw [if_neg this]; exact e
  refine ⟨⟨F.st.kind, F.st.glo, F.st.blt, F.st.top.trans k, fun b q => ?_, fun b q => .inr q, F.st.nodup, fun p hp => ?_⟩, F.keep.trans k, F.top0, fun b q => ?_, fun b q => ?_, hmono _ _ F.loc, fun y c e => hmono _ _ (F.cel y c e), let ⟨m, e⟩ := F.ns; ⟨m, e.keeps k⟩⟩
  · rcases hx b q with q | q
    · obtain ⟨o, e⟩ := F.st.live b q; exact ⟨o, k b o e⟩
    · by_cases e : b = a
      · subst e; exact hl
      · rcases q' : q with _
        have : Xof X₀ role b := by
          refine (‹Xof X₀ (fun b => if b = a then some (Role.own x) else role b) b›).imp id fun z => ?_
          simpa [e] using z
        obtain ⟨o, e⟩ := F.st.live b this; exact ⟨o, k b o e⟩
  · have := F.st.vars p hp
    obtain ⟨y, sl⟩ := p
    cases sl with
    | un => obtain ⟨ov, v⟩ := this; exact ⟨ov, v.keep k⟩
    | fz t => obtain ⟨v, q, r⟩ := this; exact ⟨v, q.keep k, r.step k.kept hx⟩
    | vw t =>
      obtain ⟨v, q, r⟩ := this
      refine ⟨v, q.keep k, r.imp (fun r => r.step k.kept hx) fun ⟨b, e, n, r⟩ => ⟨b, e, ?_, At.step k.kept hx (fun o => k b o) r⟩⟩
      obtain ⟨o, hb⟩ := r.live
      show (if b = a then some (Role.own x) else role b) = none
      rw [if_neg (hlive hb)]; exact n
    | ow t =>
      obtain ⟨b, q, o, r⟩ := this
      exact ⟨b, q.keep k, hmono _ _ o, At.step k.kept hx (fun o => k b o) r⟩
    | gl => exact this
    | ce n => exact this
  · have : b ≠ a := fun e => by subst e; obtain ⟨o, e⟩ := F.st.live b (.inl q); rw [ha] at e; cases e
    show (if b = a then some (Role.own x) else role b) = none
    rw [if_neg this]; exact F.x0 b q
  · by_cases e : b = a
    · subst e
      cases q' : h₀.get? b with
      | none => rfl
      | some o => rw [F.keep b o q'] at ha; cases ha
    · exact F.fresh b (by simpa [e] using q)
section stmts
variable {ρ ρ' : Rho} {k : Nat} {rest : List Stmt} {Q : Out → Prop} {x : Str} {p p' : Pos} {e : Expr} {t : T}
theorem assign_wp {A : Around} {env : Env} {value : Expr} {Q : Flow → Shared → Prop} {s : Shared} (h : wpAny (model prog w) A (eval value env) (fun v s₁ => wpAny (model prog w) A (storeName env x v) (fun _ => Q .next) nil s₁) nil s)
    (hs : swapsWith value (some (.Name x p')) p.line env = pure false) : wpAny (model prog w) A (exec (.Assign [.Name x p'] value p) env) Q nil s := wpAny_Assign_Name h hs
def plainValue : Expr → Bool
  | .ListComp .. | .SetComp .. | .DictComp .. => false
  | _ => true
theorem swaps_plain {value : Expr} {tg : Option Expr} {n : Nat} {env : Env} (h : plainValue value = true) : swapsWith value tg n env = pure false := by
  cases value <;> first | rfl | simp [plainValue] at h
theorem run_assign (he : Ev prog w H ρ k e t) (hp : Put x (.fz t) ρ ρ') (h : Run prog w H ρ' k rest Q) (hv : plainValue e = true := by with_unfolding_all rfl) : Run prog w H ρ k (.Assign [.Name x p'] e p :: rest) Q :=
  run_seq fun A env X₀ h₀ role s hr F => by
    refine assign_wp (wpAny_mono (he A env _ role s hr F.st) (fun v s₁ h₁ => ?_) fun _ _ q => q) (swaps_plain hv)
    refine storeVar (F.ext h₁.1.keep) hp h₁.2 fun s' c kp F' => ⟨h₁.1.thenKp ⟨c, kp⟩, _, then_next h, rfl, role, RoleLe.refl _ _, F'⟩
theorem run_assignF (he : EvF prog w H ρ k e t) (hp : Put x (.ow t) ρ ρ') (h : Run prog w H ρ' k rest Q) (hv : plainValue e = true := by with_unfolding_all rfl) : Run prog w H ρ k (.Assign [.Name x p'] e p :: rest) Q :=
  run_seq fun A env X₀ h₀ role s hr F => by
    refine assign_wp (wpAny_mono (he A env _ role s hr F.st) (fun v s₁ h₁ => ?_) fun _ _ q => q) (swaps_plain hv)
    obtain ⟨hx, a, rfl, ha, hat⟩ := h₁
    refine storeVar (F.grow x hx.keep ha hat.live) hp ⟨a, rfl, if_pos rfl, hat.less fun b q => ?_⟩ fun s' c kp F' => ⟨⟨hx.chg.trans c, fun b o e n => kp b o (hx.keep b o e) ?_⟩, _, then_next h, rfl, _, ?_, F'⟩
    rotate_left
    · by_cases e' : b = a
      · subst e'; rw [ha] at e; cases e
      · simpa [e'] using n
    · have hl : ∀ b, role b ≠ none → b ≠ a := fun b q e' => by subst e'; obtain ⟨o, e⟩ := F.st.live _ (.inr q); rw [ha] at e; cases e
      refine ⟨fun b q => ?_, fun b q => ?_, fun b q => ?_⟩
      · by_cases e' : b = a
        · subst e'; exact .inr ha
        · exact .inl (by simpa [e'] using q)
      · by_cases e' : b = a
        · subst e'; exact .inr ha
        · exact .inl (by simpa [e'] using q)
      · show (if b = a then some (Role.own x) else role b) = some .hid
        rw [if_neg (hl b (by rw [q]; simp))]; exact q
    by_cases e : b = a
    · exact .inr e
    · exact .inl (q.imp id fun q => by simpa [e] using q)
theorem run_ret (he : Ev prog w H ρ k e t) (h : Q (.ret t)) : Run prog w H ρ k (.Return (some e) p :: rest) Q :=
  run_seq fun A env X₀ h₀ role s hr F => wpAny_Return_some (wpAny_mono (he A env _ role s hr F.st) (fun v s₁ h₁ => ⟨h₁.1.kp, .ret t, h, v, rfl, F.keep.trans h₁.1.keep, Rd.less h₁.2 fun _ q => .inl q⟩) fun _ _ q => q)
theorem run_if {b : Bool} {test : Expr} {body orelse : List Stmt} (ht : Tr prog w H ρ k test b) (h1 : b = true → Run prog w H ρ k body (Then prog w H k rest Q)) (h2 : b = false → Run prog w H ρ k orelse (Then prog w H k rest Q)) :
    Run prog w H ρ k (.If test body orelse p :: rest) Q :=
  run_seq fun A env X₀ h₀ role s hr F => wpAny_If (wpAny_mono (ht A env _ role s hr F.st) (fun c s₁ h₁ => by
    obtain ⟨hx, rfl⟩ := h₁
    cases c with
    | true => exact wpAny_mono (h1 rfl A env X₀ h₀ role s₁ hr (F.ext hx.keep)) (fun fl s' ⟨c, o, q, r⟩ => ⟨hx.thenKp c, o, q, Post.ext hx.keep r⟩) fun _ _ q => q
    | false => exact wpAny_mono (h2 rfl A env X₀ h₀ role s₁ hr (F.ext hx.keep)) (fun fl s' ⟨c, o, q, r⟩ => ⟨hx.thenKp c, o, q, Post.ext hx.keep r⟩) fun _ _ q => q) fun _ _ q => q)
end stmts
end Mine

end
section
namespace Mine
open PySem PyProof.Rows
variable {prog : Program} {w : World} {H : Heap} {mg mb : Str → Option Value}

def rho1 (names : List (Str × NameKind)) (args : List (Str × Slot)) : Rho :=
  names.map fun p => (p.1, match p.2 with | .globalImplicit => .gl | .globalExplicit => .gl | _ => (args.lookup p.1).getD .un)
def markOf (n : Str) : Str := ⟨#[38] ++ n.cps⟩
def marks (names : List (Str × NameKind)) : Rho := (names.filter fun p => p.2 == .cell).map fun p => (markOf p.1, .ce p.1)
def rho0 (names : List (Str × NameKind)) (args : List (Str × Slot)) : Rho := rho1 names args ++ marks names
structure Gl (H : Heap) (mg mb : Str → Option Value) : Prop where
  g : H.Ns mainGlobals mg
  b : H.Ns builtinsNs mb
  nolimit : H.NoLimit
abbrev ArgT := Bool × T
def ArgT.slot : ArgT → Slot
  | (true, t) => .vw t
  | (false, t) => .fz t
section
variable (prog : Program) (w : World)
def ArgOk (X : Xs) (h : Heap) : ArgT → Value → Prop
  | (true, t), v => RdS prog w X h t v
  | (false, t), v => Rd prog w X h t v
def ArgsOk (X : Xs) (h : Heap) : List ArgT → List Value → Prop
  | [], vs => vs = []
  | a :: r, vs => ∃ v r', vs = v :: r' ∧ ArgOk prog w X h a v ∧ ArgsOk X h r r'
variable (H : Heap) (mg : Str → Option Value)
def Calls (f : Str) (k : Nat) (args : List ArgT) (R : Xs → Heap → Heap → Value → Prop) : Prop :=
  ∀ (A : Around) (X : Xs) (s : Shared) (vs : List Value) (a : Addr), Rm k A → mg f = some (.ref a) → Keep H s.heap → (∀ a, X a → ∃ o, s.heap.get? a = some o) → ArgsOk prog w X s.heap args vs →
    wpAny (model prog w) A (call (.ref a) vs []) (fun v s' => Ext s s' ∧ R X s.heap s'.heap v) nil s
def OutIs (R : Xs → Heap → Heap → Value → Prop) : Out → Prop
  | .ret t => ∀ X h h' v, Rd prog w X h' t v → R X h h' v
  | .retF t => ∀ X h h' v, Fh prog w t X h h' v → R X h h' v
  | .next _ => ∀ X h h', R X h h' .none
end
theorem ArgsOk.length {X : Xs} {h : Heap} : ∀ {as : List ArgT} {vs : List Value}, ArgsOk prog w X h as vs → vs.length = as.length
  | [], _, e => by rw [e]; rfl
  | a :: r, _, ⟨v, r', e, x, y⟩ => by rw [e, List.length_cons, List.length_cons, y.length]
theorem bindL_lookup {kd : Str → Option NameKind} {y : Str} (hk : kd y = some .local) : ∀ (binds : List (Str × Value)) (m : Str → Option Value), (binds.map (·.1)).Nodup → bindL kd binds m y = ((binds.lookup y).or (m y))
  | [], m, _ => by simp [bindL]
  | (n, v) :: r, m, hn => by
    rw [List.map_cons, List.nodup_cons] at hn
    unfold bindL
    rw [bindL_lookup hk r _ hn.2, List.lookup_cons]
    by_cases e : y = n
    · subst e
      have : r.lookup y = none := by
        rw [List.lookup_eq_none_iff]
        intro p hp
        simp only [ne_eq, bne_iff_ne]
        intro q; exact hn.1 (q ▸ List.mem_map_of_mem (f := (·.1)) hp)
      simp [this, hk]
    · have : (y == n) = false := beq_eq_false_iff_ne.mpr e
      rw [this]
      by_cases q : kd n = some .local <;> simp [q, e]
theorem bindC_lookup {kd : Str → Option NameKind} {y : Str} (hk : kd y ≠ some .local) : ∀ (binds : List (Str × Value)) (m : Str → Option Value), (binds.map (·.1)).Nodup → bindC kd binds m y = ((binds.lookup y).or (m y))
  | [], m, _ => by simp [bindC]
  | (n, v) :: r, m, hn => by
    rw [List.map_cons, List.nodup_cons] at hn
    unfold bindC
    rw [bindC_lookup hk r _ hn.2, List.lookup_cons]
    by_cases e : y = n
    · subst e
      have : r.lookup y = none := by
        rw [List.lookup_eq_none_iff]
        intro p hp
        simp only [ne_eq, bne_iff_ne]
        intro q; exact hn.1 (q ▸ List.mem_map_of_mem (f := (·.1)) hp)
      simp [this, hk]
    · have : (y == n) = false := beq_eq_false_iff_ne.mpr e
      rw [this]
      by_cases q : kd n = some .local <;> simp [q, e]
theorem lookup_zip_none {α β : Type} {y : Str} : ∀ {ns : List Str} {vs : List α} {us : List β}, vs.length = us.length → (ns.zip vs).lookup y = none → (ns.zip us).lookup y = none
  | [], _, _, _, _ => by simp
  | _ :: _, [], [], _, _ => by simp
  | n :: ns, v' :: vs, u :: us, hl, h => by
    rw [List.zip_cons_cons, List.lookup_cons] at h ⊢
    cases e : y == n with
    | true => rw [e] at h; cases h
    | false => rw [e] at h; exact lookup_zip_none (by simpa using hl) h
theorem lookup_zip_get {α β : Type} {y : Str} : ∀ {ns : List Str} {vs : List α} {us : List β} {v : α}, vs.length = us.length → (ns.zip vs).lookup y = some v → ∃ (i : Nat) (u : β), (ns.zip us).lookup y = some u ∧ vs[i]? = some v ∧ us[i]? = some u
  | [], _, _, _, _, h => by simp at h
  | _ :: _, [], [], _, _, h => by simp at h
  | n :: ns, v' :: vs, u :: us, v, hl, h => by
    rw [List.zip_cons_cons, List.lookup_cons] at h ⊢
    cases e : y == n with
    | true => rw [e] at h; cases h; exact ⟨0, u, rfl, rfl, rfl⟩
    | false =>
      rw [e] at h
      obtain ⟨i, u', a, b, c⟩ := lookup_zip_get (us := us) (by simpa using hl) h
      exact ⟨i + 1, u', a, b, c⟩
theorem ArgsOk.at {X : Xs} {h : Heap} : ∀ {as : List ArgT} {vs : List Value} {i : Nat} {a : ArgT} {v : Value}, ArgsOk prog w X h as vs → as[i]? = some a → vs[i]? = some v → ArgOk prog w X h a v
  | [], _, _, _, _, _, h, _ => by simp at h
  | a :: r, _, i, a', v, ⟨v', r', rfl, x, y⟩, h1, h2 => by
    cases i with
    | zero => simp at h1 h2; subst h1; subst h2; exact x
    | succ i => simp at h1 h2; exact y.at h1 h2
theorem lookup_cells_role : ∀ {cs : List (Str × Addr)}, (cs.Pairwise fun x y => x.2 ≠ y.2) → ∀ {x : Str} {c : Addr}, cs.lookup x = some c → ∀ (d : Addr → Option Role), ((cs.find? fun p => p.2 == c).map fun p => Role.cell p.1).or (d c) = some (.cell x)
  | [], _, _, _, h, _ => by simp at h
  | (n, a) :: r, hp, x, c, h, d => by
    rw [List.pairwise_cons] at hp
    rw [List.lookup_cons] at h
    rw [List.find?_cons]
    cases e : x == n with
    | true => rw [e] at h; cases h; simp [eq_of_beq e]
    | false =>
      rw [e] at h
      have : (a == c) = false := beq_eq_false_iff_ne.mpr fun q => by
        subst q
        exact hp.1 _ (mem_of_lookup h) rfl
      dsimp only
      rw [this]
      exact lookup_cells_role hp.2 h d
theorem nodup_rev {α : Type} {l : List α} (h : l.Nodup) : l.reverse.Nodup := by
  unfold List.Nodup at h ⊢
  rw [List.pairwise_reverse]
  exact h.imp fun a b => a b.symm
theorem Fs.start {X : Xs} {s s₁ : Shared} {fd : FuncData} {a : Addr} {ps : List Str} {as : List ArgT} {vs : List Value} {ρ : Rho}
    (x : InCallC s (callEnvC fd s.heap.objs.size a).locals (bindL (callEnvC fd s.heap.objs.size a).kindOf (ps.zip vs) fun _ => none) (callEnvC fd s.heap.objs.size a).cells (bindC (callEnvC fd s.heap.objs.size a).kindOf (ps.zip vs) fun _ => none) s₁)
    (hX : ∀ a, X a → ∃ o, s.heap.get? a = some o) (hH : Keep H s.heap) (hargs : ArgsOk prog w X s.heap as vs) (hlen : ps.length = as.length) (hps : ps.Nodup)
    (hglob : fd.globals = mainGlobals) (hblt : fd.builtins = builtinsNs) (hk : fd.scope.kind = .function) (hkinds : fd.scope.names.all (fun p => p.2 == .local || p.2 == .cell || p.2 == .globalImplicit) = true)
    (hnd : (fd.scope.names.map (·.1)).Nodup) (hcells : ∀ n, ((cellsFrom n fd.scope.names []).map (·.1)) = ((fd.scope.names.filter fun p => p.2 == .cell).map (·.1)).reverse)
    (hmk : (fd.scope.names.map (·.1) ++ (marks fd.scope.names).map (·.1)).Nodup) (hρ : rho0 fd.scope.names (ps.zip (as.map ArgT.slot)) = ρ) :
    ∃ role, Fs prog w H X s.heap role (callEnvC fd s.heap.objs.size a) ρ s₁.heap := by
  let env := callEnvC fd s.heap.objs.size a
  let role : Addr → Option Role := fun b => ((env.cells.find? fun p => p.2 == b).map fun p => Role.cell p.1).or (if b = env.locals then some .loc else none)
  have hk1 : Keep s.heap s₁.heap := x.toInCall.keep
  have hLn : s.heap.get? env.locals = none := Heap.get?_none_of_le (Nat.le_refl _)
  have habove : ∀ n c, (n, c) ∈ env.cells → env.locals < c := x.above
  have hlive1 : ∀ b, role b ≠ none → (∃ o, s₁.heap.get? b = some o) ∧ s.heap.get? b = none ∧ ∀ o, s₁.heap.get? b = some o → ¬ (o.cls = .type "tuple" ∧ ∃ vs n, o.data = .seq vs n) := fun b q => by
    show _ ∧ _ ∧ _
    cases e : env.cells.find? fun p => p.2 == b with
    | some p =>
      have hp := List.find?_some e
      have hm := List.mem_of_find?_eq_some e
      have hb : p.2 = b := by simpa using hp
      have hl : env.cells.lookup p.1 = some p.2 := by
        refine lookup_of_mem_nodup ?_ hm
        have := hcells (s.heap.objs.size + 1)
        show ((cellsFrom (s.heap.objs.size + 1) fd.scope.names []).map (·.1)).Nodup
        rw [this]
        exact nodup_rev ((List.Sublist.map _ List.filter_sublist).nodup hnd)
      obtain ⟨o, ho, hd⟩ := x.cell _ _ hl
      rw [hb] at ho
      exact ⟨⟨o, ho⟩, Heap.get?_none_of_le (Nat.le_of_lt (hb ▸ habove p.1 p.2 hm)), fun o' e' ⟨_, vs, n, q⟩ => by rw [ho] at e'; cases e'; rw [hd] at q; cases q⟩
    | none =>
      have : role b = if b = env.locals then some .loc else none := by show ((env.cells.find? fun p => p.2 == b).map fun p => Role.cell p.1).or _ = _; rw [e]; rfl
      rw [this] at q
      by_cases hb : b = env.locals
      · subst hb
        obtain ⟨o, _, _, ho, hd, _⟩ := x.toInCall.ns
        exact ⟨⟨o, ho⟩, hLn, fun o' e' ⟨_, vs, n, q⟩ => by rw [ho] at e'; cases e'; rw [hd] at q; cases q⟩
      · rw [if_neg hb] at q; exact absurd rfl q
  have hfree : ∀ b o, s.heap.get? b = some o → role b = none := fun b o e => by
    cases q : role b with
    | none => rfl
    | some r => have := (hlive1 b (by rw [q]; simp)).2.1; rw [e] at this; cases this
  have hXX : ∀ b, Xof X role b → X b ∨ s.heap.get? b = none := fun b q => q.imp id fun q => (hlive1 b q).2.1
  refine ⟨role, ⟨hk, hglob, hblt, hH.trans hk1, fun b q => ?_, fun b q => .inr q, ?_, fun p hp => ?_⟩, hk1, hH, fun b q => let ⟨o, e⟩ := hX b q; hfree b o e, fun b q => (hlive1 b q).2.1, ?_, fun y c e => lookup_cells_role x.apart e (fun b => if b = env.locals then some .loc else none), ⟨_, x.toInCall.ns⟩⟩
  · rcases q with q | q
    · obtain ⟨o, e⟩ := hX b q; exact ⟨o, hk1 b o e⟩
    · exact (hlive1 b q).1
  · rw [← hρ]
    unfold rho0 rho1
    rw [List.map_append, List.map_map]
    exact hmk
  · rw [← hρ] at hp
    rcases List.mem_append.mp hp with hp | hp
    rotate_left
    · obtain ⟨⟨n, kd⟩, hm, rfl⟩ := List.mem_map.mp hp
      obtain ⟨hm, hk'⟩ := List.mem_filter.mp hm
      have hkc : kd = .cell := by simpa using hk'
      subst hkc
      refine ⟨.inl ?_, ?_⟩
      · have : ∀ (l : List (Str × NameKind)), (l.map (·.1)).Nodup → (n, NameKind.cell) ∈ l → l.lookup n = some .cell := by
          intro l
          induction l with
          | nil => intro _ h; cases h
          | cons q r ih =>
            intro hn h
            rw [List.map_cons, List.nodup_cons] at hn
            rw [List.lookup_cons]
            rcases List.mem_cons.mp h with rfl | h
            · simp
            · have : (n == q.1) = false := beq_eq_false_iff_ne.mpr fun e => hn.1 (e ▸ List.mem_map_of_mem (f := (·.1)) h)
              rw [this]; exact ih hn.2 h
        exact this _ hnd hm
      · have hmem : n ∈ (cellsFrom (s.heap.objs.size + 1) fd.scope.names []).map (·.1) := by
          rw [hcells, List.mem_reverse]
          exact List.mem_map.mpr ⟨(n, .cell), List.mem_filter.mpr ⟨hm, rfl⟩, rfl⟩
        obtain ⟨q, hq, rfl⟩ := List.mem_map.mp hmem
        refine ⟨q.2, lookup_of_mem_nodup ?_ hq⟩
        show ((cellsFrom (s.heap.objs.size + 1) fd.scope.names []).map (·.1)).Nodup
        rw [hcells]
        exact nodup_rev ((List.Sublist.map _ List.filter_sublist).nodup hnd)
    obtain ⟨⟨n, kd⟩, hm, rfl⟩ := List.mem_map.mp hp
    have hkd := List.all_eq_true.mp hkinds _ hm
    have hlook : fd.scope.names.lookup n = some kd := by
      have : ∀ (l : List (Str × NameKind)), (l.map (·.1)).Nodup → (n, kd) ∈ l → l.lookup n = some kd := by
        intro l
        induction l with
        | nil => intro _ h; cases h
        | cons q r ih =>
          intro hn h
          rw [List.map_cons, List.nodup_cons] at hn
          rw [List.lookup_cons]
          rcases List.mem_cons.mp h with rfl | h
          · simp
          · have : (n == q.1) = false := beq_eq_false_iff_ne.mpr fun e => hn.1 (e ▸ List.mem_map_of_mem (f := (·.1)) h)
            rw [this]; exact ih hn.2 h
      exact this _ hnd hm
    have hkind : env.kindOf n = some kd := hlook
    have hzn : ((ps.zip vs).map (·.1)).Nodup := by
      rw [List.map_fst_zip (by rw [hargs.length, hlen]; exact Nat.le_refl _)]; exact hps
    -- the variable's value
    have hvar : (kd = .local ∨ kd = .cell) → Var env s₁.heap n ((ps.zip vs).lookup n) := fun q => by
      rcases q with rfl | rfl
      · refine .inl ⟨hkind, _, x.toInCall.ns, ?_⟩
        rw [bindL_lookup hkind _ _ hzn]; simp
      · have hc : ∃ c, env.cells.lookup n = some c := by
          have hmem : n ∈ (cellsFrom (s.heap.objs.size + 1) fd.scope.names []).map (·.1) := by
            rw [hcells, List.mem_reverse]
            exact List.mem_map.mpr ⟨(n, .cell), List.mem_filter.mpr ⟨hm, rfl⟩, rfl⟩
          obtain ⟨q, hq, rfl⟩ := List.mem_map.mp hmem
          refine ⟨q.2, lookup_of_mem_nodup ?_ hq⟩
          show ((cellsFrom (s.heap.objs.size + 1) fd.scope.names []).map (·.1)).Nodup
          rw [hcells]
          exact nodup_rev ((List.Sublist.map _ List.filter_sublist).nodup hnd)
        obtain ⟨c, hc⟩ := hc
        refine .inr ⟨.inl hkind, c, hc, ?_⟩
        have := x.cell n c hc
        rw [bindC_lookup (by show (callEnvC fd s.heap.objs.size a).kindOf n ≠ _; rw [show (callEnvC fd s.heap.objs.size a).kindOf n = _ from hkind]; simp) _ _ hzn] at this
        simpa using this
    have main : (kd = .local ∨ kd = .cell) → Held prog w (Xof X role) role env s₁.heap n (((ps.zip (as.map ArgT.slot)).lookup n).getD .un) := fun q => by
      have hv := hvar q
      cases e : (ps.zip vs).lookup n with
      | none =>
        have := lookup_zip_none (us := as.map ArgT.slot) (by rw [List.length_map, hargs.length]) e
        rw [this]; exact ⟨_, hv⟩
      | some v =>
        obtain ⟨i, u, h1, h2, h3⟩ := lookup_zip_get (us := as.map ArgT.slot) (by rw [List.length_map, hargs.length]) e
        rw [h1]
        rw [e] at hv
        rw [List.getElem?_map] at h3
        obtain ⟨ar, har, rfl⟩ := Option.map_eq_some_iff.mp h3
        have hok := hargs.at har h2
        obtain ⟨b, t⟩ := ar
        cases b with
        | false => exact ⟨v, hv, Rd.step hk1.kept hXX t hok⟩
        | true =>
          refine ⟨v, hv, hok.imp (fun r => r.step hk1.kept hXX) fun ⟨b, e, r⟩ => ⟨b, e, ?_, At.step hk1.kept hXX (fun o => hk1 b o) r⟩⟩
          obtain ⟨o, ho⟩ := r.live
          exact hfree b o ho
    cases kd with
    | «local» => exact main (.inl rfl)
    | cell => exact main (.inr rfl)
    | globalImplicit => exact hkind
    | _ => simp at hkd
  · show ((env.cells.find? fun p => p.2 == env.locals).map fun p => Role.cell p.1).or _ = _
    have : env.cells.find? (fun p => p.2 == env.locals) = none := by
      rw [List.find?_eq_none]
      intro p hp q
      have := habove p.1 p.2 hp
      have e : p.2 = env.locals := by simpa using q
      rw [e] at this; exact Nat.lt_irrefl _ this
    rw [this]
    show (none : Option Role).or (if env.locals = env.locals then _ else _) = _
    rw [if_pos rfl]; rfl
theorem cellsFrom_fst : ∀ (names : List (Str × NameKind)) (n : Nat) (acc : List (Str × Addr)), (cellsFrom n names acc).map (·.1) = ((names.filter fun p => p.2 == .cell).map (·.1)).reverse ++ acc.map (·.1)
  | [], _, acc => by simp [cellsFrom]
  | (x, kd) :: r, n, acc => by
    unfold cellsFrom
    by_cases h : (kd == .cell) = true
    · rw [if_pos h, cellsFrom_fst r]
      simp [List.filter_cons, h]
    · rw [if_neg h, cellsFrom_fst r]
      simp [List.filter_cons, h]
def fnOk (fd : FuncData) (ps : List Str) : Bool :=
  fd.scope.names.all (fun p => p.2 == .local || p.2 == .cell || p.2 == .globalImplicit) && decide ((fd.scope.names.map (·.1)).Nodup) && decide ((fd.scope.names.map (·.1) ++ (marks fd.scope.names).map (·.1)).Nodup) && decide ps.Nodup &&
  ps.all (fun x => fd.scope.names.lookup x == some .local || fd.scope.names.lookup x == some .cell) && fd.closure.isEmpty && fd.globals == mainGlobals && fd.builtins == builtinsNs &&
  fd.scope.kind == .function && !fd.scope.isCoroutine && !fd.scope.isGenerator
theorem Rm.deeper {k : Nat} {A : Around} (r : Rm (k + 1) A) (env : Env) : Rm k (A.deeper env) := by
  obtain ⟨a, b, c⟩ := r
  refine ⟨?_, ?_, c⟩
  · show A.depth + 1 + k < _; omega
  · show A.units + 3 + 100 * k + 300 < _; omega
theorem calls_intro {f : Str} {k : Nat} {as : List ArgT} {R : Xs → Heap → Heap → Value → Prop} {fd : FuncData} {a : Addr} {o : Obj} {ps : List Str} {body : List Stmt} {ρ : Rho} (G : Gl H mg mb)
    (hf : mg f = some (.ref a)) (ho : H.get? a = some o) (hd : o.data = .func fd) (hcd : H.CodeRec fd.code fd.qualname) (hb : fd.body = .stmts body) (hok : fnOk fd ps = true) (hlen : ps.length = as.length)
    (hbind : ∀ vs : List Value, vs.length = ps.length → bindArgs fd ⟨vs, []⟩ = pure (ps.zip vs)) (hρ : rho0 fd.scope.names (ps.zip (as.map ArgT.slot)) = ρ)
    (hrun : Run prog w H ρ k body (OutIs prog w R)) : Calls prog w H mg f (k + 1) as R := fun A X s vs a' hr hf' hH hX hargs => by
  rw [hf] at hf'; cases hf'
  simp only [fnOk, Bool.and_eq_true, decide_eq_true_eq, beq_iff_eq, Bool.not_eq_true', List.isEmpty_iff] at hok
  obtain ⟨⟨⟨⟨⟨⟨⟨⟨⟨⟨h1, h2⟩, h2m⟩, h3⟩, h4⟩, h5⟩, h6⟩, h7⟩, h8⟩, h9⟩, h10⟩ := hok
  have hcells : ∀ n, ((cellsFrom n fd.scope.names []).map (·.1)) = ((fd.scope.names.filter fun p => p.2 == .cell).map (·.1)).reverse := fun n => by rw [cellsFrom_fst]; simp
  have hvl : vs.length = ps.length := by rw [hargs.length, hlen]
  refine wpAny_call (codeAny_call_cells (fd := fd) (by have := hr.1; omega) (hH _ _ ho) hd (G.nolimit.keeps hH) (hcd.keeps hH) hb (hbind vs hvl) h5 (fun x hx => ?_) (fun s₁ x => ?_) h9 h10 h8)
  · have hxp : x.1 ∈ ps := (List.of_mem_zip hx).1
    have := List.all_eq_true.mp h4 _ hxp
    simp only [Bool.or_eq_true, beq_iff_eq] at this
    refine this.imp id fun q => ⟨q, ?_⟩
    have hmem : x.1 ∈ (cellsFrom (s.heap.objs.size + 1) fd.scope.names []).map (·.1) := by
      rw [hcells, List.mem_reverse]
      exact List.mem_map.mpr ⟨(x.1, .cell), List.mem_filter.mpr ⟨mem_of_lookup q, rfl⟩, rfl⟩
    obtain ⟨q', hq, e⟩ := List.mem_map.mp hmem
    rw [← e, lookup_of_mem_nodup ?_ hq]
    · rfl
    · rw [hcells]; exact nodup_rev ((List.Sublist.map _ List.filter_sublist).nodup h2)
  · obtain ⟨role, F⟩ := Fs.start (prog := prog) (w := w) (H := H) x hX hH hargs hlen h3 h6 h7 h8 h1 h2 hcells h2m hρ
    obtain ⟨h₁, tk, rfl, hk1⟩ := x.done
    refine wpAny_mono (hrun _ _ _ _ _ _ (hr.deeper _) F) (fun fl s' ⟨c, o, q, p⟩ => ?_) fun _ _ q => q.elim
    obtain ⟨⟨h', tk', rfl⟩, _⟩ := c
    cases o with
    | next ρ' =>
      obtain ⟨rfl, role', _, F'⟩ := p
      exact ⟨⟨h', tk', rfl, F'.keep⟩, q X _ _⟩
    | ret t =>
      obtain ⟨v, rfl, k', r⟩ := p
      exact ⟨⟨h', tk', rfl, k'⟩, q X _ _ v r⟩
    | retF t =>
      obtain ⟨b, rfl, k', hn, r⟩ := p
      exact ⟨⟨h', tk', rfl, k'⟩, q X _ _ _ ⟨b, rfl, hn, r⟩⟩
inductive EvArgs (prog : Program) (w : World) (H : Heap) (ρ : Rho) (k : Nat) : List Expr → List ArgT → Prop
  | nil : EvArgs prog w H ρ k [] []
  | sh {e : Expr} {t : T} {es : List Expr} {as : List ArgT} : Ev prog w H ρ k e t → EvArgs prog w H ρ k es as → EvArgs prog w H ρ k (e :: es) ((false, t) :: as)
  | sw {e : Expr} {t : T} {es : List Expr} {as : List ArgT} : EvS prog w H ρ k e t → EvArgs prog w H ρ k es as → EvArgs prog w H ρ k (e :: es) ((true, t) :: as)
def noStar : List Expr → Bool
  | [] => true
  | .Starred .. :: _ => false
  | _ :: r => noStar r
theorem starEach_cons {e : Expr} {es : List Expr} {env : Env} (h : noStar (e :: es) = true) : starEach (e :: es) env = (false, eval e env) :: starEach es env ∧ noStar es = true := by
  cases e <;> first | exact ⟨rfl, h⟩ | (simp [noStar] at h)
theorem spliced_args {A : Around} {env : Env} {X : Xs} {role : Addr → Option Role} {pos : Pos} {ρ : Rho} {k : Nat} (hr : Rm k A) {es : List Expr} {as : List ArgT} (x : EvArgs prog w H ρ k es as) :
    noStar es = true → ∀ {s : Shared} {Q : List Value → Shared → Prop}, St prog w H X role env ρ s.heap → (∀ vs s', Ext s s' → ArgsOk prog w X s'.heap as vs → vs.length = es.length → Q vs s') →
    wpAny (model prog w) A (spliced (backTo pos (starEach es env))) Q nil s := by
  induction x with
  | nil => intro _ s Q S h; exact Calls.spliced_nil (h [] s (Ext.refl s) rfl rfl)
  | @sh e t es as he _ ih =>
    intro hn s Q S h
    obtain ⟨e1, hn'⟩ := starEach_cons (env := env) hn
    rw [e1]
    refine Calls.spliced_cons (wpAny_mono (he A env X role s hr S) (fun v s₁ h₁ => ?_) fun _ _ q => q)
    refine ih hn' (S.keep h₁.1.keep) fun vs s' hx ha hl => h _ s' (h₁.1.trans hx) ⟨v, vs, rfl, Rd.keep h₁.2 hx.keep, ha⟩ (by simp [hl])
  | @sw e t es as he _ ih =>
    intro hn s Q S h
    obtain ⟨e1, hn'⟩ := starEach_cons (env := env) hn
    rw [e1]
    refine Calls.spliced_cons (wpAny_mono (he A env X role s hr S) (fun v s₁ h₁ => ?_) fun _ _ q => q)
    refine ih hn' (S.keep h₁.1.keep) fun vs s' hx ha hl => h _ s' (h₁.1.trans hx) ⟨v, vs, rfl, RdS.keep h₁.2 hx.keep, ha⟩ (by simp [hl])
end Mine

end
section
namespace Mine
open PySem PyProof.Rows
variable {prog : Program} {w : World} {H : Heap} {mg mb : Str → Option Value}

section
variable (prog : Program) (w : World) (H : Heap)
def CallsV (fv : Value) (k : Nat) (args : List ArgT) (R : Xs → Heap → Heap → Value → Prop) : Prop :=
  ∀ (A : Around) (X : Xs) (s : Shared) (vs : List Value), Rm k A → Keep H s.heap → (∀ a, X a → ∃ o, s.heap.get? a = some o) → ArgsOk prog w X s.heap args vs →
    wpAny (model prog w) A (call fv vs []) (fun v s' => Ext s s' ∧ R X s.heap s'.heap v) nil s
end
theorem argInt {X : Xs} {h : Heap} {n : Int} {v : Value} {b : Bool} (x : ArgOk prog w X h (b, .int n) v) : ∃ t, v = .int n t := by
  cases b
  · exact rd_int_iff.mp (show Rd prog w X h (.int n) v from x)
  · rcases (show RdS prog w X h (.int n) v from x) with r | ⟨a, _, r⟩
    · exact rd_int_iff.mp r
    · exact r.elim
theorem argList {X : Xs} {h : Heap} {ts : List T} {v : Value} {b : Bool} (x : ArgOk prog w X h (b, .list ts) v) : ∃ a vs n, v = .ref a ∧ h.get? a = some (seqObj "list" vs n) ∧ RdL prog w X h ts vs.toList := by
  have key : Rd prog w X h (.list ts) v → ∃ a vs n, v = .ref a ∧ h.get? a = some (seqObj "list" vs n) ∧ RdL prog w X h ts vs.toList := fun r => by
    unfold Rd at r; obtain ⟨a, e, _, vs, n, ho, q⟩ := r; exact ⟨a, vs, n, e, ho, q⟩
  cases b
  · exact key x
  · rcases (show RdS prog w X h (.list ts) v from x) with r | ⟨a, e, vs, n, ho, q⟩
    · exact key r
    · exact ⟨a, vs, n, e, ho, q⟩
theorem argTup {X : Xs} {h : Heap} {ts : List T} {v : Value} {b : Bool} (x : ArgOk prog w X h (b, .tup ts) v) : ∃ a vs n, v = .ref a ∧ h.get? a = some (seqObj "tuple" vs n) ∧ RdL prog w X h ts vs.toList := by
  have key : Rd prog w X h (.tup ts) v → ∃ a vs n, v = .ref a ∧ h.get? a = some (seqObj "tuple" vs n) ∧ RdL prog w X h ts vs.toList := fun r => by
    unfold Rd at r; obtain ⟨a, e, _, vs, n, ho, q⟩ := r; exact ⟨a, vs, n, e, ho, q⟩
  cases b
  · exact key x
  · rcases (show RdS prog w X h (.tup ts) v from x) with r | ⟨a, e, q⟩
    · exact key r
    · exact q.elim
def Anti (R : Xs → Heap → Heap → Value → Prop) : Prop := ∀ X h h1 h' v, Keep h h1 → R X h1 h' v → R X h h' v
theorem anti_sh (t : T) : Anti (Sh prog w t) := fun _ _ _ _ _ _ r => r
theorem any_backTo {pos : Pos} {env : Env} : ∀ {es : List Expr}, noStar es = true → (backTo pos (starEach es env)).any (·.1) = false
  | [], _ => rfl
  | e :: es, h => by
    obtain ⟨e1, h'⟩ := starEach_cons (env := env) h
    rw [e1]
    show (backTo pos (starEach es env)).any (·.1) = false
    exact any_backTo h'
theorem evalArgs_all {A : Around} {s : Shared} {f : Value} {args : List (Bool × Sem Value)} {Q : Args → Shared → Prop} (hp : args.any (·.1) = false) (h : wpAny (model prog w) A (spliced args) (fun vs s' => Q ⟨vs, []⟩ s') nil s) :
    wpAny (model prog w) A (evalArgs f true args []) Q nil s := by
  cases args with
  | nil =>
    unfold evalArgs
    show wpAny _ A (spliced [] >>= _) Q _ s
    refine wpAny_bind (wpAny_mono h (fun vs s' h' => ?_) fun _ _ x => x)
    refine wpAny_bind (wpAny_pure (wpAny_holding ?_))
    exact wpAny_bind (wpAny_pure (wpAny_bind (wpAny_pure (wpAny_pure h'))))
  | cons a r =>
    obtain ⟨b, x⟩ := a
    have hb : b = false := by simp only [List.any_cons, Bool.or_eq_false_iff] at hp; exact hp.1
    subst hb
    exact Calls.evalArgs_plain h
theorem callWith_machine {A : Around} {s : Shared} {pos : Pos} {fv : Value} {args : List (Bool × Sem Value)} {first : List Value} {Q : Value → Shared → Prop} (hk : keeperOf fv = pure .machine) (hplain : args.any (·.1) = false)
    (h : wpAny (model prog w) A (evalArgs fv true args []) (fun a s₁ => wpAny (model prog w) A (call fv (first ++ a.pos) a.kw) Q nil s₁) nil s) : wpAny (model prog w) A (callWith pos fv first args []) Q nil s := by
  unfold callWith
  refine wpAny_bind (wpAny_holding (wpAny_mono h (fun a s₁ h₁ => wpAny_bind (wpAny_standAt ?_)) fun _ _ x => x))
  rw [hk]
  simp only [hplain, List.any_nil, Bool.or_false]
  refine wpAny_bind (wpAny_pure ?_)
  exact wpAny_bind (wpAny_mono h₁ (fun r s₂ hr => wpAny_bind (wpAny_holding (wpAny_point (wpAny_pure hr)))) fun _ _ x => x)
section call
variable {ρ : Rho} {k k' : Nat} {f : Str} {p pos : Pos} {args : List Expr} {as : List ArgT} {R : Xs → Heap → Heap → Value → Prop}
theorem eval_call_name {env : Env} : eval (.Call (.Name f p) args [] pos) env = (do callWith pos (← eval (.Name f p) env) [] (backTo pos (starEach args env)) (backToKw pos (keywordEach [] env))) := rfl
theorem name_global {A : Around} {env : Env} {X : Xs} {role : Addr → Option Role} {s : Shared} {v : Value} {Q : Value → Shared → Prop} (G : Gl H mg mb) (S : St prog w H X role env ρ s.heap) (hm : (f, Slot.gl) ∈ ρ) (hv : mg f = some v) (h : Q v s)
    (hd : (f == ("__debug__" : Str)) = false) : wpAny (model prog w) A (eval (.Name f p) env) Q nil s :=
  Calls.Name_function_global S.kind (S.vars _ hm) (Calls.loadGlobal_global (by rw [S.glo]; exact G.g.keeps S.top) hv h) hd
theorem name_builtin {A : Around} {env : Env} {X : Xs} {role : Addr → Option Role} {s : Shared} {v : Value} {Q : Value → Shared → Prop} (G : Gl H mg mb) (S : St prog w H X role env ρ s.heap) (hm : (f, Slot.gl) ∈ ρ) (hv : mg f = none) (hb : mb f = some v) (h : Q v s)
    (hd : (f == ("__debug__" : Str)) = false) : wpAny (model prog w) A (eval (.Name f p) env) Q nil s :=
  Calls.Name_function_global S.kind (S.vars _ hm) (Calls.loadGlobal_builtin (by rw [S.glo]; exact G.g.keeps S.top) hv (by rw [S.blt]; exact G.b.keeps S.top) hb h) hd
theorem ev_call {a : Addr} {o : Obj} {fd : FuncData} (G : Gl H mg mb) (hm : (f, Slot.gl) ∈ ρ) (hf : mg f = some (.ref a)) (ho : H.get? a = some o) (hfd : o.data = .func fd) (ha : EvArgs prog w H ρ k args as) (hc : Calls prog w H mg f k' as R) (hR : Anti R) (hk : k' ≤ k)
    (hn : noStar args = true := by with_unfolding_all rfl) (hd : (f == ("__debug__" : Str)) = false := by decide +kernel) : EvR prog w H R ρ k (.Call (.Name f p) args [] pos) := fun A env X role s hr S => by
  rw [eval_call_name]
  refine wpAny_bind (name_global G S hm hf ?_ hd)
  refine Calls.callWith_function (o := o) (fd := fd) (evalArgs_all (any_backTo hn) (spliced_args hr ha hn S fun vs s' hx hargs _ => ?_))
  refine ⟨⟨S.top.trans hx.keep _ _ ho, hfd⟩, ?_⟩
  refine wpAny_mono (hc A X s' vs a (hr.mono hk) hf (S.top.trans hx.keep) (S.keep hx.keep).live hargs) (fun v s'' h => ⟨hx.trans h.1, hR X _ _ _ v hx.keep h.2⟩) fun _ _ q => q
theorem ev_bcall {fv : Value} (G : Gl H mg mb) (hm : (f, Slot.gl) ∈ ρ) (hf : mg f = none) (hb : mb f = some fv) (hkp : keeperOf fv = pure .machine) (ha : EvArgs prog w H ρ k args as) (hc : CallsV prog w H fv k as R) (hR : Anti R)
    (hn : noStar args = true := by with_unfolding_all rfl) (hd : (f == ("__debug__" : Str)) = false := by decide +kernel) : EvR prog w H R ρ k (.Call (.Name f p) args [] pos) := fun A env X role s hr S => by
  rw [eval_call_name]
  refine wpAny_bind (name_builtin G S hm hf hb ?_ hd)
  refine callWith_machine hkp (any_backTo hn) (evalArgs_all (any_backTo hn) (spliced_args hr ha hn S fun vs s' hx hargs _ => ?_))
  exact wpAny_mono (hc A X s' vs hr (S.top.trans hx.keep) (S.keep hx.keep).live hargs) (fun v s'' h => ⟨hx.trans h.1, hR X _ _ _ v hx.keep h.2⟩) fun _ _ q => q
end call
end Mine

end
section
namespace Mine
open PySem PyProof.Rows
variable {prog : Program} {w : World} {H : Heap} {mg mb : Str → Option Value}

theorem Held.grow {X X' : Xs} {role role' : Addr → Option Role} {env : Env} {h h' : Heap} {y : Str} (k : Keep h h') (hx : ∀ a, X' a → X a ∨ h.get? a = none) (hr : ∀ a o, h.get? a = some o → role' a = role a) : ∀ {sl : Slot}, Held prog w X role env h y sl → Held prog w X' role' env h' y sl
  | .un, ⟨ov, v⟩ => ⟨ov, v.keep k⟩
  | .fz _, ⟨v, q, r⟩ => ⟨v, q.keep k, r.step k.kept hx⟩
  | .vw _, ⟨v, q, r⟩ => ⟨v, q.keep k, r.imp (fun r => r.step k.kept hx) fun ⟨b, e, n, r⟩ => ⟨b, e, (let ⟨o, ho⟩ := r.live; (hr b o ho).trans n), At.step k.kept hx (fun o => k b o) r⟩⟩
  | .ow _, ⟨b, q, o, r⟩ => ⟨b, q.keep k, (let ⟨o', ho⟩ := r.live; (hr b o' ho).trans o), At.step k.kept hx (fun o => k b o) r⟩
  | .gl, e => e
  | .ce _, e => e
def hideR (role : Addr → Option Role) (wr : List Addr) : Addr → Option Role := fun b => if b ∈ wr then some .hid else role b
theorem hideR_in {role : Addr → Option Role} {wr : List Addr} {b : Addr} (h : b ∈ wr) : hideR role wr b = some .hid := if_pos h
theorem hideR_out {role : Addr → Option Role} {wr : List Addr} {b : Addr} (h : b ∉ wr) : hideR role wr b = role b := if_neg h
theorem Fs.hide {X₀ : Xs} {h₀ h h2 : Heap} {role : Addr → Option Role} {env : Env} {ρ : Rho} {wr : List Addr} (F : Fs prog w H X₀ h₀ role env ρ h) (k : Keep h h2) (hI : ∀ a ∈ wr, h.get? a = none) (hl : ∀ a ∈ wr, ∃ o, h2.get? a = some o) : Fs prog w H X₀ h₀ (hideR role wr) env ρ h2 := by
  have hout : ∀ {a o}, h.get? a = some o → a ∉ wr := fun {a o} e q => by rw [hI a q] at e; cases e
  have hlive : ∀ {a}, role a ≠ none → a ∉ wr := fun {a} q z => by obtain ⟨o, e⟩ := F.st.live a (.inr q); exact hout e z
  have hx : ∀ a, Xof X₀ (hideR role wr) a → Xof X₀ role a ∨ h.get? a = none := fun a q => by
    by_cases ha : a ∈ wr
    · exact .inr (hI a ha)
    · exact .inl (q.imp id fun q => by rwa [hideR_out ha] at q)
  have hsame : ∀ {a r}, role a = some r → hideR role wr a = some r := fun {a r} e => (hideR_out (hlive (by rw [e]; simp))).trans e
  have F' := F.ext k
  refine ⟨⟨F.st.kind, F.st.glo, F.st.blt, F'.st.top, fun a q => ?_, fun a q => .inr q, F.st.nodup, fun p hp => (F.st.vars p hp).grow k hx fun a o e => hideR_out (hout e)⟩, F'.keep, F.top0, fun a q => ?_, fun a q => ?_, hsame F.loc, fun y c e => hsame (F.cel y c e), F'.ns⟩
  · by_cases ha : a ∈ wr
    · exact hl a ha
    · exact F'.st.live a (q.imp id fun q => by rwa [hideR_out ha] at q)
  · have : a ∉ wr := fun z => by obtain ⟨o, e⟩ := F.st.live a (.inl q); exact hout e z
    rw [hideR_out this]; exact F.x0 a q
  · by_cases ha : a ∈ wr
    · exact none_of_keep F.keep (hI a ha)
    · exact F.fresh a (by rwa [hideR_out ha] at q)
theorem Fs.poke {X₀ : Xs} {h₀ h h' : Heap} {role : Addr → Option Role} {env : Env} {ρ : Rho} {wr : List Addr} (F : Fs prog w H X₀ h₀ role env ρ h) (hX : ∀ a ∈ wr, role a = some .hid)
    (hs : ∀ b o, b ∉ wr → h.get? b = some o → h'.get? b = some o) (hl : ∀ a ∈ wr, ∃ o, h'.get? a = some o) : Fs prog w H X₀ h₀ role env ρ h' := by
  have hk : Kept (Xof X₀ role) h h' := fun a o e q => hs a o (fun z => q (.inr (by rw [hX a z]; simp))) e
  have hne : ∀ {a r}, r ≠ Role.hid → role a = some r → a ∉ wr := fun {a r} hr e q => by rw [hX a q] at e; cases e; exact hr rfl
  have hne0 : ∀ {a}, role a = none → a ∉ wr := fun {a} e q => by rw [hX a q] at e; cases e
  have hk0 : Keep h₀ h' := fun a o e => hs a o (fun q => by rw [F.fresh a (by rw [hX a q]; simp)] at e; cases e) (F.keep a o e)
  have hvar : ∀ {y ov}, Var env h y ov → Var env h' y ov := fun {y ov} v => v.imp
    (fun ⟨a, m, ⟨o, es, ep, ho, r⟩, e⟩ => ⟨a, m, ⟨o, es, ep, hs _ _ (hne (by simp) F.loc) ho, r⟩, e⟩)
    fun ⟨a, c, e, o, ho, hd⟩ => ⟨a, c, e, o, hs _ _ (hne (by simp) (F.cel y c e)) ho, hd⟩
  refine ⟨⟨F.st.kind, F.st.glo, F.st.blt, F.top0.trans hk0, fun a q => ?_, fun a q => .inr q, F.st.nodup, fun p hp => ?_⟩, hk0, F.top0, F.x0, F.fresh, F.loc, F.cel, ?_⟩
  · by_cases ha : a ∈ wr
    · exact hl a ha
    · obtain ⟨o, e⟩ := F.st.live a q; exact ⟨o, hs a o ha e⟩
  · refine (F.st.vars p hp).other hk (fun ov => hvar) fun b o e q => hs b o ?_ e
    rcases q with q | q
    · exact hne (by simp) q
    · exact hne0 q
  · obtain ⟨m, o, es, ep, ho, r⟩ := F.ns
    exact ⟨m, o, es, ep, hs _ _ (hne (by simp) F.loc) ho, r⟩
def dropR (role : Addr → Option Role) (wr : List Addr) : Addr → Option Role := fun b => if b ∈ wr then none else role b
theorem Fs.drop {X₀ : Xs} {h₀ h h' : Heap} {role : Addr → Option Role} {env : Env} {ρ : Rho} {wr : List Addr} (F : Fs prog w H X₀ h₀ role env ρ h) (hX : ∀ a ∈ wr, role a = some .hid)
    (hs : ∀ b o, b ∉ wr → h.get? b = some o → h'.get? b = some o) : Fs prog w H X₀ h₀ (dropR role wr) env ρ h' := by
  have hk : Kept (Xof X₀ role) h h' := fun a o e q => hs a o (fun z => q (.inr (by rw [hX a z]; simp))) e
  have hdr : ∀ {a}, dropR role wr a ≠ none → a ∉ wr ∧ role a ≠ none := fun {a} q => by
    unfold dropR at q
    by_cases ha : a ∈ wr
    · rw [if_pos ha] at q; exact absurd rfl q
    · rw [if_neg ha] at q; exact ⟨ha, q⟩
  have hx : ∀ a, Xof X₀ (dropR role wr) a → Xof X₀ role a ∨ h.get? a = none := fun a q => .inl (q.imp id fun q => (hdr q).2)
  have hne : ∀ {a r}, r ≠ Role.hid → role a = some r → a ∉ wr := fun {a r} hr e q => by rw [hX a q] at e; cases e; exact hr rfl
  have hsame : ∀ {a r}, r ≠ Role.hid → role a = some r → dropR role wr a = some r := fun {a r} hr e => by unfold dropR; rw [if_neg (hne hr e)]; exact e
  have hdn : ∀ {a}, role a = none → dropR role wr a = none := fun {a} e => by unfold dropR; split <;> simp [e]
  have hne0 : ∀ {a}, role a = none → a ∉ wr := fun {a} e q => by rw [hX a q] at e; cases e
  have hk0 : Keep h₀ h' := fun a o e => hs a o (fun q => by rw [F.fresh a (by rw [hX a q]; simp)] at e; cases e) (F.keep a o e)
  have hvar : ∀ {y ov}, Var env h y ov → Var env h' y ov := fun {y ov} v => v.imp
    (fun ⟨a, m, ⟨o, es, ep, ho, r⟩, e⟩ => ⟨a, m, ⟨o, es, ep, hs _ _ (hne (by simp) F.loc) ho, r⟩, e⟩)
    fun ⟨a, c, e, o, ho, hd⟩ => ⟨a, c, e, o, hs _ _ (hne (by simp) (F.cel y c e)) ho, hd⟩
  refine ⟨⟨F.st.kind, F.st.glo, F.st.blt, F.top0.trans hk0, fun a q => ?_, fun a q => .inr q, F.st.nodup, fun p hp => ?_⟩, hk0, F.top0, fun a q => hdn (F.x0 a q), fun a q => F.fresh a (hdr q).2, hsame (by simp) F.loc, fun y c e => hsame (by simp) (F.cel y c e), ?_⟩
  · rcases q with q | q
    · obtain ⟨o, e⟩ := F.st.live a (.inl q); exact ⟨o, hs a o (hne0 (F.x0 a q)) e⟩
    · obtain ⟨o, e⟩ := F.st.live a (.inr (hdr q).2); exact ⟨o, hs a o (hdr q).1 e⟩
  · have := F.st.vars p hp
    obtain ⟨y, sl⟩ := p
    cases sl with
    | un => obtain ⟨ov, v⟩ := this; exact ⟨ov, hvar v⟩
    | fz t => obtain ⟨v, q, r⟩ := this; exact ⟨v, hvar q, r.step hk hx⟩
    | vw t => obtain ⟨v, q, r⟩ := this; exact ⟨v, hvar q, r.imp (fun r => r.step hk hx) fun ⟨b, e, n, r⟩ => ⟨b, e, hdn n, At.step hk hx (fun o => hs b o (hne0 n)) r⟩⟩
    | ow t => obtain ⟨b, q, o, r⟩ := this; exact ⟨b, hvar q, hsame (by simp) o, At.step hk hx (fun o' => hs b o' (hne (by simp) o)) r⟩
    | gl => exact this
    | ce n => exact this
  · obtain ⟨m, o, es, ep, ho, r⟩ := F.ns
    exact ⟨m, o, es, ep, hs _ _ (hne (by simp) F.loc) ho, r⟩
section
variable (prog : Program) (w : World) (H : Heap)
def Also (X₀ : Xs) (wr : List Addr) : Xs := fun a => X₀ a ∨ a ∈ wr
structure It (A : Around) (tg : Expr) (X : Xs) (role : Addr → Option Role) (I : Addr) (wr fp : List Addr) (ts : List T) (h : Heap) (P : Nat → List Value → Prop) (U : Nat → List Value → Value → Heap → Heap → Prop) (us : Nat → List T) (Sw : Nat → Heap → Prop) : Prop where
  frame : ∀ i h h', Sw i h → (∀ b ∈ fp, ∀ o, h.get? b = some o → h'.get? b = some o) → Sw i h'
  item : ∀ i (s : Shared) (Q : Value → Shared → Prop), i < ts.length → Sw i s.heap →
    (∀ vs u h' tk, P i vs → U i vs u s.heap h' → Sw (i + 1) h' → (∀ b o, b ∉ wr → s.heap.get? b = some o → h'.get? b = some o) → Q u { s with heap := h', toks := tk }) →
    wpAny (model prog w) A (pyNext (.ref I)) (fun r s₁ => match r with | none => False | some u => wpAny (model prog w) A (letOwnedTupleGo tg (.ref I) u) (fun _ s₂ => Q u s₂) nil s₁) nil s
  done : ∀ (s : Shared) (Q : Shared → Prop), Sw ts.length s.heap → (∀ h' tk, (∀ b o, b ∉ wr → s.heap.get? b = some o → h'.get? b = some o) → Q { s with heap := h', toks := tk }) →
    wpAny (model prog w) A (pyNext (.ref I)) (fun r s₁ => r = none ∧ Q s₁) nil s
  self : ∀ i (s : Shared) (Q : Value → Shared → Prop), Sw i s.heap → Q (.ref I) s → wpAny (model prog w) A (pyIter (.ref I)) Q nil s
  st : Sw 0 h
  live : ∀ i h, Sw i h → ∀ a ∈ wr, ∃ o, h.get? a = some o
  fpr : ∀ b ∈ fp, b ∈ wr ∨ (role b = none ∧ ∃ o, h.get? b = some o)
  items : ∀ i vs, P i vs → RdL prog w (Also X wr) h (us i) vs
  up : ∀ i vs u t X h h', ts[i]? = some t → U i vs u h h' → (∀ a, X a → ∃ o, h.get? a = some o) → RdL prog w X h' (us i) vs → Rd prog w X h' t u
def Src (ρ : Rho) (k : Nat) (tg : Expr) (e : Expr) (ts : List T) : Prop :=
  ∀ (A : Around) (env : Env) (X : Xs) (role : Addr → Option Role) (s : Shared), Rm k A → St prog w H X role env ρ s.heap →
    wpAny (model prog w) A (eval e env) (fun x s₁ => wpAny (model prog w) A (pyIter x) (fun it s₂ => Ext s s₂ ∧ ∃ I wr fp P U us Sw, it = .ref I ∧ (∀ a ∈ wr, s.heap.get? a = none) ∧ It prog w A tg X role I wr fp ts s₂.heap P U us Sw) nil s₁) nil s
def Asg (k : Nat) (tg : Expr) (t : T) (ρ ρ' : Rho) : Prop :=
  ∀ (A : Around) (env : Env) (X₀ : Xs) (h₀ : Heap) (role : Addr → Option Role) (s : Shared) (v : Value) (Q : Unit → Shared → Prop), Rm k A → Fs prog w H X₀ h₀ role env ρ s.heap → Rd prog w (Xof X₀ role) s.heap t v →
    (∀ s', Kp role s s' → Fs prog w H X₀ h₀ role env ρ' s'.heap → Q () s') → wpAny (model prog w) A (assign tg env v) Q nil s
end
theorem asg_name {k : Nat} {x : Str} {px : Pos} {t : T} {ρ ρ' : Rho} (hp : Put x (.fz t) ρ ρ') : Asg prog w H k (.Name x px) t ρ ρ' :=
  fun A env X₀ h₀ role s v Q hr F r h => wpAny_assign_Name (storeVar F hp r fun s' c kp F' => h s' ⟨c, kp⟩ F')
def LoopQ (ρ' : Rho) (Q : Out → Prop) : Out → Prop
  | .next ρ => Weak ρ ρ'
  | o => Q o
theorem run_forG {ρ : Rho} {k : Nat} {tg : Expr} {p : Pos} {iter : Expr} {body rest : List Stmt} {Q : Out → Prop} (ts : List T) (J : List T → Rho) (hsrc : Src prog w H ρ k tg iter ts) (h0 : Weak ρ (J []))
    (hstep : ∀ pre t post, ts = pre ++ t :: post → ∃ ρ₂, Asg prog w H k tg t (J pre) ρ₂ ∧ Run prog w H ρ₂ k body (LoopQ (J (pre ++ [t])) Q))
    (hend : Run prog w H (J ts) k rest Q) (hs : ∀ env x, foldedSetIterable iter env x = pure x := by intro _ _; with_unfolding_all rfl) : Run prog w H ρ k (.For tg iter body [] p :: rest) Q :=
  run_seq fun A env X₀ h₀ role s hr F => by
    refine wpAny_For (wpAny_mono (hsrc A env _ role s hr F.st) (fun v s₁ h₁ => wpAny_mono h₁ (fun it s₂ ⟨hx, I, wr, fp, P, U, us, Sw, e, hI, W⟩ => ?_) fun _ _ q => q) fun _ _ q => q) (hs env)
    subst e
    have F₂ := F.hide (wr := wr) hx.keep hI fun a ha => W.live 0 _ W.st a ha
    have leH : RoleLe role s.heap (hideR role wr) := ⟨fun a q => by
        by_cases ha : a ∈ wr
        · exact .inr (hI a ha)
        · rw [hideR_out ha] at q; exact .inl q, fun a q => by
        by_cases ha : a ∈ wr
        · exact .inr (hI a ha)
        · rw [hideR_out ha] at q; exact .inl q, fun a q => by
        by_cases ha : a ∈ wr
        · exact hideR_in ha
        · rw [hideR_out ha]; exact q⟩
    refine codeAny_forLoop_any (fun m s' => ∃ i role', i + m = ts.length ∧ RoleLe role s.heap role' ∧ (∀ a ∈ wr, role' a = some .hid) ∧ Kp role s s' ∧ Fs prog w H X₀ h₀ role' env (J (ts.take i)) s'.heap ∧ Sw i s'.heap ∧
      (∀ j vs, P j vs → RdL prog w (Xof X₀ role') s'.heap (us j) vs) ∧ (∀ b ∈ fp, b ∈ wr ∨ (role' b = none ∧ ∃ o, s'.heap.get? b = some o))) (fun m s' hI' => ?_) ts.length ?_
    · obtain ⟨i, role', him, le, hid, kp, F', st', items', fp'⟩ := hI'
      have hout : ∀ a o, s.heap.get? a = some o → ¬ Wr (role a) → a ∉ wr ∧ ¬ Wr (role' a) := fun a o e n =>
        ⟨fun q => (by rw [hI a q] at e; cases e), fun q => (le.wr a q).elim n fun z => (by rw [e] at z; cases z)⟩
      by_cases hlt : i < ts.length
      · obtain ⟨t, ht⟩ : ∃ t, ts[i]? = some t := ⟨ts[i], by simp [hlt]⟩
        refine wpAny_mono (W.item i s' (fun u s₁ => ∃ vs h' tk, s₁ = { s' with heap := h', toks := tk } ∧ P i vs ∧ U i vs u s'.heap h' ∧ Sw (i + 1) h' ∧ ∀ b o, b ∉ wr → s'.heap.get? b = some o → h'.get? b = some o) hlt st' fun vs u h' tk hP hU st'' hkb => ⟨vs, h', tk, rfl, hP, hU, st'', hkb⟩) (fun r s₁ h₁ => ?_) fun _ _ q => q.elim
        cases r with
        | none => exact h₁.elim
        | some u =>
        refine wpAny_mono h₁ (fun _ s₂ ⟨vs, h', tk, e, hP, hU, st'', hkb⟩ => ?_) fun _ _ q => q.elim
        subst e
        have Fp : Fs prog w H X₀ h₀ role' env (J (ts.take i)) h' := F'.poke hid hkb fun a ha => W.live _ _ st'' a ha
        have hk1 : Kept (Xof X₀ role') s'.heap h' := fun a o e q => hkb a o (fun z => q (.inr (by rw [hid a z]; simp))) e
        have hrd : Rd prog w (Xof X₀ role') h' t u := W.up i vs u t _ s'.heap h' ht hU F'.st.live (RdL.step hk1 (fun _ q => .inl q) _ (items' i vs hP))
        have hsplit : ts = ts.take i ++ t :: ts.drop (i + 1) := by
          obtain ⟨hl, e⟩ := List.getElem?_eq_some_iff.mp ht
          rw [← e, List.getElem_cons_drop, List.take_append_drop]
        obtain ⟨ρ₂, hput, hrun⟩ := hstep _ t _ hsplit
        refine wpAny_mono (hput A env X₀ h₀ role' { s' with heap := h', toks := tk } u (fun _ s₃ => Kp role' { s' with heap := h', toks := tk } s₃ ∧ Fs prog w H X₀ h₀ role' env ρ₂ s₃.heap) hr Fp hrd fun s₃ k₃ F₃ => ⟨k₃, F₃⟩) (fun _ s₃ ⟨k₃, F₃⟩ => ?_) fun _ _ q => q.elim
        obtain ⟨c₃, kp₃⟩ := k₃
        refine wpAny_mono (hrun A env X₀ h₀ role' s₃ hr F₃) (fun fl s₄ ⟨kp₄, o, q, post⟩ => ?_) fun _ _ q => q.elim
        have c13 : Chg s' s₃ := (show Chg s' { s' with heap := h', toks := tk } from ⟨h', tk, rfl⟩).trans c₃
        have kpO : Kp role s s₄ := ⟨(kp.1.trans c13).trans kp₄.1, fun a o e n => by
          obtain ⟨hne, hn'⟩ := hout a o e n
          exact kp₄.2 a o (kp₃ a o (hkb a o hne (kp.2 a o e n)) hn') hn'⟩
        have hnw : ∀ a ∈ wr, ¬ Wr (role' a) := fun a ha => by rw [hid a ha]; exact id
        cases o with
        | next ρ₃ =>
          obtain ⟨rfl, role₂, le₂, F₄⟩ := post
          have hwk : Weak ρ₃ (J (ts.take i ++ [t])) := q
          have toNone : ∀ a, s₃.heap.get? a = none → ¬ Wr (role a) → s.heap.get? a = none := fun a z n => by
            cases y : s.heap.get? a with
            | none => rfl
            | some o =>
              obtain ⟨hne, hn'⟩ := hout a o y n
              rw [kp₃ a o (hkb a o hne (kp.2 a o y n)) hn'] at z; cases z
          have le3 : RoleLe role s.heap role₂ := ⟨fun a q => by
              by_cases hra : role a = none
              · rcases le₂.ne a q with q | q
                · exact le.ne a q
                · exact .inr (toNone a q (by rw [hra]; exact id))
              · exact .inl hra, fun a q => by
              by_cases hra : Wr (role a)
              · exact .inl hra
              · rcases le₂.wr a q with q | q
                · exact le.wr a q
                · exact .inr (toNone a q hra), fun a q => le₂.hid a (le.hid a q)⟩
          have htake : ts.take i ++ [t] = ts.take (i + 1) := by
            obtain ⟨hl, e⟩ := List.getElem?_eq_some_iff.mp ht
            rw [← e, List.take_append_getElem]
          have toNone' : ∀ a, s₃.heap.get? a = none → ¬ Wr (role' a) → s'.heap.get? a = none := fun a z n => by
            cases y : s'.heap.get? a with
            | none => rfl
            | some o =>
              by_cases ha : a ∈ wr
              · obtain ⟨o', e'⟩ := W.live _ _ st'' a ha
                rw [kp₃ _ o' e' n] at z; cases z
              · rw [kp₃ a o (hkb a o ha y) n] at z; cases z
          have stepX : ∀ a, Xof X₀ role₂ a → Xof X₀ role' a ∨ s'.heap.get? a = none := fun a q => by
            rcases q with q | q
            · exact .inl (.inl q)
            · by_cases hra : role' a = none
              · rcases le₂.ne a q with z | z
                · exact absurd hra z
                · exact .inr (toNone' a z (by rw [hra]; exact id))
              · exact .inl (.inr hra)
          have keptAll : Kept (Xof X₀ role') s'.heap s₄.heap := fun a o e q => by
            have hn : ¬ Wr (role' a) := fun z => q (.inr (wr_ne z))
            exact kp₄.2 a o (kp₃ a o (hkb a o (fun z => q (.inr (by rw [hid a z]; simp))) e) hn) hn
          refine ⟨m - 1, by omega, i + 1, role₂, by omega, le3, fun a ha => le₂.hid a (hid a ha), kpO, htake ▸ (F₄.weak hwk), ?_, fun j v hP => ?_, fun b hb => ?_⟩
          · refine W.frame _ _ _ st'' fun b hb o e => ?_
            rcases fp' b hb with hw | ⟨hn, o', ho'⟩
            · exact kp₄.2 b o (kp₃ b o e (hnw b hw)) (hnw b hw)
            · exact kp₄.2 b o (kp₃ b o e (by rw [hn]; exact id)) (by rw [hn]; exact id)
          · exact RdL.step keptAll stepX _ (items' j v hP)
          · rcases fp' b hb with hw | ⟨hn, o', ho'⟩
            · exact .inl hw
            · by_cases hbI : b ∈ wr
              · exact .inl hbI
              · have hn' : ¬ Wr (role' b) := by rw [hn]; exact id
                have hb3 := kp₃ b o' (hkb b o' hbI ho') hn'
                refine .inr ⟨?_, o', kp₄.2 b o' hb3 hn'⟩
                cases z : role₂ b with
                | none => rfl
                | some r => rcases le₂.ne b (by rw [z]; simp) with q | q
                            · exact absurd hn q
                            · rw [hb3] at q; cases q
        | ret t =>
          obtain ⟨v, rfl, kk, r⟩ := post
          exact ⟨kpO, .ret t, q, v, rfl, kk, r⟩
        | retF t =>
          obtain ⟨a, rfl, kk, n, r⟩ := post
          exact ⟨kpO, .retF t, q, a, rfl, kk, n, r⟩
      · have hi : i = ts.length := by omega
        subst hi
        refine wpAny_mono (W.done s' (fun s₁ => ∃ h' tk, s₁ = { s' with heap := h', toks := tk } ∧ ∀ b o, b ∉ wr → s'.heap.get? b = some o → h'.get? b = some o) st' fun h' tk hkb => ⟨h', tk, rfl, hkb⟩) (fun r s₁ ⟨e, h', tk, e', hkb⟩ => ?_) fun _ _ q => q.elim
        subst e; subst e'
        have Fp : Fs prog w H X₀ h₀ (dropR role' wr) env (J ts) h' := by
          have := F'.drop hid hkb
          rwa [List.take_length] at this
        have leD : RoleLe role s.heap (dropR role' wr) := ⟨fun a q => by
            unfold dropR at q
            by_cases ha : a ∈ wr
            · rw [if_pos ha] at q; exact absurd rfl q
            · rw [if_neg ha] at q; exact le.ne a q, fun a q => by
            unfold dropR at q
            by_cases ha : a ∈ wr
            · rw [if_pos ha] at q; exact q.elim
            · rw [if_neg ha] at q; exact le.wr a q, fun a q => by
            have ha : a ∉ wr := fun z => by
              obtain ⟨o, e⟩ := F.st.live a (.inr (by rw [q]; simp)); rw [hI a z] at e; cases e
            unfold dropR; rw [if_neg ha]; exact le.hid a q⟩
        exact wpAny_execs_nil ⟨⟨kp.1.trans ⟨h', tk, rfl⟩, fun a o e n => hkb a o (hout a o e n).1 (kp.2 a o e n)⟩, _, then_next hend, rfl, _, leD, Fp⟩
    · refine ⟨0, hideR role wr, by simp, leH, fun a ha => hideR_in ha, hx.kp, F₂.weak ?_, W.st, fun j vs hP => ?_, fun b hb => ?_⟩
      · simpa using h0
      · refine RdL.step (Keep.refl _).kept (fun a q => ?_) _ (W.items j vs hP)
        by_cases ha : a ∈ wr
        · exact .inl (.inr ha)
        · exact .inl (.inl (q.imp id fun q => by rwa [hideR_out ha] at q))
      · by_cases hb' : b ∈ wr
        · exact .inl hb'
        · exact (W.fpr b hb).imp id fun ⟨q, z⟩ => ⟨(hideR_out hb').trans q, z⟩
theorem run_for {ρ : Rho} {k : Nat} {x : Str} {px p : Pos} {iter : Expr} {body rest : List Stmt} {Q : Out → Prop} (ts : List T) (J : List T → Rho) (hsrc : Src prog w H ρ k (.Name x px) iter ts) (h0 : Weak ρ (J []))
    (hstep : ∀ pre t post, ts = pre ++ t :: post → ∃ ρ₂, Put x (.fz t) (J pre) ρ₂ ∧ Run prog w H ρ₂ k body (LoopQ (J (pre ++ [t])) Q))
    (hend : Run prog w H (J ts) k rest Q) (hs : ∀ env x, foldedSetIterable iter env x = pure x := by intro _ _; with_unfolding_all rfl) : Run prog w H ρ k (.For (.Name x px) iter body [] p :: rest) Q :=
  run_forG ts J hsrc h0 (fun pre t post e => let ⟨ρ₂, hp, hr⟩ := hstep pre t post e; ⟨ρ₂, asg_name hp, hr⟩) hend hs
end Mine

end
section
namespace Mine
open PySem PyProof.Rows
variable {prog : Program} {w : World} {H : Heap} {mg mb : Str → Option Value}

def ownedKinds : List String := ["enumerate", "zip", "dict_itemiterator", "dict_reverseitemiterator", "odict_iterator", "itertools.zip_longest", "itertools.pairwise"]
theorem letOwned_plain {A : Around} {tg : Expr} {I : Addr} {u : Value} {s : Shared} {Q : Unit → Shared → Prop} {o : Obj} {n : String} {vs : Array Value} (ho : s.heap.get? I = some o) (hc : o.cls = .type n) (hd : o.data = .fields vs) (hn : ownedKinds.contains n = false) (h : Q () s) :
    wpAny (model prog w) A (letOwnedTupleGo tg (.ref I) u) Q nil s := by
  unfold letOwnedTupleGo
  split
  · split
    · rename_i r a e
      cases e
      refine wpAny_bind (wpAny_load ho ?_)
      rw [hc, hd]
      have : (ownedKinds.contains n && vs[0]? == some (rawInt a)) = false := by rw [hn]; rfl
      show wpAny _ A (if (ownedKinds.contains n && vs[0]? == some (rawInt a)) = true then _ else _) _ _ s
      rw [this]
      exact wpAny_pure h
    · exact wpAny_pure h
  · split
    · rename_i r a e
      cases e
      refine wpAny_bind (wpAny_load ho ?_)
      rw [hc, hd]
      have : (ownedKinds.contains n && vs[0]? == some (rawInt a)) = false := by rw [hn]; rfl
      show wpAny _ A (if (ownedKinds.contains n && vs[0]? == some (rawInt a)) = true then _ else _) _ _ s
      rw [this]
      exact wpAny_pure h
    · exact wpAny_pure h
  · exact wpAny_pure h
theorem RdL_one {X : Xs} {h : Heap} {t : T} {v : Value} : RdL prog w X h [t] [v] ↔ Rd prog w X h t v := by
  unfold RdL
  constructor
  · rintro ⟨v', r, e, q, z⟩; cases e; exact q
  · intro q; exact ⟨v, [], rfl, q, by unfold RdL; rfl⟩
theorem It.ofWalks {A : Around} {tg : Expr} {X : Xs} {role : Addr → Option Role} {I : Addr} {fp : List Addr} {ts : List T} {h : Heap} {P : Nat → Value → Prop} {Sw : Nat → Heap → Prop} {cls : String}
    (W : Walks prog w A I fp [I] ts.length P Sw) (hst : Sw 0 h) (hc : ∀ i h, Sw i h → ∃ o vs, h.get? I = some o ∧ o.cls = .type cls ∧ o.data = .fields vs) (hn : ownedKinds.contains cls = false)
    (hfp : ∀ b ∈ fp, b = I ∨ (role b = none ∧ ∃ o, h.get? b = some o)) (hi : ∀ i v, i < ts.length → P i v → ∃ t, ts[i]? = some t ∧ Rd prog w (Also X [I]) h t v) :
    It prog w A tg X role I [I] fp ts h (fun i vs => i < ts.length ∧ ∃ v, vs = [v] ∧ P i v) (fun _ vs u _ _ => vs = [u]) (fun i => [ts.getD i .none]) Sw where
  frame := W.frame
  item := fun i s Q hi st hQ => W.item i s _ _ hi st fun v h' tk hP st' hk => by
    obtain ⟨o, vs, ho, hcl, hd⟩ := hc _ _ st'
    exact letOwned_plain (s := { s with heap := h', toks := tk }) ho hcl hd hn (hQ [v] v h' tk ⟨hi, v, rfl, hP⟩ rfl st' hk)
  done := fun s Q st hQ => W.done s _ _ st fun h' tk hk => ⟨rfl, hQ h' tk hk⟩
  self := fun i s Q st hQ => W.self i s Q _ st hQ
  st := hst
  live := fun i h st a ha => by
    obtain ⟨o, vs, ho, hcl, hd⟩ := hc _ _ st
    have : a = I := by simpa using ha
    subst this
    exact ⟨o, ho⟩
  fpr := fun b hb => (hfp b hb).imp (by intro q; simp [q]) id
  items := fun i vs ⟨hlt, v, e, hP⟩ => by
    obtain ⟨t, ht, r⟩ := hi i v hlt hP
    subst e
    have : ts.getD i .none = t := by rw [List.getD_eq_getElem?_getD, ht]; rfl
    rw [this]
    exact RdL_one.mpr r
  up := fun i vs u t X h h' ht hU _ r => by
    subst hU
    have : ts.getD i .none = t := by rw [List.getD_eq_getElem?_getD, ht]; rfl
    rw [this] at r
    exact RdL_one.mp r
theorem RdL.length {X : Xs} {h : Heap} : ∀ {ts : List T} {vs : List Value}, RdL prog w X h ts vs → vs.length = ts.length
  | [], _, r => by unfold RdL at r; rw [r]; rfl
  | t :: ts, _, r => by unfold RdL at r; obtain ⟨v, r', e, _, q⟩ := r; rw [e, List.length_cons, List.length_cons, RdL.length q]
theorem RdL.at {X : Xs} {h : Heap} : ∀ {ts : List T} {vs : List Value} {i : Nat} {v : Value}, RdL prog w X h ts vs → vs[i]? = some v → ∃ t, ts[i]? = some t ∧ Rd prog w X h t v
  | [], _, _, _, r, e => by unfold RdL at r; subst r; simp at e
  | t :: ts, _, i, v, r, e => by
    unfold RdL at r
    obtain ⟨v', r', rfl, h1, h2⟩ := r
    cases i with
    | zero => simp at e; subst e; exact ⟨t, rfl, h1⟩
    | succ i => simp at e; simpa using RdL.at h2 e
section src
variable {ρ : Rho} {k : Nat} {tg e : Expr} {ts : List T}
theorem ext_push_new {s s₁ : Shared} (hx : Ext s s₁) : s.heap.get? s₁.heap.objs.size = none := by
  cases q : s.heap.get? s₁.heap.objs.size with
  | none => rfl
  | some o => exact absurd (Heap.lt_size (hx.keep _ _ q)) (Nat.lt_irrefl _)
theorem It.tup {A : Around} {X : Xs} {role : Addr → Option Role} {s₁ : Shared} {a : Addr} {vs : Array Value} {n : Nat} (hh : A.handled = none) (ho : s₁.heap.get? a = some (seqObj "tuple" vs n)) (hr : RdL prog w X s₁.heap ts vs.toList) (hra : role a = none) :
    It prog w A tg X role s₁.heap.objs.size [s₁.heap.objs.size] [s₁.heap.objs.size, a] ts (s₁.heap.push { cls := .type "tuple_iterator", data := .fields #[.ref a, .int 0 0] })
      (fun i us => i < ts.length ∧ ∃ v, us = [v] ∧ vs[i]? = some v) (fun _ vs u _ _ => vs = [u]) (fun i => [ts.getD i .none]) (fun i h => h.IsTupleIter s₁.heap.objs.size a i ∧ h.IsTuple a vs) := by
  have hlt : a < s₁.heap.objs.size := Heap.lt_size ho
  have hlen : ts.length = vs.size := by have := hr.length; simpa using this.symm
  refine It.ofWalks (cls := "tuple_iterator") (hlen ▸ Walks.tuple hh _ a (Nat.ne_of_lt hlt) vs) ⟨⟨_, Heap.get?_push_size _ rfl, rfl, rfl⟩, ⟨_, Heap.get?_push_of_some _ ho, rfl, n, rfl⟩⟩ (fun i h st => ?_) (by decide) (fun b hb => ?_) (fun i v hi hv => ?_)
  · obtain ⟨⟨o, ho, hc, hd⟩, _⟩ := st; exact ⟨o, _, ho, hc, hd⟩
  · rcases List.mem_cons.mp hb with e | hb
    · exact .inl e
    · have : b = a := by simpa using hb
      subst this; exact .inr ⟨hra, _, Heap.get?_push_of_some _ ho⟩
  · obtain ⟨t, ht, r⟩ := hr.at (i := i) (v := v) (by simpa using hv)
    refine ⟨t, ht, r.step (Keep.push _ _).kept fun b q => ?_⟩
    rcases q with q | q
    · exact .inl q
    · have : b = s₁.heap.objs.size := by simpa using q
      subst this; exact .inr (Heap.get?_none_of_le (Nat.le_refl _))
theorem notX_role {X : Xs} {role : Addr → Option Role} {a : Addr} (hx : ∀ a, role a ≠ none → X a) (h : ¬ X a) : role a = none := by
  cases e : role a with
  | none => rfl
  | some r => exact absurd (hx a (by rw [e]; simp)) h
theorem src_tup (he : Ev prog w H ρ k e (.tup ts)) : Src prog w H ρ k tg e ts := fun A env X role s hr S => by
  refine wpAny_mono (he A env X role s hr S) (fun x s₁ ⟨hx, r⟩ => ?_) fun _ _ q => q
  unfold Sh Rd at r
  obtain ⟨a, rfl, hX, vs, n, ho, hr'⟩ := r
  refine wpAny_pyIter_tuple ⟨_, ho, rfl, n, rfl⟩ ⟨hx.trans (Ext.push s₁ _ _), _, _, _, _, _, _, _, rfl, fun b hb => ?_, It.tup hr.2.2 ho hr' (notX_role S.rx hX)⟩
  have : b = s₁.heap.objs.size := by simpa using hb
  subst this; exact ext_push_new hx
end src
end Mine

end
section
namespace Mine
open PySem PyProof.Rows
variable {prog : Program} {w : World} {H : Heap} {mg mb : Str → Option Value}
section range
variable {ρ : Rho} {k : Nat} {tg e e2 : Expr} {p pos : Pos} {f : Str}
def RangeR (a b : Int) : Xs → Heap → Heap → Value → Prop := fun _ _ h' v => ∃ r t u x, v = .ref r ∧ IsRange h' r a b 1 t u x
theorem anti_range (a b : Int) : Anti (RangeR a b) := fun _ _ _ _ _ _ r => r
theorem calls_range1 {n : Int} : CallsV prog w H (.type "range") k [(false, .int n)] (RangeR 0 n) := fun A X s vs hr hH hX ha => by
  obtain ⟨v, r', rfl, hv, e⟩ := ha
  cases e
  obtain ⟨t, rfl⟩ := argInt hv
  exact call_range_1 ⟨Ext.push s _ _, _, _, _, _, rfl, Heap.get?_push_size _ rfl⟩
theorem calls_range2 {a b : Int} : CallsV prog w H (.type "range") k [(false, .int a), (false, .int b)] (RangeR a b) := fun A X s vs hr hH hX ha => by
  obtain ⟨v, r', rfl, hv, v2, r2, rfl, hv2, e⟩ := ha
  cases e
  obtain ⟨t, rfl⟩ := argInt hv
  obtain ⟨t, rfl⟩ := argInt hv2
  exact call_range_2 ⟨Ext.push s _ _, _, _, _, _, rfl, Heap.get?_push_size _ rfl⟩
def rangeT (a b : Int) : List T := (List.range (b - a).toNat).map fun (i : Nat) => .int (a + (i : Int))
theorem rangeSize_one {a b : Int} : Builtin.Range.rangeSize a b 1 = ((b - a).toNat : Int) := by
  unfold Builtin.Range.rangeSize
  (repeat' split) <;> first | omega | (simp; omega) | simp_all
theorem src_range {a b : Int} (he : EvR prog w H (RangeR a b) ρ k e) (ha : -(2 ^ 62) < a ∧ a < 2 ^ 62) (hb : -(2 ^ 62) < b ∧ b < 2 ^ 62) : Src prog w H ρ k tg e (rangeT a b) := fun A env X role s hr S => by
  refine wpAny_mono (he A env X role s hr S) (fun x s₁ ⟨hx, r, t, u, z, e, hR⟩ => ?_) fun _ _ q => q
  subst e
  have hsz := rangeSize_one (a := a) (b := b)
  have hsmall : Builtin.Range.small a b 1 = true := by
    unfold Builtin.Range.small
    rw [hsz]
    unfold Builtin.Range.rangeFitsLong
    simp only [Bool.and_eq_true, Bool.or_eq_true, decide_eq_true_eq]
    refine ⟨⟨⟨⟨?_, ?_⟩, ?_⟩, ?_⟩, .inr ?_⟩
    all_goals (first | omega | (simp only [gt_iff_lt, Int.zero_lt_one, if_true, decide_eq_true_eq]; omega) | (simp; omega) | skip)
  have hl : (rangeT a b).length = (b - a).toNat := by simp [rangeT]
  have hst : IsRangeIter (s₁.heap.push { cls := .type "range_iterator", data := .fields #[rawInt a, rawInt (Builtin.Range.rangeSize a b 1), rawInt 1] }) s₁.heap.objs.size (a + ((0 : Nat) : Int) * 1) ((((rangeT a b).length : Nat) : Int) - ((0 : Nat) : Int)) 1 := by
    have h1 := Heap.get?_push_size s₁.heap (o := { cls := .type "range_iterator", data := .fields #[rawInt a, rawInt (Builtin.Range.rangeSize a b 1), rawInt 1] }) rfl
    show _ = _
    rw [h1, hsz, hl]
    simp
  refine wpAny_pyIter_range hR hsmall ⟨hx.trans (Ext.push s₁ _ _), _, _, _, _, _, _, _, rfl, fun b' hb' => ?_, It.ofWalks (cls := "range_iterator") (Walks.range hr.2.2 s₁.heap.objs.size a 1 (rangeT a b).length) hst (fun i h st => ⟨_, _, st, rfl, rfl⟩) (by decide) (fun b' hb' => .inl (by simpa using hb')) fun i v hi hv => ?_⟩
  · have : b' = s₁.heap.objs.size := by simpa using hb'
    subst this; exact ext_push_new hx
  · obtain ⟨t', rfl⟩ := hv
    refine ⟨.int (a + (i : Int)), ?_, ?_⟩
    · rw [hl] at hi
      simp [rangeT, hi]
    · rw [Int.mul_one]; exact rd_int
theorem src_range1 {n : Int} (G : Gl H mg mb) (hm : ((("range" : Str)), Slot.gl) ∈ ρ) (hf : mg "range" = none) (hb : mb "range" = some (.type "range")) (he : Ev prog w H ρ k e (.int n)) (hn : n < 2 ^ 62 ∧ -(2 ^ 62) < n) (hs : noStar [e] = true := by with_unfolding_all rfl) :
    Src prog w H ρ k tg (.Call (.Name "range" p) [e] [] pos) (rangeT 0 n) :=
  src_range (ev_bcall G hm hf hb rfl (.sh he .nil) calls_range1 (anti_range _ _) hs) (by decide) ⟨hn.2, hn.1⟩
theorem src_range2 {a b : Int} (G : Gl H mg mb) (hm : ((("range" : Str)), Slot.gl) ∈ ρ) (hf : mg "range" = none) (hb : mb "range" = some (.type "range")) (he : Ev prog w H ρ k e (.int a)) (he2 : Ev prog w H ρ k e2 (.int b)) (h1 : -(2 ^ 62) < a ∧ a < 2 ^ 62) (h2 : -(2 ^ 62) < b ∧ b < 2 ^ 62) (hs : noStar [e, e2] = true := by with_unfolding_all rfl) :
    Src prog w H ρ k tg (.Call (.Name "range" p) [e, e2] [] pos) (rangeT a b) :=
  src_range (ev_bcall G hm hf hb rfl (.sh he (.sh he2 .nil)) calls_range2 (anti_range _ _) hs) h1 h2
end range
end Mine

end
section
namespace Mine
open PySem PyProof.Rows
variable {prog : Program} {w : World} {H : Heap} {mg mb : Str → Option Value}

inductive Capt (ρ : Rho) : List (Str × NameKind) → Rho → Prop
  | nil : Capt ρ [] []
  | loc {n : Str} {r : List (Str × NameKind)} {r' : Rho} : Capt ρ r r' → Capt ρ ((n, .local) :: r) r'
  | gl {n : Str} {r : List (Str × NameKind)} {r' : Rho} : Capt ρ r r' → Capt ρ ((n, .globalImplicit) :: r) ((n, .gl) :: r')
  | fr {n key : Str} {sl : Slot} {r : List (Str × NameKind)} {r' : Rho} : (n, sl) ∈ ρ → (key, Slot.ce n) ∈ ρ → sl.isVar = true → Capt ρ r r' → Capt ρ ((n, .free) :: r) ((n, sl) :: r')
theorem Capt.mem {ρ : Rho} {names : List (Str × NameKind)} {r : Rho} (c : Capt ρ names r) : ∀ p ∈ r, (p.2 = .gl ∧ (p.1, NameKind.globalImplicit) ∈ names) ∨ ((p.1, NameKind.free) ∈ names ∧ p ∈ ρ ∧ p.2.isVar = true ∧ ∃ key, (key, Slot.ce p.1) ∈ ρ) := by
  induction c with
  | nil => intro p hp; cases hp
  | loc _ ih => intro p hp; exact (ih p hp).imp (fun ⟨a, b⟩ => ⟨a, .tail _ b⟩) fun ⟨a, b⟩ => ⟨.tail _ a, b⟩
  | gl _ ih =>
    intro p hp
    rcases List.mem_cons.mp hp with rfl | hp
    · exact .inl ⟨rfl, List.mem_cons_self⟩
    · exact (ih p hp).imp (fun ⟨a, b⟩ => ⟨a, .tail _ b⟩) fun ⟨a, b⟩ => ⟨.tail _ a, b⟩
  | @fr n key sl r r' h1 h2 h3 _ ih =>
    intro p hp
    rcases List.mem_cons.mp hp with rfl | hp
    · exact .inr ⟨List.mem_cons_self, h1, h3, key, h2⟩
    · exact (ih p hp).imp (fun ⟨a, b⟩ => ⟨a, .tail _ b⟩) fun ⟨a, b⟩ => ⟨.tail _ a, b⟩
theorem Capt.free {ρ : Rho} {names : List (Str × NameKind)} {r : Rho} (c : Capt ρ names r) : ∀ n, (n, NameKind.free) ∈ names → ∃ key, (key, Slot.ce n) ∈ ρ := by
  induction c with
  | nil => intro n h; cases h
  | loc _ ih => intro n h; rcases List.mem_cons.mp h with e | h; · cases e
                exact ih n h
  | gl _ ih => intro n h; rcases List.mem_cons.mp h with e | h; · cases e
               exact ih n h
  | @fr n key sl r r' h1 h2 h3 _ ih =>
    intro m h
    rcases List.mem_cons.mp h with e | h
    · cases e; exact ⟨key, h2⟩
    · exact ih m h
theorem Capt.nocell {ρ : Rho} {names : List (Str × NameKind)} {r : Rho} (c : Capt ρ names r) : ∀ p ∈ names, p.2 ≠ .cell := by
  induction c with
  | nil => intro p hp; cases hp
  | loc _ ih => exact fun p hp => (List.mem_cons.mp hp).elim (fun e => by rw [e]; simp) (ih p)
  | gl _ ih => exact fun p hp => (List.mem_cons.mp hp).elim (fun e => by rw [e]; simp) (ih p)
  | fr _ _ _ _ ih => exact fun p hp => (List.mem_cons.mp hp).elim (fun e => by rw [e]; simp) (ih p)
theorem Capt.names {ρ : Rho} {names : List (Str × NameKind)} {r : Rho} (c : Capt ρ names r) : (r.map (·.1)).Sublist (names.map (·.1)) := by
  induction c with
  | nil => exact .slnil
  | loc _ ih => exact .cons _ ih
  | gl _ ih => exact .cons_cons _ ih
  | fr _ _ _ _ ih => exact .cons_cons _ ih
theorem lookup_of_nodup {names : List (Str × NameKind)} (hn : (names.map (·.1)).Nodup) {n : Str} {kd : NameKind} (h : (n, kd) ∈ names) : names.lookup n = some kd := by
  induction names with
  | nil => cases h
  | cons q r ih =>
    rw [List.map_cons, List.nodup_cons] at hn
    rw [List.lookup_cons]
    rcases List.mem_cons.mp h with rfl | h
    · simp
    · have : (n == q.1) = false := beq_eq_false_iff_ne.mpr fun e => hn.1 (e ▸ List.mem_map_of_mem (f := (·.1)) h)
      rw [this]; exact ih hn.2 h
theorem closure_ok {env : Env} (f : Str × NameKind → List (Str × Addr) → Sem (ForInStep (List (Str × Addr)))) (hf : ∀ n kd cs, f (n, kd) cs = if kd == .free then (do let a ← cellOf env n; pure (.yield ((n, a) :: cs))) else pure (.yield cs)) :
    ∀ (names : List (Str × NameKind)) (acc : List (Str × Addr)), (∀ n, (n, NameKind.free) ∈ names → ∃ c, env.cells.lookup n = some c) →
      ∃ cl, forIn names acc f = pure cl ∧ (∀ n c, cl.lookup n = some c → acc.lookup n = some c ∨ env.cells.lookup n = some c) ∧ (∀ n, ((n, NameKind.free) ∈ names ∨ (acc.lookup n).isSome) → (cl.lookup n).isSome)
  | [], acc, _ => ⟨acc, by rw [List.forIn_nil], fun n c e => .inl e, fun n h => h.elim (fun q => by cases q) id⟩
  | (n, kd) :: r, acc, h => by
    rw [List.forIn_cons, hf]
    by_cases hk : (kd == .free) = true
    · have hk' : kd = .free := by simpa using hk
      subst hk'
      obtain ⟨c, hc⟩ := h n List.mem_cons_self
      rw [if_pos hk]
      have e1 : cellOf env n = pure c := by unfold cellOf; rw [hc]
      rw [e1]
      obtain ⟨cl, e, h1, h2⟩ := closure_ok f hf r ((n, c) :: acc) fun m hm => h m (.tail _ hm)
      refine ⟨cl, e, fun m c' q => ?_, fun m q => h2 m ?_⟩
      · rcases h1 m c' q with z | z
        · rw [List.lookup_cons] at z
          cases y : m == n with
          | true => rw [y] at z; cases z; rw [eq_of_beq y]; exact .inr hc
          | false => rw [y] at z; exact .inl z
        · exact .inr z
      · rcases q with q | q
        · rcases List.mem_cons.mp q with z | z
          · cases z; exact .inr (by rw [List.lookup_cons]; simp)
          · exact .inl z
        · refine .inr ?_
          rw [List.lookup_cons]
          cases y : m == n with
          | true => rfl
          | false => exact q
    · rw [if_neg hk]
      obtain ⟨cl, e, h1, h2⟩ := closure_ok f hf r acc fun m hm => h m (.tail _ hm)
      refine ⟨cl, e, h1, fun m q => h2 m ?_⟩
      rcases q with q | q
      · rcases List.mem_cons.mp q with z | z
        · cases z; exact absurd rfl hk
        · exact .inl z
      · exact .inr q
def closeStep (env : Env) (x : Str × NameKind) (cs : List (Str × Addr)) : Sem (ForInStep (List (Str × Addr))) :=
  match x with
  | (name, kind) => if (kind == NameKind.free) = true then (do let c ← cellOf env name; pure (ForInStep.yield ((name, c) :: cs))) else pure (ForInStep.yield cs)
theorem closureFor_ok {env : Env} {scope : Scope} (h : ∀ n, (n, NameKind.free) ∈ scope.names → ∃ c, env.cells.lookup n = some c) :
    ∃ cl, closureFor scope env = pure cl ∧ ∀ n, (n, NameKind.free) ∈ scope.names → cl.lookup n = env.cells.lookup n := by
  obtain ⟨cl, e, h1, h2⟩ := closure_ok (env := env) (closeStep env) (fun _ _ _ => rfl) scope.names [] h
  refine ⟨cl, ?_, fun n hn => ?_⟩
  · unfold closureFor
    show (forIn scope.names [] (closeStep env) >>= fun s => pure s) = pure cl
    rw [e]; rfl
  · have := h2 n (.inl hn)
    obtain ⟨c, hc⟩ := Option.isSome_iff_exists.mp this
    rcases h1 n c hc with z | z
    · simp at z
    · rw [hc, z]
theorem relabel_kind {scope : Scope} {env : Env} {n : Str} {kd : NameKind} (h : scope.names.lookup n = some kd) : (relabel scope env).names.lookup n = some kd ∨ (kd = .free ∧ (relabel scope env).names.lookup n = some .cell) := by
  unfold relabel
  show List.lookup n (scope.names.map _) = _ ∨ _ ∧ List.lookup n (scope.names.map _) = _
  generalize scope.names = names at h
  induction names with
  | nil => simp at h
  | cons q r ih =>
    obtain ⟨m, k'⟩ := q
    rw [List.lookup_cons] at h
    rw [List.map_cons]
    cases hc : (k' == NameKind.free && env.scope.kind == .function && env.kindOf m == some .cell) with
    | true =>
      simp only [hc, if_true]
      rw [List.lookup_cons]
      cases y : n == m with
      | true =>
        rw [y] at h; cases h
        have : kd = .free := by simp only [Bool.and_eq_true, beq_iff_eq] at hc; exact hc.1.1
        exact .inr ⟨this, rfl⟩
      | false => rw [y] at h; exact ih h
    | false =>
      simp only [hc, Bool.false_eq_true, if_false]
      rw [List.lookup_cons]
      cases y : n == m with
      | true => rw [y] at h; cases h; exact .inl rfl
      | false => rw [y] at h; exact ih h
theorem St.comp {X X' : Xs} {role : Addr → Option Role} {env : Env} {ρ r : Rho} {h h' : Heap} {scope : Scope} {cl : List (Str × Addr)} {C : Addr} {x : Str} {t : T} {v : Value} {m : Str → Option Value} {qual : Str} {func : Option Addr} {code : Value} {frame : Option Addr}
    (S : St prog w H X role env ρ h) (k : Keep h h') (hx : ∀ a, X' a → X a ∨ h.get? a = none) (hX : ∀ a, X a → X' a) (hl : ∀ a, X' a → ∃ o, h'.get? a = some o) (c : Capt ρ scope.names r) (hkind : scope.kind = .function) (hnd : (scope.names.map (·.1)).Nodup) (hxl : scope.names.lookup x = some .local)
    (hcl : ∀ n, (n, NameKind.free) ∈ scope.names → cl.lookup n = env.cells.lookup n) (hns : h'.Ns C m) (hm : m x = some v) (hv : Rd prog w X' h' t v) :
    St prog w H X' role { scope := relabel scope env, locals := C, globals := env.globals, cells := cl, qual := qual, func := func, code := code, frame := frame, builtins := env.builtins } ((x, .fz t) :: r) h' := by
  refine ⟨hkind, S.glo, S.blt, S.top.trans k, hl, fun a q => hX a (S.rx a q), ?_, fun p hp => ?_⟩
  · rw [List.map_cons, List.nodup_cons]
    refine ⟨fun q => ?_, c.names.nodup hnd⟩
    obtain ⟨p, hp, e⟩ := List.mem_map.mp q
    rcases c.mem p hp with ⟨_, z⟩ | ⟨z, _⟩
    · have := lookup_of_nodup hnd z; rw [e, hxl] at this; cases this
    · have := lookup_of_nodup hnd z; rw [e, hxl] at this; cases this
  · rcases List.mem_cons.mp hp with rfl | hp
    · exact ⟨v, .inl ⟨lookup_relabel_local hxl, m, hns, hm⟩, hv⟩
    · obtain ⟨n, sl⟩ := p
      rcases c.mem _ hp with ⟨e, z⟩ | ⟨z, hp', hiv, key, hk⟩
      · have e' : sl = .gl := e
        subst e'
        show (relabel scope env).names.lookup n = some .globalImplicit
        rcases relabel_kind (env := env) (lookup_of_nodup hnd z) with q | ⟨q, _⟩
        · exact q
        · cases q
      · obtain ⟨hkn, c', hc'⟩ := S.vars _ hk
        have hkk : (relabel scope env).names.lookup n = some .cell ∨ (relabel scope env).names.lookup n = some .free := by
          rcases relabel_kind (env := env) (lookup_of_nodup hnd z) with q | ⟨_, q⟩
          · exact .inr q
          · exact .inl q
        have hvar : ∀ ov, Var env h n ov → Var { scope := relabel scope env, locals := C, globals := env.globals, cells := cl, qual := qual, func := func, code := code, frame := frame, builtins := env.builtins } h' n ov := fun ov q => by
          rcases q with ⟨e, _⟩ | ⟨_, c2, e2, hi⟩
          · rcases hkn with z | z <;> rw [e] at z <;> cases z
          · exact .inr ⟨hkk, c2, (hcl n z).trans e2, hi.keeps k⟩
        have := S.vars _ hp'
        cases sl with
        | un => obtain ⟨ov, q⟩ := this; exact ⟨ov, hvar _ q⟩
        | fz t => obtain ⟨v, q, r⟩ := this; exact ⟨v, hvar _ q, r.step k.kept hx⟩
        | vw t => obtain ⟨v, q, r⟩ := this; exact ⟨v, hvar _ q, r.imp (fun r => r.step k.kept hx) fun ⟨b, e, n, r⟩ => ⟨b, e, n, At.step k.kept hx (fun o => k b o) r⟩⟩
        | ow t => obtain ⟨b, q, o, r⟩ := this; exact ⟨b, hvar _ q, o, At.step k.kept hx (fun o => k b o) r⟩
        | gl => cases hiv
        | ce m => cases hiv
section
variable (prog : Program) (w : World) (H : Heap)
inductive Tests (ρ : T → Rho) (k : Nat) : List Expr → (T → Bool) → T → Prop
  | all {t : T} : Tests ρ k [] (fun _ => true) t
  | one {c : Expr} {p : T → Bool} {t : T} : Tr prog w H (ρ t) k c (p t) → Tests ρ k [c] p t
end
theorem Tests.wp {ρ : T → Rho} {k : Nat} {ifs : List Expr} {p : T → Bool} {t : T} (x : Tests prog w H ρ k ifs p t) {A : Around} {env : Env} {X : Xs} {role : Addr → Option Role} {s : Shared} (hr : Rm k A) (S : St prog w H X role env (ρ t) s.heap) :
    wpAny (model prog w) A (forIn ifs true fun c r => if r = true then do let ok ← isTrue c env (eval c env); pure (ForInStep.yield ok) else pure (ForInStep.yield r)) (fun ok s' => Ext s s' ∧ ok = p t) nil s := by
  cases x with
  | all => exact wpAny_tests_nil ⟨Ext.refl s, rfl⟩
  | one h => exact wpAny_tests_one (h A env X role s hr S)
theorem RdL.append {X : Xs} {h : Heap} : ∀ {ts us : List T} {vs ws : List Value}, RdL prog w X h ts vs → RdL prog w X h us ws → RdL prog w X h (ts ++ us) (vs ++ ws)
  | [], _, _, _, a, b => by unfold RdL at a; subst a; exact b
  | t :: ts, us, vs, ws, a, b => by
    unfold RdL at a
    obtain ⟨v, r, rfl, h1, h2⟩ := a
    show RdL prog w X h (t :: (ts ++ us)) (v :: (r ++ ws))
    unfold RdL
    exact ⟨v, r ++ ws, rfl, h1, RdL.append h2 b⟩
theorem comp_wp {A : Around} {env : Env} {X : Xs} {role : Addr → Option Role} {ρ r : Rho} {k : Nat} {s : Shared} {elt iter : Expr} {x : Str} {px pos cpos : Pos} {ifs : List Expr} {scope : Scope} {ts : List T} {p : T → Bool} {f : T → T} {use : Option (Value → Sem Unit)} {Q : Value → Shared → Prop}
    (hr : Rm k A) (S : St prog w H X role env ρ s.heap) (hsrc : Src prog w H ρ k (.Name x px) iter ts) (hc : Capt ρ scope.names r) (hkind : scope.kind = .function) (hnd : (scope.names.map (·.1)).Nodup) (hxl : scope.names.lookup x = some .local)
    (htest : ∀ t ∈ ts, Tests prog w H (fun t => (x, .fz t) :: r) k ifs p t) (helt : ∀ t ∈ ts, p t = true → Ev prog w H ((x, .fz t) :: r) k elt (f t)) (hlen : ts.length ≤ 2 ^ 20)
    (hs : ∀ env x, foldedSetIterable iter env x = pure x)
    (hfin : ∀ D C h' tk, Keep s.heap h' → s.heap.get? D = none → s.heap.get? C = none → D ≠ C → (∃ m, h'.Ns C m) → At prog w (fun b => X b ∨ b = D ∨ b = C) h' D (.list ((ts.filter p).map f)) →
      compPost (model prog w) A nil use Q (.ref D) C (.ok .next) { s with heap := h', toks := tk }) :
    wpAny (model prog w) A (comprehension (.ListComp elt [⟨.Name x px, iter, ifs, 0⟩] scope pos) scope env cpos (newList []) false (eval iter env) use) Q nil s := by
  obtain ⟨cl, hclos, hcl⟩ := closureFor_ok (env := env) (scope := scope) fun n hn => by
    obtain ⟨key, hk⟩ := hc.free n hn
    exact (S.vars _ hk).2
  refine wpAny_comprehension_free (cl := cl) rfl (hs env) hclos hkind (fun y hy e => lookup_of_nodup hnd (by rw [← e]; exact hy)) ?_
  refine wpAny_mono (hsrc A env X role s hr S) (fun v s₁ h₁ => wpAny_mono h₁ (fun it s₂ ⟨hx, I, wr, fp, P, U, us, Sw, e, hI, W⟩ => ?_) fun _ _ q => q) fun _ _ q => q
  subst e
  refine wpAny_newObj_type (wpAny_newFunctionEnv hc.nocell (by intro y hy; simp at hy) (fun h₁ hns₁ hsb₁ => ?_) hkind)
  dsimp only at hns₁ hsb₁ ⊢
  generalize hH2 : s₂.heap.push { cls := .type "list", dict := none, data := .seq ([] : List Value).toArray } = H2 at hns₁ hsb₁ ⊢
  generalize hD : s₂.heap.objs.size = D at hns₁ hsb₁ ⊢
  have hCsz : H2.objs.size = D + 1 := by rw [← hH2, Heap.size_push, hD]
  generalize hCC : H2.objs.size = C at hns₁ hsb₁ hCsz ⊢
  have hn2 : ∀ {b}, b = D ∨ b = C → s₂.heap.get? b = none := fun {b} q => Heap.get?_none_of_le (by rw [hD]; rcases q with q | q <;> omega)
  have hDC : D ≠ C := by omega
  have old : Keep s₂.heap h₁ := fun b o e => hsb₁.extBut b o (fun q => by rw [hn2 (.inr q)] at e; cases e) (Heap.get?_push_of_some _ (hH2 ▸ Heap.get?_push_of_some _ e))
  have hacc : h₁.get? D = some (seqObj "list" #[] 0) := hsb₁.extBut _ _ hDC (Heap.get?_push_of_some _ (by rw [← hH2, ← hD]; exact Heap.get?_push_size _ rfl))
  have hst₁ : Sw 0 h₁ := W.frame _ _ _ W.st fun b _ o e => old b o e
  have hsn : ∀ {b}, b ∈ wr ∨ b = D ∨ b = C → s.heap.get? b = none := fun {b} q => by
    rcases q with q | q
    · exact hI b q
    · exact none_of_keep hx.keep (hn2 q)
  have hwD : ∀ {b}, b ∈ wr → b ≠ D ∧ b ≠ C := fun {b} q => by
    obtain ⟨o, e⟩ := W.live 0 _ W.st b q
    exact ⟨fun z => (by rw [hn2 (.inl z)] at e; cases e), fun z => (by rw [hn2 (.inr z)] at e; cases e)⟩
  let X' : Xs := fun a => X a ∨ (a ∈ wr ∨ a = D ∨ a = C)
  have hX' : ∀ a, X' a → X a ∨ s.heap.get? a = none := fun a q => q.imp id hsn
  have loop : ∀ s₃ : Shared, s₃ = { s₂ with heap := h₁, toks := s₂.toks + ([] : List (Str × Value)).length } →
      codeAny (model prog w) A (.compLoop (.ListComp elt [⟨.Name x px, iter, ifs, 0⟩] scope pos) 0 (.ref I) (.ref D) { newEnv scope C env.globals cl env.qual none Value.none (some env) builtinsNs with scope := relabel scope env })
        (compPost (model prog w) A nil use Q (.ref D) C) s₃ := by
    rintro s₃ rfl
    refine codeAny_compLoop_tests (fun m s' => ∃ i h' tk ys n, i + m = ts.length ∧ s' = { s₂ with heap := h', toks := tk } ∧ Sw i h' ∧ h'.get? D = some (seqObj "list" ys n) ∧ (∃ mm, h'.Ns C mm) ∧
      RdL prog w X' h' (((ts.take i).filter p).map f) ys.toList ∧ (∀ b o, s₂.heap.get? b = some o → b ∉ wr → h'.get? b = some o) ∧ (∀ a ∈ wr, ∃ o, h'.get? a = some o)) (fun m s' hI' => ?_) ts.length ?_
    · obtain ⟨i, h', tk, ys, n, him, e, st', hDl, ⟨mm, hmm⟩, hrs, hk', hwl⟩ := hI'
      subst e
      have hkeep : Keep s.heap h' := fun b o e => hk' b o (hx.keep b o e) fun q => by rw [hI b q] at e; cases e
      have hitems : ∀ vs, P i vs → RdL prog w X' h' (us i) vs := fun vs hP => by
        refine RdL.step (X := Also X wr) (fun a o e q => hk' a o e fun z => q (.inr z)) (fun a q => ?_) _ (W.items i vs hP)
        rcases q with q | q | q
        · exact .inl (.inl q)
        · exact .inl (.inr q)
        · exact .inr (hn2 q)
      by_cases hlt : i < ts.length
      · obtain ⟨t, ht⟩ : ∃ t, ts[i]? = some t := ⟨ts[i], by simp [hlt]⟩
        have htm : t ∈ ts := List.mem_of_getElem? ht
        have htake : ts.take (i + 1) = ts.take i ++ [t] := by
          obtain ⟨hl, e⟩ := List.getElem?_eq_some_iff.mp ht
          rw [← e, List.take_append_getElem]
        refine wpAny_mono (W.item i _ (fun u s₁ => ∃ vs h'' tk', s₁ = { s₂ with heap := h'', toks := tk' } ∧ P i vs ∧ U i vs u h' h'' ∧ Sw (i + 1) h'' ∧ ∀ b o, b ∉ wr → h'.get? b = some o → h''.get? b = some o) hlt st' fun vs u h'' tk' hP hU st'' hkb => ⟨vs, h'', tk', rfl, hP, hU, st'', hkb⟩) (fun r s₁ h₁ => ?_) fun _ _ q => q.elim
        cases r with
        | none => exact h₁.elim
        | some u =>
        show wpAny _ A (letOwnedTupleGo (.Name x px) (.ref I) u >>= fun _ => assign (.Name x px) _ u) _ _ s₁
        refine wpAny_bind (wpAny_mono h₁ (fun _ s₂' ⟨vs, h2, tk2, e, hP, hU, st'', hkb⟩ => ?_) fun _ _ q => q.elim)
        subst e
        have hlX : ∀ a, X' a → ∃ o, h'.get? a = some o := fun a q => by
          rcases q with q | q | q | q
          · obtain ⟨o, e⟩ := S.live a q; exact ⟨o, hkeep a o e⟩
          · exact hwl a q
          · exact ⟨_, q ▸ hDl⟩
          · obtain ⟨o, _, _, ho, _⟩ := hmm; exact ⟨o, q ▸ ho⟩
        have hrd2 : Rd prog w X' h2 t u := W.up i vs u t X' h' h2 ht hU hlX (RdL.step (fun a o e q => hkb a o (fun z => q (.inr (.inl z))) e) (fun _ q => .inl q) _ (hitems vs hP))
        have hmm2 : h2.Ns C mm := hmm.at' fun o e => hkb C o (fun z => (hwD z).2 rfl) e
        refine wpAny_assign_Name (wpAny_storeName_local (lookup_relabel_local hxl) hmm2 (fun h3 hn3 hs3 => ?_) (by show (((relabel scope env).kind == .class) || _) = false; rw [show (relabel scope env).kind = .function from hkind]; rfl))
        have hn3' : h3.Ns C (fun y => if y = x then some u else mm y) := hn3
        have hs3' : Heap.SameBut C h2 h3 := hs3
        have hkC : Kept X' h2 h3 := fun a o e q => (hs3'.2 a fun z => q (.inr (.inr (.inr z)))).trans e
        have hkeep3 : Keep s.heap h3 := fun b o e => (hs3'.2 b fun z => by rw [hsn (.inr (.inr z))] at e; cases e).trans (hkb b o (fun q => by rw [hI b q] at e; cases e) (hkeep b o e))
        have hl3 : ∀ a, X' a → ∃ o, h3.get? a = some o := fun a q => by
          by_cases hC : a = C
          · obtain ⟨o, _, _, ho, _⟩ := hn3'; exact ⟨o, hC ▸ ho⟩
          · by_cases hw : a ∈ wr
            · obtain ⟨o, e⟩ := W.live _ _ st'' a hw; exact ⟨o, (hs3'.2 a hC).trans e⟩
            · obtain ⟨o, e⟩ := hlX a q; exact ⟨o, (hs3'.2 a hC).trans (hkb a o hw e)⟩
        have S3 := S.comp (X' := X') (C := C) (cl := cl) (t := t) (qual := env.qual) (func := none) (code := env.code) (frame := env.frame) hkeep3 hX' (fun a q => .inl q) hl3 hc hkind hnd hxl hcl hn3' (if_pos rfl) (hrd2.step hkC fun _ q => .inl q)
        have st3 : Sw (i + 1) h3 := W.frame _ _ _ st'' fun b hb o e => by
          refine (hs3'.2 b fun z => ?_).trans e
          rcases W.fpr b hb with q | ⟨_, o', e'⟩
          · exact (hwD q).2 z
          · rw [hn2 (.inr z)] at e'; cases e'
        have hD3 : h3.get? D = some (seqObj "list" ys n) := (hs3'.2 D hDC).trans (hkb D _ (fun z => (hwD z).1 rfl) hDl)
        have kept3 : Kept X' h' h3 := fun a o e q => hkC a o (hkb a o (fun z => q (.inr (.inl z))) e) q
        have hk3 : ∀ b o, s₂.heap.get? b = some o → b ∉ wr → h3.get? b = some o := fun b o e q => (hs3'.2 b fun z => by rw [hn2 (.inr z)] at e; cases e).trans (hkb b o q (hk' b o e q))
        refine wpAny_mono ((htest t htm).wp (s := { s₂ with heap := h3, toks := tk2 + 1 }) hr S3) (fun ok s4 ⟨hx4, hok⟩ => ?_) fun _ _ q => q.elim
        subst hok
        obtain ⟨h4, tk4, e4, k4⟩ := hx4
        subst e4
        have k4' : Keep h3 h4 := k4
        have fpC : ∀ b ∈ fp, b ≠ D := fun b hb z => by
          rcases W.fpr b hb with q | ⟨_, o', e'⟩
          · exact (hwD q).1 z
          · rw [hn2 (.inl z)] at e'; cases e'
        cases hp : p t with
        | false =>
          simp only [Bool.false_eq_true, if_false]
          refine ⟨m - 1, by omega, i + 1, h4, tk4, ys, n, by omega, rfl, W.frame _ _ _ st3 fun b _ o e => k4' b o e, k4' _ _ hD3, ⟨_, hn3'.keeps k4'⟩, ?_, fun b o e q => k4' b o (hk3 b o e q), fun a ha => ?_⟩
          · rw [htake, List.filter_append]
            have : [t].filter p = [] := by simp [hp]
            rw [this, List.append_nil]
            exact (RdL.step kept3 (fun _ q => .inl q) _ hrs).keep k4'
          · obtain ⟨o, e⟩ := hl3 a (.inr (.inl ha)); exact ⟨o, k4' a o e⟩
        | true =>
          simp only [if_true]
          refine wpAny_mono (helt t htm hp A _ X' role { s₂ with heap := h4, toks := tk4 } hr (S3.keep k4')) (fun y s5 ⟨hx5, hy⟩ => ?_) fun _ _ q => q.elim
          obtain ⟨h5, tk5, e5, k5⟩ := hx5
          subst e5
          have k5' : Keep h4 h5 := k5
          have hD5 : h5.get? D = some (seqObj "list" ys n) := k5' _ _ (k4' _ _ hD3)
          have hys : ys.size ≤ sizeLine := by
            have e1 := hrs.length
            have e2 : ((ts.take i).filter p).length ≤ (ts.take i).length := List.length_filter_le _ _
            have e3 : (ts.take i).length ≤ ts.length := by rw [List.length_take]; omega
            have e4 : ys.toList.length = ys.size := by simp
            rw [List.length_map] at e1
            rw [sizeLine_eq]; omega
          refine wpAny_list_append_plain (hsz := hys) (s := { s₂ with heap := h5, toks := tk5 }) ⟨n, hD5⟩ fun h6 hl6 hs6 => ?_
          obtain ⟨n6, hD6⟩ := hl6
          have hs6' : Heap.SameBut D h5 h6 := hs6
          have k45 : Keep h3 h5 := k4'.trans k5'
          have up6 : ∀ {b o}, b ≠ D → h3.get? b = some o → h6.get? b = some o := fun {b o} hb e => (hs6'.2 b hb).trans (k45 b o e)
          have kept6 : Kept X' h5 h6 := fun a o e q => (hs6'.2 a fun z => q (.inr (.inr (.inl z)))).trans e
          refine ⟨m - 1, by omega, i + 1, h6, tk5, ys.push y, n6, by omega, rfl, W.frame _ _ _ st3 fun b hb o e => up6 (fpC b hb) e, hD6, ⟨_, hn3'.at' fun o e => up6 (Ne.symm hDC) e⟩, ?_, fun b o e q => up6 (fun z => by rw [hn2 (.inl z)] at e; cases e) (hk3 b o e q), fun a ha => ?_⟩
          · rw [htake, List.filter_append, List.map_append]
            have : ([t].filter p).map f = [f t] := by simp [hp]
            rw [this, Array.toList_push]
            refine RdL.step kept6 (fun _ q => .inl q) _ (RdL.append ?_ (RdL_one.mpr hy))
            exact ((RdL.step kept3 (fun _ q => .inl q) _ hrs).keep k4').keep k5'
          · obtain ⟨o, e⟩ := hl3 a (.inr (.inl ha)); exact ⟨o, up6 (hwD ha).1 e⟩
      · have hi : i = ts.length := by omega
        subst hi
        refine wpAny_mono (W.done _ (fun s₁ => ∃ h'' tk', s₁ = { s₂ with heap := h'', toks := tk' } ∧ ∀ b o, b ∉ wr → h'.get? b = some o → h''.get? b = some o) st' fun h'' tk' hkb => ⟨h'', tk', rfl, hkb⟩) (fun r s₁ ⟨e, h'', tk', e', hkb⟩ => ?_) fun _ _ q => q.elim
        subst e; subst e'
        obtain ⟨hx', tx, ex, kx⟩ := hx
        subst ex
        refine hfin D C h'' tk' (fun b o e => hkb b o (fun q => by rw [hI b q] at e; cases e) (hkeep b o e)) (hsn (.inr (.inl rfl))) (hsn (.inr (.inr rfl))) hDC ⟨mm, hmm.at' fun o e => hkb C o (fun z => (hwD z).2 rfl) e⟩ ⟨ys, n, hkb D _ (fun z => (hwD z).1 rfl) hDl, ?_⟩
        rw [List.take_length] at hrs
        refine RdL.step (X := X') (fun a o e q => hkb a o (fun z => q (.inr (.inl z))) e) (fun a q => ?_) _ hrs
        rcases q with q | q
        · exact .inl (.inl q)
        · exact .inl (.inr (.inr q))
    · refine ⟨0, h₁, _, #[], 0, by simp, rfl, hst₁, hacc, ⟨_, hns₁⟩, ?_, fun b o e _ => old b o e, fun a ha => ?_⟩
      · simp only [List.take_zero, List.filter_nil, List.map_nil]; unfold RdL; rfl
      · obtain ⟨o, e⟩ := W.live 0 _ W.st a ha; exact ⟨o, old a o e⟩
  exact codeAny_compStart_list (loop _ rfl) (wpAny_mono (W.self 0 { s₂ with heap := h₁, toks := s₂.toks + ([] : List (Str × Value)).length } (fun v s' => v = .ref I ∧ s' = { s₂ with heap := h₁, toks := s₂.toks + ([] : List (Str × Value)).length }) hst₁ ⟨rfl, rfl⟩) (fun v s' ⟨e, e'⟩ => by subst e; exact loop _ e') fun _ _ q => q.elim)
theorem Fs.adopt {X₀ : Xs} {h₀ h : Heap} {role : Addr → Option Role} {env : Env} {ρ : Rho} {a : Addr} (x : Str) (F : Fs prog w H X₀ h₀ role env ρ h) (ha : role a = some .hid) : Fs prog w H X₀ h₀ (fun b => if b = a then some (.own x) else role b) env ρ h := by
  have hsame : ∀ {b r}, r ≠ Role.hid → role b = some r → (if b = a then some (Role.own x) else role b) = some r := fun {b r} hr e => by
    rw [if_neg fun q => by subst q; rw [ha] at e; cases e; exact hr rfl]; exact e
  have hnone : ∀ {b}, role b = none → (if b = a then some (Role.own x) else role b) = none := fun {b} e => by
    rw [if_neg fun q => by subst q; rw [ha] at e; cases e]; exact e
  have hne : ∀ b, (if b = a then some (Role.own x) else role b) ≠ none → role b ≠ none := fun b q e => q (hnone e)
  have hX : ∀ b, Xof X₀ (fun b => if b = a then some (Role.own x) else role b) b → Xof X₀ role b := fun b q => q.imp id (hne b)
  refine ⟨⟨F.st.kind, F.st.glo, F.st.blt, F.st.top, fun b q => F.st.live b (hX b q), fun b q => .inr q, F.st.nodup, fun p hp => ?_⟩, F.keep, F.top0, fun b q => hnone (F.x0 b q), fun b q => F.fresh b (hne b q), hsame (by simp) F.loc, fun y c e => hsame (by simp) (F.cel y c e), F.ns⟩
  have := F.st.vars p hp
  obtain ⟨y, sl⟩ := p
  cases sl with
  | un => exact this
  | fz t => obtain ⟨v, q, r⟩ := this; exact ⟨v, q, r.less hX⟩
  | vw t => obtain ⟨v, q, r⟩ := this; exact ⟨v, q, r.imp (·.less hX) fun ⟨b, e, n, r⟩ => ⟨b, e, hnone n, r.less hX⟩⟩
  | ow t => obtain ⟨b, q, o, r⟩ := this; exact ⟨b, q, hsame (by simp) o, r.less hX⟩
  | gl => exact this
  | ce n => exact this
section rules
variable {ρ ρ' r : Rho} {k : Nat} {elt iter : Expr} {x y : Str} {px pos p' pp : Pos} {ifs : List Expr} {scope : Scope} {ts : List T} {p : T → Bool} {f : T → T}
theorem evF_comp (hsrc : Src prog w H ρ k (.Name x px) iter ts) (hc : Capt ρ scope.names r) (htest : ∀ t ∈ ts, Tests prog w H (fun t => (x, .fz t) :: r) k ifs p t) (helt : ∀ t ∈ ts, p t = true → Ev prog w H ((x, .fz t) :: r) k elt (f t)) (hlen : ts.length ≤ 2 ^ 20)
    (hkind : scope.kind = .function := by with_unfolding_all rfl) (hnd : (scope.names.map (·.1)).Nodup := by decide +kernel) (hxl : scope.names.lookup x = some .local := by decide +kernel) (hs : ∀ env x, foldedSetIterable iter env x = pure x := by intro _ _; with_unfolding_all rfl) :
    EvF prog w H ρ k (.ListComp elt [⟨.Name x px, iter, ifs, 0⟩] scope pos) (.list ((ts.filter p).map f)) := fun A env X role s hr S => by
  rw [eval_ListComp]
  refine comp_wp (use := none) hr S hsrc hc hkind hnd hxl htest helt hlen hs fun D C h' tk hk hD hC hDC ⟨m, hm⟩ hat => ⟨m, hm, fun h'' hs'' => ?_⟩
  have hs2 : Heap.SameBut C h' h'' := hs''
  refine ⟨⟨h'', tk, rfl, fun b o e => (hs2.2 b fun q => by rw [q, hC] at e; cases e).trans (hk b o e)⟩, D, rfl, hD, ?_⟩
  refine At.step (X := fun b => X b ∨ b = D ∨ b = C) (fun a o e q => (hs2.2 a fun z => q (.inr (.inr z))).trans e) (fun a q => .inl (q.imp id .inl)) (fun o e => (hs2.2 D hDC).trans e) hat
theorem run_assignC {rest : List Stmt} {Q : Out → Prop} (hsrc : Src prog w H ρ k (.Name x px) iter ts) (hc : Capt ρ scope.names r) (htest : ∀ t ∈ ts, Tests prog w H (fun t => (x, .fz t) :: r) k ifs p t) (helt : ∀ t ∈ ts, p t = true → Ev prog w H ((x, .fz t) :: r) k elt (f t)) (hlen : ts.length ≤ 2 ^ 20)
    (hp : Put y (.ow (.list ((ts.filter p).map f))) ρ ρ') (h : Run prog w H ρ' k rest Q)
    (hkind : scope.kind = .function := by with_unfolding_all rfl) (hnd : (scope.names.map (·.1)).Nodup := by decide +kernel) (hxl : scope.names.lookup x = some .local := by decide +kernel) (hs : ∀ env x, foldedSetIterable iter env x = pure x := by intro _ _; with_unfolding_all rfl) :
    Run prog w H ρ k (.Assign [.Name y p'] (.ListComp elt [⟨.Name x px, iter, ifs, 0⟩] scope pos) pp :: rest) Q :=
  run_seq fun A env X₀ h₀ role s hr F => by
    have store : ∀ {s₁ : Shared} {D : Addr} {Q' : Unit → Shared → Prop}, Ext s s₁ → s.heap.get? D = none → At prog w (fun b => Xof X₀ role b ∨ b = D) s₁.heap D (.list ((ts.filter p).map f)) →
        (∀ s', Kp role s s' → (∀ a o, s₁.heap.get? a = some o → ¬ Wr (role a) → a ≠ D → s'.heap.get? a = some o) → (∃ role', RoleLe role s.heap role' ∧ role' D = some (.own y) ∧ (∀ b, b ≠ D → role' b = role b) ∧ Fs prog w H X₀ h₀ role' env ρ' s'.heap) → Q' () s') → wpAny (model prog w) A (storeName env y (.ref D)) Q' nil s₁ := by
      intro s₁ D Q' hx hD hat hQ
      refine storeVar (F.grow y hx.keep hD hat.live) hp ⟨D, rfl, if_pos rfl, hat.less fun b q => ?_⟩ fun s' c kp F' => hQ s' ⟨hx.chg.trans c, fun b o e n => kp b o (hx.keep b o e) ?_⟩ (fun b o e n hb => kp b o e (by simpa [hb] using n)) ⟨_, ?_, if_pos rfl, fun b hb => if_neg hb, F'⟩
      · by_cases e : b = D
        · exact .inr e
        · exact .inl (q.imp id fun q => by simpa [e] using q)
      · by_cases e' : b = D
        · subst e'; rw [hD] at e; cases e
        · simpa [e'] using n
      · have hl : ∀ b, role b ≠ none → b ≠ D := fun b q e' => by subst e'; obtain ⟨o, e⟩ := F.st.live _ (.inr q); rw [hD] at e; cases e
        refine ⟨fun b q => ?_, fun b q => ?_, fun b q => ?_⟩
        · by_cases e' : b = D
          · subst e'; exact .inr hD
          · exact .inl (by simpa [e'] using q)
        · by_cases e' : b = D
          · subst e'; exact .inr hD
          · exact .inl (by simpa [e'] using q)
        · show (if b = D then some (Role.own y) else role b) = some .hid
          rw [if_neg (hl b (by rw [q]; simp))]; exact q
    have hsw : ∃ b, swapsWith (.ListComp elt [⟨.Name x px, iter, ifs, 0⟩] scope pos) (some (.Name y p')) pp.line env = pure b := ⟨_, rfl⟩
    obtain ⟨b, hsw⟩ := hsw
    cases b with
    | false =>
      refine wpAny_Assign_Name (wpAny_mono (evF_comp hsrc hc htest helt hlen hkind hnd hxl hs A env _ role s hr F.st) (fun v s₁ ⟨hx, D, e, hD, hat⟩ => ?_) fun _ _ q => q) hsw
      subst e
      exact store hx hD hat fun s' kp _ ⟨role', le, _, _, F'⟩ => ⟨kp, _, then_next h, rfl, role', le, F'⟩
    | true =>
      rw [exec_Assign_Name_used _ _ _ _ hsw]
      refine wpAny_bind (wpAny_standAt (wpAny_bind ?_))
      show wpAny _ A (comprehension (.ListComp elt [⟨.Name x px, iter, ifs, 0⟩] scope pos) scope env (firstIterPos [⟨.Name x px, iter, ifs, 0⟩] pos) (newList []) false (eval iter env) (some (assign (.Name y p') env)) >>= fun _ => pure ()) _ _ s
      refine wpAny_bind (comp_wp (use := some (assign (.Name y p') env)) hr F.st hsrc hc hkind hnd hxl htest helt hlen hs fun D C h' tk hk hD hC hDC ⟨m, hm⟩ hat => ?_)
      have hlD : ∃ o, h'.get? D = some o := hat.live
      have hlC : ∃ o, h'.get? C = some o := let ⟨o, _, _, ho, _⟩ := hm; ⟨o, ho⟩
      have F1 : Fs prog w H X₀ h₀ (hideR role [D, C]) env ρ h' := F.hide hk (fun a ha => by
          rcases List.mem_cons.mp ha with q | q
          · rw [q]; exact hD
          · have : a = C := by simpa using q
            rw [this]; exact hC) fun a ha => by
          rcases List.mem_cons.mp ha with q | q
          · rw [q]; exact hlD
          · have : a = C := by simpa using q
            rw [this]; exact hlC
      have F2 := F1.adopt (a := D) y (hideR_in (by simp))
      have hC2 : (if C = D then some (Role.own y) else hideR role [D, C] C) = some .hid := by
        rw [if_neg (Ne.symm hDC)]; exact hideR_in (by simp)
      have hout : ∀ b, b ≠ D → b ≠ C → (if b = D then some (Role.own y) else hideR role [D, C] b) = role b := fun b h1 h2 => by
        rw [if_neg h1, hideR_out (by simp [h1, h2])]
      have hlive : ∀ {b o}, s.heap.get? b = some o → b ≠ D ∧ b ≠ C := fun {b o} e => ⟨fun q => (by rw [q, hD] at e; cases e), fun q => (by rw [q, hC] at e; cases e)⟩
      show wpAny _ A (assign (.Name y p') env (.ref D)) _ _ _
      refine wpAny_assign_Name (storeVar (s := { s with heap := h', toks := tk }) F2 hp ⟨D, rfl, if_pos rfl, hat.less fun b q => ?_⟩ fun s' c kp F' => ?_)
      · by_cases h1 : b = D
        · exact .inr (.inl h1)
        · by_cases h2 : b = C
          · exact .inr (.inr h2)
          · exact .inl (q.imp id fun q => by dsimp only at q; rwa [hout b h1 h2] at q)
      · refine ⟨m, hm.at' fun o e => kp C o e (by rw [hC2]; exact id), fun h'' hs'' => wpAny_pure (wpAny_pure ?_)⟩
        have hs2 : Heap.SameBut C s'.heap h'' := hs''
        have F3 := F'.drop (wr := [C]) (h' := h'') (fun a ha => by
          have : a = C := by simpa using ha
          rw [this]; exact hC2) fun b o hb e => (hs2.2 b (by simpa using hb)).trans e
        refine ⟨⟨?_, fun b o e n => ?_⟩, _, then_next h, rfl, _, ?_, F3⟩
        · obtain ⟨h3, t3, e3⟩ := c
          subst e3
          exact ⟨h'', t3, rfl⟩
        · obtain ⟨h1, h2⟩ := hlive e
          exact (hs2.2 b h2).trans (kp b o (hk b o e) (by rw [hout b h1 h2]; exact n))
        · have hdr : ∀ b, b ≠ C → dropR (fun b => if b = D then some (Role.own y) else hideR role [D, C] b) [C] b = (if b = D then some (Role.own y) else hideR role [D, C] b) := fun b hb => by
            unfold dropR; rw [if_neg (by simpa using hb)]
          have hdC : dropR (fun b => if b = D then some (Role.own y) else hideR role [D, C] b) [C] C = none := by unfold dropR; rw [if_pos (by simp)]
          refine ⟨fun b q => ?_, fun b q => ?_, fun b q => ?_⟩
          · by_cases h2 : b = C
            · exact .inr (h2 ▸ hC)
            · by_cases h1 : b = D
              · exact .inr (h1 ▸ hD)
              · rw [hdr b h2] at q; exact .inl (by rwa [hout b h1 h2] at q)
          · by_cases h2 : b = C
            · exact .inr (h2 ▸ hC)
            · by_cases h1 : b = D
              · exact .inr (h1 ▸ hD)
              · rw [hdr b h2] at q; exact .inl (by rwa [hout b h1 h2] at q)
          · obtain ⟨o, e⟩ := F.st.live b (.inr (by rw [q]; simp))
            obtain ⟨h1, h2⟩ := hlive e
            rw [hdr b h2]; exact (hout b h1 h2).trans q
end rules
end Mine

end
section
namespace Mine
open PySem PyProof.Rows
variable {prog : Program} {w : World} {H : Heap} {mg mb : Str → Option Value}

theorem RdL.get {X : Xs} {h : Heap} : ∀ {ts : List T} {vs : List Value} {i : Nat} {t : T}, RdL prog w X h ts vs → ts[i]? = some t → ∃ v, vs[i]? = some v ∧ Rd prog w X h t v
  | [], _, _, _, _, e => by simp at e
  | t :: ts, _, i, t', r, e => by
    unfold RdL at r
    obtain ⟨v', r', rfl, h1, h2⟩ := r
    cases i with
    | zero => simp at e; subst e; exact ⟨v', rfl, h1⟩
    | succ i => simp at e; simpa using RdL.get h2 e
theorem swList {X : Xs} {h : Heap} {ts : List T} {v : Value} (r : RdS prog w X h (.list ts) v) : ∃ a vs n, v = .ref a ∧ h.get? a = some (seqObj "list" vs n) ∧ RdL prog w X h ts vs.toList := argList (b := true) r
theorem swTup {X : Xs} {h : Heap} {ts : List T} {v : Value} (r : RdS prog w X h (.tup ts) v) : ∃ a vs n, v = .ref a ∧ h.get? a = some (seqObj "tuple" vs n) ∧ RdL prog w X h ts vs.toList := argTup (b := true) r
theorem shTup {X : Xs} {h : Heap} {ts : List T} {v : Value} (r : Rd prog w X h (.tup ts) v) : ∃ a vs n, v = .ref a ∧ ¬ X a ∧ h.get? a = some (seqObj "tuple" vs n) ∧ RdL prog w X h ts vs.toList := by
  unfold Rd at r; obtain ⟨a, e, hX, vs, n, ho, q⟩ := r; exact ⟨a, vs, n, e, hX, ho, q⟩
theorem sOk_iff {x : Str} : sOk x = true ↔ (∀ c ∈ x.cps.toList, c < 0x110000) ∧ x.cps.toList.length ≤ 2 ^ 16 := by
  unfold sOk PyData.strOk
  simp only [Bool.and_eq_true, decide_eq_true_eq, Array.length_toList, Array.all_eq_true_iff_forall_mem, Array.mem_toList_iff]
theorem sOk_char {x : Str} {i c : Nat} (h : sOk x = true) (e : x.cps[i]? = some c) : sOk ⟨#[c]⟩ = true := by
  rw [sOk_iff] at h ⊢
  refine ⟨fun d hd => ?_, by simp⟩
  have : d = c := by simpa using hd
  subst this
  exact h.1 _ (Array.mem_toList_iff.mpr (Array.mem_of_getElem? e))
def notSlice : Expr → Bool
  | .Slice .. => false
  | _ => true
theorem subscripted_plain {slice : Expr} {o i : Value} (h : notSlice slice = true) : subscripted slice false o i = operate [o, i] (getItem o i) := by
  cases slice <;> first | rfl | simp [notSlice] at h
theorem ev_subs {R R₁ R₂ : Xs → Heap → Heap → Value → Prop} {ρ : Rho} {k : Nat} {value slice : Expr} {pos : Pos} (hl : EvR prog w H R₁ ρ k value) (hr : EvR prog w H R₂ ρ k slice)
    (hf : ∀ (A : Around) (X : Xs) (s₀ s₁ s : Shared) (a b : Value), Rm k A → (∀ a, X a → ∃ o, s₀.heap.get? a = some o) → Ext s₀ s₁ → Ext s₁ s → R₁ X s₀.heap s₁.heap a → R₂ X s₁.heap s.heap b →
      wpAny (model prog w) A (subscriptTail value slice a b) (fun v s' => Ext s s' ∧ R X s₀.heap s'.heap v) nil s) : EvR prog w H R ρ k (.Subscript value slice pos) :=
  ev_two (f := subscriptTail value slice) hl hr (fun _ _ _ _ h => Subscript_ h) hf
theorem seqIdx {i : Int} {n : Nat} (h0 : 0 ≤ i) (h1 : i < n) : seqIndex? i n = some i.toNat := by
  unfold seqIndex?
  have e1 : ¬ i < 0 := by omega
  simp [e1, h0, h1]
section item
variable {ρ : Rho} {k : Nat} {value slice : Expr} {pos : Pos} {ts : List T} {i : Int} {t : T} {x : Str} {c : Nat}
theorem ev_item (hl : EvS prog w H ρ k value (.list ts)) (hi : Ev prog w H ρ k slice (.int i)) (h0 : 0 ≤ i ∧ i < 2 ^ 62) (ht : ts[i.toNat]? = some t) (hs : notSlice slice = true := by with_unfolding_all rfl) : Ev prog w H ρ k (.Subscript value slice pos) t :=
  ev_subs hl hi fun A X s₀ s₁ s a b hr hX h01 h1 ha hb => by
    obtain ⟨a, vs, n, rfl, ho, hr'⟩ := swList (RdS.keep ha h1.keep)
    obtain ⟨u, rfl⟩ := rd_int_iff.mp hb
    obtain ⟨v, hv, hrd⟩ := hr'.get ht
    have hL : s.heap.IsList a vs := ⟨_, ho, rfl, n, rfl⟩
    exact tail_any hL.typeIs slot_list_getitem.lookup (wpAny_getItem_list hL h0.1 (by omega) (by simpa using hv) ⟨Ext.refl s, hrd⟩) (subscripted_plain hs)
theorem ev_item_tup (hl : EvS prog w H ρ k value (.tup ts)) (hi : Ev prog w H ρ k slice (.int i)) (h0 : 0 ≤ i ∧ i < 2 ^ 62) (ht : ts[i.toNat]? = some t) (hs : notSlice slice = true := by with_unfolding_all rfl) : Ev prog w H ρ k (.Subscript value slice pos) t :=
  ev_subs hl hi fun A X s₀ s₁ s a b hr hX h01 h1 ha hb => by
    obtain ⟨a, vs, n, rfl, ho, hr'⟩ := swTup (RdS.keep ha h1.keep)
    obtain ⟨u, rfl⟩ := rd_int_iff.mp hb
    obtain ⟨v, hv, hrd⟩ := hr'.get ht
    have hL : IsTup s.heap a vs := ⟨_, ho, rfl, n, rfl⟩
    have hlt : i.toNat < vs.size := by
      have := (List.getElem?_eq_some_iff.mp hv).1; simpa using this
    have hj : seqIndex? i vs.size = some i.toNat := by
      exact seqIdx h0.1 (by omega)
    exact tail_any hL.typeIs slot_tuple_getitem.lookup (getItem_tuple hL (by omega) (by omega) hj (by simpa using hv) ⟨Ext.refl s, hrd⟩) (subscripted_plain hs)
theorem ev_item_str (hl : Ev prog w H ρ k value (.str x)) (hi : Ev prog w H ρ k slice (.int i)) (h0 : 0 ≤ i ∧ i < 2 ^ 62) (ht : x.cps[i.toNat]? = some c) (hs : notSlice slice = true := by with_unfolding_all rfl) : Ev prog w H ρ k (.Subscript value slice pos) (.str ⟨#[c]⟩) :=
  ev_subs hl hi fun A X s₀ s₁ s a b hr hX h01 h1 ha hb => by
    obtain ⟨t, rfl, hok⟩ := rd_str_iff.mp ha
    obtain ⟨u, rfl⟩ := rd_int_iff.mp hb
    have hlt : i.toNat < x.length := (Array.getElem?_eq_some_iff.mp ht).1
    have hT : s.TypeIs (.str x t) "str" := rfl
    refine tail_any hT slot_str_getitem.lookup (PyProof.Rows.getItem_str ?_ ?_ ⟨Ext.tok s _, rd_str (sOk_char hok ht)⟩) (subscripted_plain hs)
    · have h1 : ¬ i < -(2 ^ 63) := by omega
      have h2 : ¬ i ≥ 2 ^ 63 := by omega
      rw [decide_eq_false h1, decide_eq_false h2]; rfl
    · rw [seqIdx h0.1 (by omega)]; exact ht
end item
inductive EvPart (prog : Program) (w : World) (H : Heap) (ρ : Rho) (k : Nat) : Option Expr → Option Int → Prop
  | none : EvPart prog w H ρ k none none
  | some {e : Expr} {i : Int} : Ev prog w H ρ k e (.int i) → EvPart prog w H ρ k (some e) (some i)
def SliceR (lo hi : Option Int) : Xs → Heap → Heap → Value → Prop := fun _ _ h' v => ∃ sl vl vu, v = .ref sl ∧ h'.IsSliceOf sl vl vu .none ∧ IsPart vl lo ∧ IsPart vu hi
theorem EvPart.wp {ρ : Rho} {k : Nat} {e : Option Expr} {i : Option Int} (x : EvPart prog w H ρ k e i) {A : Around} {env : Env} {X : Xs} {role : Addr → Option Role} {s : Shared} (hr : Rm k A) (S : St prog w H X role env ρ s.heap) :
    wpAny (model prog w) A (valueOrNone (evalOpt e env)) (fun v s' => Ext s s' ∧ IsPart v i) nil s := by
  cases x with
  | none => exact wpAny_pure ⟨Ext.refl s, .none⟩
  | some h => exact wpAny_mono (h A env X role s hr S) (fun v s' ⟨hx, r⟩ => ⟨hx, by obtain ⟨t, rfl⟩ := rd_int_iff.mp r; exact .int _ _⟩) fun _ _ q => q
theorem ev_slice {ρ : Rho} {k : Nat} {l u : Option Expr} {lo hi : Option Int} {p : Pos} (hl : EvPart prog w H ρ k l lo) (hu : EvPart prog w H ρ k u hi) : EvR prog w H (SliceR lo hi) ρ k (.Slice l u none p) := fun A env X role s hr S => by
  rw [arm_eval_Slice]
  refine wpAny_bind (wpAny_mono (hl.wp hr S) (fun vl s₁ ⟨hx, pl⟩ => ?_) fun _ _ q => q)
  refine wpAny_bind (wpAny_holding (wpAny_mono (hu.wp hr (S.keep hx.keep)) (fun vu s₂ ⟨hx2, pu⟩ => ?_) fun _ _ q => q))
  refine wpAny_bind (wpAny_holding (wpAny_pure ?_))
  exact wpAny_newObj_type ⟨(hx.trans hx2).trans (Ext.push s₂ _ _), _, vl, vu, rfl, Heap.IsSliceOf.new .., pl, pu⟩
def cut {α : Type} (xs : List α) (lo hi : Option Int) : List α := (xs.drop (lo.elim 0 (clipAt xs.length))).take (hi.elim xs.length (clipAt xs.length) - lo.elim 0 (clipAt xs.length))
theorem RdL.drop {X : Xs} {h : Heap} : ∀ {ts : List T} {vs : List Value} (n : Nat), RdL prog w X h ts vs → RdL prog w X h (ts.drop n) (vs.drop n)
  | ts, vs, 0, r => by simpa using r
  | [], vs, n + 1, r => by unfold RdL at r; subst r; simp; unfold RdL; rfl
  | t :: ts, vs, n + 1, r => by
    unfold RdL at r
    obtain ⟨v, r', rfl, _, h2⟩ := r
    simpa using RdL.drop n h2
theorem RdL.take {X : Xs} {h : Heap} : ∀ {ts : List T} {vs : List Value} (n : Nat), RdL prog w X h ts vs → RdL prog w X h (ts.take n) (vs.take n)
  | ts, vs, 0, r => by simp; unfold RdL; rfl
  | [], vs, n + 1, r => by unfold RdL at r; subst r; simp; unfold RdL; rfl
  | t :: ts, vs, n + 1, r => by
    unfold RdL at r
    obtain ⟨v, r', rfl, h1, h2⟩ := r
    rw [List.take_succ_cons, List.take_succ_cons]
    unfold RdL
    exact ⟨v, _, rfl, h1, RdL.take n h2⟩
theorem RdL.cut {X : Xs} {h : Heap} {ts : List T} {vs : List Value} {lo hi : Option Int} (r : RdL prog w X h ts vs) : RdL prog w X h (cut ts lo hi) (cut vs lo hi) := by
  unfold Mine.cut
  rw [r.length]
  exact (r.drop _).take _
theorem ext_new {s₀ s : Shared} (h : Ext s₀ s) : s₀.heap.get? s.heap.objs.size = none := ext_push_new h
section slices
variable {ρ : Rho} {k : Nat} {value : Expr} {l u : Option Expr} {lo hi : Option Int} {p pos : Pos} {ts : List T} {x : Str}
theorem fh_list {X : Xs} {s₀ s : Shared} {ts : List T} {vs : Array Value} {tk : Nat} (h : Ext s₀ s) (r : RdL prog w X s.heap ts vs.toList) : Fh prog w (.list ts) X s₀.heap (s.heap.push { cls := .type "list", data := .seq vs }) (.ref s.heap.objs.size) :=
  ⟨_, rfl, ext_new h, vs, 0, Heap.get?_push_size _ rfl, RdL.step (Keep.push _ _).kept (fun a q => q.imp id fun e => by rw [e]; exact Heap.get?_none_of_le (Nat.le_refl _)) _ r⟩
theorem evF_slice (hl : EvS prog w H ρ k value (.list ts)) (h1 : EvPart prog w H ρ k l lo) (h2 : EvPart prog w H ρ k u hi) (hn : ts.length ≤ 2 ^ 20) : EvF prog w H ρ k (.Subscript value (.Slice l u none p) pos) (.list (cut ts lo hi)) :=
  ev_subs hl (ev_slice h1 h2) fun A X s₀ s₁ s a b hr hX h01 h1 ha hb => by
    obtain ⟨a, vs, n, rfl, ho, hr'⟩ := swList (RdS.keep ha h1.keep)
    obtain ⟨sl, vl, vu, rfl, hsl, pl, pu⟩ := hb
    have hL : s.heap.IsList a vs := ⟨_, ho, rfl, n, rfl⟩
    have hlen : vs.size = ts.length := by have := hr'.length; simpa using this
    refine tail_any hL.typeIs slot_list_getitem.lookup (wpAny_getItem_list_slice hL hsl pl pu .none (by simp) ?_ (by rw [sizeLine_eq]; omega)) rfl
    refine ⟨Ext.push s _ _, fh_list (tk := s.toks) (h01.trans h1) ?_⟩
    rw [slicePick_plain]
    have := hr'.cut (lo := lo) (hi := hi)
    have e : (cut vs.toList lo hi) = ((vs.toList.drop (lo.elim 0 (clipAt vs.size))).take (hi.elim vs.size (clipAt vs.size) - lo.elim 0 (clipAt vs.size))) := by unfold cut; simp
    rw [e] at this
    exact this
theorem adjust_plain (lo hi : Option Int) (n : Nat) : Builtin.Slice.sliceAdjust lo hi 1 (n : Int) = (((lo.elim 0 (clipAt n) : Nat) : Int), ((hi.elim n (clipAt n) : Nat) : Int)) := by
  unfold Builtin.Slice.sliceAdjust
  have h1 : ¬ ((1 : Int) < 0) := by omega
  simp only [h1, if_false]
  have key : ∀ v : Int, (if v < 0 then max (v + (n : Int)) 0 else min v (n : Int)) = ((clipAt n v : Nat) : Int) := fun v => by
    rw [clipAt_cast]
    split <;> omega
  congr 1
  · cases lo with
    | none => rfl
    | some v => exact key v
  · cases hi with
    | none => rfl
    | some v => exact key v
theorem places_plain (a b : Nat) : Builtin.Slice.slicePlaces (a : Int) (b : Int) 1 = b - a := by
  unfold Builtin.Slice.slicePlaces
  have h1 : (1 : Int) > 0 := by omega
  simp only [h1, if_true, Int.ediv_one]
  split <;> omega
theorem slicePart_is {A : Around} {s : Shared} {v : Value} {i : Option Int} {Q : Option Int → Shared → Prop} (p : IsPart v i) (h : Q i s) : wpAny (model prog w) A (Builtin.Slice.slicePartIndex v) Q nil s := by
  cases p with
  | none => exact slicePart_none h
  | int i t => exact slicePart_int h
theorem sliceApplied_plain {A : Around} {s : Shared} {sl : Addr} {vl vu : Value} {lo hi : Option Int} {n : Nat} {Q : Int × Int × Nat → Shared → Prop} (hs : s.heap.IsSliceOf sl vl vu .none) (pl : IsPart vl lo) (pu : IsPart vu hi)
    (h : Q (((lo.elim 0 (clipAt n) : Nat) : Int), 1, hi.elim n (clipAt n) - lo.elim 0 (clipAt n)) s) : wpAny (model prog w) A (Builtin.Slice.sliceApplied (.ref sl) (pure (n : Int))) Q nil s := by
  obtain ⟨os, hos, hcs, hds⟩ := id hs
  unfold Builtin.Slice.sliceApplied Builtin.Slice.sliceFields
  refine wpAny_bind (wpAny_bind (wpAny_field hos hds (x := vl) rfl (wpAny_bind (wpAny_field hos hds (x := vu) rfl (wpAny_bind (wpAny_field hos hds (x := .none) rfl (wpAny_pure ?_)))))))
  refine wpAny_bind (slicePart_none ?_)
  show wpAny _ _ (if ((1 : Int) == 0) = true then _ else _) _ _ s
  rw [if_neg (by decide)]
  refine wpAny_bind (slicePart_is pl (wpAny_bind (slicePart_is pu (wpAny_bind (wpAny_pure ?_)))))
  show wpAny _ _ (match Builtin.Slice.sliceAdjust lo hi 1 (n : Int) with | (lo, hi) => pure (lo, (1 : Int), Builtin.Slice.slicePlaces lo hi 1)) _ _ s
  rw [adjust_plain lo hi n]
  show wpAny _ _ (pure (((lo.elim 0 (clipAt n) : Nat) : Int), (1 : Int), Builtin.Slice.slicePlaces ((lo.elim 0 (clipAt n) : Nat) : Int) ((hi.elim n (clipAt n) : Nat) : Int) 1)) _ _ s
  rw [places_plain]
  exact wpAny_pure h
theorem clipAt_le (n : Nat) (i : Int) : clipAt n i ≤ n := by have := clipAt_cast n i; omega
theorem cut_size {α : Type} (xs : List α) (lo hi : Option Int) : (cut xs lo hi).length ≤ xs.length := by
  unfold cut
  rw [List.length_take, List.length_drop]
  omega
theorem getItem_tuple_slice {A : Around} {s : Shared} {t sl : Addr} {items : Array Value} {n : Nat} {vl vu : Value} {lo hi : Option Int} {Q : Value → Shared → Prop} (ho : s.heap.get? t = some (seqObj "tuple" items n)) (hs : s.heap.IsSliceOf sl vl vu .none) (pl : IsPart vl lo) (pu : IsPart vu hi) (hsz : items.size ≤ sizeLine)
    (h1 : cut items.toList lo hi = items.toList → Q (.ref t) s) (h2 : Q (.ref s.heap.objs.size) { s with heap := s.heap.push { cls := .type "tuple", data := .seq (cut items.toList lo hi).toArray } }) : wpAny (model prog w) A (getItem (.ref t) (.ref sl)) Q nil s := by
  have ht : IsTup s.heap t items := ⟨_, ho, rfl, n, rfl⟩
  obtain ⟨os, hos, hcs, hds⟩ := id hs
  have hTs : s.TypeIs (.ref sl) "slice" := ⟨os, hos, hcs⟩
  have hcs : sizeOk (.seq (cut items.toList lo hi).toArray) := by
    show (cut items.toList lo hi).toArray.size ≤ sizeLine
    rw [List.size_toArray]
    have := cut_size items.toList lo hi
    rw [Array.length_toList] at this
    exact Nat.le_trans this hsz
  unfold getItem
  try with_reducible refine wpAny_holding ?_
  first | refine wpAny_bind (wpAny_pure ?_) | skip
  refine wpAny_bind (wpAny_sequenceKey ht.typeIs (by decide) ?_)
  refine wpAny_bind (wpAny_callSpecial?_slot (name := Str.ofString "__getitem__") ht.typeIs slot_tuple_getitem
    (wpAny_call_entry slot_tuple_getitem ht.typeIs entry_tuple_getitem ?_ (args_tuple_getitem _ _)))
  show wpAny _ _ (Builtin.Tuple.tupleItemsOf (.ref t) >>= _) _ _ s
  refine wpAny_bind (tupleItemsOf_ ht ?_)
  refine wpAny_bind (wpAny_typeOf hTs ?_)
  rw [if_pos (by decide)]
  refine wpAny_bind (sliceApplied_plain (n := items.size) hs pl pu ?_)
  show wpAny _ _ (if (((lo.elim 0 (clipAt items.size) : Nat) : Int) == 0 && (1 : Int) == 1 && (hi.elim items.size (clipAt items.size) - lo.elim 0 (clipAt items.size)) == items.size) = true then _ else _) _ _ s
  have epick : ((List.range (hi.elim items.size (clipAt items.size) - lo.elim 0 (clipAt items.size))).filterMap fun (k : Nat) => items[(((lo.elim 0 (clipAt items.size) : Nat) : Int) + (k : Int) * 1).toNat]?).toArray = (cut items.toList lo hi).toArray := by
    have e : (fun (k : Nat) => items[(((lo.elim 0 (clipAt items.size) : Nat) : Int) + (k : Int) * 1).toNat]?) = fun k => items[lo.elim 0 (clipAt items.size) + k]? := by
      funext k
      have : (((lo.elim 0 (clipAt items.size) : Nat) : Int) + (k : Int) * 1).toNat = lo.elim 0 (clipAt items.size) + k := by omega
      rw [this]
    rw [e]
    have := pick_run items (lo.elim 0 (clipAt items.size)) (hi.elim items.size (clipAt items.size) - lo.elim 0 (clipAt items.size))
    rw [List.filterMap_map] at this
    have e2 : ((fun x => items[x]?) ∘ fun x => lo.elim 0 (clipAt items.size) + x) = fun k => items[lo.elim 0 (clipAt items.size) + k]? := rfl
    rw [e2] at this
    rw [this]
    unfold cut
    rw [Array.length_toList]
  by_cases hw : (((lo.elim 0 (clipAt items.size) : Nat) : Int) == 0 && (1 : Int) == 1 && (hi.elim items.size (clipAt items.size) - lo.elim 0 (clipAt items.size)) == items.size) = true
  · have hcut : cut items.toList lo hi = items.toList := by
      simp only [Bool.and_eq_true, beq_iff_eq] at hw
      have e0 : lo.elim 0 (clipAt items.size) = 0 := by omega
      have e1 := hw.2
      rw [e0] at e1
      unfold cut
      rw [Array.length_toList, e0, e1, List.drop_zero]
      exact List.take_of_length_le (by rw [Array.length_toList]; exact Nat.le_refl _)
    rw [if_pos hw]
    refine wpAny_bind (m := Builtin.Tuple.tupleIsExact _) ?_
    unfold Builtin.Tuple.tupleIsExact
    refine wpAny_bind (wpAny_typeOf ht.typeIs (wpAny_pure ?_))
    rw [if_pos (by decide)]
    first
      | exact wpAny_bind (wpAny_rule (wpAny_bind (wpAny_pure (wpAny_pure ⟨_, rfl, wpAny_pure (h1 hcut)⟩))))
      | exact wpAny_bind (wpAny_rule (wpAny_pure ⟨_, rfl, wpAny_pure (h1 hcut)⟩))
  · rw [if_neg hw, epick]
    first
      | exact wpAny_bind (m := Builtin.Tuple.tupleExact _) (wpAny_newObj_type (wpAny_pure ⟨_, rfl, wpAny_pure h2⟩) hcs)
      | exact wpAny_bind (m := Builtin.Tuple.tupleExact _) (wpAny_newObj_type (wpAny_bind (wpAny_pure (wpAny_pure ⟨_, rfl, wpAny_pure h2⟩))) hcs)
      | exact wpAny_bind (wpAny_bind (m := Builtin.Tuple.tupleExact _) (wpAny_newObj_type (wpAny_pure (wpAny_pure ⟨_, rfl, wpAny_pure h2⟩)) hcs))
      | exact wpAny_bind (wpAny_bind (m := Builtin.Tuple.tupleExact _) (wpAny_newObj_type (wpAny_pure ⟨_, rfl, wpAny_pure h2⟩) hcs))
theorem ev_slice_tup (hl : Ev prog w H ρ k value (.tup ts)) (h1 : EvPart prog w H ρ k l lo) (h2 : EvPart prog w H ρ k u hi) (hn : ts.length ≤ 2 ^ 20) : Ev prog w H ρ k (.Subscript value (.Slice l u none p) pos) (.tup (cut ts lo hi)) :=
  ev_subs hl (ev_slice h1 h2) fun A X s₀ s₁ s a b hr hX h01 h1 ha hb => by
    obtain ⟨a, vs, n, rfl, hXa, ho, hr'⟩ := shTup (Rd.keep ha h1.keep)
    obtain ⟨sl, vl, vu, rfl, hsl, pl, pu⟩ := hb
    have ht : IsTup s.heap a vs := ⟨_, ho, rfl, n, rfl⟩
    have hlen : vs.size = ts.length := by have := hr'.length; simpa using this
    have hc := hr'.cut (lo := lo) (hi := hi)
    refine tail_any ht.typeIs slot_tuple_getitem.lookup (getItem_tuple_slice ho hsl pl pu (by rw [sizeLine_eq]; omega) (fun e => ⟨Ext.refl s, ?_⟩) ⟨Ext.push s _ _, ?_⟩) rfl
    · rw [e] at hc
      unfold Sh Rd
      exact ⟨a, rfl, hXa, vs, n, ho, hc⟩
    · unfold Sh Rd
      refine ⟨_, rfl, fun q => ?_, _, 0, Heap.get?_push_size _ rfl, ?_⟩
      · obtain ⟨o, e⟩ := hX _ q; rw [ext_new (h01.trans h1)] at e; cases e
      · simpa using hc.keep (Keep.push _ _)
theorem strCut (x : Str) (lo hi : Option Int) : (Builtin.Str.strSliceIndices lo hi 1 x.length).filterMap (x.cps[·]?) = cut x.cps.toList lo hi := by
  have e : Builtin.Str.strSliceIndices lo hi 1 x.length = sliceRange ((lo.elim 0 (clipAt x.length) : Nat) : Int) ((hi.elim x.length (clipAt x.length) : Nat) : Int) 1 := by
    unfold Builtin.Str.strSliceIndices
    have h1 : (1 : Int) > 0 := by omega
    simp only [h1, if_true]
    congr 1
    · cases lo with
      | none => rfl
      | some v => simp only [Option.elim, clipAt_cast]
    · cases hi with
      | none => rfl
      | some v => simp only [Option.elim, clipAt_cast]
  rw [e, sliceRange_one, pick_run]
  unfold cut
  simp [Str.length]
theorem strCut_len (x : Str) (lo hi : Option Int) : (Builtin.Str.strSliceIndices lo hi 1 x.length).length = (cut x.cps.toList lo hi).length := by
  have e : Builtin.Str.strSliceIndices lo hi 1 x.length = sliceRange ((lo.elim 0 (clipAt x.length) : Nat) : Int) ((hi.elim x.length (clipAt x.length) : Nat) : Int) 1 := by
    unfold Builtin.Str.strSliceIndices
    have h1 : (1 : Int) > 0 := by omega
    simp only [h1, if_true]
    congr 1
    · cases lo with
      | none => rfl
      | some v => simp only [Option.elim, clipAt_cast]
    · cases hi with
      | none => rfl
      | some v => simp only [Option.elim, clipAt_cast]
  rw [e, sliceRange_one]
  unfold cut
  rw [List.length_map, List.length_range, List.length_take, List.length_drop, Array.length_toList]
  have : hi.elim x.cps.size (clipAt x.cps.size) ≤ x.cps.size := by
    cases hi with
    | none => exact Nat.le_refl _
    | some v => exact clipAt_le _ _
  show hi.elim x.cps.size (clipAt x.cps.size) - lo.elim 0 (clipAt x.cps.size) = min (hi.elim x.cps.size (clipAt x.cps.size) - lo.elim 0 (clipAt x.cps.size)) (x.cps.size - lo.elim 0 (clipAt x.cps.size))
  omega
theorem cut_whole {α : Type} {xs : List α} {lo hi : Option Int} (h : (cut xs lo hi).length = xs.length) : cut xs lo hi = xs := by
  unfold cut at h ⊢
  rw [List.length_take, List.length_drop] at h
  by_cases h0 : xs.length = 0
  · have : xs = [] := List.eq_nil_of_length_eq_zero h0
    subst this; simp
  · have e0 : lo.elim 0 (clipAt xs.length) = 0 := by omega
    rw [e0, List.drop_zero]
    rw [e0] at h
    exact List.take_of_length_le (by omega)
def cutS (x : Str) (lo hi : Option Int) : Str := ⟨(cut x.cps.toList lo hi).toArray⟩
theorem sOk_cut {x : Str} {lo hi : Option Int} (h : sOk x = true) : sOk (cutS x lo hi) = true := by
  rw [sOk_iff] at h ⊢
  refine ⟨fun c hc => h.1 c ?_, Nat.le_trans (cut_size x.cps.toList lo hi) h.2⟩
  have hc' : c ∈ cut x.cps.toList lo hi := hc
  unfold cut at hc'
  exact List.mem_of_mem_drop (List.mem_of_mem_take hc')
theorem ev_slice_str (hl : Ev prog w H ρ k value (.str x)) (h1 : EvPart prog w H ρ k l lo) (h2 : EvPart prog w H ρ k u hi) : Ev prog w H ρ k (.Subscript value (.Slice l u none p) pos) (.str (cutS x lo hi)) :=
  ev_subs hl (ev_slice h1 h2) fun A X s₀ s₁ s a b hr hX h01 h1 ha hb => by
    obtain ⟨t, rfl, hok⟩ := rd_str_iff.mp ha
    obtain ⟨sl, vl, vu, rfl, hsl, pl, pu⟩ := hb
    have hT : s.TypeIs (.str x t) "str" := rfl
    obtain ⟨ol, eol⟩ : ∃ ol : Option (Int × Tok), vl = partValue ol ∧ ol.map (·.1) = lo := by
      cases pl with
      | none => exact ⟨none, rfl, rfl⟩
      | int i t => exact ⟨some (i, t), rfl, rfl⟩
    obtain ⟨ou, eou⟩ : ∃ ol : Option (Int × Tok), vu = partValue ol ∧ ol.map (·.1) = hi := by
      cases pu with
      | none => exact ⟨none, rfl, rfl⟩
      | int i t => exact ⟨some (i, t), rfl, rfl⟩
    have hS : s.heap.IsSlice sl ol ou none := by
      obtain ⟨o, e1, e2, e3⟩ := hsl
      exact ⟨o, e1, e2, by rw [e3, eol.1, eou.1]; rfl⟩
    refine tail_any hT slot_str_getitem.lookup (wpAny_getItem_str_slice hS rfl ?_) rfl
    have hp : slicePicked x ol ou none = Builtin.Str.strSliceIndices lo hi 1 x.length := by unfold slicePicked; rw [eol.2, eou.2]; rfl
    unfold sliceMade
    rw [hp]
    split
    · rename_i hw
      have hlen : (cut x.cps.toList lo hi).length = x.cps.toList.length := by
        simp only [Bool.and_eq_true, beq_iff_eq] at hw
        rw [← strCut_len, hw.2]; rfl
      have : cutS x lo hi = x := by
        unfold cutS
        rw [cut_whole hlen]
      rw [this]
      exact ⟨Ext.refl s, rd_str hok⟩
    · rw [strCut]
      refine ⟨?_, Ext.tok s _, rd_str (sOk_cut hok)⟩
      have hc := cut_size x.cps.toList lo hi
      show (cut x.cps.toList lo hi).toArray.size ≤ sizeLine
      have h2 : x.cps.toList.length ≤ 2 ^ 16 := (sOk_iff.mp hok).2
      have h3 := Nat.le_trans hc h2
      rw [sizeLine_eq]
      exact Nat.le_trans h3 (by decide)
end slices
end Mine

end
section
namespace Mine
open PySem PyProof.Rows
variable {prog : Program} {w : World} {H : Heap} {mg mb : Str → Option Value}

mutual
def pd : T → PyData
  | .none => .none
  | .bool b => .bool b
  | .int i => .int i
  | .str x => .str x
  | .tup xs => .tuple (pds xs)
  | .list xs => .list (pds xs)
  | .sd _ => .none
  | .fd _ => .none
def pds : List T → List PyData
  | [] => []
  | t :: ts => pd t :: pds ts
end
theorem pds_map : ∀ ts : List T, pds ts = ts.map pd
  | [] => rfl
  | t :: ts => by rw [pds, pds_map ts, List.map_cons]
def flat : Nat → T → Bool
  | _, .none => true
  | _, .bool _ => true
  | _, .int _ => true
  | _, .str _ => true
  | n + 1, .tup xs => xs.all (flat n)
  | n + 1, .list xs => xs.all (flat n)
  | _, _ => false
theorem flatL_reads {X : Xs} {h : Heap} {n : Nat} (ih : ∀ (t : T) (v : Value), flat n t = true → Rd prog w X h t v → (∃ as, Reads h v (pd t) as) ∧ (pd t).canLay0 = true ∧ (pd t).depth ≤ n) :
    ∀ (ts : List T) (vs : List Value), ts.all (flat n) = true → RdL prog w X h ts vs → (∃ as, ReadsAll h vs (pds ts) as) ∧ PyData.canLayAll0 (pds ts) = true ∧ PyData.depthAll (pds ts) ≤ n
  | [], _, _, r => by
    unfold RdL at r; subst r
    exact ⟨⟨_, .nil⟩, by simp [pds, PyData.canLayAll0], by simp [pds, PyData.depthAll]⟩
  | t :: ts, _, hf, r => by
    unfold RdL at r
    obtain ⟨v, r', rfl, h1, h2⟩ := r
    rw [List.all_cons, Bool.and_eq_true] at hf
    obtain ⟨⟨as, q1⟩, c1, d1⟩ := ih t v hf.1 h1
    obtain ⟨⟨bs, q2⟩, c2, d2⟩ := flatL_reads ih ts r' hf.2 h2
    refine ⟨⟨_, ReadsAll.cons q1 q2⟩, ?_, ?_⟩
    · simp [pds, PyData.canLayAll0, c1, c2]
    · simp only [pds, PyData.depthAll]; omega
theorem flat_reads {X : Xs} {h : Heap} : ∀ (n : Nat) (t : T) (v : Value), flat n t = true → Rd prog w X h t v → (∃ as, Reads h v (pd t) as) ∧ (pd t).canLay0 = true ∧ (pd t).depth ≤ n := by
  have base : ∀ (n : Nat) (t : T) (v : Value), (match t with | .tup _ | .list _ | .sd _ | .fd _ => False | _ => True) → Rd prog w X h t v → (∃ as, Reads h v (pd t) as) ∧ (pd t).canLay0 = true ∧ (pd t).depth ≤ n := by
    intro n t v ht r
    cases t with
    | none => rw [rd_none_iff] at r; subst r; exact ⟨⟨_, .none⟩, rfl, by simp [pd, PyData.depth]⟩
    | bool b => rw [rd_bool_iff] at r; subst r; exact ⟨⟨_, .bool b⟩, rfl, by simp [pd, PyData.depth]⟩
    | int i => rw [rd_int_iff] at r; obtain ⟨t, rfl⟩ := r; exact ⟨⟨_, .int i t⟩, rfl, by simp [pd, PyData.depth]⟩
    | str x =>
      rw [rd_str_iff] at r; obtain ⟨t, rfl, hok⟩ := r
      refine ⟨⟨_, .str x t⟩, ?_, by simp [pd, PyData.depth]⟩
      unfold sOk at hok
      rw [Bool.and_eq_true] at hok
      simp only [pd, PyData.canLay0]
      exact hok.1
    | tup _ => exact ht.elim
    | list _ => exact ht.elim
    | sd _ => exact ht.elim
    | fd _ => exact ht.elim
  intro n
  induction n with
  | zero =>
    intro t v hf r
    cases t <;> first | exact base 0 _ v trivial r | simp [flat] at hf
  | succ n ih =>
    intro t v hf r
    cases t with
    | tup xs =>
      unfold Rd at r
      obtain ⟨a, rfl, _, vs, m, ho, q⟩ := r
      obtain ⟨⟨as, q1⟩, c1, d1⟩ := flatL_reads ih xs _ (by simpa [flat] using hf) q
      exact ⟨⟨_, Reads.tuple ho rfl rfl q1⟩, by simpa [pd, PyData.canLay0] using c1, by simp only [pd, PyData.depth]; omega⟩
    | list xs =>
      unfold Rd at r
      obtain ⟨a, rfl, _, vs, m, ho, q⟩ := r
      obtain ⟨⟨as, q1⟩, c1, d1⟩ := flatL_reads ih xs _ (by simpa [flat] using hf) q
      exact ⟨⟨_, Reads.list ho rfl rfl q1⟩, by simpa [pd, PyData.canLay0] using c1, by simp only [pd, PyData.depth]; omega⟩
    | sd _ => simp [flat] at hf
    | fd _ => simp [flat] at hf
    | none => exact base _ _ v trivial r
    | bool b => exact base _ _ v trivial r
    | int i => exact base _ _ v trivial r
    | str x => exact base _ _ v trivial r
def eqT (a b : T) : Bool := PyData.eqv (pd a) (pd b)
section
variable (prog : Program) (w : World) (H : Heap)
def Cmp (op : CmpOp) (ρ : Rho) (k : Nat) (l r : Expr) (c : Bool) : Prop :=
  ∀ (A : Around) (env : Env) (X : Xs) (role : Addr → Option Role) (s : Shared), Rm k A → St prog w H X role env ρ s.heap →
    wpAny (model prog w) A (eval l env) (fun a s₁ => wpAny (model prog w) A (eval r env) (fun b s₂ => wpAny (model prog w) A (compareOp op a b) (fun v s' => Ext s s' ∧ v = .bool c) nil s₂) nil s₁) nil s
end
theorem cmp_two {R₁ R₂ : Xs → Heap → Heap → Value → Prop} {ρ : Rho} {k : Nat} {l r : Expr} {op : CmpOp} {c : Bool}
    (hl : EvR prog w H R₁ ρ k l) (hr : EvR prog w H R₂ ρ k r)
    (hf : ∀ (A : Around) (X : Xs) (s₀ s₁ s : Shared) (a b : Value), Rm k A → Ext s₀ s₁ → Ext s₁ s → R₁ X s₀.heap s₁.heap a → R₂ X s₁.heap s.heap b → wpAny (model prog w) A (compareOp op a b) (fun v s' => Ext s s' ∧ v = .bool c) nil s) :
    Cmp prog w H op ρ k l r c := fun A env X role s hr' S => by
  refine wpAny_mono (hl A env X role s hr' S) (fun a s₁ h₁ => ?_) fun _ _ q => q
  refine wpAny_mono (hr A env X role s₁ hr' (S.keep h₁.1.keep)) (fun b s₂ h₂ => ?_) fun _ _ q => q
  exact wpAny_mono (hf A X s s₁ s₂ a b hr' h₁.1 h₂.1 h₁.2 h₂.2) (fun v s' h => ⟨(h₁.1.trans h₂.1).trans h.1, h.2⟩) fun _ _ q => q
section
variable {ρ : Rho} {k : Nat} {l r : Expr} {op : CmpOp} {c : Bool} {pos : Pos} {a b : Int} {t u : T} {x y : Str}
theorem ev_cmp (h : Cmp prog w H op ρ k l r c) (hm : behindInMarks op r = false := by with_unfolding_all rfl) : Ev prog w H ρ k (.Compare l [op] [r] pos) (.bool c) := fun A env X role s hr S =>
  wpAny_Compare1 (wpAny_mono (h A env X role s hr S) (fun a s₁ h₁ => wpAny_mono h₁ (fun b s₂ h₂ => wpAny_mono h₂ (fun v s' q => ⟨q.1, q.2 ▸ rd_bool⟩) fun _ _ q => q) fun _ _ q => q) fun _ _ q => q) hm
theorem tr_cmp (h : Cmp prog w H op ρ k l r c) (hm : behindInMarks op r = false := by with_unfolding_all rfl) : Tr prog w H ρ k (.Compare l [op] [r] pos) c := fun A env X role s hr S =>
  wpAny_isTrue_Compare1 (wpAny_mono (h A env X role s hr S) (fun a s₁ h₁ => wpAny_mono h₁ (fun b s₂ h₂ => wpAny_mono h₂ (fun v s' q => by obtain ⟨q1, rfl⟩ := q; exact wpAny_truthy_bool ⟨q1, rfl⟩) fun _ _ q => q) fun _ _ q => q) fun _ _ q => q) hm
theorem cmp_lt (hl : Ev prog w H ρ k l (.int a)) (hr : Ev prog w H ρ k r (.int b)) : Cmp prog w H .Lt ρ k l r (decide (a < b)) := cmp_two hl hr fun A X s₀ s₁ s va vb _ _ _ ha hb => by
  obtain ⟨t, rfl⟩ := rd_int_iff.mp ha
  obtain ⟨u, rfl⟩ := rd_int_iff.mp hb
  exact lt_int ⟨Ext.refl s, rfl⟩
theorem cmp_gt (hl : Ev prog w H ρ k l (.int a)) (hr : Ev prog w H ρ k r (.int b)) : Cmp prog w H .Gt ρ k l r (decide (b < a)) := cmp_two hl hr fun A X s₀ s₁ s va vb _ _ _ ha hb => by
  obtain ⟨t, rfl⟩ := rd_int_iff.mp ha
  obtain ⟨u, rfl⟩ := rd_int_iff.mp hb
  exact gt_int ⟨Ext.refl s, rfl⟩
theorem room_eq {A : Around} {da db : PyData} (hr : Rm k A) (h : da.depth ≤ 64) : A.units + 1 + min da.depth db.depth < cLine := by
  have := hr.2.1
  have h2 : min da.depth db.depth ≤ da.depth := Nat.min_le_left _ _
  omega
theorem cmp_eq (hl : EvP prog w H ρ k l t) (hr : EvP prog w H ρ k r u) (ht : flat 64 t = true) (hu : flat 64 u = true) : Cmp prog w H .Eq ρ k l r (eqT t u) := cmp_two hl hr fun A X s₀ s₁ s va vb hR _ h1 ha hb => by
  obtain ⟨⟨as, qa⟩, ca, da⟩ := flat_reads 64 _ _ ht (Rd.keep ha h1.keep)
  obtain ⟨⟨bs, qb⟩, cb, db⟩ := flat_reads 64 _ _ hu hb
  exact SeqAt.compareEq_reads qa qb ca cb (by have := room_eq (db := pd u) hR da; omega) ⟨Ext.refl s, rfl⟩
theorem cmp_ne (hl : EvP prog w H ρ k l t) (hr : EvP prog w H ρ k r u) (ht : flat 64 t = true) (hu : flat 64 u = true) : Cmp prog w H .NotEq ρ k l r (!eqT t u) := cmp_two hl hr fun A X s₀ s₁ s va vb hR _ h1 ha hb => by
  obtain ⟨⟨as, qa⟩, ca, da⟩ := flat_reads 64 _ _ ht (Rd.keep ha h1.keep)
  obtain ⟨⟨bs, qb⟩, cb, db⟩ := flat_reads 64 _ _ hu hb
  exact SeqAt.compareNe_reads qa qb ca cb (by have := room_eq (db := pd u) hR da; omega) ⟨Ext.refl s, rfl⟩
theorem any_pds (ts : List T) (u : T) : ((pds ts).any fun y => PyData.eqv y (pd u)) = ts.any fun y => eqT y u := by
  rw [pds_map, List.any_map]; rfl
theorem in_room {A : Around} {ts : List T} {u : T} (hr : Rm k A) (h : (pd u).depth ≤ 64) : A.units + 1 + min (PyData.depthAll (pds ts)) (pd u).depth < cLine := by
  have := hr.2.1
  have h2 : min (PyData.depthAll (pds ts)) (pd u).depth ≤ (pd u).depth := Nat.min_le_right _ _
  omega
theorem lay_list {ts : List T} (h : (pd (.list ts)).canLay0 = true) : PyData.canLayAll0 (pds ts) = true := by simpa [pd, PyData.canLay0] using h
variable {ts : List T}
theorem cmp_in (hl : EvP prog w H ρ k l u) (hr : EvP prog w H ρ k r (.list ts)) (hu : flat 64 u = true) (ht : flat 64 (.list ts) = true) : Cmp prog w H .In ρ k l r (ts.any fun y => eqT y u) := cmp_two hl hr fun A X s₀ s₁ s va vb hR _ h1 ha hb => by
  obtain ⟨⟨as, qa⟩, ca, da⟩ := flat_reads 64 _ _ hu (Rd.keep ha h1.keep)
  obtain ⟨⟨bs, qb⟩, cb, db⟩ := flat_reads 64 _ _ ht hb
  rw [pd] at qb
  exact SeqAt.in_list_reads qb qa (lay_list cb) ca (in_room hR da) ⟨Ext.refl s, by rw [any_pds]⟩
def isNone : T → Bool
  | .none => true
  | _ => false
theorem rd_isNone {X : Xs} {h : Heap} {t : T} {v : Value} (r : Rd prog w X h t v) : (v == .none) = isNone t := by
  cases t with
  | none => rw [rd_none_iff] at r; subst r; rfl
  | bool b => rw [rd_bool_iff] at r; subst r; rfl
  | int i => rw [rd_int_iff] at r; obtain ⟨t, rfl⟩ := r; rfl
  | str x => rw [rd_str_iff] at r; obtain ⟨t, rfl, _⟩ := r; rfl
  | tup _ => unfold Rd at r; obtain ⟨a, rfl, _⟩ := r; rfl
  | list _ => unfold Rd at r; obtain ⟨a, rfl, _⟩ := r; rfl
  | sd _ => unfold Rd at r; obtain ⟨a, rfl, _⟩ := r; rfl
  | fd _ => unfold Rd at r; obtain ⟨a, rfl, _⟩ := r; rfl
theorem cmp_isNone (hl : EvP prog w H ρ k l t) (hr : Ev prog w H ρ k r .none) : Cmp prog w H .Is ρ k l r (isNone t) := cmp_two hl hr fun A X s₀ s₁ s va vb hR _ h1 ha hb => by
  rw [Sh, rd_none_iff] at hb; subst hb
  exact is_none ⟨Ext.refl s, by rw [rd_isNone ha]⟩
end
end Mine

end
section
namespace Mine
open PySem PyProof.Rows
variable {prog : Program} {w : World} {H : Heap} {mg mb : Str → Option Value}

def plainTest : Expr → Bool
  | .UnaryOp .Not _ _ | .BoolOp .. | .IfExp .. | .Compare .. => false
  | _ => true
theorem isTrue_plain {e : Expr} {env : Env} {whole : Sem Value} (h : plainTest e = true) : isTrue e env whole = (do let v ← whole; standAt e.pos; holding [v] (truthy v)) := by
  cases e with
  | UnaryOp op x p => cases op <;> first | rfl | simp [plainTest] at h
  | BoolOp => simp [plainTest] at h
  | IfExp => simp [plainTest] at h
  | Compare => simp [plainTest] at h
  | _ => rfl
section
variable {ρ : Rho} {k : Nat} {e e₁ e₂ : Expr} {es rest : List Expr} {b c : Bool} {pos : Pos} {a : Int} {t u : T} {x : Str} {ts : List T} {op : BoolOp}
theorem tr_val {R : Xs → Heap → Heap → Value → Prop} (he : EvR prog w H R ρ k e) (hp : plainTest e = true) (ht : ∀ (A : Around) (X : Xs) (s₀ s : Shared) (v : Value), Ext s₀ s → R X s₀.heap s.heap v → wpAny (model prog w) A (truthy v) (fun c s' => Ext s s' ∧ c = b) nil s) : Tr prog w H ρ k e b := fun A env X role s hr S =>
  wpAny_isTrue_value (wpAny_mono (he A env X role s hr S) (fun v s₁ h₁ => wpAny_mono (ht A X s s₁ v h₁.1 h₁.2) (fun c s' q => ⟨h₁.1.trans q.1, q.2⟩) fun _ _ q => q) fun _ _ q => q) (isTrue_plain hp)
def truth : T → Bool
  | .none => false
  | .bool b => b
  | .int i => i != 0
  | .str x => x.length != 0
  | .tup xs => !xs.isEmpty
  | .list xs => !xs.isEmpty
  | .sd es => !es.isEmpty
  | .fd ks => !ks.isEmpty
def fits : T → Prop
  | .tup xs => xs.length < 2 ^ 62
  | .list xs => xs.length < 2 ^ 62
  | .sd es => es.length < 2 ^ 62
  | .fd _ => False
  | _ => True
theorem SdVals.length : ∀ {es : List (Str × Option Str)} {kvs : List (Str × Value)}, SdVals es kvs → kvs.length = es.length
  | [], _, h => by unfold SdVals at h; subst h; rfl
  | (k, o) :: r, _, h => by
    unfold SdVals at h
    obtain ⟨v, r', rfl, _, _, h⟩ := h
    rw [List.length_cons, List.length_cons, h.length]
theorem isEmpty_len {α β : Type} {xs : List α} {ys : List β} (h : xs.length = ys.length) : xs.isEmpty = ys.isEmpty := by
  cases xs <;> cases ys <;> simp at h ⊢
theorem arr_isEmpty {α : Type} {vs : Array Value} {ts : List α} (h : vs.toList.length = ts.length) : vs.isEmpty = ts.isEmpty := by
  rw [← isEmpty_len h]
  cases vs with
  | mk l => cases l <;> rfl
theorem truthy_rd {X : Xs} {A : Around} {s : Shared} {v : Value} {t : T} (r : Rd prog w X s.heap t v) (hf : fits t) : wpAny (model prog w) A (truthy v) (fun c s' => Ext s s' ∧ c = truth t) nil s := by
  cases t with
  | none => rw [rd_none_iff] at r; subst r; exact truthy_none ⟨Ext.refl s, rfl⟩
  | bool b => rw [rd_bool_iff] at r; subst r; exact wpAny_truthy_bool ⟨Ext.refl s, rfl⟩
  | int i => rw [rd_int_iff] at r; obtain ⟨t, rfl⟩ := r; exact truthy_int ⟨Ext.refl s, rfl⟩
  | str x =>
    rw [rd_str_iff] at r; obtain ⟨t, rfl, hok⟩ := r
    refine PySem.P.truthy_str ?_ ⟨Ext.tok s _, ?_⟩
    · have h2 : x.length ≤ 2 ^ 16 := (sOk_iff.mp hok).2
      omega
    · unfold truth
      rw [Bool.eq_iff_iff]; simp
  | tup xs =>
    unfold Rd at r; obtain ⟨a, rfl, _, vs, n, ho, q⟩ := r
    have hL : IsTup s.heap a vs := ⟨_, ho, rfl, n, rfl⟩
    have hn := q.length
    refine truthy_tuple hL (by have h2 : xs.length < 2 ^ 62 := hf; rw [Array.length_toList] at hn; omega) ⟨Ext.tok s _, ?_⟩
    unfold truth; rw [arr_isEmpty hn]
  | list xs =>
    unfold Rd at r; obtain ⟨a, rfl, _, vs, n, ho, q⟩ := r
    have hL : s.heap.IsList a vs := ⟨_, ho, rfl, n, rfl⟩
    have hn := q.length
    refine wpAny_truthy_list hL (by have h2 : xs.length < 2 ^ 62 := hf; rw [Array.length_toList] at hn; omega) ⟨Ext.tok s _, ?_⟩
    unfold truth; rw [arr_isEmpty hn]
  | sd es =>
    unfold Rd at r; obtain ⟨a, rfl, _, hy, kvs, ho, q⟩ := r
    have hn := q.length
    refine wpAny_truthy_dict hy ho (by have h2 : es.length < 2 ^ 62 := hf; omega) ⟨Ext.tok s _, ?_⟩
    unfold truth; rw [isEmpty_len hn]
  | fd ks => exact hf.elim
theorem tr_bool (he : Ev prog w H ρ k e (.bool b)) (hp : plainTest e = true := by with_unfolding_all rfl) : Tr prog w H ρ k e b := tr_val he hp fun A X s₀ s v hx r => truthy_rd r trivial
section
variable (prog : Program) (w : World) (H : Heap)
def TrL (op : BoolOp) (ρ : Rho) (k : Nat) (es : List Expr) (b : Bool) : Prop :=
  ∀ (A : Around) (env : Env) (X : Xs) (role : Addr → Option Role) (s : Shared), Rm k A → St prog w H X role env ρ s.heap →
    wpAny (model prog w) A (allTrue op es env) (fun c s' => Ext s s' ∧ c = b) nil s
end
theorem trl_and_nil : TrL prog w H .And ρ k [] true := fun A env X role s hr S => wpAny_allTrue_And_nil ⟨Ext.refl s, rfl⟩
theorem trl_or_nil : TrL prog w H .Or ρ k [] false := fun A env X role s hr S => wpAny_allTrue_Or_nil ⟨Ext.refl s, rfl⟩
theorem trl_and (h : Tr prog w H ρ k e b) (h2 : b = true → TrL prog w H .And ρ k es c) : TrL prog w H .And ρ k (e :: es) (b && c) := fun A env X role s hr S =>
  wpAny_allTrue_And_cons (wpAny_mono (h A env X role s hr S) (fun d s' q => by
    obtain ⟨q1, rfl⟩ := q
    cases d with
    | true => exact wpAny_mono (h2 rfl A env X role s' hr (S.keep q1.keep)) (fun v s'' z => ⟨q1.trans z.1, by simpa using z.2⟩) fun _ _ q => q
    | false => exact ⟨q1, rfl⟩) fun _ _ q => q)
theorem trl_or (h : Tr prog w H ρ k e b) (h2 : b = false → TrL prog w H .Or ρ k es c) : TrL prog w H .Or ρ k (e :: es) (b || c) := fun A env X role s hr S =>
  wpAny_allTrue_Or_cons (wpAny_mono (h A env X role s hr S) (fun d s' q => by
    obtain ⟨q1, rfl⟩ := q
    cases d with
    | false => exact wpAny_mono (h2 rfl A env X role s' hr (S.keep q1.keep)) (fun v s'' z => ⟨q1.trans z.1, by simpa using z.2⟩) fun _ _ q => q
    | true => exact ⟨q1, rfl⟩) fun _ _ q => q)
theorem tr_boolop (h : TrL prog w H op ρ k es b) : Tr prog w H ρ k (.BoolOp op es pos) b := fun A env X role s hr S => wpAny_isTrue_BoolOp (h A env X role s hr S)
theorem ev_bool1 (h : Ev prog w H ρ k e (.bool b)) : Ev prog w H ρ k (.BoolOp op [e] pos) (.bool b) := fun A env X role s hr S => BoolOp_one (h A env X role s hr S)
theorem ev_and (h : Ev prog w H ρ k e₁ (.bool b)) (h2 : b = true → Ev prog w H ρ k (.BoolOp .And (e₂ :: rest) pos) (.bool c)) : Ev prog w H ρ k (.BoolOp .And (e₁ :: e₂ :: rest) pos) (.bool (b && c)) := fun A env X role s hr S =>
  BoolOp_and (wpAny_mono (h A env X role s hr S) (fun v s' q => by
    obtain ⟨q1, q2⟩ := q
    rw [Sh, rd_bool_iff] at q2; subst q2
    refine wpAny_truthy_bool ?_
    cases b with
    | true => exact wpAny_mono (h2 rfl A env X role s' hr (S.keep q1.keep)) (fun v s'' z => ⟨q1.trans z.1, by rw [Bool.true_and]; exact z.2⟩) fun _ _ q => q
    | false => exact ⟨q1, rd_bool⟩) fun _ _ q => q)
theorem ev_neg (h : Ev prog w H ρ k e (.int a)) : Ev prog w H ρ k (.UnaryOp .USub e pos) (.int (-a)) := fun A env X role s hr S =>
  wpAny_UnaryOp (wpAny_mono (h A env X role s hr S) (fun v s' q => by
    obtain ⟨q1, q2⟩ := q
    obtain ⟨t, rfl⟩ := rd_int_iff.mp q2
    exact PyProof.Rows.neg_int ⟨q1.trans (Ext.tok _ _), rd_int⟩) fun _ _ q => q)
end
end Mine

end
section
namespace Mine
open PySem PyProof.Rows
variable {prog : Program} {w : World} {H : Heap} {mg mb : Str → Option Value}

inductive EvL (prog : Program) (w : World) (H : Heap) (ρ : Rho) (k : Nat) : List Expr → List T → Prop
  | nil : EvL prog w H ρ k [] []
  | cons {e : Expr} {t : T} {es : List Expr} {ts : List T} : Ev prog w H ρ k e t → EvL prog w H ρ k es ts → EvL prog w H ρ k (e :: es) (t :: ts)
theorem EvL.args {ρ : Rho} {k : Nat} {es : List Expr} {ts : List T} (x : EvL prog w H ρ k es ts) : EvArgs prog w H ρ k es (ts.map fun t => (false, t)) := by
  induction x with
  | nil => exact .nil
  | cons h _ ih => exact .sh h ih
theorem ArgsOk.rdl {X : Xs} {h : Heap} : ∀ {ts : List T} {vs : List Value}, ArgsOk prog w X h (ts.map fun t => (false, t)) vs → RdL prog w X h ts vs
  | [], _, x => by unfold RdL; exact x
  | t :: ts, _, ⟨v, r', e, x, y⟩ => by unfold RdL; exact ⟨v, r', e, x, ArgsOk.rdl y⟩
theorem fresh_addr (h : Heap) : h.get? h.objs.size = none := Heap.get?_none_of_le (Nat.le_refl _)
theorem push_at (h : Heap) (T : String) (vs : Array Value) (n : Nat) : (h.push (seqObj T vs n)).get? h.objs.size = some (seqObj T vs n) := Heap.get?_push_size _ rfl
theorem notX_fresh {X : Xs} {h : Heap} (hl : ∀ a, X a → ∃ o, h.get? a = some o) : ¬ X h.objs.size := fun q => by obtain ⟨o, e⟩ := hl _ q; rw [fresh_addr] at e; cases e
theorem fh_listL {X : Xs} {s₀ s : Shared} {ts : List T} {vs : List Value} (hx : Ext s₀ s) (r : RdL prog w X s.heap ts vs) : Fh prog w (.list ts) X s₀.heap (s.heap.push (seqObj "list" vs.toArray 0)) (.ref s.heap.objs.size) :=
  fh_list (tk := 0) hx (by simpa using r)
theorem sh_tup {X : Xs} {s : Shared} {ts : List T} {vs : List Value} {n : Nat} (hl : ∀ a, X a → ∃ o, s.heap.get? a = some o) (r : RdL prog w X s.heap ts vs) : Rd prog w X (s.heap.push (seqObj "tuple" vs.toArray n)) (.tup ts) (.ref s.heap.objs.size) := by
  unfold Rd
  exact ⟨_, rfl, notX_fresh hl, vs.toArray, n, push_at _ _ _ _, by simpa using r.keep (Keep.push _ _)⟩
section
variable {ρ : Rho} {k kk : Nat} {es : List Expr} {ts us : List T} {pos : Pos} {l r : Expr} {x y : Str}
theorem evF_list (he : EvL prog w H ρ k es ts) (hn : noStar es = true := by with_unfolding_all rfl) (hsz : es.length ≤ 2 ^ 20 := by decide +kernel) : EvF prog w H ρ k (.List es pos) (.list ts) := fun A env X role s hr S =>
  List_ (spliced_args hr he.args hn S fun vs s' hx ha hlen => wpAny_newList ⟨hx.trans (Ext.push _ _ _), fh_listL hx ha.rdl⟩ (by rw [hlen, sizeLine_eq]; exact Nat.le_trans hsz (by decide)))
theorem notSys {H h : Heap} (G : Gl H mg mb) (hk : Keep H h) : (h.objs.size == sysModules) = false := by
  obtain ⟨o, es, ep, ho, _⟩ := G.g
  have h2 : mainGlobals < h.objs.size := Heap.lt_size (hk _ _ ho)
  have h1 : sysModules < mainGlobals := by decide
  exact beq_eq_false_iff_ne.mpr (Nat.ne_of_gt (Nat.lt_trans h1 h2))
theorem evF_sd0 (G : Gl H mg mb) : EvF prog w H ρ k (.Dict [] [] pos) (.sd []) := fun A env X role s hr S =>
  wpAny_Dict_empty ⟨Ext.push _ _ _, _, rfl, fresh_addr _, notSys G S.top, [], Heap.DictOf.new _, by unfold SdVals; rfl⟩
theorem sOk_append (hx : sOk x = true) (hy : sOk y = true) (h : x.length + y.length ≤ 2 ^ 16) : sOk (x ++ y) = true := by
  rw [sOk_iff] at hx hy ⊢
  have e : (x ++ y).cps.toList = x.cps.toList ++ y.cps.toList := by
    show (x.cps ++ y.cps).toList = _
    simp
  rw [e]
  refine ⟨fun c hc => (List.mem_append.mp hc).elim (hx.1 c) (hy.1 c), ?_⟩
  rw [List.length_append]
  exact h
theorem ev_adds (hl : Ev prog w H ρ k l (.str x)) (hr : Ev prog w H ρ k r (.str y)) (h : x.length + y.length ≤ 2 ^ 16) : Ev prog w H ρ k (.BinOp l .Add r pos) (.str (x ++ y)) :=
  ev_two hl hr (fun _ _ _ _ h => wpAny_BinOp h) fun A X s₀ s₁ s va vb _ _ _ _ ha hb => by
    obtain ⟨t, rfl, ox⟩ := rd_str_iff.mp ha
    obtain ⟨u, rfl, oy⟩ := rd_str_iff.mp hb
    exact PyProof.Rows.add_str (fun t' tk => ⟨Ext.tok s _, rd_str (sOk_append ox oy h)⟩) (by rw [sizeLine_eq]; exact Nat.le_trans h (by decide))
theorem evF_addl (hl : EvS prog w H ρ k l (.list ts)) (hr : EvS prog w H ρ k r (.list us)) (h : ts.length + us.length ≤ 2 ^ 20) : EvF prog w H ρ k (.BinOp l .Add r pos) (.list (ts ++ us)) :=
  ev_two hl hr (fun _ _ _ _ h => wpAny_BinOp h) fun A X s₀ s₁ s va vb _ _ h01 h1 ha hb => by
    obtain ⟨a, vs, n, rfl, ho, ra⟩ := swList (RdS.keep ha h1.keep)
    obtain ⟨b, ws, m, rfl, hp, rb⟩ := swList hb
    have e1 := ra.length
    have e2 := rb.length
    rw [Array.length_toList] at e1 e2
    refine PySem.P.add_list ho hp ⟨Ext.push _ _ _, ?_⟩ (by rw [e1, e2, sizeLine_eq]; exact Nat.le_trans h (by decide))
    have := fh_listL (h01.trans h1) (ra.append rb)
    rw [show (vs.toList ++ ws.toList).toArray = vs ++ ws by simp] at this
    exact this
end
end Mine

end
section
namespace Mine
open PySem PyProof.Rows
variable {prog : Program} {w : World} {H : Heap} {mg mb : Str → Option Value}

theorem Fs.turn {X₀ : Xs} {h₀ h h' : Heap} {role : Addr → Option Role} {env : Env} {ρ ρ' : Rho} {x : Str} {t' : T} {a : Addr} (F : Fs prog w H X₀ h₀ role env ρ h) (hv : Var env h x (some (.ref a))) (hr : role a = some (.own x))
    (hs : ∀ b o, b ≠ a → h.get? b = some o → h'.get? b = some o) (hat : At prog w (Xof X₀ role) h' a t') (hp : Put x (.ow t') ρ ρ') : Fs prog w H X₀ h₀ role env ρ' h' := by
  have hra : role a ≠ none := by rw [hr]; simp
  have hX : Xof X₀ role a := .inr hra
  have hk : Kept (Xof X₀ role) h h' := fun b o e q => hs b o (fun z => q (z ▸ hX)) e
  have h0a : ∀ b o, h₀.get? b = some o → b ≠ a := fun b o e q => by subst q; rw [F.fresh _ hra] at e; cases e
  have hkeep : Keep h₀ h' := fun b o e => hs b o (h0a b o e) (F.keep b o e)
  have hloc : env.locals ≠ a := fun q => by have := F.loc; rw [q, hr] at this; cases this
  have hcel : ∀ y c, env.cells.lookup y = some c → c ≠ a := fun y c e q => by have := F.cel y c e; rw [q, hr] at this; cases this
  have hvar : ∀ {y ov}, Var env h y ov → Var env h' y ov := fun {y ov} v => v.imp
    (fun ⟨a, m, ⟨o, es, ep, ho, r⟩, e⟩ => ⟨a, m, ⟨o, es, ep, hs _ _ hloc ho, r⟩, e⟩)
    fun ⟨a, c, e, o, ho, hd⟩ => ⟨a, c, e, o, hs _ _ (hcel _ _ e) ho, hd⟩
  refine ⟨⟨F.st.kind, F.st.glo, F.st.blt, F.top0.trans hkeep, fun b q => ?_, F.st.rx, hp.names ▸ F.st.nodup, fun p hm => ?_⟩, hkeep, F.top0, F.x0, F.fresh, F.loc, F.cel, ?_⟩
  · by_cases hb : b = a
    · subst hb; exact hat.live
    · obtain ⟨o, e⟩ := F.st.live b q; exact ⟨o, hs b o hb e⟩
  · rcases hp.mem F.st.nodup p hm with rfl | ⟨hm, hne⟩
    · exact ⟨a, hvar hv, hr, hat⟩
    · refine (F.st.vars p hm).other hk (fun ov v => hvar v) fun b o e q => hs b o (fun hb => ?_) e
      subst hb
      rw [hr] at q
      rcases q with q | q
      · cases q; exact hne rfl
      · cases q
  · obtain ⟨m, o, es, ep, ho, r⟩ := F.ns
    exact ⟨m, o, es, ep, hs _ _ hloc ho, r⟩
def Mut (a : Addr) (s s' : Shared) : Prop := ∃ h' tk, s' = { s with heap := h', toks := tk } ∧ ∀ b o, b ≠ a → s.heap.get? b = some o → h'.get? b = some o
theorem Mut.kp {role : Addr → Option Role} {a : Addr} {s s' : Shared} (m : Mut a s s') (hw : Wr (role a)) : Kp role s s' := by
  obtain ⟨h', tk, rfl, hs⟩ := m
  exact ⟨⟨h', tk, rfl⟩, fun b o e q => hs b o (fun z => q (z ▸ hw)) e⟩
theorem Mut.same {a : Addr} {s : Shared} {h' : Heap} {tk : Nat} (hs : Heap.SameBut a s.heap h') : Mut a s { s with heap := h', toks := tk } := ⟨h', tk, rfl, fun b o q e => (hs.2 b q).trans e⟩
theorem Mut.same' {a : Addr} {s : Shared} {h' : Heap} (hs : Heap.SameBut a s.heap h') : Mut a s { s with heap := h' } := ⟨h', s.toks, rfl, fun b o q e => (hs.2 b q).trans e⟩
def plainBase : Expr → Bool
  | .Call .. => false
  | _ => true
theorem base_plain {o : Expr} {n : Str} {env : Env} {x : Sem Value} (h : plainBase o = true) : attributeBase o n env x = x := by
  cases o <;> first | rfl | simp [plainBase] at h
theorem few_args {args : List Expr} {env : Env} {pos : Pos} (hn : noStar args = true) (hl : args.length < 20) : ((backTo pos (starEach args env)).all (fun x => !x.1) && (backToKw pos (keywordEach [] env)).all (fun x => x.1.isSome)
      && decide (args.length + ([] : List Keyword).length + (if ([] : List Keyword).isEmpty then 0 else 1) < 30)) = true := by
  have h1 : (backTo pos (starEach args env)).all (fun x => !x.1) = true := by
    have := any_backTo (env := env) (pos := pos) hn
    rw [List.all_eq_not_any_not]
    simpa using this
  rw [h1]
  simp only [Bool.true_and, Bool.and_eq_true, decide_eq_true_eq]
  refine ⟨rfl, ?_⟩
  simp
  omega
theorem meth_wp {A : Around} {env : Env} {s : Shared} {o : Expr} {name : Str} {apos pos : Pos} {args : List Expr} {ty id : String} {Q : Value → Shared → Prop} (hb : plainBase o = true) (hn : noStar args = true) (hl : args.length < 20) (hline : (apos.endLine == pos.line) = true)
    (pa : PlainAttrs ty) (slot : PySem.Slot ty name id) (hty : typeOf (.builtin id) = pure (.type "method_descriptor")) (hkp : keeperOf (.builtin id) = pure .machine)
    (h : wpAny (model prog w) A (eval o env) (fun ov s₁ => s₁.TypeIs ov ty ∧ (∀ a, ov = .ref a → ∃ ob, s₁.heap.get? a = some ob ∧ ob.dict = none) ∧
      wpAny (model prog w) A (spliced (backTo pos (starEach args env))) (fun vs s₂ => wpAny (model prog w) A (call (.builtin id) (ov :: vs) []) Q nil s₂) nil s₁) nil s) :
    wpAny (model prog w) A (eval (.Call (.Attribute o name apos) args [] pos) env) Q nil s :=
  wpAny_Call_method_late (base_plain hb) (few_args hn hl) hline rfl (wpAny_mono h (fun ov s₁ ⟨hT, hd, hc⟩ => ⟨ty, id, pa, slot, hty, hT, hd, callWith_machine hkp (any_backTo hn) (evalArgs_all (any_backTo hn) hc)⟩) fun _ _ q => q)
section
variable {ρ ρ' : Rho} {k : Nat} {x : Str} {px apos cpos pos p' : Pos} {args rest : List Expr} {as : List ArgT} {t t' u : T} {ts : List T} {Q : Out → Prop} {more : List Stmt} {e ek : Expr}
theorem run_mut {name : Str} {ty id : String} (hm : (x, Slot.ow t) ∈ ρ) (ha : EvArgs prog w H ρ k args as) (hp : Put x (.ow t') ρ ρ')
    (hty' : ∀ (X : Xs) (s : Shared) (a : Addr), At prog w X s.heap a t → s.TypeIs (.ref a) ty ∧ ∃ ob, s.heap.get? a = some ob ∧ ob.dict = none)
    (hc : ∀ (A : Around) (X : Xs) (s : Shared) (a : Addr) (vs : List Value), Rm k A → X a → At prog w X s.heap a t → ArgsOk prog w X s.heap as vs → wpAny (model prog w) A (call (.builtin id) (.ref a :: vs) []) (fun _ s' => Mut a s s' ∧ At prog w X s'.heap a t') nil s)
    (pa : PlainAttrs ty) (slot : PySem.Slot ty name id) (hty : typeOf (.builtin id) = pure (.type "method_descriptor")) (hkp : keeperOf (.builtin id) = pure .machine)
    (h : Run prog w H ρ' k more Q) (hl : args.length < 20) (hline : (apos.endLine == cpos.line) = true) (hn : noStar args = true)
    (hd : (x == ("__debug__" : Str)) = false) (hcd : (x == ("__classdict__" : Str)) = false) :
    Run prog w H ρ k (.Expr (.Call (.Attribute (.Name x px) name apos) args [] cpos) pos :: more) Q :=
  run_seq fun A env X₀ h₀ role s hr F => by
    refine wpAny_Expr_any ?_ (by unfold interactive; rw [F.st.kind]; rfl) rfl
    obtain ⟨a, hv, hra, hat⟩ := F.st.vars _ hm
    refine meth_wp rfl hn hl hline pa slot hty hkp (loadVar F.st.kind hv ?_ hd hcd)
    obtain ⟨hT, ob, ho, hdn⟩ := hty' _ s a hat
    refine ⟨hT, fun b e => by cases e; exact ⟨ob, ho, hdn⟩, ?_⟩
    refine spliced_args hr ha hn F.st fun vs s₁ hx hargs _ => ?_
    refine wpAny_mono (hc A _ s₁ a vs hr (.inr (by rw [hra]; simp)) (hat.keep hx.keep) hargs) (fun _ s₂ ⟨hmu, hat'⟩ => ?_) fun _ _ q => q
    refine ⟨hx.thenKp (hmu.kp (by rw [hra]; trivial)), _, then_next h, rfl, role, RoleLe.refl _ _, ?_⟩
    obtain ⟨h', tk, rfl, hs⟩ := hmu
    exact (F.ext hx.keep).turn (hv.keep hx.keep) hra hs hat' hp
theorem list_typeIs {X : Xs} {s : Shared} {a : Addr} {ts : List T} (r : At prog w X s.heap a (.list ts)) : s.TypeIs (.ref a) "list" ∧ ∃ ob, s.heap.get? a = some ob ∧ ob.dict = none := by
  obtain ⟨vs, n, ho, q⟩ := r
  exact ⟨⟨_, ho, rfl⟩, _, ho, rfl⟩
theorem rdl_snoc {X : Xs} {h : Heap} {ts : List T} {t : T} {vs : List Value} {v : Value} (r : RdL prog w X h ts vs) (q : Rd prog w X h t v) : RdL prog w X h (ts ++ [t]) (vs ++ [v]) :=
  r.append (by unfold RdL; exact ⟨v, [], rfl, q, by unfold RdL; rfl⟩)
theorem rdl_same {X : Xs} {h h' : Heap} {a : Addr} {ts : List T} {vs : List Value} (r : RdL prog w X h ts vs) (hX : X a) (hs : Heap.SameBut a h h') : RdL prog w X h' ts vs :=
  RdL.step (kept_same hs hX) (fun _ q => .inl q) _ r
theorem run_append (hm : (x, Slot.ow (.list ts)) ∈ ρ) (he : Ev prog w H ρ k e t) (hp : Put x (.ow (.list (ts ++ [t]))) ρ ρ') (hsz : ts.length ≤ 2 ^ 20) (h : Run prog w H ρ' k more Q) (hline : (apos.endLine == cpos.line) = true := by with_unfolding_all rfl) (hn : noStar [e] = true := by with_unfolding_all rfl)
    (hd : (x == ("__debug__" : Str)) = false := by decide +kernel) (hcd : (x == ("__classdict__" : Str)) = false := by decide +kernel) :
    Run prog w H ρ k (.Expr (.Call (.Attribute (.Name x px) "append" apos) [e] [] cpos) pos :: more) Q :=
  run_mut hm (.sh he .nil) hp (fun X s a r => list_typeIs r) (fun A X s a vs hr hX hat hargs => by
    obtain ⟨v, r', rfl, hv, hr'⟩ := hargs
    have : r' = [] := hr'
    subst this
    have hv' : Rd prog w X s.heap t v := hv
    obtain ⟨ws, n, ho, q⟩ := hat
    have hlen := q.length
    rw [Array.length_toList] at hlen
    refine wpAny_list_append_plain ⟨n, ho⟩ (fun h' ⟨m, ho'⟩ hs => ⟨Mut.same' hs, ws.push v, m, ho', ?_⟩) (by rw [hlen, sizeLine_eq]; exact Nat.le_trans hsz (by decide))
    rw [Array.toList_push]
    exact rdl_same (rdl_snoc q hv') hX hs) PySem.F.plainAttrs_list PySem.F.slot_list_append PySem.F.type_list_append rfl h (by simp) hline hn hd hcd
theorem run_setitem {tv tk : T} (hm : (x, Slot.ow t) ∈ ρ) (he : Ev prog w H ρ k e tv) (hek : Ev prog w H ρ k ek tk) (hp : Put x (.ow t') ρ ρ')
    (hc : ∀ (A : Around) (X : Xs) (s : Shared) (a : Addr) (kv v : Value), Rm k A → X a → At prog w X s.heap a t → Rd prog w X s.heap tk kv → Rd prog w X s.heap tv v → wpAny (model prog w) A (setItem (.ref a) kv v) (fun _ s' => Mut a s s' ∧ At prog w X s'.heap a t') nil s)
    (h : Run prog w H ρ' k more Q) (hv : plainValue e = true := by with_unfolding_all rfl)
    (hd : (x == ("__debug__" : Str)) = false := by decide +kernel) (hcd : (x == ("__classdict__" : Str)) = false := by decide +kernel) :
    Run prog w H ρ k (.Assign [.Subscript (.Name x px) ek p'] e pos :: more) Q :=
  run_seq fun A env X₀ h₀ role s hr F => by
    refine wpAny_Assign_Subscript ?_ (swaps_plain hv)
    refine wpAny_mono (he A env _ role s hr F.st) (fun v s₁ ⟨hx, rv⟩ => ?_) fun _ _ q => q
    obtain ⟨a, hvr, hra, hat⟩ := (F.ext hx.keep).st.vars _ hm
    refine loadVar F.st.kind hvr ?_ hd hcd
    refine wpAny_mono (hek A env _ role s₁ hr (F.ext hx.keep).st) (fun kv s₂ ⟨hx2, rk⟩ => ?_) fun _ _ q => q
    refine wpAny_mono (hc A _ s₂ a kv v hr (.inr (by rw [hra]; simp)) (hat.keep hx2.keep) rk (Rd.keep rv hx2.keep)) (fun _ s₃ ⟨hmu, hat'⟩ => ?_) fun _ _ q => q
    refine ⟨(hx.trans hx2).thenKp (hmu.kp (by rw [hra]; trivial)), _, then_next h, rfl, role, RoleLe.refl _ _, ?_⟩
    obtain ⟨h', tk, rfl, hs⟩ := hmu
    exact ((F.ext hx.keep).ext hx2.keep).turn (hvr.keep hx2.keep) hra hs hat' hp
end

abbrev Sd := List (Str × Option Str)
def sdVal : Option Str → T
  | none => .bool true
  | some x => .str x
def sdHas (es : Sd) (k : Str) : Bool := es.any fun e => decide (e.1 = k)
def sdSet (es : Sd) (k : Str) (o : Option Str) : Sd := if sdHas es k then es.map (fun e => if e.1 = k then (e.1, o) else e) else es ++ [(k, o)]
def sdGet (es : Sd) (k : Str) : Option (Option Str) := (es.find? fun e => decide (e.1 = k)).map (·.2)
theorem SdVals.has {k : Str} : ∀ {es : Sd} {kvs : List (Str × Value)}, SdVals es kvs → (kvs.any fun kv => decide (kv.1 = k)) = sdHas es k
  | [], _, h => by unfold SdVals at h; subst h; rfl
  | (k', o) :: r, _, h => by
    unfold SdVals at h
    obtain ⟨v, r', rfl, _, _, h⟩ := h
    unfold sdHas
    rw [List.any_cons, List.any_cons, h.has]; rfl
theorem SdV.rd {X : Xs} {h : Heap} : ∀ {o : Option Str} {v : Value}, SdV o v → Rd prog w X h (sdVal o) v
  | none, _, e => by unfold SdV at e; subst e; exact rd_bool
  | some x, _, e => by obtain ⟨t, rfl, hx⟩ := e; exact rd_str hx
theorem SdVals.get {k : Str} : ∀ {es : Sd} {kvs : List (Str × Value)}, SdVals es kvs → match sdGet es k with | none => valueAt kvs k = none | some o => ∃ v, valueAt kvs k = some v ∧ SdV o v
  | [], _, h => by unfold SdVals at h; subst h; rfl
  | (k', o) :: r, _, h => by
    unfold SdVals at h
    obtain ⟨v, r', rfl, hk, hv, h⟩ := h
    have ih := h.get (k := k)
    unfold sdGet valueAt at ih ⊢
    rw [List.find?_cons, List.find?_cons]
    by_cases e : k' = k
    · simp only [e, decide_true, Option.map_some]
      exact ⟨v, rfl, hv⟩
    · simp only [e, decide_false]
      exact ih
theorem SdVals.snoc {k : Str} {o : Option Str} {v : Value} (hk : sOk k = true) (hv : SdV o v) : ∀ {es : Sd} {kvs : List (Str × Value)}, SdVals es kvs → SdVals (es ++ [(k, o)]) (kvs ++ [(k, v)])
  | [], _, h => by
    unfold SdVals at h; subst h
    show SdVals [(k, o)] [(k, v)]
    unfold SdVals; exact ⟨v, [], rfl, hk, hv, by unfold SdVals; rfl⟩
  | (k', o') :: r, _, h => by
    unfold SdVals at h
    obtain ⟨v', r', rfl, hk', hv', h⟩ := h
    show SdVals ((k', o') :: (r ++ [(k, o)])) ((k', v') :: (r' ++ [(k, v)]))
    unfold SdVals
    exact ⟨v', _, rfl, hk', hv', h.snoc hk hv⟩
theorem SdVals.put {k : Str} {o : Option Str} {v : Value} (hv : SdV o v) : ∀ {es : Sd} {kvs : List (Str × Value)}, SdVals es kvs →
    SdVals (es.map (fun e => if e.1 = k then (e.1, o) else e)) (kvs.map (fun kv => if kv.1 = k then (kv.1, v) else kv))
  | [], _, h => by unfold SdVals at h; subst h; exact rfl
  | (k', o') :: r, _, h => by
    unfold SdVals at h
    obtain ⟨v', r', rfl, hk', hv', h⟩ := h
    rw [List.map_cons, List.map_cons]
    by_cases e : k' = k
    · simp only [e, if_true]
      rw [e] at hk'
      unfold SdVals
      exact ⟨v, _, rfl, hk', hv, h.put hv⟩
    · simp only [e, if_false]
      unfold SdVals
      exact ⟨v', _, rfl, hk', hv', h.put hv⟩
theorem SdVals.set {k : Str} {o : Option Str} {v : Value} {es : Sd} {kvs : List (Str × Value)} (h : SdVals es kvs) (hk : sOk k = true) (hv : SdV o v) : SdVals (sdSet es k o) (stored kvs k v) := by
  unfold sdSet stored
  rw [← h.has]
  split
  · exact h.put hv
  · exact h.snoc hk hv
theorem rd_sdVal {X : Xs} {h : Heap} {o : Option Str} {v : Value} (r : Rd prog w X h (sdVal o) v) : SdV o v := by
  cases o with
  | none => exact rd_bool_iff.mp r
  | some x => exact rd_str_iff.mp r
section
variable {ρ ρ' : Rho} {k : Nat} {x y : Str} {px apos cpos pos p' : Pos} {es : Sd} {o : Option Str} {Q : Out → Prop} {more : List Stmt} {e ek l r : Expr} {t : T}
theorem run_sdset (hm : (x, Slot.ow (.sd es)) ∈ ρ) (he : Ev prog w H ρ k e (sdVal o)) (hek : Ev prog w H ρ k ek (.str y)) (hp : Put x (.ow (.sd (sdSet es y o))) ρ ρ') (hsz : es.length ≤ 2 ^ 20)
    (h : Run prog w H ρ' k more Q) (hv : plainValue e = true := by with_unfolding_all rfl)
    (hd : (x == ("__debug__" : Str)) = false := by decide +kernel) (hcd : (x == ("__classdict__" : Str)) = false := by decide +kernel) :
    Run prog w H ρ k (.Assign [.Subscript (.Name x px) ek p'] e pos :: more) Q :=
  run_setitem hm he hek hp (fun A X s a kv v hr hX hat rk rv => by
    obtain ⟨hy, kvs, hD, hV⟩ := hat
    obtain ⟨t, rfl, hok⟩ := rd_str_iff.mp rk
    have hlen := hV.length
    refine wpAny_setItem_pairs (strKind_is prog w y t) hD (fun h' hD' hs => ⟨Mut.same hs, hy, _, hD', hV.set hok (rd_sdVal rv)⟩) (by rw [hlen, sizeLine_eq]; exact Nat.le_trans hsz (by decide))) h hv hd hcd
theorem pkSd {X : Xs} {h : Heap} {es : Sd} {v : Value} (r : Rd prog w X h (.sd es) v) : ∃ a kvs, v = .ref a ∧ (a == sysModules) = false ∧ h.DictOf (strKind prog w) a kvs ∧ SdVals es kvs := by
  unfold Rd at r; obtain ⟨a, e, _, hy, kvs, hD, hV⟩ := r; exact ⟨a, kvs, e, hy, hD, hV⟩
theorem isSome_get (es : Sd) (k : Str) : (sdGet es k).isSome = sdHas es k := by
  unfold sdGet sdHas
  rw [Option.isSome_map, Bool.eq_iff_iff, List.find?_isSome, List.any_eq_true]
theorem SdVals.isSome {k : Str} {es : Sd} {kvs : List (Str × Value)} (h : SdVals es kvs) : (valueAt kvs k).isSome = sdHas es k := by
  rw [← h.has]
  unfold valueAt
  rw [Option.isSome_map, Bool.eq_iff_iff, List.find?_isSome, List.any_eq_true]
theorem cmp_notin_sd (hl : Ev prog w H ρ k l (.str y)) (hr : EvP prog w H ρ k r (.sd es)) : Cmp prog w H .NotIn ρ k l r (!sdHas es y) := cmp_two hl hr fun A X s₀ s₁ s va vb hR _ h1 ha hb => by
  obtain ⟨t, rfl, _⟩ := rd_str_iff.mp ha
  obtain ⟨a, kvs, rfl, hy, hD, hV⟩ := pkSd hb
  exact wpAny_notIn_of (strKind_is prog w y t) hy hD.mapOf ⟨Ext.tok s _, by rw [hV.isSome]⟩
theorem ev_item_sd (hl : EvP prog w H ρ k l (.sd es)) (hr : Ev prog w H ρ k r (.str y)) (hg : sdGet es y = some o) (hs : notSlice r = true := by with_unfolding_all rfl) : Ev prog w H ρ k (.Subscript l r pos) (sdVal o) :=
  ev_subs hl hr fun A X s₀ s₁ s a b hR hX h01 h1 ha hb => by
    obtain ⟨a, kvs, rfl, hy, hD, hV⟩ := pkSd (Rd.keep ha h1.keep)
    obtain ⟨t, rfl, _⟩ := rd_str_iff.mp hb
    have hv := hV.get (k := y)
    rw [hg] at hv
    obtain ⟨v, hv, rv⟩ := hv
    exact tail_any hD.typeIs slot_dict_getitem.lookup (wpAny_getItem_of (strKind_is prog w y t) hD.mapOf hv ⟨Ext.tok s _, rv.rd⟩) (subscripted_plain hs)
end
end Mine

end
section
namespace Mine
open PySem PyProof.Rows
variable {prog : Program} {w : World} {H : Heap} {mg mb : Str → Option Value}

theorem argOne {X : Xs} {h : Heap} {a : ArgT} {vs : List Value} (x : ArgsOk prog w X h [a] vs) : ∃ v, vs = [v] ∧ ArgOk prog w X h a v := by
  obtain ⟨v, r, rfl, hv, hr⟩ := x
  have : r = [] := hr
  subst this
  exact ⟨v, rfl, hv⟩
theorem argPk {X : Xs} {h : Heap} {b : Bool} {t : T} {v : Value} (x : ArgOk prog w X h (b, t) v) : Rd prog w (fun _ => False) h t v := by
  cases b
  · exact Rd.less (show Rd prog w X h t v from x) fun _ q => q.elim
  · exact RdS.pk (show RdS prog w X h t v from x)
def size : T → Int
  | .str x => x.length
  | .tup xs => xs.length
  | .list xs => xs.length
  | .sd es => es.length
  | _ => 0
def hasLen : T → Prop
  | .str _ => True
  | .tup xs => xs.length < 2 ^ 62
  | .list xs => xs.length < 2 ^ 62
  | .sd es => es.length < 2 ^ 62
  | _ => False
theorem calls_len {k : Nat} {b : Bool} {t : T} (hf : hasLen t) : CallsV prog w H (.builtin "len") k [(b, t)] (Sh prog w (.int (size t))) := fun A X s vs hr hk hX hargs => by
  obtain ⟨v, rfl, hv⟩ := argOne hargs
  have r := argPk hv
  cases t with
  | str x =>
    rw [rd_str_iff] at r; obtain ⟨t, rfl, hok⟩ := r
    refine PySem.P.len_str ?_ ⟨Ext.tok s _, rd_int⟩
    have h2 : x.length ≤ 2 ^ 16 := (sOk_iff.mp hok).2
    omega
  | tup xs =>
    unfold Rd at r; obtain ⟨a, rfl, _, vs, n, ho, q⟩ := r
    have hn := q.length
    rw [Array.length_toList] at hn
    refine PySem.P.len_tuple ho (by have h2 : xs.length < 2 ^ 62 := hf; omega) ⟨Ext.tok s _, ?_⟩
    rw [hn]; exact rd_int
  | list xs =>
    unfold Rd at r; obtain ⟨a, rfl, _, vs, n, ho, q⟩ := r
    have hL : s.heap.IsList a vs := ⟨_, ho, rfl, n, rfl⟩
    have hn := q.length
    rw [Array.length_toList] at hn
    refine Calls.call_len_list hL (by have h2 : xs.length < 2 ^ 62 := hf; omega) ⟨Ext.tok s _, ?_⟩
    rw [hn]; exact rd_int
  | sd es =>
    unfold Rd at r; obtain ⟨a, rfl, _, hy, kvs, ho, q⟩ := r
    have hn := q.length
    refine call_len_dict hy ho (by have h2 : es.length < 2 ^ 62 := hf; omega) ⟨Ext.tok s _, ?_⟩
    rw [hn]; exact rd_int
  | fd _ => exact hf.elim
  | none => exact hf.elim
  | bool _ => exact hf.elim
  | int _ => exact hf.elim
section
variable {ρ : Rho} {k : Nat} {e : Expr} {p pos : Pos} {t : T} {ts : List T} {x : Str} {xs : List Str}
theorem ev_len (G : Gl H mg mb) (hm : (("len" : Str), Slot.gl) ∈ ρ) (hf : mg "len" = none) (hb : mb "len" = some (.builtin "len")) (he : EvS prog w H ρ k e t) (hl : hasLen t) (hn : noStar [e] = true := by with_unfolding_all rfl) : Ev prog w H ρ k (.Call (.Name "len" p) [e] [] pos) (.int (size t)) :=
  ev_bcall G hm hf hb rfl (.sw he .nil) (calls_len hl) (anti_sh _) hn
theorem calls_tuple (hsz : ts.length ≤ 2 ^ 20) : CallsV prog w H (.type "tuple") k [(true, .list ts)] (Sh prog w (.tup ts)) := fun A X s vs hr hk hX hargs => by
  obtain ⟨v, rfl, hv⟩ := argOne hargs
  obtain ⟨a, vs, n, rfl, ho, q⟩ := argList hv
  have hn := q.length
  rw [Array.length_toList] at hn
  have hL : s.heap.IsList a vs := ⟨_, ho, rfl, n, rfl⟩
  refine call_tuple_list hL (fun h' hk' => ⟨⟨_, s.toks, rfl, Keep.trans hk' (Keep.push _ _)⟩, ?_⟩) (by rw [hn, sizeLine_eq]; exact Nat.le_trans hsz (by decide))
  have := sh_tup (s := { s with heap := h' }) (n := 0) (fun a z => let ⟨o, e⟩ := hX a z; ⟨o, hk' a o e⟩) (q.keep hk')
  rw [Array.toArray_toList] at this
  exact this
theorem ev_toTuple (G : Gl H mg mb) (hm : (("tuple" : Str), Slot.gl) ∈ ρ) (hf : mg "tuple" = none) (hb : mb "tuple" = some (.type "tuple")) (he : EvS prog w H ρ k e (.list ts)) (hsz : ts.length ≤ 2 ^ 20) (hn : noStar [e] = true := by with_unfolding_all rfl) : Ev prog w H ρ k (.Call (.Name "tuple" p) [e] [] pos) (.tup ts) :=
  ev_bcall G hm hf hb rfl (.sw he .nil) (calls_tuple hsz) (anti_sh _) hn
theorem ev_isinstance {c : Bool} {ty : Str} {tyv : String} {p2 : Pos} (G : Gl H mg mb) (hm : (("isinstance" : Str), Slot.gl) ∈ ρ) (hf : mg "isinstance" = none) (hb : mb "isinstance" = some (.builtin "isinstance")) (he : EvP prog w H ρ k e t)
    (hm2 : (ty, Slot.gl) ∈ ρ) (hf2 : mg ty = none) (hb2 : mb ty = some (.type tyv))
    (hc : ∀ (A : Around) (s : Shared) (v : Value), Rd prog w (fun _ => False) s.heap t v → wpAny (model prog w) A (call (.builtin "isinstance") [v, .type tyv]) (fun r s' => Ext s s' ∧ r = .bool c) nil s)
    (hn : noStar [e] = true := by with_unfolding_all rfl) (hd : (ty == ("__debug__" : Str)) = false := by decide +kernel) : Ev prog w H ρ k (.Call (.Name "isinstance" p) [e, .Name ty p2] [] pos) (.bool c) := fun A env X role s hr S => by
  have hn2 : noStar [e, .Name ty p2] = true := by
    cases e <;> first | rfl | simp [noStar] at hn
  rw [eval_call_name]
  refine wpAny_bind (name_builtin G S hm hf hb ?_ (by decide +kernel))
  refine callWith_machine rfl (any_backTo hn2) (evalArgs_all (any_backTo hn2) ?_)
  obtain ⟨e1, h'⟩ := starEach_cons (env := env) hn2
  rw [e1]
  refine Calls.spliced_cons (wpAny_mono (he A env X role s hr S) (fun v s₁ ⟨hx, rv⟩ => ?_) fun _ _ q => q)
  refine Calls.spliced_cons (name_builtin G (S.keep hx.keep) hm2 hf2 hb2 (Calls.spliced_nil ?_) hd)
  exact wpAny_mono (hc A s₁ v rv) (fun r s₂ ⟨hx2, e⟩ => ⟨hx.trans hx2, e ▸ rd_bool⟩) fun _ _ q => q
theorem strsAre {X : Xs} {h : Heap} : ∀ {xs : List Str} {vs : List Value}, RdL prog w X h (xs.map .str) vs → StrsAre vs xs
  | [], _, r => by simp only [List.map_nil] at r; unfold RdL at r; subst r; exact .nil
  | x :: xs, _, r => by
    simp only [List.map_cons] at r
    unfold RdL at r
    obtain ⟨v, r', rfl, h1, h2⟩ := r
    obtain ⟨t, rfl, _⟩ := rd_str_iff.mp h1
    exact .cons x t (strsAre h2)
theorem ev_join {o : Expr} {apos cpos : Pos} (hl : Ev prog w H ρ k o (.str x)) (he : EvS prog w H ρ k e (.list (xs.map .str))) (hsz : (xs.map (·.length)).sum + xs.length * x.length ≤ 16777216) (hok : sOk (Txt.join x xs) = true) (hb : plainBase o = true := by with_unfolding_all rfl) (hline : (apos.endLine == cpos.line) = true := by with_unfolding_all rfl) (hn : noStar [e] = true := by with_unfolding_all rfl) :
    Ev prog w H ρ k (.Call (.Attribute o "join" apos) [e] [] cpos) (.str (Txt.join x xs)) := fun A env X role s hr S => by
  refine meth_wp hb hn (by simp) hline PySem.F.plainAttrs_str PySem.F.slot_str_join PySem.F.type_str_join rfl ?_
  refine wpAny_mono (hl A env X role s hr S) (fun v s₁ ⟨hx, rv⟩ => ?_) fun _ _ q => q
  obtain ⟨t, rfl, _⟩ := rd_str_iff.mp rv
  refine ⟨rfl, (fun a q => by cases q), ?_⟩
  refine spliced_args hr (.sw he .nil) hn (S.keep hx.keep) fun vs s₂ hx2 hargs _ => ?_
  obtain ⟨v, rfl, hv⟩ := argOne hargs
  obtain ⟨a, vs, n, rfl, ho, q⟩ := argList hv
  have hL : s₂.heap.IsList a vs := ⟨_, ho, rfl, n, rfl⟩
  exact join_list hL (strsAre q) hsz fun t' tk => ⟨(hx.trans hx2).trans (Ext.tok _ _), rd_str hok⟩
end
end Mine

end
section
namespace Mine
open PySem PyProof.Rows
variable {prog : Program} {w : World} {H : Heap} {mg mb : Str → Option Value}

theorem SdVals.at : ∀ {es : Sd} {kvs : List (Str × Value)} {j : Nat} {k : Str} {v : Value}, SdVals es kvs → kvs[j]? = some (k, v) → ∃ o, es[j]? = some (k, o) ∧ sOk k = true ∧ SdV o v
  | [], _, _, _, _, h, e => by unfold SdVals at h; subst h; simp at e
  | (k', o) :: r, _, j, k, v, h, e => by
    unfold SdVals at h
    obtain ⟨v', r', rfl, hk, hv, h⟩ := h
    cases j with
    | zero => simp at e; obtain ⟨rfl, rfl⟩ := e; exact ⟨o, rfl, hk, hv⟩
    | succ j => simp at e; simpa using h.at e
section
variable {ρ : Rho} {k : Nat} {o e : Expr} {p pos apos cpos : Pos} {es : Sd}
end
end Mine

end
section
namespace Mine
open PySem PyProof.Rows
variable {prog : Program} {w : World} {H : Heap} {mg mb : Str → Option Value}

def biNames : List (Str × Value) :=
  [("len", .builtin "len"), ("list", .type "list"), ("tuple", .type "tuple"), ("range", .type "range"), ("isinstance", .builtin "isinstance"), ("sum", .builtin "sum"), ("any", .builtin "any"), ("all", .builtin "all"),
   ("min", .builtin "min"), ("max", .builtin "max"), ("sorted", .builtin "sorted"), ("int", .type "int"), ("str", .type "str"), ("bool", .type "bool"), ("dict", .type "dict"), ("enumerate", .type "enumerate"), ("zip", .type "zip"), ("reversed", .type "reversed"), ("ValueError", .type "ValueError")]
theorem boot_bi : ∀ p ∈ biNames, bootBuiltins p.1 = some p.2 ∧ p.1 ≠ ("__name__" : Str) := by decide +kernel
structure Gd (H : Heap) (mg mb : Str → Option Value) : Prop where
  G : Gl H mg mb
  b : ∀ p ∈ biNames, mg p.1 = none ∧ mb p.1 = some p.2
theorem gd_of_top {p : Program} {loose : List Str} {mean : ExcName → Option Value} (T : Top p loose mean mg mb H) (h : biNames.all (fun q => !startupNames.contains q.1 && !loose.contains q.1 && !((recsOf p).map (·.name)).contains q.1 && !((litsOf p).map (·.1)).contains q.1 && !((clssOf p loose).map (·.name)).contains q.1) = true) : Gd H mg mb where
  G := ⟨T.g, T.b, T.nolimit⟩
  b := fun q hq => by
    have := List.all_eq_true.mp h q hq
    simp only [Bool.and_eq_true, Bool.not_eq_true', List.contains_eq_mem, decide_eq_false_iff_not] at this
    obtain ⟨⟨⟨⟨h1, h2⟩, h3⟩, h4⟩, h5⟩ := this
    obtain ⟨h6, h7⟩ := boot_bi q hq
    exact ⟨T.free q.1 h1 h2 h3 h4 h5, (T.builtins q.1 h7).trans h6⟩
def fdef (p : Program) (i : Nat) : DefRec := match p.main.body[i]? with
  | some (.FunctionDef name params body _ _ _ scope _ _ pos) => ⟨name, params, body, scope, pos⟩
  | _ => ⟨Str.empty, ⟨[], [], none, [], [], none, []⟩, [], { kind := .function, names := [], isGenerator := false, isCoroutine := false }, default⟩
def recOk (d : DefRec) (ps : List Str) : Bool :=
  d.scope.names.all (fun p => p.2 == .local || p.2 == .cell || p.2 == .globalImplicit) && decide ((d.scope.names.map (·.1)).Nodup) && decide ((d.scope.names.map (·.1) ++ (marks d.scope.names).map (·.1)).Nodup) && decide ps.Nodup &&
  ps.all (fun x => d.scope.names.lookup x == some .local || d.scope.names.lookup x == some .cell) && d.scope.kind == .function && !d.scope.isCoroutine && !d.scope.isGenerator
theorem calls_top {p : Program} {loose : List Str} {mean : ExcName → Option Value} {k : Nat} {as : List ArgT} {R : Xs → Heap → Heap → Value → Prop} {d : DefRec} {ps : List Str} {ρ : Rho} (T : Top p loose mean mg mb H) (hd : d ∈ recsOf p) (hok : recOk d ps = true)
    (hbind : ∀ (vs : List Value) (pm code doc : Value), vs.length = ps.length → bindArgs (Calls.docDef d.name d.params d.body d.scope pm code doc) ⟨vs, []⟩ = pure (ps.zip vs)) (hlen : ps.length = as.length) (hρ : rho0 d.scope.names (ps.zip (as.map ArgT.slot)) = ρ)
    (hrun : Run prog w H ρ k d.body (OutIs prog w R)) : Calls prog w H mg d.name (k + 1) as R := by
  obtain ⟨a, o, pm, code, doc, h1, h2, h3, h4⟩ := T.fn d hd
  refine calls_intro ⟨T.g, T.b, T.nolimit⟩ h1 h2 h3 h4 rfl ?_ hlen (fun vs hl => hbind vs pm code doc hl) hρ hrun
  simp only [recOk, Bool.and_eq_true] at hok
  obtain ⟨⟨⟨⟨⟨⟨⟨h1, h2⟩, h3⟩, h4⟩, h5⟩, h6⟩, h7⟩, h8⟩ := hok
  simp only [fnOk, Calls.docDef, Bool.and_eq_true]
  exact ⟨⟨⟨⟨⟨⟨⟨⟨⟨⟨h1, h2⟩, h3⟩, h4⟩, h5⟩, rfl⟩, beq_self_eq_true _⟩, beq_self_eq_true _⟩, h6⟩, h7⟩, h8⟩
section
variable {ρ : Rho} {k k' : Nat} {e e2 : Expr} {f : Str} {p pos p2 : Pos} {t : T} {ts : List T} {args : List Expr} {as : List ArgT} {R : Xs → Heap → Heap → Value → Prop} {a b : Int} {tg : Expr}
theorem ev_callT {p : Program} {loose : List Str} {mean : ExcName → Option Value} {d : DefRec} {pn : Pos} (T : Top p loose mean mg mb H) (hd : d ∈ recsOf p) (hm : (d.name, Slot.gl) ∈ ρ) (ha : EvArgs prog w H ρ k args as) (hc : Calls prog w H mg d.name k' as R) (hR : Anti R) (hk : k' ≤ k)
    (hn : noStar args = true := by with_unfolding_all rfl) (hdb : (d.name == ("__debug__" : Str)) = false := by decide +kernel) : EvR prog w H R ρ k (.Call (.Name d.name pn) args [] pos) := by
  obtain ⟨a, o, pm, code, doc, h1, h2, h3, h4⟩ := T.fn d hd
  exact ev_call ⟨T.g, T.b, T.nolimit⟩ hm h1 h2 h3 ha hc hR hk hn hdb
theorem bi {n : Str} {v : Value} (g : Gd H mg mb) (h : (n, v) ∈ biNames) : mg n = none ∧ mb n = some v := g.b (n, v) h
theorem gLen (g : Gd H mg mb) (hm : (("len" : Str), Slot.gl) ∈ ρ) (he : EvS prog w H ρ k e t) (hl : hasLen t) (hn : noStar [e] = true := by with_unfolding_all rfl) : Ev prog w H ρ k (.Call (.Name "len" p) [e] [] pos) (.int (size t)) :=
  have h := bi g (n := "len") (v := .builtin "len") (by decide +kernel)
  ev_len g.G hm h.1 h.2 he hl hn
theorem gTuple (g : Gd H mg mb) (hm : (("tuple" : Str), Slot.gl) ∈ ρ) (he : EvS prog w H ρ k e (.list ts)) (hsz : ts.length ≤ 2 ^ 20) (hn : noStar [e] = true := by with_unfolding_all rfl) : Ev prog w H ρ k (.Call (.Name "tuple" p) [e] [] pos) (.tup ts) :=
  have h := bi g (n := "tuple") (v := .type "tuple") (by decide +kernel)
  ev_toTuple g.G hm h.1 h.2 he hsz hn
theorem gRange1 {n : Int} (g : Gd H mg mb) (hm : (("range" : Str), Slot.gl) ∈ ρ) (he : Ev prog w H ρ k e (.int n)) (hn : n < 2 ^ 62 ∧ -(2 ^ 62) < n) (hs : noStar [e] = true := by with_unfolding_all rfl) : Src prog w H ρ k tg (.Call (.Name "range" p) [e] [] pos) (rangeT 0 n) :=
  have h := bi g (n := "range") (v := .type "range") (by decide +kernel)
  src_range1 g.G hm h.1 h.2 he hn hs
theorem gRange2 (g : Gd H mg mb) (hm : (("range" : Str), Slot.gl) ∈ ρ) (he : Ev prog w H ρ k e (.int a)) (he2 : Ev prog w H ρ k e2 (.int b)) (h1 : -(2 ^ 62) < a ∧ a < 2 ^ 62) (h2 : -(2 ^ 62) < b ∧ b < 2 ^ 62) (hs : noStar [e, e2] = true := by with_unfolding_all rfl) : Src prog w H ρ k tg (.Call (.Name "range" p) [e, e2] [] pos) (rangeT a b) :=
  have h := bi g (n := "range") (v := .type "range") (by decide +kernel)
  src_range2 g.G hm h.1 h.2 he he2 h1 h2 hs
end
end Mine

end
section
namespace Mine
open PySem PyProof.Rows
variable {prog : Program} {w : World} {H : Heap} {mg mb : Str → Option Value}

theorem run_forE {α : Type} {ρ : Rho} {k : Nat} {x : Str} {px p : Pos} {iter : Expr} {body rest : List Stmt} {Q : Out → Prop} (enc : α → T) (xs : List α) (J : List α → Rho) (hsrc : Src prog w H ρ k (.Name x px) iter (xs.map enc)) (h0 : Weak ρ (J []))
    (hstep : ∀ pre a post, xs = pre ++ a :: post → ∃ ρ₂, Put x (.fz (enc a)) (J pre) ρ₂ ∧ Run prog w H ρ₂ k body (LoopQ (J (pre ++ [a])) Q))
    (hend : Run prog w H (J xs) k rest Q) (hs : ∀ env x, foldedSetIterable iter env x = pure x := by intro _ _; with_unfolding_all rfl) : Run prog w H ρ k (.For (.Name x px) iter body [] p :: rest) Q := by
  refine run_for (xs.map enc) (fun l => J (xs.take l.length)) hsrc (by simpa using h0) (fun pre t post e => ?_) (by simpa using hend) hs
  obtain ⟨l1, l2, e1, e2, e3⟩ := List.map_eq_append_iff.mp e
  obtain ⟨a, l3, rfl, rfl, rfl⟩ := List.map_eq_cons_iff.mp e3
  subst e2
  obtain ⟨ρ₂, h1, h2⟩ := hstep l1 a l3 e1
  refine ⟨ρ₂, ?_, ?_⟩
  · have : xs.take (l1.map enc).length = l1 := by rw [e1, List.length_map]; simp
    show Put x (.fz (enc a)) (J (xs.take (l1.map enc).length)) ρ₂
    rw [this]; exact h1
  · have : xs.take (l1.map enc ++ [enc a]).length = l1 ++ [a] := by
      rw [e1, List.length_append, List.length_map]
      simp [List.take_append, List.take_of_length_le]
    show Run prog w H ρ₂ k body (LoopQ (J (xs.take (l1.map enc ++ [enc a]).length)) Q)
    rw [this]; exact h2
def Inj {α : Type} (enc : α → T) : Prop := ∀ a b, enc a = enc b → a = b
theorem inj_nat : Inj (fun j : Nat => T.int j) := fun a b h => by
  have : (a : Int) = b := by simpa using h
  omega
open Classical in
noncomputable def unE {α : Type} (enc : α → T) (t : T) : Option α := if h : ∃ a, enc a = t then some h.choose else none
theorem unE_enc {α : Type} {enc : α → T} (hi : Inj enc) (a : α) : unE enc (enc a) = some a := by
  unfold unE
  have h : ∃ b, enc b = enc a := ⟨a, rfl⟩
  rw [dif_pos h]
  exact congrArg some (hi _ _ h.choose_spec)
noncomputable def liftF {α : Type} (enc : α → T) (g : α → T) (t : T) : T := match unE enc t with | some a => g a | none => .none
theorem liftF_enc {α : Type} {enc g : α → T} (hi : Inj enc) (a : α) : liftF enc g (enc a) = g a := by unfold liftF; rw [unE_enc hi]
theorem lift_comp1 {α : Type} {enc g : α → T} (hi : Inj enc) : ∀ xs : List α, ((xs.map enc).filter (fun _ => true)).map (liftF enc g) = xs.map g
  | [] => rfl
  | a :: xs => by
    rw [List.map_cons, List.filter_cons, if_pos rfl, List.map_cons, List.map_cons, liftF_enc hi, lift_comp1 hi xs]
section
variable {α : Type} {ρ ρ' r : Rho} {k : Nat} {elt iter c : Expr} {x y : Str} {px pos p' pp : Pos} {scope : Scope} {rest : List Stmt} {Q : Out → Prop}
theorem evF_comp1 (enc g : α → T) (xs : List α) (hi : Inj enc) (hsrc : Src prog w H ρ k (.Name x px) iter (xs.map enc)) (hc : Capt ρ scope.names r) (helt : ∀ a ∈ xs, Ev prog w H ((x, .fz (enc a)) :: r) k elt (g a)) (hlen : xs.length ≤ 2 ^ 20)
    (hkind : scope.kind = .function := by with_unfolding_all rfl) (hnd : (scope.names.map (·.1)).Nodup := by decide +kernel) (hxl : scope.names.lookup x = some .local := by decide +kernel) (hs : ∀ env x, foldedSetIterable iter env x = pure x := by intro _ _; with_unfolding_all rfl) :
    EvF prog w H ρ k (.ListComp elt [⟨.Name x px, iter, [], 0⟩] scope pos) (.list (xs.map g)) := by
  have := evF_comp (ifs := []) (pos := pos) (p := fun _ => true) (f := liftF enc g) hsrc hc (fun t _ => Tests.all) (fun t ht _ => by
    obtain ⟨a, ha, rfl⟩ := List.mem_map.mp ht
    rw [liftF_enc hi]; exact helt a ha) (by rw [List.length_map]; exact hlen) hkind hnd hxl hs
  rwa [lift_comp1 hi] at this
theorem run_assignC1 (enc g : α → T) (xs : List α) (hi : Inj enc) (hsrc : Src prog w H ρ k (.Name x px) iter (xs.map enc)) (hc : Capt ρ scope.names r) (helt : ∀ a ∈ xs, Ev prog w H ((x, .fz (enc a)) :: r) k elt (g a)) (hlen : xs.length ≤ 2 ^ 20)
    (hp : Put y (.ow (.list (xs.map g))) ρ ρ') (h : Run prog w H ρ' k rest Q)
    (hkind : scope.kind = .function := by with_unfolding_all rfl) (hnd : (scope.names.map (·.1)).Nodup := by decide +kernel) (hxl : scope.names.lookup x = some .local := by decide +kernel) (hs : ∀ env x, foldedSetIterable iter env x = pure x := by intro _ _; with_unfolding_all rfl) :
    Run prog w H ρ k (.Assign [.Name y p'] (.ListComp elt [⟨.Name x px, iter, [], 0⟩] scope pos) pp :: rest) Q := by
  refine run_assignC (ifs := []) (p := fun _ => true) (f := liftF enc g) hsrc hc (fun t _ => Tests.all) (fun t ht _ => by
    obtain ⟨a, ha, rfl⟩ := List.mem_map.mp ht
    rw [liftF_enc hi]; exact helt a ha) (by rw [List.length_map]; exact hlen) (by rw [lift_comp1 hi]; exact hp) h hkind hnd hxl hs
end
theorem out_ret {t u : T} (h : t = u) : OutIs prog w (Sh prog w u) (.ret t) := fun X h1 h2 v r => h ▸ r
theorem rangeT_nat (n : Int) : rangeT 0 n = (List.range n.toNat).map fun j : Nat => T.int j := by
  unfold rangeT
  simp
end Mine

end
section
namespace Mine
open PySem PyProof.Rows
variable {prog : Program} {w : World} {H : Heap} {mg mb : Str → Option Value}
section
variable {ρ : Rho} {k : Nat} {e value slice : Expr} {p pos : Pos} {tg : Expr} {x : Str} {i : Int}
theorem gRangeN {n : Int} (g : Gd H mg mb) (hm : (("range" : Str), Slot.gl) ∈ ρ) (he : Ev prog w H ρ k e (.int n)) (hn : n < 2 ^ 62 ∧ -(2 ^ 62) < n) (hs : noStar [e] = true := by with_unfolding_all rfl) : Src prog w H ρ k tg (.Call (.Name "range" p) [e] [] pos) ((List.range n.toNat).map fun j : Nat => T.int j) := by
  rw [← rangeT_nat]; exact gRange1 g hm he hn hs
def chr1 (x : Str) (i : Int) : Str := ⟨#[x.cps.getD i.toNat 0]⟩
theorem chr1_len (x : Str) (i : Int) : (chr1 x i).length = 1 := rfl
theorem ev_chr (hl : Ev prog w H ρ k value (.str x)) (hi : Ev prog w H ρ k slice (.int i)) (h0 : 0 ≤ i ∧ i < 2 ^ 62) (h1 : i < x.length) (hs : notSlice slice = true := by with_unfolding_all rfl) : Ev prog w H ρ k (.Subscript value slice pos) (.str (chr1 x i)) := by
  have hlt : i.toNat < x.cps.size := by
    have h2 : i < (x.cps.size : Int) := h1
    omega
  have : x.cps[i.toNat]? = some (x.cps.getD i.toNat 0) := by
    rw [Array.getElem?_eq_getElem hlt]
    simp [Array.getD, hlt]
  exact ev_item_str hl hi h0 this hs
end
theorem len_append (x y : Str) : (x ++ y).length = x.length + y.length := by
  show (x.cps ++ y.cps).size = _
  rw [Array.size_append]; rfl
theorem len_cut (x : Str) (lo hi : Option Int) : (cutS x lo hi).length ≤ x.length := by
  show (cut x.cps.toList lo hi).toArray.size ≤ x.cps.size
  rw [List.size_toArray, ← Array.length_toList]
  exact cut_size _ _ _
theorem glue_fold : ∀ (cs : List Str) (acc : Array Nat), (∀ c ∈ cs, c.length = 1) → (cs.foldl (fun acc p => acc ++ (Str.ofString "").cps ++ p.cps) acc).size = acc.size + cs.length
  | [], acc, _ => rfl
  | c :: cs, acc, h => by
    rw [List.foldl_cons, glue_fold cs _ fun d hd => h d (List.mem_cons_of_mem _ hd)]
    have h1 : c.cps.size = 1 := h c List.mem_cons_self
    have h2 : (Str.ofString "").cps.size = 0 := by decide +kernel
    rw [Array.size_append, Array.size_append, h1, h2, List.length_cons]; omega
theorem len_join {cs : List Str} (h : ∀ c ∈ cs, c.length = 1) : (Txt.join "" cs).length = cs.length := by
  cases cs with
  | nil => rfl
  | cons c cs =>
    show ((cs.foldl (fun acc p => acc ++ (Str.ofString "").cps ++ p.cps) c.cps)).size = _
    rw [glue_fold cs _ fun d hd => h d (List.mem_cons_of_mem _ hd)]
    have h1 : c.cps.size = 1 := h c List.mem_cons_self
    rw [h1, List.length_cons]; omega
theorem glue_ok : ∀ (cs : List Str) (acc : Array Nat), (∀ c ∈ cs, ∀ d ∈ c.cps.toList, d < 0x110000) → (∀ d ∈ acc.toList, d < 0x110000) → ∀ d ∈ (cs.foldl (fun acc p => acc ++ (Str.ofString "").cps ++ p.cps) acc).toList, d < 0x110000
  | [], acc, _, h => h
  | c :: cs, acc, h, h0 => by
    rw [List.foldl_cons]
    refine glue_ok cs _ (fun d hd => h d (List.mem_cons_of_mem _ hd)) fun d hd => ?_
    have h2 : (Str.ofString "").cps = #[] := by decide +kernel
    rw [h2] at hd
    simp only [Array.append_empty, Array.toList_append, List.mem_append] at hd
    exact hd.elim (h0 d) (h c List.mem_cons_self d)
theorem sOk_join {cs : List Str} (h : ∀ c ∈ cs, c.length = 1) (h2 : ∀ c ∈ cs, sOk c = true) (hl : cs.length ≤ 2 ^ 16) : sOk (Txt.join "" cs) = true := by
  rw [sOk_iff]
  refine ⟨?_, ?_⟩
  · cases cs with
    | nil => intro c hc; have hc' : c ∈ ([] : List Nat) := hc; cases hc'
    | cons c cs =>
      refine glue_ok cs c.cps (fun d hd => (sOk_iff.mp (h2 d (List.mem_cons_of_mem _ hd))).1) (sOk_iff.mp (h2 c List.mem_cons_self)).1
  · have := len_join h
    have e : (Txt.join "" cs).cps.toList.length = (Txt.join "" cs).length := by rw [Array.length_toList]; rfl
    rw [e, this]; exact hl
theorem sOk_chr1 {x : Str} {i : Int} (h : sOk x = true) (h0 : 0 ≤ i) (h1 : i < x.length) : sOk (chr1 x i) = true := by
  have hlt : i.toNat < x.cps.size := by
    have h2 : i < (x.cps.size : Int) := h1
    omega
  have : x.cps[i.toNat]? = some (x.cps.getD i.toNat 0) := by
    rw [Array.getElem?_eq_getElem hlt]
    simp [Array.getD, hlt]
  exact sOk_char h this
def letters : Str := "abcdefghijklmnopqrstuvwxyz"
def signs : Str := "0123456789abcdefghijklmnopqrstuvwxyz"
def baseBy (s : Str) (m1 m2 m3 c : Int) : Str := Txt.join "" ((List.range (8 : Int).toNat).map fun j : Nat => chr1 s ((c / m1 + m2 * (j : Int)) % m3))
def growBy (s : Str) (m1 m2 m3 c n : Int) (acc : Str) (j : Nat) : Str := acc ++ chr1 s ((c / m1 + m2 * (j : Int) + n) % m3)
theorem len_letters : (Str.ofString "abcdefghijklmnopqrstuvwxyz").length = 26 := by decide +kernel
theorem len_signs : (Str.ofString "0123456789abcdefghijklmnopqrstuvwxyz").length = 36 := by decide +kernel
theorem len_base (s : Str) (m1 m2 m3 c : Int) : (baseBy s m1 m2 m3 c).length = 8 := by
  unfold baseBy
  rw [len_join, List.length_map, List.length_range]
  · rfl
  · intro c hc
    obtain ⟨j, _, rfl⟩ := List.mem_map.mp hc
    rfl
theorem len_grow (s : Str) (m1 m2 m3 c n : Int) : ∀ (js : List Nat) (acc : Str), (js.foldl (growBy s m1 m2 m3 c n) acc).length = acc.length + js.length
  | [], acc => rfl
  | j :: js, acc => by
    rw [List.foldl_cons, len_grow _ _ _ _ _ _ js, growBy, len_append, chr1_len, List.length_cons]; omega
theorem eqT_int (a b : Int) : eqT (.int a) (.int b) = decide (a = b) := by
  show (a == b) = decide (a = b)
  rw [Bool.eq_iff_iff]; simp
theorem eqT_str (a b : Str) : eqT (.str a) (.str b) = decide (a = b) := by
  show (a == b) = decide (a = b)
  rw [Bool.eq_iff_iff]; simp
end Mine

end
section
namespace Mine
open PySem PyProof.Rows
variable {prog : Program} {w : World} {H : Heap} {mg mb : Str → Option Value}

theorem cut_map {α β : Type} (f : α → β) (xs : List α) (lo hi : Option Int) : cut (xs.map f) lo hi = (cut xs lo hi).map f := by
  unfold cut
  rw [List.length_map, List.map_take, List.map_drop]
theorem clip_one (n : Nat) : clipAt n 1 = min 1 n := by
  unfold clipAt
  simp
  omega
theorem cut_drop1 {α : Type} (xs : List α) : cut xs (some 1) none = xs.drop 1 := by
  unfold cut
  simp only [Option.elim_some, Option.elim_none, clip_one]
  rw [List.take_of_length_le (by simp)]
  cases xs with
  | nil => rfl
  | cons a l => simp
theorem cut_take1 {α : Type} (xs : List α) : cut xs none (some 1) = xs.take 1 := by
  unfold cut
  simp only [Option.elim_some, Option.elim_none, clip_one]
  cases xs with
  | nil => rfl
  | cons a l => simp
abbrev tF (f : Fact) : T := .tup (f.map .str)
theorem flat_strs (n : Nat) (xs : List Str) : flat (n + 1) (.list (xs.map .str)) = true := by simp [flat]
theorem flat_fact (n : Nat) (f : Fact) : flat (n + 1) (tF f) = true := by simp [flat]
theorem any_str (xs : List Str) (x : Str) : ((xs.map T.str).any fun y => eqT y (.str x)) = decide (x ∈ xs) := by
  rw [List.any_map, Bool.eq_iff_iff, List.any_eq_true]
  simp only [Function.comp, eqT_str, decide_eq_true_eq]
  constructor
  · rintro ⟨y, hy, rfl⟩; exact hy
  · intro h; exact ⟨x, h, rfl⟩
end Mine

end
section
namespace Mine
open PySem PyProof.Rows
theorem clip_nn (n : Nat) (i : Int) (h : 0 ≤ i) : clipAt n i = min i.toNat n := by
  unfold clipAt
  rw [if_neg (by omega)]
  omega
theorem cut_take {α : Type} (xs : List α) (i : Int) (h : 0 ≤ i) : cut xs none (some i) = xs.take i.toNat := by
  unfold cut
  simp only [Option.elim_some, Option.elim_none, clip_nn _ _ h, List.drop_zero, Nat.sub_zero]
  rw [← List.take_take, List.take_length]
theorem cutS_one {x : Str} (h : 0 < x.length) : cutS x none (some 1) = chr1 x 0 := by
  unfold cutS chr1
  rw [cut_take1]
  have h' : 0 < x.cps.size := h
  congr 1
  obtain ⟨⟨l⟩⟩ := x
  cases l with
  | nil => simp at h'
  | cons a l => simp [Array.getD]
theorem len_cut_pos {x : Str} {i : Int} (h : 0 < x.length) (hi : 1 ≤ i) : 0 < (cutS x none (some i)).length := by
  unfold cutS
  rw [cut_take _ _ (by omega)]
  show 0 < (x.cps.toList.take i.toNat).toArray.size
  rw [List.size_toArray, List.length_take, Array.length_toList]
  have h' : 0 < x.cps.size := h
  omega
theorem getD_mem {α : Type} {xs : List α} {i : Nat} {d : α} (h : i < xs.length) : xs.getD i d ∈ xs := by
  rw [List.getD_eq_getElem?_getD, List.getElem?_eq_getElem h]; simp
end Mine

end
section
namespace Mine
open PySem PySem.W PyProof.Rows
theorem well_ints {prog : Program} {w : World} {P : Params} {h : Heap} {X : Xs} : ∀ (xs : List Int) (vs : List Value), IntsAre vs xs → RdL prog w X h (xs.map .int) vs
  | [], _, r => by cases r; unfold RdL; rfl
  | x :: xs, _, r => by
    cases r with
    | cons _ t r => show RdL prog w X h (.int x :: xs.map .int) _; unfold RdL; exact ⟨_, _, rfl, rd_int, well_ints (P := P) xs _ r⟩
theorem rd_script {prog : Program} {w : World} {P : Params} {h : Heap} {xs : List Int} {la : Addr} {vs : List Value} (hL : h.IsList la vs.toArray) (hI : IntsAre vs xs) (wl : Well P h (.ref la) (ofPy (.list (xs.map .int)))) : Rd prog w (fun _ => False) h (.list (xs.map .int)) (.ref la) := by
  unfold Rd
  have key : ∃ us : List Value, h.get? la = some { cls := .type "list", data := .seq us.toArray } := by
    generalize hd : ofPy (.list (xs.map .int)) = d at wl
    cases wl with
    | list h1 _ => exact ⟨_, h1⟩
    | _ => simp [ofPy] at hd
  obtain ⟨us, hu⟩ := key
  obtain ⟨o, ho, _, n, hd⟩ := hL
  rw [hu] at ho
  cases ho
  cases hd
  exact ⟨la, rfl, (fun q => q), vs.toArray, 0, hu, by simpa using well_ints (P := P) xs vs hI⟩
theorem rm_caller {k : Nat} (h : k ≤ 20) : Rm k callerA := by
  refine ⟨?_, ?_, rfl⟩
  · show 1 + claimMargin + k < recursionLimit
    have h1 : claimMargin = 300 := by decide
    have h2 : recursionLimit = 1000 := by decide
    omega
  · show 4 + 100 * k + 300 < cLine
    have h2 : cLine = 9900 := by decide
    omega
theorem law_end {prog : Program} {w : World} {H : Heap} {mg : Str → Option Value} {k : Nat} {xs : List Int} {c : ClaimW} {cl : Str → Option Addr} {mean : ExcName → Option Value} {args : List WData} {s₁ : Shared} {fa la : Addr} {E : Value → Shared → Prop}
    (hc : Calls prog w s₁.heap mg "law" k [(false, .list (xs.map .int))] (Sh prog w (.bool true))) (hk : k ≤ 20) (hf : mg ("law" : Str) = some (.ref fa)) (hr : Rd prog w (fun _ => False) s₁.heap (.list (xs.map .int)) (.ref la)) (hg : s₁.gens = #[])
    (hn : ∀ cls, c.raises args cls = false) (hp : c.post args (.bool true) args = true) :
    wpAny (model prog w) callerA (call (.ref fa) [.ref la]) (fun v s' => GoodWG c cl mean args s₁ (.ok (.ret v)) s') E s₁ := by
  refine wpAny_mono (hc callerA (fun _ => False) s₁ [.ref la] fa (rm_caller hk) hf (Keep.refl _) (fun _ q => q.elim) ⟨_, _, rfl, hr, rfl⟩) (fun v s' h => ?_) fun _ _ q => q.elim
  obtain ⟨⟨h', tk, rfl, hkp⟩, hv⟩ := h
  have : v = .bool true := rd_bool_iff.mp hv
  subst this
  exact GoodW.toG ⟨.inl ⟨_, .bool true, [], rfl, hn, .bool true, hp, fun _ => ⟨List.nodup_nil, fun a ha => nomatch ha⟩⟩, hkp, rfl, hg⟩
end Mine

end
section
namespace Mine
open PySem PyProof.Rows
variable {prog : Program} {w : World} {H : Heap} {mg mb : Str → Option Value}

theorem argTwo {X : Xs} {h : Heap} {a b : ArgT} {vs : List Value} (x : ArgsOk prog w X h [a, b] vs) : ∃ u v, vs = [u, v] ∧ ArgOk prog w X h a u ∧ ArgOk prog w X h b v := by
  obtain ⟨u, r, rfl, hu, hr⟩ := x
  obtain ⟨v, r, rfl, hv, hr⟩ := hr
  have : r = [] := hr
  subst this
  exact ⟨u, v, rfl, hu, hv⟩
section
variable {ρ : Rho} {k : Nat} {e e2 l m r : Expr} {p pos p2 : Pos} {t : T} {ts : List T} {bs : List Bool} {a b c : Int} {op op' : CmpOp} {x y : Bool}
end
end Mine

end
section
namespace Mine
open PySem PyProof.Rows
variable {prog : Program} {w : World} {H : Heap} {mg mb : Str → Option Value}

inductive PutL : List Expr → List T → Rho → Rho → Prop
  | nil {ρ : Rho} : PutL [] [] ρ ρ
  | cons {x : Str} {p : Pos} {t : T} {es : List Expr} {ts : List T} {ρ ρ₁ ρ' : Rho} : Put x (.fz t) ρ ρ₁ → PutL es ts ρ₁ ρ' → PutL (.Name x p :: es) (t :: ts) ρ ρ'
theorem PutL.len {es : List Expr} {ts : List T} {ρ ρ' : Rho} (h : PutL es ts ρ ρ') (env : Env) : (assignEach es env).length = ts.length ∧ (assignEach es env).findIdx? (·.1) = none := by
  induction h with
  | nil => exact ⟨rfl, rfl⟩
  | cons _ _ ih =>
    refine ⟨?_, ?_⟩
    · show (assignEach _ env).length + 1 = _
      rw [ih.1]; rfl
    · show List.findIdx? (·.1) ((false, _) :: assignEach _ env) = none
      rw [List.findIdx?_cons]
      simp [ih.2]
theorem putL_wp {k : Nat} {es : List Expr} {ts : List T} {ρ ρ' : Rho} (h : PutL es ts ρ ρ') : ∀ (A : Around) (env : Env) (X₀ : Xs) (h₀ : Heap) (role : Addr → Option Role) (s : Shared) (vs : List Value) (Q : Unit → Shared → Prop), Rm k A → Fs prog w H X₀ h₀ role env ρ s.heap → RdL prog w (Xof X₀ role) s.heap ts vs →
    (∀ s', Kp role s s' → Fs prog w H X₀ h₀ role env ρ' s'.heap → Q () s') → wpAny (model prog w) A (assignInOrder ((assignEach es env).map (·.2)) vs) Q nil s := by
  induction h with
  | nil =>
    intro A env X₀ h₀ role s vs Q hr F r h
    unfold RdL at r; subst r
    exact wpAny_assignInOrder_none (h s (Kp.refl _ _) F)
  | @cons x p t es ts ρ ρ₁ ρ' hp _ ih =>
    intro A env X₀ h₀ role s vs Q hr F r h
    unfold RdL at r
    obtain ⟨v, r', rfl, h1, h2⟩ := r
    refine wpAny_assignInOrder_more (wpAny_assign_Name (storeVar F hp h1 fun s' c kp F' => ?_))
    have hk : Kept (Xof X₀ role) s.heap s'.heap := fun a o e q => kp a o e fun z => q (.inr (wr_ne z))
    refine ih A env X₀ h₀ role s' r' Q hr F' (RdL.step hk (fun _ q => .inl q) _ h2) fun s'' kp' F'' => h s'' (Kp.trans ⟨c, kp⟩ (RoleLe.refl _ _) kp') F''
theorem asg_tuple {k x1 : Nat} {es : List Expr} {ts : List T} {ρ ρ' : Rho} {pos : Pos} (h : PutL es ts ρ ρ') : Asg prog w H k (.Tuple es x1 pos) (.tup ts) ρ ρ' :=
  fun A env X₀ h₀ role s v Q hr F r hQ => by
    unfold Rd at r
    obtain ⟨a, rfl, hX, vs, n, ho, q⟩ := r
    obtain ⟨l1, l2⟩ := h.len env
    have hlen := q.length
    rw [Array.length_toList] at hlen
    refine wpAny_assign_Tuple hr.2.2 ⟨_, ho, rfl, n, rfl⟩ (by rw [l1, hlen]) l2 fun h' hx => ?_
    have hk : Keep s.heap h' := fun b o e => hx b o (fun z => by rw [z, fresh_addr] at e; cases e) e
    refine putL_wp h A env X₀ h₀ role { s with heap := h' } vs.toList Q hr (F.ext hk) (q.keep hk) fun s' kp F' => hQ s' ?_ F'
    exact (Ext.hp s hk).thenKp kp
end Mine

end
section
namespace Mine
open PySem PyProof.Rows
variable {prog : Program} {w : World} {H : Heap} {mg mb : Str → Option Value}

def bad : Rho := [("a", .gl), ("a", .gl)]
theorem Fs.bad {X₀ : Xs} {h₀ h : Heap} {role : Addr → Option Role} {env : Env} (F : Fs prog w H X₀ h₀ role env bad h) : False := by
  have := F.st.nodup
  simp [Mine.bad] at this
def LoopI (P : Prop) (ρ' : Rho) (Q : Out → Prop) : Out → Prop
  | .next ρ => P ∧ Weak ρ ρ'
  | o => Q o
open Classical in
theorem run_forGI {ρ : Rho} {k : Nat} {tg : Expr} {p : Pos} {iter : Expr} {body rest : List Stmt} {Q : Out → Prop} (ts : List T) (I : List T → Prop) (J : List T → Rho) (hsrc : Src prog w H ρ k tg iter ts) (h0 : Weak ρ (J [])) (hI : I [])
    (hstep : ∀ pre t post, ts = pre ++ t :: post → I pre → ∃ ρ₂, Asg prog w H k tg t (J pre) ρ₂ ∧ Run prog w H ρ₂ k body (LoopI (I (pre ++ [t])) (J (pre ++ [t])) Q))
    (hend : I ts → Run prog w H (J ts) k rest Q) (hs : ∀ env x, foldedSetIterable iter env x = pure x := by intro _ _; with_unfolding_all rfl) : Run prog w H ρ k (.For tg iter body [] p :: rest) Q := by
  refine run_forG ts (fun l => if I l then J l else bad) hsrc (by rw [if_pos hI]; exact h0) (fun pre t post e => ?_) ?_ hs
  · by_cases h : I pre
    · obtain ⟨ρ₂, h1, h2⟩ := hstep pre t post e h
      refine ⟨ρ₂, by rw [if_pos h]; exact h1, h2.mono fun o q => ?_⟩
      cases o with
      | next ρ₃ =>
        obtain ⟨q1, q2⟩ := q
        show Weak ρ₃ (if I (pre ++ [t]) then J (pre ++ [t]) else bad)
        rw [if_pos q1]; exact q2
      | ret t => exact q
      | retF t => exact q
    · refine ⟨bad, ?_, ?_⟩
      · rw [if_neg h]
        exact fun A env X₀ h₀ role s v Q hr F => F.bad.elim
      · exact fun A env X₀ h₀ role s hr F => F.bad.elim
  · by_cases h : I ts
    · rw [if_pos h]; exact hend h
    · rw [if_neg h]
      exact fun A env X₀ h₀ role s hr F => F.bad.elim
theorem run_forI {α : Type} {ρ : Rho} {k : Nat} {tg : Expr} {p : Pos} {iter : Expr} {body rest : List Stmt} {Q : Out → Prop} (enc : α → T) (xs : List α) (I : List α → Prop) (J : List α → Rho) (hsrc : Src prog w H ρ k tg iter (xs.map enc)) (h0 : Weak ρ (J [])) (hI : I [])
    (hstep : ∀ pre a post, xs = pre ++ a :: post → I pre → ∃ ρ₂, Asg prog w H k tg (enc a) (J pre) ρ₂ ∧ Run prog w H ρ₂ k body (LoopI (I (pre ++ [a])) (J (pre ++ [a])) Q))
    (hend : I xs → Run prog w H (J xs) k rest Q) (hs : ∀ env x, foldedSetIterable iter env x = pure x := by intro _ _; with_unfolding_all rfl) : Run prog w H ρ k (.For tg iter body [] p :: rest) Q := by
  refine run_forGI (xs.map enc) (fun l => I (xs.take l.length)) (fun l => J (xs.take l.length)) hsrc (by simpa using h0) (by simpa using hI) (fun pre t post e hp => ?_) (fun h => by simpa using hend (by simpa using h)) hs
  obtain ⟨l1, l2, e1, e2, e3⟩ := List.map_eq_append_iff.mp e
  obtain ⟨a, l3, rfl, rfl, rfl⟩ := List.map_eq_cons_iff.mp e3
  subst e2
  have q1 : xs.take (l1.map enc).length = l1 := by rw [e1, List.length_map]; simp
  have q2 : xs.take (l1.map enc ++ [enc a]).length = l1 ++ [a] := by
    rw [e1, List.length_append, List.length_map]
    simp [List.take_append, List.take_of_length_le]
  have hp' : I l1 := by
    have : I (xs.take (l1.map enc).length) := hp
    rwa [q1] at this
  obtain ⟨ρ₂, h1, h2⟩ := hstep l1 a l3 e1 hp'
  refine ⟨ρ₂, ?_, ?_⟩
  · show Asg prog w H k tg (enc a) (J (xs.take (l1.map enc).length)) ρ₂
    rw [q1]; exact h1
  · show Run prog w H ρ₂ k body (LoopI (I (xs.take (l1.map enc ++ [enc a]).length)) (J (xs.take (l1.map enc ++ [enc a]).length)) Q)
    rw [q2]; exact h2
theorem getD_some {α : Type} {xs : List α} {i : Nat} {d : α} (h : i < xs.length) : xs[i]? = some (xs.getD i d) := by
  rw [List.getD_eq_getElem?_getD, List.getElem?_eq_getElem h]; rfl
theorem eqvAll_strs : ∀ a b : List Str, PyData.eqvAll (pds (a.map .str)) (pds (b.map .str)) = decide (a = b)
  | [], [] => by simp [pds, PyData.eqvAll]
  | [], y :: ys => by simp [pds, PyData.eqvAll]
  | x :: xs, [] => by simp [pds, PyData.eqvAll]
  | x :: xs, y :: ys => by
    have h := eqvAll_strs xs ys
    have h2 : PyData.eqv (pd (.str x)) (pd (.str y)) = decide (x = y) := eqT_str x y
    rw [List.map_cons, List.map_cons, pds, pds, PyData.eqvAll, h, h2]
    simp
theorem eqT_fact (a b : Fact) : eqT (tF a) (tF b) = decide (a = b) := by
  show PyData.eqv (.tuple _) (.tuple _) = _
  rw [PyData.eqv]; exact eqvAll_strs a b
section
variable {ρ : Rho} {k : Nat} {e : Expr} {p pos pt : Pos} {α : Type} {xs : List α} {f : α → T} {es : List Expr} {x1 : Nat}
theorem gLenM (g : Gd H mg mb) (hm : (("len" : Str), Slot.gl) ∈ ρ) (he : EvS prog w H ρ k e (.list (xs.map f))) (hl : xs.length ≤ 2 ^ 20) (hn : noStar [e] = true := by with_unfolding_all rfl) : Ev prog w H ρ k (.Call (.Name "len" p) [e] [] pos) (.int xs.length) := by
  have h := gLen (p := p) (pos := pos) g hm he (by simp only [hasLen, List.length_map]; omega) hn
  have e2 : size (.list (xs.map f)) = xs.length := by simp [size]
  rwa [e2] at h
end
end Mine

end
section
namespace Mine
open PySem PySem.W PyProof.Rows
variable {prog : Program} {w : World} {H : Heap} {mg mb : Str → Option Value}

section
variable {ρ ρ' : Rho} {k : Nat} {e : Expr} {ts : List T} {es : List Expr} {x1 : Nat} {pt pos : Pos} {rest : List Stmt} {Q : Out → Prop}
end

section
variable {ρ : Rho} {k : Nat} {l r e o : Expr} {x : Str} {n : Int} {p pos apos cpos : Pos}
def idx (xs : List Str) (y : Str) : Nat := xs.findIdx fun x => x == y
theorem ev_index {xs : List Str} {y : Str} (ho : EvP prog w H ρ k o (.list (xs.map .str))) (he : Ev prog w H ρ k e (.str y)) (hy : y ∈ xs) (hsz : xs.length ≤ 2 ^ 20) (hb : plainBase o = true := by with_unfolding_all rfl) (hline : (apos.endLine == cpos.line) = true := by with_unfolding_all rfl) (hn : noStar [e] = true := by with_unfolding_all rfl) :
    Ev prog w H ρ k (.Call (.Attribute o "index" apos) [e] [] cpos) (.int (idx xs y)) := fun A env X role s hr S => by
  refine meth_wp hb hn (by simp) hline PySem.F.plainAttrs_list PySem.F.slot_list_index PySem.F.type_list_index rfl ?_
  refine wpAny_mono (ho A env X role s hr S) (fun v s₁ ⟨hx, rv⟩ => ?_) fun _ _ q => q
  have rv' : Rd prog w (fun _ => False) s₁.heap (.list (xs.map .str)) v := rv
  unfold Rd at rv'
  obtain ⟨a, rfl, _, vs, n, hob, q⟩ := rv'
  refine ⟨⟨_, hob, rfl⟩, (fun b e => by cases e; exact ⟨_, hob, rfl⟩), ?_⟩
  obtain ⟨e1, hn'⟩ := starEach_cons (env := env) hn
  rw [e1]
  refine Calls.spliced_cons (wpAny_mono (he A env X role s₁ hr (S.keep hx.keep)) (fun u s₂ ⟨hx2, ru⟩ => ?_) fun _ _ q => q)
  refine Calls.spliced_nil ?_
  obtain ⟨t, rfl, _⟩ := rd_str_iff.mp (show Rd prog w X s₂.heap (.str y) u from ru)
  have hob2 := hx2.keep _ _ hob
  have hlen := q.length
  rw [Array.length_toList, List.length_map] at hlen
  have hlt : idx xs y < xs.length := List.findIdx_lt_length_of_exists ⟨y, hy, by simp⟩
  have hat : ∀ m (hm : m < vs.size), ∃ t', vs[m] = .str (xs.getD m "") t' := fun m hm => by
    obtain ⟨tt, ht, r⟩ := q.at (i := m) (v := vs[m]) (by simp [hm])
    rw [List.getElem?_map] at ht
    obtain ⟨z, hz, rfl⟩ := Option.map_eq_some_iff.mp ht
    obtain ⟨t', e', _⟩ := rd_str_iff.mp r
    refine ⟨t', ?_⟩
    rw [e', List.getD_eq_getElem?_getD, hz]; rfl
  let ef : Value → Bool := fun v => match v with | .str z _ => z == y | _ => false
  have hef : ∀ m (hm : m < vs.size), ef vs[m] = (xs.getD m "" == y) := fun m hm => by
    obtain ⟨t', e'⟩ := hat m hm
    rw [e']
  refine call_meets PySem.F.slot_list_index ⟨_, hob2, rfl⟩ PySem.F.entry_list_index (PySem.F.args_list_index_2 _ _) (MeetsSeq.list_index a vs n (.str y t) ef (fun z hz => ?_) (idx xs y) (by omega) ?_ ?_ fun m hm hmj => ?_) ⟨hob2, ?_⟩
  · obtain ⟨m, hm, rfl⟩ := Array.getElem_of_mem hz
    obtain ⟨t', e'⟩ := hat m hm
    rw [e']
    exact eqGives_str _ _ _ _
  · have : xs.length ≤ 2 ^ 20 := hsz
    omega
  · rw [hef _ (by omega)]
    have := List.findIdx_getElem (xs := xs) (p := fun x => x == y) (w := hlt)
    rw [List.getD_eq_getElem?_getD, List.getElem?_eq_getElem hlt]; exact this
  · rw [hef _ hm]
    have := List.not_of_lt_findIdx (xs := xs) (p := fun x => x == y) hmj
    rw [List.getD_eq_getElem?_getD, List.getElem?_eq_getElem (by omega)]
    simpa using this
  · exact ⟨(hx.trans hx2).trans (Ext.tok s₂ _), rd_int⟩
end
end Mine

end
section
namespace Mine
open PySem PyProof.Rows
variable {prog : Program} {w : World} {H : Heap} {mg mb : Str → Option Value}

theorem run_ifJ {ρ ρ' : Rho} {k : Nat} {test : Expr} {body orelse rest : List Stmt} {p : Pos} {b : Bool} {Q : Out → Prop} (ht : Tr prog w H ρ k test b) (h1 : b = true → Run prog w H ρ k body (LoopQ ρ' Q)) (h2 : b = false → Run prog w H ρ k orelse (LoopQ ρ' Q)) (h : Run prog w H ρ' k rest Q) :
    Run prog w H ρ k (.If test body orelse p :: rest) Q := by
  have key : ∀ o, LoopQ ρ' Q o → Then prog w H k rest Q o := fun o q => by
    cases o with
    | next ρ₂ => exact run_weak q h
    | ret t => exact q
    | retF t => exact q
  exact run_if ht (fun e => (h1 e).mono key) (fun e => (h2 e).mono key)
theorem mem_sdSet {es : Sd} {k : Str} {o : Option Str} {e : Str × Option Str} (h : e ∈ sdSet es k o) : e ∈ es ∨ e = (k, o) := by
  unfold sdSet at h
  split at h
  · obtain ⟨e', he', rfl⟩ := List.mem_map.mp h
    split
    · rename_i q; right; rw [← q]
    · left; exact he'
  · rcases List.mem_append.mp h with h | h
    · exact .inl h
    · exact .inr (by simpa using h)
theorem len_sdSet (es : Sd) (k : Str) (o : Option Str) : (sdSet es k o).length ≤ es.length + 1 := by
  unfold sdSet
  split
  · rw [List.length_map]; omega
  · rw [List.length_append]; simp
end Mine

end
section
namespace Mine
open PySem PyProof.Rows

abbrev eqI (a b : Int) : Bool := eqT (.int a) (.int b)
end Mine

end
section
namespace Mine
open PySem PySem.W PyProof.Rows
variable {prog : Program} {w : World} {H : Heap} {mg mb : Str → Option Value}

section
variable {A : Around} {E : Value → Shared → Prop} {s : Shared}
theorem tnext_item {it l : Addr} {i : Nat} {items : Array Value} {x : Value} {Q : Value → Shared → Prop} (hit : s.heap.IsTupleIter it l i) (hl : s.heap.IsTuple l items) (hx : items[i]? = some x)
    (hQ : ∀ h', h'.IsTupleIter it l (i + 1) → Heap.SameBut it s.heap h' → Q x { s with heap := h' }) : wpAny (model prog w) A (Builtin.SmallTypes.nextOf (.ref it)) Q E s := by
  obtain ⟨o, ho, hc, hd⟩ := id hit
  obtain ⟨ol, hol, _, nl, hdl⟩ := hl
  unfold Builtin.SmallTypes.nextOf
  refine wpAny_bind (wpAny_callSpecial?_slot (name := Str.ofString "__next__") hit.typeIs PySem.F.slot_tuple_iterator_next
    (wpAny_call_entry PySem.F.slot_tuple_iterator_next hit.typeIs PySem.F.entry_tuple_iterator_next ?_ (PySem.F.args_tuple_iterator_next_1 _)))
  show wpAny _ _ (field (.ref it) 0 >>= _) _ _ s
  refine wpAny_bind (wpAny_field ho hd (x := .ref l) rfl ?_)
  show wpAny _ _ (if (Value.ref l == Value.none) = true then _ else _) _ _ s
  rw [if_neg (show ¬ ((Value.ref l == Value.none) = true) from Bool.false_ne_true)]
  show wpAny _ _ (field (.ref it) 1 >>= _) _ _ s
  refine wpAny_bind (wpAny_field ho hd (x := .int i 0) rfl ?_)
  show wpAny _ _ (seqItems? (.ref l) >>= _) _ _ s
  refine wpAny_bind (wpAny_seqItems hol hdl ?_)
  simp only [Int.toNat_natCast, hx]
  refine wpAny_bind (wpAny_setField ho hd (by simp) (wpAny_pure ⟨x, rfl, wpAny_pure (hQ _ ?_ (Heap.SameBut.update ..))⟩))
  exact ⟨_, Heap.get?_update_self _ ho (Obj.isFreed_of_fields (Obj.data_mapFields hd _)), (Obj.cls_mapFields ..).trans hc, by
    rw [Obj.data_mapFields hd]; simp [rawInt]⟩
theorem tnext_end {it l : Addr} {i : Nat} {items : Array Value} {Q : Value → Shared → Prop} (hh : A.handled = none) (hit : s.heap.IsTupleIter it l i) (hl : s.heap.IsTuple l items) (hx : items[i]? = none)
    (hE : ∀ h' e, Heap.ExtBut it s.heap h' → (∃ o, h'.get? e = some o ∧ o.cls = .type "StopIteration") → E (.ref e) { s with heap := h' }) : wpAny (model prog w) A (Builtin.SmallTypes.nextOf (.ref it)) Q E s := by
  obtain ⟨o, ho, hc, hd⟩ := id hit
  obtain ⟨ol, hol, _, nl, hdl⟩ := hl
  unfold Builtin.SmallTypes.nextOf
  refine wpAny_bind (wpAny_callSpecial?_slot (name := Str.ofString "__next__") hit.typeIs PySem.F.slot_tuple_iterator_next
    (wpAny_call_entry PySem.F.slot_tuple_iterator_next hit.typeIs PySem.F.entry_tuple_iterator_next ?_ (PySem.F.args_tuple_iterator_next_1 _)))
  show wpAny _ _ (field (.ref it) 0 >>= _) _ _ s
  refine wpAny_bind (wpAny_field ho hd (x := .ref l) rfl ?_)
  show wpAny _ _ (if (Value.ref l == Value.none) = true then _ else _) _ _ s
  rw [if_neg (show ¬ ((Value.ref l == Value.none) = true) from Bool.false_ne_true)]
  show wpAny _ _ (field (.ref it) 1 >>= _) _ _ s
  refine wpAny_bind (wpAny_field ho hd (x := .int i 0) rfl ?_)
  show wpAny _ _ (seqItems? (.ref l) >>= _) _ _ s
  refine wpAny_bind (wpAny_seqItems hol hdl ?_)
  simp only [Int.toNat_natCast, hx]
  refine wpAny_bind (wpAny_rule (wpAny_bind (wpAny_setField ho hd (by simp) ?_)))
  show wpAny _ _ (newExc (.type "StopIteration") [] >>= _) _ _ _
  refine wpAny_bind ?_
  simp only [newExc, newTuple]
  refine wpAny_bind (wpAny_newObj_type ?_ (by size_fits))
  refine wpAny_bind (m := firstArgMember _ _) (wpAny_of_eq (a := Value.none) (by first | rfl | (simp only [firstArgMember]; rfl)) ?_)
  refine wpAny_newObj_type ?_ (by size_fits)
  simp only [raiseNew]
  refine wpAny_bind (wpAny_handled ?_)
  first | rw [show A.in1.handled = none from hh] | rw [hh]
  refine wpAny_bind (wpAny_pure (wpAny_throw ?_))
  exact hE _ _ (((Heap.SameBut.update ..).extBut.push _).push _) ⟨_, Heap.get?_push_size _ rfl, rfl⟩
variable {z TI TO i1 i2 l1 l2 : Addr} {k1 k2 : Nat} {xs ys : Array Value} {x y a b : Value}
theorem isTuple_ext {h h' : Heap} {t c : Addr} {vs : Array Value} (x : h.IsTuple t vs) (hs : Heap.ExtBut c h h') (hne : t ≠ c) : h'.IsTuple t vs := let ⟨o, ho, r⟩ := x; ⟨o, hs t o hne ho, r⟩
theorem isTuple_at {h h' : Heap} {t : Addr} {vs : Array Value} (x : h.IsTuple t vs) (e : ∀ o, h.get? t = some o → h'.get? t = some o) : h'.IsTuple t vs := let ⟨o, ho, r⟩ := x; ⟨o, e o ho, r⟩
theorem ztup_item {Q : Option Value → Shared → Prop} (D : ZipApart z TI TO i1 i2 l1 l2) (hz : IsZip s.heap z TI TO .none) (hTI : IsPair s.heap TI (.ref i1) (.ref i2)) (hTO : IsPair s.heap TO a b)
    (h1 : s.heap.IsTupleIter i1 l1 k1) (h2 : s.heap.IsTupleIter i2 l2 k2) (hl1 : s.heap.IsTuple l1 xs) (hl2 : s.heap.IsTuple l2 ys) (hx : xs[k1]? = some x) (hy : ys[k2]? = some y)
    (hQ : ∀ h', IsZip h' z TI TO (rawInt s.heap.objs.size) → IsPair h' TO x y → h'.IsTupleIter i1 l1 (k1 + 1) → h'.IsTupleIter i2 l2 (k2 + 1) → IsPair h' s.heap.objs.size x y → h'.objs.size = s.heap.objs.size + 1 →
      (∀ c o, c ≠ z → c ≠ TO → c ≠ i1 → c ≠ i2 → s.heap.get? c = some o → h'.get? c = some o) → Q (some (.ref s.heap.objs.size)) { s with heap := h' }) : wpAny (model prog w) A (pyNext (.ref z)) Q E s := by
  have hT : s.TypeIs (.ref z) "zip" := ⟨_, hz, rfl⟩
  unfold pyNext
  refine wpAny_bind (wpAny_attempt (wpAny_callSpecial?_slot (name := Str.ofString "__next__") hT PySem.F.slot_zip_next (wpAny_call_entry PySem.F.slot_zip_next hT PySem.F.entry_zip_next ?_ (PySem.F.args_zip_next_1 _))))
  show wpAny _ _ (field (.ref z) 2 >>= _) _ _ _
  refine wpAny_bind (wpAny_field hz rfl (x := .bool false) rfl ?_)
  show wpAny _ _ (field (.ref z) 3 >>= _) _ _ _
  refine wpAny_bind (wpAny_field hz rfl (x := .ref TI) rfl ?_)
  refine wpAny_bind (wpAny_seqItems hTI rfl ?_)
  show wpAny _ _ (Builtin.SmallTypes.ownedTupleIsFree (.ref z) >>= _) _ _ _
  refine wpAny_bind ?_
  unfold Builtin.SmallTypes.ownedTupleIsFree
  refine wpAny_bind (wpAny_field hz rfl (x := .none) rfl (wpAny_pure ?_))
  simp only [if_true]
  refine wpAny_bind (wpAny_rule ?_)
  refine wpAny_bind (wpAny_field hz rfl (x := .ref TO) rfl ?_)
  refine wpAny_bind (wpAny_setField_rec hz (by simp) fun h₁ hz₁ hs₁ => ?_)
  replace hz₁ : IsZip h₁ z TI TO .ellipsis := hz₁
  refine wpAny_bind ?_
  simp only [List.zipIdx_cons, List.zipIdx_nil, List.forIn_cons, List.forIn_nil]
  refine wpAny_bind (wpAny_bind (wpAny_onRaise ?_))
  show wpAny _ _ (Builtin.SmallTypes.nextOf (.ref i1) >>= _) _ _ _
  refine wpAny_bind (tnext_item (h1.extBut hs₁.extBut D.i1z) (isTuple_ext hl1 hs₁.extBut D.l1z) hx fun h₂ h1₂ hs₂ => wpAny_pure ?_)
  have hTO₂ : IsPair h₂ TO a b := hs₂.extBut _ _ D.TOi1 (hs₁.extBut _ _ D.TOz hTO)
  refine wpAny_bind (wpAny_seqItems hTO₂ rfl ?_)
  refine wpAny_bind (wpAny_updateSeq_pair hTO₂ fun h₃ hTO₃ hs₃ => ?_)
  replace hTO₃ : IsPair h₃ TO x b := hTO₃
  refine wpAny_bind (wpAny_letGo (wpAny_pure ?_))
  refine wpAny_bind (wpAny_bind (wpAny_onRaise ?_))
  show wpAny _ _ (Builtin.SmallTypes.nextOf (.ref i2) >>= _) _ _ _
  refine wpAny_bind (tnext_item (((h2.extBut hs₁.extBut D.i2z).extBut hs₂.extBut D.i12.symm).extBut hs₃.extBut D.TOi2.symm)
    (isTuple_ext (isTuple_ext (isTuple_ext hl2 hs₁.extBut D.l2z) hs₂.extBut D.l2i1) hs₃.extBut D.l2TO) hy fun h₄ h2₄ hs₄ => wpAny_pure ?_)
  have hTO₄ : IsPair h₄ TO x b := hs₄.extBut _ _ D.TOi2 hTO₃
  refine wpAny_bind (wpAny_seqItems hTO₄ rfl ?_)
  refine wpAny_bind (wpAny_updateSeq_pair hTO₄ fun h₅ hTO₅ hs₅ => ?_)
  replace hTO₅ : IsPair h₅ TO x y := hTO₅
  refine wpAny_bind (wpAny_letGo (wpAny_pure (wpAny_pure ?_)))
  refine wpAny_bind (wpAny_seqItems hTO₅ rfl ?_)
  refine wpAny_bind (wpAny_newTuple ?_)
  have hsz : h₅.objs.size = s.heap.objs.size := by rw [hs₅.1, hs₄.1, hs₃.1, hs₂.1, hs₁.1]
  have hz₅ : IsZip h₅ z TI TO .ellipsis := hs₅.extBut _ _ D.TOz.symm (hs₄.extBut _ _ D.i2z.symm (hs₃.extBut _ _ D.TOz.symm (hs₂.extBut _ _ D.i1z.symm hz₁)))
  have hk₅ : ∀ c o, c ≠ z → c ≠ TO → c ≠ i1 → c ≠ i2 → s.heap.get? c = some o → h₅.get? c = some o := fun c o c1 c2 c3 c4 e =>
    hs₅.extBut _ _ c2 (hs₄.extBut _ _ c4 (hs₃.extBut _ _ c2 (hs₂.extBut _ _ c3 (hs₁.extBut _ _ c1 e))))
  have h1₅ : h₅.IsTupleIter i1 l1 (k1 + 1) := ((h1₂.extBut hs₃.extBut D.TOi1.symm).extBut hs₄.extBut D.i12).extBut hs₅.extBut D.TOi1.symm
  have h2₅ : h₅.IsTupleIter i2 l2 (k2 + 1) := h2₄.extBut hs₅.extBut D.TOi2.symm
  have hzlt : z < h₅.objs.size := Heap.lt_size hz₅
  show wpAny _ _ (Builtin.SmallTypes.ownedTupleHandOut (.ref z) (.ref h₅.objs.size) >>= _) _ _ _
  refine wpAny_bind ?_
  unfold Builtin.SmallTypes.ownedTupleHandOut
  have hz₆ : IsZip (h₅.push { cls := .type "tuple", data := .seq #[x, y] }) z TI TO .ellipsis := Heap.get?_push_of_some _ hz₅
  refine wpAny_bind (wpAny_setField_rec hz₆ (by simp) fun h₇ hz₇ hs₇ => ?_)
  replace hz₇ : IsZip h₇ z TI TO (rawInt h₅.objs.size) := hz₇
  refine wpAny_setField_rec hz₇ (by simp) fun h₈ hz₈ hs₈ => ?_
  replace hz₈ : IsZip h₈ z TI TO (rawInt h₅.objs.size) := hz₈
  have up : ∀ c o, c ≠ z → h₅.get? c = some o → h₈.get? c = some o := fun c o c1 e => hs₈.extBut _ _ c1 (hs₇.extBut _ _ c1 (Heap.get?_push_of_some _ e))
  have hT₈ : IsPair h₈ h₅.objs.size x y := hs₈.extBut _ _ (Nat.ne_of_gt hzlt) (hs₇.extBut _ _ (Nat.ne_of_gt hzlt) (Heap.get?_push_size _ rfl))
  have hz8 : h₈.objs.size = h₅.objs.size + 1 := by rw [hs₈.1, hs₇.1, Heap.size_push]
  rw [hsz] at hz₈ hT₈ hz8
  refine wpAny_pure ⟨_, rfl, wpAny_pure ?_⟩
  show Q (some (.ref h₅.objs.size)) _
  rw [hsz]
  exact hQ h₈ hz₈ (up _ _ D.TOz hTO₅) (h1₅.at fun o e => up _ o D.i1z e) (h2₅.at fun o e => up _ o D.i2z e) hT₈ hz8 fun c o c1 c2 c3 c4 e => up c o c1 (hk₅ c o c1 c2 c3 c4 e)
theorem ztup_end {Q : Option Value → Shared → Prop} (hh : A.handled = none) (D : ZipApart z TI TO i1 i2 l1 l2) (hz : IsZip s.heap z TI TO .none) (hTI : IsPair s.heap TI (.ref i1) (.ref i2)) (hTO : IsPair s.heap TO a b)
    (h1 : s.heap.IsTupleIter i1 l1 k1) (h2 : s.heap.IsTupleIter i2 l2 k2) (hl1 : s.heap.IsTuple l1 xs) (hl2 : s.heap.IsTuple l2 ys) (hend : xs[k1]? = none ∨ ys[k2]? = none)
    (hQ : ∀ h', (∀ c o, c ≠ z → c ≠ TO → c ≠ i1 → c ≠ i2 → s.heap.get? c = some o → h'.get? c = some o) → Q none { s with heap := h' }) : wpAny (model prog w) A (pyNext (.ref z)) Q E s := by
  have hT : s.TypeIs (.ref z) "zip" := ⟨_, hz, rfl⟩
  have fin : ∀ h' e, (∀ c o, c ≠ z → c ≠ TO → c ≠ i1 → c ≠ i2 → s.heap.get? c = some o → h'.get? c = some o) → (∃ o, h'.get? e = some o ∧ o.cls = .type "StopIteration") → wpAny (model prog w) A (do if ← isInstance (.ref e) (.type "StopIteration") then pure none else throw (.ref e)) Q E { s with heap := h' } := fun h' e hk ⟨o, ho, hc⟩ =>
    wpAny_bind (wpAny_isInstance (T := "StopIteration") (b := true) ⟨o, ho, hc⟩ isSubtype_stop (wpAny_pure (hQ _ hk)))
  unfold pyNext
  refine wpAny_bind (wpAny_attempt (wpAny_callSpecial?_slot (name := Str.ofString "__next__") hT PySem.F.slot_zip_next (wpAny_call_entry PySem.F.slot_zip_next hT PySem.F.entry_zip_next ?_ (PySem.F.args_zip_next_1 _))))
  show wpAny _ _ (field (.ref z) 2 >>= _) _ _ _
  refine wpAny_bind (wpAny_field hz rfl (x := .bool false) rfl ?_)
  show wpAny _ _ (field (.ref z) 3 >>= _) _ _ _
  refine wpAny_bind (wpAny_field hz rfl (x := .ref TI) rfl ?_)
  refine wpAny_bind (wpAny_seqItems hTI rfl ?_)
  show wpAny _ _ (Builtin.SmallTypes.ownedTupleIsFree (.ref z) >>= _) _ _ _
  refine wpAny_bind ?_
  unfold Builtin.SmallTypes.ownedTupleIsFree
  refine wpAny_bind (wpAny_field hz rfl (x := .none) rfl (wpAny_pure ?_))
  simp only [if_true]
  refine wpAny_bind (wpAny_rule ?_)
  refine wpAny_bind (wpAny_field hz rfl (x := .ref TO) rfl ?_)
  refine wpAny_bind (wpAny_setField_rec hz (by simp) fun h₁ hz₁ hs₁ => ?_)
  replace hz₁ : IsZip h₁ z TI TO .ellipsis := hz₁
  refine wpAny_bind ?_
  simp only [List.zipIdx_cons, List.zipIdx_nil, List.forIn_cons, List.forIn_nil]
  refine wpAny_bind (wpAny_bind (wpAny_onRaise ?_))
  show wpAny _ _ (Builtin.SmallTypes.nextOf (.ref i1) >>= _) _ _ _
  cases hx : xs[k1]? with
  | none =>
    refine wpAny_bind (tnext_end hh (h1.extBut hs₁.extBut D.i1z) (isTuple_ext hl1 hs₁.extBut D.l1z) hx fun h₂ e hs₂ he => ?_)
    obtain ⟨oe, hoe, hce⟩ := he
    have hz₂ : IsZip h₂ z TI TO .ellipsis := hs₂ _ _ D.i1z.symm hz₁
    have hez : e ≠ z := fun x => by subst x; rw [hz₂] at hoe; cases hoe; simp at hce
    refine wpAny_setField_rec hz₂ (by simp) fun h₃ _ hs₃ => fin h₃ e (fun c o c1 _ c3 _ x => hs₃.extBut _ _ c1 (hs₂ _ _ c3 (hs₁.extBut _ _ c1 x))) ⟨oe, hs₃.extBut _ _ hez hoe, hce⟩
  | some x =>
    have hy : ys[k2]? = none := by rcases hend with h | h; rw [hx] at h; cases h; exact h
    refine wpAny_bind (tnext_item (h1.extBut hs₁.extBut D.i1z) (isTuple_ext hl1 hs₁.extBut D.l1z) hx fun h₂ h1₂ hs₂ => wpAny_pure ?_)
    have hTO₂ : IsPair h₂ TO a b := hs₂.extBut _ _ D.TOi1 (hs₁.extBut _ _ D.TOz hTO)
    refine wpAny_bind (wpAny_seqItems hTO₂ rfl ?_)
    refine wpAny_bind (wpAny_updateSeq_pair hTO₂ fun h₃ hTO₃ hs₃ => ?_)
    refine wpAny_bind (wpAny_letGo (wpAny_pure ?_))
    refine wpAny_bind (wpAny_bind (wpAny_onRaise ?_))
    show wpAny _ _ (Builtin.SmallTypes.nextOf (.ref i2) >>= _) _ _ _
    refine wpAny_bind (tnext_end hh (((h2.extBut hs₁.extBut D.i2z).extBut hs₂.extBut D.i12.symm).extBut hs₃.extBut D.TOi2.symm)
      (isTuple_ext (isTuple_ext (isTuple_ext hl2 hs₁.extBut D.l2z) hs₂.extBut D.l2i1) hs₃.extBut D.l2TO) hy fun h₄ e hs₄ he => ?_)
    obtain ⟨oe, hoe, hce⟩ := he
    have hz₄ : IsZip h₄ z TI TO .ellipsis := hs₄ _ _ D.i2z.symm (hs₃.extBut _ _ D.TOz.symm (hs₂.extBut _ _ D.i1z.symm hz₁))
    have hez : e ≠ z := fun x => by subst x; rw [hz₄] at hoe; cases hoe; simp at hce
    refine wpAny_setField_rec hz₄ (by simp) fun h₅ _ hs₅ => fin h₅ e (fun c o c1 c2 c3 c4 x => hs₅.extBut _ _ c1 (hs₄ _ _ c4 (hs₃.extBut _ _ c2 (hs₂.extBut _ _ c3 (hs₁.extBut _ _ c1 x))))) ⟨oe, hs₅.extBut _ _ hez hoe, hce⟩
end
end Mine

end
section
namespace Mine
open PySem PySem.W PyProof.Rows
open Sem (wp)
variable {prog : Program} {w : World} {H : Heap} {mg mb : Str → Option Value}

abbrev zt1 (h : Heap) (l1 : Addr) : Heap := h.push { cls := .type "tuple_iterator", data := .fields #[.ref l1, .int 0 0] }
abbrev zt2 (h : Heap) (l1 l2 : Addr) : Heap := (zt1 h l1).push { cls := .type "tuple_iterator", data := .fields #[.ref l2, .int 0 0] }
abbrev zt3 (h : Heap) (l1 l2 : Addr) : Heap := (zt2 h l1 l2).push { cls := .type "tuple", data := .seq #[.ref h.objs.size, .ref (zt1 h l1).objs.size] }
abbrev zt4 (h : Heap) (l1 l2 : Addr) : Heap := (zt3 h l1 l2).push { cls := .type "tuple", data := .seq #[.none, .none] }
abbrev zt5 (h : Heap) (l1 l2 : Addr) : Heap := (zt4 h l1 l2).push { cls := .type "zip", data := .fields #[.none, .bool false, .bool false, .ref (zt2 h l1 l2).objs.size, .ref (zt3 h l1 l2).objs.size] }
theorem meets_zt (l1 l2 : Addr) (xs ys : Array Value) :
    Meets (Builtin.«zip.__new__» ⟨[.type "zip", .ref l1, .ref l2], []⟩) (fun _ R s => s.heap.IsTuple l1 xs ∧ s.heap.IsTuple l2 ys ∧ R (.ok (.ret (.ref (zt4 s.heap l1 l2).objs.size))) { s with heap := zt5 s.heap l1 l2 }) :=
  .of_wp fun prog w A R s h => by
    obtain ⟨hp, g, d, tk, os⟩ := s; obtain ⟨hl1, hl2, h⟩ := h
    have hsub := sub_zip
    have hL1 : Heap.IsTuple (Shared.heap ⟨hp, g, d, tk, os⟩) l1 xs := hl1
    have hL2 : Heap.IsTuple (Shared.heap ⟨hp.push { cls := .type "tuple_iterator", data := .fields #[.ref l1, .int 0 0] }, g, d, tk, os⟩) l2 ys := isTuple_at hl2 fun o e => Heap.get?_push_of_some _ e
    wp_walk using wpAny_pyIter_tuple hL1, wpAny_pyIter_tuple hL2
    exact ⟨_, rfl, h⟩
theorem call_zt {A : Around} {E : Value → Shared → Prop} {s : Shared} {l1 l2 : Addr} {xs ys : Array Value} {Q : Value → Shared → Prop} (hl1 : s.heap.IsTuple l1 xs) (hl2 : s.heap.IsTuple l2 ys)
    (h : ∀ h', IsZip h' (s.heap.objs.size + 4) (s.heap.objs.size + 2) (s.heap.objs.size + 3) .none → IsPair h' (s.heap.objs.size + 2) (.ref s.heap.objs.size) (.ref (s.heap.objs.size + 1)) →
      IsPair h' (s.heap.objs.size + 3) .none .none → h'.IsTupleIter s.heap.objs.size l1 0 → h'.IsTupleIter (s.heap.objs.size + 1) l2 0 → h'.objs.size = s.heap.objs.size + 5 →
      (∀ c o, s.heap.get? c = some o → h'.get? c = some o) → Q (.ref (s.heap.objs.size + 4)) { s with heap := h' }) :
    wpAny (model prog w) A (call (.type "zip") [.ref l1, .ref l2]) Q E s := by
  refine callType_new PySem.F.called_zip (by decide) (PySem.F.typeCall_zip_2 _ _) (PySem.F.newCall_zip_2 _ _) (fun obj => PySem.F.args_object_init_3 obj _ _) PySem.F.entry_zip_new
    (meets_zt l1 l2 xs ys) ⟨hl1, hl2, ?_⟩
  have z1 : (zt1 s.heap l1).objs.size = s.heap.objs.size + 1 := Heap.size_push ..
  have z2 : (zt2 s.heap l1 l2).objs.size = s.heap.objs.size + 2 := by rw [Heap.size_push, z1]
  have z3 : (zt3 s.heap l1 l2).objs.size = s.heap.objs.size + 3 := by rw [Heap.size_push, z2]
  have z4 : (zt4 s.heap l1 l2).objs.size = s.heap.objs.size + 4 := by rw [Heap.size_push, z3]
  have z5 : (zt5 s.heap l1 l2).objs.size = s.heap.objs.size + 5 := by rw [Heap.size_push, z4]
  have g5 : (zt5 s.heap l1 l2).get? (zt4 s.heap l1 l2).objs.size = some _ := Heap.get?_push_size _ rfl
  have g4 : (zt5 s.heap l1 l2).get? (zt3 s.heap l1 l2).objs.size = some _ := Heap.get?_push_of_some _ (Heap.get?_push_size _ rfl)
  have g3 : (zt5 s.heap l1 l2).get? (zt2 s.heap l1 l2).objs.size = some _ := Heap.get?_push_of_some _ (Heap.get?_push_of_some _ (Heap.get?_push_size _ rfl))
  have g2 : (zt5 s.heap l1 l2).get? (zt1 s.heap l1).objs.size = some _ := Heap.get?_push_of_some _ (Heap.get?_push_of_some _ (Heap.get?_push_of_some _ (Heap.get?_push_size _ rfl)))
  have g1 : (zt5 s.heap l1 l2).get? s.heap.objs.size = some _ := Heap.get?_push_of_some _ (Heap.get?_push_of_some _ (Heap.get?_push_of_some _ (Heap.get?_push_of_some _ (Heap.get?_push_size _ rfl))))
  show _ ∧ _
  rw [z2, z3, z4] at g5
  rw [z1, z2] at g3
  rw [z3] at g4
  rw [z1] at g2
  rw [z4]
  exact ⟨⟨_, g5, rfl⟩, h _ g5 g3 g4 ⟨_, g1, rfl, rfl⟩ ⟨_, g2, rfl, rfl⟩ z5 fun c o x =>
    Heap.get?_push_of_some _ (Heap.get?_push_of_some _ (Heap.get?_push_of_some _ (Heap.get?_push_of_some _ (Heap.get?_push_of_some _ x))))⟩
def zipT (ts us : List T) : List T := (ts.zip us).map fun p => .tup [p.1, p.2]
theorem zipT_len (ts us : List T) : (zipT ts us).length = min ts.length us.length := by unfold zipT; rw [List.length_map, List.length_zip]
theorem zipT_at {ts us : List T} {i : Nat} {t u : T} (h1 : ts[i]? = some t) (h2 : us[i]? = some u) : (zipT ts us)[i]? = some (.tup [t, u]) := by
  unfold zipT
  have e : (ts.zip us)[i]? = some (t, u) := List.getElem?_zip_eq_some.mpr ⟨h1, h2⟩
  rw [List.getElem?_map, e]; rfl
theorem It.zip {A : Around} {X : Xs} {role : Addr → Option Role} {h : Heap} {z TI TO i1 i2 l1 l2 : Addr} {xs ys : Array Value} {n1 n2 : Nat} {ts us : List T} {es : List Expr} {x1 : Nat} {pos : Pos} (hh : A.handled = none) (D : ZipApart z TI TO i1 i2 l1 l2) (hTIl : role TI = none)
    (ho1 : h.get? l1 = some (seqObj "tuple" xs n1)) (ho2 : h.get? l2 = some (seqObj "tuple" ys n2)) (hr1 : RdL prog w (Also X [z, TO, i1, i2]) h ts xs.toList) (hr2 : RdL prog w (Also X [z, TO, i1, i2]) h us ys.toList) (hra1 : role l1 = none) (hra2 : role l2 = none)
    (hz : IsZip h z TI TO .none) (hTI : IsPair h TI (.ref i1) (.ref i2)) (hTO : IsPair h TO .none .none) (h1 : h.IsTupleIter i1 l1 0) (h2 : h.IsTupleIter i2 l2 0) :
    It prog w A (.Tuple es x1 pos) X role z [z, TO, i1, i2] [z, TI, TO, i1, i2, l1, l2] (zipT ts us) h (fun i vs => i < ts.length ∧ i < us.length ∧ ∃ v v', vs = [v, v'] ∧ xs[i]? = some v ∧ ys[i]? = some v')
      (fun i vs u hb h' => ∃ b v v', u = .ref b ∧ vs = [v, v'] ∧ hb.get? b = none ∧ h'.get? b = some (seqObj "tuple" #[v, v'] 0)) (fun i => [ts.getD i .none, us.getD i .none])
      (fun i h => IsZip h z TI TO .none ∧ IsPair h TI (.ref i1) (.ref i2) ∧ (∃ a b, IsPair h TO a b) ∧ h.IsTupleIter i1 l1 i ∧ h.IsTupleIter i2 l2 i ∧ h.IsTuple l1 xs ∧ h.IsTuple l2 ys) where
  frame := fun i h h' ⟨q1, q2, ⟨a, b, q3⟩, q4, q5, q6, q7⟩ hk => ⟨hk z (by simp) _ q1, hk TI (by simp) _ q2, ⟨a, b, hk TO (by simp) _ q3⟩, q4.at fun o e => hk i1 (by simp) o e, q5.at fun o e => hk i2 (by simp) o e,
    isTuple_at q6 fun o e => hk l1 (by simp) o e, isTuple_at q7 fun o e => hk l2 (by simp) o e⟩
  item := fun i s Q hi ⟨q1, q2, ⟨a, b, q3⟩, q4, q5, q6, q7⟩ hQ => by
    rw [zipT_len] at hi
    have e1 := hr1.length
    have e2 := hr2.length
    rw [Array.length_toList] at e1 e2
    obtain ⟨v, hv⟩ : ∃ v, xs[i]? = some v := ⟨xs[i]'(by omega), Array.getElem?_eq_getElem (by omega)⟩
    obtain ⟨u, hu⟩ : ∃ v, ys[i]? = some v := ⟨ys[i]'(by omega), Array.getElem?_eq_getElem (by omega)⟩
    have lt : ∀ {c o}, s.heap.get? c = some o → s.heap.objs.size ≠ c := fun e => Nat.ne_of_gt (Heap.lt_size e)
    refine ztup_item D q1 q2 q3 q4 q5 q6 q7 hv hu fun h' a1 a2 a3 a4 a5 a6 hk => ?_
    refine wpAny_letOwnedTupleGo_zip (s := { s with heap := h' }) a1 fun h'' k1 k2 => ?_
    have k2' : Heap.SameBut z h' h'' := k2
    refine hQ [v, u] (.ref s.heap.objs.size) h'' s.toks ⟨by omega, by omega, v, u, rfl, hv, hu⟩ ⟨_, v, u, rfl, rfl, fresh_addr _, (k2'.2 _ (lt q1)).trans a5⟩ ⟨k1, k2'.extBut _ _ D.TIz (hk _ _ D.TIz D.TITO D.TIi1 D.TIi2 q2), ⟨_, _, k2'.extBut _ _ D.TOz a2⟩, a3.extBut k2'.extBut D.i1z, a4.extBut k2'.extBut D.i2z,
      isTuple_ext (isTuple_at q6 fun o e => hk _ o D.l1z D.l1TO D.l1i1 D.l1i2 e) k2'.extBut D.l1z, isTuple_ext (isTuple_at q7 fun o e => hk _ o D.l2z D.l2TO D.l2i1 D.l2i2 e) k2'.extBut D.l2z⟩ fun c o hc e => ?_
    simp only [List.mem_cons, List.not_mem_nil, or_false, not_or] at hc
    exact k2'.extBut _ _ hc.1 (hk c o hc.1 hc.2.1 hc.2.2.1 hc.2.2.2 e)
  done := fun s Q ⟨q1, q2, ⟨a, b, q3⟩, q4, q5, q6, q7⟩ hQ => by
    rw [zipT_len] at q4 q5
    have e1 := hr1.length
    have e2 := hr2.length
    rw [Array.length_toList] at e1 e2
    refine ztup_end hh D q1 q2 q3 q4 q5 q6 q7 ?_ fun h' hk => ⟨rfl, hQ h' s.toks fun c o hc e => ?_⟩
    · rcases Nat.le_total ts.length us.length with q | q
      · left; rw [Array.getElem?_eq_none]; omega
      · right; rw [Array.getElem?_eq_none]; omega
    · simp only [List.mem_cons, List.not_mem_nil, or_false, not_or] at hc
      exact hk c o hc.1 hc.2.1 hc.2.2.1 hc.2.2.2 e
  self := fun i s Q ⟨q1, _⟩ hQ => wpAny_pyIter_zip q1 hQ
  st := ⟨hz, hTI, ⟨_, _, hTO⟩, h1, h2, ⟨_, ho1, rfl, n1, rfl⟩, ⟨_, ho2, rfl, n2, rfl⟩⟩
  live := fun i h ⟨q1, q2, ⟨a, b, q3⟩, ⟨o4, q4, _⟩, ⟨o5, q5, _⟩, _⟩ c hc => by
    simp only [List.mem_cons, List.not_mem_nil, or_false] at hc
    rcases hc with rfl | rfl | rfl | rfl
    · exact ⟨_, q1⟩
    · exact ⟨_, q3⟩
    · exact ⟨_, q4⟩
    · exact ⟨_, q5⟩
  fpr := fun c hc => by
    simp only [List.mem_cons, List.not_mem_nil, or_false] at hc
    rcases hc with rfl | rfl | rfl | rfl | rfl | rfl | rfl
    · exact .inl (by simp)
    · exact .inr ⟨hTIl, _, hTI⟩
    · exact .inl (by simp)
    · exact .inl (by simp)
    · exact .inl (by simp)
    · exact .inr ⟨hra1, _, ho1⟩
    · exact .inr ⟨hra2, _, ho2⟩
  items := fun i vs ⟨hi1, hi2, v, v', hvs, hv, hv'⟩ => by
    subst hvs
    obtain ⟨t, ht, r⟩ := hr1.at (i := i) (v := v) (by simpa using hv)
    obtain ⟨t', ht', r'⟩ := hr2.at (i := i) (v := v') (by simpa using hv')
    have e1 : ts.getD i .none = t := by rw [List.getD_eq_getElem?_getD, ht]; rfl
    have e2 : us.getD i .none = t' := by rw [List.getD_eq_getElem?_getD, ht']; rfl
    rw [e1, e2]
    unfold RdL
    refine ⟨v, [v'], rfl, r, ?_⟩
    unfold RdL
    exact ⟨v', [], rfl, r', by unfold RdL; rfl⟩
  up := fun i vs u t X' hb h' ht ⟨b, v, v', hu, hvs, hnb, hob⟩ hX' r => by
    subst hu hvs
    have hi : i < min ts.length us.length := by
      have := (List.getElem?_eq_some_iff.mp ht).1
      rwa [zipT_len] at this
    rw [zipT_at (t := ts.getD i .none) (u := us.getD i .none) (by rw [List.getD_eq_getElem?_getD, List.getElem?_eq_getElem (by omega)]; rfl) (by rw [List.getD_eq_getElem?_getD, List.getElem?_eq_getElem (by omega)]; rfl)] at ht
    cases ht
    unfold Rd
    exact ⟨b, rfl, (fun q => by obtain ⟨o, e⟩ := hX' b q; rw [hnb] at e; cases e), _, 0, hob, r⟩
section
variable {ρ : Rho} {k : Nat} {e e2 : Expr} {p pos pt : Pos} {ts us : List T} {es : List Expr} {x1 : Nat}
theorem gZip (g : Gd H mg mb) (hm : (("zip" : Str), Slot.gl) ∈ ρ) (he : Ev prog w H ρ k e (.tup ts)) (he2 : Ev prog w H ρ k e2 (.tup us)) (hs : noStar [e, e2] = true := by with_unfolding_all rfl) : Src prog w H ρ k (.Tuple es x1 pt) (.Call (.Name "zip" p) [e, e2] [] pos) (zipT ts us) := fun A env X role s hr S => by
  have h := bi g (n := "zip") (v := .type "zip") (by decide +kernel)
  rw [eval_call_name]
  refine wpAny_bind (name_builtin g.G S hm h.1 h.2 ?_ (by decide +kernel))
  refine callWith_machine rfl (any_backTo hs) (evalArgs_all (any_backTo hs) (spliced_args hr (.sh he (.sh he2 .nil)) hs S fun vs s₁ hx hargs _ => ?_))
  obtain ⟨u, v, rfl, hu, hv⟩ := argTwo hargs
  obtain ⟨a, xs, n1, rfl, hXa, ho1, q1⟩ := shTup (show Rd prog w X s₁.heap (.tup ts) u from hu)
  obtain ⟨b, ys, n2, rfl, hXb, ho2, q2⟩ := shTup (show Rd prog w X s₁.heap (.tup us) v from hv)
  show wpAny _ A (call (.type "zip") [.ref a, .ref b]) _ nil s₁
  refine call_zt ⟨_, ho1, rfl, n1, rfl⟩ ⟨_, ho2, rfl, n2, rfl⟩ fun h' a1 a2 a3 a4 a5 a6 hk => ?_
  have hx' : Ext s { s₁ with heap := h' } := hx.trans (Ext.hp s₁ hk)
  have nn : ∀ i, s₁.heap.get? (s₁.heap.objs.size + i) = none := fun i => Heap.get?_none_of_le (Nat.le_add_right _ _)
  have nn0 : ∀ i, s.heap.get? (s₁.heap.objs.size + i) = none := fun i => none_of_keep hx.keep (nn i)
  have hla : a < s₁.heap.objs.size := Heap.lt_size ho1
  have hlb : b < s₁.heap.objs.size := Heap.lt_size ho2
  have ne : ∀ {i j : Nat}, i ≠ j → s₁.heap.objs.size + i ≠ s₁.heap.objs.size + j := fun h q => h (Nat.add_left_cancel q)
  have nl : ∀ {c : Addr} (i : Nat), c < s₁.heap.objs.size → c ≠ s₁.heap.objs.size + i := fun i hc q => absurd hc (by rw [q]; exact Nat.not_lt.mpr (Nat.le_add_right _ _))
  have D : ZipApart (s₁.heap.objs.size + 4) (s₁.heap.objs.size + 2) (s₁.heap.objs.size + 3) (s₁.heap.objs.size + 0) (s₁.heap.objs.size + 1) a b :=
    ⟨ne (by decide), ne (by decide), ne (by decide), ne (by decide), ne (by decide), ne (by decide), ne (by decide), ne (by decide), ne (by decide), ne (by decide), nl 4 hla, nl 3 hla, nl 0 hla, nl 1 hla, nl 4 hlb, nl 3 hlb, nl 0 hlb, nl 1 hlb⟩
  have hxx : ∀ c, Also X [s₁.heap.objs.size + 4, s₁.heap.objs.size + 3, s₁.heap.objs.size + 0, s₁.heap.objs.size + 1] c → X c ∨ s₁.heap.get? c = none := fun c hc => by
    rcases hc with hc | hc
    · exact .inl hc
    · simp only [List.mem_cons, List.not_mem_nil, or_false] at hc
      rcases hc with rfl | rfl | rfl | rfl
      · exact .inr (nn 4)
      · exact .inr (nn 3)
      · exact .inr (nn 0)
      · exact .inr (nn 1)
  have hTIr : role (s₁.heap.objs.size + 2) = none := by
    cases q : role (s₁.heap.objs.size + 2) with
    | none => rfl
    | some r =>
      obtain ⟨o, e⟩ := S.live _ (S.rx _ (by rw [q]; simp))
      rw [nn0 2] at e; cases e
  refine wpAny_pyIter_zip a1 ⟨hx', s₁.heap.objs.size + 4, [s₁.heap.objs.size + 4, s₁.heap.objs.size + 3, s₁.heap.objs.size + 0, s₁.heap.objs.size + 1], _, _, _, _, _, rfl, fun c hc => ?_, It.zip (n1 := n1) (n2 := n2) hr.2.2 D hTIr (hk _ _ ho1) (hk _ _ ho2) (RdL.step (Keep.kept hk) hxx _ q1) (RdL.step (Keep.kept hk) hxx _ q2) (notX_role S.rx hXa) (notX_role S.rx hXb) a1 a2 a3 a4 a5⟩
  simp only [List.mem_cons, List.not_mem_nil, or_false] at hc
  rcases hc with rfl | rfl | rfl | rfl
  · exact nn0 4
  · exact nn0 3
  · exact nn0 0
  · exact nn0 1
end
theorem zipT_map {α β : Type} (f : α → T) (g : β → T) (xs : List α) (ys : List β) : zipT (xs.map f) (ys.map g) = (xs.zip ys).map fun p => T.tup [f p.1, g p.2] := by
  unfold zipT
  rw [List.zip_map, List.map_map]
  rfl
end Mine

end
section
namespace Mine
open PySem PySem.W PyProof.Rows
variable {prog : Program} {w : World} {H : Heap} {mg mb : Str → Option Value}

section
variable {ρ ρ' : Rho} {k : Nat} {o e e2 l r : Expr} {p pos apos cpos p2 p' px : Pos} {es : Sd} {y d : Str}
def sdOr (es : Sd) (y d : Str) : Str := match sdGet es y with | some (some x) => x | _ => d
theorem ev_get2 (ho : EvP prog w H ρ k o (.sd es)) (hk : Ev prog w H ρ k e (.str y)) (hd : Ev prog w H ρ k e2 (.str d)) (hv : ∀ e ∈ es, e.2.isSome = true) (hb : plainBase o = true := by with_unfolding_all rfl) (hline : (apos.endLine == cpos.line) = true := by with_unfolding_all rfl) (hn : noStar [e, e2] = true := by with_unfolding_all rfl) :
    Ev prog w H ρ k (.Call (.Attribute o "get" apos) [e, e2] [] cpos) (.str (sdOr es y d)) := fun A env X role s hr S => by
  refine meth_wp hb hn (by simp) hline PySem.F.plainAttrs_dict PySem.F.slot_dict_get PySem.F.type_dict_get rfl ?_
  refine wpAny_mono (ho A env X role s hr S) (fun v s₁ ⟨hx, rv⟩ => ?_) fun _ _ q => q
  obtain ⟨a, kvs, rfl, hy, hD, hV⟩ := pkSd rv
  refine ⟨hD.typeIs, (fun b q => by cases q; exact hD.mapOf.noDict _ rfl), ?_⟩
  refine spliced_args hr (.sh hk (.sh hd .nil)) hn (S.keep hx.keep) fun vs s₂ hx2 hargs _ => ?_
  obtain ⟨u, v, rfl, hu, hv'⟩ := argTwo hargs
  obtain ⟨t, rfl, _⟩ := rd_str_iff.mp (show Rd prog w X s₂.heap (.str y) u from hu)
  obtain ⟨t', rfl, hok⟩ := rd_str_iff.mp (show Rd prog w X s₂.heap (.str d) v from hv')
  have hD2 : s₂.heap.DictOf (strKind prog w) a kvs := DictOf_kept (X := fun _ => False) hx2.keep.kept (fun q => q) hD
  have hg := hV.get (k := y)
  refine call_meetsIn PySem.F.slot_dict_get hD2.typeIs PySem.F.entry_dict_get (PySem.F.args_dict_get_3 _ _ _) (meets_dict_get_default (strKind prog w) a (strKind_is prog w y t) hy (.str d t')) ⟨_, hD2.mapOf, ?_⟩
  refine ⟨(hx.trans hx2).trans (Ext.tok s₂ _), ?_⟩
  show Rd prog w X s₂.heap (.str (sdOr es y d)) ((valueAt kvs y).getD (.str d t'))
  unfold sdOr
  cases q : sdGet es y with
  | none =>
    rw [q] at hg
    rw [show valueAt kvs y = none from hg]
    exact rd_str_iff.mpr ⟨t', rfl, hok⟩
  | some oo =>
    rw [q] at hg
    obtain ⟨v, e1, e2⟩ := hg
    have hm : (y, oo) ∈ es := by
      unfold sdGet at q
      obtain ⟨e', he', rfl⟩ := Option.map_eq_some_iff.mp q
      have h1 := List.find?_some he'
      have : e'.1 = y := by simpa using h1
      rw [← this]; exact List.mem_of_find?_eq_some he'
    obtain ⟨x, hx'⟩ := Option.isSome_iff_exists.mp (hv _ hm)
    have hx2' : oo = some x := hx'
    subst hx2'
    rw [e1]
    exact SdV.rd e2
theorem isi_dict {A : Around} {s : Shared} {X : Xs} {v : Value} (r : Rd prog w X s.heap (.sd es) v) : wpAny (model prog w) A (call (.builtin "isinstance") [v, .type "dict"]) (fun r s' => Ext s s' ∧ r = .bool true) nil s := by
  obtain ⟨a, kvs, rfl, hy, hD, hV⟩ := pkSd r
  obtain ⟨o, _, _, ho, hc, _⟩ := hD
  exact IsiPair.dict_dict ho hc.1 ⟨Ext.refl s, rfl⟩
theorem gIsDict (g : Gd H mg mb) (hm : (("isinstance" : Str), Slot.gl) ∈ ρ) (hm2 : (("dict" : Str), Slot.gl) ∈ ρ) (he : EvP prog w H ρ k e (.sd es)) (hn : noStar [e] = true := by with_unfolding_all rfl) : Ev prog w H ρ k (.Call (.Name "isinstance" p) [e, .Name "dict" p2] [] pos) (.bool true) :=
  have h := bi g (n := "isinstance") (v := .builtin "isinstance") (by decide +kernel)
  have h2 := bi g (n := "dict") (v := .type "dict") (by decide +kernel)
  ev_isinstance g.G hm h.1 h.2 he hm2 h2.1 h2.2 (fun A s v r => isi_dict r) hn
theorem rdl_set {X : Xs} {h : Heap} : ∀ {ts : List T} {vs : List Value} {t : T} {v : Value} (n : Nat), RdL prog w X h ts vs → Rd prog w X h t v → RdL prog w X h (ts.set n t) (vs.set n v)
  | [], vs, t, v, n, r, q => by unfold RdL at r; subst r; simp only [List.set_nil]; unfold RdL; rfl
  | u :: ts, vs, t, v, n, r, q => by
    unfold RdL at r
    obtain ⟨x, r', rfl, h1, h2⟩ := r
    cases n with
    | zero => rw [List.set_cons_zero, List.set_cons_zero]; unfold RdL; exact ⟨v, r', rfl, q, h2⟩
    | succ n => rw [List.set_cons_succ, List.set_cons_succ]; unfold RdL; exact ⟨x, _, rfl, h1, rdl_set n h2 q⟩
theorem set_exact {A : Around} {s : Shared} {l : Addr} {items : Array Value} {n : Nat} {i : Int} {t : Tok} {v : Value} {Q : Unit → Shared → Prop} (ho : s.heap.get? l = some (seqObj "list" items n)) (h0 : 0 ≤ i) (hfit : i < 2 ^ 63) (hn : i < items.size)
    (hQ : ∀ h' n', h'.get? l = some (seqObj "list" (items.setIfInBounds i.toNat v) n') → Heap.SameBut l s.heap h' → Q () { s with heap := h' }) : wpAny (model prog w) A (setItem (.ref l) (.int i t) v) Q nil s := by
  have hl : s.heap.IsList l items := ⟨_, ho, rfl, n, rfl⟩
  unfold setItem
  try with_reducible refine wpAny_holding ?_
  first | refine wpAny_bind (wpAny_pure ?_) | skip
  refine wpAny_bind (wpAny_sequenceKey hl.typeIs (by decide) ?_)
  refine wpAny_bind (wpAny_callSpecial?_slot (name := Str.ofString "__setitem__") hl.typeIs slot_list_setitem
    (wpAny_call_entry slot_list_setitem hl.typeIs entry_list_setitem ?_ (args_list_setitem _ _ _)))
  show wpAny _ _ (Builtin.List.listSubscript? (.int i t) >>= _) _ _ s
  refine wpAny_bind (wpAny_listSubscript_int (fitsIndex_of h0 hfit) ?_)
  clear hfit
  obtain ⟨j, rfl⟩ := Int.eq_ofNat_of_zero_le h0
  have hj : j < items.size := by omega
  have hx' : items[j]? = some items[j] := Array.getElem?_eq_getElem hj
  show wpAny _ _ ((seqItemAt l j >>= fun r => pure (r.map (j, ·))) >>= _) _ _ s
  refine wpAny_bind (wpAny_bind (wpAny_seqItemAt ho rfl (wpAny_pure ?_)))
  rw [hx']
  show wpAny _ _ (setSeqItemAt l j v >>= _) _ _ s
  obtain ⟨n', hfin⟩ : ∃ n', (s.heap.update l (Obj.mapSeq (·.setIfInBounds j v))).get? l = some (seqObj "list" (items.setIfInBounds j v) n') := ⟨_, get?_update_seq ho fun xs => xs.setIfInBounds j v⟩
  refine wpAny_bind (wpAny_setSeqItemAt ho rfl ?_)
  first
    | exact wpAny_bind (wpAny_pure (wpAny_pure ⟨.none, rfl, wpAny_pure (hQ _ n' hfin (Heap.SameBut.update ..))⟩))
    | exact wpAny_pure ⟨.none, rfl, wpAny_pure (hQ _ n' hfin (Heap.SameBut.update ..))⟩
theorem run_setlist {x : Str} {ts : List T} {t : T} {i : Int} {ek : Expr} {more : List Stmt} {Q : Out → Prop} (hm : (x, Slot.ow (.list ts)) ∈ ρ) (he : Ev prog w H ρ k e t) (hek : Ev prog w H ρ k ek (.int i)) (hp : Put x (.ow (.list (ts.set i.toNat t))) ρ ρ') (h0 : 0 ≤ i) (hi : i < ts.length) (hsz : ts.length ≤ 2 ^ 20)
    (h : Run prog w H ρ' k more Q) (hv : plainValue e = true := by with_unfolding_all rfl) (hd : (x == ("__debug__" : Str)) = false := by decide +kernel) (hcd : (x == ("__classdict__" : Str)) = false := by decide +kernel) :
    Run prog w H ρ k (.Assign [.Subscript (.Name x px) ek p'] e pos :: more) Q :=
  run_setitem hm he hek hp (fun A X s a kv v hr hX hat rk rv => by
    obtain ⟨vs, n, ho, q⟩ := hat
    obtain ⟨tk, rfl⟩ := rd_int_iff.mp rk
    have hlen := q.length
    rw [Array.length_toList] at hlen
    refine set_exact ho h0 (by omega) (by omega) fun h' n' ho' hs => ⟨Mut.same' hs, _, n', ho', ?_⟩
    rw [Array.toList_setIfInBounds]
    exact rdl_same (rdl_set i.toNat q rv) hX hs) h hv hd hcd
end
theorem sd_at {es : Sd} {kvs : List (Str × Value)} (h : SdVals es kvs) {j : Nat} (hj : j < kvs.length) : ∃ e v, es[j]? = some e ∧ kvs[j]? = some (e.1, v) ∧ SdV e.2 v := by
  obtain ⟨⟨k', v⟩, hk⟩ : ∃ p, kvs[j]? = some p := ⟨kvs[j], List.getElem?_eq_getElem hj⟩
  obtain ⟨o, h1, _, h3⟩ := h.at hk
  exact ⟨(k', o), v, h1, hk, h3⟩
theorem eqv_same {A : Around} {E : Value → Shared → Prop} {s : Shared} {o : Option Str} {u v : Value} {Q : Bool → Shared → Prop} (ho : o.isSome = true) (hu : SdV o u) (hv : SdV o v) (h : Q true s) : wpAny (model prog w) A (eqBool u v) Q E s := by
  cases o with
  | none => cases ho
  | some x =>
    obtain ⟨t, rfl, _⟩ := hu
    obtain ⟨t', rfl, _⟩ := hv
    exact eqBool_str (by simpa using h)
theorem same_pairs {A : Around} {s : Shared} {nm : String} {a b : Addr} {es : Sd} {kvs kvs' : List (Str × Value)} {Q : Bool → Shared → Prop} (hya : (a == sysModules) = false) (hyb : (b == sysModules) = false) (hDa : s.heap.DictOf (strKind prog w) a kvs) (hDb : s.heap.DictOf (strKind prog w) b kvs') (hVa : SdVals es kvs) (hVb : SdVals es kvs') (hv : ∀ e ∈ es, e.2.isSome = true) (h : Q true s) :
    wpAny (model prog w) A (Builtin.Dict.samePairs nm a b) Q nil s := by
  obtain ⟨oa, ea, pa, hoa, hca, hda, hka, hpa, hna⟩ := id hDa
  obtain ⟨ob, eb, pb, hob, hcb, hdb, hkb, hpb, hnb⟩ := id hDb
  have la : ea.size = es.length := by rw [← Array.length_toList, hpa.length, hVa.length]
  have lb : eb.size = es.length := by rw [← Array.length_toList, hpb.length, hVb.length]
  unfold Builtin.Dict.samePairs Builtin.Dict.showsAll
  rw [if_neg (by rw [hya]; exact Bool.false_ne_true), if_neg (by rw [hyb]; exact Bool.false_ne_true)]
  refine wpAny_bind (wpAny_pure (wpAny_bind (wpAny_pure ?_)))
  refine wpAny_bind (wpAny_dictEntries hoa hda ?_)
  refine wpAny_bind (wpAny_dictEntries hob hdb ?_)
  rw [la, lb]
  simp only [bne_self_eq_false, Bool.false_eq_true, if_false]
  refine wpAny_bind (wpAny_dictEpoch hoa hda ?_)
  refine wpAny_bind ?_
  rw [Std.Legacy.Range.forIn_eq_forIn_range']
  refine wpAny_forIn_list _ (fun rest r s' => s' = s ∧ r = (none, ()) ∧ ∀ i ∈ rest, i < es.length) _ ?_ ?_ _ _ ⟨rfl, rfl, fun i hi => ?_⟩
  · rintro i rest r s' ⟨rfl, rfl, hr⟩
    have hi := hr i List.mem_cons_self
    obtain ⟨e, v, he, hkv, hvv⟩ := sd_at hVa (j := i) (by rw [hVa.length]; exact hi)
    obtain ⟨e', v', he', hkv', hvv'⟩ := sd_at hVb (j := i) (by rw [hVb.length]; exact hi)
    rw [he] at he'
    cases he'
    have hia : i < ea.size := by omega
    have hib : i < eb.size := by omega
    obtain ⟨k1, k2⟩ := hpa.get? (i := i) (e := ea[i]) (by simp [hia]) hkv
    refine wpAny_bind (wpAny_dictEntries hoa hda ?_)
    rw [Array.getElem?_eq_getElem hia]
    have hh : ea[i].hash = (strKind prog w).hash e.1 := by
      obtain ⟨k', hk', hh'⟩ := hka ea[i] (Array.getElem_mem hia)
      rw [(strKind prog w).inj _ _ _ k1 hk', hh']
    refine wpAny_bind (wpAny_holding (wpAny_bind ?_))
    rw [hh]
    refine wpAny_dictFind_of k1 hob hdb hkb ?_
    obtain ⟨b1, b2⟩ := hpb.get? (i := i) (e := eb[i]) (by simp [hib]) hkv'
    cases hf : eb.findIdx? fun x => (strKind prog w).is e.1 x.key with
    | none =>
      have := Array.findIdx?_eq_none_iff.mp hf eb[i] (Array.getElem_mem hib)
      rw [b1] at this; cases this
    | some j =>
      obtain ⟨hjs, hj1, _⟩ := Array.findIdx?_eq_some_iff_getElem.mp hf
      obtain ⟨e2, v2, he2, hkv2, hvv2⟩ := sd_at hVb (j := j) (by rw [hVb.length]; omega)
      obtain ⟨c1, c2⟩ := hpb.get? (i := j) (e := eb[j]) (by simp [hjs]) hkv2
      have hke : e2.1 = e.1 := (strKind prog w).inj _ _ _ c1 hj1
      have hij : j = i := by
        have q1 : (kvs'.map (·.1))[j]? = some e.1 := by rw [List.getElem?_map, hkv2, ← hke]; rfl
        have q2 : (kvs'.map (·.1))[i]? = some e.1 := by rw [List.getElem?_map, hkv']; rfl
        exact (List.getElem?_inj (by rw [List.length_map, hVb.length]; omega) hnb).mp (q1.trans q2.symm)
      subst hij
      refine wpAny_bind (wpAny_dictEntries hob hdb ?_)
      rw [Array.getElem?_eq_getElem hjs]
      refine wpAny_holding (eqv_same (hv e (List.mem_of_getElem? he)) (k2 ▸ hvv) (b2 ▸ hvv') ?_)
      simp only [Bool.not_true, Bool.false_eq_true, if_false]
      refine wpAny_bind (wpAny_dictEpoch hoa hda ?_)
      simp only [bne_self_eq_false, Bool.false_eq_true, if_false]
      exact wpAny_pure ⟨rfl, rfl, fun i' h' => hr i' (List.mem_cons_of_mem _ h')⟩
  · rintro r s' ⟨rfl, rfl, _⟩
    exact wpAny_pure h
  · rw [List.mem_range'] at hi
    obtain ⟨q, hq, rfl⟩ := hi
    have : ([:es.length] : Std.Legacy.Range).size = es.length := by simp [Std.Legacy.Range.size]
    rw [this] at hq
    show 0 + 1 * q < es.length
    omega
section
variable {ρ : Rho} {k : Nat} {l r : Expr} {es : Sd}
theorem cmp_eq_sd (hl : EvP prog w H ρ k l (.sd es)) (hr : EvP prog w H ρ k r (.sd es)) (hv : ∀ e ∈ es, e.2.isSome = true) : Cmp prog w H .Eq ρ k l r true := cmp_two hl hr fun A X s₀ s₁ s va vb hR _ h1 ha hb => by
  obtain ⟨a, kvs, rfl, hya, hDa, hVa⟩ := pkSd (Rd.keep ha h1.keep)
  obtain ⟨b, kvs', rfl, hyb, hDb, hVb⟩ := pkSd hb
  show wpAny _ A (richCompare .Eq (.ref a) (.ref b)) _ nil s
  refine wpAny_richCompare_same_room hDa.typeIs hDb.typeIs PySem.F.slot_dict_eq (wpAny_call_entry PySem.F.slot_dict_eq hDa.typeIs PySem.F.entry_dict_eq ?_ (PySem.F.args_dict_eq_2 _ _)) (by have := hR.2.1; omega)
  show wpAny _ _ (Builtin.Dict.dictSlotArgs "__eq__" ⟨[.ref a, .ref b], []⟩ >>= _) _ _ s
  refine wpAny_bind ?_
  unfold Builtin.Dict.dictSlotArgs
  refine wpAny_bind (wpAny_notOrdered_dict hDa.typeIs ?_)
  show wpAny _ _ (pure (Value.ref a, Value.ref b)) _ _ s
  refine wpAny_pure ?_
  refine wpAny_bind (wpAny_isInstance hDb.typeIs isSubtype_dict_dict ?_)
  simp only [Bool.not_true, Bool.false_eq_true, if_false]
  refine wpAny_bind (wpAny_pure (wpAny_bind (wpAny_pure (wpAny_bind (same_pairs hya hyb hDa hDb hVa hVb hv ?_)))))
  exact wpAny_pure ⟨_, rfl, by simp, Ext.refl s, rfl⟩
end
end Mine

end
section
namespace Mine
open PySem PyProof.Rows

def textBy2 (s : Str) (m1 m2 m3 c n : Int) : Str :=
  if c % 4 = 1 then cutS (baseBy s m1 m2 m3 c) none (some (c / m3 % 8)) ++ chr1 s ((c + n) % m3)
  else if c % 4 = 2 then cutS (baseBy s m1 m2 m3 c) none (some (1 + n))
  else (List.range ((c / m3 + 3 * n) % 8).toNat).foldl (growBy s m1 m2 m3 c n) (chr1 s ((c + n) % m3))
def wordBy2 (c n : Int) : Str := textBy2 letters 208 5 26 c n
def thingBy2 (c n : Int) : Str := textBy2 signs 288 7 36 c n
theorem len_text2 (s : Str) (m1 m2 m3 c n : Int) (hn : 0 ≤ n) : 0 < (textBy2 s m1 m2 m3 c n).length ∧ (textBy2 s m1 m2 m3 c n).length ≤ 32 := by
  have hb := len_base s m1 m2 m3 c
  unfold textBy2
  split
  · rw [len_append, chr1_len]
    have := len_cut (baseBy s m1 m2 m3 c) none (some (c / m3 % 8))
    omega
  · split
    · have h1 := len_cut (baseBy s m1 m2 m3 c) none (some (1 + n))
      have h2 := len_cut_pos (x := baseBy s m1 m2 m3 c) (i := 1 + n) (by omega) (by omega)
      omega
    · rw [len_grow, chr1_len, List.length_range]; omega
theorem len_word2 (c n : Int) (hn : 0 ≤ n) : 0 < (wordBy2 c n).length ∧ (wordBy2 c n).length ≤ 32 := len_text2 _ _ _ _ _ _ hn
theorem len_thing2 (c n : Int) (hn : 0 ≤ n) : 0 < (thingBy2 c n).length ∧ (thingBy2 c n).length ≤ 32 := len_text2 _ _ _ _ _ _ hn
abbrev Pr := Str × Str
abbrev eqS (a b : Str) : Bool := eqT (.str a) (.str b)
def isSlotC (x : Str) : Bool := eqT (.str (cutS x none (some 1))) (.str "?")
def fitStep (a : Pr) (es : Sd) : Option Sd :=
  if isSlotC a.1 = true then (if (!eqS (sdOr es a.1 a.2) a.2) = true then none else some (sdSet es a.1 (some a.2)))
  else if (!eqS a.1 a.2) = true then none else some es
def fitGo : List Pr → Option Sd → Option Sd
  | _, none => none
  | [], some es => some es
  | a :: r, some es => fitGo r (fitStep a es)
theorem fitGo_none : ∀ l, fitGo l none = none
  | [] => rfl
  | _ :: _ => rfl
theorem fitGo_snoc : ∀ (l : List Pr) (a : Pr) (o : Option Sd), fitGo (l ++ [a]) o = (fitGo l o).bind (fitStep a)
  | [], a, none => rfl
  | [], a, some es => by
    show fitGo [] (fitStep a es) = _
    cases h : fitStep a es with
    | none => simp [fitGo, h]
    | some x => simp [fitGo, h]
  | b :: l, a, none => by simp [fitGo]
  | b :: l, a, some es => by
    show fitGo (l ++ [a]) (fitStep b es) = (fitGo l (fitStep b es)).bind _
    exact fitGo_snoc l a _
theorem fitGo_app : ∀ (l m : List Pr) (o : Option Sd), fitGo (l ++ m) o = fitGo m (fitGo l o)
  | [], m, none => (fitGo_none m).symm ▸ by cases m <;> rfl
  | [], m, some es => rfl
  | b :: l, m, none => by rw [List.cons_append]; exact (fitGo_none m).symm
  | b :: l, m, some es => fitGo_app l m (fitStep b es)
def sdTextOf (es : Sd) (x : Str) : Str := ((sdGet es x).bind _root_.id).getD ""
def dueStep (a : Pr) (es : Sd) : Option Sd :=
  if (!eqS (chr1 a.1 0) "?") = true then (if (!eqS a.1 a.2) = true then none else some es)
  else if (!sdHas es a.1) = true then some (sdSet es a.1 (some a.2))
  else if (!eqS (sdTextOf es a.1) a.2) = true then none else some es
def SdGood (es : Sd) : Prop := (es.map (·.1)).Nodup ∧ ∀ e ∈ es, e.2.isSome = true
theorem getD_has {es : Sd} {x : Str} (h : SdGood es) (hx : sdHas es x = true) : sdGet es x = some (some (sdTextOf es x)) ∧ (x, some (sdTextOf es x)) ∈ es := by
  rw [← isSome_get] at hx
  obtain ⟨o, ho⟩ := Option.isSome_iff_exists.mp hx
  have hm : (x, o) ∈ es := by
    unfold sdGet at ho
    obtain ⟨e', he', rfl⟩ := Option.map_eq_some_iff.mp ho
    have h1 := List.find?_some he'
    have : e'.1 = x := by simpa using h1
    rw [← this]; exact List.mem_of_find?_eq_some he'
  obtain ⟨y, hy⟩ := Option.isSome_iff_exists.mp (h.2 _ hm)
  have hy' : o = some y := hy
  subst hy'
  have : sdTextOf es x = y := by unfold sdTextOf; rw [ho]; rfl
  rw [this]; exact ⟨ho, hm⟩
theorem set_same {es : Sd} {x y : Str} (h : SdGood es) (hm : (x, some y) ∈ es) : sdSet es x (some y) = es := by
  have hh : sdHas es x = true := by
    unfold sdHas
    rw [List.any_eq_true]
    exact ⟨_, hm, by simp⟩
  unfold sdSet
  rw [if_pos hh]
  have key : ∀ e ∈ es, (if e.1 = x then (e.1, some y) else e) = e := fun e he => by
    split
    · rename_i q
      have : e = (x, some y) := by
        obtain ⟨i, hi, e1⟩ := List.getElem_of_mem he
        obtain ⟨j, hj, e2⟩ := List.getElem_of_mem hm
        have q1 : (es.map (·.1))[i]? = some x := by rw [List.getElem?_map, List.getElem?_eq_getElem hi, e1, ← q]; rfl
        have q2 : (es.map (·.1))[j]? = some x := by rw [List.getElem?_map, List.getElem?_eq_getElem hj, e2]; rfl
        have hij : i = j := (List.getElem?_inj (by rw [List.length_map]; exact hi) h.1).mp (q1.trans q2.symm)
        subst hij
        rw [← e1, e2]
      rw [this]
    · rfl
  first
    | exact (List.map_congr_left key).trans (List.map_id _)
    | (refine (List.map_congr_left fun e he => ?_).trans (List.map_id _); have := key e he; simpa using this)
theorem set_good {es : Sd} {x y : Str} (h : SdGood es) (hx : sdHas es x = false) : SdGood (sdSet es x (some y)) := by
  unfold sdSet
  rw [if_neg (by rw [hx]; simp)]
  refine ⟨?_, fun e he => ?_⟩
  · rw [List.map_append, List.nodup_append]
    refine ⟨h.1, by simp, fun a ha b hb => ?_⟩
    simp only [List.map_cons, List.map_nil, List.mem_singleton] at hb
    subst hb
    intro q
    subst q
    obtain ⟨e, he, q⟩ := List.mem_map.mp ha
    have : sdHas es a = true := by unfold sdHas; rw [List.any_eq_true]; exact ⟨e, he, by simp [q]⟩
    rw [this] at hx; cases hx
  · rcases List.mem_append.mp he with he | he
    · exact h.2 e he
    · rw [List.mem_singleton] at he; rw [he]; rfl
theorem step_eq {a : Pr} {es : Sd} (ha : 0 < a.1.length) (h : SdGood es) : fitStep a es = dueStep a es ∧ ∀ es', fitStep a es = some es' → SdGood es' := by
  have hs : isSlotC a.1 = eqS (chr1 a.1 0) "?" := by unfold isSlotC; rw [cutS_one ha]
  by_cases h1 : eqS (chr1 a.1 0) "?" = true
  · have f1 : fitStep a es = if (!eqS (sdOr es a.1 a.2) a.2) = true then none else some (sdSet es a.1 (some a.2)) := by unfold fitStep; rw [hs, if_pos h1]
    have d1 : dueStep a es = if (!sdHas es a.1) = true then some (sdSet es a.1 (some a.2)) else if (!eqS (sdTextOf es a.1) a.2) = true then none else some es := by unfold dueStep; rw [if_neg (c := (!eqS (chr1 a.1 0) "?") = true) (by rw [h1]; simp)]
    by_cases h2 : sdHas es a.1 = true
    · obtain ⟨q1, q2⟩ := getD_has h h2
      have e1 : sdOr es a.1 a.2 = sdTextOf es a.1 := by unfold sdOr; rw [q1]
      rw [e1] at f1
      rw [if_neg (c := (!sdHas es a.1) = true) (by rw [h2]; simp)] at d1
      rw [f1, d1]
      by_cases h3 : (!eqS (sdTextOf es a.1) a.2) = true
      · rw [if_pos h3, if_pos h3]
        exact ⟨rfl, fun es' q => by cases q⟩
      · rw [if_neg h3, if_neg h3]
        have h4 : sdTextOf es a.1 = a.2 := by
          have : eqS (sdTextOf es a.1) a.2 = true := by simpa using h3
          unfold eqS at this; rw [eqT_str] at this; exact of_decide_eq_true this
        rw [h4] at q2
        rw [set_same h q2]
        exact ⟨rfl, fun es' q => by cases q; exact h⟩
    · have h2' : sdHas es a.1 = false := by simpa using h2
      have e1 : sdOr es a.1 a.2 = a.2 := by
        unfold sdOr
        have : sdGet es a.1 = none := by
          have := isSome_get es a.1
          rw [h2'] at this
          cases q : sdGet es a.1 with
          | none => rfl
          | some o => rw [q] at this; cases this
        rw [this]
      rw [e1, if_neg (by unfold eqS; rw [eqT_str]; simp)] at f1
      rw [if_pos (c := (!sdHas es a.1) = true) (by rw [h2']; rfl)] at d1
      rw [f1, d1]
      exact ⟨rfl, fun es' q => by cases q; exact set_good h h2'⟩
  · have h1' : eqS (chr1 a.1 0) "?" = false := by simpa using h1
    have f1 : fitStep a es = if (!eqS a.1 a.2) = true then none else some es := by unfold fitStep; rw [hs, if_neg h1]
    have d1 : dueStep a es = if (!eqS a.1 a.2) = true then none else some es := by unfold dueStep; rw [if_pos (c := (!eqS (chr1 a.1 0) "?") = true) (by rw [h1']; rfl)]
    rw [f1, d1]
    refine ⟨rfl, fun es' q => ?_⟩
    split at q
    · cases q
    · cases q; exact h
def dueGo : List Pr → Option Sd → Option Sd
  | _, none => none
  | [], some es => some es
  | a :: r, some es => dueGo r (dueStep a es)
theorem dueGo_none : ∀ l, dueGo l none = none
  | [] => rfl
  | _ :: _ => rfl
theorem dueGo_app : ∀ (l m : List Pr) (o : Option Sd), dueGo (l ++ m) o = dueGo m (dueGo l o)
  | [], m, none => (dueGo_none m).symm ▸ by cases m <;> rfl
  | [], m, some es => rfl
  | b :: l, m, none => by rw [List.cons_append]; exact (dueGo_none m).symm
  | b :: l, m, some es => dueGo_app l m (dueStep b es)
theorem go_eq : ∀ (l : List Pr) (es : Sd), (∀ a ∈ l, 0 < a.1.length) → SdGood es → fitGo l (some es) = dueGo l (some es) ∧ ∀ es', fitGo l (some es) = some es' → SdGood es'
  | [], es, _, h => ⟨rfl, fun es' q => by cases q; exact h⟩
  | a :: l, es, ha, h => by
    obtain ⟨h1, h2⟩ := step_eq (ha a List.mem_cons_self) h
    show fitGo l (fitStep a es) = dueGo l (dueStep a es) ∧ ∀ es', fitGo l (fitStep a es) = some es' → _
    rw [← h1]
    cases q : fitStep a es with
    | none => exact ⟨by rw [fitGo_none, dueGo_none], fun es' z => by rw [fitGo_none] at z; cases z⟩
    | some es1 => exact go_eq l es1 (fun b hb => ha b (List.mem_cons_of_mem _ hb)) (h2 es1 q)
theorem go_len : ∀ (l : List Pr) (es es' : Sd), fitGo l (some es) = some es' → es'.length ≤ es.length + l.length ∧ ((∀ e ∈ es, e.2.isSome = true) → ∀ e ∈ es', e.2.isSome = true)
  | [], es, es', q => by cases q; exact ⟨Nat.le_refl _, fun h => h⟩
  | a :: l, es, es', q => by
    have q' : fitGo l (fitStep a es) = some es' := q
    cases z : fitStep a es with
    | none => rw [z, fitGo_none] at q'; cases q'
    | some es1 =>
      rw [z] at q'
      obtain ⟨h1, h2⟩ := go_len l es1 es' q'
      have : es1.length ≤ es.length + 1 ∧ ((∀ e ∈ es, e.2.isSome = true) → ∀ e ∈ es1, e.2.isSome = true) := by
        unfold fitStep at z
        split at z
        · split at z
          · cases z
          · cases z
            exact ⟨len_sdSet _ _ _, fun h e he => (mem_sdSet he).elim (h e) fun q => by rw [q]; rfl⟩
        · split at z
          · cases z
          · cases z; exact ⟨by omega, fun h => h⟩
      exact ⟨by rw [List.length_cons]; omega, fun h => h2 (this.2 h)⟩
def tO : Option Sd → T
  | none => .none
  | some es => .sd es
end Mine

end
section
open PySem PySem.W PyProof.Rows
namespace Mine
open_top hd for PySem.Challenge.rw_uf020028_02
end Mine
end
section
open PySem PyProof.Rows
namespace Mine
local macro_rules | `(tactic| k_search "mem") => `(tactic| first | with_reducible exact List.mem_cons_self | ((with_reducible refine' List.mem_cons_of_mem _ ?_); k_search "mem"))
local macro_rules | `(tactic| k_search "put") => `(tactic| first | with_reducible exact Put.here (by with_unfolding_all rfl) | ((with_reducible apply Put.there); k_search "put"))
local macro_rules | `(tactic| k_search "putl") => `(tactic| first | with_reducible exact PutL.nil | (refine PutL.cons (by k_search "put") ?_; k_search "putl"))
local macro_rules | `(tactic| k_search "capt") => `(tactic| first | with_reducible exact Capt.nil | ((with_reducible apply Capt.loc); k_search "capt") | ((with_reducible apply Capt.gl); k_search "capt") | ((with_reducible apply Capt.fr (by k_search "mem") (by k_search "mem") (by with_unfolding_all rfl)); k_search "capt"))
local macro_rules | `(tactic| k_search "weak") => `(tactic| first | with_reducible exact Weak.nil | ((refine Weak.cons (by first | with_reducible exact Weak1.same _ | with_reducible exact Weak1.fz _ | with_reducible exact Weak1.vw _ | with_reducible exact Weak1.ow _ | with_reducible exact Weak1.fzvw _ | exact Weak1.same _) ?_); k_search "weak"))
local macro_rules | `(tactic| k_search "side") => `(tactic| first | assumption | with_reducible rfl | (with_reducible exact trivial) | omega | (refine ⟨?_, ?_⟩ <;> omega) | (simp only [hasLen, List.length_map, List.length_cons, List.length_nil]; omega) | with_reducible exact flat_strs _ _ | with_reducible exact flat_fact _ _ | with_reducible exact flat_facts _ _ | with_reducible exact flat_rules _ _ | with_reducible exact flat_items _ | exact trivial | rfl | (simp [flat]; done))
local macro_rules | `(tactic| k_search "call") => `(tactic| fail)
local macro_rules | `(tactic| k_search "eval") => `(tactic| fail_if_success (first | with_reducible show EvR _ _ _ _ _ _ _ | with_reducible show Tr _ _ _ _ _ _ _ | with_reducible show TrL _ _ _ _ _ _ _ _ | with_reducible show Cmp _ _ _ _ _ _ _ _ _ | with_reducible show EvL _ _ _ _ _ _ _ | with_reducible show EvArgs _ _ _ _ _ _ _ | with_reducible show EvPart _ _ _ _ _ _ _ | with_reducible show Src _ _ _ _ _ _ _ _ | with_reducible show EvW _ _ _ _ _ _ _))
local macro_rules | `(tactic| k_search "data") => `(tactic| first | (fail_if_success (fail_if_success (with_reducible show T))) | (fail_if_success (fail_if_success (with_reducible show Int))) | (fail_if_success (fail_if_success (with_reducible show Str))) | (fail_if_success (fail_if_success (with_reducible show Option Int))) | (fail_if_success (fail_if_success (with_reducible show List T))) | (fail_if_success (fail_if_success (with_reducible show Nat))) | (fail_if_success (fail_if_success (with_reducible show Bool))) | (fail_if_success (fail_if_success (with_reducible show Option Str))) | (fail_if_success (fail_if_success (with_reducible show List (Str × Option Str)))) | (fail_if_success (fail_if_success (with_reducible show List Str))) | (fail_if_success (fail_if_success (with_reducible show List Int))) | (fail_if_success (fail_if_success (with_reducible show List (List Str)))) | (fail_if_success (fail_if_success (with_reducible show Value))))
local macro_rules | `(tactic| k_search "go") => `(tactic| first | k_search "data" | k_search "ev" | k_search "mem" | (k_search "eval"; first | k_search "side" | skip))
local macro_rules | `(tactic| k_search "ev") => `(tactic| first | ((with_reducible show EvR _ _ _ _ _ _ (Expr.Name _ _)); k_search "name") | ((with_reducible show EvR _ _ _ _ _ _ (Expr.Constant _ _ _)); k_search "const") | ((with_reducible show EvR _ _ _ _ _ _ _); k_search "evr") | ((with_reducible show Tr _ _ _ _ _ _ _); k_search "tr") | ((with_reducible show Cmp _ _ _ _ _ _ _ _ _); k_search "cmp") | k_search "others")
local macro_rules | `(tactic| k_search "name") => `(tactic| first | with_reducible exact ev_name (by k_search "mem") | with_reducible exact EvS.pk (evs_name_ow (by k_search "mem")) | with_reducible exact EvS.pk (evs_name_vw (by k_search "mem")) | with_reducible exact evs_name_ow (by k_search "mem") | with_reducible exact evs_name_vw (by k_search "mem") | with_reducible exact Ev.pk (ev_name (by k_search "mem")) | with_reducible exact Ev.sw (ev_name (by k_search "mem")))
local macro_rules | `(tactic| k_search "const") => `(tactic| first | with_reducible exact ev_cint | with_reducible exact ev_cstr | with_reducible exact ev_cbool | with_reducible exact ev_cnone | with_reducible exact Ev.pk ev_cint | with_reducible exact Ev.pk ev_cstr | with_reducible exact Ev.pk ev_cbool | with_reducible exact Ev.pk ev_cnone | with_reducible exact Ev.sw ev_cint | with_reducible exact Ev.sw ev_cstr | with_reducible exact Ev.sw ev_cbool | with_reducible exact Ev.sw ev_cnone)
local macro_rules | `(tactic| k_search "evr") => `(tactic| first | ((with_reducible refine' Ev.pk ?_) <;> k_search "go") | ((with_reducible refine' Ev.sw ?_) <;> k_search "go") | ((with_reducible show EvR _ _ _ _ _ _ (Expr.BinOp _ _ _ _)); k_search "binop") | ((with_reducible show EvR _ _ _ _ _ _ (Expr.Subscript _ _ _)); k_search "subs") | ((with_reducible show EvR _ _ _ _ _ _ (Expr.Call _ _ _ _)); k_search "ecall") | ((with_reducible show EvR _ _ _ _ _ _ (Expr.Compare _ _ _ _)); k_search "ecmp") | ((with_reducible show EvR _ _ _ _ _ _ (Expr.BoolOp _ _ _)); k_search "ebool") | ((with_reducible show EvR _ _ _ _ _ _ (Expr.UnaryOp _ _ _)); k_search "eun") | ((with_reducible show EvR _ _ _ _ _ _ (Expr.List _ _)); k_search "elist") | ((with_reducible show EvR _ _ _ _ _ _ (Expr.Tuple _ _ _)); k_search "etup") | ((with_reducible show EvR _ _ _ _ _ _ (Expr.IfExp _ _ _ _)); k_search "eif"))
local macro_rules | `(tactic| k_search "binop") => `(tactic| first | ((with_reducible refine' ev_add ?_ ?_) <;> k_search "go") | ((with_reducible refine' ev_sub ?_ ?_) <;> k_search "go") | ((with_reducible refine' ev_div ?_ ?_ ?_) <;> k_search "go") | ((with_reducible refine' ev_mod ?_ ?_ ?_) <;> k_search "go") | ((with_reducible refine' ev_mul ?_ ?_ ?_) <;> k_search "go") | ((with_reducible refine' ev_adds ?_ ?_ ?_) <;> k_search "go") | ((with_reducible refine' ev_addt ?_ ?_ ?_) <;> k_search "go") | ((with_reducible refine' evF_addl ?_ ?_ ?_) <;> k_search "go") | ((with_reducible refine' EvF.sh ?_) <;> k_search "binop"))
local macro_rules | `(tactic| k_search "subs") => `(tactic| first | ((with_reducible refine' ev_item ?_ ?_ ?_ ?_) <;> k_search "go") | ((with_reducible refine' ev_item_tup ?_ ?_ ?_ ?_) <;> k_search "go") | ((with_reducible refine' ev_chr ?_ ?_ ?_ ?_) <;> k_search "go") | ((with_reducible refine' ev_item_sd ?_ ?_ ?_) <;> k_search "go") | ((with_reducible refine' ev_slice_str ?_ ?_ ?_) <;> k_search "go") | ((with_reducible refine' ev_slice_tup ?_ ?_ ?_ ?_) <;> k_search "go") | ((with_reducible refine' evF_slice ?_ ?_ ?_ ?_) <;> k_search "go") | ((with_reducible refine' EvF.sh ?_) <;> k_search "subs"))
local macro_rules | `(tactic| k_search "ecall") => `(tactic| first | k_search "call" | ((with_reducible refine' gLenM (by assumption) ?_ ?_ ?_) <;> k_search "go") | ((with_reducible refine' gLen (by assumption) ?_ ?_ ?_) <;> k_search "go") | ((with_reducible refine' gMin (by assumption) ?_ ?_ ?_) <;> k_search "go") | ((with_reducible refine' gMax (by assumption) ?_ ?_ ?_) <;> k_search "go") | ((with_reducible refine' gIntInt (by assumption) ?_ ?_ ?_) <;> k_search "go") | ((with_reducible refine' gIntBool (by assumption) ?_ ?_ ?_) <;> k_search "go") | ((with_reducible refine' gTuple (by assumption) ?_ ?_ ?_) <;> k_search "go") | ((with_reducible refine' gItems (by assumption) ?_ ?_ ?_) <;> k_search "go") | ((with_reducible refine' gList (by assumption) ?_ ?_ (isSeq_list _) ?_) <;> k_search "go") | ((with_reducible refine' gList (by assumption) ?_ ?_ (isSeq_tup _) ?_) <;> k_search "go") | ((with_reducible refine' gIsList (by assumption) ?_ ?_ ?_) <;> k_search "go") | ((with_reducible refine' gIsTup (by assumption) ?_ ?_ ?_) <;> k_search "go") | ((with_reducible refine' ev_join ?_ ?_ ?_ ?_) <;> k_search "go") | ((with_reducible apply EvF.sh); k_search "ecall"))
local macro_rules | `(tactic| k_search "ecmp") => `(tactic| ((with_reducible refine' ev_cmp ?_) <;> k_search "go"))
local macro_rules | `(tactic| k_search "ebool") => `(tactic| first | ((with_reducible refine' ev_and ?_ (fun _ => ?_)) <;> k_search "go") | ((with_reducible refine' ev_or ?_ (fun _ => ?_)) <;> k_search "go") | ((with_reducible refine' ev_bool1 ?_) <;> k_search "go"))
local macro_rules | `(tactic| k_search "eun") => `(tactic| first | ((with_reducible refine' ev_neg ?_) <;> k_search "go") | ((with_reducible refine' ev_not ?_ ?_) <;> k_search "go"))
local macro_rules | `(tactic| k_search "elist") => `(tactic| first | ((with_reducible refine' evF_list ?_) <;> k_search "go") | ((with_reducible refine' EvF.sh ?_) <;> k_search "go"))
local macro_rules | `(tactic| k_search "etup") => `(tactic| ((with_reducible refine' ev_tuple ?_) <;> k_search "go"))
local macro_rules | `(tactic| k_search "eif") => `(tactic| ((with_reducible refine' ev_if ?_ (fun _ => ?_) (fun _ => ?_) (anti_sh _)) <;> k_search "go"))
local macro_rules | `(tactic| k_search "tr") => `(tactic| first | ((with_reducible refine' tr_cmp ?_) <;> k_search "go") | ((with_reducible refine' tr_chain ?_ ?_ ?_) <;> k_search "go") | ((with_reducible refine' tr_not ?_) <;> k_search "go") | ((with_reducible refine' tr_boolop ?_) <;> k_search "go") | ((with_reducible refine' tr_bool ?_) <;> k_search "go") | ((with_reducible refine' tr_any ?_ ?_) <;> k_search "go"))
local macro_rules | `(tactic| k_search "cmp") => `(tactic| first | ((with_reducible refine' cmp_lt ?_ ?_) <;> k_search "go") | ((with_reducible refine' cmp_le ?_ ?_) <;> k_search "go") | ((with_reducible refine' cmp_gt ?_ ?_) <;> k_search "go") | ((with_reducible refine' cmp_ge ?_ ?_) <;> k_search "go") | ((with_reducible refine' cmp_eq ?_ ?_ ?_ ?_) <;> k_search "go") | ((with_reducible refine' cmp_ne ?_ ?_ ?_ ?_) <;> k_search "go") | ((with_reducible refine' cmp_in_fd ?_ ?_) <;> k_search "go") | ((with_reducible refine' cmp_notin_fd ?_ ?_) <;> k_search "go") | ((with_reducible refine' cmp_in_sd ?_ ?_) <;> k_search "go") | ((with_reducible refine' cmp_notin_sd ?_ ?_) <;> k_search "go") | ((with_reducible refine' cmp_in ?_ ?_ ?_ ?_) <;> k_search "go") | ((with_reducible refine' cmp_notin ?_ ?_ ?_ ?_) <;> k_search "go") | ((with_reducible refine' cmp_in_tup ?_ ?_ ?_ ?_) <;> k_search "go") | ((with_reducible refine' cmp_notin_tup ?_ ?_ ?_ ?_) <;> k_search "go") | ((with_reducible refine' cmp_isNone ?_ ?_) <;> k_search "go") | ((with_reducible refine' cmp_isNotNone ?_ ?_) <;> k_search "go"))
local macro_rules | `(tactic| k_search "others") => `(tactic| first | with_reducible exact trl_and_nil | with_reducible exact trl_or_nil | ((with_reducible refine' trl_and ?_ (fun _ => ?_)) <;> k_search "go") | ((with_reducible refine' trl_or ?_ (fun _ => ?_)) <;> k_search "go") | with_reducible exact EvPart.none | ((with_reducible refine' EvPart.some ?_) <;> k_search "go") | with_reducible exact EvL.nil | ((with_reducible refine' EvL.cons ?_ ?_) <;> k_search "go") | with_reducible exact EvArgs.nil | ((with_reducible refine' EvArgs.sh ?_ ?_) <;> k_search "go") | ((with_reducible refine' EvArgs.sw ?_ ?_) <;> k_search "go") | ((with_reducible refine' gRangeN (by assumption) ?_ ?_ ?_) <;> k_search "go") | ((with_reducible refine' gRange2 (by assumption) ?_ ?_ ?_ ?_ ?_) <;> k_search "go") | ((with_reducible refine' gEnumM (by assumption) ?_ ?_) <;> k_search "go") | with_reducible exact evw_vw (by k_search "mem") | ((with_reducible refine' Ev.ww ?_) <;> k_search "go") | with_reducible exact src_vw (by k_search "mem") | ((with_reducible refine' src_list ?_) <;> k_search "go") | ((with_reducible refine' src_tup ?_) <;> k_search "go"))

noncomputable def P02 : Program := Mine.hd.view_39
structure W02 (H : Heap) (mg mb : Str → Option Value) : Prop where
  top : ∃ loose mean, Top P02 loose mean mg mb H
  g : Gd H mg mb
section
variable {prog : Program} {w : World} {H : Heap} {mg mb : Str → Option Value} {ρ : Rho} {k : Nat} {p pos : Pos}
def isSlot (x : Str) : Bool := eqT (.str (cutS x none (some 1))) (.str "?")
noncomputable def d_is_slot : DefRec := fdef P02 0
theorem m_is_slot : d_is_slot ∈ recsOf P02 := List.mem_of_getElem? (i := 0) (by kernel_rfl)
theorem c_is_slot {x : Str} (W : W02 H mg mb)  : Calls prog w H mg "is_slot" 1 [(false, .str x)] (Sh prog w (.bool (isSlot x))) := by
  obtain ⟨⟨loose, mean, Tp⟩, g⟩ := id W
  refine calls_top (k := 0) (d := d_is_slot) (ps := ["part"]) (ρ := [("part", .fz (.str x))]) Tp m_is_slot (by decide +kernel) (fun vs pm code doc h => by match vs, h with | [a0], _ => rfl) rfl (by kernel_rfl) ?_
  refine run_ret (t := ?t) ?he ?hq
  case' he => k_search "go"
  exact out_ret rfl
theorem e_is_slot {x : Str} {e0 : Expr} (W : W02 H mg mb) (hm : (("is_slot" : Str), Slot.gl) ∈ ρ) (h0 : Ev prog w H ρ k e0 (.str x))  (hk : 1 ≤ k) (hns : noStar [e0] = true := by with_unfolding_all rfl) : EvR prog w H (Sh prog w (.bool (isSlot x))) ρ k (.Call (.Name "is_slot" p) [e0] [] pos) := by
  obtain ⟨⟨loose, mean, Tp⟩, g⟩ := id W
  exact ev_callT (d := d_is_slot) Tp m_is_slot hm (.sh h0 .nil) (c_is_slot W ) (anti_sh _) hk hns
local macro_rules | `(tactic| k_search "call") => `(tactic| ((with_reducible refine' e_is_slot (by assumption) ?_ ?_ ?_) <;> k_search "go"))

def cellAt (xs : List Int) (n : Int) : Int := if n < xs.length then xs.getD n.toNat 0 else 0
noncomputable def d_law_cell_at : DefRec := fdef P02 2
theorem m_law_cell_at : d_law_cell_at ∈ recsOf P02 := List.mem_of_getElem? (i := 2) (by kernel_rfl)
theorem c_law_cell_at {xs : List Int} {n : Int} (W : W02 H mg mb) (hn : 0 ≤ n) (hx : xs.length ≤ 63) : Calls prog w H mg "_law_cell_at" 1 [(true, .list (xs.map .int)), (false, .int n)] (Sh prog w (.int (cellAt xs n))) := by
  obtain ⟨⟨loose, mean, Tp⟩, g⟩ := id W
  refine calls_top (k := 0) (d := d_law_cell_at) (ps := ["_law_script", "_law_k"]) (ρ := [("_law_script", .vw (.list (xs.map .int))), ("_law_k", .fz (.int n)), ("len", .gl)]) Tp m_law_cell_at (by decide +kernel) (fun vs pm code doc h => by match vs, h with | [a0, a1], _ => rfl) rfl (by kernel_rfl) ?_
  refine run_if (b := ?b) ?he (fun hb => ?_) (fun hb => ?_)
  case' he => k_search "go"
  · have hlt : n < xs.length := by simpa [size] using hb
    refine run_ret (t := .int (cellAt xs n)) (ev_item (by k_search "go") (by k_search "go") (by omega) ?_) (out_ret rfl)
    rw [List.getElem?_map, cellAt, if_pos hlt, List.getElem?_eq_getElem (by omega), List.getD_eq_getElem?_getD, List.getElem?_eq_getElem (by omega)]
    rfl
  · have hlt : ¬ n < xs.length := by simpa [size] using hb
    refine run_nil (then_next (run_ret (t := .int 0) (by k_search "go") (out_ret ?_)))
    rw [cellAt, if_neg hlt]
theorem e_law_cell_at {xs : List Int} {n : Int} {e0 e1 : Expr} (W : W02 H mg mb) (hm : (("_law_cell_at" : Str), Slot.gl) ∈ ρ) (h0 : EvS prog w H ρ k e0 (.list (xs.map .int))) (h1 : Ev prog w H ρ k e1 (.int n)) (hn : 0 ≤ n) (hx : xs.length ≤ 63) (hk : 1 ≤ k) (hns : noStar [e0, e1] = true := by with_unfolding_all rfl) : EvR prog w H (Sh prog w (.int (cellAt xs n))) ρ k (.Call (.Name "_law_cell_at" p) [e0, e1] [] pos) := by
  obtain ⟨⟨loose, mean, Tp⟩, g⟩ := id W
  exact ev_callT (d := d_law_cell_at) Tp m_law_cell_at hm (.sw h0 (.sh h1 .nil)) (c_law_cell_at W hn hx) (anti_sh _) hk hns
local macro_rules | `(tactic| k_search "call") => `(tactic| ((with_reducible refine' e_law_cell_at (by assumption) ?_ ?_ ?_ ?_ ?_ ?_) <;> k_search "go"))

noncomputable def d_law_word_by : DefRec := fdef P02 3
theorem m_law_word_by : d_law_word_by ∈ recsOf P02 := List.mem_of_getElem? (i := 3) (by kernel_rfl)
theorem c_law_word_by {c n : Int} (W : W02 H mg mb) (hn : 0 ≤ n) (hn2 : n ≤ 6) : Calls prog w H mg "_law_word_by" 1 [(false, .int c), (false, .int n)] (Sh prog w (.str (wordBy2 c n))) := by
  obtain ⟨⟨loose, mean, Tp⟩, g⟩ := id W
  refine calls_top (k := 0) (d := d_law_word_by) (ps := ["_law_cell", "_law_k"]) (ρ := [("_law_cell", .fz (.int c)), ("_law_k", .fz (.int n)), ("_law_letters", .un), ("_law_j", .un), ("_law_base", .un), ("_law_found", .un), ("range", .gl), (markOf "_law_cell", .ce "_law_cell"), (markOf "_law_letters", .ce "_law_letters")]) Tp m_law_word_by (by decide +kernel) (fun vs pm code doc h => by match vs, h with | [a0, a1], _ => rfl) rfl (by kernel_rfl) ?_
  have hl : ((Str.ofString "abcdefghijklmnopqrstuvwxyz").length : Int) = 26 := by rw [len_letters]; rfl
  have hb := len_base letters 208 5 26 c
  refine run_assign (t := .str letters) (ev_cstr (x := "abcdefghijklmnopqrstuvwxyz")) (by k_search "put") ?_
  refine run_assign (t := .str (baseBy letters 208 5 26 c)) (ev_join (xs := (List.range (8 : Int).toNat).map fun j : Nat => chr1 letters ((c / 208 + 5 * (j : Int)) % 26)) ev_cstr (Ev.sw (EvF.sh ?_)) ?_ ?_) (by k_search "put") ?_
  · rw [List.map_map]
    refine evF_comp1 (fun j : Nat => T.int j) _ (List.range (8 : Int).toNat) inj_nat (by k_search "go") (by k_search "capt") (fun j hj => ?_) (by decide)
    refine ev_chr (x := letters) (by k_search "go") (by k_search "go") (by omega) ?_
    show _ < ((Str.ofString "abcdefghijklmnopqrstuvwxyz").length : Int)
    omega
  · rw [List.map_map, List.length_map]
    have e1 : ((List.range (8 : Int).toNat).map ((·.length) ∘ fun j : Nat => chr1 letters ((c / 208 + 5 * (j : Int)) % 26))).sum = 8 := rfl
    rw [e1]
    decide +kernel
  · refine sOk_join (fun d hd => ?_) (fun d hd => ?_) (by rw [List.length_map, List.length_range]; decide)
    · obtain ⟨j, _, rfl⟩ := List.mem_map.mp hd; rfl
    · obtain ⟨j, _, rfl⟩ := List.mem_map.mp hd
      refine sOk_chr1 (by decide +kernel) (by omega) ?_
      show _ < ((Str.ofString "abcdefghijklmnopqrstuvwxyz").length : Int)
      omega
  refine run_if (b := ?b) ?he (fun h1 => ?_) (fun h1 => ?_)
  case' he => k_search "go"
  · have h1' : c % 4 = 1 := by rw [eqT_int] at h1; simpa using h1
    refine run_ret (t := .str (wordBy2 c n)) ?_ (out_ret rfl)
    unfold wordBy2 textBy2
    rw [if_pos h1']
    refine ev_adds (by k_search "go") (ev_chr (x := letters) (by k_search "go") (by k_search "go") (by omega) ?_) ?_
    · show _ < ((Str.ofString "abcdefghijklmnopqrstuvwxyz").length : Int); omega
    · have := len_cut (baseBy letters 208 5 26 c) none (some (c / 26 % 8))
      rw [chr1_len]; omega
  · have h1' : ¬ c % 4 = 1 := by rw [eqT_int] at h1; simpa using h1
    refine run_nil (then_next (run_if (b := ?b2) ?he2 (fun h2 => ?_) (fun h2 => ?_)))
    case' he2 => k_search "go"
    · have h2' : c % 4 = 2 := by rw [eqT_int] at h2; simpa using h2
      refine run_ret (t := .str (wordBy2 c n)) ?_ (out_ret rfl)
      unfold wordBy2 textBy2
      rw [if_neg h1', if_pos h2']
      k_search "go"
    · have h2' : ¬ c % 4 = 2 := by rw [eqT_int] at h2; simpa using h2
      refine run_nil (then_next (run_assign (t := .str (chr1 letters ((c + n) % 26))) (ev_chr (x := letters) (by k_search "go") (by k_search "go") (by omega) ?_) (by k_search "put") ?_))
      · show _ < ((Str.ofString "abcdefghijklmnopqrstuvwxyz").length : Int); omega
      refine run_forE (fun j : Nat => T.int j) (List.range ((c / 26 + 3 * n) % 8).toNat) (fun pre => [("_law_cell", .fz (.int c)), ("_law_k", .fz (.int n)), ("_law_letters", .fz (.str letters)), ("_law_j", .un), ("_law_base", .fz (.str (baseBy letters 208 5 26 c))), ("_law_found", .fz (.str (pre.foldl (growBy letters 208 5 26 c n) (chr1 letters ((c + n) % 26))))), ("range", .gl), (markOf "_law_cell", .ce "_law_cell"), (markOf "_law_letters", .ce "_law_letters")]) ?_ (by k_search "weak") (fun pre j post e => ⟨_, by k_search "put", ?_⟩) ?_
      · k_search "go"
      · have hlen : pre.length ≤ 8 := by
          have := congrArg List.length e
          rw [List.length_range, List.length_append, List.length_cons] at this
          omega
        refine run_assign (t := .str ((pre ++ [j]).foldl (growBy letters 208 5 26 c n) (chr1 letters ((c + n) % 26)))) ?_ (by k_search "put") (run_nil (by k_search "weak"))
        rw [List.foldl_append]
        refine ev_adds (by k_search "go") (ev_chr (x := letters) (by k_search "go") (by k_search "go") (by omega) ?_) ?_
        · show _ < ((Str.ofString "abcdefghijklmnopqrstuvwxyz").length : Int); omega
        · rw [len_grow, chr1_len, chr1_len]; omega
      · refine run_ret (t := ?t3) ?he3 (out_ret ?_)
        case' he3 => k_search "go"
        unfold wordBy2 textBy2
        rw [if_neg h1', if_neg h2']
theorem e_law_word_by {c n : Int} {e0 e1 : Expr} (W : W02 H mg mb) (hm : (("_law_word_by" : Str), Slot.gl) ∈ ρ) (h0 : Ev prog w H ρ k e0 (.int c)) (h1 : Ev prog w H ρ k e1 (.int n)) (hn : 0 ≤ n) (hn2 : n ≤ 6) (hk : 1 ≤ k) (hns : noStar [e0, e1] = true := by with_unfolding_all rfl) : EvR prog w H (Sh prog w (.str (wordBy2 c n))) ρ k (.Call (.Name "_law_word_by" p) [e0, e1] [] pos) := by
  obtain ⟨⟨loose, mean, Tp⟩, g⟩ := id W
  exact ev_callT (d := d_law_word_by) Tp m_law_word_by hm (.sh h0 (.sh h1 .nil)) (c_law_word_by W hn hn2) (anti_sh _) hk hns
local macro_rules | `(tactic| k_search "call") => `(tactic| ((with_reducible refine' e_law_word_by (by assumption) ?_ ?_ ?_ ?_ ?_ ?_) <;> k_search "go"))

noncomputable def d_law_thing_by : DefRec := fdef P02 4
theorem m_law_thing_by : d_law_thing_by ∈ recsOf P02 := List.mem_of_getElem? (i := 4) (by kernel_rfl)
theorem c_law_thing_by {c n : Int} (W : W02 H mg mb) (hn : 0 ≤ n) (hn2 : n ≤ 6) : Calls prog w H mg "_law_thing_by" 1 [(false, .int c), (false, .int n)] (Sh prog w (.str (thingBy2 c n))) := by
  obtain ⟨⟨loose, mean, Tp⟩, g⟩ := id W
  refine calls_top (k := 0) (d := d_law_thing_by) (ps := ["_law_cell", "_law_k"]) (ρ := [("_law_cell", .fz (.int c)), ("_law_k", .fz (.int n)), ("_law_signs", .un), ("_law_j", .un), ("_law_base", .un), ("_law_found", .un), ("range", .gl), (markOf "_law_cell", .ce "_law_cell"), (markOf "_law_signs", .ce "_law_signs")]) Tp m_law_thing_by (by decide +kernel) (fun vs pm code doc h => by match vs, h with | [a0, a1], _ => rfl) rfl (by kernel_rfl) ?_
  have hl : ((Str.ofString "0123456789abcdefghijklmnopqrstuvwxyz").length : Int) = 36 := by rw [len_signs]; rfl
  have hb := len_base signs 288 7 36 c
  refine run_assign (t := .str signs) (ev_cstr (x := "0123456789abcdefghijklmnopqrstuvwxyz")) (by k_search "put") ?_
  refine run_assign (t := .str (baseBy signs 288 7 36 c)) (ev_join (xs := (List.range (8 : Int).toNat).map fun j : Nat => chr1 signs ((c / 288 + 7 * (j : Int)) % 36)) ev_cstr (Ev.sw (EvF.sh ?_)) ?_ ?_) (by k_search "put") ?_
  · rw [List.map_map]
    refine evF_comp1 (fun j : Nat => T.int j) _ (List.range (8 : Int).toNat) inj_nat (by k_search "go") (by k_search "capt") (fun j hj => ?_) (by decide)
    refine ev_chr (x := signs) (by k_search "go") (by k_search "go") (by omega) ?_
    show _ < ((Str.ofString "0123456789abcdefghijklmnopqrstuvwxyz").length : Int)
    omega
  · rw [List.map_map, List.length_map]
    have e1 : ((List.range (8 : Int).toNat).map ((·.length) ∘ fun j : Nat => chr1 signs ((c / 288 + 7 * (j : Int)) % 36))).sum = 8 := rfl
    rw [e1]
    decide +kernel
  · refine sOk_join (fun d hd => ?_) (fun d hd => ?_) (by rw [List.length_map, List.length_range]; decide)
    · obtain ⟨j, _, rfl⟩ := List.mem_map.mp hd; rfl
    · obtain ⟨j, _, rfl⟩ := List.mem_map.mp hd
      refine sOk_chr1 (by decide +kernel) (by omega) ?_
      show _ < ((Str.ofString "0123456789abcdefghijklmnopqrstuvwxyz").length : Int)
      omega
  refine run_if (b := ?b) ?he (fun h1 => ?_) (fun h1 => ?_)
  case' he => k_search "go"
  · have h1' : c % 4 = 1 := by rw [eqT_int] at h1; simpa using h1
    refine run_ret (t := .str (thingBy2 c n)) ?_ (out_ret rfl)
    unfold thingBy2 textBy2
    rw [if_pos h1']
    refine ev_adds (by k_search "go") (ev_chr (x := signs) (by k_search "go") (by k_search "go") (by omega) ?_) ?_
    · show _ < ((Str.ofString "0123456789abcdefghijklmnopqrstuvwxyz").length : Int); omega
    · have := len_cut (baseBy signs 288 7 36 c) none (some (c / 36 % 8))
      rw [chr1_len]; omega
  · have h1' : ¬ c % 4 = 1 := by rw [eqT_int] at h1; simpa using h1
    refine run_nil (then_next (run_if (b := ?b2) ?he2 (fun h2 => ?_) (fun h2 => ?_)))
    case' he2 => k_search "go"
    · have h2' : c % 4 = 2 := by rw [eqT_int] at h2; simpa using h2
      refine run_ret (t := .str (thingBy2 c n)) ?_ (out_ret rfl)
      unfold thingBy2 textBy2
      rw [if_neg h1', if_pos h2']
      k_search "go"
    · have h2' : ¬ c % 4 = 2 := by rw [eqT_int] at h2; simpa using h2
      refine run_nil (then_next (run_assign (t := .str (chr1 signs ((c + n) % 36))) (ev_chr (x := signs) (by k_search "go") (by k_search "go") (by omega) ?_) (by k_search "put") ?_))
      · show _ < ((Str.ofString "0123456789abcdefghijklmnopqrstuvwxyz").length : Int); omega
      refine run_forE (fun j : Nat => T.int j) (List.range ((c / 36 + 3 * n) % 8).toNat) (fun pre => [("_law_cell", .fz (.int c)), ("_law_k", .fz (.int n)), ("_law_signs", .fz (.str signs)), ("_law_j", .un), ("_law_base", .fz (.str (baseBy signs 288 7 36 c))), ("_law_found", .fz (.str (pre.foldl (growBy signs 288 7 36 c n) (chr1 signs ((c + n) % 36))))), ("range", .gl), (markOf "_law_cell", .ce "_law_cell"), (markOf "_law_signs", .ce "_law_signs")]) ?_ (by k_search "weak") (fun pre j post e => ⟨_, by k_search "put", ?_⟩) ?_
      · k_search "go"
      · have hlen : pre.length ≤ 8 := by
          have := congrArg List.length e
          rw [List.length_range, List.length_append, List.length_cons] at this
          omega
        refine run_assign (t := .str ((pre ++ [j]).foldl (growBy signs 288 7 36 c n) (chr1 signs ((c + n) % 36)))) ?_ (by k_search "put") (run_nil (by k_search "weak"))
        rw [List.foldl_append]
        refine ev_adds (by k_search "go") (ev_chr (x := signs) (by k_search "go") (by k_search "go") (by omega) ?_) ?_
        · show _ < ((Str.ofString "0123456789abcdefghijklmnopqrstuvwxyz").length : Int); omega
        · rw [len_grow, chr1_len, chr1_len]; omega
      · refine run_ret (t := ?t3) ?he3 (out_ret ?_)
        case' he3 => k_search "go"
        unfold thingBy2 textBy2
        rw [if_neg h1', if_neg h2']
theorem e_law_thing_by {c n : Int} {e0 e1 : Expr} (W : W02 H mg mb) (hm : (("_law_thing_by" : Str), Slot.gl) ∈ ρ) (h0 : Ev prog w H ρ k e0 (.int c)) (h1 : Ev prog w H ρ k e1 (.int n)) (hn : 0 ≤ n) (hn2 : n ≤ 6) (hk : 1 ≤ k) (hns : noStar [e0, e1] = true := by with_unfolding_all rfl) : EvR prog w H (Sh prog w (.str (thingBy2 c n))) ρ k (.Call (.Name "_law_thing_by" p) [e0, e1] [] pos) := by
  obtain ⟨⟨loose, mean, Tp⟩, g⟩ := id W
  exact ev_callT (d := d_law_thing_by) Tp m_law_thing_by hm (.sh h0 (.sh h1 .nil)) (c_law_thing_by W hn hn2) (anti_sh _) hk hns
local macro_rules | `(tactic| k_search "call") => `(tactic| ((with_reducible refine' e_law_thing_by (by assumption) ?_ ?_ ?_ ?_ ?_ ?_) <;> k_search "go"))

def pickStep (ps : List Str) (a : List Str × Int) : List Str × Int := (a.1 ++ [ps.getD (a.2 % ps.length).toNat ""], a.2 / ps.length)
def pick (ps : List Str) (a : List Str × Int) (n : Nat) : List Str × Int := (List.range n).foldl (fun a _ => pickStep ps a) a
def patternBy (c : Int) (ws ps : List Str) : List Str := (pick ps ([ws.getD (c % 4).toNat ""], c * 48271 % 2147483647) (c / 4 % 4).toNat).1
theorem pick_len (ps : List Str) : ∀ (js : List Nat) (a : List Str × Int), (js.foldl (fun a _ => pickStep ps a) a).1.length = a.1.length + js.length
  | [], a => rfl
  | j :: js, a => by rw [List.foldl_cons, pick_len ps js, pickStep, List.length_append, List.length_cons]; simp; omega
noncomputable def d_law_pattern : DefRec := fdef P02 5
theorem m_law_pattern : d_law_pattern ∈ recsOf P02 := List.mem_of_getElem? (i := 5) (by kernel_rfl)
theorem c_law_pattern {c : Int} {ws ps : List Str} (W : W02 H mg mb) (hw : ws.length = 4) (hp0 : 0 < ps.length) (hp : ps.length ≤ 64) : Calls prog w H mg "_law_pattern" 1 [(false, .int c), (true, .list (ws.map .str)), (true, .list (ps.map .str))] (Sh prog w (.tup ((patternBy c ws ps).map .str))) := by
  obtain ⟨⟨loose, mean, Tp⟩, g⟩ := id W
  refine calls_top (k := 0) (d := d_law_pattern) (ps := ["_law_cell", "_law_words", "_law_parts"]) (ρ := [("_law_cell", .fz (.int c)), ("_law_words", .vw (.list (ws.map .str))), ("_law_parts", .vw (.list (ps.map .str))), ("_law_one", .un), ("_law_found", .un), ("_law_k", .un), ("range", .gl), ("len", .gl), ("tuple", .gl)]) Tp m_law_pattern (by decide +kernel) (fun vs pm code doc h => by match vs, h with | [a0, a1, a2], _ => rfl) rfl (by kernel_rfl) ?_
  refine run_assign (t := .int (c * 48271 % 2147483647)) ?_ (by k_search "put") ?_
  · k_search "go"
  refine run_assignF (t := .list ([ws.getD (c % 4).toNat ""].map .str)) (evF_list (.cons ?_ .nil)) (by k_search "put") ?_
  · refine ev_item (by k_search "go") (by k_search "go") (by omega) ?_
    rw [List.getElem?_map, getD_some (by omega)]; rfl
  refine run_forE (fun j : Nat => T.int j) (List.range (c / 4 % 4).toNat) (fun pre => [("_law_cell", .fz (.int c)), ("_law_words", .vw (.list (ws.map .str))), ("_law_parts", .vw (.list (ps.map .str))), ("_law_one", .fz (.int (pre.foldl (fun a _ => pickStep ps a) ([ws.getD (c % 4).toNat ""], c * 48271 % 2147483647)).2)), ("_law_found", .ow (.list ((pre.foldl (fun a _ => pickStep ps a) ([ws.getD (c % 4).toNat ""], c * 48271 % 2147483647)).1.map .str))), ("_law_k", .un), ("range", .gl), ("len", .gl), ("tuple", .gl)]) (by k_search "go") (by k_search "weak") (fun pre j post e => ⟨_, by k_search "put", ?_⟩) ?_
  · have hlen := pick_len ps pre ([ws.getD (c % 4).toNat ""], c * 48271 % 2147483647)
    have hpre : pre.length ≤ 4 := by
      have := congrArg List.length e
      rw [List.length_range, List.length_append, List.length_cons] at this
      omega
    rw [List.foldl_append, List.foldl_cons, List.foldl_nil]
    generalize pre.foldl (fun a _ => pickStep ps a) ([ws.getD (c % 4).toNat ""], c * 48271 % 2147483647) = a at hlen ⊢
    have hm := Int.emod_nonneg a.2 (b := (ps.length : Int)) (by omega)
    have hm2 := Int.emod_lt_of_pos a.2 (b := (ps.length : Int)) (by omega)
    have hsz : size (.list (ps.map T.str)) = ps.length := by simp [size]
    refine run_append (t := .str (ps.getD (a.2 % ps.length).toNat "")) (by k_search "mem") (ev_item (i := a.2 % ps.length) (by k_search "go") ?_ (by omega) ?_) (by k_search "put") (by rw [List.length_map, hlen]; simp; omega) ?_
    · rw [← hsz]
      refine ev_mod (by k_search "go") (by k_search "go") ?_
      rw [hsz]; omega
    · rw [List.getElem?_map, getD_some (by omega)]; rfl
    refine run_assign (t := .int (a.2 / ps.length)) ?_ (by k_search "put") (run_nil ?_)
    · rw [← hsz]
      refine ev_div (by k_search "go") (by k_search "go") ?_
      rw [hsz]; omega
    · simp only [pickStep, List.map_append, List.map_cons, List.map_nil]
      k_search "weak"
  · have hlen := pick_len ps (List.range (c / 4 % 4).toNat) ([ws.getD (c % 4).toNat ""], c * 48271 % 2147483647)
    refine run_ret (t := ?t) ?he (out_ret ?hq)
    case' he => k_search "go"
    case hq => rfl
    rw [List.length_map, hlen]; simp; omega
theorem e_law_pattern {c : Int} {ws ps : List Str} {e0 e1 e2 : Expr} (W : W02 H mg mb) (hm : (("_law_pattern" : Str), Slot.gl) ∈ ρ) (h0 : Ev prog w H ρ k e0 (.int c)) (h1 : EvS prog w H ρ k e1 (.list (ws.map .str))) (h2 : EvS prog w H ρ k e2 (.list (ps.map .str))) (hw : ws.length = 4) (hp0 : 0 < ps.length) (hp : ps.length ≤ 64) (hk : 1 ≤ k) (hns : noStar [e0, e1, e2] = true := by with_unfolding_all rfl) : EvR prog w H (Sh prog w (.tup ((patternBy c ws ps).map .str))) ρ k (.Call (.Name "_law_pattern" p) [e0, e1, e2] [] pos) := by
  obtain ⟨⟨loose, mean, Tp⟩, g⟩ := id W
  exact ev_callT (d := d_law_pattern) Tp m_law_pattern hm (.sh h0 (.sw h1 (.sw h2 .nil))) (c_law_pattern W hw hp0 hp) (anti_sh _) hk hns
local macro_rules | `(tactic| k_search "call") => `(tactic| ((with_reducible refine' e_law_pattern (by assumption) ?_ ?_ ?_ ?_ ?_ ?_ ?_ ?_) <;> k_search "go"))

theorem ev_strAt {xs : List Str} {v s : Expr} {i : Int} {j : Nat} (hl : EvS prog w H ρ k v (.list (xs.map .str))) (hi : Ev prog w H ρ k s (.int i)) (h0 : 0 ≤ i) (hj : i.toNat = j) (h : j < xs.length) (h2 : xs.length ≤ 4096) (hs : notSlice s = true := by with_unfolding_all rfl) : Ev prog w H ρ k (.Subscript v s pos) (.str (xs.getD j "")) := by
  refine ev_item hl hi ⟨h0, ?_⟩ ?_ hs
  · have : i < 4096 := by omega
    exact Int.lt_trans this (by decide)
  · rw [List.getElem?_map, hj, getD_some h]; rfl
theorem ev_strAtT {xs : List Str} {v s : Expr} {i : Int} {j : Nat} (hl : EvS prog w H ρ k v (.tup (xs.map .str))) (hi : Ev prog w H ρ k s (.int i)) (h0 : 0 ≤ i) (hj : i.toNat = j) (h : j < xs.length) (h2 : xs.length ≤ 4096) (hs : notSlice s = true := by with_unfolding_all rfl) : Ev prog w H ρ k (.Subscript v s pos) (.str (xs.getD j "")) := by
  refine ev_item_tup hl hi ⟨h0, ?_⟩ ?_ hs
  · have : i < 4096 := by omega
    exact Int.lt_trans this (by decide)
  · rw [List.getElem?_map, hj, getD_some h]; rfl
def lput (sl row : List Str) (x : Str) : Str := if ((sl.map T.str).any fun y => eqT y (.str x)) = true then row.getD (idx sl x) "" else x
def fact0 (f : Fact) (sl row : List Str) : List Str := f.getD 0 "" :: (f.drop 1).map (lput sl row)
def fact1 (p : Int) (row f : List Str) : List Str := if (eqI (p % 6) 1 && (decide (1 < (f.length : Int)) && true)) = true then f.set (1 + p / 6 % ((f.length : Int) - 1)).toNat (row.getD 3 "") else f
def fact2 (p : Int) (ws f : List Str) : List Str := if eqI (p % 6) 3 = true then f.set 0 (ws.getD (p / 6 % 4).toNat "") else f
def fact3 (p : Int) (row f : List Str) : List Str := if (eqI (p % 6) 5 && (decide ((f.length : Int) < 4) && true)) = true then f ++ [row.getD (p / 6 % 3).toNat ""] else f
def fact4 (p : Int) (f : List Str) : List Str := if (eqI (p % 6) 4 && (decide (1 < (f.length : Int)) && true)) = true then cut f none (some (-1)) else f
def factBy (f : Fact) (sl row ws : List Str) (p : Int) : List Str := fact4 p (fact3 p row (fact2 p ws (fact1 p row (fact0 f sl row))))
theorem set_map {α β : Type} (g : α → β) (xs : List α) (n : Nat) (a : α) : (xs.set n a).map g = (xs.map g).set n (g a) := by rw [List.map_set]
theorem fact_len (f : Fact) (sl row ws : List Str) (p : Int) (h0 : 0 < f.length) (h : f.length ≤ 4) : (factBy f sl row ws p).length ≤ 5 := by
  have h1 : (fact0 f sl row).length ≤ 4 := by unfold fact0; rw [List.length_cons, List.length_map, List.length_drop]; omega
  have h2 : (fact1 p row (fact0 f sl row)).length ≤ 4 := by unfold fact1; split <;> simp_all
  have h3 : (fact2 p ws (fact1 p row (fact0 f sl row))).length ≤ 4 := by unfold fact2; split <;> simp_all
  have h4 : (fact3 p row (fact2 p ws (fact1 p row (fact0 f sl row)))).length ≤ 5 := by
    unfold fact3; split
    · rw [List.length_append]; simp; omega
    · omega
  unfold factBy fact4
  split
  · exact Nat.le_trans (cut_size _ _ _) h4
  · exact h4
noncomputable def d_law_fact : DefRec := fdef P02 6
theorem m_law_fact : d_law_fact ∈ recsOf P02 := List.mem_of_getElem? (i := 6) (by kernel_rfl)
theorem c_law_fact {f : Fact} {sl row ws : List Str} {n : Int} (W : W02 H mg mb) (hf : f.length ≤ 4) (hf0 : 0 < f.length) (hsl : sl.length ≤ 3) (hrow : row.length = 4) (hws : ws.length = 4) : Calls prog w H mg "_law_fact" 1 [(false, tF f), (true, .list (sl.map .str)), (true, .list (row.map .str)), (false, .int n), (true, .list (ws.map .str))] (Sh prog w (tF (factBy f sl row ws n))) := by
  obtain ⟨⟨loose, mean, Tp⟩, g⟩ := id W
  refine calls_top (k := 0) (d := d_law_fact) (ps := ["_law_pattern_here", "_law_slots", "_law_things", "_law_pick", "_law_words"]) (ρ := [("_law_pattern_here", .fz (tF f)), ("_law_slots", .vw (.list (sl.map .str))), ("_law_things", .vw (.list (row.map .str))), ("_law_pick", .fz (.int n)), ("_law_words", .vw (.list (ws.map .str))), ("_law_found", .un), ("_law_part", .un), ("len", .gl), ("tuple", .gl)]) Tp m_law_fact (by decide +kernel) (fun vs pm code doc h => by match vs, h with | [a0, a1, a2, a3, a4], _ => rfl) rfl (by kernel_rfl) ?_
  refine run_assignF (t := .list ([f.getD 0 ""].map .str)) (evF_list (.cons ?_ .nil)) (by k_search "put") ?_
  · refine ev_item_tup (i := 0) (by k_search "go") (by k_search "go") (by omega) ?_
    rw [List.getElem?_map, getD_some (by simpa using hf0)]; rfl
  refine run_forE T.str (f.drop 1) (fun pre => [("_law_pattern_here", .fz (tF f)), ("_law_slots", .vw (.list (sl.map .str))), ("_law_things", .vw (.list (row.map .str))), ("_law_pick", .fz (.int n)), ("_law_words", .vw (.list (ws.map .str))), ("_law_found", .ow (.list ((f.getD 0 "" :: pre.map (lput sl row)).map .str))), ("_law_part", .un), ("len", .gl), ("tuple", .gl)]) (src_tup ?_) (by k_search "weak") (fun pre x post e => ⟨_, by k_search "put", ?_⟩) ?_
  · rw [← cut_drop1, ← cut_map]
    refine ev_slice_tup (by k_search "go") (by k_search "go") (by k_search "go") ?_
    rw [List.length_map]; omega
  · have hlen : (f.getD 0 "" :: pre.map (lput sl row)).length ≤ 9 := by
      have := congrArg List.length e
      rw [List.length_append, List.length_drop, List.length_cons] at this
      rw [List.length_cons, List.length_map]
      omega
    have e3 : (f.getD 0 "" :: (pre ++ [x]).map (lput sl row)).map T.str = (f.getD 0 "" :: pre.map (lput sl row)).map T.str ++ [.str (lput sl row x)] := by simp
    rw [e3]
    generalize (f.getD 0 "" :: pre.map (lput sl row)) = acc at hlen ⊢
    refine run_if (b := ?b) ?he (fun hb => ?_) (fun hb => ?_)
    case' he => k_search "go"
    · have e2 : lput sl row x = row.getD (idx sl x) "" := by unfold lput; rw [if_pos hb]
      have hm : x ∈ sl := by rw [any_str] at hb; simpa using hb
      have hi : idx sl x < sl.length := List.findIdx_lt_length_of_exists ⟨x, hm, by simp⟩
      rw [e2]
      refine run_append (t := .str (row.getD (idx sl x) "")) (by k_search "mem") (ev_strAt (i := (idx sl x : Int)) (by k_search "go") (ev_index (by k_search "go") (by k_search "go") hm (by omega)) (by omega) rfl (by omega) (by omega)) (by k_search "put") (by rw [List.length_map]; omega) (run_nil (then_next (run_nil ?_)))
      k_search "weak"
    · have e2 : lput sl row x = x := by unfold lput; rw [if_neg (by rw [hb]; simp)]
      rw [e2]
      refine run_append (t := .str x) (by k_search "mem") (by k_search "go") (by k_search "put") (by rw [List.length_map]; omega) (run_nil (then_next (run_nil ?_)))
      k_search "weak"
  rw [show f.getD 0 "" :: (f.drop 1).map (lput sl row) = fact0 f sl row from rfl]
  unfold factBy
  have h1 : 0 < (fact0 f sl row).length ∧ (fact0 f sl row).length ≤ 4 := by unfold fact0; rw [List.length_cons, List.length_map, List.length_drop]; omega
  generalize fact0 f sl row = f0 at h1 ⊢
  refine run_ifJ (ρ' := [("_law_pattern_here", .fz (tF f)), ("_law_slots", .vw (.list (sl.map .str))), ("_law_things", .vw (.list (row.map .str))), ("_law_pick", .fz (.int n)), ("_law_words", .vw (.list (ws.map .str))), ("_law_found", .ow (.list ((fact1 n row f0).map .str))), ("_law_part", .un), ("len", .gl), ("tuple", .gl)]) (b := ?b1) ?he1 (fun hb => ?_) (fun hb => ?_) ?_
  case' he1 => k_search "go"
  · have e2 : fact1 n row f0 = f0.set (1 + n / 6 % ((f0.length : Int) - 1)).toNat (row.getD 3 "") := by unfold fact1; exact if_pos hb
    have hl : 1 < f0.length := by
      simp only [Bool.and_eq_true, decide_eq_true_eq] at hb
      have := hb.2.1
      omega
    have hm1 := Int.emod_nonneg (n / 6) (b := (f0.length : Int) - 1) (by omega)
    have hm2 := Int.emod_lt_of_pos (n / 6) (b := (f0.length : Int) - 1) (by omega)
    rw [e2, set_map]
    refine run_setlist (i := 1 + n / 6 % ((f0.length : Int) - 1)) (t := .str (row.getD 3 "")) (by k_search "mem") (ev_strAt (i := 3) (by k_search "go") (by k_search "go") (by omega) rfl (by omega) (by omega)) (by k_search "go") (by k_search "put") (by omega) (by rw [List.length_map]; omega) (by rw [List.length_map]; omega) (run_nil ?_)
    k_search "weak"
  · have e2 : fact1 n row f0 = f0 := by unfold fact1; exact if_neg (by intro q; have q' : _ = true := q; rw [show (eqI (n % 6) 1 && (decide (1 < (f0.length : Int)) && true)) = false from hb] at q'; cases q')
    rw [e2]
    refine run_nil ?_
    k_search "weak"
  have h2 : 0 < (fact1 n row f0).length ∧ (fact1 n row f0).length ≤ 4 := by unfold fact1; split <;> simp_all
  generalize fact1 n row f0 = f1 at h2 ⊢
  refine run_ifJ (ρ' := [("_law_pattern_here", .fz (tF f)), ("_law_slots", .vw (.list (sl.map .str))), ("_law_things", .vw (.list (row.map .str))), ("_law_pick", .fz (.int n)), ("_law_words", .vw (.list (ws.map .str))), ("_law_found", .ow (.list ((fact2 n ws f1).map .str))), ("_law_part", .un), ("len", .gl), ("tuple", .gl)]) (b := ?b2) ?he2 (fun hb => ?_) (fun hb => ?_) ?_
  case' he2 => k_search "go"
  · have e2 : fact2 n ws f1 = f1.set 0 (ws.getD (n / 6 % 4).toNat "") := by unfold fact2; exact if_pos hb
    rw [e2, set_map]
    refine run_setlist (i := 0) (t := .str (ws.getD (n / 6 % 4).toNat "")) (by k_search "mem") (ev_strAt (i := n / 6 % 4) (by k_search "go") (by k_search "go") (by omega) rfl (by omega) (by omega)) (by k_search "go") (by k_search "put") (by omega) (by rw [List.length_map]; omega) (by rw [List.length_map]; omega) (run_nil ?_)
    k_search "weak"
  · have e2 : fact2 n ws f1 = f1 := by unfold fact2; exact if_neg (by rw [show eqI (n % 6) 3 = false from hb]; simp)
    rw [e2]
    refine run_nil ?_
    k_search "weak"
  have h3 : 0 < (fact2 n ws f1).length ∧ (fact2 n ws f1).length ≤ 4 := by unfold fact2; split <;> simp_all
  generalize fact2 n ws f1 = f2 at h3 ⊢
  refine run_ifJ (ρ' := [("_law_pattern_here", .fz (tF f)), ("_law_slots", .vw (.list (sl.map .str))), ("_law_things", .vw (.list (row.map .str))), ("_law_pick", .fz (.int n)), ("_law_words", .vw (.list (ws.map .str))), ("_law_found", .ow (.list ((fact3 n row f2).map .str))), ("_law_part", .un), ("len", .gl), ("tuple", .gl)]) (b := ?b3) ?he3 (fun hb => ?_) (fun hb => ?_) ?_
  case' he3 => k_search "go"
  · have e2 : fact3 n row f2 = f2 ++ [row.getD (n / 6 % 3).toNat ""] := by unfold fact3; exact if_pos hb
    rw [e2]
    refine run_assignF (t := .list ((f2 ++ [row.getD (n / 6 % 3).toNat ""]).map .str)) (by rw [List.map_append]; exact evF_addl (by k_search "go") (Ev.sw (EvF.sh (evF_list (.cons (ev_strAt (i := n / 6 % 3) (by k_search "go") (by k_search "go") (by omega) rfl (by omega) (by omega)) .nil)))) (by rw [List.length_map]; simp; omega)) (by k_search "put") (run_nil ?_)
    k_search "weak"
  · have e2 : fact3 n row f2 = f2 := by unfold fact3; exact if_neg (by intro q; have q' : _ = true := q; rw [show (eqI (n % 6) 5 && (decide ((f2.length : Int) < 4) && true)) = false from hb] at q'; cases q')
    rw [e2]
    refine run_nil ?_
    k_search "weak"
  have h4 : 0 < (fact3 n row f2).length ∧ (fact3 n row f2).length ≤ 5 := by
    unfold fact3; split
    · rw [List.length_append]; simp; omega
    · omega
  generalize fact3 n row f2 = f3 at h4 ⊢
  refine run_ifJ (ρ' := [("_law_pattern_here", .fz (tF f)), ("_law_slots", .vw (.list (sl.map .str))), ("_law_things", .vw (.list (row.map .str))), ("_law_pick", .fz (.int n)), ("_law_words", .vw (.list (ws.map .str))), ("_law_found", .ow (.list ((fact4 n f3).map .str))), ("_law_part", .un), ("len", .gl), ("tuple", .gl)]) (b := ?b4) ?he4 (fun hb => ?_) (fun hb => ?_) ?_
  case' he4 => k_search "go"
  · have e2 : fact4 n f3 = cut f3 none (some (-1)) := by unfold fact4; exact if_pos hb
    rw [e2]
    refine run_assignF (t := .list ((cut f3 none (some (-1))).map .str)) (by rw [← cut_map]; exact evF_slice (by k_search "go") (by k_search "go") (by k_search "go") (by rw [List.length_map]; omega)) (by k_search "put") (run_nil ?_)
    k_search "weak"
  · have e2 : fact4 n f3 = f3 := by unfold fact4; exact if_neg (by intro q; have q' : _ = true := q; rw [show (eqI (n % 6) 4 && (decide (1 < (f3.length : Int)) && true)) = false from hb] at q'; cases q')
    rw [e2]
    refine run_nil ?_
    k_search "weak"
  have h5 : (fact4 n f3).length ≤ 5 := by
    unfold fact4; split
    · exact Nat.le_trans (cut_size _ _ _) h4.2
    · exact h4.2
  generalize fact4 n f3 = f4 at h5 ⊢
  exact run_ret (t := tF f4) (gTuple g (by k_search "mem") (by k_search "go") (by rw [List.length_map]; omega)) (out_ret rfl)
theorem e_law_fact {f : Fact} {sl row ws : List Str} {n : Int} {e0 e1 e2 e3 e4 : Expr} (W : W02 H mg mb) (hm : (("_law_fact" : Str), Slot.gl) ∈ ρ) (h0 : Ev prog w H ρ k e0 (tF f)) (h1 : EvS prog w H ρ k e1 (.list (sl.map .str))) (h2 : EvS prog w H ρ k e2 (.list (row.map .str))) (h3 : Ev prog w H ρ k e3 (.int n)) (h4 : EvS prog w H ρ k e4 (.list (ws.map .str))) (hf : f.length ≤ 4) (hf0 : 0 < f.length) (hsl : sl.length ≤ 3) (hrow : row.length = 4) (hws : ws.length = 4) (hk : 1 ≤ k) (hns : noStar [e0, e1, e2, e3, e4] = true := by with_unfolding_all rfl) : EvR prog w H (Sh prog w (tF (factBy f sl row ws n))) ρ k (.Call (.Name "_law_fact" p) [e0, e1, e2, e3, e4] [] pos) := by
  obtain ⟨⟨loose, mean, Tp⟩, g⟩ := id W
  exact ev_callT (d := d_law_fact) Tp m_law_fact hm (.sh h0 (.sw h1 (.sw h2 (.sh h3 (.sw h4 .nil))))) (c_law_fact W hf hf0 hsl hrow hws) (anti_sh _) hk hns
local macro_rules | `(tactic| k_search "call") => `(tactic| ((with_reducible refine' e_law_fact (by assumption) ?_ ?_ ?_ ?_ ?_ ?_ ?_ ?_ ?_ ?_ ?_ ?_) <;> k_search "go"))

abbrev tPr (a : Pr) : T := .tup [.str a.1, .str a.2]
def prs (P F : Fact) : List Pr := (P.drop 1).zip (F.drop 1)
def headsOff (P F : Fact) : Bool := !eqI P.length F.length || (!eqT (tF (P.take 1)) (tF (F.take 1)) || false)
def fittedOf (P F : Fact) : Option Sd := if headsOff P F = true then none else fitGo (prs P F) (some [])
noncomputable def d_fitted : DefRec := fdef P02 1
theorem m_fitted : d_fitted ∈ recsOf P02 := List.mem_of_getElem? (i := 1) (by kernel_rfl)
theorem c_fitted {P F : Fact} (W : W02 H mg mb) (hP : P.length ≤ 8) (hF : F.length ≤ 8) : Calls prog w H mg "fitted" 2 [(false, tF P), (false, tF F)] (Sh prog w (tO (fittedOf P F))) := by
  obtain ⟨⟨loose, mean, Tp⟩, g⟩ := id W
  refine calls_top (k := 1) (d := d_fitted) (ps := ["pattern", "fact"]) (ρ := [("pattern", .fz (tF P)), ("fact", .fz (tF F)), ("filling", .un), ("part", .un), ("thing", .un), ("len", .gl), ("zip", .gl), ("is_slot", .gl)]) Tp m_fitted (by decide +kernel) (fun vs pm code doc h => by match vs, h with | [a0, a1], _ => rfl) rfl (by kernel_rfl) ?_
  refine run_if (b := headsOff P F) ?_ (fun hb => ?_) (fun hb => ?_)
  · unfold headsOff
    refine tr_boolop (trl_or (tr_cmp (cmp_ne (Ev.pk ?_) (Ev.pk ?_) rfl rfl)) fun _ => trl_or (tr_cmp (cmp_ne (Ev.pk ?_) (Ev.pk ?_) (flat_fact _ _) (flat_fact _ _))) fun _ => trl_or_nil)
    · exact (show size (tF P) = (P.length : Int) from by simp [size]) ▸ gLen g (by k_search "mem") (by k_search "go") (by simp only [hasLen, List.length_map]; omega)
    · exact (show size (tF F) = (F.length : Int) from by simp [size]) ▸ gLen g (by k_search "mem") (by k_search "go") (by simp only [hasLen, List.length_map]; omega)
    · rw [← cut_take1]
      show Ev prog w H _ _ _ (.tup ((cut P none (some 1)).map .str))
      rw [← cut_map]
      exact ev_slice_tup (by k_search "go") (by k_search "go") (by k_search "go") (by rw [List.length_map]; omega)
    · rw [← cut_take1]
      show Ev prog w H _ _ _ (.tup ((cut F none (some 1)).map .str))
      rw [← cut_map]
      exact ev_slice_tup (by k_search "go") (by k_search "go") (by k_search "go") (by rw [List.length_map]; omega)
  · refine run_ret (t := .none) (by k_search "go") (out_ret ?_)
    unfold fittedOf; rw [if_pos hb]; rfl
  refine run_nil (then_next ?_)
  have ef : fittedOf P F = fitGo (prs P F) (some []) := by unfold fittedOf; rw [if_neg (by rw [hb]; simp)]
  rw [ef]
  have hpl : (prs P F).length ≤ 8 := by unfold prs; rw [List.length_zip, List.length_drop, List.length_drop]; omega
  refine run_assignF (t := .sd []) (evF_sd0 g.G) (by k_search "put") ?_
  have e0 : (prs P F).map tPr = zipT (cut (P.map T.str) (some 1) none) (cut (F.map T.str) (some 1) none) := by
    unfold prs
    rw [cut_map, cut_map, cut_drop1, cut_drop1, zipT_map]
  refine run_forI tPr (prs P F) (fun pre => (fitGo pre (some [])).isSome = true) (fun pre => [("pattern", .fz (tF P)), ("fact", .fz (tF F)), ("filling", .ow (.sd ((fitGo pre (some [])).getD []))), ("part", .un), ("thing", .un), ("len", .gl), ("zip", .gl), ("is_slot", .gl)]) (by rw [e0]; exact gZip g (by k_search "mem") (ev_slice_tup (by k_search "go") (by k_search "go") (by k_search "go") (by rw [List.length_map]; omega)) (ev_slice_tup (by k_search "go") (by k_search "go") (by k_search "go") (by rw [List.length_map]; omega))) (by k_search "weak") rfl (fun pre a post e hI => ⟨_, asg_tuple (by k_search "putl"), ?_⟩) (fun hI => ?_)
  · obtain ⟨es, hes⟩ := Option.isSome_iff_exists.mp hI
    have e1 : fitGo (pre ++ [a]) (some []) = fitStep a es := by rw [fitGo_snoc, hes]; rfl
    have hall : fitGo (prs P F) (some []) = fitGo post (fitStep a es) := by
      rw [e, show pre ++ a :: post = (pre ++ [a]) ++ post from by simp, fitGo_app, e1]
    have hpre : pre.length ≤ 8 := by
      have := congrArg List.length e
      rw [List.length_append] at this
      omega
    obtain ⟨hl, hs⟩ := go_len pre [] es hes
    have hv : ∀ e ∈ es, e.2.isSome = true := hs fun e he => nomatch he
    rw [e1, hall, hes]
    show Run prog w H _ _ _ _
    simp only [Option.getD_some]
    refine run_if (b := isSlotC a.1) (tr_bool (show Ev prog w H _ _ _ (.bool (isSlot a.1)) from by k_search "go")) (fun hb1 => ?_) (fun hb1 => ?_)
    · refine run_if (b := !eqS (sdOr es a.1 a.2) a.2) (tr_cmp (cmp_ne (Ev.pk (ev_get2 (by k_search "go") (by k_search "go") (by k_search "go") hv)) (by k_search "go") rfl rfl)) (fun hb2 => ?_) (fun hb2 => ?_)
      · have e2 : fitStep a es = none := by unfold fitStep; rw [if_pos hb1, if_pos hb2]
        refine run_ret (t := .none) (by k_search "go") (out_ret ?_)
        rw [e2, fitGo_none]; rfl
      · have e2 : fitStep a es = some (sdSet es a.1 (some a.2)) := by unfold fitStep; rw [if_pos hb1, if_neg (by rw [hb2]; simp)]
        rw [e2]
        refine run_nil (then_next ?_)
        refine run_sdset (y := a.1) (o := some a.2) (by k_search "mem") (show Ev prog w H _ _ _ (.str a.2) from ev_name (by k_search "mem")) (by k_search "go") (by k_search "put") (by simp at hl; omega) (run_nil (then_next (run_nil ⟨rfl, ?_⟩)))
        simp only [Option.getD_some]
        k_search "weak"
    · refine run_if (b := !eqS a.1 a.2) (by k_search "go") (fun hb2 => ?_) (fun hb2 => ?_)
      · have e2 : fitStep a es = none := by unfold fitStep; rw [if_neg (by rw [hb1]; simp), if_pos hb2]
        refine run_ret (t := .none) (by k_search "go") (out_ret ?_)
        rw [e2, fitGo_none]; rfl
      · have e2 : fitStep a es = some es := by unfold fitStep; rw [if_neg (by rw [hb1]; simp), if_neg (by rw [hb2]; simp)]
        rw [e2]
        refine run_nil (then_next (run_nil (then_next (run_nil ⟨rfl, ?_⟩))))
        simp only [Option.getD_some]
        k_search "weak"
  · obtain ⟨es, hes⟩ := Option.isSome_iff_exists.mp hI
    rw [hes]
    simp only [Option.getD_some]
    refine run_freeze (x := "filling") (by k_search "mem") (by k_search "put") ?_
    exact run_ret (t := .sd es) (by k_search "go") (out_ret rfl)
theorem e_fitted {P F : Fact} {e0 e1 : Expr} (W : W02 H mg mb) (hm : (("fitted" : Str), Slot.gl) ∈ ρ) (h0 : Ev prog w H ρ k e0 (tF P)) (h1 : Ev prog w H ρ k e1 (tF F)) (hP : P.length ≤ 8) (hF : F.length ≤ 8) (hk : 2 ≤ k) (hns : noStar [e0, e1] = true := by with_unfolding_all rfl) : EvR prog w H (Sh prog w (tO (fittedOf P F))) ρ k (.Call (.Name "fitted" p) [e0, e1] [] pos) := by
  obtain ⟨⟨loose, mean, Tp⟩, g⟩ := id W
  exact ev_callT (d := d_fitted) Tp m_fitted hm (.sh h0 (.sh h1 .nil)) (c_fitted W hP hF) (anti_sh _) hk hns
local macro_rules | `(tactic| k_search "call") => `(tactic| ((with_reducible refine' e_fitted (by assumption) ?_ ?_ ?_ ?_ ?_ ?_) <;> k_search "go"))

def headsOff2 (P F : Fact) : Bool := !eqI P.length F.length || (!eqS (P.getD 0 "") (F.getD 0 "") || false)
def dueOf (P F : Fact) : Option Sd := if headsOff2 P F = true then none else dueGo (prs P F) (some [])
theorem range_at {n j : Nat} {pre post : List Nat} (e : List.range n = pre ++ j :: post) : j = pre.length ∧ pre.length < n := by
  have h1 : (pre ++ j :: post)[pre.length]? = some j := by simp
  have hl : pre.length < n := by
    have := congrArg List.length e
    rw [List.length_range, List.length_append, List.length_cons] at this
    omega
  rw [← e, List.getElem?_range hl] at h1
  exact ⟨(Option.some.inj h1).symm, hl⟩
theorem prs_at {P F : Fact} {j : Nat} (h1 : j + 1 < P.length) (h2 : j + 1 < F.length) : (prs P F)[j]? = some (P.getD (1 + j) "", F.getD (1 + j) "") := by
  unfold prs
  have q1 : (P.drop 1)[j]? = some (P.getD (1 + j) "") := by rw [List.getElem?_drop]; exact getD_some (by omega)
  have q2 : (F.drop 1)[j]? = some (F.getD (1 + j) "") := by rw [List.getElem?_drop]; exact getD_some (by omega)
  exact List.getElem?_zip_eq_some.mpr ⟨q1, q2⟩
theorem due_len : ∀ (l : List Pr) (es es' : Sd), dueGo l (some es) = some es' → es'.length ≤ es.length + l.length ∧ ((∀ e ∈ es, e.2.isSome = true) → ∀ e ∈ es', e.2.isSome = true)
  | [], es, es', q => by cases q; exact ⟨Nat.le_refl _, fun h => h⟩
  | a :: l, es, es', q => by
    have q' : dueGo l (dueStep a es) = some es' := q
    cases z : dueStep a es with
    | none => rw [z, dueGo_none] at q'; cases q'
    | some es1 =>
      rw [z] at q'
      obtain ⟨h1, h2⟩ := due_len l es1 es' q'
      have : es1.length ≤ es.length + 1 ∧ ((∀ e ∈ es, e.2.isSome = true) → ∀ e ∈ es1, e.2.isSome = true) := by
        unfold dueStep at z
        split at z
        · split at z
          · cases z
          · cases z; exact ⟨by omega, fun h => h⟩
        · split at z
          · cases z
            exact ⟨len_sdSet _ _ _, fun h e he => (mem_sdSet he).elim (h e) fun q => by rw [q]; rfl⟩
          · split at z
            · cases z
            · cases z; exact ⟨by omega, fun h => h⟩
      exact ⟨by rw [List.length_cons]; omega, fun h => h2 (this.2 h)⟩
theorem text_get {es : Sd} {x : Str} (hv : ∀ e ∈ es, e.2.isSome = true) (hx : sdHas es x = true) : sdGet es x = some (some (sdTextOf es x)) := by
  rw [← isSome_get] at hx
  obtain ⟨o, ho⟩ := Option.isSome_iff_exists.mp hx
  have hm : (x, o) ∈ es := by
    unfold sdGet at ho
    obtain ⟨e', he', rfl⟩ := Option.map_eq_some_iff.mp ho
    have h1 := List.find?_some he'
    have : e'.1 = x := by simpa using h1
    rw [← this]; exact List.mem_of_find?_eq_some he'
  obtain ⟨y, hy⟩ := Option.isSome_iff_exists.mp (hv _ hm)
  have hy' : o = some y := hy
  subst hy'
  have : sdTextOf es x = y := by unfold sdTextOf; rw [ho]; rfl
  rw [this]; exact ho
noncomputable def d_law_due : DefRec := fdef P02 7
theorem m_law_due : d_law_due ∈ recsOf P02 := List.mem_of_getElem? (i := 7) (by kernel_rfl)
theorem c_law_due {P F : Fact} (W : W02 H mg mb) (hP : P.length ≤ 8) (hF : F.length ≤ 8) (hP0 : 0 < P.length) (hpos : ∀ x ∈ P.drop 1, 0 < x.length) : Calls prog w H mg "_law_due" 1 [(false, tF P), (false, tF F)] (Sh prog w (tO (dueOf P F))) := by
  obtain ⟨⟨loose, mean, Tp⟩, g⟩ := id W
  refine calls_top (k := 0) (d := d_law_due) (ps := ["_law_pattern_here", "_law_fact_here"]) (ρ := [("_law_pattern_here", .fz (tF P)), ("_law_fact_here", .fz (tF F)), ("_law_filling", .un), ("_law_k", .un), ("len", .gl), ("range", .gl)]) Tp m_law_due (by decide +kernel) (fun vs pm code doc h => by match vs, h with | [a0, a1], _ => rfl) rfl (by kernel_rfl) ?_
  refine run_if (b := headsOff2 P F) ?_ (fun hb => ?_) (fun hb => ?_)
  · unfold headsOff2
    refine tr_boolop (trl_or (tr_cmp (cmp_ne (Ev.pk ?_) (Ev.pk ?_) rfl rfl)) fun hq => trl_or (tr_cmp (cmp_ne (Ev.pk ?_) (Ev.pk ?_) rfl rfl)) fun _ => trl_or_nil)
    · exact (show size (tF P) = (P.length : Int) from by simp [size]) ▸ gLen g (by k_search "mem") (by k_search "go") (by simp only [hasLen, List.length_map]; omega)
    · exact (show size (tF F) = (F.length : Int) from by simp [size]) ▸ gLen g (by k_search "mem") (by k_search "go") (by simp only [hasLen, List.length_map]; omega)
    · exact ev_strAtT (i := 0) (by k_search "go") (by k_search "go") (by omega) rfl (by omega) (by omega)
    · have hl : P.length = F.length := by
        have hq2 : eqI P.length F.length = true := by simpa using hq
        unfold eqI at hq2
        rw [eqT_int] at hq2
        have := of_decide_eq_true hq2
        omega
      exact ev_strAtT (i := 0) (by k_search "go") (by k_search "go") (by omega) rfl (by omega) (by omega)
  · refine run_ret (t := .none) (by k_search "go") (out_ret ?_)
    unfold dueOf; rw [if_pos hb]; rfl
  refine run_nil (then_next ?_)
  have ef : dueOf P F = dueGo (prs P F) (some []) := by unfold dueOf; rw [if_neg (by rw [hb]; simp)]
  have hl : P.length = F.length := by
    unfold headsOff2 at hb
    rw [Bool.or_eq_false_iff] at hb
    have h1 : eqI P.length F.length = true := by simpa using hb.1
    unfold eqI at h1
    rw [eqT_int] at h1
    have := of_decide_eq_true h1
    omega
  rw [ef]
  have hpl : (prs P F).length = F.length - 1 := by unfold prs; rw [List.length_zip, List.length_drop, List.length_drop]; omega
  refine run_assignF (t := .sd []) (evF_sd0 g.G) (by k_search "put") ?_
  have hsz : size (tF F) = (F.length : Int) := by simp [size]
  refine run_forI (fun j : Nat => T.int (1 + (j : Int))) (List.range ((F.length : Int) - 1).toNat) (fun pre => (dueGo ((prs P F).take pre.length) (some [])).isSome = true) (fun pre => [("_law_pattern_here", .fz (tF P)), ("_law_fact_here", .fz (tF F)), ("_law_filling", .ow (.sd ((dueGo ((prs P F).take pre.length) (some [])).getD []))), ("_law_k", .un), ("len", .gl), ("range", .gl)]) (show Src prog w H _ _ _ _ (rangeT 1 (F.length : Int)) from gRange2 g (by k_search "mem") (by k_search "go") (hsz ▸ gLen g (by k_search "mem") (by k_search "go") (by simp only [hasLen, List.length_map]; omega)) (by omega) (by omega)) (by k_search "weak") rfl (fun pre j post e hI => ⟨_, asg_name (by k_search "put"), ?_⟩) (fun hI => ?_)
  · obtain ⟨hj, hjl⟩ := range_at e
    obtain ⟨es, hes⟩ := Option.isSome_iff_exists.mp hI
    have hjF : j + 1 < F.length := by omega
    have hat := prs_at (P := P) (F := F) (j := j) (by omega) hjF
    have hjl2 : j < (prs P F).length := by omega
    have etk : (prs P F).take (pre ++ [j]).length = (prs P F).take pre.length ++ [(P.getD (1 + j) "", F.getD (1 + j) "")] := by
      rw [List.length_append, List.length_cons, List.length_nil, ← hj, List.take_add_one, hat]; rfl
    have e1 : dueGo ((prs P F).take (pre ++ [j]).length) (some []) = dueStep (P.getD (1 + j) "", F.getD (1 + j) "") es := by
      rw [etk, dueGo_app, hes]
      cases q : dueStep (P.getD (1 + j) "", F.getD (1 + j) "") es with
      | none => show dueGo [] (dueStep _ es) = _; rw [q]; rfl
      | some z => show dueGo [] (dueStep _ es) = _; rw [q]; rfl
    have hall : dueGo (prs P F) (some []) = dueGo ((prs P F).drop (j + 1)) (dueStep (P.getD (1 + j) "", F.getD (1 + j) "") es) := by
      have : prs P F = (prs P F).take (pre ++ [j]).length ++ (prs P F).drop (j + 1) := by
        rw [List.length_append, List.length_cons, List.length_nil, ← hj, List.take_append_drop]
      rw [this, dueGo_app, e1, ← this]
    obtain ⟨hlen, hs⟩ := due_len _ [] es hes
    have hv : ∀ e ∈ es, e.2.isSome = true := hs fun e he => nomatch he
    have hel : es.length ≤ 8 := by
      rw [List.length_take] at hlen
      simp at hlen; omega
    have hpm : P.getD (1 + j) "" ∈ P.drop 1 := by
      have : (P.drop 1)[j]? = some (P.getD (1 + j) "") := by rw [List.getElem?_drop]; exact getD_some (by omega)
      exact List.mem_of_getElem? this
    have hpp : (0 : Int) < (P.getD (1 + j) "").length := by
      have := hpos _ hpm
      omega
    rw [e1, hall, hes]
    simp only [Option.getD_some]
    have evP : ∀ {ρ : Rho} {k : Nat} {p1 p2 p3 : Pos}, (("_law_pattern_here" : Str), Slot.fz (tF P)) ∈ ρ → (("_law_k" : Str), Slot.fz (T.int (1 + (j : Int)))) ∈ ρ → Ev prog w H ρ k (.Subscript (.Name "_law_pattern_here" p1) (.Name "_law_k" p2) p3) (.str (P.getD (1 + j) "")) := fun h1 h2 =>
      ev_strAtT (i := 1 + (j : Int)) (Ev.sw (ev_name h1)) (ev_name h2) (by omega) (by omega) (by omega) (by omega)
    have evF : ∀ {ρ : Rho} {k : Nat} {p1 p2 p3 : Pos}, (("_law_fact_here" : Str), Slot.fz (tF F)) ∈ ρ → (("_law_k" : Str), Slot.fz (T.int (1 + (j : Int)))) ∈ ρ → Ev prog w H ρ k (.Subscript (.Name "_law_fact_here" p1) (.Name "_law_k" p2) p3) (.str (F.getD (1 + j) "")) := fun h1 h2 =>
      ev_strAtT (i := 1 + (j : Int)) (Ev.sw (ev_name h1)) (ev_name h2) (by omega) (by omega) (by omega) (by omega)
    generalize P.getD (1 + j) "" = x at hpp evP ⊢
    generalize F.getD (1 + j) "" = y at evF ⊢
    refine run_if (b := !eqS (chr1 x 0) "?") (tr_cmp (cmp_ne (Ev.pk (ev_chr (x := x) (i := 0) (evP (by k_search "mem") (by k_search "mem")) (by k_search "go") (by omega) hpp)) (by k_search "go") rfl rfl)) (fun hb1 => ?_) (fun hb1 => ?_)
    · refine run_if (b := !eqS x y) (tr_cmp (cmp_ne (Ev.pk (evP (by k_search "mem") (by k_search "mem"))) (Ev.pk (evF (by k_search "mem") (by k_search "mem"))) rfl rfl)) (fun hb2 => ?_) (fun hb2 => ?_)
      · have e2 : dueStep (x, y) es = none := by unfold dueStep; rw [if_pos hb1, if_pos hb2]
        refine run_ret (t := .none) (by k_search "go") (out_ret ?_)
        rw [e2, dueGo_none]; rfl
      · have e2 : dueStep (x, y) es = some es := by unfold dueStep; rw [if_pos hb1, if_neg (by rw [hb2]; simp)]
        rw [e2]
        refine run_nil (then_next (run_nil (then_next (run_nil ⟨rfl, ?_⟩))))
        simp only [Option.getD_some]
        k_search "weak"
    · refine run_if (b := !sdHas es x) (tr_cmp (cmp_notin_sd (evP (by k_search "mem") (by k_search "mem")) (by k_search "go"))) (fun hb2 => ?_) (fun hb2 => ?_)
      · have e2 : dueStep (x, y) es = some (sdSet es x (some y)) := by unfold dueStep; rw [if_neg (by rw [hb1]; simp), if_pos hb2]
        rw [e2]
        refine run_sdset (y := x) (o := some y) (by k_search "mem") (show Ev prog w H _ _ _ (.str y) from evF (by k_search "mem") (by k_search "mem")) (evP (by k_search "mem") (by k_search "mem")) (by k_search "put") (by omega) (run_nil (then_next (run_nil (then_next (run_nil ⟨rfl, ?_⟩)))))
        simp only [Option.getD_some]
        k_search "weak"
      · have hh : sdHas es x = true := by simpa using hb2
        refine run_if (b := !eqS (sdTextOf es x) y) (tr_cmp (cmp_ne (Ev.pk (show Ev prog w H _ _ _ (.str (sdTextOf es x)) from ev_item_sd (o := some (sdTextOf es x)) (by k_search "go") (evP (by k_search "mem") (by k_search "mem")) (text_get hv hh))) (Ev.pk (evF (by k_search "mem") (by k_search "mem"))) rfl rfl)) (fun hb3 => ?_) (fun hb3 => ?_)
        · have e2 : dueStep (x, y) es = none := by unfold dueStep; rw [if_neg (by rw [hb1]; simp), if_neg (by rw [hb2]; simp), if_pos hb3]
          refine run_ret (t := .none) (by k_search "go") (out_ret ?_)
          rw [e2, dueGo_none]; rfl
        · have e2 : dueStep (x, y) es = some es := by unfold dueStep; rw [if_neg (by rw [hb1]; simp), if_neg (by rw [hb2]; simp), if_neg (by rw [hb3]; simp)]
          rw [e2]
          refine run_nil (then_next (run_nil (then_next (run_nil (then_next (run_nil ⟨rfl, ?_⟩))))))
          simp only [Option.getD_some]
          k_search "weak"
  · rw [List.length_range, show ((F.length : Int) - 1).toNat = (prs P F).length from by omega, List.take_length] at hI ⊢
    obtain ⟨es, hes⟩ := Option.isSome_iff_exists.mp hI
    rw [hes]
    simp only [Option.getD_some]
    refine run_freeze (x := "_law_filling") (by k_search "mem") (by k_search "put") ?_
    exact run_ret (t := .sd es) (by k_search "go") (out_ret rfl)
theorem e_law_due {P F : Fact} {e0 e1 : Expr} (W : W02 H mg mb) (hm : (("_law_due" : Str), Slot.gl) ∈ ρ) (h0 : Ev prog w H ρ k e0 (tF P)) (h1 : Ev prog w H ρ k e1 (tF F)) (hP : P.length ≤ 8) (hF : F.length ≤ 8) (hP0 : 0 < P.length) (hpos : ∀ x ∈ P.drop 1, 0 < x.length) (hk : 1 ≤ k) (hns : noStar [e0, e1] = true := by with_unfolding_all rfl) : EvR prog w H (Sh prog w (tO (dueOf P F))) ρ k (.Call (.Name "_law_due" p) [e0, e1] [] pos) := by
  obtain ⟨⟨loose, mean, Tp⟩, g⟩ := id W
  exact ev_callT (d := d_law_due) Tp m_law_due hm (.sh h0 (.sh h1 .nil)) (c_law_due W hP hF hP0 hpos) (anti_sh _) hk hns
local macro_rules | `(tactic| k_search "call") => `(tactic| ((with_reducible refine' e_law_due (by assumption) ?_ ?_ ?_ ?_ ?_ ?_ ?_ ?_) <;> k_search "go"))
theorem fit_due {P F : Fact} (hP0 : 0 < P.length) (hpos : ∀ x ∈ P.drop 1, 0 < x.length) : fittedOf P F = dueOf P F ∧ ∀ es, dueOf P F = some es → ∀ e ∈ es, e.2.isSome = true := by
  have hh : headsOff P F = headsOff2 P F := by
    unfold headsOff headsOff2
    by_cases hl : eqI P.length F.length = true
    · have hl' : P.length = F.length := by
        unfold eqI at hl
        rw [eqT_int] at hl
        have := of_decide_eq_true hl
        omega
      have : eqT (tF (P.take 1)) (tF (F.take 1)) = eqS (P.getD 0 "") (F.getD 0 "") := by
        rw [eqT_fact]
        unfold eqS
        rw [eqT_str]
        match P, F, hP0, hl' with
        | a :: P', b :: F', _, _ => simp
      rw [this]
    · rw [show eqI P.length F.length = false from by simpa using hl]
      rfl
  have hg := go_eq (prs P F) [] (fun a ha => hpos a.1 (List.of_mem_zip (show (a.1, a.2) ∈ (P.drop 1).zip (F.drop 1) from ha)).1) ⟨List.nodup_nil, fun e he => nomatch he⟩
  unfold fittedOf dueOf
  rw [hh, hg.1]
  refine ⟨rfl, fun es q => ?_⟩
  split at q
  · cases q
  · exact (due_len _ [] es q).2 fun e he => nomatch he

theorem isSlot_pos {x : Str} : 0 < (("?" : Str) ++ x).length := by
  rw [len_append]
  have : (Str.ofString "?").length = 1 := by decide +kernel
  omega
theorem pick_mem (ps : List Str) (hp : 0 < ps.length) : ∀ (js : List Nat) (a : List Str × Int), ∀ x ∈ (js.foldl (fun a _ => pickStep ps a) a).1.drop 1, x ∈ a.1.drop 1 ∨ x ∈ ps ∨ a.1 = []
  | [], a, x, h => .inl h
  | j :: js, a, x, h => by
    rw [List.foldl_cons] at h
    rcases pick_mem ps hp js _ x h with h | h | h
    · by_cases ha : a.1 = []
      · exact .inr (.inr ha)
      · unfold pickStep at h
        simp only at h
        rw [List.drop_append_of_le_length (by
          cases q : a.1 with
          | nil => exact absurd q ha
          | cons z zs => simp)] at h
        rcases List.mem_append.mp h with h | h
        · exact .inl h
        · rw [List.mem_singleton] at h
          rw [h]
          refine .inr (.inl (getD_mem ?_))
          have hm := Int.emod_nonneg a.2 (b := (ps.length : Int)) (by omega)
          have hm2 := Int.emod_lt_of_pos a.2 (b := (ps.length : Int)) (by omega)
          omega
    · exact .inr (.inl h)
    · unfold pickStep at h; simp at h
theorem pattern_ok (c : Int) (ws ps : List Str) (hp : 0 < ps.length) (hpos : ∀ x ∈ ps, 0 < x.length) : (0 < (patternBy c ws ps).length ∧ (patternBy c ws ps).length ≤ 4) ∧ ∀ x ∈ (patternBy c ws ps).drop 1, 0 < x.length := by
  refine ⟨?_, fun x hx => ?_⟩
  · unfold patternBy pick
    rw [pick_len, List.length_range]
    simp
    omega
  · unfold patternBy pick at hx
    rcases pick_mem ps hp _ _ x hx with h | h | h
    · simp at h
    · exact hpos x h
    · simp at h
noncomputable def d_law : DefRec := fdef P02 8
theorem m_law : d_law ∈ recsOf P02 := List.mem_of_getElem? (i := 8) (by kernel_rfl)
theorem c_law {xs : List Int} (W : W02 H mg mb) (hx : xs.length ≤ 63) : Calls prog w H mg "law" 4 [(false, .list (xs.map .int))] (Sh prog w (.bool true)) := by
  obtain ⟨⟨loose, mean, Tp⟩, g⟩ := id W
  refine calls_top (k := 3) (d := d_law) (ps := ["_law_script"]) (ρ := [("_law_script", .fz (.list (xs.map .int))), ("_law_words", .un), ("_law_things", .un), ("_law_slots", .un), ("_law_same", .un), ("_law_filled", .un), ("_law_pattern_here", .un), ("_law_fact_here", .un), ("_law_due_here", .un), ("_law_found", .un), ("range", .gl), ("_law_cell_at", .gl), ("_law_pattern", .gl), ("_law_fact", .gl), ("_law_due", .gl), ("fitted", .gl), ("isinstance", .gl), ("dict", .gl), (markOf "_law_script", .ce "_law_script")]) Tp m_law (by decide +kernel) (fun vs pm code doc h => by match vs, h with | [a0], _ => rfl) rfl (by kernel_rfl) ?_
  have e1 : (List.range (4 : Int).toNat).map (fun j : Nat => T.str (wordBy2 (cellAt xs 0) j)) = ((List.range (4 : Int).toNat).map fun j : Nat => wordBy2 (cellAt xs 0) j).map T.str := by rw [List.map_map]; rfl
  refine run_assignC1 (fun j : Nat => T.int j) (fun j : Nat => T.str (wordBy2 (cellAt xs 0) j)) (List.range (4 : Int).toNat) inj_nat (by k_search "go") (by k_search "capt") (fun j hj => ?_) (by decide) (by rw [e1]; k_search "put") ?_
  · have := List.mem_range.mp hj
    k_search "go"
  refine run_freeze (x := "_law_words") (by k_search "mem") (by k_search "put") ?_
  have e2 : (List.range (4 : Int).toNat).map (fun j : Nat => T.str (thingBy2 (cellAt xs 1) j)) = ((List.range (4 : Int).toNat).map fun j : Nat => thingBy2 (cellAt xs 1) j).map T.str := by rw [List.map_map]; rfl
  refine run_assignC1 (fun j : Nat => T.int j) (fun j : Nat => T.str (thingBy2 (cellAt xs 1) j)) (List.range (4 : Int).toNat) inj_nat (by k_search "go") (by k_search "capt") (fun j hj => ?_) (by decide) (by rw [e2]; k_search "put") ?_
  · have := List.mem_range.mp hj
    k_search "go"
  refine run_freeze (x := "_law_things") (by k_search "mem") (by k_search "put") ?_
  have e3 : (List.range (3 : Int).toNat).map (fun j : Nat => T.str (("?" : Str) ++ wordBy2 (cellAt xs 2) j)) = ((List.range (3 : Int).toNat).map fun j : Nat => ("?" : Str) ++ wordBy2 (cellAt xs 2) j).map T.str := by rw [List.map_map]; rfl
  refine run_assignC1 (fun j : Nat => T.int j) (fun j : Nat => T.str (("?" : Str) ++ wordBy2 (cellAt xs 2) j)) (List.range (3 : Int).toNat) inj_nat (by k_search "go") (by k_search "capt") (fun j hj => ?_) (by decide) (by rw [e3]; k_search "put") ?_
  · have := List.mem_range.mp hj
    refine ev_adds (by k_search "go") (by k_search "go") ?_
    have h1 := (len_word2 (cellAt xs 2) j (by omega)).2
    have h2 : (Str.ofString "?").length = 1 := by decide +kernel
    omega
  refine run_freeze (x := "_law_slots") (by k_search "mem") (by k_search "put") ?_
  have hws : ((List.range (4 : Int).toNat).map fun j : Nat => wordBy2 (cellAt xs 0) j).length = 4 := by simp
  have hth : ((List.range (4 : Int).toNat).map fun j : Nat => thingBy2 (cellAt xs 1) j).length = 4 := by simp
  have hsl : ((List.range (3 : Int).toNat).map fun j : Nat => ("?" : Str) ++ wordBy2 (cellAt xs 2) j).length = 3 := by simp
  have pth : ∀ x ∈ (List.range (4 : Int).toNat).map fun j : Nat => thingBy2 (cellAt xs 1) j, 0 < x.length := fun x hx => by
    obtain ⟨j, _, rfl⟩ := List.mem_map.mp hx
    exact (len_thing2 _ _ (by omega)).1
  have psl : ∀ x ∈ (List.range (3 : Int).toNat).map fun j : Nat => ("?" : Str) ++ wordBy2 (cellAt xs 2) j, 0 < x.length := fun x hx => by
    obtain ⟨j, _, rfl⟩ := List.mem_map.mp hx
    exact isSlot_pos
  generalize ((List.range (4 : Int).toNat).map fun j : Nat => wordBy2 (cellAt xs 0) j) = ws at hws ⊢
  generalize ((List.range (4 : Int).toNat).map fun j : Nat => thingBy2 (cellAt xs 1) j) = th at hth pth ⊢
  generalize ((List.range (3 : Int).toNat).map fun j : Nat => ("?" : Str) ++ wordBy2 (cellAt xs 2) j) = sl at hsl psl ⊢
  refine run_assign (t := .int (cellAt xs 5)) (by k_search "go") (by k_search "put") ?_
  generalize cellAt xs 5 = sm
  refine run_assignF (t := .list ([th.getD (sm % 3).toNat "", th.getD (sm / 3 % 3).toNat "", th.getD (sm / 9 % 3).toNat "", th.getD 3 ""].map .str)) (evF_list (.cons (ev_strAt (i := sm % 3) (by k_search "go") (by k_search "go") (by omega) rfl (by omega) (by omega)) (.cons (ev_strAt (i := sm / 3 % 3) (by k_search "go") (by k_search "go") (by omega) rfl (by omega) (by omega)) (.cons (ev_strAt (i := sm / 9 % 3) (by k_search "go") (by k_search "go") (by omega) rfl (by omega) (by omega)) (.cons (ev_strAt (i := 3) (by k_search "go") (by k_search "go") (by omega) rfl (by omega) (by omega)) .nil))))) (by k_search "put") ?_
  have hrow : [th.getD (sm % 3).toNat "", th.getD (sm / 3 % 3).toNat "", th.getD (sm / 9 % 3).toNat "", th.getD 3 ""].length = 4 := rfl
  generalize [th.getD (sm % 3).toNat "", th.getD (sm / 3 % 3).toNat "", th.getD (sm / 9 % 3).toNat "", th.getD 3 ""] = row at hrow ⊢
  have hpl : ((th.take 1 ++ sl) ++ sl.take 1).length = 5 := by rw [List.length_append, List.length_append, List.length_take, List.length_take]; omega
  have hpp : ∀ x ∈ (th.take 1 ++ sl) ++ sl.take 1, 0 < x.length := fun x hx => by
    rcases List.mem_append.mp hx with hx | hx
    · rcases List.mem_append.mp hx with hx | hx
      · exact pth x (List.mem_of_mem_take hx)
      · exact psl x hx
    · exact psl x (List.mem_of_mem_take hx)
  refine run_assign (t := tF (patternBy (cellAt xs 3) ws ((th.take 1 ++ sl) ++ sl.take 1))) (e_law_pattern W (by k_search "mem") (by k_search "go") (by k_search "go") (Ev.sw (EvF.sh ?_)) hws (by omega) (by omega) (by omega)) (by k_search "put") ?_
  · rw [List.map_append, List.map_append, ← cut_take1, ← cut_take1, ← cut_map, ← cut_map]
    refine evF_addl (Ev.sw (EvF.sh (evF_addl (Ev.sw (EvF.sh (evF_slice (by k_search "go") (by k_search "go") (by k_search "go") (by rw [List.length_map]; omega)))) (by k_search "go") ?_))) (Ev.sw (EvF.sh (evF_slice (by k_search "go") (by k_search "go") (by k_search "go") (by rw [List.length_map]; omega)))) ?_
    · have := cut_size (th.map T.str) none (some 1)
      rw [List.length_map] at this ⊢
      omega
    · have h1 := cut_size (th.map T.str) none (some 1)
      have h2 := cut_size (sl.map T.str) none (some 1)
      rw [List.length_map] at h1 h2
      rw [List.length_append, List.length_map]
      omega
  obtain ⟨hP, hPp⟩ := pattern_ok (cellAt xs 3) ws ((th.take 1 ++ sl) ++ sl.take 1) (by omega) hpp
  generalize patternBy (cellAt xs 3) ws ((th.take 1 ++ sl) ++ sl.take 1) = P at hP hPp ⊢
  refine run_assign (t := tF (factBy P sl row ws (cellAt xs 4))) (e_law_fact W (by k_search "mem") (by k_search "go") (by k_search "go") (by k_search "go") (by k_search "go") (by k_search "go") hP.2 hP.1 (by omega) hrow hws (by omega)) (by k_search "put") ?_
  have hF := fact_len P sl row ws (cellAt xs 4) hP.1 hP.2
  generalize factBy P sl row ws (cellAt xs 4) = F at hF ⊢
  refine run_assign (t := tO (dueOf P F)) (e_law_due W (by k_search "mem") (by k_search "go") (by k_search "go") (by omega) (by omega) hP.1 hPp (by omega)) (by k_search "put") ?_
  refine run_assign (t := tO (fittedOf P F)) (e_fitted W (by k_search "mem") (by k_search "go") (by k_search "go") (by omega) (by omega) (by omega)) (by k_search "put") ?_
  obtain ⟨hfd, hsome⟩ := fit_due (F := F) hP.1 hPp
  rw [hfd]
  cases hd : dueOf P F with
  | none =>
    show Run prog w H _ _ _ _
    simp only [tO]
    refine run_if (b := isNone .none) (by k_search "go") (fun hb => ?_) (fun hb => by cases hb)
    exact run_ret (t := .bool (isNone .none)) (by k_search "go") (out_ret rfl)
  | some es =>
    have hv := hsome es hd
    simp only [tO]
    refine run_if (b := isNone (.sd es)) (by k_search "go") (fun hb => by cases hb) (fun hb => ?_)
    refine run_nil (then_next (run_ret (t := .bool (true && true)) (ev_and (gIsDict g (by k_search "mem") (by k_search "mem") (by k_search "go")) (fun _ => ev_bool1 (ev_cmp (cmp_eq_sd (by k_search "go") (by k_search "go") hv)))) (out_ret rfl)))

end


end Mine
end
section
open PySem PySem.W PyProof.Rows
theorem PySem.Challenge.cw_uf020028_02_holds : PySem.Challenge.rw_uf020028_02.Holds := by
  refine Mine.hd ?_
  intro w s₀ s₁ mg mb G Y fa o pm cd doc dV kV ho hd hcd hD hmg hg args vals as hpre hlay hrd hwl hlo
  have Tp := G.T
  have hmg' : mg ("law" : Str) = some (.ref fa) := hmg
  clear hd hcd hD hmg Y
  wrow_args hpre hlay hrd hwl hlo
  rename_i xs hs hlay0 hL1 hr1 hl2 w4 w3 la vs w0 hL ra wl r0 hI hr hc1 hc0
  have W : Mine.W02 s₁.heap mg mb := ⟨⟨_, _, Tp⟩, Mine.gd_of_top Tp (by decide +kernel)⟩
  exact Mine.law_end (H := s₁.heap) (Mine.c_law W (by omega)) (by decide) hmg' (Mine.rd_script hL hI wl) hg (fun cls => rfl) (by with_unfolding_all rfl)
end
