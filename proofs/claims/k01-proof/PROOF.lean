import PyProof.Rows.All
import Wide.All
import OpenK.AllK
import Wide.FinOn
import HandS.ForMost
import HandS.Exc
import HandS.TryOnly
import HandS.ExcInit
import HandS.ExcOwn
import HandS.WordsExc
import HandS.ExcCtx
import HandS.ExcInitHot
import HandS.HotCalls
import HandS.FStr
import HandS.Style
import HandS.IsInst
import HandS.Zip
import HandS.Text
import HandS.List
import HandS.ExcField
import HandS.Iter
import HandS.ExcIs
import HandS.Defaults
import HandS.MakeKwOnly
import HandS.Strs
import HandS.Star
import KE.KUnpackStar
import PySem.Challenge.RW_deepfields_k01_grounds_there_and_back
set_option Elab.async false
set_option linter.all false
set_option maxRecDepth 100000
set_option maxHeartbeats 2000000
namespace TL
open PySem L2

inductive D where
  | non | bl (b : Bool) | int (i : Int) | str (x : Str) | ty (n : String) | adr (a : Addr)
  | lst (xs : List D) | tup (xs : List D) | obj (C : Addr) (fs : List (Str × D)) | bag
  | exc (a dd : Addr) (fs : List (Str × D))

/-- what the draws' bag at B is; its numbers at l -/
def BagOk (B l : Addr) (H : Hp) : Prop := ∃ (ns : List Int) (i g m k : Int),
  H B = some (.lst [.ref l, .int i, .int g, .int m, .int k]) ∧ H l = some (.lst (ns.map V.int)) ∧ l ≠ B ∧ ns.length ≤ 63 ∧ 0 ≤ i ∧ 0 ≤ g ∧ 0 ≤ m ∧ m < 2147483647

/-- all but the bag is as it was -/
def Ext (B : Addr) (H H' : Hp) : Prop := ∀ a o, a ≠ B → H a = some o → H' a = some o
theorem Ext.refl {B : Addr} (H : Hp) : Ext B H H := fun _ _ _ h => h
theorem Ext.trans {B : Addr} {H H1 H2 : Hp} (a : Ext B H H1) (b : Ext B H1 H2) : Ext B H H2 := fun x o n h => b x o n (a x o n h)
theorem Ext.new {B : Addr} {H : Hp} {p : Addr} {o : HO} (h : H p = none) : Ext B H (upd H p o) := fun a u _ e => by
  rw [upd_ne (ne_of_none e h)]
  exact e
/-- an object that H does not know may change -/
theorem Ext.mut {B : Addr} {H H' : Hp} {p : Addr} {o : HO} (e : Ext B H H') (h : H p = none) : Ext B H (upd H' p o) := fun a u n ha => by
  rw [upd_ne (ne_of_none ha h)]
  exact e a u n ha
theorem Ext.free {B : Addr} {H H' : Hp} (e : Ext B H H') {p : Addr} (hb : p ≠ B) (h : H' p = none) : H p = none := by
  cases h1 : H p with
  | none => rfl
  | some o =>
    rw [e p o hb h1] at h
    cases h
theorem BagOk.ne {B l : Addr} {H : Hp} (h : BagOk B l H) : H B ≠ none := by
  obtain ⟨ns, i, g, m, k, h1, _⟩ := h
  rw [h1]
  exact fun z => by cases z
theorem BagOk.put {B l : Addr} {H : Hp} {p : Addr} {o : HO} (h : BagOk B l H) (hb : p ≠ B) (hl : p ≠ l) : BagOk B l (upd H p o) := by
  obtain ⟨ns, i, g, m, k, h1, h2, h3⟩ := h
  exact ⟨ns, i, g, m, k, by rw [upd_ne hb.symm]; exact h1, by rw [upd_ne hl.symm]; exact h2, h3⟩
theorem BagOk.new {B l : Addr} {H : Hp} {p : Addr} {o : HO} (h : BagOk B l H) (hp : H p = none) : BagOk B l (upd H p o) := by
  obtain ⟨ns, i, g, m, k, h1, h2, h3⟩ := id h
  exact h.put (fun z => by rw [← z, hp] at h1; cases h1) fun z => by rw [← z, hp] at h2; cases h2

/-- a tuple of the written part -/
def KT (K : PySem.W.Frag) (a : Addr) (vs : List V) : Prop :=
  ∃ (o : Obj) (its : Array Value) (n : Nat), K.lookup a = some o ∧ o.cls = .type "tuple" ∧ o.data = .seq its n ∧ its.size ≤ sizeLine ∧ Vals vs its.toList
section
variable (K : PySem.W.Frag) (B : Addr) (M : Addr → Prop) (H : Hp)
mutual
inductive Rep : V → D → Prop
  | non : Rep .non .non
  | bl (b : Bool) : Rep (.bl b) (.bl b)
  | int (i : Int) : Rep (.int i) (.int i)
  | str (x : Str) : Rep (.str x) (.str x)
  | ty (n : String) : Rep (.ty n) (.ty n)
  | adr (a : Addr) : Rep (.ref a) (.adr a)
  | lst {a : Addr} {vs : List V} {ds : List D} : ¬ M a → H a = some (.lst vs) → Reps vs ds → Rep (.ref a) (.lst ds)
  | tup {a : Addr} {vs : List V} {ds : List D} : ¬ M a → H a = some (.tup vs) → Reps vs ds → Rep (.ref a) (.tup ds)
  | tupK {a : Addr} {vs : List V} {ds : List D} : KT K a vs → Reps vs ds → Rep (.ref a) (.tup ds)
  | obj {a C dx : Addr} {fs : List (Str × V)} {gs : List (Str × D)} : ¬ M a → H a = some (.ins C dx fs) → RepF fs gs → Rep (.ref a) (.obj C gs)
  | bag : Rep (.ref B) .bag
  | exc {a dd : Addr} {fs : List (Str × V)} {gs : List (Str × D)} : ¬ M dd → H dd = some (.xd fs) → RepF fs gs → Rep (.ref a) (.exc a dd gs)
inductive Reps : List V → List D → Prop
  | nil : Reps [] []
  | cons {v : V} {d : D} {vs : List V} {ds : List D} : Rep v d → Reps vs ds → Reps (v :: vs) (d :: ds)
inductive RepF : List (Str × V) → List (Str × D) → Prop
  | nil : RepF [] []
  | cons {f : Str} {v : V} {d : D} {vs : List (Str × V)} {ds : List (Str × D)} : Rep v d → RepF vs ds → RepF ((f, v) :: vs) ((f, d) :: ds)
end
end

section
variable {K : PySem.W.Frag} {B : Addr} {M M' : Addr → Prop} {H H' : Hp}
mutual
theorem Rep.mono (e : ∀ a o, ¬ M a → H a = some o → ¬ M' a ∧ H' a = some o) : ∀ {v : V} {d : D}, Rep K B M H v d → Rep K B M' H' v d
  | _, _, .non => .non
  | _, _, .bl b => .bl b
  | _, _, .int i => .int i
  | _, _, .str x => .str x
  | _, _, .ty n => .ty n
  | _, _, .adr a => .adr a
  | _, _, .lst n h r => .lst (e _ _ n h).1 (e _ _ n h).2 (Reps.mono e r)
  | _, _, .tup n h r => .tup (e _ _ n h).1 (e _ _ n h).2 (Reps.mono e r)
  | _, _, .tupK h r => .tupK h (Reps.mono e r)
  | _, _, .obj n h r => .obj (e _ _ n h).1 (e _ _ n h).2 (RepF.mono e r)
  | _, _, .bag => .bag
  | _, _, .exc n h r => .exc (e _ _ n h).1 (e _ _ n h).2 (RepF.mono e r)
theorem Reps.mono (e : ∀ a o, ¬ M a → H a = some o → ¬ M' a ∧ H' a = some o) : ∀ {v : List V} {d : List D}, Reps K B M H v d → Reps K B M' H' v d
  | _, _, .nil => .nil
  | _, _, .cons r t => .cons (Rep.mono e r) (Reps.mono e t)
theorem RepF.mono (e : ∀ a o, ¬ M a → H a = some o → ¬ M' a ∧ H' a = some o) : ∀ {v : List (Str × V)} {d : List (Str × D)}, RepF K B M H v d → RepF K B M' H' v d
  | _, _, .nil => .nil
  | _, _, .cons r t => .cons (Rep.mono e r) (RepF.mono e t)
end
theorem ext_q (hB : M B) (e : Ext B H H') : ∀ a o, ¬ M a → H a = some o → ¬ M a ∧ H' a = some o := fun a o n h => ⟨n, e a o (fun z => n (z ▸ hB)) h⟩
theorem Rep.ext {v : V} {d : D} (hB : M B) (e : Ext B H H') (r : Rep K B M H v d) : Rep K B M H' v d := r.mono (ext_q hB e)
theorem Reps.ext {v : List V} {d : List D} (hB : M B) (e : Ext B H H') (r : Reps K B M H v d) : Reps K B M H' v d := r.mono (ext_q hB e)
theorem RepF.ext {v : List (Str × V)} {d : List (Str × D)} (hB : M B) (e : Ext B H H') (r : RepF K B M H v d) : RepF K B M H' v d := r.mono (ext_q hB e)
theorem less_q (s : ∀ a, M' a → M a) : ∀ a o, ¬ M a → H a = some o → ¬ M' a ∧ H a = some o := fun a _ n h => ⟨fun z => n (s a z), h⟩
theorem Rep.less {v : V} {d : D} (s : ∀ a, M' a → M a) (r : Rep K B M H v d) : Rep K B M' H v d := r.mono (less_q s)
theorem Reps.less {v : List V} {d : List D} (s : ∀ a, M' a → M a) (r : Reps K B M H v d) : Reps K B M' H v d := r.mono (less_q s)
theorem RepF.less {v : List (Str × V)} {d : List (Str × D)} (s : ∀ a, M' a → M a) (r : RepF K B M H v d) : RepF K B M' H v d := r.mono (less_q s)
/-- what was free may be held apart, too -/
theorem grow_q (s : ∀ a, M' a → M a ∨ H a = none) : ∀ a o, ¬ M a → H a = some o → ¬ M' a ∧ H a = some o := fun a o n h => ⟨fun z => by
  rcases s a z with q | q
  · exact n q
  · exact absurd (q.symm.trans h) (by simp), h⟩
theorem Rep.grow {v : V} {d : D} (s : ∀ a, M' a → M a ∨ H a = none) (r : Rep K B M H v d) : Rep K B M' H v d := r.mono (grow_q s)
theorem Reps.grow {v : List V} {d : List D} (s : ∀ a, M' a → M a ∨ H a = none) (r : Reps K B M H v d) : Reps K B M' H v d := r.mono (grow_q s)
theorem RepF.grow {v : List (Str × V)} {d : List (Str × D)} (s : ∀ a, M' a → M a ∨ H a = none) (r : RepF K B M H v d) : RepF K B M' H v d := r.mono (grow_q s)
/-- a protected object is changed -/
theorem put_q {p : Addr} {u : HO} (hp : M p) : ∀ a o, ¬ M a → H a = some o → ¬ M a ∧ upd H p u a = some o := fun a o n h => ⟨n, by
  rw [upd_ne (fun z : a = p => n (by rw [z]; exact hp))]
  exact h⟩
/-- flat trees stand in every heap -/
def D.flat : D → Bool
  | .non => true | .bl _ => true | .int _ => true | .str _ => true | .ty _ => true | .adr _ => true | .bag => true
  | _ => false
theorem Rep.flat {v : V} {d : D} (f : d.flat = true) (r : Rep K B M H v d) : Rep K B M' H' v d := by
  cases r with
  | non => exact .non
  | bl b => exact .bl b
  | int i => exact .int i
  | str x => exact .str x
  | ty n => exact .ty n
  | adr a => exact .adr a
  | bag => exact .bag
  | _ => cases f
theorem Reps.length : ∀ {vs : List V} {ds : List D}, Reps K B M H vs ds → vs.length = ds.length
  | _, _, .nil => rfl
  | _, _, .cons _ t => by rw [List.length_cons, List.length_cons, Reps.length t]
theorem RepF.length : ∀ {vs : List (Str × V)} {ds : List (Str × D)}, RepF K B M H vs ds → vs.length = ds.length
  | _, _, .nil => rfl
  | _, _, .cons _ t => by rw [List.length_cons, List.length_cons, RepF.length t]
theorem Reps.get : ∀ {vs : List V} {ds : List D} {i : Nat} {d : D}, Reps K B M H vs ds → ds[i]? = some d → ∃ v, vs[i]? = some v ∧ Rep K B M H v d
  | _, _, _, _, .nil, e => by simp at e
  | _, _, 0, _, .cons r _, e => by
    simp at e
    subst e
    exact ⟨_, by simp, r⟩
  | _, _, i + 1, _, .cons _ t, e => by
    obtain ⟨v, h1, h2⟩ := Reps.get (i := i) t (by simpa using e)
    exact ⟨v, by simpa using h1, h2⟩
theorem Reps.getV : ∀ {vs : List V} {ds : List D} {i : Nat} {v : V}, Reps K B M H vs ds → vs[i]? = some v → ∃ d, ds[i]? = some d ∧ Rep K B M H v d
  | _, _, _, _, .nil, e => by simp at e
  | _, _, 0, _, .cons r _, e => by
    simp at e
    subst e
    exact ⟨_, by simp, r⟩
  | _, _, i + 1, _, .cons _ t, e => by
    obtain ⟨v, h1, h2⟩ := Reps.getV (i := i) t (by simpa using e)
    exact ⟨v, by simpa using h1, h2⟩
theorem Reps.append : ∀ {vs ws : List V} {ds es : List D}, Reps K B M H vs ds → Reps K B M H ws es → Reps K B M H (vs ++ ws) (ds ++ es)
  | _, _, _, _, .nil, s => s
  | _, _, _, _, .cons r t, s => .cons r (Reps.append t s)
theorem Reps.take : ∀ {vs : List V} {ds : List D} (n : Nat), Reps K B M H vs ds → Reps K B M H (vs.take n) (ds.take n)
  | _, _, 0, _ => by simp; exact .nil
  | _, _, n + 1, .nil => by simp; exact .nil
  | _, _, n + 1, .cons r t => .cons r (Reps.take n t)
theorem Reps.drop : ∀ {vs : List V} {ds : List D} (n : Nat), Reps K B M H vs ds → Reps K B M H (vs.drop n) (ds.drop n)
  | _, _, 0, r => by simpa using r
  | _, _, n + 1, .nil => by simp; exact .nil
  | _, _, n + 1, .cons _ t => by simpa using Reps.drop n t
theorem Reps.set {v : V} {d : D} (r : Rep K B M H v d) : ∀ {vs : List V} {ds : List D} (i : Nat), Reps K B M H vs ds → Reps K B M H (vs.set i v) (ds.set i d)
  | _, _, _, .nil => by simp; exact .nil
  | _, _, 0, .cons _ t => by simp; exact .cons r t
  | _, _, i + 1, .cons q t => by simp; exact .cons q (Reps.set r i t)
theorem RepF.look : ∀ {fs : List (Str × V)} {gs : List (Str × D)} {f : Str} {d : D}, RepF K B M H fs gs → gs.lookup f = some d → ∃ v, fs.lookup f = some v ∧ Rep K B M H v d
  | _, _, _, _, .nil, e => by simp [List.lookup] at e
  | _, _, f, d, .cons (f := g) (v := v) (d := d') r t, e => by
    by_cases h : f = g
    · subst h
      simp [List.lookup] at e
      subst e
      exact ⟨v, by simp [List.lookup], r⟩
    · have hb : (f == g) = false := by simpa using h
      simp only [List.lookup, hb] at e ⊢
      exact RepF.look t e
end

inductive Slot where
  | val (d : D) | own (xs : List D) | ins (C : Addr × Addr) (fs : List (Str × D))
abbrev Env := List (Option Slot)
def Slot.isOwn : Slot → Bool
  | .val _ => false
  | _ => true

structure Ct where
  K : PySem.W.Frag
  B : Addr
  L : Addr
  H0 : Hp
  P : Addr → Prop

def OwnAt (γ : Env) (σ : L2.St) (a : Addr) : Prop := ∃ (i : Nat) (s : Slot), γ[i]? = some (some s) ∧ s.isOwn = true ∧ σ[i]? = some (some (.ref a))
/-- what no tree may hold: the caller's protected objects, and (strong) one's own -/
def MW (c : Ct) (γ : Env) (σ : L2.St) (w : Bool) (a : Addr) : Prop := c.P a ∨ (w = true ∧ OwnAt γ σ a)

/-- the state of a body: the slots' trees, and trees besides that are to last (gh) -/
structure SI (c : Ct) (gh : List (V × D)) (γ : Env) (σ : L2.St) (H : Hp) : Prop where
  len : σ.length = γ.length
  ext : Ext c.B c.H0 H
  bag : BagOk c.B c.L H
  pB : c.P c.B
  pL : c.P c.L
  pal : ∀ a, c.P a → H a ≠ none
  val : ∀ (i : Nat) (d : D), γ[i]? = some (some (.val d)) → ∃ v, σ[i]? = some (some v) ∧ Rep c.K c.B (MW c γ σ true) H v d
  own : ∀ (i : Nat) (xs : List D), γ[i]? = some (some (.own xs)) → ∃ p vs, σ[i]? = some (some (.ref p)) ∧ H p = some (.lst vs) ∧ Reps c.K c.B (MW c γ σ true) H vs xs
  /-- one's own instance: where it lies, its class -/
  ins : ∀ (i : Nat) (C : Addr × Addr) (gs : List (Str × D)), γ[i]? = some (some (.ins C gs)) → ∃ p dx fs, σ[i]? = some (some (.ref p)) ∧ (p = C.1 ∧ H p = some (.ins C.2 dx fs)) ∧ RepF c.K c.B (MW c γ σ true) H fs gs
  gho : ∀ p ∈ gh, Rep c.K c.B (MW c γ σ true) H p.1 p.2
  fresh : ∀ p, OwnAt γ σ p → c.H0 p = none ∧ ¬ c.P p
  sep : ∀ (i j : Nat) (s t : Slot) (p : Addr), γ[i]? = some (some s) → s.isOwn = true → σ[i]? = some (some (.ref p)) → γ[j]? = some (some t) → t.isOwn = true → σ[j]? = some (some (.ref p)) → i = j

section
variable {c : Ct} {gh : List (V × D)} {γ γ' : Env} {σ σ' : L2.St} {H H' : Hp} {w : Bool}
theorem SI.mB (S : SI c gh γ σ H) (w : Bool) : MW c γ σ w c.B := .inl S.pB
theorem SI.alive (S : SI c gh γ σ H) {a : Addr} (h : MW c γ σ w a) : H a ≠ none := by
  rcases h with h | ⟨_, i, s, h1, h2, h3⟩
  · exact S.pal a h
  · cases s with
    | val d => cases h2
    | own xs =>
      obtain ⟨p, vs, e1, e2, _⟩ := S.own i xs h1
      rw [h3] at e1
      cases e1
      rw [e2]
      exact fun z => by cases z
    | ins C gs =>
      obtain ⟨p, dx, fs, e1, e2, _⟩ := S.ins i C gs h1
      rw [h3] at e1
      cases e1
      rw [e2.2]
      exact fun z => by cases z
theorem SI.notM (S : SI c gh γ σ H) {a : Addr} (h : H a = none) : ¬ MW c γ σ w a := fun z => S.alive z h
theorem SI.ownNe (S : SI c gh γ σ H) {p : Addr} (h : OwnAt γ σ p) : p ≠ c.B := fun z => (S.fresh p h).2 (z ▸ S.pB)
theorem SI.ownNeL (S : SI c gh γ σ H) {p : Addr} (h : OwnAt γ σ p) : p ≠ c.L := fun z => (S.fresh p h).2 (z ▸ S.pL)
theorem SI.newNe (S : SI c gh γ σ H) {p : Addr} (h : H p = none) : p ≠ c.B := fun z => S.pal c.B S.pB (z ▸ h)
theorem MW.toStrong {a : Addr} (h : MW c γ σ w a) : MW c γ σ true a := by
  rcases h with h | ⟨_, h⟩
  · exact .inl h
  · exact .inr ⟨rfl, h⟩
/-- the heap has changed so that every tree and every own object stands -/
theorem SI.step (S : SI c gh γ σ H) (e : Ext c.B c.H0 H') (b : BagOk c.B c.L H') (al : ∀ a, c.P a → H' a ≠ none) (k : ∀ a o, ¬ c.P a → H a = some o → H' a = some o) : SI c gh γ σ H' := by
  have q : ∀ a o, ¬ MW c γ σ true a → H a = some o → ¬ MW c γ σ true a ∧ H' a = some o := fun a o n h => ⟨n, k a o (fun z => n (.inl z)) h⟩
  refine ⟨S.len, e, b, S.pB, S.pL, al, fun i d h => ?_, fun i xs h => ?_, fun i C gs h => ?_, fun p hp => (S.gho p hp).mono q, S.fresh, S.sep⟩
  · obtain ⟨v, h1, h2⟩ := S.val i d h
    exact ⟨v, h1, h2.mono q⟩
  · obtain ⟨p, vs, h1, h2, h3⟩ := S.own i xs h
    exact ⟨p, vs, h1, k _ _ (S.fresh p ⟨i, _, h, rfl, h1⟩).2 h2, h3.mono q⟩
  · obtain ⟨p, dx, fs, h1, h2, h3⟩ := S.ins i C gs h
    exact ⟨p, dx, fs, h1, ⟨h2.1, k _ _ (S.fresh p ⟨i, _, h, rfl, h1⟩).2 h2.2⟩, h3.mono q⟩
/-- the state behind an expression: the slots as they were, the heap longer, the bag in order -/
theorem SI.later (S : SI c gh γ σ H) (e : Ext c.B H H') (b : BagOk c.B c.L H') : SI c gh γ σ H' := S.step (S.ext.trans e) b (fun a h z => by
  by_cases hb : a = c.B
  · rw [hb] at z
    exact b.ne z
  · exact S.pal a h (e.free hb z)) fun a o n h => e a o (fun z => n (z ▸ S.pB)) h
theorem SI.new {p : Addr} {o : HO} (S : SI c gh γ σ H) (hp : H p = none) : SI c gh γ σ (L2.upd H p o) := S.later (Ext.new hp) (S.bag.new hp)
end

abbrev TED := Env → (D → Prop) → Prop
abbrev TTD := Env → (Bool → Prop) → Prop
abbrev TAD := Env → (List D → Prop) → Prop
/-- an expression's reading over trees as a reading of the layer -/
def LE (c : Ct) (w : Bool) (T : TED) : TE := fun σ H Q => ∃ (gh : List (V × D)) (γ : Env) (Qd : D → Prop), SI c gh γ σ H ∧ T γ Qd ∧
  ∀ d v H', Qd d → Rep c.K c.B (MW c γ σ w) H' v d → SI c gh γ σ H' → Ext c.B H H' → Q v H'
def LT (c : Ct) (T : TTD) : TT := fun σ H Q => ∃ (gh : List (V × D)) (γ : Env) (Qd : Bool → Prop), SI c gh γ σ H ∧ T γ Qd ∧ ∀ b H', Qd b → SI c gh γ σ H' → Ext c.B H H' → Q b H'
def LA (c : Ct) (w : Bool) (T : TAD) : TA := fun σ H Q => ∃ (gh : List (V × D)) (γ : Env) (Qd : List D → Prop), SI c gh γ σ H ∧ T γ Qd ∧
  ∀ ds vs H', Qd ds → Reps c.K c.B (MW c γ σ w) H' vs ds → SI c gh γ σ H' → Ext c.B H H' → Q vs H'
/-- a new list (at an address that was free) -/
def LF (c : Ct) (w : Bool) (T : Env → (List D → Prop) → Prop) : TE := fun σ H Q => ∃ (gh : List (V × D)) (γ : Env) (Qd : List D → Prop), SI c gh γ σ H ∧ T γ Qd ∧
  ∀ ds p vs H', Qd ds → H p = none → H' p = some (.lst vs) → Reps c.K c.B (fun a => MW c γ σ w a ∨ a = p) H' vs ds → SI c gh γ σ H' → Ext c.B H H' → Q (.ref p) H'

theorem pe_imp {X : Cx} {e : Expr} {t t' : TE} (h : PE X e t) (i : ∀ pins s σ H Q, Inv X pins σ H s → t' σ H Q → t σ H Q) : PE X e t' := ⟨fun pins s σ H Q I q => h.run pins s σ H Q I (i pins s σ H Q I q)⟩
theorem pt_imp {X : Cx} {e : Expr} {t t' : TT} (h : PT X e t) (i : ∀ pins s σ H Q, Inv X pins σ H s → t' σ H Q → t σ H Q) : PT X e t' := ⟨fun pins s σ H Q I q => h.run pins s σ H Q I (i pins s σ H Q I q)⟩
theorem pw_imp {X : Cx} {e : Expr} {t t' : TT} (h : PW X e t) (i : ∀ pins s σ H Q, Inv X pins σ H s → t' σ H Q → t σ H Q) : PW X e t' := ⟨fun wh pins s σ H Q I q => h.run wh pins s σ H Q I (i pins s σ H Q I q)⟩
theorem pa_imp {X : Cx} {es : List Expr} {t t' : TA} (h : PA X es t) (i : ∀ pins s σ H Q, Inv X pins σ H s → t' σ H Q → t σ H Q) : PA X es t' := ⟨fun pos pins s σ H Q I q => h.run pos pins s σ H Q I (i pins s σ H Q I q)⟩
theorem ps_imp {X : Cx} {st : Stmt} {t t' : TS} (h : PS X st t) (i : ∀ pins s σ H D, Inv X pins σ H s → t' D σ H → t D σ H) : PS X st t' := ⟨fun pins s σ H D I q => h.run pins s σ H D I (i pins s σ H D I q)⟩
theorem pss_imp {X : Cx} {st : List Stmt} {t t' : TS} (h : PSs X st t) (i : ∀ pins s σ H D, Inv X pins σ H s → t' D σ H → t D σ H) : PSs X st t' := ⟨fun pins s σ H D I q => h.run pins s σ H D I (i pins s σ H D I q)⟩

section
variable {X : Cx} {c : Ct} {w : Bool}
def xVar (i : Nat) : TED := fun γ Q => ∃ d, γ[i]? = some (some (.val d)) ∧ Q d
/-- a name of one's own list, read where the end is near -/
def xVarO (i : Nat) : TED := fun γ Q => ∃ xs, γ[i]? = some (some (.own xs)) ∧ Q (.lst xs)
def xC (d : D) : TED := fun _ Q => Q d
theorem xd_var {e : Expr} (i : Nat) (h : PE X e (tVar i)) : PE X e (LE c w (xVar i)) := pe_imp h fun pins s σ H Q I q => by
  obtain ⟨gh, γ, Qd, S, ⟨d, e1, q1⟩, k⟩ := q
  obtain ⟨v, h1, r⟩ := S.val i d e1
  exact ⟨v, h1, k d v H q1 (r.less fun a m => m.toStrong) S (Ext.refl H)⟩
theorem xd_varO {e : Expr} (i : Nat) (h : PE X e (tVar i)) : PE X e (LE c false (xVarO i)) := pe_imp h fun pins s σ H Q I q => by
  obtain ⟨gh, γ, Qd, S, ⟨xs, e1, q1⟩, k⟩ := q
  obtain ⟨p, vs, h1, h2, r⟩ := S.own i xs e1
  refine ⟨_, h1, k _ _ H q1 (.lst (fun m => ?_) h2 (r.less fun a m => m.toStrong)) S (Ext.refl H)⟩
  rcases m with m | ⟨m, _⟩
  · exact (S.fresh p ⟨i, _, e1, rfl, h1⟩).2 m
  · cases m
theorem xd_c {e : Expr} {v : V} {d : D} (h : PE X e (tC v)) (r : ∀ M H, Rep c.K c.B M H v d) : PE X e (LE c w (xC d)) := pe_imp h fun pins s σ H Q I q => by
  obtain ⟨gh, γ, Qd, S, q1, k⟩ := q
  exact k d v H q1 (r _ _) S (Ext.refl H)
theorem xd_int {i j pos} : PE X (.Constant (.int i) j pos) (LE c w (xC (.int i))) := xd_c pe_int fun _ _ => .int i
theorem xd_bl {b j pos} : PE X (.Constant (.bool b) j pos) (LE c w (xC (.bl b))) := xd_c pe_bl fun _ _ => .bl b
theorem xd_non {j pos} : PE X (.Constant .none j pos) (LE c w (xC .non)) := xd_c pe_non fun _ _ => .non
theorem xd_str {x j pos} : PE X (.Constant (.str x) j pos) (LE c w (xC (.str x))) := xd_c pe_str fun _ _ => .str x
/-- strong is weak -/
theorem xd_weak {e : Expr} {T : TED} (h : PE X e (LE c true T)) : PE X e (LE c w T) := pe_imp h fun pins s σ H Q I q => by
  obtain ⟨gh, γ, Qd, S, q1, k⟩ := q
  exact ⟨gh, γ, Qd, S, q1, fun d v H' h1 r S' e => k d v H' h1 (r.less fun a m => m.toStrong) S' e⟩
/-- a flat value is strong -/
def xFlat (T : TED) : TED := fun γ Q => T γ fun d => d.flat = true ∧ Q d
theorem xd_flat {e : Expr} {T : TED} (h : PE X e (LE c false T)) : PE X e (LE c w (xFlat T)) := pe_imp h fun pins s σ H Q I q => by
  obtain ⟨gh, γ, Qd, S, q1, k⟩ := q
  exact ⟨gh, γ, _, S, q1, fun d v H' h1 r S' e => k d v H' h1.2 (r.flat h1.1) S' e⟩
/-- a new list as a value -/
def xNew (T : TAD) : TED := fun γ Q => T γ fun ds => Q (.lst ds)
theorem xd_new {e : Expr} {T : TAD} (h : PE X e (LF c w T)) : PE X e (LE c w (xNew T)) := pe_imp h fun pins s σ H Q I q => by
  obtain ⟨gh, γ, Qd, S, q1, k⟩ := q
  exact ⟨gh, γ, _, S, q1, fun ds p vs H' h1 n e r S' x => k _ _ H' h1 (.lst (S.notM n) e (r.less fun a m => .inl m)) S' x⟩

def xNil : TAD := fun _ Q => Q []
def xCons (T : TED) (U : TAD) : TAD := fun γ Q => T γ fun d => U γ fun ds => Q (d :: ds)
theorem xa_nil : PA X [] (LA c w xNil) := pa_imp pa_nil fun pins s σ H Q I q => by
  obtain ⟨gh, γ, Qd, S, q1, k⟩ := q
  exact k [] [] H q1 .nil S (Ext.refl H)
theorem xa_cons {e : Expr} {es : List Expr} {T : TED} {U : TAD} (h : PE X e (LE c w T)) (hr : PA X es (LA c w U)) (hs : starEach (e :: es) X.env = (false, eval e X.env) :: starEach es X.env := by rfl) : PA X (e :: es) (LA c w (xCons T U)) :=
  pa_imp (pa_cons h hr hs) fun pins s σ H Q I q => by
    obtain ⟨gh, γ, Qd, S, q1, k⟩ := q
    refine ⟨gh, γ, _, S, q1, fun d v H1 q2 r1 S1 x1 => ?_⟩
    refine ⟨gh, γ, _, S1, q2, fun ds vs H2 q3 r2 S2 x2 => ?_⟩
    exact k _ _ H2 q3 (.cons (r1.ext (S1.mB w) x2) r2) S2 (x1.trans x2)
def xTup (U : TAD) : TED := fun γ Q => U γ fun ds => ds.length ≤ sizeLine ∧ Q (.tup ds)
def xLst (U : TAD) : TAD := fun γ Q => U γ fun ds => ds.length ≤ sizeLine ∧ Q ds
theorem xd_tup {es : List Expr} {x1 pos} {U : TAD} (h : PA X es (LA c w U)) : PE X (.Tuple es x1 pos) (LE c w (xTup U)) := pe_imp (pe_tup h) fun pins s σ H Q I q => by
  obtain ⟨gh, γ, Qd, S, q1, k⟩ := q
  refine ⟨gh, γ, _, S, q1, fun ds vs H1 q2 r1 S1 x1 => ?_⟩
  refine ⟨by rw [r1.length]; exact q2.1, fun p hp => ?_⟩
  exact k _ _ _ q2.2 (.tup (S1.notM hp) upd_same (r1.ext (S1.mB w) (Ext.new hp))) (S1.new hp) (x1.trans (Ext.new hp))
theorem xf_lst {es : List Expr} {pos} {U : TAD} (h : PA X es (LA c w U)) : PE X (.List es pos) (LF c w (xLst U)) := pe_imp (pe_lst h) fun pins s σ H Q I q => by
  obtain ⟨gh, γ, Qd, S, q1, k⟩ := q
  refine ⟨gh, γ, _, S, q1, fun ds vs H1 q2 r1 S1 x1 => ?_⟩
  refine ⟨by rw [r1.length]; exact q2.1, fun p hp => ?_⟩
  refine k _ p vs _ q2.2 ?_ upd_same ((r1.grow (M' := fun a => MW c γ σ w a ∨ a = p) fun a m => m.imp id fun z => z ▸ hp).ext (.inl (S1.mB w)) (Ext.new hp)) (S1.new hp) (x1.trans (Ext.new hp))
  exact x1.free (fun z => S1.bag.ne (z ▸ hp)) hp
end
end TL
set_option Elab.async false
set_option linter.all false
set_option maxRecDepth 100000
set_option maxHeartbeats 2000000
namespace TL
open PySem L2

section
variable {X : Cx} {c : Ct} {w : Bool} {a b e : Expr} {T U : TED} {pos : Pos}

abbrev OpD := D → D → (D → Prop) → Prop
def xOp (r : OpD) (T U : TED) : TED := fun γ Q => T γ fun x => U γ fun y => r x y Q
/-- an operator over values as one over trees -/
def BrO (c : Ct) (w : Bool) (r : R2) (rd : OpD) : Prop := ∀ (gh : List (V × D)) (γ : Env) (σ : L2.St) (H : Hp) (x y : D) (v u : V) (Qd : D → Prop) (Q : VK), SI c gh γ σ H → Rep c.K c.B (MW c γ σ w) H v x → Rep c.K c.B (MW c γ σ w) H u y → rd x y Qd →
  (∀ d v' H', Qd d → Rep c.K c.B (MW c γ σ w) H' v' d → SI c gh γ σ H' → Ext c.B H H' → Q v' H') → r v u H Q
theorem op_lift {r : R2} {rd : OpD} {ta tb : TE} (br : BrO c w r rd) {σ : L2.St} {H : Hp} {Q : VK} (q : LE c w (xOp rd T U) σ H Q) : tOp r (LE c w T) (LE c w U) σ H Q := by
  obtain ⟨gh, γ, Qd, S, q1, k⟩ := q
  refine ⟨gh, γ, _, S, q1, fun x v H1 q2 r1 S1 x1 => ?_⟩
  refine ⟨gh, γ, _, S1, q2, fun y u H2 q3 r2 S2 x2 => ?_⟩
  exact br gh γ σ H2 x y v u Qd Q S2 (r1.ext (S1.mB w) x2) r2 q3 fun d v' H' h1 h2 h3 h4 => k d v' H' h1 h2 h3 ((x1.trans x2).trans h4)
theorem xd_op {op : Operator} {r : R2} {rd : OpD} (ho : OpR X (binaryOp op) r) (br : BrO c w r rd) (ha : PE X a (LE c w T)) (hb : PE X b (LE c w U)) : PE X (.BinOp a op b pos) (LE c w (xOp rd T U)) :=
  pe_imp (pe_op ho ha hb) fun _ _ _ _ _ _ q => op_lift (ta := LE c w T) (tb := LE c w U) br q
theorem xd_cmp {op : CmpOp} {r : R2} {rd : OpD} (ho : OpR X (compareOp op) r) (br : BrO c w r rd) (hm : behindInMarks op b = false) (ha : PE X a (LE c w T)) (hb : PE X b (LE c w U)) : PE X (.Compare a [op] [b] pos) (LE c w (xOp rd T U)) :=
  pe_imp (pe_cmpR ho ha hb hm) fun _ _ _ _ _ _ q => op_lift (ta := LE c w T) (tb := LE c w U) br q

def dAdd : OpD
  | .int i, .int j, Q => Q (.int (i + j))
  | .str x, .str y, Q => x.length + y.length ≤ sizeLine ∧ Q (.str (x ++ y))
  | .lst xs, .lst ys, Q => xs.length + ys.length ≤ sizeLine ∧ Q (.lst (xs ++ ys))
  | _, _, _ => False
def dI2 (C : Int → Int → Prop) (f : Int → Int → Int) : OpD
  | .int i, .int j, Q => C i j ∧ Q (.int (f i j))
  | _, _, _ => False
def dSub : OpD
  | .int i, .int j, Q => Q (.int (i - j))
  | _, _, _ => False
theorem br_add : BrO c w (fun x y H Q => (rI0 fun i j => V.int (i + j)) x y H Q ∨ ((∃ i j, x = .str i ∧ y = .str j ∧ i.length + j.length ≤ sizeLine ∧ Q (.str (i ++ j)) H) ∨ rCat x y H Q)) dAdd := by
  intro gh γ σ H x y v u Qd Q S r1 r2 q k
  cases r1 with
  | int i =>
    cases r2 with
    | int j => exact .inl ⟨i, j, rfl, rfl, k _ _ H q (.int _) S (Ext.refl H)⟩
    | _ => exact q.elim
  | str i =>
    cases r2 with
    | str j => exact .inr (.inl ⟨i, j, rfl, rfl, q.1, k _ _ H q.2 (.str _) S (Ext.refl H)⟩)
    | _ => exact q.elim
  | lst n1 h1 s1 =>
    cases r2 with
    | lst n2 h2 s2 =>
      refine .inr (.inr ⟨_, _, _, _, rfl, rfl, h1, h2, by rw [s1.length, s2.length]; exact q.1, fun p hp => ?_⟩)
      exact k _ _ _ q.2 (.lst (S.notM hp) upd_same ((s1.append s2).ext (S.mB w) (Ext.new hp))) (S.new hp) (Ext.new hp)
    | _ => exact q.elim
  | _ => exact q.elim
theorem xd_add (ha : PE X a (LE c w T)) (hb : PE X b (LE c w U)) : PE X (.BinOp a .Add b pos) (LE c w (xOp dAdd T U)) := xd_op (OpR.or op_add (OpR.or op_add_str op_cat)) br_add ha hb
theorem br_i2 {C : Int → Int → Prop} {f : Int → Int → Int} : BrO c w (rI C fun i j => V.int (f i j)) (dI2 C f) := by
  intro gh γ σ H x y v u Qd Q S r1 r2 q k
  cases r1 with
  | int i =>
    cases r2 with
    | int j => exact ⟨i, j, rfl, rfl, q.1, k _ _ H q.2 (.int _) S (Ext.refl H)⟩
    | _ => exact q.elim
  | _ => exact q.elim
theorem br_sub : BrO c w (rI0 fun i j => V.int (i - j)) dSub := by
  intro gh γ σ H x y v u Qd Q S r1 r2 q k
  cases r1 with
  | int i =>
    cases r2 with
    | int j => exact ⟨i, j, rfl, rfl, k _ _ H q (.int _) S (Ext.refl H)⟩
    | _ => exact q.elim
  | _ => exact q.elim
theorem xd_sub (ha : PE X a (LE c w T)) (hb : PE X b (LE c w U)) : PE X (.BinOp a .Sub b pos) (LE c w (xOp dSub T U)) := xd_op op_sub br_sub ha hb
def dMul : OpD := dI2 CMul fun i j => i * j
def dFdiv : OpD := dI2 CDiv fun i j => i / j
def dMod : OpD := dI2 (fun _ j => 0 < j) fun i j => i % j
def dPow : OpD := dI2 CPow fun i j => i ^ j.toNat
theorem xd_mul (ha : PE X a (LE c w T)) (hb : PE X b (LE c w U)) : PE X (.BinOp a .Mult b pos) (LE c w (xOp dMul T U)) := xd_op op_mul br_i2 ha hb
theorem xd_fdiv (ha : PE X a (LE c w T)) (hb : PE X b (LE c w U)) : PE X (.BinOp a .FloorDiv b pos) (LE c w (xOp dFdiv T U)) := xd_op op_fdiv br_i2 ha hb
theorem xd_mod (ha : PE X a (LE c w T)) (hb : PE X b (LE c w U)) : PE X (.BinOp a .Mod b pos) (LE c w (xOp dMod T U)) := xd_op op_mod br_i2 ha hb
theorem xd_pow (ha : PE X a (LE c w T)) (hb : PE X b (LE c w U)) : PE X (.BinOp a .Pow b pos) (LE c w (xOp dPow T U)) := xd_op op_pow br_i2 ha hb
def xNeg (T : TED) : TED := fun γ Q => T γ fun x => ∃ i, x = .int i ∧ Q (.int (-i))
theorem xd_neg (ha : PE X a (LE c w T)) : PE X (.UnaryOp .USub a pos) (LE c w (xNeg T)) := pe_imp (pe_un un_neg ha) fun _ _ σ H Q I q => by
  obtain ⟨gh, γ, Qd, S, q1, k⟩ := q
  refine ⟨gh, γ, _, S, q1, fun x v H1 q2 r1 S1 x1 => ?_⟩
  obtain ⟨i, rfl, q3⟩ := q2
  cases r1
  exact ⟨i, rfl, k _ _ H1 q3 (.int _) S1 x1⟩

def dCmp (p : Int → Int → Bool) : OpD
  | .int i, .int j, Q => Q (.bl (p i j))
  | _, _, _ => False
theorem br_cmp {p : Int → Int → Bool} : BrO c w (rI0 fun i j => V.bl (p i j)) (dCmp p) := by
  intro gh γ σ H x y v u Qd Q S r1 r2 q k
  cases r1 with
  | int i =>
    cases r2 with
    | int j => exact ⟨i, j, rfl, rfl, k _ _ H q (.bl _) S (Ext.refl H)⟩
    | _ => exact q.elim
  | _ => exact q.elim
abbrev dLt : OpD := dCmp fun i j => decide (i < j)
abbrev dLe : OpD := dCmp fun i j => decide (i ≤ j)
abbrev dGt : OpD := dCmp fun i j => decide (j < i)
abbrev dGe : OpD := dCmp fun i j => decide (j ≤ i)
theorem xd_lt (ha : PE X a (LE c w T)) (hb : PE X b (LE c w U)) : PE X (.Compare a [.Lt] [b] pos) (LE c w (xOp dLt T U)) := xd_cmp op_lt br_cmp (nomark _) ha hb
theorem xd_le (ha : PE X a (LE c w T)) (hb : PE X b (LE c w U)) : PE X (.Compare a [.LtE] [b] pos) (LE c w (xOp dLe T U)) := xd_cmp op_le br_cmp (nomark _) ha hb
theorem xd_gt (ha : PE X a (LE c w T)) (hb : PE X b (LE c w U)) : PE X (.Compare a [.Gt] [b] pos) (LE c w (xOp dGt T U)) := xd_cmp op_gt br_cmp (nomark _) ha hb
theorem xd_ge (ha : PE X a (LE c w T)) (hb : PE X b (LE c w U)) : PE X (.Compare a [.GtE] [b] pos) (LE c w (xOp dGe T U)) := xd_cmp op_ge br_cmp (nomark _) ha hb

def scalD : D → D → Bool
  | .non, .non => true | .non, .int _ => true | .int _, .non => true | .non, .bl _ => true | .bl _, .non => true | .non, .str _ => true | .str _, .non => true
  | .int _, .int _ => true | .bl _, .bl _ => true | .str _, .str _ => true
  | .int _, .str _ => true | .str _, .int _ => true | .bl _, .str _ => true | .str _, .bl _ => true
  | _, _ => false
def sameD : D → D → Bool
  | .non, .non => true
  | .int i, .int j => decide (i = j)
  | .bl i, .bl j => decide (i = j)
  | .str i, .str j => decide (i = j)
  | _, _ => false
mutual
inductive Py : D → PyData → Prop
  | non : Py .non .none
  | bl (b : Bool) : Py (.bl b) (.bool b)
  | int (i : Int) : Py (.int i) (.int i)
  | str (x : Str) : Py (.str x) (.str x)
  | lst {xs : List D} {ps : List PyData} : PyAll xs ps → Py (.lst xs) (.list ps)
  | tup {xs : List D} {ps : List PyData} : PyAll xs ps → Py (.tup xs) (.tuple ps)
inductive PyAll : List D → List PyData → Prop
  | nil : PyAll [] []
  | cons {d : D} {ds : List D} {p : PyData} {ps : List PyData} : Py d p → PyAll ds ps → PyAll (d :: ds) (p :: ps)
end
mutual
theorem Py.dp {K : PySem.W.Frag} {B : Addr} {M : Addr → Prop} {H : Hp} : ∀ {d : D} {p : PyData} {v : V}, Py d p → Rep K B M H v d → Dp K H v p
  | _, _, _, .non, r => by cases r; exact .non
  | _, _, _, .bl b, r => by cases r; exact .bl b
  | _, _, _, .int i, r => by cases r; exact .int i
  | _, _, _, .str x, r => by cases r; exact .str x
  | _, _, _, .lst h, r => by
    cases r with
    | lst n e s => exact .lst (SqL.of e) (PyAll.dp h s)
  | _, _, _, .tup h, r => by
    cases r with
    | tup n e s => exact .tup (SqT.of e) (PyAll.dp h s)
    | tupK e s => exact .tup (.inr e) (PyAll.dp h s)
theorem PyAll.dp {K : PySem.W.Frag} {B : Addr} {M : Addr → Prop} {H : Hp} : ∀ {d : List D} {p : List PyData} {v : List V}, PyAll d p → Reps K B M H v d → DpAll K H v p
  | _, _, _, .nil, r => by cases r; exact .nil
  | _, _, _, .cons h t, r => by
    cases r with
    | cons r1 r2 => exact .cons (Py.dp h r1) (PyAll.dp t r2)
end
def dEqq (neg : Bool) : OpD := fun x y Q => match scalD x y with
  | true => Q (.bl (neg ^^ sameD x y))
  | false => ∃ p q, Py x p ∧ Py y q ∧ SeqAt.shaped p = true ∧ SeqAt.shaped q = true ∧ Q (.bl (neg ^^ PyData.eqv p q))
theorem scal_rep {K : PySem.W.Frag} {B : Addr} {M : Addr → Prop} {H : Hp} {v u : V} {x y : D} (r1 : Rep K B M H v x) (r2 : Rep K B M H u y) (h : scalD x y = true) : scal v u = true ∧ decide (v = u) = sameD x y := by
  cases r1 <;> cases r2 <;> first | (simp [scalD] at h; done) | (constructor <;> simp [scal, sameD])
theorem br_eq : BrO c w (fun x y H Q => rEq x y H Q ∨ rEqD c.K x y H Q) (dEqq false) := by
  intro gh γ σ H x y v u Qd Q S r1 r2 q k
  unfold dEqq at q
  cases h : scalD x y with
  | true =>
    rw [h] at q
    obtain ⟨h1, h2⟩ := scal_rep r1 r2 h
    refine .inl ⟨h1, ?_⟩
    rw [h2]
    exact k _ _ H (by simpa using q) (.bl _) S (Ext.refl H)
  | false =>
    rw [h] at q
    obtain ⟨p, p', h1, h2, s1, s2, q⟩ := q
    exact .inr ⟨p, p', h1.dp r1, h2.dp r2, s1, s2, k _ _ H (by simpa using q) (.bl _) S (Ext.refl H)⟩
theorem br_ne : BrO c w (fun x y H Q => rNe x y H Q ∨ rNeD c.K x y H Q) (dEqq true) := by
  intro gh γ σ H x y v u Qd Q S r1 r2 q k
  unfold dEqq at q
  cases h : scalD x y with
  | true =>
    rw [h] at q
    obtain ⟨h1, h2⟩ := scal_rep r1 r2 h
    refine .inl ⟨h1, ?_⟩
    rw [h2]
    exact k _ _ H (by simpa using q) (.bl _) S (Ext.refl H)
  | false =>
    rw [h] at q
    obtain ⟨p, p', h1, h2, s1, s2, q⟩ := q
    exact .inr ⟨p, p', h1.dp r1, h2.dp r2, s1, s2, k _ _ H (by simpa using q) (.bl _) S (Ext.refl H)⟩
theorem xd_eq (hK : c.K = X.K) (hu : X.A.units + 64 < cLine) (ha : PE X a (LE c w T)) (hb : PE X b (LE c w U)) : PE X (.Compare a [.Eq] [b] pos) (LE c w (xOp (dEqq false) T U)) :=
  xd_cmp (OpR.or op_eq (by rw [hK]; exact op_eqD hu)) br_eq (nomark _) ha hb
theorem xd_ne (hK : c.K = X.K) (hu : X.A.units + 64 < cLine) (ha : PE X a (LE c w T)) (hb : PE X b (LE c w U)) : PE X (.Compare a [.NotEq] [b] pos) (LE c w (xOp (dEqq true) T U)) :=
  xd_cmp (OpR.or op_ne (by rw [hK]; exact op_neD hu)) br_ne (nomark _) ha hb

def D.isNon : D → Bool
  | .non => true
  | _ => false
def dIs (neg : Bool) : OpD := fun x y Q => y = .non ∧ Q (.bl (neg ^^ x.isNon))
theorem non_rep {K : PySem.W.Frag} {B : Addr} {M : Addr → Prop} {H : Hp} {v : V} {x : D} (r : Rep K B M H v x) : decide (v = .non) = x.isNon := by
  cases r <;> simp [D.isNon]
theorem xd_is (ha : PE X a (LE c w T)) (hb : PE X b (LE c w U)) : PE X (.Compare a [.Is] [b] pos) (LE c w (xOp (dIs false) T U)) := xd_cmp op_isN (by
  intro gh γ σ H x y v u Qd Q S r1 r2 q k
  obtain ⟨rfl, q⟩ := q
  cases r2
  refine ⟨rfl, ?_⟩
  rw [non_rep r1]
  exact k _ _ H (by simpa using q) (.bl _) S (Ext.refl H)) (nomark _) ha hb
theorem xd_isnot (ha : PE X a (LE c w T)) (hb : PE X b (LE c w U)) : PE X (.Compare a [.IsNot] [b] pos) (LE c w (xOp (dIs true) T U)) := xd_cmp op_notN (by
  intro gh γ σ H x y v u Qd Q S r1 r2 q k
  obtain ⟨rfl, q⟩ := q
  cases r2
  refine ⟨rfl, ?_⟩
  rw [non_rep r1]
  exact k _ _ H (by simpa using q) (.bl _) S (Ext.refl H)) (nomark _) ha hb

def flatS : D → Bool
  | .non => true | .bl _ => true | .int _ => true | .str _ => true
  | _ => false
def eqS : D → D → Bool
  | .non, .non => true
  | .bl a, .bl b => a == b
  | .bl a, .int b => (if a then 1 else 0) == b
  | .int a, .bl b => a == (if b then 1 else 0)
  | .int a, .int b => a == b
  | .str a, .str b => a == b
  | _, _ => false
def inS (x : D) (ys : List D) : Bool := ys.any fun y => eqS y x
theorem flatS_rep {K : PySem.W.Frag} {B : Addr} {M : Addr → Prop} {H : Hp} {v : V} {x : D} (r : Rep K B M H v x) (f : flatS x = true) : flatV v = true := by
  cases r <;> first | rfl | cases f
theorem eqS_rep {K : PySem.W.Frag} {B : Addr} {M : Addr → Prop} {H : Hp} {v u : V} {x y : D} (r1 : Rep K B M H v x) (r2 : Rep K B M H u y) (f1 : flatS x = true) (f2 : flatS y = true) : eqV v u = eqS x y := by
  cases r1 <;> first | (cases f1; done) | (cases r2 <;> first | (cases f2; done) | rfl)
theorem inS_rep {K : PySem.W.Frag} {B : Addr} {M : Addr → Prop} {H : Hp} {v : V} {x : D} (r : Rep K B M H v x) (f : flatS x = true) : ∀ {vs : List V} {ds : List D}, Reps K B M H vs ds → ds.all flatS = true → vs.all flatV = true ∧ inV v vs = inS x ds
  | _, _, .nil, _ => ⟨rfl, rfl⟩
  | _, _, .cons r1 r2, g => by
    rw [List.all_cons, Bool.and_eq_true] at g
    obtain ⟨h1, h2⟩ := inS_rep r f r2 g.2
    refine ⟨by rw [List.all_cons, flatS_rep r1 g.1, h1]; rfl, ?_⟩
    unfold inV inS at h2 ⊢
    rw [List.any_cons, List.any_cons, eqS_rep r1 r g.1 f, h2]
def dIn (neg : Bool) : OpD
  | .str x, .str z, Q => ∃ k, x = ⟨#[k]⟩ ∧ Q (.bl (neg ^^ decide (k ∈ z.cps.toList)))
  | x, .lst ys, Q => flatS x = true ∧ ys.all flatS = true ∧ Q (.bl (neg ^^ inS x ys))
  | x, .tup ys, Q => flatS x = true ∧ ys.all flatS = true ∧ Q (.bl (neg ^^ inS x ys))
  | _, _, _ => False
def rSign (neg : Bool) : R2 := fun x y H Q => ∃ (k : Nat) (z : Str), x = .str ⟨#[k]⟩ ∧ y = .str z ∧ Q (.bl (neg ^^ decide (k ∈ z.cps.toList))) H
theorem br_in {neg : Bool} : BrO c w (fun x y H Q => rSign neg x y H Q ∨ rIn c.K neg x y H Q) (dIn neg) := by
  intro gh γ σ H x y v u Qd Q S r1 r2 q k
  have seq : ∀ {p : Addr} {vs : List V} {ds : List D}, (SqL c.K H p vs ∨ SqT c.K H p vs) → Reps c.K c.B (MW c γ σ w) H vs ds → (flatS x = true ∧ ds.all flatS = true ∧ Qd (.bl (neg ^^ inS x ds))) → rIn c.K neg v (.ref p) H Q := fun {p vs ds} hs r ⟨f1, f2, q⟩ => by
    obtain ⟨g1, g2⟩ := inS_rep r1 f1 r f2
    refine ⟨p, vs, rfl, hs, flatS_rep r1 f1, g1, ?_⟩
    rw [g2]
    refine k _ _ H q ?_ S (Ext.refl H)
    cases neg <;> simp <;> exact .bl _
  cases r2 with
  | str z =>
    cases r1 with
    | str i =>
      obtain ⟨n, e, q⟩ := q
      subst e
      exact .inl ⟨n, z, rfl, rfl, k _ _ H q (.bl _) S (Ext.refl H)⟩
    | _ => exact q.elim
  | lst n e s => exact .inr (seq (.inl (SqL.of e)) s (by cases r1 <;> exact q))
  | tup n e s => exact .inr (seq (.inr (SqT.of e)) s (by cases r1 <;> exact q))
  | tupK e s => exact .inr (seq (.inr (.inr e)) s (by cases r1 <;> exact q))
  | _ => cases r1 <;> exact q.elim
theorem op_sign : OpR X (compareOp .In) (rSign false) := fun pins s σ H x y v u Q I rx ry ⟨k, z, h1, h2, q⟩ => op_in_sign pins s σ H x y v u Q I rx ry ⟨k, z, h1, h2, by simpa using q⟩
theorem op_nsign : OpR X (compareOp .NotIn) (rSign true) := fun pins s σ H x y v u Q I rx ry ⟨k, z, h1, h2, q⟩ => op_notIn_sign pins s σ H x y v u Q I rx ry ⟨k, z, h1, h2, by simpa using q⟩
theorem xd_in (hK : c.K = X.K) (hm : behindInMarks .In b = false) (ha : PE X a (LE c w T)) (hb : PE X b (LE c w U)) : PE X (.Compare a [.In] [b] pos) (LE c w (xOp (dIn false) T U)) :=
  xd_cmp (OpR.or op_sign (by rw [hK]; exact op_in_seq)) br_in hm ha hb
theorem xd_notin (hK : c.K = X.K) (hm : behindInMarks .NotIn b = false) (ha : PE X a (LE c w T)) (hb : PE X b (LE c w U)) : PE X (.Compare a [.NotIn] [b] pos) (LE c w (xOp (dIn true) T U)) :=
  xd_cmp (OpR.or op_nsign (by rw [hK]; exact op_notIn_seq)) br_in hm ha hb

def xB (T : TED) : TTD := fun γ Q => T γ fun d => ∃ k, d = .bl k ∧ Q k
theorem test_lift {r : R2} {rd : OpD} (br : BrO c w r rd) {σ : L2.St} {H : Hp} {Q : Bool → Hp → Prop} (q : LT c (xB (xOp rd T U)) σ H Q) : tTest (tOp r (LE c w T) (LE c w U)) σ H Q := by
  obtain ⟨gh, γ, Qd, S, q1, k⟩ := q
  refine op_lift (ta := LE c w T) (tb := LE c w U) br ⟨gh, γ, _, S, q1, fun d v H' h1 h2 h3 h4 => ?_⟩
  obtain ⟨b, rfl, h1⟩ := h1
  cases h2
  exact ⟨b, rfl, k b H' h1 h3 h4⟩
theorem xt_cmp {op : CmpOp} {r : R2} {rd : OpD} (ho : OpR X (compareOp op) r) (br : BrO c w r rd) (hm : behindInMarks op b = false) (ha : PE X a (LE c w T)) (hb : PE X b (LE c w U)) : PT X (.Compare a [op] [b] pos) (LT c (xB (xOp rd T U))) :=
  pt_imp (pt_cmpR ho ha hb hm) fun _ _ _ _ _ _ q => test_lift br q
theorem xt_lt (ha : PE X a (LE c w T)) (hb : PE X b (LE c w U)) : PT X (.Compare a [.Lt] [b] pos) (LT c (xB (xOp dLt T U))) := xt_cmp op_lt br_cmp (nomark _) ha hb
theorem xt_le (ha : PE X a (LE c w T)) (hb : PE X b (LE c w U)) : PT X (.Compare a [.LtE] [b] pos) (LT c (xB (xOp dLe T U))) := xt_cmp op_le br_cmp (nomark _) ha hb
theorem xt_gt (ha : PE X a (LE c w T)) (hb : PE X b (LE c w U)) : PT X (.Compare a [.Gt] [b] pos) (LT c (xB (xOp dGt T U))) := xt_cmp op_gt br_cmp (nomark _) ha hb
theorem xt_ge (ha : PE X a (LE c w T)) (hb : PE X b (LE c w U)) : PT X (.Compare a [.GtE] [b] pos) (LT c (xB (xOp dGe T U))) := xt_cmp op_ge br_cmp (nomark _) ha hb
theorem xt_eq (hK : c.K = X.K) (hu : X.A.units + 64 < cLine) (ha : PE X a (LE c w T)) (hb : PE X b (LE c w U)) : PT X (.Compare a [.Eq] [b] pos) (LT c (xB (xOp (dEqq false) T U))) :=
  xt_cmp (OpR.or op_eq (by rw [hK]; exact op_eqD hu)) br_eq (nomark _) ha hb
theorem xt_ne (hK : c.K = X.K) (hu : X.A.units + 64 < cLine) (ha : PE X a (LE c w T)) (hb : PE X b (LE c w U)) : PT X (.Compare a [.NotEq] [b] pos) (LT c (xB (xOp (dEqq true) T U))) :=
  xt_cmp (OpR.or op_ne (by rw [hK]; exact op_neD hu)) br_ne (nomark _) ha hb
theorem br_is {neg : Bool} : BrO c w (fun x y H Q => y = .non ∧ Q (.bl (neg ^^ decide (x = .non))) H) (dIs neg) := by
  intro gh γ σ H x y v u Qd Q S r1 r2 q k
  obtain ⟨rfl, q⟩ := q
  cases r2
  refine ⟨rfl, ?_⟩
  rw [non_rep r1]
  exact k _ _ H q (.bl _) S (Ext.refl H)
theorem op_isx : OpR X (compareOp .Is) (fun x y H Q => y = .non ∧ Q (.bl (false ^^ decide (x = .non))) H) := fun pins s σ H x y v u Q I rx ry ⟨h1, q⟩ => op_isN pins s σ H x y v u Q I rx ry ⟨h1, by simpa using q⟩
theorem op_isnx : OpR X (compareOp .IsNot) (fun x y H Q => y = .non ∧ Q (.bl (true ^^ decide (x = .non))) H) := fun pins s σ H x y v u Q I rx ry ⟨h1, q⟩ => op_notN pins s σ H x y v u Q I rx ry ⟨h1, by simpa using q⟩
theorem xt_is (ha : PE X a (LE c w T)) (hb : PE X b (LE c w U)) : PT X (.Compare a [.Is] [b] pos) (LT c (xB (xOp (dIs false) T U))) := xt_cmp op_isx br_is (nomark _) ha hb
theorem xt_isnot (ha : PE X a (LE c w T)) (hb : PE X b (LE c w U)) : PT X (.Compare a [.IsNot] [b] pos) (LT c (xB (xOp (dIs true) T U))) := xt_cmp op_isnx br_is (nomark _) ha hb
theorem xt_in (hK : c.K = X.K) (hm : behindInMarks .In b = false) (ha : PE X a (LE c w T)) (hb : PE X b (LE c w U)) : PT X (.Compare a [.In] [b] pos) (LT c (xB (xOp (dIn false) T U))) :=
  xt_cmp (OpR.or op_sign (by rw [hK]; exact op_in_seq)) br_in hm ha hb
theorem xt_notin (hK : c.K = X.K) (hm : behindInMarks .NotIn b = false) (ha : PE X a (LE c w T)) (hb : PE X b (LE c w U)) : PT X (.Compare a [.NotIn] [b] pos) (LT c (xB (xOp (dIn true) T U))) :=
  xt_cmp (OpR.or op_nsign (by rw [hK]; exact op_notIn_seq)) br_in hm ha hb
/-- a value's truth -/
def dTru : D → (Bool → Prop) → Prop
  | .non, Q => Q false
  | .bl b, Q => Q b
  | .int i, Q => Q (i != 0)
  | .str y, Q => y.length ≤ sizeLine ∧ Q ((y.length : Int) != 0)
  | .lst xs, Q => Q (!xs.isEmpty)
  | .tup xs, Q => Q (!xs.isEmpty)
  | _, _ => False
theorem reps_empty {K : PySem.W.Frag} {B : Addr} {M : Addr → Prop} {H : Hp} {vs : List V} {ds : List D} (r : Reps K B M H vs ds) : (!vs.isEmpty) = !ds.isEmpty := by cases r <;> rfl
def xTru (T : TED) : TTD := fun γ Q => T γ fun d => dTru d Q
theorem xt_tru (hK : c.K = X.K) (ha : PE X a (LE c w T)) (he : ∀ whole, isTrue a X.env whole = (do let v ← whole; standAt a.pos; holding [v] (truthy v)) := by intro _; rfl) : PT X a (LT c (xTru T)) :=
  pt_imp (pt_truth ha he) fun _ _ σ H Q I q => by
    obtain ⟨gh, γ, Qd, S, q1, k⟩ := q
    refine ⟨gh, γ, _, S, q1, fun d v H' h1 h2 h3 h4 => ?_⟩
    rw [← hK]
    cases h2 with
    | non => exact ⟨false, rfl, k _ H' h1 h3 h4⟩
    | bl b => exact ⟨b, rfl, k _ H' h1 h3 h4⟩
    | int i => exact ⟨_, rfl, k _ H' h1 h3 h4⟩
    | str y => exact ⟨_, ⟨h1.1, rfl⟩, k _ H' h1.2 h3 h4⟩
    | lst n e r => exact ⟨_, .inl ⟨_, SqL.of e, rfl⟩, k _ H' (by rw [reps_empty r]; exact h1) h3 h4⟩
    | tup n e r => exact ⟨_, .inr (.inl ⟨_, SqT.of e, rfl⟩), k _ H' (by rw [reps_empty r]; exact h1) h3 h4⟩
    | tupK e r => exact ⟨_, .inr (.inl ⟨_, .inr e, rfl⟩), k _ H' (by rw [reps_empty r]; exact h1) h3 h4⟩
    | _ => exact h1.elim
/-- an expression that is True or False, as a test -/
theorem xt_val (ha : PE X a (LE c w T)) (he : ∀ whole, isTrue a X.env whole = (do let v ← whole; standAt a.pos; holding [v] (truthy v)) := by intro _; rfl) : PT X a (LT c (xB T)) :=
  pt_imp (pt_val ha he) fun _ _ σ H Q I q => by
    obtain ⟨gh, γ, Qd, S, q1, k⟩ := q
    refine ⟨gh, γ, _, S, q1, fun d v H' h1 h2 h3 h4 => ?_⟩
    obtain ⟨b, rfl, h1⟩ := h1
    cases h2
    exact ⟨b, rfl, k b H' h1 h3 h4⟩
variable {Ta Tb : TTD} {rest : List Expr}
def xAnd (T U : TTD) : TTD := fun γ Q => T γ fun k => if k = true then U γ Q else Q false
def xOr (T U : TTD) : TTD := fun γ Q => T γ fun k => if k = true then Q true else U γ Q
def xNot (T : TTD) : TTD := fun γ Q => T γ fun k => Q (!k)
theorem xw_and1 (ha : PT X a (LT c Ta)) : PW X (.BoolOp .And [a] pos) (LT c Ta) := pw_and1 ha
theorem xw_or1 (ha : PT X a (LT c Ta)) : PW X (.BoolOp .Or [a] pos) (LT c Ta) := pw_or1 ha
theorem xw_and (ha : PT X a (LT c Ta)) (hb : PW X (.BoolOp .And (b :: rest) pos) (LT c Tb)) : PW X (.BoolOp .And (a :: b :: rest) pos) (LT c (xAnd Ta Tb)) := pw_imp (pw_and ha hb) fun _ _ σ H Q I q => by
  obtain ⟨gh, γ, Qd, S, q1, k⟩ := q
  refine ⟨gh, γ, _, S, q1, fun b H1 h1 S1 x1 => ?_⟩
  cases b with
  | true => exact iteT ⟨gh, γ, Qd, S1, by simpa using h1, fun b H2 h2 S2 x2 => k b H2 h2 S2 (x1.trans x2)⟩
  | false => exact iteF (k false H1 (by simpa using h1) S1 x1)
theorem xw_or (ha : PT X a (LT c Ta)) (hb : PW X (.BoolOp .Or (b :: rest) pos) (LT c Tb)) : PW X (.BoolOp .Or (a :: b :: rest) pos) (LT c (xOr Ta Tb)) := pw_imp (pw_or ha hb) fun _ _ σ H Q I q => by
  obtain ⟨gh, γ, Qd, S, q1, k⟩ := q
  refine ⟨gh, γ, _, S, q1, fun b H1 h1 S1 x1 => ?_⟩
  cases b with
  | false => exact iteF ⟨gh, γ, Qd, S1, by simpa using h1, fun b H2 h2 S2 x2 => k b H2 h2 S2 (x1.trans x2)⟩
  | true => exact iteT (k true H1 (by simpa using h1) S1 x1)
theorem xt_w (h : PW X e (LT c Ta)) : PT X e (LT c Ta) := h.pt
theorem xt_not (ha : PT X a (LT c Ta)) : PT X (.UnaryOp .Not a pos) (LT c (xNot Ta)) := pt_imp (pt_not ha) fun _ _ σ H Q I q => by
  obtain ⟨gh, γ, Qd, S, q1, k⟩ := q
  exact ⟨gh, γ, _, S, q1, fun b H1 h1 S1 x1 => k _ H1 h1 S1 x1⟩
/-- and, or, not as values -/
def xAndV (T U : TED) : TED := fun γ Q => T γ fun d => ∃ k, d = .bl k ∧ if k = true then U γ Q else Q (.bl false)
def xOrV (T U : TED) : TED := fun γ Q => T γ fun d => ∃ k, d = .bl k ∧ if k = true then Q (.bl true) else U γ Q
def xNotV (T : TED) : TED := fun γ Q => T γ fun d => ∃ k, d = .bl k ∧ Q (.bl (!k))
theorem xd_one {op} (h : PE X a (LE c w T)) : PE X (.BoolOp op [a] pos) (LE c w T) := pe_one h
theorem xd_and (ha : PE X a (LE c w T)) (hb : PE X (.BoolOp .And (b :: rest) pos) (LE c w U)) : PE X (.BoolOp .And (a :: b :: rest) pos) (LE c w (xAndV T U)) := pe_imp (pe_and ha hb) fun _ _ σ H Q I q => by
  obtain ⟨gh, γ, Qd, S, q1, k⟩ := q
  refine ⟨gh, γ, _, S, q1, fun d v H1 h1 r1 S1 x1 => ?_⟩
  obtain ⟨b, rfl, h1⟩ := h1
  cases r1
  refine ⟨b, rfl, ?_⟩
  cases b with
  | true => exact iteT ⟨gh, γ, Qd, S1, by simpa using h1, fun d v H2 h2 r2 S2 x2 => k d v H2 h2 r2 S2 (x1.trans x2)⟩
  | false => exact iteF (k _ _ H1 (by simpa using h1) (.bl false) S1 x1)
theorem xd_or (ha : PE X a (LE c w T)) (hb : PE X (.BoolOp .Or (b :: rest) pos) (LE c w U)) : PE X (.BoolOp .Or (a :: b :: rest) pos) (LE c w (xOrV T U)) := pe_imp (pe_or ha hb) fun _ _ σ H Q I q => by
  obtain ⟨gh, γ, Qd, S, q1, k⟩ := q
  refine ⟨gh, γ, _, S, q1, fun d v H1 h1 r1 S1 x1 => ?_⟩
  obtain ⟨b, rfl, h1⟩ := h1
  cases r1
  refine ⟨b, rfl, ?_⟩
  cases b with
  | false => exact iteF ⟨gh, γ, Qd, S1, by simpa using h1, fun d v H2 h2 r2 S2 x2 => k d v H2 h2 r2 S2 (x1.trans x2)⟩
  | true => exact iteT (k _ _ H1 (by simpa using h1) (.bl true) S1 x1)
theorem xd_not (ha : PE X a (LE c w T)) : PE X (.UnaryOp .Not a pos) (LE c w (xNotV T)) := pe_imp (pe_not ha) fun _ _ σ H Q I q => by
  obtain ⟨gh, γ, Qd, S, q1, k⟩ := q
  refine ⟨gh, γ, _, S, q1, fun d v H1 h1 r1 S1 x1 => ?_⟩
  obtain ⟨b, rfl, h1⟩ := h1
  cases r1
  exact ⟨b, rfl, k _ _ H1 h1 (.bl _) S1 x1⟩
/-- a if t else b -/
def xIf (Tt : TTD) (T U : TED) : TED := fun γ Q => Tt γ fun k => if k = true then T γ Q else U γ Q
theorem xd_if {t : Expr} (ht : PT X t (LT c Ta)) (ha : PE X a (LE c w T)) (hb : PE X b (LE c w U)) : PE X (.IfExp t a b pos) (LE c w (xIf Ta T U)) := pe_imp (pe_ifExp ht ha hb) fun _ _ σ H Q I q => by
  obtain ⟨gh, γ, Qd, S, q1, k⟩ := q
  refine ⟨gh, γ, _, S, q1, fun b H1 h1 S1 x1 => ?_⟩
  cases b with
  | true => exact iteT ⟨gh, γ, Qd, S1, by simpa using h1, fun d v H2 h2 r2 S2 x2 => k d v H2 h2 r2 S2 (x1.trans x2)⟩
  | false => exact iteF ⟨gh, γ, Qd, S1, by simpa using h1, fun d v H2 h2 r2 S2 x2 => k d v H2 h2 r2 S2 (x1.trans x2)⟩
/-- a < b < c -/
def xChain (r r' : OpD) (T U W : TED) : TED := fun γ Q => T γ fun x => U γ fun y => r x y fun z => ∃ k, z = .bl k ∧ if k = true then W γ fun z' => r' y z' Q else Q (.bl false)
theorem chain_lift {W : TED} {e3 : Expr} {r r' : R2} {rd rd' : OpD} (br : BrO c w r rd) (br' : BrO c w r' rd') {σ : L2.St} {H : Hp} {Q : VK} (q : LE c w (xChain rd rd' T U W) σ H Q) : tChain r r' (LE c w T) (LE c w U) (LE c w W) σ H Q := by
  obtain ⟨gh, γ, Qd, S, q1, k⟩ := q
  refine ⟨gh, γ, _, S, q1, fun x v H1 q2 r1 S1 x1 => ?_⟩
  refine ⟨gh, γ, _, S1, q2, fun y u H2 q3 r2 S2 x2 => ?_⟩
  refine br gh γ σ H2 x y v u _ _ S2 (r1.ext (S1.mB w) x2) r2 q3 fun d v' H3 h1 h2 S3 x3 => ?_
  obtain ⟨b, rfl, h1⟩ := h1
  cases h2
  refine ⟨b, rfl, ?_⟩
  cases b with
  | true =>
    refine iteT ⟨gh, γ, _, S3, (by simpa using h1), fun z v3 H4 q4 r4 S4 x4 => ?_⟩
    exact br' gh γ σ H4 y z u v3 Qd Q S4 (r2.ext (S2.mB w) (x3.trans x4)) r4 q4 fun d v' H' h1 h2 h3 h5 => k d v' H' h1 h2 h3 ((((x1.trans x2).trans x3).trans x4).trans h5)
  | false => exact iteF (k _ _ H3 (by simpa using h1) (.bl false) S3 ((x1.trans x2).trans x3))
theorem xt_chain {op op' : CmpOp} {e3 : Expr} {W : TED} {r r' : R2} {rd rd' : OpD} (ho : OpR X (compareOp op) r) (br : BrO c w r rd) (ho' : OpR X (compareOp op') r') (br' : BrO c w r' rd') (ha : PE X a (LE c w T)) (hb : PE X b (LE c w U)) (hc : PE X e3 (LE c w W))
    (hm : lastMarks [op, op'] [b, e3] = false := by with_unfolding_all rfl) : PT X (.Compare a [op, op'] [b, e3] pos) (LT c (xB (xChain rd rd' T U W))) := pt_imp (pt_chain ho ho' ha hb hc hm) fun _ _ σ H Q I q => by
  obtain ⟨gh, γ, Qd, S, q1, k⟩ := q
  refine chain_lift (e3 := e3) br br' ⟨gh, γ, _, S, q1, fun d v H' h1 h2 h3 h4 => ?_⟩
  obtain ⟨b, rfl, h1⟩ := h1
  cases h2
  exact ⟨b, rfl, k b H' h1 h3 h4⟩
end
end TL
set_option Elab.async false
set_option linter.all false
set_option maxRecDepth 100000
set_option maxHeartbeats 2000000
namespace TL
open PySem L2 PySem.Spec PyProof.Rows

section
variable {c : Ct} {gh : List (V × D)} {γ : Env} {σ : L2.St} {H H' : Hp} {w : Bool} {i : Nat} {v : V} {d : D}
theorem set_at {α : Type} {l : List α} {i j : Nat} {x y : α} (h : (l.set i x)[j]? = some y) : (i = j ∧ i < l.length ∧ y = x) ∨ (i ≠ j ∧ l[j]? = some y) := by
  by_cases hj : i = j
  · subst hj
    have hl : i < l.length := by
      have := (List.getElem?_eq_some_iff.mp h).1
      simpa using this
    rw [List.getElem?_set_self hl] at h
    exact .inl ⟨rfl, hl, (Option.some.inj h).symm⟩
  · rw [List.getElem?_set_ne hj] at h
    exact .inr ⟨hj, h⟩
theorem own_set_val {a : Addr} (h : OwnAt (γ.set i (some (.val d))) (σ.set i (some v)) a) : OwnAt γ σ a := by
  obtain ⟨j, s, h1, h2, h3⟩ := h
  rcases set_at h1 with ⟨_, _, e⟩ | ⟨hj, h1⟩
  · cases e
    cases h2
  · rw [List.getElem?_set_ne hj] at h3
    exact ⟨j, s, h1, h2, h3⟩
theorem SI.setV (S : SI c gh γ σ H) (r : Rep c.K c.B (MW c γ σ true) H v d) : SI c gh (γ.set i (some (.val d))) (σ.set i (some v)) H := by
  have less : ∀ a, MW c (γ.set i (some (.val d))) (σ.set i (some v)) true a → MW c γ σ true a := fun a m => m.imp id fun m => ⟨m.1, own_set_val m.2⟩
  have ow : ∀ {j : Nat} {s : Slot}, (γ.set i (some (.val d)))[j]? = some (some s) → s.isOwn = true → i ≠ j ∧ γ[j]? = some (some s) := fun {j s} h1 h2 => by
    rcases set_at h1 with ⟨_, _, e⟩ | ⟨hj, h1⟩
    · cases e
      cases h2
    · exact ⟨hj, h1⟩
  refine ⟨by simpa using S.len, S.ext, S.bag, S.pB, S.pL, S.pal, fun j e h => ?_, fun j xs h => ?_, fun j C gs h => ?_, fun p hp => (S.gho p hp).less less, fun p hp => S.fresh p (own_set_val hp), fun j k s t p h1 h2 h3 h4 h5 h6 => ?_⟩
  · by_cases hj : i = j
    · subst hj
      have hl : i < γ.length := by
        have := (List.getElem?_eq_some_iff.mp h).1
        simpa using this
      rw [List.getElem?_set_self hl] at h
      cases h
      exact ⟨v, List.getElem?_set_self (by rw [S.len]; exact hl), r.less less⟩
    · rw [List.getElem?_set_ne hj] at h ⊢
      obtain ⟨u, h1, h2⟩ := S.val j e h
      exact ⟨u, h1, h2.less less⟩
  · obtain ⟨hj, h⟩ := ow h rfl
    rw [List.getElem?_set_ne hj]
    obtain ⟨p, vs, h1, h2, h3⟩ := S.own j xs h
    exact ⟨p, vs, h1, h2, h3.less less⟩
  · obtain ⟨hj, h⟩ := ow h rfl
    rw [List.getElem?_set_ne hj]
    obtain ⟨p, dx, fs, h1, h2, h3⟩ := S.ins j C gs h
    exact ⟨p, dx, fs, h1, h2, h3.less less⟩
  · obtain ⟨n1, h1⟩ := ow h1 h2
    obtain ⟨n2, h4⟩ := ow h4 h5
    rw [List.getElem?_set_ne n1] at h3
    rw [List.getElem?_set_ne n2] at h6
    exact S.sep j k s t p h1 h2 h3 h4 h5 h6
/-- a slot takes a new own object -/
theorem SI.setO {p : Addr} {s : Slot} (S0 : SI c gh γ σ H) (hp : H p = none) (S : SI c gh γ σ H') (x : Ext c.B H H') (hs : s.isOwn = true)
    (ho : ∀ xs, s = .own xs → ∃ vs, H' p = some (.lst vs) ∧ Reps c.K c.B (fun a => MW c γ σ true a ∨ a = p) H' vs xs)
    (hi : ∀ C gs, s = .ins C gs → ∃ dx fs, (p = C.1 ∧ H' p = some (.ins C.2 dx fs)) ∧ RepF c.K c.B (fun a => MW c γ σ true a ∨ a = p) H' fs gs) : SI c gh (γ.set i (some s)) (σ.set i (some (.ref p))) H' := by
  have own : ∀ {a : Addr}, OwnAt (γ.set i (some s)) (σ.set i (some (.ref p))) a → OwnAt γ σ a ∨ a = p := fun {a} ⟨j, t, h1, h2, h3⟩ => by
    rcases set_at h3 with ⟨_, _, e⟩ | ⟨hj, h3⟩
    · cases e
      exact .inr rfl
    · rw [List.getElem?_set_ne hj] at h1
      exact .inl ⟨j, t, h1, h2, h3⟩
  have less : ∀ a, MW c (γ.set i (some s)) (σ.set i (some (.ref p))) true a → MW c γ σ true a ∨ a = p := fun a m => by
    rcases m with m | ⟨_, m⟩
    · exact .inl (.inl m)
    · exact (own m).imp (fun z => .inr ⟨rfl, z⟩) id
  have fr : ∀ a, MW c (γ.set i (some s)) (σ.set i (some (.ref p))) true a → MW c γ σ true a ∨ H a = none := fun a m => (less a m).imp id fun z => by rw [z]; exact hp
  have mB : MW c (γ.set i (some s)) (σ.set i (some (.ref p))) true c.B := .inl S.pB
  have hl : ∀ {j : Nat} {t : Slot}, i = j → (γ.set i (some s))[j]? = some (some t) → t = s ∧ i < γ.length := fun {j t} e h => by
    rcases set_at h with ⟨_, hl, z⟩ | ⟨hj, _⟩
    · cases z
      exact ⟨rfl, hl⟩
    · exact absurd e hj
  have npo : ¬ OwnAt γ σ p := fun z => S0.alive (w := true) (.inr ⟨rfl, z⟩) hp
  refine ⟨by simpa using S.len, S.ext, S.bag, S.pB, S.pL, S.pal, fun j e h => ?_, fun j xs h => ?_, fun j C gs h => ?_, fun q hq => ((S0.gho q hq).grow fr).ext mB x, fun q hq => ?_, fun j k t u q h1 h2 h3 h4 h5 h6 => ?_⟩
  · by_cases hj : i = j
    · obtain ⟨z, _⟩ := hl hj h
      subst z
      cases hs
    · rw [List.getElem?_set_ne hj] at h ⊢
      obtain ⟨u, h1, h2⟩ := S0.val j e h
      exact ⟨u, h1, (h2.grow fr).ext mB x⟩
  · by_cases hj : i = j
    · obtain ⟨z, hlt⟩ := hl hj h
      subst hj
      obtain ⟨vs, h1, h2⟩ := ho xs z.symm
      exact ⟨p, vs, List.getElem?_set_self (by rw [S.len]; exact hlt), h1, h2.less less⟩
    · rw [List.getElem?_set_ne hj] at h ⊢
      obtain ⟨q, vs, h1, h2, h3⟩ := S0.own j xs h
      exact ⟨q, vs, h1, x _ _ (S0.ownNe ⟨j, _, h, rfl, h1⟩) h2, (h3.grow fr).ext mB x⟩
  · by_cases hj : i = j
    · obtain ⟨z, hlt⟩ := hl hj h
      subst hj
      obtain ⟨dx, fs, h1, h2⟩ := hi C gs z.symm
      exact ⟨p, dx, fs, List.getElem?_set_self (by rw [S.len]; exact hlt), h1, h2.less less⟩
    · rw [List.getElem?_set_ne hj] at h ⊢
      obtain ⟨q, dx, fs, h1, h2, h3⟩ := S0.ins j C gs h
      exact ⟨q, dx, fs, h1, ⟨h2.1, x _ _ (S0.ownNe ⟨j, _, h, rfl, h1⟩) h2.2⟩, (h3.grow fr).ext mB x⟩
  · rcases own hq with z | z
    · exact S0.fresh q z
    · subst z
      exact ⟨S0.ext.free (S0.newNe hp) hp, fun z => S0.pal _ z hp⟩
  · by_cases hj : i = j
    · by_cases hk : i = k
      · exact hj.symm.trans hk
      · subst hj
        obtain ⟨_, hlt⟩ := hl rfl h1
        rw [List.getElem?_set_self (by rw [S.len]; exact hlt)] at h3
        cases h3
        rw [List.getElem?_set_ne hk] at h4 h6
        exact absurd ⟨k, u, h4, h5, h6⟩ npo
    · by_cases hk : i = k
      · subst hk
        obtain ⟨_, hlt⟩ := hl rfl h4
        rw [List.getElem?_set_self (by rw [S.len]; exact hlt)] at h6
        cases h6
        rw [List.getElem?_set_ne hj] at h1 h3
        exact absurd ⟨j, t, h1, h2, h3⟩ npo
      · rw [List.getElem?_set_ne hj] at h1 h3
        rw [List.getElem?_set_ne hk] at h4 h6
        exact S0.sep j k t u q h1 h2 h3 h4 h5 h6
/-- an own object is changed -/
theorem SI.putO {p : Addr} {s s' : Slot} {o : HO} (S : SI c gh γ σ H) (h1 : γ[i]? = some (some s)) (h2 : s.isOwn = true) (h3 : σ[i]? = some (some (.ref p))) (hs : s'.isOwn = true)
    (ho : ∀ xs, s' = .own xs → ∃ vs, o = .lst vs ∧ Reps c.K c.B (MW c γ σ true) H vs xs)
    (hi : ∀ C gs, s' = .ins C gs → ∃ dx fs, (p = C.1 ∧ o = .ins C.2 dx fs) ∧ RepF c.K c.B (MW c γ σ true) H fs gs) : SI c gh (γ.set i (some s')) σ (L2.upd H p o) := by
  have hlt : i < γ.length := (List.getElem?_eq_some_iff.mp h1).1
  have ownp : OwnAt γ σ p := ⟨i, s, h1, h2, h3⟩
  have hpB := S.ownNe ownp
  have hpL := S.ownNeL ownp
  obtain ⟨hp0, hpP⟩ := S.fresh p ownp
  have back : ∀ {j : Nat} {t : Slot}, (γ.set i (some s'))[j]? = some (some t) → t.isOwn = true → ∃ t0 : Slot, γ[j]? = some (some t0) ∧ t0.isOwn = true := fun {j t} h k => by
    by_cases hj : i = j
    · subst hj
      exact ⟨s, h1, h2⟩
    · rw [List.getElem?_set_ne hj] at h
      exact ⟨t, h, k⟩
  have own : ∀ {a : Addr}, OwnAt (γ.set i (some s')) σ a → OwnAt γ σ a := fun {a} ⟨j, t, e1, e2, e3⟩ => by
    obtain ⟨t0, e4, e5⟩ := back e1 e2
    exact ⟨j, t0, e4, e5, e3⟩
  have less : ∀ a, MW c (γ.set i (some s')) σ true a → MW c γ σ true a := fun a m => m.imp id fun m => ⟨m.1, own m.2⟩
  have q : ∀ a u, ¬ MW c γ σ true a → H a = some u → ¬ MW c γ σ true a ∧ L2.upd H p o a = some u := put_q (.inr ⟨rfl, ownp⟩)
  refine ⟨by simpa using S.len, S.ext.mut hp0, S.bag.put hpB hpL, S.pB, S.pL, fun a ha z => ?_, fun j e h => ?_, fun j xs h => ?_, fun j C gs h => ?_, fun r hr => ((S.gho r hr).mono q).less less, fun r hr => S.fresh r (own hr), fun j k t u r e1 e2 e3 e4 e5 e6 => ?_⟩
  · by_cases hap : a = p
    · exact hpP (hap ▸ ha)
    · rw [upd_ne hap] at z
      exact S.pal a ha z
  · by_cases hj : i = j
    · subst hj
      rw [List.getElem?_set_self hlt] at h
      cases h
      cases hs
    · rw [List.getElem?_set_ne hj] at h
      obtain ⟨v, e1, e2⟩ := S.val j e h
      exact ⟨v, e1, (e2.mono q).less less⟩
  · by_cases hj : i = j
    · subst hj
      rw [List.getElem?_set_self hlt] at h
      cases h
      obtain ⟨vs, e, r⟩ := ho xs rfl
      exact ⟨p, vs, h3, by rw [upd_same, e], (r.mono q).less less⟩
    · rw [List.getElem?_set_ne hj] at h
      obtain ⟨r, vs, e1, e2, e3⟩ := S.own j xs h
      refine ⟨r, vs, e1, ?_, (e3.mono q).less less⟩
      rw [upd_ne fun z => hj (S.sep i j s _ p h1 h2 h3 h rfl (by rw [← z]; exact e1))]
      exact e2
  · by_cases hj : i = j
    · subst hj
      rw [List.getElem?_set_self hlt] at h
      cases h
      obtain ⟨dx, fs, e, r⟩ := hi C gs rfl
      exact ⟨p, dx, fs, h3, ⟨e.1, by rw [upd_same, e.2]⟩, (r.mono q).less less⟩
    · rw [List.getElem?_set_ne hj] at h
      obtain ⟨r, dx, fs, e1, e2, e3⟩ := S.ins j C gs h
      refine ⟨r, dx, fs, e1, ⟨e2.1, ?_⟩, (e3.mono q).less less⟩
      rw [upd_ne fun z => hj (S.sep i j s _ p h1 h2 h3 h rfl (by rw [← z]; exact e1))]
      exact e2.2
  · obtain ⟨t0, e7, e8⟩ := back e1 e2
    obtain ⟨u0, e9, e10⟩ := back e4 e5
    exact S.sep j k t0 u0 r e7 e8 e3 e9 e10 e6
end

structure EndsD where
  nx : Env → Prop
  rt : D → Prop
  bk : Env → Prop := fun _ => False
  ct : Env → Prop := fun _ => False
abbrev TSD := EndsD → Env → Prop
def LS (c : Ct) (T : TSD) : TS := fun E σ H => ∃ (gh : List (V × D)) (γ : Env) (ED : EndsD), SI c gh γ σ H ∧ T ED γ ∧
  (∀ γ' σ' H', ED.nx γ' → SI c gh γ' σ' H' → E.nx σ' H') ∧ (∀ d v H', ED.rt d → Rep c.K c.B c.P H' v d → Ext c.B c.H0 H' → BagOk c.B c.L H' → E.rt v H') ∧
  (∀ γ' σ' H', ED.bk γ' → SI c gh γ' σ' H' → E.bk σ' H') ∧ (∀ γ' σ' H', ED.ct γ' → SI c gh γ' σ' H' → E.ct σ' H')
section
variable {X : Cx} {c : Ct} {w : Bool} {a b e : Expr} {T U : TED} {pos : Pos} {st : Stmt} {rest body orelse : List Stmt} {Ts Us : TSD} {Tt : TTD}
def zNext : TSD := fun E γ => E.nx γ
def zSeq (T U : TSD) : TSD := fun E γ => T { E with nx := U E } γ
theorem zs_nil : PSs X [] (LS c zNext) := pss_imp pss_nil fun _ _ σ H E I q => by
  obtain ⟨gh, γ, ED, S, q1, k, _⟩ := q
  exact k γ σ H q1 S
theorem zs_cons (h : PS X st (LS c Ts)) (hr : PSs X rest (LS c Us)) : PSs X (st :: rest) (LS c (zSeq Ts Us)) := pss_imp (pss_cons h hr) fun _ _ σ H E I q => by
  obtain ⟨gh, γ, ED, S, q1, k1, k2, k3, k4⟩ := q
  exact ⟨gh, γ, _, S, q1, fun γ' σ' H' h1 S1 => ⟨gh, γ', ED, S1, h1, k1, k2, k3, k4⟩, k2, k3, k4⟩
theorem zs_one (h : PS X st (LS c Ts)) : PSs X [st] (LS c Ts) := pss_one h
theorem z_pass : PS X (.Pass pos) (LS c zNext) := ps_imp ps_pass fun _ _ σ H E I q => by
  obtain ⟨gh, γ, ED, S, q1, k, _⟩ := q
  exact k γ σ H q1 S
def zBreak : TSD := fun E γ => E.bk γ
def zCont : TSD := fun E γ => E.ct γ
theorem z_break : PS X (.Break pos) (LS c zBreak) := ps_imp ps_break fun _ _ σ H E I q => by
  obtain ⟨gh, γ, ED, S, q1, _, _, k, _⟩ := q
  exact k γ σ H q1 S
theorem z_cont : PS X (.Continue pos) (LS c zCont) := ps_imp ps_continue fun _ _ σ H E I q => by
  obtain ⟨gh, γ, ED, S, q1, _, _, _, k⟩ := q
  exact k γ σ H q1 S
/-- return e: one's own objects may go with it -/
def zRet (T : TED) : TSD := fun E γ => T γ E.rt
theorem z_ret (h : PE X e (LE c false T)) : PS X (.Return (some e) pos) (LS c (zRet T)) := ps_imp (ps_ret h) fun _ _ σ H E I q => by
  obtain ⟨gh, γ, ED, S, q1, _, k, _⟩ := q
  exact ⟨gh, γ, _, S, q1, fun d v H' h1 r S' x => k d v H' h1 (r.less fun a m => .inl m) S'.ext S'.bag⟩
def zIf (Tt : TTD) (T U : TSD) : TSD := fun E γ => Tt γ fun k => if k = true then T E γ else U E γ
theorem z_if {t : Expr} (ht : PT X t (LT c Tt)) (ha : PSs X body (LS c Ts)) (hb : PSs X orelse (LS c Us)) : PS X (.If t body orelse pos) (LS c (zIf Tt Ts Us)) := ps_imp (ps_if ht ha hb) fun _ _ σ H E I q => by
  obtain ⟨gh, γ, ED, S, q1, k⟩ := q
  refine ⟨gh, γ, _, S, q1, fun b H1 h1 S1 x1 => ?_⟩
  cases b with
  | true => exact iteT ⟨gh, γ, ED, S1, by simpa using h1, k⟩
  | false => exact iteF ⟨gh, γ, ED, S1, by simpa using h1, k⟩
/-- x = e, a tree -/
def zSet (i : Nat) (T : TED) : TSD := fun E γ => T γ fun d => E.nx (γ.set i (some (.val d)))
theorem z_set_of {ta : TS} {i : Nat} (h : PS X st (tAsg (LE c true T) (gName i))) : PS X st (LS c (zSet i T)) := ps_imp h fun _ _ σ H E I q => by
  obtain ⟨gh, γ, ED, S, q1, k, _⟩ := q
  exact ⟨gh, γ, _, S, q1, fun d v H' h1 r S' x => k _ _ H' h1 (S'.setV r)⟩
theorem z_set {i : Nat} {x : Str} {pos' : Pos} (hN : X.N.Nodup) (hi : X.N[i]? = some x) (hx : Loc X.env.scope x) (he : PE X e (LE c true T)) (hs : swapsWith e (some (.Name x pos')) pos.line X.env = pure false := by rfl)
    (hf : X.fn x = true ∨ X.env.scope.names.lookup x = some .local := by first | exact .inl rfl | exact .inr rfl | assumption) : PS X (.Assign [.Name x pos'] e pos) (LS c (zSet i T)) :=
  z_set_of (ta := tAsg (LE c true T) (gName i)) (ps_set hN hi hx he hs hf)
/-- x = a new list, one's own -/
def zSetO (i : Nat) (T : TAD) : TSD := fun E γ => T γ fun ds => E.nx (γ.set i (some (.own ds)))
theorem z_setO_of {ta : TS} {U : TAD} {i : Nat} (h : PS X st (tAsg (LF c true U) (gName i))) : PS X st (LS c (zSetO i U)) := ps_imp h fun _ _ σ H E I q => by
  obtain ⟨gh, γ, ED, S, q1, k, _⟩ := q
  exact ⟨gh, γ, _, S, q1, fun ds p vs H' h1 hp e r S' x => k _ _ H' h1 (S.setO hp S' x rfl (fun xs z => by cases z; exact ⟨vs, e, r⟩) fun C gs z => by cases z)⟩
theorem z_setO {U : TAD} {i : Nat} {x : Str} {pos' : Pos} (hN : X.N.Nodup) (hi : X.N[i]? = some x) (hx : Loc X.env.scope x) (he : PE X e (LF c true U)) (hs : swapsWith e (some (.Name x pos')) pos.line X.env = pure false := by rfl)
    (hf : X.fn x = true ∨ X.env.scope.names.lookup x = some .local := by first | exact .inl rfl | exact .inr rfl | assumption) : PS X (.Assign [.Name x pos'] e pos) (LS c (zSetO i U)) :=
  z_setO_of (ta := tAsg (LF c true U) (gName i)) (ps_set hN hi hx he hs hf)
/-- e, for what it does -/
def zDrop (T : TED) : TSD := fun E γ => T γ fun _ => E.nx γ
theorem z_drop (he : PE X e (LE c w T)) (hs : swapsWith e none pos.line X.env = pure false := by rfl) : PS X (.Expr e pos) (LS c (zDrop T)) := ps_imp (ps_expr he hs) fun _ _ σ H E I q => by
  obtain ⟨gh, γ, ED, S, q1, k, _⟩ := q
  exact ⟨gh, γ, _, S, q1, fun d v H' h1 r S' x => k _ _ H' h1 S'⟩
/-- xs.append(e), xs one's own -/
def zApp (i : Nat) (T : TED) : TSD := fun E γ => ∃ xs, γ[i]? = some (some (.own xs)) ∧ T γ fun d => xs.length < sizeLine ∧ E.nx (γ.set i (some (.own (xs ++ [d]))))
theorem z_app {o : Expr} {i : Nat} {apos cpos : Pos} (ho : PE X o (tVar i)) (he : PE X e (LE c true T)) (hK : c.K = X.K) (hbase : attributeBase o "append" X.env (eval o X.env) = eval o X.env := by rfl)
    (hfew : ((backTo cpos (starEach (e :: []) X.env)).all (fun x => !x.1) && (backToKw cpos (keywordEach [] X.env)).all (fun x => x.1.isSome)
      && decide ((e :: []).length + ([] : List Keyword).length + (if ([] : List Keyword).isEmpty then 0 else 1) < 30)) = true := by rfl)
    (hline : (apos.endLine == cpos.line) = true := by rfl) (hs : starEach (e :: []) X.env = (false, eval e X.env) :: starEach [] X.env := by rfl) (hplain : (backTo cpos (starEach [] X.env)).any (·.1) = false := by rfl)
    (hsw : swapsWith (.Call (.Attribute o "append" apos) [e] [] cpos) none pos.line X.env = pure false := by rfl) :
    PS X (.Expr (.Call (.Attribute o "append" apos) [e] [] cpos) pos) (LS c (zApp i T)) :=
  ps_imp (ps_expr (pe_bm PySem.F.plainAttrs_list PySem.F.slot_list_append PySem.F.type_list_append mt_append ho (pa_cons he pa_nil hs) hbase hfew hline hs hplain) hsw) fun _ _ σ H E I q => by
    obtain ⟨gh, γ, ED, S, ⟨xs, g1, q1⟩, k, _⟩ := q
    obtain ⟨p, vs, h1, h2, r⟩ := S.own i xs g1
    refine ⟨_, h1, .inl ⟨rfl, vs, SqL.of h2⟩, ?_⟩
    refine ⟨gh, γ, _, S, q1, fun d v H' h3 rd S' x => ?_⟩
    obtain ⟨p', vs', e1, e2, r'⟩ := S'.own i xs g1
    rw [h1] at e1
    cases e1
    refine ⟨p, vs', v, rfl, rfl, e2, by rw [r'.length]; exact h3.1, ?_⟩
    exact k _ _ _ h3.2 (S'.putO g1 rfl h1 rfl (fun ys z => by cases z; exact ⟨_, rfl, r'.append (.cons rd .nil)⟩) fun C gs z => by cases z)
end

/-- an exception: its class, its fields -/
structure XD where
  C : Addr
  fs : List (Str × D)
def RepX (K : PySem.W.Frag) (B : Addr) (M : Addr → Prop) (H : Hp) (x : XD) (cls : Value) (d : Option Addr) : Prop :=
  cls = .ref x.C ∧ ∃ (a : Addr) (vs : List (Str × V)), d = some a ∧ ¬ M a ∧ H a = some (.xd vs) ∧ RepF K B M H vs x.fs
abbrev SpD := List D → (D → Prop) → (XD → Prop) → Prop
def spD (K : PySem.W.Frag) (S : SpD) : Sp := fun vs H Q E => ∃ (B L : Addr) (P : Addr → Prop) (ds : List D) (Qd : D → Prop) (Ed : XD → Prop),
  P B ∧ P L ∧ (∀ a, P a → H a ≠ none) ∧ BagOk B L H ∧ Reps K B P H vs ds ∧ S ds Qd Ed ∧
    (∀ d v H', Qd d → Rep K B P H' v d → Ext B H H' → BagOk B L H' → Q v H') ∧ (∀ x cls dd H', Ed x → RepX K B P H' x cls dd → Ext B H H' → BagOk B L H' → E cls dd H')
/-- the context of a body at its entry -/
def ctOf (K : PySem.W.Frag) (B L : Addr) (H : Hp) (P : Addr → Prop) : Ct := ⟨K, B, L, H, P⟩
/-- what is wanted of exceptions (Wx), as the layer's wish -/
def WRel (c : Ct) (Wx : XD → Env → Prop) (W : WX) : Prop := ∀ (x : XD) (gh : List (V × D)) (γ : Env) (σ : L2.St) (H : Hp) (cls : Value) (d : Option Addr), Wx x γ → SI c gh γ σ H → RepX c.K c.B (MW c γ σ true) H x cls d → W cls d σ H
def envOf (N : List Str) (ds : List D) : Env := ds.map (fun d => some (Slot.val d)) ++ List.replicate (N.length - ds.length) none
theorem SI.entry {K : PySem.W.Frag} {B L : Addr} {P : Addr → Prop} {H : Hp} {N : List Str} {vs : List V} {ds : List D} (pB : P B) (pL : P L) (pal : ∀ a, P a → H a ≠ none) (bg : BagOk B L H) (r : Reps K B P H vs ds) :
    SI (ctOf K B L H P) [] (envOf N ds) (L2.start N vs) H := by
  have no : ∀ {i : Nat} {s : Slot}, (envOf N ds)[i]? = some (some s) → ∃ d, s = .val d ∧ ds[i]? = some d := fun {i s} h => by
    unfold envOf at h
    by_cases hi : i < ds.length
    · rw [List.getElem?_append_left (by simpa using hi), List.getElem?_map] at h
      cases e : ds[i]? with
      | none =>
        rw [e] at h
        cases h
      | some d =>
        rw [e] at h
        cases h
        exact ⟨d, rfl, rfl⟩
    · rw [List.getElem?_append_right (by simpa using hi), List.getElem?_replicate] at h
      split at h <;> cases h
  have nown : ∀ {a : Addr}, ¬ OwnAt (envOf N ds) (L2.start N vs) a := fun {a} ⟨i, s, h1, h2, _⟩ => by
    obtain ⟨d, e, _⟩ := no h1
    subst e
    cases h2
  have less : ∀ a, MW (ctOf K B L H P) (envOf N ds) (L2.start N vs) true a → P a := fun a m => m.elim id fun z => absurd z.2 nown
  refine ⟨by simp [L2.start, envOf, r.length], Ext.refl H, bg, pB, pL, pal, fun i d h => ?_, fun i xs h => ?_, fun i C gs h => ?_, fun p hp => (by cases hp), fun p hp => absurd hp nown, fun i j s t p h1 h2 h3 h4 h5 h6 => absurd ⟨i, s, h1, h2, h3⟩ nown⟩
  · obtain ⟨d', e, h'⟩ := no h
    cases e
    obtain ⟨v, h1, h2⟩ := r.get h'
    refine ⟨v, ?_, h2.less less⟩
    unfold L2.start
    rw [List.getElem?_append_left (by simpa using (List.getElem?_eq_some_iff.mp h1).1), List.getElem?_map, h1]
    rfl
  · obtain ⟨d', e, _⟩ := no h
    cases e
  · obtain ⟨d', e, _⟩ := no h
    cases e
section
variable {P : Program} {wd : World} {K : PySem.W.Frag} {mg : Str → Option Value} {base : Heap}
/-- what a def wishes of exceptions -/
abbrev wOf (E : XK) : WX := fun cls d _ H => E cls d H
/-- THE RULE for a def: its body as a term of rules over trees, and that its reading follows from the promise -/
theorem fnD {x qual : Str} {st : Stmt} {f : Addr} {fd : FuncData} {N ps : List Str} {k : Nat} {S : SpD} {T : (XD → Prop) → TSD} (F : Fun K x qual st f fd) (Sc : FnScope N ps (defScope st)) (len : ∀ ds Q E, S ds Q E → ds.length = ps.length)
    (hd : ∀ (cdv : Value) (A : Around) (outer : List PySem.Env) (s : Shared) (H : Hp) (E : XK) (c : Ct) (Ed : XD → Prop), Room k (A.deeper (envOfC qual (defScope st) s.heap.objs.size f cdv)) → c.K = K →
      L2N.Takes (cxOf (L2N.CX P wd) P wd K mg base N qual (defScope st) f cdv A outer s H E) (wOf E) →
      PassesOwn (model P wd) (A.deeper (envOfC qual (defScope st) s.heap.objs.size f cdv)) (envOfC qual (defScope st) s.heap.objs.size f cdv) (cxOf (L2N.CX P wd) P wd K mg base N qual (defScope st) f cdv A outer s H E).xe →
      WRel c (fun x _ => Ed x) (wOf E) → PSs (cxOf (L2N.CX P wd) P wd K mg base N qual (defScope st) f cdv A outer s H E) (defBody st) (LS c (T Ed)))
    (hs : ∀ ds Qd Ed, S ds Qd Ed → T Ed { nx := fun _ => Qd .non, rt := Qd } (envOf N ds)) : FnOk P wd K mg base (L2N.CX P wd) (k + 1) f fd ps (spD K S) := by
  obtain ⟨oc, od, kV, doc, pm, an, cdv, ct, osl, rfl, lk, hcd⟩ := F.ex
  refine fn_of lk hcd Sc (fun vs H Q E h => ?_) fun A outer s H vs Q E hr h => ?_
  · obtain ⟨B, L, P', ds, Qd, Ed, _, _, _, _, r, hS, _⟩ := h
    rw [r.length, len ds Qd Ed hS]
  · obtain ⟨B, L, P', ds, Qd, Ed, pB, pL, pal, bg, r, hS, kq, ke⟩ := h
    refine ⟨_, hd cdv A outer s H E (ctOf K B L H P') Ed hr rfl (L2N.takes_of rfl rfl rfl rfl) (passes_of (K := fun e s'' => L2N.CX P wd outer H s E e s'') rfl) (fun x gh γ σ H' cls d h1 S' rx => ?_), ?_⟩
    · obtain ⟨e1, a, vs', e2, n, e3, e4⟩ := rx
      exact ke x cls d H' h1 ⟨e1, a, vs', e2, fun z => n (.inl z), e3, e4.less fun a m => .inl m⟩ S'.ext S'.bag
    · refine ⟨[], envOf N ds, _, SI.entry pB pL pal bg r, hs ds Qd Ed hS, fun γ' σ' H' h1 S' => ?_, fun d v H' h1 rv e b => kq d v H' h1 rv e b, fun γ' σ' H' h1 _ => h1.elim, fun γ' σ' H' h1 _ => h1.elim⟩
      exact kq .non .non H' h1 .non S'.ext S'.bag
end

section
variable {X : Cx} {c : Ct} {w : Bool} {W : WX} {Wx : XD → Env → Prop} {k : Nat} {f C : Addr} {fd : FuncData} {ps : List Str} {S : SpD} {x m : Str} {p pos apos : Pos} {e o : Expr} {es : List Expr} {U : TAD} {T : TED}
theorem repF_flat {K : PySem.W.Frag} {B : Addr} {M M' : Addr → Prop} {H H' : Hp} : ∀ {fs : List (Str × V)} {gs : List (Str × D)}, gs.all (fun q => q.2.flat) = true → RepF K B M H fs gs → RepF K B M' H' fs gs
  | _, _, _, .nil => .nil
  | _, _, h, .cons r t => by
    rw [List.all_cons, Bool.and_eq_true] at h
    exact .cons (r.flat h.1) (repF_flat h.2 t)
def xCall (S : SpD) (Wx : XD → Env → Prop) (U : TAD) : TED := fun γ Q => U γ fun ds => S ds Q fun x => Wx x γ
theorem SI.sp (hW : WRel c Wx W) {gh : List (V × D)} {γ : Env} {σ : L2.St} {H : Hp} {ds : List D} {vs : List V} {Qd : D → Prop} {Ed : XD → Prop} {Q : VK} (St : SI c gh γ σ H) (r : Reps c.K c.B (MW c γ σ w) H vs ds) (h : S ds Qd Ed)
    (strong : ∀ x, Ed x → Wx x γ ∧ (w = true ∨ x.fs.all (fun q => q.2.flat) = true))
    (k : ∀ d v H', Qd d → Rep c.K c.B (MW c γ σ w) H' v d → SI c gh γ σ H' → Ext c.B H H' → Q v H') : spD c.K S vs H Q (WE W σ) := by
  refine ⟨c.B, c.L, MW c γ σ w, ds, Qd, Ed, St.mB w, .inl St.pL, fun a m => St.alive m, St.bag, r, h, fun d v H' h1 r1 x1 b1 => k d v H' h1 r1 (St.later x1 b1) x1, fun x cls dd H' h1 rx x1 b1 => ?_⟩
  have S1 := St.later x1 b1
  obtain ⟨h2, h3⟩ := strong x h1
  refine hW x gh γ σ H' cls dd h2 S1 ?_
  obtain ⟨e1, a, vs', e2, n, e3, e4⟩ := rx
  refine ⟨e1, a, vs', e2, fun z => ?_, e3, ?_⟩
  · rcases z with z | ⟨_, i, s, z1, z2, z3⟩
    · exact n (.inl z)
    · cases s with
      | val d => cases z2
      | own xs =>
        obtain ⟨p, us, g1, g2, _⟩ := S1.own i xs z1
        rw [z3] at g1
        cases g1
        rw [e3] at g2
        cases g2
      | ins C gs =>
        obtain ⟨p, dx, fs, g1, ⟨_, g2⟩, _⟩ := S1.ins i C gs z1
        rw [z3] at g1
        cases g1
        rw [e3] at g2
        cases g2
  · rcases h3 with h3 | h3
    · subst h3
      exact e4
    · exact repF_flat h3 e4
/-- f(e, ..): strong -/
theorem xd_call (F : FnOk X.prog X.w X.K X.mg X.base (L2N.CX X.prog X.w) k f fd ps (spD c.K S)) (hr : Room k X.A) (tk : L2N.Takes X W) (hW : WRel c Wx W) (hm : X.mg x = some (.ref f)) (hk : PySem.W.keepIn X.K (.ref f) = true) (hb : Binds X.K fd ps [])
    (ha : PA X (e :: es) (LA c true U)) (hg : Gl X x := by rfl) (hdb : (x == ("__debug__" : Str)) = false := by decide) (he : starEach (e :: es) X.env = (false, eval e X.env) :: starEach es X.env := by rfl)
    (hpl : (backTo pos (starEach es X.env)).any (·.1) = false := by rfl) : PE X (.Call (.Name x p) (e :: es) [] pos) (LE c true (xCall S Wx U)) :=
  pe_imp (pe_callS (E := WE W) F hr hg hm hk hb (fun σ => L2N.passAt tk σ) ha hdb he hpl) fun _ _ σ H Q I q => by
    obtain ⟨gh, γ, Qd, St, q1, k⟩ := q
    exact ⟨gh, γ, _, St, q1, fun ds vs H1 h1 r1 S1 x1 => S1.sp hW r1 h1 (fun x hx => ⟨hx, .inl rfl⟩) fun d v H' h2 r2 S2 x2 => k d v H' h2 r2 S2 (x1.trans x2)⟩
/-- f(e, ..): one's own objects lent; what is raised is flat -/
def xCallB (S : SpD) (Wx : XD → Env → Prop) (U : TAD) : TED := fun γ Q => U γ fun ds => S ds Q fun x => Wx x γ ∧ x.fs.all (fun q => q.2.flat) = true
theorem xd_callB (F : FnOk X.prog X.w X.K X.mg X.base (L2N.CX X.prog X.w) k f fd ps (spD c.K S)) (hr : Room k X.A) (tk : L2N.Takes X W) (hW : WRel c Wx W) (hm : X.mg x = some (.ref f)) (hk : PySem.W.keepIn X.K (.ref f) = true) (hb : Binds X.K fd ps [])
    (ha : PA X (e :: es) (LA c false U)) (hg : Gl X x := by rfl) (hdb : (x == ("__debug__" : Str)) = false := by decide) (he : starEach (e :: es) X.env = (false, eval e X.env) :: starEach es X.env := by rfl)
    (hpl : (backTo pos (starEach es X.env)).any (·.1) = false := by rfl) : PE X (.Call (.Name x p) (e :: es) [] pos) (LE c false (xCallB S Wx U)) :=
  pe_imp (pe_callS (E := WE W) F hr hg hm hk hb (fun σ => L2N.passAt tk σ) ha hdb he hpl) fun _ _ σ H Q I q => by
    obtain ⟨gh, γ, Qd, St, q1, k⟩ := q
    exact ⟨gh, γ, _, St, q1, fun ds vs H1 h1 r1 S1 x1 => S1.sp hW r1 h1 (fun x hx => ⟨hx.1, .inr hx.2⟩) fun d v H' h2 r2 S2 x2 => k d v H' h2 r2 S2 (x1.trans x2)⟩
end
end TL
set_option Elab.async false
set_option linter.all false
set_option maxRecDepth 100000
set_option maxHeartbeats 2000000
namespace TL
open PySem L2 PySem.Spec PyProof.Rows

section
variable {X : Cx} {c : Ct} {w : Bool} {a b e o : Expr} {es : List Expr} {T U : TED} {V1 : TAD} {pos p apos cpos : Pos} {x : Str}

abbrev ClD := List D → (D → Prop) → Prop
def BrC (c : Ct) (w : Bool) (r : List V → Hp → VK → Prop) (rd : ClD) : Prop := ∀ (gh : List (V × D)) (γ : TL.Env) (σ : L2.St) (H : Hp) (ds : List D) (vs : List V) (Qd : D → Prop) (Q : VK), SI c gh γ σ H → Reps c.K c.B (MW c γ σ w) H vs ds → rd ds Qd →
  (∀ d v' H', Qd d → Rep c.K c.B (MW c γ σ w) H' v' d → SI c gh γ σ H' → Ext c.B H H' → Q v' H') → r vs H Q
def xBi (rd : ClD) (U : TAD) : TED := fun γ Q => U γ fun ds => rd ds Q
theorem bi_lift {r : List V → Hp → VK → Prop} {rd : ClD} (br : BrC c w r rd) {σ : L2.St} {H : Hp} {Q : VK} (q : LE c w (xBi rd V1) σ H Q) : tCB r (LA c w V1) σ H Q := by
  obtain ⟨gh, γ, Qd, S, q1, k⟩ := q
  exact ⟨gh, γ, _, S, q1, fun ds vs H1 h1 r1 S1 x1 => br gh γ σ H1 ds vs Qd Q S1 r1 h1 fun d v' H' h2 h3 h4 h5 => k d v' H' h2 h3 h4 (x1.trans h5)⟩
theorem xd_bi {id : String} {r : List V → Hp → VK → Prop} {rd : ClD} (hc : CallR X (.builtin id) r) (br : BrC c w r rd) (hm : X.mg x = none) (hv : bootBuiltins x = some (.builtin id)) (ha : PA X (e :: es) (LA c w V1)) (hg : Gl X x := by rfl) (hn : x ≠ "__name__" := by decide)
    (hdb : (x == ("__debug__" : Str)) = false := by decide) (he : starEach (e :: es) X.env = (false, eval e X.env) :: starEach es X.env := by rfl) (hpl : (backTo pos (starEach es X.env)).any (·.1) = false := by rfl) :
    PE X (.Call (.Name x p) (e :: es) [] pos) (LE c w (xBi rd V1)) := pe_imp (pe_callB hc hg hm hv ha hn hdb he hpl) fun _ _ _ _ _ _ q => bi_lift br q
theorem xd_ty {id : String} {r : List V → Hp → VK → Prop} {rd : ClD} (hc : CallR X (.type id) r) (br : BrC c w r rd) (hm : X.mg x = none) (hv : bootBuiltins x = some (.type id)) (ha : PA X (e :: es) (LA c w V1)) (hg : Gl X x := by rfl) (hn : x ≠ "__name__" := by decide)
    (hdb : (x == ("__debug__" : Str)) = false := by decide) (he : starEach (e :: es) X.env = (false, eval e X.env) :: starEach es X.env := by rfl) (hpl : (backTo pos (starEach es X.env)).any (·.1) = false := by rfl) :
    PE X (.Call (.Name x p) (e :: es) [] pos) (LE c w (xBi rd V1)) := pe_imp (pe_callTy hc hg hm hv ha hn hdb he hpl) fun _ _ _ _ _ _ q => bi_lift br q
def dLen : ClD
  | [.str y], Q => y.length ≤ sizeLine ∧ Q (.int (y.length : Int))
  | [.lst ys], Q => Q (.int (ys.length : Int))
  | [.tup ys], Q => Q (.int (ys.length : Int))
  | _, _ => False
theorem br_len (hK : c.K = X.K) : BrC c w (fun xs H Q => (∃ p ys, xs = [.ref p] ∧ (SqL X.K H p ys ∨ SqT X.K H p ys) ∧ Q (.int ys.length) H) ∨ (∃ z, xs = [.str z] ∧ z.length ≤ sizeLine ∧ Q (.int z.length) H)) dLen := by
  intro gh γ σ H ds vs Qd Q S r q k
  rw [← hK]
  cases r with
  | nil => exact q.elim
  | cons r1 r2 =>
    cases r2 with
    | cons _ _ => cases r1 <;> exact q.elim
    | nil =>
      cases r1 with
      | str y => exact .inr ⟨y, rfl, q.1, k _ _ H q.2 (.int _) S (Ext.refl H)⟩
      | lst n h s => exact .inl ⟨_, _, rfl, .inl (SqL.of h), k _ _ H (by rw [s.length]; exact q) (.int _) S (Ext.refl H)⟩
      | tup n h s => exact .inl ⟨_, _, rfl, .inr (SqT.of h), k _ _ H (by rw [s.length]; exact q) (.int _) S (Ext.refl H)⟩
      | tupK h s => exact .inl ⟨_, _, rfl, .inr (.inr h), k _ _ H (by rw [s.length]; exact q) (.int _) S (Ext.refl H)⟩
      | _ => exact q.elim
theorem xd_len (hK : c.K = X.K) (hm : X.mg "len" = none) (ha : PA X (e :: es) (LA c w V1)) (hg : Gl X "len" := by rfl) (he : starEach (e :: es) X.env = (false, eval e X.env) :: starEach es X.env := by rfl) (hpl : (backTo pos (starEach es X.env)).any (·.1) = false := by rfl) :
    PE X (.Call (.Name "len" p) (e :: es) [] pos) (LE c w (xBi dLen V1)) := xd_bi (CallR.or call_len_seq call_len_str) (br_len hK) hm PySem.boot_len ha hg (by decide) (by decide) he hpl
/-- list(..): a new one -/
def dSeq (ds : List D) (Q : List D → Prop) : Prop := match ds with
  | [.lst ys] => Q ys
  | [.tup ys] => Q ys
  | _ => False
def xSeq (U : TAD) : TAD := fun γ Q => U γ fun ds => dSeq ds Q
theorem seq_rep {γ : TL.Env} {gh : List (V × D)} {σ : L2.St} {H : Hp} {ds : List D} {vs : List V} {Q : List D → Prop} (S : SI c gh γ σ H) (r : Reps c.K c.B (MW c γ σ w) H vs ds) (q : dSeq ds Q) :
    ∃ p us ys, vs = [.ref p] ∧ (SqL c.K H p us ∨ SqT c.K H p us) ∧ Reps c.K c.B (MW c γ σ w) H us ys ∧ Q ys := by
  cases r with
  | nil => exact q.elim
  | cons r1 r2 =>
    cases r2 with
    | cons _ _ => cases r1 <;> exact q.elim
    | nil =>
      cases r1 with
      | lst n h s => exact ⟨_, _, _, rfl, .inl (SqL.of h), s, q⟩
      | tup n h s => exact ⟨_, _, _, rfl, .inr (SqT.of h), s, q⟩
      | tupK h s => exact ⟨_, _, _, rfl, .inr (.inr h), s, q⟩
      | _ => exact q.elim
theorem new_rep {γ : TL.Env} {gh : List (V × D)} {σ : L2.St} {H : Hp} {ds : List D} {vs : List V} {l : Addr} {o : HO} (S : SI c gh γ σ H) (r : Reps c.K c.B (MW c γ σ w) H vs ds) (hl : H l = none) :
    Reps c.K c.B (fun a => MW c γ σ w a ∨ a = l) (L2.upd H l o) vs ds := (r.grow (M' := fun a => MW c γ σ w a ∨ a = l) fun a m => m.imp id fun z => by rw [z]; exact hl).ext (.inl (S.mB w)) (Ext.new hl)
theorem xf_list (hK : c.K = X.K) (hm : X.mg "list" = none) (ha : PA X (e :: es) (LA c w V1)) (hg : Gl X "list" := by rfl) (he : starEach (e :: es) X.env = (false, eval e X.env) :: starEach es X.env := by rfl) (hpl : (backTo pos (starEach es X.env)).any (·.1) = false := by rfl) :
    PE X (.Call (.Name "list" p) (e :: es) [] pos) (LF c w (xSeq V1)) := pe_imp (pe_callTy call_list_of hg hm (by decide +kernel) ha (by decide) (by decide) he hpl) fun _ _ σ H Q I q => by
  obtain ⟨gh, γ, Qd, S, q1, k⟩ := q
  refine ⟨gh, γ, _, S, q1, fun ds vs H1 h1 r1 S1 x1 => ?_⟩
  obtain ⟨p, us, ys, e1, hs, r2, q2⟩ := seq_rep S1 r1 h1
  rw [← hK]
  refine ⟨p, us, e1, hs, fun l hl => ?_⟩
  exact k ys l us _ q2 (x1.free (S1.newNe hl) hl) upd_same (new_rep S1 r2 hl) (S1.new hl) (x1.trans (Ext.new hl))
def xTupOf (U : TAD) : TED := fun γ Q => U γ fun ds => dSeq ds fun ys => Q (.tup ys)
theorem xd_tuple (hK : c.K = X.K) (hm : X.mg "tuple" = none) (ha : PA X (e :: es) (LA c w V1)) (hg : Gl X "tuple" := by rfl) (he : starEach (e :: es) X.env = (false, eval e X.env) :: starEach es X.env := by rfl) (hpl : (backTo pos (starEach es X.env)).any (·.1) = false := by rfl) :
    PE X (.Call (.Name "tuple" p) (e :: es) [] pos) (LE c w (xTupOf V1)) := pe_imp (pe_callTy call_tuple_of hg hm (by decide +kernel) ha (by decide) (by decide) he hpl) fun _ _ σ H Q I q => by
  obtain ⟨gh, γ, Qd, S, q1, k⟩ := q
  refine ⟨gh, γ, _, S, q1, fun ds vs H1 h1 r1 S1 x1 => ?_⟩
  rw [← hK]
  cases r1 with
  | nil => exact h1.elim
  | cons r1 r2 =>
    cases r2 with
    | cons _ _ => cases r1 <;> exact h1.elim
    | nil =>
      cases r1 with
      | lst n h s => exact ⟨_, _, rfl, .inl ⟨SqL.of h, fun l hl => k _ _ _ h1 (.tup (S1.notM hl) upd_same (s.ext (S1.mB w) (Ext.new hl))) (S1.new hl) (x1.trans (Ext.new hl))⟩⟩
      | tup n h s => exact ⟨_, _, rfl, .inr ⟨SqT.of h, k _ _ _ h1 (.tup n h s) S1 x1⟩⟩
      | tupK h s => exact ⟨_, _, rfl, .inr ⟨.inr h, k _ _ _ h1 (.tupK h s) S1 x1⟩⟩
      | _ => exact h1.elim
def dBool : ClD
  | [.int i], Q => Q (.bl (i != 0))
  | [.bl b], Q => Q (.bl b)
  | _, _ => False
theorem xd_bool (hm : X.mg "bool" = none) (ha : PA X (e :: es) (LA c w V1)) (hg : Gl X "bool" := by rfl) (he : starEach (e :: es) X.env = (false, eval e X.env) :: starEach es X.env := by rfl) (hpl : (backTo pos (starEach es X.env)).any (·.1) = false := by rfl) :
    PE X (.Call (.Name "bool" p) (e :: es) [] pos) (LE c w (xBi dBool V1)) := xd_ty call_bool1 (by
  intro gh γ σ H ds vs Qd Q S r q k
  cases r with
  | nil => exact q.elim
  | cons r1 r2 =>
    cases r2 with
    | cons _ _ => cases r1 <;> exact q.elim
    | nil =>
      cases r1 with
      | int i => exact .inl ⟨i, rfl, k _ _ H q (.bl _) S (Ext.refl H)⟩
      | bl b => exact .inr ⟨b, rfl, k _ _ H q (.bl _) S (Ext.refl H)⟩
      | _ => exact q.elim) hm (by decide +kernel) ha hg (by decide) (by decide) he hpl
def dInt : ClD
  | [.int i], Q => Q (.int i)
  | [.bl b], Q => Q (.int (if b then 1 else 0))
  | _, _ => False
theorem xd_intOf (hm : X.mg "int" = none) (ha : PA X (e :: es) (LA c w V1)) (hg : Gl X "int" := by rfl) (he : starEach (e :: es) X.env = (false, eval e X.env) :: starEach es X.env := by rfl) (hpl : (backTo pos (starEach es X.env)).any (·.1) = false := by rfl) :
    PE X (.Call (.Name "int" p) (e :: es) [] pos) (LE c w (xBi dInt V1)) := xd_ty call_int1 (by
  intro gh γ σ H ds vs Qd Q S r q k
  cases r with
  | nil => exact q.elim
  | cons r1 r2 =>
    cases r2 with
    | cons _ _ => cases r1 <;> exact q.elim
    | nil =>
      cases r1 with
      | int i => exact .inl ⟨i, rfl, k _ _ H q (.int _) S (Ext.refl H)⟩
      | bl b => exact .inr ⟨b, rfl, k _ _ H q (.int _) S (Ext.refl H)⟩
      | _ => exact q.elim) hm (by decide +kernel) ha hg (by decide) (by decide) he hpl
def dStrI : ClD
  | [.int i], Q => i.natAbs.log2 < 1920 ∧ Q (.str (toString i))
  | _, _ => False
theorem xd_strI (hm : X.mg "str" = none) (ha : PA X (e :: es) (LA c w V1)) (hg : Gl X "str" := by rfl) (he : starEach (e :: es) X.env = (false, eval e X.env) :: starEach es X.env := by rfl) (hpl : (backTo pos (starEach es X.env)).any (·.1) = false := by rfl) :
    PE X (.Call (.Name "str" p) (e :: es) [] pos) (LE c w (xBi dStrI V1)) := xd_ty call_str_int (by
  intro gh γ σ H ds vs Qd Q S r q k
  cases r with
  | nil => exact q.elim
  | cons r1 r2 =>
    cases r2 with
    | cons _ _ => cases r1 <;> exact q.elim
    | nil =>
      cases r1 with
      | int i => exact ⟨i, rfl, q.1, k _ _ H q.2 (.str _) S (Ext.refl H)⟩
      | _ => exact q.elim) hm (by decide +kernel) ha hg (by decide) (by decide) he hpl
def dMin2 : ClD
  | [.int i, .int j], Q => Q (.int (if j < i then j else i))
  | _, _ => False
theorem xd_min2 (hcl : X.calm = true) (hm : X.mg "min" = none) (ha : PA X (e :: es) (LA c w V1)) (hg : Gl X "min" := by rfl) (he : starEach (e :: es) X.env = (false, eval e X.env) :: starEach es X.env := by rfl) (hpl : (backTo pos (starEach es X.env)).any (·.1) = false := by rfl) :
    PE X (.Call (.Name "min" p) (e :: es) [] pos) (LE c w (xBi dMin2 V1)) := xd_bi (call_min2 hcl) (by
  intro gh γ σ H ds vs Qd Q S r q k
  cases r with
  | nil => exact q.elim
  | cons r1 r2 =>
    cases r2 with
    | nil => cases r1 <;> exact q.elim
    | cons r2 r3 =>
      cases r3 with
      | cons _ _ => cases r1 <;> cases r2 <;> exact q.elim
      | nil =>
        cases r1 with
        | int i =>
          cases r2 with
          | int j => exact ⟨i, j, rfl, k _ _ H q (.int _) S (Ext.refl H)⟩
          | _ => exact q.elim
        | _ => cases r2 <;> exact q.elim) hm (by decide +kernel) ha hg (by decide) (by decide) he hpl
/-- the truths of a list -/
def dBools : List D → (List Bool → Prop) → Prop
  | [], Q => Q []
  | .bl b :: ds, Q => dBools ds fun bs => Q (b :: bs)
  | _ :: _, _ => False
theorem dBools_map (bs : List Bool) (Q : List Bool → Prop) (h : Q bs) : dBools (bs.map D.bl) Q := by
  induction bs generalizing Q with
  | nil => exact h
  | cons b bs ih => exact ih (fun bs => Q (b :: bs)) h
theorem bools_rep {M : Addr → Prop} {H : Hp} : ∀ {ds : List D} {vs : List V} {Q : List Bool → Prop}, Reps c.K c.B M H vs ds → dBools ds Q → ∃ bs : List Bool, vs = bs.map V.bl ∧ Q bs
  | _, _, Q, .nil, q => ⟨[], rfl, q⟩
  | _, _, Q, .cons r1 r2, q => by
    cases r1 with
    | bl b =>
      obtain ⟨bs, e, q⟩ := bools_rep r2 q
      exact ⟨b :: bs, by rw [e]; rfl, q⟩
    | _ => exact q.elim
def dAll : ClD
  | [.lst ds], Q => dBools ds fun bs => Q (.bl (bs.all id))
  | _, _ => False
theorem br_all (hK : c.K = X.K) : BrC c w (rAll X.K) dAll := by
  intro gh γ σ H ds vs Qd Q S r q k
  rw [← hK]
  cases r with
  | nil => exact q.elim
  | cons r1 r2 =>
    cases r2 with
    | cons _ _ => cases r1 <;> exact q.elim
    | nil =>
      cases r1 with
      | lst n h s =>
        obtain ⟨bs, e, q⟩ := bools_rep s q
        subst e
        exact ⟨_, bs, rfl, SqL.of h, k _ _ H q (.bl _) S (Ext.refl H)⟩
      | _ => exact q.elim
theorem xd_all (hK : c.K = X.K) (hcl : X.calm = true) (hm : X.mg "all" = none) (ha : PA X (e :: es) (LA c w V1)) (hg : Gl X "all" := by rfl) (he : starEach (e :: es) X.env = (false, eval e X.env) :: starEach es X.env := by rfl) (hpl : (backTo pos (starEach es X.env)).any (·.1) = false := by rfl) :
    PE X (.Call (.Name "all" p) (e :: es) [] pos) (LE c w (xBi dAll V1)) := xd_bi (cr_all hcl) (br_all hK) hm (by decide +kernel) ha hg (by decide) (by decide) he hpl

def dIx : OpD
  | .lst ds, .int i, Q => ∃ d, atI ds i = some d ∧ Q d
  | .tup ds, .int i, Q => ∃ d, atI ds i = some d ∧ Q d
  | .str z, .int i, Q => z.length ≤ sizeLine ∧ ∃ k, atI z.cps.toList i = some k ∧ Q (.str ⟨#[k]⟩)
  | _, _, _ => False
theorem atI_rep {M : Addr → Prop} {H : Hp} {ds : List D} {vs : List V} {i : Int} {d : D} (r : Reps c.K c.B M H vs ds) (h : atI ds i = some d) : ∃ v, atI vs i = some v ∧ Rep c.K c.B M H v d := by
  unfold atI at h ⊢
  rw [r.length]
  cases e : ixN ds.length i with
  | none =>
    rw [e] at h
    cases h
  | some j =>
    rw [e] at h
    exact r.get (i := j) h
theorem br_ix (hK : c.K = X.K) : BrO c w (rIx X.K) dIx := by
  intro gh γ σ H x y v u Qd Q S r1 r2 q k
  rw [← hK]
  cases r1 with
  | lst n h s =>
    cases r2 with
    | int i =>
      obtain ⟨d, h1, q⟩ := q
      obtain ⟨v, h2, r⟩ := atI_rep s h1
      exact .inl ⟨_, _, i, v, rfl, rfl, SqL.of h, h2, k _ _ H q r S (Ext.refl H)⟩
    | _ => exact q.elim
  | tup n h s =>
    cases r2 with
    | int i =>
      obtain ⟨d, h1, q⟩ := q
      obtain ⟨v, h2, r⟩ := atI_rep s h1
      exact .inr (.inl ⟨_, _, i, v, rfl, rfl, SqT.of h, h2, k _ _ H q r S (Ext.refl H)⟩)
    | _ => exact q.elim
  | tupK h s =>
    cases r2 with
    | int i =>
      obtain ⟨d, h1, q⟩ := q
      obtain ⟨v, h2, r⟩ := atI_rep s h1
      exact .inr (.inl ⟨_, _, i, v, rfl, rfl, .inr h, h2, k _ _ H q r S (Ext.refl H)⟩)
    | _ => exact q.elim
  | str z =>
    cases r2 with
    | int i =>
      obtain ⟨hz, n, h1, q⟩ := q
      exact .inr (.inr ⟨z, i, n, rfl, rfl, hz, h1, k _ _ H q (.str _) S (Ext.refl H)⟩)
    | _ => exact q.elim
  | _ => cases r2 <;> exact q.elim
theorem xd_ix (hK : c.K = X.K) (hs : PlainIx b) (ha : PE X a (LE c w T)) (hb : PE X b (LE c w U)) : PE X (.Subscript a b pos) (LE c w (xOp dIx T U)) :=
  pe_imp (pe_ix ix_seq ha hb hs) fun _ _ _ _ _ _ q => op_lift (ta := LE c w T) (tb := LE c w U) (br_ix hK) q
/-- parts of a slice -/
abbrev TOD := TL.Env → (Option Int → Prop) → Prop
def LO (c : Ct) (w : Bool) (T : TOD) : TO := fun σ H Q => ∃ (gh : List (V × D)) (γ : TL.Env) (Qd : Option Int → Prop), SI c gh γ σ H ∧ T γ Qd ∧ ∀ i H', Qd i → SI c gh γ σ H' → Ext c.B H H' → Q i H'
theorem po_imp {e : Option Expr} {t t' : TO} (h : PO X e t) (i : ∀ pins s σ H Q, Inv X pins σ H s → t' σ H Q → t σ H Q) : PO X e t' := ⟨fun pins s σ H Q I q => h.run pins s σ H Q I (i pins s σ H Q I q)⟩
def xNoPart : TOD := fun _ Q => Q none
def xPart (T : TED) : TOD := fun γ Q => T γ fun d => ∃ i, d = .int i ∧ Q (some i)
theorem xo_none : PO X none (LO c w xNoPart) := po_imp po_none fun _ _ σ H Q I q => by
  obtain ⟨gh, γ, Qd, S, q1, k⟩ := q
  exact k _ H q1 S (Ext.refl H)
theorem xo_some (h : PE X e (LE c w T)) : PO X (some e) (LO c w (xPart T)) := po_imp (po_some h) fun _ _ σ H Q I q => by
  obtain ⟨gh, γ, Qd, S, q1, k⟩ := q
  refine ⟨gh, γ, _, S, q1, fun d v H' h1 r S' x => ?_⟩
  obtain ⟨i, rfl, h1⟩ := h1
  cases r
  exact ⟨i, rfl, k _ H' h1 S' x⟩
def cutD (xs : List D) (lo hi : Option Int) : List D := (xs.drop (HT.sIx xs.length 0 lo)).take (HT.sIx xs.length xs.length hi - HT.sIx xs.length 0 lo)
def dSl (lo hi : Option Int) : D → (D → Prop) → Prop
  | .lst ds, Q => Q (.lst (cutD ds lo hi))
  | .str z, Q => z.length ≤ sizeLine ∧ Q (.str (cutS z lo hi))
  | _, _ => False
def xSl (T : TED) (To Th : TOD) : TED := fun γ Q => T γ fun x => To γ fun lo => Th γ fun hi => dSl lo hi x Q
theorem cut_rep {M : Addr → Prop} {H : Hp} {ds : List D} {vs : List V} {lo hi : Option Int} (r : Reps c.K c.B M H vs ds) : Reps c.K c.B M H (cutV vs lo hi) (cutD ds lo hi) := by
  unfold cutV cutD
  rw [r.length]
  exact (r.drop _).take _
theorem xd_slice {lo hi : Option Expr} {p2 : Pos} {To Th : TOD} (hK : c.K = X.K) (he : PE X e (LE c w T)) (hl : PO X lo (LO c w To)) (hu : PO X hi (LO c w Th)) : PE X (.Subscript e (.Slice lo hi none p2) pos) (LE c w (xSl T To Th)) :=
  pe_imp (pe_slice (SlR.or sl_list sl_str) he hl hu) fun _ _ σ H Q I q => by
    obtain ⟨gh, γ, Qd, S, q1, k⟩ := q
    refine ⟨gh, γ, _, S, q1, fun x v H1 h1 r1 S1 x1 => ?_⟩
    refine ⟨gh, γ, _, S1, h1, fun lo H2 h2 S2 x2 => ?_⟩
    refine ⟨gh, γ, _, S2, h2, fun hi H3 h3 S3 x3 => ?_⟩
    have r3 := r1.ext (S1.mB w) (x2.trans x3)
    have xx := (x1.trans x2).trans x3
    rw [← hK]
    cases r3 with
    | lst n h s => exact .inl ⟨_, _, rfl, SqL.of h, fun l hl => k _ _ _ h3 (.lst (S3.notM hl) upd_same ((cut_rep s).ext (S3.mB w) (Ext.new hl))) (S3.new hl) (xx.trans (Ext.new hl))⟩
    | str z => exact .inr ⟨z, rfl, h3.1, k _ _ H3 h3.2 (.str _) S3 xx⟩
    | _ => exact h3.elim
end
end TL
set_option Elab.async false
set_option linter.all false
set_option maxRecDepth 100000
set_option maxHeartbeats 2000000
namespace TL
open PySem L2 PySem.Spec PyProof.Rows

/-- an iterator gives these trees, wherever the trees gs stand -/
def SrcOk (K : PySem.W.Frag) (B : Addr) (J : It) (gs : List (V × D)) (ds : List D) : Prop := ∀ (M : Addr → Prop) (H : Hp), (∀ a, M a → H a ≠ none) → (∀ p ∈ gs, Rep K B M H p.1 p.2) →
  (∀ (i : Nat) (d : D), ds[i]? = some d → J.go i H ∧ ∀ x H', J.yld i H x H' → (H' = H ∨ ∃ t o, H t = none ∧ H' = upd H t o) ∧ Rep K B M H' x d) ∧ (∀ i, ds.length ≤ i → J.stop i H)
def LI (c : Ct) (T : TAD) : TI := fun σ H R => ∃ (gh : List (V × D)) (γ : TL.Env) (Qd : List D → Prop), SI c gh γ σ H ∧ T γ Qd ∧
  ∀ ds gs J H', Qd ds → SrcOk c.K c.B J gs ds → (∀ p ∈ gs, Rep c.K c.B (MW c γ σ true) H' p.1 p.2) → SI c gh γ σ H' → Ext c.B H H' → R J H'
theorem pi_imp {X : Cx} {tg e : Expr} {t t' : TI} (h : PI X tg e t) (i : ∀ pins s σ H R, Inv X pins σ H s → t' σ H R → t σ H R) : PI X tg e t' := ⟨fun pins s σ H R I q => h.run pins s σ H R I (i pins s σ H R I q)⟩
section
variable {X : Cx} {c : Ct} {w : Bool} {tg e e2 : Expr} {es : List Expr} {T U : TED} {V1 : TAD} {pos p : Pos}
theorem src_list {K : PySem.W.Frag} {B a : Addr} {ds : List D} : SrcOk K B (Itl K a) [(.ref a, .lst ds)] ds := fun M H al hg => by
  have r := hg _ (List.mem_singleton.mpr rfl)
  cases r with
  | lst n h s =>
    refine ⟨fun i d hd => ?_, fun i hi => ⟨_, SqL.of h, by rw [s.length]; exact hi⟩⟩
    obtain ⟨v, h1, r1⟩ := s.get hd
    refine ⟨⟨_, v, SqL.of h, h1⟩, fun x H' y => ?_⟩
    obtain ⟨e, y⟩ := y
    subst e
    have z := y _ (SqL.of h)
    rw [h1] at z
    cases z
    exact ⟨.inl rfl, r1⟩
theorem src_tup {K : PySem.W.Frag} {B a : Addr} {ds : List D} : SrcOk K B (Itt K a) [(.ref a, .tup ds)] ds := fun M H al hg => by
  have r := hg _ (List.mem_singleton.mpr rfl)
  have key : ∀ {vs : List V}, SqT K H a vs → Reps K B M H vs ds → _ := fun {vs} (hq : SqT K H a vs) (s : Reps K B M H vs ds) =>
    (show (∀ (i : Nat) (d : D), ds[i]? = some d → (Itt K a).go i H ∧ ∀ x H', (Itt K a).yld i H x H' → (H' = H ∨ ∃ t o, H t = none ∧ H' = upd H t o) ∧ Rep K B M H' x d) ∧ (∀ i, ds.length ≤ i → (Itt K a).stop i H) from by
      refine ⟨fun i d hd => ?_, fun i hi => ⟨_, hq, by rw [s.length]; exact hi⟩⟩
      obtain ⟨v, h1, r1⟩ := s.get hd
      refine ⟨⟨_, v, hq, h1⟩, fun x H' y => ?_⟩
      obtain ⟨e, y⟩ := y
      subst e
      have z := y _ hq
      rw [h1] at z
      cases z
      exact ⟨.inl rfl, r1⟩)
  cases r with
  | tup n h s => exact key (SqT.of h) s
  | tupK h s => exact key (.inr h) s
def signs (x : Str) : List D := x.cps.toList.map fun k => .str ⟨#[k]⟩
theorem src_str {K : PySem.W.Frag} {B : Addr} {x : Str} : SrcOk K B (Its x) [] (signs x) := fun M H al hg => by
  refine ⟨fun i d hd => ?_, fun i hi => ?_⟩
  · unfold signs at hd
    rw [List.getElem?_map] at hd
    cases e : x.cps.toList[i]? with
    | none =>
      rw [e] at hd
      cases hd
    | some k =>
      rw [e] at hd
      cases hd
      have hs : x.cps[i]? = some k := by simpa using e
      refine ⟨by
        have z := (List.getElem?_eq_some_iff.mp e).1
        show i < x.cps.size
        simpa using z, fun v H' y => ?_⟩
      obtain ⟨e1, k', e2, e3⟩ := y
      subst e1 e3
      rw [hs] at e2
      cases e2
      exact ⟨.inl rfl, .str _⟩
  · unfold signs at hi
    show x.cps.size ≤ i
    simpa using hi
def rangeD (lo : Int) (n : Nat) : List D := (List.range n).map fun (i : Nat) => .int (lo + (i : Int))
theorem src_range {K : PySem.W.Frag} {B : Addr} {lo : Int} {n : Nat} : SrcOk K B (Itr lo n) [] (rangeD lo n) := fun M H al hg => by
  refine ⟨fun i d hd => ?_, fun i hi => ?_⟩
  · unfold rangeD at hd
    rw [List.getElem?_map] at hd
    by_cases hlt : i < n
    · rw [List.getElem?_range hlt] at hd
      cases hd
      refine ⟨hlt, fun v H' y => ?_⟩
      obtain ⟨e1, e2⟩ := y
      subst e1 e2
      exact ⟨.inl rfl, .int _⟩
    · rw [List.getElem?_eq_none (by simp; omega)] at hd
      cases hd
  · unfold rangeD at hi
    show n ≤ i
    simpa using hi
theorem src_zip {K : PySem.W.Frag} {B a b : Addr} {xs ys : List D} : SrcOk K B (Itz K a b) [(.ref a, .lst xs), (.ref b, .lst ys)] ((xs.zip ys).map fun p => .tup [p.1, p.2]) := fun M H al hg => by
  have r := hg (.ref a, .lst xs) (by simp)
  have r' := hg (.ref b, .lst ys) (by simp)
  cases r with
  | lst n h s =>
    cases r' with
    | lst n' h' s' =>
      refine ⟨fun i d hd => ?_, fun i hi => ⟨_, _, SqL.of h, SqL.of h', ?_⟩⟩
      · rw [List.getElem?_map] at hd
        cases e : (xs.zip ys)[i]? with
        | none =>
          rw [e] at hd
          cases hd
        | some q =>
          rw [e] at hd
          cases hd
          obtain ⟨e1, e2⟩ := List.getElem?_zip_eq_some.mp e
          obtain ⟨v, h1, r1⟩ := s.get e1
          obtain ⟨u, h2, r2⟩ := s'.get e2
          refine ⟨⟨_, _, v, u, SqL.of h, SqL.of h', h1, h2⟩, fun x H' y => ?_⟩
          obtain ⟨t, x1, y1, e3, ht, e4, f1, f2⟩ := y
          subst e3 e4
          have z1 := f1 _ (SqL.of h)
          have z2 := f2 _ (SqL.of h')
          rw [h1] at z1
          rw [h2] at z2
          cases z1
          cases z2
          have g : ∀ a o, ¬ M a → H a = some o → ¬ M a ∧ upd H t (.tup [v, u]) a = some o := fun a o n h => ⟨n, by rw [upd_ne (ne_of_none h ht)]; exact h⟩
          exact ⟨.inr ⟨t, _, ht, rfl⟩, .tup (fun m => al t m ht) upd_same (.cons (r1.mono g) (.cons (r2.mono g) .nil))⟩
      · rw [s.length, s'.length]
        simp at hi
        omega
theorem xi_list (hK : c.K = X.K) (h : PE X e (LE c true T)) : PI X tg e (LI c fun γ Q => T γ fun d => ∃ ds, d = .lst ds ∧ Q ds) := pi_imp (pi_list h) fun _ _ σ H R I q => by
  obtain ⟨gh, γ, Qd, S, q1, k⟩ := q
  refine ⟨gh, γ, _, S, q1, fun d v H' h1 r S' x => ?_⟩
  obtain ⟨ds, rfl, h1⟩ := h1
  rw [← hK]
  cases r with
  | lst n h s => exact ⟨_, rfl, ⟨_, SqL.of h⟩, k ds _ _ H' h1 src_list (fun p hp => by rw [List.mem_singleton] at hp; subst hp; exact .lst n h s) S' x⟩
theorem xi_tup (hK : c.K = X.K) (h : PE X e (LE c true T)) : PI X tg e (LI c fun γ Q => T γ fun d => ∃ ds, d = .tup ds ∧ Q ds) := pi_imp (pi_tup h) fun _ _ σ H R I q => by
  obtain ⟨gh, γ, Qd, S, q1, k⟩ := q
  refine ⟨gh, γ, _, S, q1, fun d v H' h1 r S' x => ?_⟩
  obtain ⟨ds, rfl, h1⟩ := h1
  rw [← hK]
  cases r with
  | tup n h s => exact ⟨_, rfl, ⟨_, SqT.of h⟩, k ds _ _ H' h1 src_tup (fun p hp => by rw [List.mem_singleton] at hp; subst hp; exact .tup n h s) S' x⟩
  | tupK h s => exact ⟨_, rfl, ⟨_, .inr h⟩, k ds _ _ H' h1 src_tup (fun p hp => by rw [List.mem_singleton] at hp; subst hp; exact .tupK h s) S' x⟩
theorem xi_str (h : PE X e (LE c true T)) : PI X tg e (LI c fun γ Q => T γ fun d => ∃ x, d = .str x ∧ Q (signs x)) := pi_imp (pi_str h) fun _ _ σ H R I q => by
  obtain ⟨gh, γ, Qd, S, q1, k⟩ := q
  refine ⟨gh, γ, _, S, q1, fun d v H' h1 r S' x => ?_⟩
  obtain ⟨y, rfl, h1⟩ := h1
  cases r
  exact ⟨y, rfl, k _ [] _ H' h1 src_str (fun p hp => by cases hp) S' x⟩
def xRange1 (T : TED) : TAD := fun γ Q => T γ fun d => ∃ j : Int, d = .int j ∧ -(2 ^ 62) ≤ j ∧ j < 2 ^ 62 ∧ Q (rangeD 0 j.toNat)
theorem xi_range1 (hm : X.mg "range" = none) (h : PE X e (LE c true T)) (hg : Gl X "range" := by rfl) (hs : starEach [e] X.env = [(false, eval e X.env)] := by rfl) : PI X tg (.Call (.Name "range" p) [e] [] pos) (LI c (xRange1 T)) :=
  pi_imp (pi_range1 hg hm (xa_cons h xa_nil hs) hs) fun _ _ σ H R I q => by
    obtain ⟨gh, γ, Qd, S, q1, k⟩ := q
    refine ⟨gh, γ, fun ds => ∃ j : Int, ds = [.int j] ∧ -(2 ^ 62) ≤ j ∧ j < 2 ^ 62 ∧ Qd (rangeD 0 j.toNat), S, ?_, fun ds vs H' h1 r S' x => ?_⟩
    · unfold xRange1 at q1
      simpa [xCons, xNil] using q1
    · obtain ⟨j, e1, h2, h3, h4⟩ := h1
      subst e1
      cases r with
      | cons r1 r2 =>
        cases r1
        cases r2
        exact ⟨j, rfl, h2, h3, k _ [] _ H' h4 src_range (fun p hp => by cases hp) S' x⟩
def xZip (U : TAD) : TAD := fun γ Q => U γ fun ds => ∃ xs ys, ds = [.lst xs, .lst ys] ∧ Q ((xs.zip ys).map fun p => .tup [p.1, p.2])
theorem xi_zip {elts : List Expr} {kk : Nat} {tpos : Pos} (hK : c.K = X.K) (hm : X.mg "zip" = none) (ha : PA X [e, e2] (LA c true V1)) (hg : Gl X "zip" := by rfl)
    (hs : starEach [e, e2] X.env = (false, eval e X.env) :: starEach [e2] X.env := by rfl) (hpl : (backTo pos (starEach [e2] X.env)).any (·.1) = false := by rfl) : PI X (.Tuple elts kk tpos) (.Call (.Name "zip" p) [e, e2] [] pos) (LI c (xZip V1)) :=
  pi_imp (pi_zip hg hm ha hs hpl) fun _ _ σ H R I q => by
    obtain ⟨gh, γ, Qd, S, q1, k⟩ := q
    refine ⟨gh, γ, _, S, q1, fun ds vs H' h1 r S' x => ?_⟩
    obtain ⟨xs, ys, e1, h1⟩ := h1
    subst e1
    rw [← hK]
    cases r with
    | cons r1 r2 =>
      cases r2 with
      | cons r2 r3 =>
        cases r3
        cases r1 with
        | lst n h s =>
          cases r2 with
          | lst n' h' s' =>
            refine ⟨_, _, _, _, rfl, SqL.of h, SqL.of h', k _ _ _ H' h1 src_zip (fun p hp => ?_) S' x⟩
            rcases List.mem_cons.mp hp with e | hp
            · subst e
              exact .lst n h s
            · rw [List.mem_singleton] at hp
              subst hp
              exact .lst n' h' s'
end

abbrev TGD := D → TL.Env → (TL.Env → Prop) → Prop
/-- two states of slots that differ at js alone -/
def OnlyAt (js : List Nat) (σ σ' : L2.St) : Prop := ∀ vs : List Nat, (∀ j ∈ js, j ∈ vs) → wipe σ' vs = wipe σ vs
theorem wipe_set {σ : L2.St} {i : Nat} {x : Option V} : ∀ {vs : List Nat}, wipe (σ.set i x) vs = if i ∈ vs then wipe σ vs else (wipe σ vs).set i x
  | [] => by simp [wipe]
  | v :: vs => by
    unfold wipe
    rw [wipe_set (vs := vs)]
    by_cases h : i ∈ vs
    · rw [if_pos h, if_pos (List.mem_cons_of_mem _ h)]
    · rw [if_neg h]
      by_cases e : i = v
      · subst e
        rw [if_pos List.mem_cons_self, List.set_set]
      · rw [if_neg (by simp [e, h]), List.set_comm _ _ (fun z => e z)]
theorem OnlyAt.set {σ : L2.St} {i : Nat} {x : Option V} : OnlyAt [i] σ (σ.set i x) := fun vs h => by rw [wipe_set, if_pos (h i (by simp))]
theorem OnlyAt.refl {σ : L2.St} : OnlyAt [] σ σ := fun _ _ => rfl
theorem OnlyAt.trans {js ks : List Nat} {σ σ1 σ2 : L2.St} (a : OnlyAt js σ σ1) (b : OnlyAt ks σ1 σ2) : OnlyAt (js ++ ks) σ σ2 := fun vs h => (b vs fun j hj => h j (List.mem_append_right _ hj)).trans (a vs fun j hj => h j (List.mem_append_left _ hj))
def OnlyD (js : List Nat) (γ γ' : TL.Env) : Prop := ∀ i, i ∉ js → γ'[i]? = γ[i]?
theorem OnlyD.set {γ : TL.Env} {i : Nat} {x : Option Slot} : OnlyD [i] γ (γ.set i x) := fun j h => List.getElem?_set_ne (fun e => h (by simp [e]))
theorem OnlyD.refl {γ : TL.Env} : OnlyD [] γ γ := fun _ _ => rfl
theorem OnlyD.trans {js ks : List Nat} {γ γ1 γ2 : TL.Env} (a : OnlyD js γ γ1) (b : OnlyD ks γ1 γ2) : OnlyD (js ++ ks) γ γ2 := fun i h => (b i fun z => h (List.mem_append_right _ z)).trans (a i fun z => h (List.mem_append_left _ z))
def LG (c : Ct) (js : List Nat) (G : TGD) : TG := fun v σ H Q => ∃ (gh : List (V × D)) (γ : TL.Env) (d : D) (Qd : TL.Env → Prop), SI c gh γ σ H ∧ Rep c.K c.B (MW c γ σ true) H v d ∧ G d γ Qd ∧ ∀ γ' σ', Qd γ' → SI c gh γ' σ' H → OnlyAt js σ σ' → OnlyD js γ γ' → Q σ' H
abbrev TGDs := List D → TL.Env → (TL.Env → Prop) → Prop
def LGs (c : Ct) (js : List Nat) (G : TGDs) : TGs := fun vs σ H Q => ∃ (gh : List (V × D)) (γ : TL.Env) (ds : List D) (Qd : TL.Env → Prop), SI c gh γ σ H ∧ Reps c.K c.B (MW c γ σ true) H vs ds ∧ G ds γ Qd ∧ ∀ γ' σ', Qd γ' → SI c gh γ' σ' H → OnlyAt js σ σ' → OnlyD js γ γ' → Q σ' H
theorem pg_imp {X : Cx} {tg : Expr} {t t' : TG} (h : PG X tg t) (i : ∀ pins s σ H v Q, Inv X pins σ H s → t' v σ H Q → t v σ H Q) : PG X tg t' := ⟨fun pins s σ H v u Q I r q => h.run pins s σ H v u Q I r (i pins s σ H v Q I q)⟩
theorem pgs_imp {X : Cx} {tg : List Expr} {t t' : TGs} (h : PGs X tg t) (i : ∀ pins s σ H v Q, Inv X pins σ H s → t' v σ H Q → t v σ H Q) : PGs X tg t' := ⟨fun pins s σ H v u Q I r q => h.run pins s σ H v u Q I r (i pins s σ H v Q I q)⟩
section
variable {X : Cx} {c : Ct} {w : Bool} {tg e e2 : Expr} {es : List Expr} {T U : TED} {V1 : TAD} {pos p : Pos} {G : TGD} {Gs : TGDs} {js ks : List Nat}
def yName (i : Nat) : TGD := fun d γ Q => Q (γ.set i (some (.val d)))
theorem yg_name {i : Nat} {x : Str} (hN : X.N.Nodup) (hi : X.N[i]? = some x) (hx : Loc X.env.scope x) (hf : X.fn x = true ∨ X.env.scope.names.lookup x = some .local := by first | exact .inl rfl | exact .inr rfl | assumption) : PG X (.Name x pos) (LG c [i] (yName i)) :=
  pg_imp (pg_name hN hi hx hf) fun _ _ σ H v Q I q => by
    obtain ⟨gh, γ, d, Qd, S, r, q1, k⟩ := q
    exact k _ _ q1 (S.setV r) OnlyAt.set OnlyD.set
def yNil : TGDs := fun ds γ Q => ds = [] ∧ Q γ
def yCons (G : TGD) (Gs : TGDs) : TGDs := fun ds γ Q => ∃ d r, ds = d :: r ∧ G d γ fun γ' => Gs r γ' Q
/-- the trees still to come are kept as lasting ones -/
theorem ygs_nil : PGs X [] (LGs c [] yNil) := pgs_imp pgs_nil fun _ _ σ H vs Q I q => by
  obtain ⟨gh, γ, ds, Qd, S, r, ⟨e, q1⟩, k⟩ := q
  subst e
  cases r
  exact ⟨rfl, k _ _ q1 S OnlyAt.refl OnlyD.refl⟩
theorem SI.ghosts {gh : List (V × D)} {γ : TL.Env} {σ : L2.St} {H : Hp} (S : SI c gh γ σ H) {more : List (V × D)} (h : ∀ p ∈ more, Rep c.K c.B (MW c γ σ true) H p.1 p.2) : SI c (more ++ gh) γ σ H :=
  ⟨S.len, S.ext, S.bag, S.pB, S.pL, S.pal, S.val, S.own, S.ins, fun p hp => (List.mem_append.mp hp).elim (h p) (S.gho p), S.fresh, S.sep⟩
theorem SI.unghost {gh more : List (V × D)} {γ : TL.Env} {σ : L2.St} {H : Hp} (S : SI c (more ++ gh) γ σ H) : SI c gh γ σ H :=
  ⟨S.len, S.ext, S.bag, S.pB, S.pL, S.pal, S.val, S.own, S.ins, fun p hp => S.gho p (List.mem_append_right _ hp), S.fresh, S.sep⟩
theorem reps_zip {K : PySem.W.Frag} {B : Addr} {M : Addr → Prop} {H : Hp} : ∀ {vs : List V} {ds : List D}, Reps K B M H vs ds → ∀ p ∈ vs.zip ds, Rep K B M H p.1 p.2
  | _, _, .nil, p, hp => by cases hp
  | _, _, .cons r t, p, hp => by
    rw [List.zip_cons_cons] at hp
    rcases List.mem_cons.mp hp with e | hp
    · subst e
      exact r
    · exact reps_zip t p hp
theorem zip_reps {K : PySem.W.Frag} {B : Addr} {M : Addr → Prop} {H : Hp} : ∀ {vs : List V} {ds : List D}, vs.length = ds.length → (∀ p ∈ vs.zip ds, Rep K B M H p.1 p.2) → Reps K B M H vs ds
  | [], [], _, _ => .nil
  | v :: vs, d :: ds, hl, h => .cons (h (v, d) (by simp)) (zip_reps (by simpa using hl) fun p hp => h p (by rw [List.zip_cons_cons]; exact List.mem_cons_of_mem _ hp))
  | [], _ :: _, hl, _ => by simp at hl
  | _ :: _, [], hl, _ => by simp at hl
theorem ygs_cons (h1 : PG X e (LG c js G)) (h2 : PGs X es (LGs c ks Gs)) (hs : (assignEach (e :: es) X.env).map (·.2) = assign e X.env :: (assignEach es X.env).map (·.2) := by rfl) : PGs X (e :: es) (LGs c (js ++ ks) (yCons G Gs)) :=
  pgs_imp (pgs_cons h1 h2 hs) fun _ _ σ H vs Q I q => by
    obtain ⟨gh, γ, ds, Qd, S, r, ⟨d, ds', e, q1⟩, k⟩ := q
    subst e
    cases r with
    | @cons v _ vs' _ r1 r2 =>
      refine ⟨v, vs', rfl, ?_⟩
      refine ⟨vs'.zip ds' ++ gh, γ, d, _, S.ghosts (reps_zip r2), r1, q1, fun γ' σ' h3 S1 o1 n1 => ?_⟩
      exact ⟨gh, γ', ds', Qd, S1.unghost, zip_reps r2.length (fun p hp => S1.gho p (List.mem_append_left _ hp)), h3, fun γ2 σ2 h4 S2 o2 n2 => k γ2 σ2 h4 S2 (o1.trans o2) (n1.trans n2)⟩
def yTup (n : Nat) (Gs : TGDs) : TGD := fun d γ Q => ∃ ds, d = .tup ds ∧ ds.length = n ∧ Gs ds γ Q
theorem yg_tup {k : Nat} {n : Nat} (hK : c.K = X.K) (hc : X.calm = true) (h : PGs X es (LGs c js Gs)) (hn : (assignEach es X.env).length = n := by rfl) (hst : (assignEach es X.env).findIdx? (·.1) = none := by rfl) : PG X (.Tuple es k pos) (LG c js (yTup n Gs)) :=
  pg_imp (pg_tup hc h hn hst) fun _ _ σ H v Q I q => by
    obtain ⟨gh, γ, d, Qd, S, r, ⟨ds, e, hl, q1⟩, kk⟩ := q
    subst e
    rw [← hK]
    cases r with
    | tup n h s => exact ⟨_, _, rfl, SqT.of h, by rw [s.length]; exact hl, gh, γ, ds, Qd, S, s, q1, kk⟩
    | tupK h s => exact ⟨_, _, rfl, .inr h, by rw [s.length]; exact hl, gh, γ, ds, Qd, S, s, q1, kk⟩
def yLst (n : Nat) (Gs : TGDs) : TGD := fun d γ Q => ∃ ds, d = .lst ds ∧ ds.length = n ∧ Gs ds γ Q
theorem yg_lst {k : Nat} {n : Nat} (hK : c.K = X.K) (hc : X.calm = true) (h : PGs X es (LGs c js Gs)) (hn : (assignEach es X.env).length = n := by rfl) (hst : (assignEach es X.env).findIdx? (·.1) = none := by rfl) : PG X (.Tuple es k pos) (LG c js (yLst n Gs)) :=
  pg_imp (pg_lst hc h hn hst) fun _ _ σ H v Q I q => by
    obtain ⟨gh, γ, d, Qd, S, r, ⟨ds, e, hl, q1⟩, kk⟩ := q
    subst e
    rw [← hK]
    cases r with
    | lst n h s => exact ⟨_, _, rfl, SqL.of h, by rw [s.length]; exact hl, gh, γ, ds, Qd, S, s, q1, kk⟩
/-- target = e -/
def zAsg (T : TED) (G : TGD) : TSD := fun E γ => T γ fun d => G d γ E.nx
theorem z_asg (he : PE X e (LE c true T)) (hg : PG X tg (LG c js G)) (hs : swapsWithSole [tg] e pos.line X.env = pure false := by rfl) (hw : swappedStores [tg] e X.env = pure none := by rfl) (h1 : (assignEach [tg] X.env).map (·.2) = [assign tg X.env] := by rfl) : PS X (.Assign [tg] e pos) (LS c (zAsg T G)) :=
  ps_imp (ps_asg he hg hs hw h1) fun _ _ σ H E I q => by
    obtain ⟨gh, γ, ED, S, q1, k, _⟩ := q
    exact ⟨gh, γ, _, S, q1, fun d v H' h1 r S' x => ⟨gh, γ, d, _, S', r, h1, fun γ' σ' h2 S2 _ _ => k γ' σ' H' h2 S2⟩⟩
/-- a, b = e, e' (no tuple made) -/
def zPar (i j : Nat) (U : TAD) : TSD := fun E γ => U γ fun ds => ∃ d d', ds = [d, d'] ∧ E.nx ((γ.set i (some (.val d))).set j (some (.val d')))
theorem z_par {i j : Nat} {x y : Str} {a b : Expr} {px py pt : Pos} {kt k2 pt2} (hc : X.calm = true) (hN : X.N.Nodup) (hi : X.N[i]? = some x) (hj : X.N[j]? = some y) (hij : i ≠ j)
    (hx : X.env.scope.names.lookup x = some .local) (hy : X.env.scope.names.lookup y = some .local) (ha : PA X [a, b] (LA c true V1))
    (hw : swappedStores [.Tuple [.Name x px, .Name y py] kt pt] (.Tuple [a, b] k2 pt2) X.env = pure (some [x, y]) := by rfl)
    (hs : swapsWithSole [.Tuple [.Name x px, .Name y py] kt pt] (.Tuple [a, b] k2 pt2) pos.line X.env = pure false := by rfl) :
    PS X (.Assign [.Tuple [.Name x px, .Name y py] kt pt] (.Tuple [a, b] k2 pt2) pos) (LS c (zPar i j V1)) := ps_imp (ps_par hc hN hi hj hij hx hy ha hw hs) fun _ _ σ H E I q => by
  obtain ⟨gh, γ, ED, S, q1, k, _⟩ := q
  refine ⟨gh, γ, _, S, q1, fun ds vs H' h1 r S' xx => ?_⟩
  obtain ⟨d, d', e, h2⟩ := h1
  subst e
  cases r with
  | @cons v _ _ _ r1 r2 =>
    cases r2 with
    | @cons v' _ _ _ r2 r3 =>
      cases r3
      have S1 := (S'.ghosts (more := [(v', d')]) (fun p hp => by rw [List.mem_singleton] at hp; subst hp; exact r2)).setV (i := i) r1
      exact ⟨v, v', rfl, k _ _ _ h2 (S1.unghost.setV (S1.gho (v', d') (by simp)))⟩
def zPar3 (i j l : Nat) (U : TAD) : TSD := fun E γ => U γ fun ds => ∃ d d' d2, ds = [d, d', d2] ∧ E.nx (((γ.set i (some (.val d))).set j (some (.val d'))).set l (some (.val d2)))
theorem z_par3 {i j l : Nat} {x y z : Str} {a b b2 : Expr} {px py pz pt : Pos} {kt k2 pt2} (hc : X.calm = true) (hN : X.N.Nodup) (hi : X.N[i]? = some x) (hj : X.N[j]? = some y) (hl : X.N[l]? = some z) (hij : i ≠ j) (hil : i ≠ l) (hjl : j ≠ l)
    (hx : X.env.scope.names.lookup x = some .local) (hy : X.env.scope.names.lookup y = some .local) (hz : X.env.scope.names.lookup z = some .local) (ha : PA X [a, b, b2] (LA c true V1))
    (hw : swappedStores [.Tuple [.Name x px, .Name y py, .Name z pz] kt pt] (.Tuple [a, b, b2] k2 pt2) X.env = pure (some [x, y, z]) := by rfl)
    (hs : swapsWithSole [.Tuple [.Name x px, .Name y py, .Name z pz] kt pt] (.Tuple [a, b, b2] k2 pt2) pos.line X.env = pure false := by rfl) :
    PS X (.Assign [.Tuple [.Name x px, .Name y py, .Name z pz] kt pt] (.Tuple [a, b, b2] k2 pt2) pos) (LS c (zPar3 i j l V1)) := ps_imp (ps_par3 hc hN hi hj hl hij hil hjl hx hy hz ha hw hs) fun _ _ σ H E I q => by
  obtain ⟨gh, γ, ED, S, q1, k, _⟩ := q
  refine ⟨gh, γ, _, S, q1, fun ds vs H' h1 r S' xx => ?_⟩
  obtain ⟨d, d', d2, e, h2⟩ := h1
  subst e
  cases r with
  | @cons v _ _ _ r1 r2 =>
    cases r2 with
    | @cons v' _ _ _ r2 r3 =>
      cases r3 with
      | @cons v2 _ _ _ r3 r4 =>
        cases r4
        have S1 := (S'.ghosts (more := [(v', d'), (v2, d2)]) (fun p hp => by
          rcases List.mem_cons.mp hp with e | hp
          · subst e
            exact r2
          · rw [List.mem_singleton] at hp
            subst hp
            exact r3)).setV (i := i) r1
        have S2 := S1.setV (i := j) (S1.gho (v', d') (by simp))
        exact ⟨v, v', v2, rfl, k _ _ _ h2 (S2.unghost.setV (S2.gho (v2, d2) (by simp)))⟩

def forD (body : TSD) (G : TGD) (E : EndsD) : List D → TL.Env → Prop
  | [], γ => E.nx γ
  | d :: ds, γ => G d γ fun γ' => body { nx := forD body G E ds, rt := E.rt, bk := E.nx, ct := forD body G E ds } γ'
def zFor (Ti : TAD) (G : TGD) (body : TSD) : TSD := fun E γ => Ti γ fun ds => forD body G E ds γ
theorem SI.newAny {gh : List (V × D)} {γ : TL.Env} {σ : L2.St} {H H' : Hp} (S : SI c gh γ σ H) (h : H' = H ∨ ∃ t o, H t = none ∧ H' = upd H t o) : SI c gh γ σ H' ∧ Ext c.B H H' := by
  rcases h with h | ⟨t, o, h1, h2⟩
  · subst h
    exact ⟨S, Ext.refl _⟩
  · subst h2
    exact ⟨S.new h1, Ext.new h1⟩
theorem z_for {iter : Expr} {body : List Stmt} {Ti : TAD} {Tb : TSD} (hp : PassesOwn (model X.prog X.w) X.A X.env X.xe) (hc : X.calm = true) (hi : PI X tg iter (LI c Ti)) (hg : PG X tg (LG c js G)) (hb : PSs X body (LS c Tb))
    (hs : ∀ x, foldedSetIterable iter X.env x = pure x := by intro _; rfl) : PS X (.For tg iter body [] pos) (LS c (zFor Ti G Tb)) := ps_imp (ps_for hp hc hi hg hb hs) fun _ _ σ H E I q => by
  obtain ⟨gh, γ, ED, S, q1, k1, k2, k3, k4⟩ := q
  refine ⟨gh, γ, _, S, q1, fun ds gs J H1 h1 src hgs S1 x1 => ?_⟩
  refine ⟨fun i m σ H => m = ds.length - i ∧ i ≤ ds.length ∧ ∃ γ, SI c (gs ++ gh) γ σ H ∧ forD Tb G ED (ds.drop i) γ, ⟨ds.length, by simp, Nat.zero_le _, γ, S1.ghosts hgs, by simpa using h1⟩, ?_⟩
  rintro i m σ2 H2 ⟨rfl, hle, γ2, S2, q2⟩
  obtain ⟨yes, no⟩ := src (MW c γ2 σ2 true) H2 (fun a ha => S2.alive ha) fun p hp => S2.gho p (List.mem_append_left _ hp)
  by_cases hlt : i < ds.length
  · have hd : ds[i]? = some ds[i] := List.getElem?_eq_getElem hlt
    obtain ⟨go, step⟩ := yes i _ hd
    refine .inr ⟨go, fun σ' H' => ∃ γ', SI c (gs ++ gh) γ' σ' H' ∧ forD Tb G ED (ds.drop (i + 1)) γ', fun σ' H' ⟨γ', S', q'⟩ => ⟨ds.length - (i + 1), by omega, rfl, hlt, γ', S', q'⟩, fun x H3 y => ?_⟩
    obtain ⟨nw, r⟩ := step x H3 y
    obtain ⟨S3, x3⟩ := S2.newAny nw
    rw [List.drop_eq_getElem_cons hlt] at q2
    refine ⟨gs ++ gh, γ2, ds[i], _, S3, r, q2, fun γ' σ' h4 S4 _ _ => ?_⟩
    exact ⟨gs ++ gh, γ', _, S4, h4, fun γ5 σ5 H5 h5 S5 => ⟨γ5, S5, h5⟩, k2, fun γ5 σ5 H5 h5 S5 => k1 γ5 σ5 H5 h5 S5.unghost, fun γ5 σ5 H5 h5 S5 => ⟨γ5, S5, h5⟩⟩
  · have e : i = ds.length := by omega
    subst e
    rw [List.drop_length] at q2
    exact .inl ⟨no _ (Nat.le_refl _), k1 γ2 σ2 H2 q2 S2.unghost⟩

def whileD (Tt : TTD) (body : TSD) (E : EndsD) : Nat → TL.Env → Prop
  | 0, _ => False
  | n + 1, γ => Tt γ fun k => if k = true then body { nx := whileD Tt body E n, rt := E.rt, bk := E.nx, ct := whileD Tt body E n } γ else E.nx γ
def zWhile (Tt : TTD) (body : TSD) : TSD := fun E γ => ∃ n, whileD Tt body E n γ
theorem z_while {t : Expr} {body : List Stmt} {Tt : TTD} {Tb : TSD} (hp : PassesOwn (model X.prog X.w) X.A X.env X.xe) (ht : PT X t (LT c Tt)) (hb : PSs X body (LS c Tb)) : PS X (.While t body [] pos) (LS c (zWhile Tt Tb)) := ps_imp (ps_while hp ht hb) fun _ _ σ H E I q => by
  obtain ⟨gh, γ, ED, S, ⟨n, q1⟩, k1, k2, k3, k4⟩ := q
  refine ⟨fun m σ H => ∃ γ, SI c gh γ σ H ∧ whileD Tt Tb ED m γ, ⟨n, γ, S, q1⟩, ?_⟩
  rintro m σ2 H2 ⟨γ2, S2, q2⟩
  cases m with
  | zero => exact q2.elim
  | succ m =>
    refine ⟨gh, γ2, _, S2, q2, fun b H3 h3 S3 x3 => ?_⟩
    cases b with
    | true =>
      refine iteT ⟨_, fun σ' H' n => n, gh, γ2, { nx := whileD Tt Tb ED m, rt := ED.rt, bk := ED.nx, ct := whileD Tt Tb ED m }, S3, by simpa using h3, fun γ5 σ5 H5 h5 S5 => ⟨m, Nat.lt_succ_self m, γ5, S5, h5⟩, k2, fun γ5 σ5 H5 h5 S5 => k1 γ5 σ5 H5 h5 S5, fun γ5 σ5 H5 h5 S5 => ⟨m, Nat.lt_succ_self m, γ5, S5, h5⟩⟩
    | false => exact iteF (k1 γ2 σ2 H3 (by simpa using h3) S3)
end
end TL
set_option Elab.async false
set_option linter.all false
set_option maxRecDepth 100000
set_option maxHeartbeats 2000000
namespace TL
open PySem L2 PySem.Spec PyProof.Rows

theorem pts_imp {X : Cx} {ifs : List Expr} {t t' : TT} (h : PTs X ifs t) (i : ∀ pins s σ H Q, Inv X pins σ H s → t' σ H Q → t σ H Q) : PTs X ifs t' := ⟨fun pins s σ H Q I q => h.run pins s σ H Q I (i pins s σ H Q I q)⟩
def xYes : TTD := fun _ Q => Q true
section
variable {X : Cx} {c : Ct} {w : Bool} {tg e iter elt : Expr} {es : List Expr} {T U : TED} {V1 : TAD} {pos p : Pos} {G : TGD} {Tt : TTD}
theorem xts_nil : PTs X [] (LT c xYes) := pts_imp pts_nil fun _ _ σ H Q I q => by
  obtain ⟨gh, γ, Qd, S, q1, k⟩ := q
  exact k true H q1 S (Ext.refl H)
theorem xts_one (h : PT X e (LT c Tt)) : PTs X [e] (LT c Tt) := pts_one h

/-- the block's context: the new list at D is protected -/
def Ct.at (c : Ct) (A : Addr) : Ct := { c with P := fun a => c.P a ∨ a = A }
def wipeD (γ : TL.Env) : List Nat → TL.Env
  | [] => γ
  | v :: vs => (wipeD γ vs).set v none
def lcD (G : TGD) (Tt : TTD) (Te : TED) (γ : TL.Env) : List D → List D → (List D → Prop) → Prop
  | [], acc, Q => Q acc
  | d :: ds, acc, Q => G d γ fun γ' => Tt γ' fun b => if b = true then Te γ' fun y => lcD G Tt Te γ ds (acc ++ [y]) Q else lcD G Tt Te γ ds acc Q
def xLc (Ti : TAD) (G : TGD) (Tt : TTD) (Te : TED) (vs : List Nat) : TAD := fun γ Q => Ti γ fun ds => ds.length < sizeLine ∧ wipeD γ vs = γ ∧ lcD G Tt Te γ ds [] Q
theorem wipeD_len (γ : TL.Env) : ∀ vs, (wipeD γ vs).length = γ.length
  | [] => rfl
  | v :: vs => by unfold wipeD; rw [List.length_set, wipeD_len γ vs]
theorem wipe_get {γ : TL.Env} {σ : L2.St} {i : Nat} {s : Slot} : ∀ {vs : List Nat}, (wipeD γ vs)[i]? = some (some s) → γ[i]? = some (some s) ∧ (wipe σ vs)[i]? = σ[i]?
  | [], h => ⟨h, rfl⟩
  | v :: vs, h => by
    unfold wipeD at h
    rcases set_at h with ⟨_, _, e⟩ | ⟨hi, h⟩
    · cases e
    · obtain ⟨h1, h2⟩ := wipe_get (σ := σ) h
      refine ⟨h1, ?_⟩
      unfold wipe
      rw [List.getElem?_set_ne hi, h2]
theorem wipe_hit {γ : TL.Env} {i : Nat} : ∀ {vs : List Nat}, i ∈ vs → ∀ s : Slot, (wipeD γ vs)[i]? ≠ some (some s)
  | v :: vs, h, s, e => by
    unfold wipeD at e
    rcases set_at e with ⟨_, _, z⟩ | ⟨hi, e⟩
    · cases z
    · rcases List.mem_cons.mp h with z | z
      · exact hi z.symm
      · exact wipe_hit z s e
theorem own_wipe {γ : TL.Env} {σ : L2.St} {vs : List Nat} {a : Addr} (hw : wipeD γ vs = γ) : OwnAt γ (wipe σ vs) a ↔ OwnAt γ σ a := by
  constructor
  · rintro ⟨i, s, h1, h2, h3⟩
    obtain ⟨_, e⟩ := wipe_get (σ := σ) (vs := vs) (by rw [hw]; exact h1)
    exact ⟨i, s, h1, h2, by rw [← e]; exact h3⟩
  · rintro ⟨i, s, h1, h2, h3⟩
    obtain ⟨_, e⟩ := wipe_get (σ := σ) (vs := vs) (by rw [hw]; exact h1)
    exact ⟨i, s, h1, h2, by rw [e]; exact h3⟩
theorem SI.wiped {gh : List (V × D)} {γ : TL.Env} {σ : L2.St} {H : Hp} {vs : List Nat} (S : SI c gh γ σ H) (hw : wipeD γ vs = γ) : SI c gh γ (wipe σ vs) H := by
  have less : ∀ a, MW c γ (wipe σ vs) true a → MW c γ σ true a := fun a m => m.imp id fun m => ⟨m.1, (own_wipe hw).mp m.2⟩
  have at_ : ∀ {i : Nat} {s : Slot}, γ[i]? = some (some s) → (wipe σ vs)[i]? = σ[i]? := fun {i s} h => (wipe_get (σ := σ) (vs := vs) (by rw [hw]; exact h)).2
  refine ⟨by rw [wipe_length]; exact S.len, S.ext, S.bag, S.pB, S.pL, S.pal, fun i d h => ?_, fun i xs h => ?_, fun i C gs h => ?_, fun p hp => (S.gho p hp).less less, fun p hp => S.fresh p ((own_wipe hw).mp hp), fun i j s t p h1 h2 h3 h4 h5 h6 => ?_⟩
  · obtain ⟨v, h1, h2⟩ := S.val i d h
    exact ⟨v, by rw [at_ h]; exact h1, h2.less less⟩
  · obtain ⟨p, us, h1, h2, h3⟩ := S.own i xs h
    exact ⟨p, us, by rw [at_ h]; exact h1, h2, h3.less less⟩
  · obtain ⟨p, dx, fs, h1, h2, h3⟩ := S.ins i C gs h
    exact ⟨p, dx, fs, by rw [at_ h]; exact h1, h2, h3.less less⟩
  · rw [at_ h1] at h3
    rw [at_ h4] at h6
    exact S.sep i j s t p h1 h2 h3 h4 h5 h6
theorem mw_at {γ : TL.Env} {σ : L2.St} {w : Bool} {A a : Addr} : MW (c.at A) γ σ w a ↔ MW c γ σ w a ∨ a = A := by
  unfold MW Ct.at
  constructor
  · rintro ((h | h) | h)
    · exact .inl (.inl h)
    · exact .inr h
    · exact .inl (.inr h)
  · rintro ((h | h) | h)
    · exact .inl (.inl h)
    · exact .inr h
    · exact .inl (.inr h)
/-- a new list is laid and protected -/
theorem SI.guard {gh : List (V × D)} {γ : TL.Env} {σ : L2.St} {H : Hp} {A : Addr} {o : HO} (S : SI c gh γ σ H) (hA : H A = none) : SI (c.at A) gh γ σ (L2.upd H A o) := by
  have fr : ∀ a, MW (c.at A) γ σ true a → MW c γ σ true a ∨ H a = none := fun a m => (mw_at.mp m).imp id fun z => by rw [z]; exact hA
  have mB : MW (c.at A) γ σ true c.B := mw_at.mpr (.inl (S.mB true))
  have x : Ext c.B H (L2.upd H A o) := Ext.new hA
  refine ⟨S.len, S.ext.trans x, S.bag.new hA, .inl S.pB, .inl S.pL, fun a ha z => ?_, fun i d h => ?_, fun i xs h => ?_, fun i C gs h => ?_, fun p hp => ((S.gho p hp).grow fr).ext mB x, fun p hp => ⟨(S.fresh p hp).1, fun z => ?_⟩, S.sep⟩
  · rcases ha with ha | ha
    · by_cases hb : a = A
      · rw [hb, upd_same] at z
        cases z
      · rw [upd_ne hb] at z
        exact S.pal a ha z
    · rw [ha, upd_same] at z
      cases z
  · obtain ⟨v, h1, h2⟩ := S.val i d h
    exact ⟨v, h1, (h2.grow fr).ext mB x⟩
  · obtain ⟨p, vs, h1, h2, h3⟩ := S.own i xs h
    exact ⟨p, vs, h1, x _ _ (S.ownNe ⟨i, _, h, rfl, h1⟩) h2, (h3.grow fr).ext mB x⟩
  · obtain ⟨p, dx, fs, h1, h2, h3⟩ := S.ins i C gs h
    exact ⟨p, dx, fs, h1, ⟨h2.1, x _ _ (S.ownNe ⟨i, _, h, rfl, h1⟩) h2.2⟩, (h3.grow fr).ext mB x⟩
  · rcases z with z | z
    · exact (S.fresh p hp).2 z
    · exact S.alive (w := true) (.inr ⟨rfl, hp⟩) (by rw [z]; exact hA)
/-- a protected object (not the bag) is changed -/
theorem SI.putP {gh : List (V × D)} {γ : TL.Env} {σ : L2.St} {H : Hp} {A : Addr} {o : HO} (S : SI c gh γ σ H) (hp : c.P A) (h0 : c.H0 A = none) (hb : A ≠ c.B) (hl : A ≠ c.L) : SI c gh γ σ (L2.upd H A o) :=
  S.step (S.ext.mut h0) (S.bag.put hb hl) (fun a ha z => by
    by_cases hA : a = A
    · rw [hA, upd_same] at z
      cases z
    · rw [upd_ne hA] at z
      exact S.pal a ha z) fun a u n h => by
    rw [upd_ne fun z => n (by rw [z]; exact hp)]
    exact h
def teAll (c : Ct) (w : Bool) (T : TED) : TE := fun σ H Q => ∃ A : Addr, LE (c.at A) w T σ H Q
def ttAll (c : Ct) (T : TTD) : TT := fun σ H Q => ∃ A : Addr, LT (c.at A) T σ H Q
def tgAll (c : Ct) (js : List Nat) (G : TGD) : TG := fun v σ H Q => ∃ A : Addr, LG (c.at A) js G v σ H Q
theorem lc_lift {Ti : TAD} {Te : TED} {js vs : List Nat} (hj : ∀ j ∈ js, j ∈ vs) {σ : L2.St} {H : Hp} {Q : VK} (q : LF c w (xLc Ti G Tt Te vs) σ H Q) : tLc (LI c Ti) (tgAll c js G) (ttAll c Tt) (teAll c w Te) vs σ H Q := by
  obtain ⟨gh, γ, Qd, S, q1, k⟩ := q
  refine ⟨gh, γ, _, S, q1, fun ds gs J H1 h1 src hgs S1 x1 A hA => ?_⟩
  obtain ⟨hz, hw, h1⟩ := h1
  have hAB : A ≠ c.B := S1.newNe hA
  have hAL : A ≠ c.L := fun z => S1.pal c.L S1.pL (by rw [← z]; exact hA)
  have hA0 : c.H0 A = none := S1.ext.free hAB hA
  have G1 : SI (c.at A) (gs ++ gh) γ (wipe σ vs) (upd H1 A (.lst [])) := ((S1.ghosts hgs).guard hA).wiped hw
  refine ⟨fun i m H => m = ds.length - i ∧ i ≤ ds.length ∧ ∃ acc us, SI (c.at A) (gs ++ gh) γ (wipe σ vs) H ∧ H A = some (.lst us) ∧ Reps c.K c.B (MW (c.at A) γ (wipe σ vs) w) H us acc ∧ Ext c.B H1 H ∧ acc.length ≤ i ∧ lcD G Tt Te γ (ds.drop i) acc Qd,
    ⟨ds.length, by simp, Nat.zero_le _, [], [], G1, upd_same, .nil, Ext.new hA, Nat.le_refl _, by simpa using h1⟩, ?_⟩
  rintro i m H2 ⟨rfl, hle, acc, us, S2, a2, r2, x2, hl, q2⟩
  obtain ⟨yes, no⟩ := src (MW (c.at A) γ (wipe σ vs) true) H2 (fun a ha => S2.alive ha) fun p hp => S2.gho p (List.mem_append_left _ hp)
  by_cases hlt : i < ds.length
  · have hd : ds[i]? = some ds[i] := List.getElem?_eq_getElem hlt
    obtain ⟨go, step⟩ := yes i _ hd
    refine .inr ⟨go, fun H' => ∃ acc us, SI (c.at A) (gs ++ gh) γ (wipe σ vs) H' ∧ H' A = some (.lst us) ∧ Reps c.K c.B (MW (c.at A) γ (wipe σ vs) w) H' us acc ∧ Ext c.B H1 H' ∧ acc.length ≤ i + 1 ∧ lcD G Tt Te γ (ds.drop (i + 1)) acc Qd,
      fun H' ⟨acc', us', z⟩ => ⟨ds.length - (i + 1), by omega, rfl, hlt, acc', us', z⟩, fun x H3 y => ?_⟩
    obtain ⟨nw, r⟩ := step x H3 y
    obtain ⟨S3, x3⟩ := S2.newAny nw
    rw [List.drop_eq_getElem_cons hlt] at q2
    refine ⟨A, gs ++ gh, γ, ds[i], _, S3, r, q2, fun γ' σ' h4 S4 o4 n4 => ?_⟩
    refine ⟨(o4 vs hj).trans (by
      have z : ∀ vs : List Nat, wipe (wipe σ vs) vs = wipe σ vs := fun vs => by
        have key : ∀ (l : List Nat) (σ : L2.St), (∀ j ∈ l, ∀ x : Option V, σ[j]? = some x → x = none) → wipe σ l = σ := by
          intro l
          induction l with
          | nil => intro σ _; rfl
          | cons v l ih =>
            intro σ hn
            unfold wipe
            rw [ih σ fun j hj => hn j (List.mem_cons_of_mem _ hj)]
            refine List.ext_getElem? fun n => ?_
            by_cases e : v = n
            · subst e
              by_cases hlt : v < σ.length
              · rw [List.getElem?_set_self hlt, List.getElem?_eq_getElem hlt]
                rw [hn v List.mem_cons_self _ (List.getElem?_eq_getElem hlt)]
              · rw [List.getElem?_eq_none (by simpa using hlt), List.getElem?_eq_none (by simpa using hlt)]
            · rw [List.getElem?_set_ne e]
        refine key vs _ fun j hj x hx => ?_
        cases x with
        | none => rfl
        | some v => exact absurd hj (wipe_some hx).2
      exact z vs), ?_⟩
    refine ⟨A, gs ++ gh, γ', _, S4, h4, fun b H5 h5 S5 x5 => ?_⟩
    have S5' : SI (c.at A) (gs ++ gh) γ (wipe σ vs) H5 := S3.later x5 S5.bag
    have e5 : H5 A = some (.lst us) := x5 _ _ hAB (x3 _ _ hAB a2)
    have r5 : Reps c.K c.B (MW (c.at A) γ (wipe σ vs) w) H5 us acc := (r2.ext (S2.mB w) x3).ext (S3.mB w) x5
    cases b with
    | false =>
      refine iteF ⟨acc, us, S5', e5, r5, (x2.trans x3).trans x5, by omega, by simpa using h5⟩
    | true =>
      refine iteT ⟨A, gs ++ gh, γ', _, S5, (by simpa using h5), fun d v H6 h6 r6 S6 x6 => ?_⟩
      have S6' := S5'.later x6 S6.bag
      have mB : MW (c.at A) γ (wipe σ vs) w c.B := S3.mB w
      refine ⟨us, x6 _ _ hAB e5, by
        rw [r2.length]
        omega, acc ++ [d], us ++ [v], S6'.putP (.inr rfl) hA0 hAB hAL, upd_same, ?_, ?_, by rw [List.length_append]; exact Nat.succ_le_succ hl, h6⟩
      · refine (((r5.ext mB x6).append (.cons (r6.less fun a m => ?_) .nil)) : Reps c.K c.B (MW (c.at A) γ (wipe σ vs) w) H6 (us ++ [v]) (acc ++ [d])).mono (put_q (.inl (.inr rfl)))
        rcases m with m | ⟨m, i, s, z1, z2, z3⟩
        · exact .inl m
        · have iv : i ∉ vs := fun z => by
            have e := wipe_hit (γ := γ) z
            rw [hw, z1] at e
            exact e s rfl
          refine .inr ⟨m, i, s, by rw [n4 i fun z => iv (hj i z)]; exact z1, z2, ?_⟩
          have e := congrArg (fun l : L2.St => l[i]?) (o4 vs hj)
          simp only [wipe_out iv] at e
          rw [e]
          rw [wipe_out iv] at z3
          exact z3
      · exact (((x2.trans x3).trans x5).trans x6).mut hA
  · have e : i = ds.length := by omega
    subst e
    rw [List.drop_length] at q2
    refine .inl ⟨no _ (Nat.le_refl _), ?_⟩
    refine k acc A us H2 q2 (x1.free hAB hA) a2 ?_ (S1.later x2 S2.bag) (x1.trans x2)
    refine r2.less fun a m => ?_
    refine (mw_at.mpr ?_ : MW (c.at A) γ (wipe σ vs) w a)
    refine m.imp (fun z => z.imp id fun z => ⟨z.1, (own_wipe hw).mpr z.2⟩) id
variable {scope : Scope} {own : List (Str × Nat)} {ifs : List Expr} {Ti : TAD} {Te : TED} {js : List Nat}
theorem xf_lc (hc : X.calm = true) (hN : X.N.Nodup) (hi : PI X tg iter (LI c Ti)) (ok : BlkOk X.N X.env.scope scope own) (hj : ∀ j ∈ js, j ∈ own.map (·.2))
    (hg : ∀ (s : Shared) (H : Hp) (C : Addr) (cl : List (Str × Addr)) (fp : List Addr) (A : Addr), PG (X.blk s H scope (compEnvC scope cl C X.env) fp) tg (LG (c.at A) js G))
    (ht : ∀ (s : Shared) (H : Hp) (C : Addr) (cl : List (Str × Addr)) (fp : List Addr) (A : Addr), PTs (X.blk s H scope (compEnvC scope cl C X.env) fp) ifs (LT (c.at A) Tt))
    (he : ∀ (s : Shared) (H : Hp) (C : Addr) (cl : List (Str × Addr)) (fp : List Addr) (A : Addr), PE (X.blk s H scope (compEnvC scope cl C X.env) fp) elt (LE (c.at A) w Te))
    (hs : ∀ x, foldedSetIterable iter X.env x = pure x := by intro _; rfl) : PE X (.ListComp elt [⟨tg, iter, ifs, 0⟩] scope pos) (LF c w (xLc Ti G Tt Te (own.map (·.2)))) :=
  pe_imp (pe_lc (g := tgAll c js G) (tt := ttAll c Tt) (te := teAll c w Te) hc hN hi ok (fun s H C cl fp => ⟨fun pins s' σ H' v u Q I r ⟨A, q⟩ => (hg s H C cl fp A).run pins s' σ H' v u Q I r q⟩)
    (fun s H C cl fp => ⟨fun pins s' σ H' Q I ⟨A, q⟩ => (ht s H C cl fp A).run pins s' σ H' Q I q⟩) (fun s H C cl fp => ⟨fun pins s' σ H' Q I ⟨A, q⟩ => (he s H C cl fp A).run pins s' σ H' Q I q⟩) hs)
    fun _ _ _ _ _ _ q => lc_lift hj q
theorem new_lift {T : TAD} {σ : L2.St} {H : Hp} {Q : VK} (q : LE c w (xNew T) σ H Q) : LF c w T σ H Q := by
  obtain ⟨gh, γ, Qd, S, q1, k⟩ := q
  exact ⟨gh, γ, _, S, q1, fun ds p vs H' h1 n e r S' x => k _ _ H' h1 (.lst (S.notM n) e (r.less fun a m => .inl m)) S' x⟩
/-- y = [..] -/
theorem z_lc {i : Nat} {y : Str} {py spos : Pos} (hc : X.calm = true) (hN : X.N.Nodup) (hy : X.N[i]? = some y) (hyl : X.env.scope.names.lookup y = some .local)
    (hsw : swapsWith (.ListComp elt [⟨tg, iter, ifs, 0⟩] scope pos) (some (.Name y py)) spos.line X.env = pure true) (hi : PI X tg iter (LI c Ti)) (ok : BlkOk X.N X.env.scope scope own) (hj : ∀ j ∈ js, j ∈ own.map (·.2))
    (hg : ∀ (s : Shared) (H : Hp) (C : Addr) (cl : List (Str × Addr)) (fp : List Addr) (A : Addr), PG (X.blk s H scope (compEnvC scope cl C X.env) fp) tg (LG (c.at A) js G))
    (ht : ∀ (s : Shared) (H : Hp) (C : Addr) (cl : List (Str × Addr)) (fp : List Addr) (A : Addr), PTs (X.blk s H scope (compEnvC scope cl C X.env) fp) ifs (LT (c.at A) Tt))
    (he : ∀ (s : Shared) (H : Hp) (C : Addr) (cl : List (Str × Addr)) (fp : List Addr) (A : Addr), PE (X.blk s H scope (compEnvC scope cl C X.env) fp) elt (LE (c.at A) true Te))
    (hs : ∀ x, foldedSetIterable iter X.env x = pure x := by intro _; rfl) : PS X (.Assign [.Name y py] (.ListComp elt [⟨tg, iter, ifs, 0⟩] scope pos) spos) (LS c (zSet i (xNew (xLc Ti G Tt Te (own.map (·.2)))))) :=
  z_set_of (ta := tAsg (LE c true (xNew (xLc Ti G Tt Te (own.map (·.2))))) (gName i)) (ps_imp (ps_setLc (g := tgAll c js G) (tt := ttAll c Tt) (te := teAll c true Te) hc hN hy hyl hsw hi ok (fun s H C cl fp => ⟨fun pins s' σ H' v u Q I r ⟨A, q⟩ => (hg s H C cl fp A).run pins s' σ H' v u Q I r q⟩)
    (fun s H C cl fp => ⟨fun pins s' σ H' Q I ⟨A, q⟩ => (ht s H C cl fp A).run pins s' σ H' Q I q⟩) (fun s H C cl fp => ⟨fun pins s' σ H' Q I ⟨A, q⟩ => (he s H C cl fp A).run pins s' σ H' Q I q⟩) hs)
    fun _ _ _ _ _ _ q => lc_lift (w := true) hj (new_lift q))

variable {o e2 : Expr} {apos cpos : Pos}
def xSplit (T U : TED) : TAD := fun γ Q => T γ fun x => ∃ a, x = .str a ∧ U γ fun y => ∃ b, y = .str b ∧ (b.length == 0) = false ∧ a.length + 2 ≤ sizeLine ∧ Q ((Txt.split a b).map D.str)
theorem strs_rep {M : Addr → Prop} {H : Hp} : ∀ ys : List Str, Reps c.K c.B M H (ys.map V.str) (ys.map D.str)
  | [] => .nil
  | y :: ys => .cons (.str y) (strs_rep ys)
theorem rep_strs {M : Addr → Prop} {H : Hp} : ∀ {ys : List Str} {vs : List V}, Reps c.K c.B M H vs (ys.map D.str) → vs = ys.map V.str
  | [], _, .nil => rfl
  | y :: ys, _, .cons r t => by
    cases r
    rw [rep_strs t]
    rfl
end
end TL
set_option Elab.async false
set_option linter.all false
set_option maxRecDepth 100000
set_option maxHeartbeats 2000000
namespace TL
open PySem L2 PySem.Spec PyProof.Rows

inductive Ty6 where
  | non | bl | int | str | lst | tup
deriving DecidableEq
def Ty6.name : Ty6 → String
  | .non => "NoneType" | .bl => "bool" | .int => "int" | .str => "str" | .lst => "list" | .tup => "tuple"
def Ty6.isa : Ty6 → Ty6 → Bool
  | .non, .non => true | .bl, .bl => true | .int, .int => true | .str, .str => true | .lst, .lst => true | .tup, .tup => true
  | .bl, .int => true
  | _, _ => false
theorem Ty6.kit : ∀ a b : Ty6, b ≠ .non → kitB a.name b.name = some (a.isa b)
  | .non, .bl, _ => by decide +kernel
  | .non, .int, _ => by decide +kernel
  | .non, .str, _ => by decide +kernel
  | .non, .lst, _ => by decide +kernel
  | .non, .tup, _ => by decide +kernel
  | .bl, .bl, _ => by decide +kernel
  | .bl, .int, _ => by decide +kernel
  | .bl, .str, _ => by decide +kernel
  | .bl, .lst, _ => by decide +kernel
  | .bl, .tup, _ => by decide +kernel
  | .int, .bl, _ => by decide +kernel
  | .int, .int, _ => by decide +kernel
  | .int, .str, _ => by decide +kernel
  | .int, .lst, _ => by decide +kernel
  | .int, .tup, _ => by decide +kernel
  | .str, .bl, _ => by decide +kernel
  | .str, .int, _ => by decide +kernel
  | .str, .str, _ => by decide +kernel
  | .str, .lst, _ => by decide +kernel
  | .str, .tup, _ => by decide +kernel
  | .lst, .bl, _ => by decide +kernel
  | .lst, .int, _ => by decide +kernel
  | .lst, .str, _ => by decide +kernel
  | .lst, .lst, _ => by decide +kernel
  | .lst, .tup, _ => by decide +kernel
  | .tup, .bl, _ => by decide +kernel
  | .tup, .int, _ => by decide +kernel
  | .tup, .str, _ => by decide +kernel
  | .tup, .lst, _ => by decide +kernel
  | .tup, .tup, _ => by decide +kernel
  | _, .non, h => absurd rfl h
def D.ty6 : D → Option Ty6
  | .non => some .non | .bl _ => some .bl | .int _ => some .int | .str _ => some .str | .lst _ => some .lst | .tup _ => some .tup
  | _ => none
theorem rep_ty {K : PySem.W.Frag} {B : Addr} {M : Addr → Prop} {H : Hp} {v : V} {d : D} {t : Ty6} (r : Rep K B M H v d) (h : d.ty6 = some t) : TyX K H v (.type t.name) := by
  cases r with
  | non => cases h; exact .base .non
  | bl b => cases h; exact .base (.bl b)
  | int i => cases h; exact .base (.int i)
  | str x => cases h; exact .base (.str x)
  | lst n e s => cases h; exact .base (.lst e)
  | tup n e s => cases h; exact .base (.tup e)
  | tupK k s =>
    cases h
    obtain ⟨o, its, n, e, cl, _⟩ := k
    exact .kTuple e cl
  | _ => cases h
section
variable {X : Cx} {c : Ct} {w : Bool} {a b e e2 o : Expr} {es : List Expr} {T U : TED} {V1 : TAD} {pos p apos cpos : Pos} {x f : Str}
/-- a built-in type's name -/
theorem xd_tyn {n : String} (hm : X.mg x = none) (hv : bootBuiltins x = some (.type n)) (hg : Gl X x := by rfl) (hn : x ≠ "__name__" := by decide) (hd : (x == ("__debug__" : Str)) = false := by decide) : PE X (.Name x pos) (LE c w (xC (.ty n))) :=
  xd_c (pe_bltn (v := .ty n) hg hm hv rfl hn hd) fun _ _ => .ty n
/-- a global -/
theorem xd_glob {v : V} {u : Value} {d : D} (hm : X.mg x = some u) (rv : RelV v u) (r : ∀ M H, Rep c.K c.B M H v d) (hg : Gl X x := by rfl) (hd : (x == ("__debug__" : Str)) = false := by decide) : PE X (.Name x pos) (LE c w (xC d)) := xd_c (pe_glob hg hm rv hd) r
def dIsi : ClD
  | [d, .ty n], Q => ∃ s t : Ty6, d.ty6 = some s ∧ t ≠ .non ∧ n = Ty6.name t ∧ Q (.bl (s.isa t))
  | [d, .tup cs], Q => ∃ (s : Ty6) (ts : List Ty6), d.ty6 = some s ∧ (∀ t ∈ ts, t ≠ .non) ∧ cs = ts.map (fun t => D.ty (Ty6.name t)) ∧ Q (.bl (ts.any s.isa))
  | _, _ => False
theorem tys_rep {M : Addr → Prop} {H : Hp} : ∀ {ts : List Ty6} {vs : List V}, Reps c.K c.B M H vs (ts.map fun t => D.ty (Ty6.name t)) → vs = ts.map fun t => V.ty (Ty6.name t)
  | [], _, .nil => rfl
  | t :: ts, _, .cons r rr => by
    cases r
    rw [tys_rep rr]
    rfl
theorem tys_cls : ∀ ts : List Ty6, Paired ClsV (ts.map fun t => V.ty (Ty6.name t)) (ts.map fun t => Value.type (Ty6.name t))
  | [] => .nil
  | t :: ts => .cons (.ty _) (tys_cls ts)
theorem tys_any {K : PySem.W.Frag} (s : Ty6) : ∀ ts : List Ty6, (∀ t ∈ ts, t ≠ .non) → PySem.W.kitAny K (.type s.name) (ts.map fun t => Value.type (Ty6.name t)) = some (ts.any s.isa)
  | [], _ => kitAny_nil
  | t :: ts, h => kitAny_cons (kit_ty (Ty6.kit s t (h t (by simp)))) (fun z => by rw [List.any_cons, z, Bool.false_or]; exact tys_any s ts fun u hu => h u (List.mem_cons_of_mem _ hu)) fun z => by rw [List.any_cons, z, Bool.true_or]
theorem tys_vals : ∀ {ts : List Ty6} {us : List Value}, Vals (ts.map fun t => V.ty (Ty6.name t)) us → us = ts.map fun t => Value.type (Ty6.name t)
  | [], _, .nil => rfl
  | t :: ts, _, .cons r rr => by
    rw [tys_vals rr, show _ = Value.type (Ty6.name t) from r]
    rfl
theorem br_isi (hK : c.K = X.K) : BrC c w (fun xs H Q => rIsi X.K xs H Q ∨ (rIsiT X.K xs H Q ∨ rIsiK X.K xs H Q)) dIsi := by
  intro gh γ σ H ds vs Qd Q S r q k
  rw [← hK]
  cases r with
  | nil => exact q.elim
  | @cons v d _ _ r1 r2 =>
    cases r2 with
    | nil => cases d <;> exact q.elim
    | @cons v2 d2 _ _ r2 r3 =>
      cases r3 with
      | cons _ _ => cases d <;> cases d2 <;> exact q.elim
      | nil =>
        cases r2 with
        | ty n =>
          obtain ⟨s, t, h1, h2, h3, h4⟩ : ∃ s t : Ty6, d.ty6 = some s ∧ t ≠ .non ∧ n = Ty6.name t ∧ Qd (.bl (s.isa t)) := by cases d <;> exact q
          subst h3
          exact .inl ⟨v, _, _, _, _, rfl, .ty _, rep_ty r1 h1, kit_ty (Ty6.kit s t h2), k _ _ H h4 (.bl _) S (Ext.refl H)⟩
        | tup n h s =>
          obtain ⟨s', ts, h1, h2, h3, h4⟩ : ∃ (s : Ty6) (ts : List Ty6), d.ty6 = some s ∧ (∀ t ∈ ts, t ≠ .non) ∧ _ = ts.map (fun t => D.ty (Ty6.name t)) ∧ Qd (.bl (ts.any s.isa)) := by cases d <;> exact q
          subst h3
          cases tys_rep s
          exact .inr (.inl ⟨v, _, _, _, _, _, rfl, h, tys_cls ts, rep_ty r1 h1, tys_any s' ts h2, k _ _ H h4 (.bl _) S (Ext.refl H)⟩)
        | tupK h s =>
          obtain ⟨s', ts, h1, h2, h3, h4⟩ : ∃ (s : Ty6) (ts : List Ty6), d.ty6 = some s ∧ (∀ t ∈ ts, t ≠ .non) ∧ _ = ts.map (fun t => D.ty (Ty6.name t)) ∧ Qd (.bl (ts.any s.isa)) := by cases d <;> exact q
          subst h3
          cases tys_rep s
          obtain ⟨ob, its, n, e1, e2, e3, _, e4⟩ := h
          obtain ⟨oc, od, oda, osl⟩ := ob
          dsimp only at e2 e3
          subst e2 e3
          have e5 := tys_vals e4
          refine .inr (.inr ⟨v, _, od, its.toList, n, osl, _, _, rfl, e1, rep_ty r1 h1, ?_, k _ _ H h4 (.bl _) S (Ext.refl H)⟩)
          rw [e5]
          exact tys_any s' ts h2
        | _ => cases d <;> exact q.elim
theorem xd_isi (hK : c.K = X.K) (hm : X.mg "isinstance" = none) (ha : PA X (e :: es) (LA c w V1)) (hg : Gl X "isinstance" := by rfl) (he : starEach (e :: es) X.env = (false, eval e X.env) :: starEach es X.env := by rfl) (hpl : (backTo pos (starEach es X.env)).any (·.1) = false := by rfl) :
    PE X (.Call (.Name "isinstance" p) (e :: es) [] pos) (LE c w (xBi dIsi V1)) := xd_bi (CallR.or call_isi (CallR.or call_isiT call_isiK)) (br_isi hK) hm PyProof.Rows.boot_isinstance ha hg (by decide) (by decide) he hpl
/-- what an own class must say for isinstance to ask its instances rightly -/
structure OwnC (K : PySem.W.Frag) (C : Addr) : Prop where
  cl : Cls K C
  ca : PySem.W.findIn K (.ref C) "__class__" = some (some (.builtin "object.__class__"))
  cn : PySem.W.specialIn K (.builtin "object.__class__") "__get__" = some (some (.builtin "getset_descriptor.__get__"))
  ct : PySem.W.takesIn K (.builtin "object.__class__") = some true
  cm : PySem.W.mroIn K C (.type "object") = some true
/-- isinstance(e, C), C an own class: an instance of it, or a plain value -/
def dIsC (C : Addr) : ClD
  | [.obj C' _, .adr A], Q => C' = C ∧ A = C ∧ Q (.bl true)
  | [.str _, .adr A], Q => A = C ∧ Q (.bl false)
  | _, _ => False
theorem br_isC {C : Addr} (hK : c.K = X.K) (oc : OwnC X.K C) (h1 : PySem.W.kitOne X.K (.ref C) (.ref C) = some true) (h2 : PySem.W.kitOne X.K (.type "str") (.ref C) = some false) : BrC c w (rIsi X.K) (dIsC C) := by
  intro gh γ σ H ds vs Qd Q S r q k
  cases r with
  | nil => exact q.elim
  | @cons v d _ _ r1 r2 =>
    cases r2 with
    | nil => cases d <;> exact q.elim
    | @cons v2 d2 _ _ r2 r3 =>
      cases r3 with
      | cons _ _ => cases d <;> cases d2 <;> exact q.elim
      | nil =>
        cases r2 with
        | adr A =>
          cases r1 with
          | str y =>
            obtain ⟨rfl, q⟩ := q
            exact ⟨_, _, _, _, _, rfl, .own _, .base (.str y), h2, k _ _ H q (.bl _) S (Ext.refl H)⟩
          | obj n hh s =>
            obtain ⟨rfl, rfl, q⟩ := q
            exact ⟨_, _, _, _, _, rfl, .own _, .base (.ins hh oc.cl oc.ca oc.cn oc.ct oc.cm), h1, k _ _ H q (.bl _) S (Ext.refl H)⟩
          | _ => exact q.elim
        | _ => cases d <;> exact q.elim
theorem xd_isC {C : Addr} (hK : c.K = X.K) (oc : OwnC X.K C) (h1 : PySem.W.kitOne X.K (.ref C) (.ref C) = some true) (h2 : PySem.W.kitOne X.K (.type "str") (.ref C) = some false) (hm : X.mg "isinstance" = none) (ha : PA X (e :: es) (LA c w V1)) (hg : Gl X "isinstance" := by rfl)
    (he : starEach (e :: es) X.env = (false, eval e X.env) :: starEach es X.env := by rfl) (hpl : (backTo pos (starEach es X.env)).any (·.1) = false := by rfl) :
    PE X (.Call (.Name "isinstance" p) (e :: es) [] pos) (LE c w (xBi (dIsC C) V1)) := xd_bi call_isi (br_isC hK oc h1 h2) hm PyProof.Rows.boot_isinstance ha hg (by decide) (by decide) he hpl

def xFld (C : Addr) (f : Str) (T : TED) : TED := fun γ Q => T γ fun d => ∃ fs v, d = .obj C fs ∧ fs.lookup f = some v ∧ Q v
theorem xd_fld {C : Addr} (hK : c.K = X.K) (cl : Cls X.K C) (n : NoAttr X.K C f) (he : PE X e (LE c w T)) (hb : attributeBase e f X.env (eval e X.env) = eval e X.env := by rfl) : PE X (.Attribute e f pos) (LE c w (xFld C f T)) := pe_imp (pe_fld he hb) fun _ _ σ H Q I q => by
  obtain ⟨gh, γ, Qd, S, q1, k⟩ := q
  refine ⟨gh, γ, _, S, q1, fun d v H1 h1 r S1 x1 => ?_⟩
  obtain ⟨gs, g, rfl, l, h1⟩ := h1
  cases r with
  | obj nM hh s =>
    obtain ⟨u, l2, ru⟩ := s.look l
    exact ⟨_, _, _, _, u, rfl, hh, cl, n, l2, k g u H1 h1 ru S1 x1⟩
/-- a field of the instance that is being made -/
def xFldI (i : Nat) (C : Addr) (f : Str) : TED := fun γ Q => ∃ a fs v, γ[i]? = some (some (.ins (a, C) fs)) ∧ fs.lookup f = some v ∧ Q v
theorem xd_fldI {C : Addr} {i : Nat} (hK : c.K = X.K) (cl : Cls X.K C) (n : NoAttr X.K C f) (he : PE X e (tVar i)) (hb : attributeBase e f X.env (eval e X.env) = eval e X.env := by rfl) : PE X (.Attribute e f pos) (LE c w (xFldI i C f)) := pe_imp (pe_fld he hb) fun _ _ σ H Q I q => by
  obtain ⟨gh, γ, Qd, S, ⟨a, gs, g, e1, l, q1⟩, k⟩ := q
  obtain ⟨p, dx, fs, h1, ⟨_, h2⟩, r⟩ := S.ins i (a, C) gs e1
  obtain ⟨u, l2, ru⟩ := r.look l
  exact ⟨_, h1, _, _, _, _, u, rfl, h2, cl, n, l2, k g u H q1 (ru.less fun a m => m.toStrong) S (Ext.refl H)⟩

theorem xf_split (ho : PE X o (LE c w T)) (he : PE X e (LE c w U)) (hs : starEach [e] X.env = [(false, eval e X.env)] := by rfl) (hbase : attributeBase o "split" X.env (eval o X.env) = eval o X.env := by rfl) (hline : (apos.endLine == cpos.line) = true := by rfl) :
    PE X (.Call (.Attribute o "split" apos) [e] [] cpos) (LF c w (xSplit T U)) := pe_imp (pe_split ho he hs hbase hline) fun _ _ σ H Q I q => by
  obtain ⟨gh, γ, Qd, S, q1, k⟩ := q
  refine ⟨gh, γ, _, S, q1, fun d v H1 h1 r1 S1 x1 => ?_⟩
  obtain ⟨a, rfl, h1⟩ := h1
  cases r1
  refine ⟨⟨a, rfl⟩, gh, γ, _, S1, h1, fun d2 v2 H2 h2 r2 S2 x2 => ?_⟩
  obtain ⟨b, rfl, hb, hz, h2⟩ := h2
  cases r2
  refine ⟨a, b, rfl, rfl, hb, hz, fun l hl => ?_⟩
  exact k _ l _ _ h2 ((x1.trans x2).free (S2.newNe hl) hl) upd_same (strs_rep _) (S2.new hl) ((x1.trans x2).trans (Ext.new hl))
def xJoin (T U : TED) : TED := fun γ Q => T γ fun x => ∃ a, x = .str a ∧ U γ fun y => ∃ ys : List Str, (y = .lst (ys.map D.str) ∨ y = .tup (ys.map D.str)) ∧ (ys.map (·.length)).sum + ys.length * a.length ≤ 16777216 ∧ Q (.str (Txt.join a ys))
theorem xd_join (hK : c.K = X.K) (ho : PE X o (LE c w T)) (he : PE X e (LE c w U)) (hs : starEach [e] X.env = [(false, eval e X.env)] := by rfl) (hbase : attributeBase o "join" X.env (eval o X.env) = eval o X.env := by rfl) (hline : (apos.endLine == cpos.line) = true := by rfl) :
    PE X (.Call (.Attribute o "join" apos) [e] [] cpos) (LE c w (xJoin T U)) := pe_imp (pe_join ho he hs hbase hline) fun _ _ σ H Q I q => by
  obtain ⟨gh, γ, Qd, S, q1, k⟩ := q
  refine ⟨gh, γ, _, S, q1, fun d v H1 h1 r1 S1 x1 => ?_⟩
  obtain ⟨a, rfl, h1⟩ := h1
  cases r1
  refine ⟨⟨a, rfl⟩, gh, γ, _, S1, h1, fun d2 v2 H2 h2 r2 S2 x2 => ?_⟩
  obtain ⟨ys, e2, hz, h2⟩ := h2
  have fin := fun (_ : True) => k _ (.str (Txt.join a ys)) H2 h2 (.str _) S2 (x1.trans x2)
  rw [← hK]
  rcases e2 with rfl | rfl
  · cases r2 with
    | lst n hh s =>
      cases rep_strs s
      exact ⟨a, _, ys, rfl, rfl, .inl (SqL.of hh), hz, fin trivial⟩
  · cases r2 with
    | tup n hh s =>
      cases rep_strs s
      exact ⟨a, _, ys, rfl, rfl, .inr (SqT.of hh), hz, fin trivial⟩
    | tupK hh s =>
      cases rep_strs s
      exact ⟨a, _, ys, rfl, rfl, .inr (.inr hh), hz, fin trivial⟩
def xFmt (T : TED) : TED := fun γ Q => T γ fun x => (∃ y : Str, x = .str y ∧ y.length ≤ sizeLine ∧ Q (.str y)) ∨ ∃ i : Int, x = .int i ∧ i.natAbs.log2 < 1920 ∧ Q (.str (toString i))
theorem xd_fmt (he : PE X e (LE c w T)) : PE X (.FormattedValue e (-1) none pos) (LE c w (xFmt T)) := pe_imp (pe_fmt he) fun _ _ σ H Q I q => by
  obtain ⟨gh, γ, Qd, S, q1, k⟩ := q
  refine ⟨gh, γ, _, S, q1, fun d v H1 h1 r1 S1 x1 => ?_⟩
  rcases h1 with ⟨y, rfl, hz, h1⟩ | ⟨i, rfl, hz, h1⟩
  · cases r1
    exact .inl ⟨y, rfl, hz, k _ _ H1 h1 (.str _) S1 x1⟩
  · cases r1
    exact .inr ⟨i, rfl, hz, k _ _ H1 h1 (.str _) S1 x1⟩
inductive PJD (X : Cx) (c : Ct) (w : Bool) : List Expr → List TED → Prop where
  | nil : PJD X c w [] []
  | cons {e : Expr} {t : TED} {es : List Expr} {ts : List TED} (h : PE X e (LE c w t)) (r : PJD X c w es ts) : PJD X c w (e :: es) (t :: ts)
theorem PJD.pj : ∀ {es : List Expr} {ts : List TED}, PJD X c w es ts → PJ X es (ts.map (LE c w))
  | _, _, .nil => .nil
  | _, _, .cons h r => .cons h r.pj
def xJs : List TED → Str → TL.Env → (D → Prop) → Prop
  | [], acc, _, Q => Q (.str acc)
  | t :: ts, acc, γ, Q => t γ fun x => ∃ y : Str, x = .str y ∧ (acc ++ y).length ≤ sizeLine ∧ xJs ts (acc ++ y) γ Q
theorem js_lift {gh : List (V × D)} {γ : TL.Env} {σ : L2.St} {Q : Str → Hp → Prop} {Qd : D → Prop} : ∀ (ts : List TED) (acc : Str) (H : Hp), SI c gh γ σ H → xJs ts acc γ Qd → (∀ out H', Qd (.str out) → SI c gh γ σ H' → Ext c.B H H' → Q out H') → tJs (ts.map (LE c w)) acc σ H Q
  | [], acc, H, S, q, k => k acc H q S (Ext.refl H)
  | t :: ts, acc, H, S, q, k => by
    refine ⟨gh, γ, _, S, q, fun d v H1 h1 r1 S1 x1 => ?_⟩
    obtain ⟨y, rfl, hz, h1⟩ := h1
    cases r1
    exact ⟨y, rfl, hz, js_lift ts (acc ++ y) H1 S1 h1 fun out H' a b x => k out H' a b (x1.trans x)⟩
theorem xd_joined {v1 v2 : Expr} {rest : List Expr} {ts : List TED} (h : PJD X c w (v1 :: v2 :: rest) ts) : PE X (.JoinedStr (v1 :: v2 :: rest) pos) (LE c w (xJs ts Str.empty)) := pe_imp (pe_joined h.pj) fun _ _ σ H Q I q => by
  obtain ⟨gh, γ, Qd, S, q1, k⟩ := q
  exact js_lift ts Str.empty H S q1 fun out H' a b x => k _ _ H' a (.str _) b x

def zItem (i : Nat) (Ti T : TED) : TSD := fun E γ => T γ fun d => ∃ xs, γ[i]? = some (some (.own xs)) ∧ Ti γ fun n => ∃ k j, n = .int k ∧ ixN xs.length k = some j ∧ E.nx (γ.set i (some (.own (xs.set j d))))
theorem z_item {i : Nat} {ie : Expr} {spos : Pos} {Ti : TED} (ho : PE X o (tVar i)) (hi : PE X ie (LE c true Ti)) (he : PE X e (LE c true T))
    (ha : ∀ v, assign (.Subscript o ie spos) X.env v = (do let ov ← holding [v] (eval o X.env); let iv ← holding [v, ov] (eval ie X.env); standAt spos; holding [v, ov, iv] (setItem ov iv v); release [v, ov, iv] []) := by intro _; rfl)
    (hs : swapsWithSole [.Subscript o ie spos] e pos.line X.env = pure false := by rfl) (hw : swappedStores [.Subscript o ie spos] e X.env = pure none := by rfl) (h1 : (assignEach [.Subscript o ie spos] X.env).map (·.2) = [assign (.Subscript o ie spos) X.env] := by rfl) :
    PS X (.Assign [.Subscript o ie spos] e pos) (LS c (zItem i Ti T)) := ps_imp (ps_asg he (pg_sub ho hi set_list ha) hs hw h1) fun _ _ σ H E I q => by
  obtain ⟨gh, γ, ED, S, q1, k, _⟩ := q
  refine ⟨gh, γ, _, S, q1, fun d v H1 h1 r1 S1 x1 => ?_⟩
  obtain ⟨xs, e1, h1⟩ := h1
  obtain ⟨p, us, f1, _, _⟩ := S1.own i xs e1
  refine ⟨.ref p, f1, [(v, d)] ++ gh, γ, _, S1.ghosts (fun p hp => by rw [List.mem_singleton] at hp; subst hp; exact r1), h1, fun n v2 H2 hn r2 S2 x2 => ?_⟩
  obtain ⟨kk, j, rfl, hj, h3⟩ := hn
  cases r2
  obtain ⟨p', us', g1, g2, g3⟩ := S2.own i xs e1
  rw [f1] at g1
  cases g1
  exact ⟨p, us', kk, j, rfl, rfl, g2, by rw [g3.length]; exact hj, k _ _ _ h3 ((S2.putO e1 rfl f1 rfl (fun ys z => by cases z; exact ⟨_, rfl, g3.set (S2.gho (v, d) (by simp)) j⟩) fun C gs z => by cases z).unghost)⟩
end
end TL
set_option Elab.async false
set_option linter.all false
set_option maxRecDepth 100000
set_option maxHeartbeats 2000000
namespace TL
open PySem L2 PySem.Spec PyProof.Rows HotX

section
variable {prog : Program} {w : World} {A : Around} {E : Value → Shared → Prop} {s : Shared}
theorem hot_upd {h : Heap} {x1 b : Addr} {u : Obj → Obj} (hot : HotAt A x1 h) (n : x1 ≠ b) : HotAt A x1 (h.update b u) := by
  obtain ⟨g1, o1, f1, g2, g3, g4⟩ := hot
  exact ⟨g1, o1, f1, (by rw [Heap.get?_update_other _ _ n.symm]; exact g2), g3, g4⟩
theorem hot_push {h : Heap} {x1 : Addr} {o : Obj} (hot : HotAt A x1 h) : HotAt A x1 (h.push o) := by
  obtain ⟨g1, o1, f1, g2, g3, g4⟩ := hot
  exact ⟨g1, o1, f1, Heap.get?_push_of_some _ g2, g3, g4⟩
theorem hot_keep {h h' : Heap} {x1 : Addr} (hot : HotAt A x1 h) (k : ∀ o, h.get? x1 = some o → h'.get? x1 = some o) : HotAt A x1 h' := by
  obtain ⟨g1, o1, f1, g2, g3, g4⟩ := hot
  exact ⟨g1, o1, f1, k _ g2, g3, g4⟩
theorem hot_in1 {h : Heap} {x1 : Addr} (hot : HotAt A x1 h) : HotAt A.in1 x1 h := hot
theorem hot_lt {h : Heap} {x1 : Addr} (hot : HotAt A x1 h) : x1 < h.objs.size := by
  obtain ⟨_, o1, f1, g2, _⟩ := hot
  exact Heap.lt_size g2
/-- StopIteration is laid and raised -/
theorem stop_hot {α : Type} {x1 : Addr} {Q : α → Shared → Prop} (hot : HotAt A x1 s.heap)
    (hE : ∀ h' e, (∀ b o, s.heap.get? b = some o → h'.get? b = some o) → (∃ o, h'.get? e = some o ∧ o.cls = .type "StopIteration") → E (.ref e) { s with heap := h' }) :
    wpAny (model prog w) A ((do let v ← newExc (.type "StopIteration") []; raiseNew v) : Sem α) Q E s := by
  refine wpAny_bind ?_
  simp only [newExc, newTuple]
  refine wpAny_bind (wpAny_newObj_type ?_ (by size_fits)); refine wpAny_bind (m := firstArgMember _ _) (wpAny_of_eq (a := (.none : Value)) (by first | rfl | (simp only [firstArgMember]; rfl)) ?_)
  refine (wpAny_newObj_type ?_ (by size_fits))
  have h2 := hot_push (o := { cls := .type "tuple", data := .seq #[] }) hot
  refine raiseNew_hot (hot_push (hot_push hot)) (Nat.ne_of_lt (hot_lt (hot_push hot))) (Heap.get?_push_size _ rfl) rfl (by first | (simp; done) | (simp; omega) | (simp only [Array.size_append]; simp; omega)) ?_
  refine hE _ _ (fun b o g => ?_) ⟨_, Heap.get?_update_self _ (Heap.get?_push_size _ rfl) rfl, rfl⟩
  rw [Heap.get?_update_other _ _ (Nat.ne_of_gt (Heap.lt_size (Heap.get?_push_of_some _ g)))]
  exact Heap.get?_push_of_some _ (Heap.get?_push_of_some _ g)
theorem nextOf_list_hot {it l x1 : Addr} {i : Nat} {items : Array Value} {Q : Value → Shared → Prop} (hot : HotAt A x1 s.heap) (ne : x1 ≠ it) (hit : s.heap.IsListIter it l i) (hl : s.heap.IsList l items) (hx : items[i]? = none)
    (hE : ∀ h' e, Heap.ExtBut it s.heap h' → (∃ o, h'.get? e = some o ∧ o.cls = .type "StopIteration") → E (.ref e) { s with heap := h' }) : wpAny (model prog w) A (Builtin.SmallTypes.nextOf (.ref it)) Q E s := by
  obtain ⟨o, gO, gC, gD⟩ := id hit
  obtain ⟨ol, gL, _, nl, gE⟩ := hl
  unfold Builtin.SmallTypes.nextOf; refine wpAny_bind (wpAny_callSpecial?_slot (name := Str.ofString "__next__") hit.typeIs slot_listiter_next (wpAny_call_entry slot_listiter_next hit.typeIs entry_listiter_next ?_ (args_listiter_next _)))
  show wpAny _ _ (field (.ref it) 0 >>= _) _ _ s; refine wpAny_bind (wpAny_field gO gD (x := .ref l) rfl ?_)
  show wpAny _ _ (if (Value.ref l == Value.none) = true then _ else _) _ _ s; rw [if_neg (show ¬ ((Value.ref l == Value.none) = true) from Bool.false_ne_true)]
  show wpAny _ _ (field (.ref it) 1 >>= _) _ _ s; refine wpAny_bind (wpAny_field gO gD (x := .int i 0) rfl ?_)
  show wpAny _ _ (seqItems? (.ref l) >>= _) _ _ s; refine wpAny_bind (wpAny_seqItems gL gE ?_)
  simp only [Int.toNat_natCast, hx]; refine wpAny_bind (wpAny_rule (wpAny_bind (wpAny_setField gO gD (by simp) ?_)))
  refine stop_hot (hot_upd (hot_in1 hot) ne) fun h' e k z => hE _ _ (fun b u n g => k _ _ ?_) z
  show (Heap.update _ _ _).get? b = _; rw [Heap.get?_update_other _ _ n.symm]; exact g
theorem next_list_hot {it l x1 : Addr} {i : Nat} {items : Array Value} {Q : Option Value → Shared → Prop} (hot : HotAt A x1 s.heap) (ne : x1 ≠ it) (hit : s.heap.IsListIter it l i) (hl : s.heap.IsList l items) (hx : items[i]? = none)
    (hQ : ∀ h', Heap.ExtBut it s.heap h' → Q none { s with heap := h' }) : wpAny (model prog w) A (pyNext (.ref it)) Q E s := by
  obtain ⟨o, gO, gC, gD⟩ := id hit
  obtain ⟨ol, gL, _, nl, gE⟩ := hl
  unfold pyNext; refine wpAny_bind (wpAny_attempt (wpAny_callSpecial?_slot (name := Str.ofString "__next__") hit.typeIs slot_listiter_next (wpAny_call_entry slot_listiter_next hit.typeIs entry_listiter_next ?_ (args_listiter_next _))))
  show wpAny _ _ (field (.ref it) 0 >>= _) _ _ s; refine wpAny_bind (wpAny_field gO gD (x := .ref l) rfl ?_)
  show wpAny _ _ (if (Value.ref l == Value.none) = true then _ else _) _ _ s; rw [if_neg (show ¬ ((Value.ref l == Value.none) = true) from Bool.false_ne_true)]
  show wpAny _ _ (field (.ref it) 1 >>= _) _ _ s; refine wpAny_bind (wpAny_field gO gD (x := .int i 0) rfl ?_)
  show wpAny _ _ (seqItems? (.ref l) >>= _) _ _ s; refine wpAny_bind (wpAny_seqItems gL gE ?_)
  simp only [Int.toNat_natCast, hx]; refine wpAny_bind (wpAny_rule (wpAny_bind (wpAny_setField gO gD (by simp) ?_)))
  refine stop_hot (hot_upd (hot_in1 hot) ne) fun h' e k z => ?_
  obtain ⟨oe, z1, z2⟩ := z
  refine wpAny_bind (wpAny_isInstance (T := "StopIteration") (b := true) ⟨oe, z1, z2⟩ isSubtype_stop (wpAny_pure (hQ _ fun b u n g => k _ _ ?_)))
  show (Heap.update _ _ _).get? b = _; rw [Heap.get?_update_other _ _ n.symm]; exact g
theorem zip_hot {z TI TO i1 i2 l1 l2 x1 : Addr} {k1 k2 : Nat} {xs ys : Array Value} {a b : Value} {Q : Option Value → Shared → Prop} (hot : HotAt A x1 s.heap) (nz : x1 ≠ z) (nO : x1 ≠ TO) (n1 : x1 ≠ i1) (n2 : x1 ≠ i2) (D : ZipApart z TI TO i1 i2 l1 l2)
    (hz : IsZip s.heap z TI TO .none) (hTI : IsPair s.heap TI (.ref i1) (.ref i2)) (hTO : IsPair s.heap TO a b)
    (h1 : s.heap.IsListIter i1 l1 k1) (h2 : s.heap.IsListIter i2 l2 k2) (hl1 : s.heap.IsList l1 xs) (hl2 : s.heap.IsList l2 ys) (hend : xs[k1]? = none ∨ ys[k2]? = none)
    (hQ : ∀ h', (∀ c o, c ≠ z → c ≠ TO → c ≠ i1 → c ≠ i2 → s.heap.get? c = some o → h'.get? c = some o) → Q none { s with heap := h' }) : wpAny (model prog w) A (pyNext (.ref z)) Q E s := by
  have hT : s.TypeIs (.ref z) "zip" := ⟨_, hz, rfl⟩
  have fin : ∀ (h' : Heap) (e : Addr), (∀ c o, c ≠ z → c ≠ TO → c ≠ i1 → c ≠ i2 → s.heap.get? c = some o → h'.get? c = some o) → (∃ o, h'.get? e = some o ∧ o.cls = .type "StopIteration") →
      wpAny (model prog w) A (do if ← isInstance (.ref e) (.type "StopIteration") then pure (none : Option Value) else throw (.ref e)) Q E { s with heap := h' } := fun h' e k z => by
    obtain ⟨oe, z1, z2⟩ := z
    exact wpAny_bind (wpAny_isInstance (T := "StopIteration") (b := true) ⟨oe, z1, z2⟩ isSubtype_stop (wpAny_pure (hQ _ k)))
  unfold pyNext; refine wpAny_bind (wpAny_attempt (wpAny_callSpecial?_slot (name := Str.ofString "__next__") hT F.slot_zip_next (wpAny_call_entry F.slot_zip_next hT F.entry_zip_next ?_ (F.args_zip_next_1 _))))
  show wpAny _ _ (field (.ref z) 2 >>= _) _ _ _; refine wpAny_bind (wpAny_field hz rfl (x := .bool false) rfl ?_)
  show wpAny _ _ (field (.ref z) 3 >>= _) _ _ _; refine wpAny_bind (wpAny_field hz rfl (x := .ref TI) rfl ?_); refine wpAny_bind (wpAny_seqItems hTI rfl ?_)
  show wpAny _ _ (Builtin.SmallTypes.ownedTupleIsFree (.ref z) >>= _) _ _ _; refine wpAny_bind ?_
  unfold Builtin.SmallTypes.ownedTupleIsFree; refine wpAny_bind (wpAny_field hz rfl (x := .none) rfl (wpAny_pure ?_))
  simp only [if_true]; refine wpAny_bind (wpAny_rule ?_); refine wpAny_bind (wpAny_field hz rfl (x := .ref TO) rfl ?_)
  refine wpAny_bind (wpAny_setField_rec hz (by simp) fun h₁ z1 s1 => ?_)
  replace z1 : IsZip h₁ z TI TO .ellipsis := z1
  have hot1 : HotAt A.in1 x1 h₁ := hot_keep (hot_in1 hot) fun o g => s1.extBut _ _ nz g
  refine wpAny_bind ?_; simp only [List.zipIdx_cons, List.zipIdx_nil, List.forIn_cons, List.forIn_nil]; refine wpAny_bind (wpAny_bind (wpAny_onRaise ?_))
  show wpAny _ _ (Builtin.SmallTypes.nextOf (.ref i1) >>= _) _ _ _
  cases hx : xs[k1]? with
  | none =>
    refine wpAny_bind (nextOf_list_hot hot1 n1 (h1.extBut s1.extBut D.i1z) (hl1.extBut s1.extBut D.l1z) hx fun h₂ e s2 he => ?_)
    obtain ⟨oe, hoe, hce⟩ := he
    have z2 : IsZip h₂ z TI TO .ellipsis := s2 _ _ D.i1z.symm z1
    have hez : e ≠ z := fun x => by subst x; rw [z2] at hoe; cases hoe; simp at hce
    refine wpAny_setField_rec z2 (by simp) fun h₃ _ s3 => fin h₃ e (fun c o c1 _ c3 _ x => s3.extBut _ _ c1 (s2 _ _ c3 (s1.extBut _ _ c1 x))) ⟨oe, s3.extBut _ _ hez hoe, hce⟩
  | some x =>
    have hy : ys[k2]? = none := by rcases hend with h | h; rw [hx] at h; cases h; exact h
    refine wpAny_bind (wpAny_nextOf_list_item (h1.extBut s1.extBut D.i1z) (hl1.extBut s1.extBut D.l1z) hx fun h₂ f1 s2 => wpAny_pure ?_)
    have gO : IsPair h₂ TO a b := s2.extBut _ _ D.TOi1 (s1.extBut _ _ D.TOz hTO)
    refine wpAny_bind (wpAny_seqItems gO rfl ?_); refine wpAny_bind (wpAny_updateSeq_pair gO fun h₃ g3 s3 => ?_); refine wpAny_bind (wpAny_letGo (wpAny_pure ?_)); refine wpAny_bind (wpAny_bind (wpAny_onRaise ?_))
    have hot3 : HotAt A.in1 x1 h₃ := hot_keep hot1 fun o g => s3.extBut _ _ nO (s2.extBut _ _ n1 g)
    show wpAny _ _ (Builtin.SmallTypes.nextOf (.ref i2) >>= _) _ _ _
    refine wpAny_bind (nextOf_list_hot hot3 n2 (((h2.extBut s1.extBut D.i2z).extBut s2.extBut D.i12.symm).extBut s3.extBut D.TOi2.symm) (((hl2.extBut s1.extBut D.l2z).extBut s2.extBut D.l2i1).extBut s3.extBut D.l2TO) hy fun h₄ e s4 he => ?_)
    obtain ⟨oe, hoe, hce⟩ := he
    have z4 : IsZip h₄ z TI TO .ellipsis := s4 _ _ D.i2z.symm (s3.extBut _ _ D.TOz.symm (s2.extBut _ _ D.i1z.symm z1))
    have hez : e ≠ z := fun x => by subst x; rw [z4] at hoe; cases hoe; simp at hce
    refine wpAny_setField_rec z4 (by simp) fun h₅ _ s5 => fin h₅ e (fun c o c1 c2 c3 c4 x => s5.extBut _ _ c1 (s4 _ _ c4 (s3.extBut _ _ c2 (s2.extBut _ _ c3 (s1.extBut _ _ c1 x))))) ⟨oe, s5.extBut _ _ hez hoe, hce⟩
/-- a list's walk there -/
theorem walks_hot {x1 : Addr} (I ax : Addr) (hne : ax ≠ I) (nI : x1 ≠ I) (items : Array Value) :
    Walks prog w A I [I, ax, x1] [I] items.size (fun i v => items[i]? = some v) (fun i h => h.IsListIter I ax i ∧ h.IsList ax items ∧ HotAt A x1 h) where
  sub := fun b hb => by simp at hb; simp [hb]
  frame := fun _ _ _ st hk => ⟨st.1.at fun o e => hk I (by simp) o e, st.2.1.at fun o e => hk ax (by simp) o e, hot_keep st.2.2 fun o e => hk x1 (by simp) o e⟩
  item := fun i s Q E hi st hQ => wpAny_pyNext_list_item st.1 st.2.1 (x := items[i]) (by simp [hi]) fun h' g1 g2 =>
    hQ _ h' s.toks (by simp [hi]) ⟨g1, st.2.1.extBut g2.extBut hne, hot_keep st.2.2 fun o e => g2.extBut _ _ nI e⟩ fun b o hb e => g2.extBut b o (fun h => hb (by simp [h])) e
  done := fun s Q E st hQ => next_list_hot st.2.2 nI st.1 st.2.1 (by simp) fun h' he' => hQ h' s.toks fun b o hb e => he' b o (fun h => hb (by simp [h])) e
  self := fun _ _ _ _ st hQ => wpAny_pyIter_listiter st.1 hQ
end

/-- calm, or the exception that is handled is at hand -/
def Warm (X : Cx) : Prop := X.calm = true ∨ L2H.HotC X
section
variable {X : Cx} {pins : List (Addr × Obj)} {σ : L2.St} {H : Hp} {s : Shared}
/-- the handled exception: none, or at hand and away from what may turn -/
theorem Warm.at (wm : Warm X) (I : Inv X pins σ H s) : X.A.handled = none ∨ ∃ p ∈ X.pn, HotAt X.A p.1 s.heap := by
  rcases wm with hc | ⟨p, ⟨hh, f1, e1, c1⟩, hp⟩
  · exact .inl (I.ok.hd hc)
  · exact .inr ⟨p, hp, hh, p.2, f1, (I.pin p (List.mem_append_left _ hp)).1, e1, c1⟩
theorem fp_ne {p : Addr × Obj} (hp : p ∈ X.pn) {b : Addr} (f : FpOk X pins H b) : p.1 ≠ b := f.2.2.2.2.2 p (List.mem_append_left _ hp)
theorem cr_allW (wm : Warm X) : CallR X (.builtin "all") (rAll X.K) := by
  rcases wm with hc | wm
  · exact cr_all hc
  intro pins s σ H vs us Q I r h
  obtain ⟨a, bs, rfl, hs, q⟩ := h
  obtain ⟨its, rv, hl, _⟩ := I.list hs
  rw [Vals.ref1 r]
  have hb := rv.bls
  obtain ⟨x1, hot⟩ := wm.at I
  refine call_all_walk (iter_any hl.isList fun s₂ e2 st hne => ?_)
  subst e2
  have n1 : x1 ≠ s.heap.objs.size := Nat.ne_of_lt (hot_lt hot)
  refine ⟨_, _, _, _, _, _, _, rfl, walks_hot (A := X.A.in1) (x1 := x1) _ a hne n1 its.toArray, ⟨st.1, st.2, hot_push hot⟩, truth_bools hb, fun h' tk hk => ?_⟩
  refine ⟨.bl _, H, I.kept fun b o eo => hk b o (fun hmem => ?_) (Heap.get?_push_of_some _ eo), ?_, q⟩
  · rcases List.mem_cons.mp hmem with z | hmem
    · exact absurd (z ▸ Heap.lt_size eo) (Nat.lt_irrefl _)
    · cases hmem
  · show Value.bool _ = Value.bool _
    rw [← L2.all_range, hb, List.size_toArray, List.length_map]
end
section
variable {prog : Program} {w : World} {A : Around} {E : Value → Shared → Prop} {s : Shared}
theorem next_tup_hot {it t x1 : Addr} {i : Nat} {items : Array Value} {Q : Option Value → Shared → Prop} (hot : HotAt A x1 s.heap) (ne : x1 ≠ it) (hit : IsTupIter s.heap it t i) (ht : IsTup s.heap t items) (hx : items[i]? = none)
    (hQ : ∀ h', Heap.ExtBut it s.heap h' → Q none { s with heap := h' }) : wpAny (model prog w) A (pyNext (.ref it)) Q E s := by
  obtain ⟨o, gO, gC, gD⟩ := id hit
  obtain ⟨ol, gL, _, nl, gE⟩ := ht
  unfold pyNext; refine wpAny_bind (wpAny_attempt (wpAny_callSpecial?_slot (name := Str.ofString "__next__") hit.typeIs slot_tupleiter_next (wpAny_call_entry slot_tupleiter_next hit.typeIs entry_tupleiter_next ?_ (args_tupleiter_next _))))
  show wpAny _ _ (field (.ref it) 0 >>= _) _ _ s; refine wpAny_bind (wpAny_field gO gD (x := .ref t) rfl ?_)
  show wpAny _ _ (if (Value.ref t == Value.none) = true then _ else _) _ _ s; rw [if_neg (show ¬ ((Value.ref t == Value.none) = true) from Bool.false_ne_true)]
  show wpAny _ _ (field (.ref it) 1 >>= _) _ _ s; refine wpAny_bind (wpAny_field gO gD (x := .int i 0) rfl ?_)
  show wpAny _ _ (seqItems? (.ref t) >>= _) _ _ s; refine wpAny_bind (wpAny_seqItems gL gE ?_)
  simp only [Int.toNat_natCast, hx]; refine wpAny_bind (wpAny_rule (wpAny_bind (wpAny_setField gO gD (by simp) ?_)))
  refine stop_hot (hot_upd (hot_in1 hot) ne) fun h' e k z => ?_
  obtain ⟨oe, z1, z2⟩ := z
  refine wpAny_bind (wpAny_isInstance (T := "StopIteration") (b := true) ⟨oe, z1, z2⟩ isSubtype_stop (wpAny_pure (hQ _ fun b u n g => k _ _ ?_)))
  show (Heap.update _ _ _).get? b = _; rw [Heap.get?_update_other _ _ n.symm]; exact g
theorem items_tup_hot {t x1 : Addr} {items : Array Value} {Q : List Value → Shared → Prop} (hot : HotAt A x1 s.heap) (ht : IsTup s.heap t items)
    (hQ : ∀ h', Heap.ExtBut s.heap.objs.size s.heap h' → Q items.toList { s with heap := h' }) : wpAny (model prog w) A (unpackItems (.ref t) items.size none) Q E s := by
  have hlt : t ≠ s.heap.objs.size := by obtain ⟨o, gO, _⟩ := ht; exact Nat.ne_of_lt (Heap.lt_size gO)
  have n1 : x1 ≠ s.heap.objs.size := Nat.ne_of_lt (hot_lt hot)
  unfold unpackItems; refine wpAny_bind ?_
  · unfold notIterableAtAll; refine wpAny_bind (wpAny_specialOf ht.typeIs slot_tuple_iter.lookup (wpAny_pure ?_)); simp only [Bool.false_eq_true, if_false]
    refine wpAny_bind (wpAny_holding (iter_tuple ht (wpAny_bind (wpAny_holding (draw_tuple hlt items.size 0 _ _ ⟨_, Heap.get?_push_size _ rfl, rfl, rfl⟩ (ht.push _) (by omega) fun h₁ f1 s1 => ?_)))))
    rw [show List.take items.size (List.drop 0 items.toList) = items.toList from by rw [List.drop_zero]; exact List.take_of_length_le (by simp)]; rw [if_neg (by simp)]
    have g1 : IsTup h₁ t items := (ht.push _).extBut s1.extBut hlt
    have hot1 : HotAt A x1 h₁ := hot_keep (hot_push hot) fun o g => s1.extBut _ _ n1 g
    refine wpAny_bind (wpAny_holding (next_tup_hot hot1 n1 f1 g1 (by simp) fun h₂ e2 => ?_)); simp only [Option.isSome_none, Bool.false_eq_true, if_false]
    exact wpAny_pure (hQ h₂ fun b o hb e => e2 b o hb (s1.extBut b o hb (Heap.get?_push_of_some _ e)))
end
section
variable {X : Cx} {pos : Pos}
theorem pg_tupW {es : List Expr} {k : Nat} {t : TGs} {n : Nat} (wm : Warm X) (h : PGs X es t) (hn : (assignEach es X.env).length = n) (hst : (assignEach es X.env).findIdx? (·.1) = none) : PG X (.Tuple es k pos) (gTup X.K n t) := by
  rcases wm with hc | wm
  · exact pg_tup hc h hn hst
  refine ⟨fun pins s σ H v u Q I r hw => ?_⟩
  obtain ⟨a, xs, e1, hq, hl, hw⟩ := hw
  subst e1
  cases r
  obtain ⟨its, rv, ht, hz⟩ := I.tuple hq
  obtain ⟨x1, hot⟩ := wm.at I
  have hsz : (assignEach es X.env).length = its.toArray.size := by simp [hn, ← hl, rv.length]
  rw [PyProof.Rows.assign_Tuple]; refine wpAny_bind (wpAny_standAt ?_); unfold unpack
  rw [hsz, hst]
  refine wpAny_bind (wpAny_holding (items_tup_hot hot ht fun h' hx => ?_))
  have J1 : Inv X pins σ H { s with heap := h' } := I.kept (t' := s.toks) fun b o e => hx b o (Nat.ne_of_lt (Heap.lt_size e)) e
  exact h.run pins _ σ H xs _ Q J1 (by simpa using rv) hw
end
end TL
set_option Elab.async false
set_option linter.all false
set_option maxRecDepth 100000
set_option maxHeartbeats 2000000
namespace TL
open PySem L2 PySem.Spec PyProof.Rows HotX

/-- as Turn, where the context is calm or bears its exception -/
structure TurnW (P : Program) (w : World) (K : PySem.W.Frag) (tg : Expr) (J : It) (fp : List Addr) (it : Addr) (tn : Nat → Heap → Prop) : Prop where
  mem : it ∈ fp
  obj : ∀ i h, tn i h → ∀ b ∈ fp, ∃ o, h.get? b = some o ∧ ∀ v, o.data ≠ .cell v
  keep : ∀ i h h', tn i h → (∀ b ∈ fp, ∀ o, h.get? b = some o → h'.get? b = some o) → tn i h'
  item : ∀ (X : Cx), X.prog = P → X.w = w → X.K = K → ∀ (i : Nat) (pins : List (Addr × Obj)) (s : Shared) (σ : L2.St) (H : Hp) (E : Value → Shared → Prop), Inv X pins σ H s → (∀ b ∈ fp, FpOk X pins H b) → tn i s.heap → J.go i H →
    wpAny (model P w) X.A (pyNext (.ref it)) (fun r s1 => ∃ u, r = some u ∧ wpAny (model P w) X.A (letOwnedTupleGo tg (.ref it) u) (fun _ s2 => ∃ x H', Inv X pins σ H' s2 ∧ RelV x u ∧ J.yld i H x H' ∧ tn (i + 1) s2.heap ∧ ∀ b ∈ fp, H' b = none) E s1) E s
  done : ∀ (X : Cx), X.prog = P → X.w = w → X.K = K → Warm X → ∀ (i : Nat) (pins : List (Addr × Obj)) (s : Shared) (σ : L2.St) (H : Hp) (E : Value → Shared → Prop), Inv X pins σ H s → (∀ b ∈ fp, FpOk X pins H b) → tn i s.heap → J.stop i H →
    wpAny (model P w) X.A (pyNext (.ref it)) (fun r s1 => r = none ∧ Inv X pins σ H s1) E s
  self : ∀ (A : Around) (i : Nat) (s : Shared) (Q : Value → Shared → Prop) (E : Value → Shared → Prop), tn i s.heap → Q (.ref it) s → wpAny (model P w) A (pyIter (.ref it)) Q E s
def PIEW (X : Cx) (pins : List (Addr × Obj)) (σ : L2.St) (tg : Expr) (R : It → Hp → Prop) (itv : Value) (s2 : Shared) : Prop :=
  ∃ (it : Addr) (fp : List Addr) (tn : Nat → Heap → Prop) (J : It) (H' : Hp), itv = .ref it ∧ Inv X pins σ H' s2 ∧ TurnW X.prog X.w X.K tg J fp it tn ∧ tn 0 s2.heap ∧ (∀ b ∈ fp, FpOk X pins H' b) ∧ R J H'
structure PIW (X : Cx) (tg iter : Expr) (wi : TI) : Prop where
  run : ∀ (pins : List (Addr × Obj)) (s : Shared) (σ : L2.St) (H : Hp) (R : It → Hp → Prop), Inv X pins σ H s → wi σ H R →
    wpAny (model X.prog X.w) X.A (eval iter X.env) (fun v s1 => wpAny (model X.prog X.w) X.A (pyIter v) (PIEW X pins σ tg R) X.xe s1) X.xe s

theorem turnW_list {P : Program} {w : World} {K : PySem.W.Frag} {tg : Expr} (a it : Addr) : TurnW P w K tg (Itl K a) [it] it (fun i h => h.IsListIter it a i) where
  mem := (turn_list (P := P) (w := w) (K := K) (tg := tg) a it).mem
  obj := (turn_list (P := P) (w := w) (K := K) (tg := tg) a it).obj
  keep := (turn_list (P := P) (w := w) (K := K) (tg := tg) a it).keep
  item := by
    intro X hP hw hK i pins s σ H E I hf st hg
    subst hP hw hK
    obtain ⟨xs, x, hq, hx⟩ := hg
    obtain ⟨its, rv, p, hz⟩ := I.list hq
    obtain ⟨u, hu, ru⟩ := rv.get hx
    obtain ⟨f0, f1, f2, f3, f4, f5⟩ := hf it (by simp)
    refine wpAny_pyNext_list_item st p.isList (x := u) (by simpa using hu) fun h' g1 sb => ?_
    have J1 : Inv X pins σ H { s with heap := h' } := I.turned (t' := s.toks) (fun b o hb e => (sb.2 b hb).trans e) f0 f1 f3 f4 f5
    obtain ⟨o, e, cl, d⟩ := id g1
    exact ⟨u, rfl, go_of (s := { s with heap := h' }) e cl d (by decide) ⟨x, H, J1, ru, ⟨rfl, fun ys hy => by rw [I.list_inj hy hq]; exact hx⟩, g1, fun b hb => (hf b hb).1⟩⟩
  done := by
    intro X hP hw hK wm i pins s σ H E I hf st hg
    subst hP hw hK
    obtain ⟨xs, hq, hx⟩ := hg
    obtain ⟨its, rv, p, hz⟩ := I.list hq
    have ft := hf it (by simp)
    obtain ⟨f0, f1, f2, f3, f4, f5⟩ := id ft
    have hl := rv.length
    rcases wm.at I with hh | ⟨p1, hp1, hot⟩
    · exact wpAny_pyNext_list_end hh st p.isList (by simp; omega) fun h' eb => ⟨rfl, I.turned (t' := s.toks) (fun b o hb e => eb b o hb e) f0 f1 f3 f4 f5⟩
    · exact next_list_hot hot (fp_ne hp1 ft) st p.isList (by simp; omega) fun h' eb => ⟨rfl, I.turned (t' := s.toks) (fun b o hb e => eb b o hb e) f0 f1 f3 f4 f5⟩
  self := (turn_list (P := P) (w := w) (K := K) (tg := tg) a it).self

theorem turnW_zip {P : Program} {w : World} {K : PySem.W.Frag} {elts : List Expr} {kk : Nat} {tpos : Pos} {a b z TI TO i1 i2 : Addr} (D : ZipApart z TI TO i1 i2 a b) :
    TurnW P w K (.Tuple elts kk tpos) (Itz K a b) [z, TI, TO, i1, i2] z (fun i h => IsZip h z TI TO .none ∧ IsPair h TI (.ref i1) (.ref i2) ∧ (∃ x y, IsPair h TO x y) ∧ h.IsListIter i1 a i ∧ h.IsListIter i2 b i) where
  mem := (turn_zip (P := P) (w := w) (K := K) (elts := elts) (kk := kk) (tpos := tpos) D).mem
  obj := (turn_zip (P := P) (w := w) (K := K) (elts := elts) (kk := kk) (tpos := tpos) D).obj
  keep := (turn_zip (P := P) (w := w) (K := K) (elts := elts) (kk := kk) (tpos := tpos) D).keep
  item := by
    intro X hP hw hK i pins s σ H E I hf st hg
    subst hP hw hK
    obtain ⟨hz, hTI, ⟨x0, y0, hTO⟩, h1, h2⟩ := st
    obtain ⟨xs, ys, x, y, hqx, hqy, hx, hy⟩ := hg
    obtain ⟨its, rv, p, _⟩ := I.list hqx
    obtain ⟨its2, rv2, p2, _⟩ := I.list hqy
    obtain ⟨u, hu, ru⟩ := rv.get hx
    obtain ⟨u2, hu2, ru2⟩ := rv2.get hy
    have zl : z < s.heap.objs.size := Heap.lt_size hz
    refine wpAny_pyNext_zip_item D hz hTI hTO h1 h2 p.isList p2.isList (x := u) (y := u2) (by simpa using hu) (by simpa using hu2) fun h' z' TO' g1 g2 gT gz hk => ?_
    refine ⟨_, rfl, wpAny_letOwnedTupleGo_zip (s := { s with heap := h' }) z' fun h'' z'' sb => ?_⟩
    have gT2 : h''.get? s.heap.objs.size = some { cls := .type "tuple", data := .seq #[u, u2] } := (sb.2 _ (Nat.ne_of_gt zl)).trans gT
    have new : ObjOk X.prog X.w (upd H s.heap.objs.size (.tup [x, y])) h'' s.heap.objs.size (.tup [x, y]) := ⟨by show 2 ≤ sizeLine; decide, [u, u2], .cons ru (.cons ru2 .nil), ⟨_, gT2, rfl, _, rfl⟩⟩
    have J1 : Inv X pins σ (upd H s.heap.objs.size (.tup [x, y])) { s with heap := h'' } :=
      I.turnedNew (t' := s.toks) (ch := [z, TI, TO, i1, i2]) (fun c o hb q => (sb.2 c (fun q' => hb (by simp [q']))).trans (hk c o (fun q' => hb (by simp [q'])) (fun q' => hb (by simp [q'])) (fun q' => hb (by simp [q'])) (fun q' => hb (by simp [q'])) q)) hf (Nat.le_refl _) new
    refine ⟨.ref s.heap.objs.size, _, J1, rfl, ⟨_, x, y, rfl, I.hok.fresh (Nat.le_refl _), rfl, fun l hl => by rw [I.list_inj hl hqx]; exact hx, fun l hl => by rw [I.list_inj hl hqy]; exact hy⟩, ⟨z'', (sb.2 _ D.TIz).trans (hk _ _ D.TIz D.TITO D.TIi1 D.TIi2 hTI), ⟨u, u2, (sb.2 _ D.TOz).trans TO'⟩, g1.at fun o q => (sb.2 _ D.i1z).trans q, g2.at fun o q => (sb.2 _ D.i2z).trans q⟩, fun c hcm => ?_⟩
    have hlt : c < s.heap.objs.size := by
      have e' : c = z ∨ c = TI ∨ c = TO ∨ c = i1 ∨ c = i2 := by simpa using hcm
      obtain ⟨_, j1, _⟩ := h1
      obtain ⟨_, j2, _⟩ := h2
      rcases e' with rfl | rfl | rfl | rfl | rfl <;> first | exact zl | exact Heap.lt_size hTI | exact Heap.lt_size hTO | exact Heap.lt_size j1 | exact Heap.lt_size j2
    rw [upd_ne (Nat.ne_of_lt hlt)]
    exact (hf c hcm).1
  done := by
    intro X hP hw hK wm i pins s σ H E I hf st hg
    subst hP hw hK
    obtain ⟨hz, hTI, ⟨x0, y0, hTO⟩, h1, h2⟩ := st
    obtain ⟨xs, ys, hqx, hqy, hend⟩ := hg
    obtain ⟨its, rv, p, _⟩ := I.list hqx
    obtain ⟨its2, rv2, p2, _⟩ := I.list hqy
    have l1 := rv.length
    have l2 := rv2.length
    have he : its.toArray[i]? = none ∨ its2.toArray[i]? = none := hend.imp (fun q => by simp; omega) fun q => by simp; omega
    have fin : ∀ h', (∀ c o, c ≠ z → c ≠ TO → c ≠ i1 → c ≠ i2 → s.heap.get? c = some o → h'.get? c = some o) → Inv X pins σ H { s with heap := h' } := fun h' hk =>
      I.turnedL (t' := s.toks) (ch := [z, TI, TO, i1, i2]) (fun c o hb q => hk c o (fun q' => hb (by simp [q'])) (fun q' => hb (by simp [q'])) (fun q' => hb (by simp [q'])) (fun q' => hb (by simp [q'])) q) hf
    rcases wm.at I with hh | ⟨p1, hp1, hot⟩
    · exact wpAny_pyNext_zip_end hh D hz hTI hTO h1 h2 p.isList p2.isList he fun h' hk => ⟨rfl, fin h' hk⟩
    · exact zip_hot hot (fp_ne hp1 (hf z (by simp))) (fp_ne hp1 (hf TO (by simp))) (fp_ne hp1 (hf i1 (by simp))) (fp_ne hp1 (hf i2 (by simp))) D hz hTI hTO h1 h2 p.isList p2.isList he fun h' hk => ⟨rfl, fin h' hk⟩
  self := (turn_zip (P := P) (w := w) (K := K) (elts := elts) (kk := kk) (tpos := tpos) D).self
theorem piW_zip {X : Cx} {e e2 : Expr} {ta : TA} {p pos tpos : Pos} {elts : List Expr} {kk : Nat} (hg : Gl X "zip") (hm : X.mg "zip" = none) (ha : PA X [e, e2] ta)
    (hs : starEach [e, e2] X.env = (false, eval e X.env) :: starEach [e2] X.env) (hpl : (backTo pos (starEach [e2] X.env)).any (·.1) = false) : PIW X (.Tuple elts kk tpos) (.Call (.Name "zip" p) [e, e2] [] pos) (iZip X.K ta) := by
  refine ⟨fun pins s σ H R I h => Call_ (ld_blt I hg hm PyProof.Rows.boot_zip (PyProof.Rows.callWith_type1 (thn (ha.run pos pins s σ H _ I h) fun us s1 ⟨vs, H1, I1, r1, q1⟩ => ?_) hs hpl))⟩
  obtain ⟨a, b, xs, ys, ex, hqx, hqy, q⟩ := q1
  subst ex
  cases r1 with
  | cons r rr =>
    cases rr with
    | cons r' rr =>
      cases rr
      cases r
      cases r'
      obtain ⟨its, rv, p1, _⟩ := I1.list hqx
      obtain ⟨its2, rv2, p2, _⟩ := I1.list hqy
      refine call_zip_2 p1.isList p2.isList fun h' hz hTI hTO h1 h2 hsz hk => wpAny_pyIter_zip hz ?_
      have J2 : Inv X pins σ H1 { s1 with heap := h' } := I1.kept (t' := s1.toks) hk
      refine ⟨s1.heap.objs.size + 4, [s1.heap.objs.size + 4, s1.heap.objs.size + 2, s1.heap.objs.size + 3, s1.heap.objs.size, s1.heap.objs.size + 1], _, _, H1, rfl, J2, turnW_zip (PySem.W.ktu_apart s1.heap.objs.size a b p1.lt p2.lt), ⟨hz, hTI, ⟨_, _, hTO⟩, h1, h2⟩, fun c hcm => ?_, q⟩
      have e' : c = s1.heap.objs.size + 4 ∨ c = s1.heap.objs.size + 2 ∨ c = s1.heap.objs.size + 3 ∨ c = s1.heap.objs.size ∨ c = s1.heap.objs.size + 1 := by simpa using hcm
      have hle : s1.heap.objs.size ≤ c := by rcases e' with z | z | z | z | z <;> rw [z] <;> first | exact Nat.le_add_right _ _ | exact Nat.le_refl _
      exact I1.fpOk hle (I1.hok.fresh hle)
end TL
set_option Elab.async false
set_option linter.all false
set_option maxRecDepth 100000
set_option maxHeartbeats 2000000
namespace TL
open PySem L2 PySem.Spec PyProof.Rows HotX

abbrev _root_.L2.Cx.blkW (X : Cx) (s : Shared) (H : Hp) (scope : Scope) (cenv : PySem.Env) (fp : List Addr) : Cx := { X.blk s H scope cenv fp with pn := X.pn }
theorem Warm.blk {X : Cx} {s : Shared} {H : Hp} {scope : Scope} {cenv : PySem.Env} {fp : List Addr} (wm : Warm X) : Warm (X.blkW s H scope cenv fp) := wm
theorem block_startW {X : Cx} {pins : List (Addr × Obj)} {σ : L2.St} {H : Hp} {s : Shared} {scope : Scope} {own : List (Str × Nat)} {fp : List Addr} (I : Inv X pins σ H s) (ok : BlkOk X.N X.env.scope scope own) (hN : X.N.Nodup) (hfp : ∀ b ∈ fp, FpOk X pins H b ∧ b < s.heap.objs.size) :
    Inv (X.blkW s H scope (compEnvC scope (cellsFrom (s.heap.objs.size + 1) scope.names (cloFrom X.env.cells scope.names [])) s.heap.objs.size X.env) fp) [] (wipe σ (own.map (·.2))) H { s with heap := pushCells (s.heap.push { cls := .type "dict", data := .dict #[] }) scope.names } := by
  have J := block_start I ok hN hfp
  refine ⟨⟨J.ok.mod, J.ok.kind, J.ok.glob, J.ok.blt, J.ok.above, J.ok.inj, J.ok.has, J.ok.cab, J.ok.hd, J.ok.frames, J.ok.stk, J.ok.exf, J.ok.bs, J.ok.bsz, J.ok.noex, J.ok.exfs, J.ok.funs, J.ok.frf⟩, J.os, J.bare, J.base, J.loc, J.cell, J.free, J.freeC, fun p hp => ?_, J.hok, J.len⟩
  obtain ⟨g1, g2, g3, g4, g5⟩ := I.pin p (List.mem_append_left _ (by simpa using hp))
  have hlt := Heap.lt_size g1
  refine ⟨pushCells_keeps _ _ _ _ (Heap.get?_push_of_some _ g1), g2, Nat.ne_of_lt hlt, fun z => ?_, g5⟩
  rcases List.mem_cons.mp (I.stkSub _ z) with z | z
  · exact g3 z
  · exact g4 z
theorem lc_coreW {pins : List (Addr × Obj)} {s : Shared} {σ : L2.St} {H : Hp} {Q : VK} {elt tg iter : Expr} {ifs : List Expr} {scope : Scope} {own : List (Str × Nat)} {pos pos' : Pos} {wi : TI} {g : TG} {tt : TT} {te : TE} {use : Option (Value → Sem Unit)} {Qf : Value → Shared → Prop}
    (wm : Warm X) (hN : X.N.Nodup) (I : Inv X pins σ H s) (hi : PIW X tg iter wi) (ok : BlkOk X.N X.env.scope scope own)
    (hg : ∀ (s : Shared) (H : Hp) (C : Addr) (cl : List (Str × Addr)) (fp : List Addr), PG (X.blkW s H scope (compEnvC scope cl C X.env) fp) tg g) (ht : ∀ (s : Shared) (H : Hp) (C : Addr) (cl : List (Str × Addr)) (fp : List Addr), PTs (X.blkW s H scope (compEnvC scope cl C X.env) fp) ifs tt)
    (he : ∀ (s : Shared) (H : Hp) (C : Addr) (cl : List (Str × Addr)) (fp : List Addr), PE (X.blkW s H scope (compEnvC scope cl C X.env) fp) elt te) (hs : ∀ x, foldedSetIterable iter X.env x = pure x)
    (h : tLc wi g tt te (own.map (·.2)) σ H Q)
    (hRR : ∀ D C s' m H', Inv X pins σ H' s' → Q (.ref D) H' → s'.heap.Ns C m → FpOk X pins H' C → compPost (model X.prog X.w) X.A X.xe use Qf (.ref D) C (.ok .next) s') :
    wpAny (model X.prog X.w) X.A (comprehension (.ListComp elt [⟨tg, iter, ifs, 0⟩] scope pos) scope X.env pos' (newList []) false (eval iter X.env) use) Qf X.xe s := by
  have hfree : ∀ y ∈ scope.names, y.2 = .free → ∃ c, X.env.cells.lookup y.1 = some c := fun y hy e => by
    rcases ok.free y hy e with k | k
    · exact I.ok.has _ (.inl k)
    · exact I.ok.has _ (.inr k)
  refine wpAny_comprehension_free (use := use) rfl hs (closure_ok hfree) ok.kind (fun y hy e => by rw [ok.uniq y hy, e])
    (thn (hi.run pins s σ H _ I h) fun xv t1 hx => thn hx fun itv t2 h2 => ?_)
  obtain ⟨it, fp, tn, J, G2, e, J2, T, u2, k2, q⟩ := h2
  subst e
  refine wpAny_newObj_type (newEnv_comp ?_) (by show 0 ≤ sizeLine; decide)
  generalize hd : t2.heap.objs.size = D
  have hdn : G2 D = none := J2.hok.fresh (Nat.le_of_eq hd)
  obtain ⟨W, ⟨m0, w0⟩, turn⟩ := q D hdn
  -- the new list
  generalize hs3 : ({ t2 with heap := t2.heap.push { cls := .type "list", data := .seq ([] : List Value).toArray } } : Shared) = t3
  have J3 : Inv X pins σ (upd G2 D (.lst [])) t3 := by
    rw [← hs3]
    refine J2.laid (t' := t2.toks) (fun b o e => Heap.get?_push_of_some _ e) (Nat.le_of_eq hd) ⟨Nat.zero_le _, [], 0, .nil, ?_⟩
    rw [← hd]
    exact Heap.get?_push_size _ rfl
  have h3 : t3.heap = t2.heap.push { cls := .type "list", data := .seq ([] : List Value).toArray } := by rw [← hs3]
  have sz : ∀ b ∈ fp, b < t2.heap.objs.size := fun b hb => by
    obtain ⟨o, e, _⟩ := T.obj _ _ u2 b hb
    exact Heap.lt_size e
  have k3 : ∀ b ∈ fp, FpOk X pins (upd G2 D (.lst [])) b ∧ b < t3.heap.objs.size := fun b hb => by
    have hlt := sz b hb
    refine ⟨⟨?_, (k2 b hb).2⟩, by rw [h3, Heap.size_push]; exact Nat.lt_succ_of_lt hlt⟩
    rw [upd_ne (by rw [← hd]; exact Nat.ne_of_lt hlt)]
    exact (k2 b hb).1
  have u3 : tn 0 t3.heap := T.keep _ _ _ u2 fun b _ o e => by rw [h3]; exact Heap.get?_push_of_some _ e
  have J4 := block_startW J3 ok hN k3
  have pg := hg t3 (upd G2 D (.lst [])) t3.heap.objs.size (cellsFrom (t3.heap.objs.size + 1) scope.names (cloFrom X.env.cells scope.names [])) fp
  have pt := ht t3 (upd G2 D (.lst [])) t3.heap.objs.size (cellsFrom (t3.heap.objs.size + 1) scope.names (cloFrom X.env.cells scope.names [])) fp
  have pe := he t3 (upd G2 D (.lst [])) t3.heap.objs.size (cellsFrom (t3.heap.objs.size + 1) scope.names (cloFrom X.env.cells scope.names [])) fp
  show codeAny _ _ (.compStart (.ListComp elt [⟨tg, iter, ifs, 0⟩] scope pos) 0 (.ref it) (.ref D) (compEnvC scope (cellsFrom (t3.heap.objs.size + 1) scope.names (cloFrom X.env.cells scope.names [])) t3.heap.objs.size X.env)) (compPost (model X.prog X.w) X.A X.xe use Qf (.ref D) t3.heap.objs.size) { t3 with heap := pushCells (t3.heap.push { cls := .type "dict", data := .dict #[] }) scope.names }
  have nfp : ∀ b ∈ fp, (upd G2 D (.lst [])) b = none := fun b hb => (k3 b hb).1.1
  generalize hCe : compEnvC scope (cellsFrom (t3.heap.objs.size + 1) scope.names (cloFrom X.env.cells scope.names [])) t3.heap.objs.size X.env = ce at J4 pg pt pe ⊢
  have cL : ce.locals = t3.heap.objs.size := by subst hCe; rfl
  generalize hH3 : upd G2 D (.lst []) = G3 at J3 J4 pg pt pe w0 nfp k3
  generalize hs4 : ({ t3 with heap := pushCells (t3.heap.push { cls := .type "dict", data := .dict #[] }) scope.names } : Shared) = t4 at J4 ⊢
  have u4 : tn 0 t4.heap := T.keep _ _ _ u3 fun b _ o e => by rw [← hs4]; exact pushCells_keeps _ _ _ _ (Heap.get?_push_of_some _ e)
  have stat : ∀ {σ' : L2.St} {H' : Hp} {s' : Shared}, Inv (X.blkW t3 G3 scope ce fp) [] σ' H' s' → (∀ b ∈ fp, H' b = none) → ∀ b ∈ fp, FpOk (X.blkW t3 G3 scope ce fp) [] H' b := fun {σ' H' s'} I' hn b hb =>
    ⟨hn b hb, (I'.ok.exf b hb).1, I'.ok.exfs b hb, .inl hb, fun x c e => (I'.ok.exf b hb).2 x c e, fun p hp => (k3 b hb).1.2.2.2.2.2 p (List.mem_append_left _ (by simpa using hp))⟩
  have loop : codeAny (model X.prog X.w) X.A (.compLoop (.ListComp elt [⟨tg, iter, ifs, 0⟩] scope pos) 0 (.ref it) (.ref D) ce) (compPost (model X.prog X.w) X.A X.xe use Qf (.ref D) t3.heap.objs.size) t4 := by
    refine compLoop_any (fun n s' => ∃ i H', Inv (X.blkW t3 G3 scope ce fp) [] (wipe σ (own.map (·.2))) H' s' ∧ tn i s'.heap ∧ (∀ b ∈ fp, H' b = none) ∧ W i n H') ?_ m0 ⟨0, G3, J4, u4, nfp, w0⟩
    rintro n t5 ⟨i, G5, J5, u5, m5, w5⟩
    rcases turn i n G5 w5 with ⟨stop, qq⟩ | ⟨go, Nx, hNx, step⟩
    · have td := T.done (X.blkW t3 G3 scope ce fp) rfl rfl rfl wm.blk i [] t5 _ G5 (fun _ _ => False) J5 (stat J5 m5) u5 stop
      refine thnF td fun r t6 ⟨hr, J6⟩ => ?_
      subst hr
      -- back in the def's context
      have J7 : Inv X pins σ G5 t6 := J3.call' (ch := fp) J6.os J6.base J6.hok J6.bare fun b hb => ⟨(k3 b hb).1.2.2.2.1, (k3 b hb).1.2.1, (k3 b hb).1.2.2.2.2.1, (k3 b hb).1.2.2.2.2.2⟩
      have nC : G5 t3.heap.objs.size = none := by
        have z : G5 ce.locals = none := J6.free
        rw [cL] at z
        exact z
      obtain ⟨m, hn, _⟩ := J6.loc
      have hn : t6.heap.Ns ce.locals m := hn
      rw [cL] at hn
      exact hRR D t3.heap.objs.size t6 m G5 J7 qq hn (J3.fpOk (Nat.le_refl _) nC)
    · have ti := T.item (X.blkW t3 G3 scope ce fp) rfl rfl rfl i [] t5 _ G5 (fun _ _ => False) J5 (stat J5 m5) u5 go
      refine thnF ti fun r t6 ⟨u, hr, h6⟩ => ?_
      subst hr
      refine thnF h6 fun _ t7 ⟨x, G7, J7, r7, y7, u7, m7⟩ => ?_
      have J7' := J7.pinned (stat J7 m7) (T.obj _ _ u7)
      refine thnF (pg.run _ t7 _ G7 x u _ J7' r7 (step x G7 y7)) fun _ t8 ⟨σ8, G8, J8, hw8, e8⟩ => ?_
      refine thnF (pt.run _ t8 σ8 G8 _ J8 e8) fun b t9 ⟨G9, J9, e9⟩ => ?_
      -- the turn's end
      have fin : ∀ {s' : Shared} {H' : Hp}, Inv (X.blkW t3 G3 scope ce fp) ([] ++ pinsAt fp t7.heap) σ8 H' s' → Nx H' → ∃ m, m < n ∧ ∃ i H', Inv (X.blkW t3 G3 scope ce fp) [] (wipe σ (own.map (·.2))) H' s' ∧ tn i s'.heap ∧ (∀ b ∈ fp, H' b = none) ∧ W i m H' := fun {s' H'} I' nx => by
        obtain ⟨m', hm, w'⟩ := hNx H' nx
        have pin' : ∀ b ∈ fp, ∀ o, t7.heap.get? b = some o → s'.heap.get? b = some o ∧ H' b = none := fun b hb o e =>
          let z := I'.pin (b, o) (List.mem_append_right _ (List.mem_append_right _ (mem_pinsAt hb e)))
          ⟨z.1, z.2.1⟩
        have hl : (wipe σ (own.map (·.2))).length = σ8.length := by rw [← hw8, wipe_length]
        refine ⟨m', hm, i + 1, H', (I'.unpinned (pins := [])).weak hl (fun j v e => ?_), T.keep _ _ _ u7 fun b hb o e => (pin' b hb o e).1, fun b hb => ?_, w'⟩
        · rw [← hw8] at e
          exact (wipe_some e).1
        · obtain ⟨o, e, _⟩ := T.obj _ _ u7 b hb
          exact (pin' b hb o e).2
      cases b with
      | false =>
        simp only [Bool.false_eq_true, if_false] at e9 ⊢
        exact fin J9 e9
      | true =>
        simp only [if_true] at e9 ⊢
        refine thnF (pe.run _ t9 σ8 G9 _ J9 e9) fun z t10 ⟨yv, H10, I10, r10, acc, hD10, hz10, nx⟩ => ?_
        exact app_ok (X := X.blkW t3 G3 scope ce fp) I10 hD10 hz10 r10 fun t11 I11 => fin I11 nx
  exact codeAny_compStart_list loop (T.self X.A 0 _ _ _ u4 loop)
theorem pe_lcW {X : Cx} {elt tg iter : Expr} {ifs : List Expr} {scope : Scope} {own : List (Str × Nat)} {pos : Pos} {wi : TI} {g : TG} {tt : TT} {te : TE} (wm : Warm X) (hN : X.N.Nodup) (hi : PIW X tg iter wi) (ok : BlkOk X.N X.env.scope scope own)
    (hg : ∀ (s : Shared) (H : Hp) (C : Addr) (cl : List (Str × Addr)) (fp : List Addr), PG (X.blkW s H scope (compEnvC scope cl C X.env) fp) tg g) (ht : ∀ (s : Shared) (H : Hp) (C : Addr) (cl : List (Str × Addr)) (fp : List Addr), PTs (X.blkW s H scope (compEnvC scope cl C X.env) fp) ifs tt)
    (he : ∀ (s : Shared) (H : Hp) (C : Addr) (cl : List (Str × Addr)) (fp : List Addr), PE (X.blkW s H scope (compEnvC scope cl C X.env) fp) elt te) (hs : ∀ x, foldedSetIterable iter X.env x = pure x) : PE X (.ListComp elt [⟨tg, iter, ifs, 0⟩] scope pos) (tLc wi g tt te (own.map (·.2))) := by
  refine ⟨fun pins s σ H Q I h => ?_⟩
  rw [eval_ListComp]
  refine lc_coreW wm hN I hi ok hg ht he hs h fun D C s' m H' J q hn f => ⟨m, hn, fun h'' sb => ?_⟩
  obtain ⟨f0, f1, f2, f3, f4, f5⟩ := f
  exact ⟨.ref D, H', J.turned (t' := s'.toks) (fun b o hb e => (sb.2 b hb).trans e) f0 f1 f3 f4 f5, rfl, q⟩

def LIW (c : Ct) (T : TAD) : TI := LI c T
theorem piw_imp {X : Cx} {tg e : Expr} {t t' : TI} (h : PIW X tg e t) (i : ∀ pins s σ H R, Inv X pins σ H s → t' σ H R → t σ H R) : PIW X tg e t' := ⟨fun pins s σ H R I q => h.run pins s σ H R I (i pins s σ H R I q)⟩
section
variable {X : Cx} {c : Ct} {w : Bool} {tg e e2 iter elt : Expr} {es : List Expr} {V1 : TAD} {pos p : Pos} {G : TGD} {Tt : TTD} {scope : Scope} {own : List (Str × Nat)} {ifs : List Expr} {Ti : TAD} {Te : TED} {js : List Nat}
theorem xiw_zip {elts : List Expr} {kk : Nat} {tpos : Pos} (hK : c.K = X.K) (hm : X.mg "zip" = none) (ha : PA X [e, e2] (LA c true V1)) (hg : Gl X "zip" := by rfl)
    (hs : starEach [e, e2] X.env = (false, eval e X.env) :: starEach [e2] X.env := by rfl) (hpl : (backTo pos (starEach [e2] X.env)).any (·.1) = false := by rfl) : PIW X (.Tuple elts kk tpos) (.Call (.Name "zip" p) [e, e2] [] pos) (LI c (xZip V1)) :=
  piw_imp (piW_zip hg hm ha hs hpl) fun _ _ σ H R I q => by
    obtain ⟨gh, γ, Qd, S, q1, k⟩ := q
    refine ⟨gh, γ, _, S, q1, fun ds vs H' h1 r S' x => ?_⟩
    obtain ⟨xs, ys, e1, h1⟩ := h1
    subst e1
    rw [← hK]
    cases r with
    | cons r1 r2 =>
      cases r2 with
      | cons r2 r3 =>
        cases r3
        cases r1 with
        | lst n h s =>
          cases r2 with
          | lst n' h' s' =>
            refine ⟨_, _, _, _, rfl, SqL.of h, SqL.of h', k _ _ _ H' h1 src_zip (fun p hp => ?_) S' x⟩
            rcases List.mem_cons.mp hp with e | hp
            · subst e
              exact .lst n h s
            · rw [List.mem_singleton] at hp
              subst hp
              exact .lst n' h' s'
theorem ygw_tup {k : Nat} {n : Nat} {Gs : TGDs} (hK : c.K = X.K) (wm : Warm X) (h : PGs X es (LGs c js Gs)) (hn : (assignEach es X.env).length = n := by rfl) (hst : (assignEach es X.env).findIdx? (·.1) = none := by rfl) : PG X (.Tuple es k pos) (LG c js (yTup n Gs)) :=
  pg_imp (pg_tupW wm h hn hst) fun _ _ σ H v Q I q => by
    obtain ⟨gh, γ, d, Qd, S, r, ⟨ds, e, hl, q1⟩, kk⟩ := q
    subst e
    rw [← hK]
    cases r with
    | tup n h s => exact ⟨_, _, rfl, SqT.of h, by rw [s.length]; exact hl, gh, γ, ds, Qd, S, s, q1, kk⟩
    | tupK h s => exact ⟨_, _, rfl, .inr h, by rw [s.length]; exact hl, gh, γ, ds, Qd, S, s, q1, kk⟩
theorem xfw_lc (wm : Warm X) (hN : X.N.Nodup) (hi : PIW X tg iter (LI c Ti)) (ok : BlkOk X.N X.env.scope scope own) (hj : ∀ j ∈ js, j ∈ own.map (·.2))
    (hg : ∀ (s : Shared) (H : Hp) (C : Addr) (cl : List (Str × Addr)) (fp : List Addr) (A : Addr), PG (X.blkW s H scope (compEnvC scope cl C X.env) fp) tg (LG (c.at A) js G))
    (ht : ∀ (s : Shared) (H : Hp) (C : Addr) (cl : List (Str × Addr)) (fp : List Addr) (A : Addr), PTs (X.blkW s H scope (compEnvC scope cl C X.env) fp) ifs (LT (c.at A) Tt))
    (he : ∀ (s : Shared) (H : Hp) (C : Addr) (cl : List (Str × Addr)) (fp : List Addr) (A : Addr), PE (X.blkW s H scope (compEnvC scope cl C X.env) fp) elt (LE (c.at A) w Te))
    (hs : ∀ x, foldedSetIterable iter X.env x = pure x := by intro _; rfl) : PE X (.ListComp elt [⟨tg, iter, ifs, 0⟩] scope pos) (LF c w (xLc Ti G Tt Te (own.map (·.2)))) :=
  pe_imp (pe_lcW (g := tgAll c js G) (tt := ttAll c Tt) (te := teAll c w Te) wm hN hi ok (fun s H C cl fp => ⟨fun pins s' σ H' v u Q I r ⟨A, q⟩ => (hg s H C cl fp A).run pins s' σ H' v u Q I r q⟩)
    (fun s H C cl fp => ⟨fun pins s' σ H' Q I ⟨A, q⟩ => (ht s H C cl fp A).run pins s' σ H' Q I q⟩) (fun s H C cl fp => ⟨fun pins s' σ H' Q I ⟨A, q⟩ => (he s H C cl fp A).run pins s' σ H' Q I q⟩) hs)
    fun _ _ _ _ _ _ q => lc_lift hj q
end
end TL
set_option Elab.async false
set_option linter.all false
set_option maxRecDepth 100000
set_option maxHeartbeats 2000000
namespace TL
open PySem L2 PySem.Spec PyProof.Rows HotX

theorem SI.noGh {c : Ct} {gh : List (V × D)} {γ : TL.Env} {σ : L2.St} {H : Hp} (S : SI c gh γ σ H) : SI c [] γ σ H := ⟨S.len, S.ext, S.bag, S.pB, S.pL, S.pal, S.val, S.own, S.ins, fun p hp => (by cases hp), S.fresh, S.sep⟩
def LS0 (c : Ct) (T : TSD) : TS := fun E σ H => ∃ (γ : TL.Env) (ED : EndsD), SI c [] γ σ H ∧ T ED γ ∧
  (∀ γ' σ' H', ED.nx γ' → SI c [] γ' σ' H' → E.nx σ' H') ∧ (∀ d v H', ED.rt d → Rep c.K c.B c.P H' v d → Ext c.B c.H0 H' → BagOk c.B c.L H' → E.rt v H') ∧
  (∀ γ' σ' H', ED.bk γ' → SI c [] γ' σ' H' → E.bk σ' H') ∧ (∀ γ' σ' H', ED.ct γ' → SI c [] γ' σ' H' → E.ct σ' H')
section
variable {X : Cx} {c : Ct} {st : Stmt} {rest body : List Stmt} {T U : TSD}
theorem z0 (h : PS X st (LS c T)) : PS X st (LS0 c T) := ps_imp h fun _ _ _ _ _ _ ⟨γ, ED, q⟩ => ⟨[], γ, ED, q⟩
theorem zs0 (h : PSs X body (LS c T)) : PSs X body (LS0 c T) := pss_imp h fun _ _ _ _ _ _ ⟨γ, ED, q⟩ => ⟨[], γ, ED, q⟩
theorem zs_cons0 (h : PS X st (LS0 c T)) (hr : PSs X rest (LS0 c U)) : PSs X (st :: rest) (LS0 c (zSeq T U)) := pss_imp (pss_cons h hr) fun _ _ σ H E I q => by
  obtain ⟨γ, ED, S, q1, k1, k2, k3, k4⟩ := q
  exact ⟨γ, _, S, q1, fun γ' σ' H' h1 S1 => ⟨γ', ED, S1, h1, k1, k2, k3, k4⟩, k2, k3, k4⟩
theorem zs_one0 (h : PS X st (LS0 c T)) : PSs X [st] (LS0 c T) := pss_one h
end

theorem passes_false {X : Cx} : Passes (L2N.CX X.prog X.w) X (fun _ _ _ => False) := fun _ _ _ _ _ _ _ cx => by
  obtain ⟨_, _, _, _, _, _, _, _, _, _, _, _, z⟩ := cx
  exact z.elim
section
variable {X : Cx} {x : Str} {e : Expr} {es : List Expr} {ta : TA} {p pos : Pos} {C fI : Addr} {k : Nat} {fd : FuncData} {ps : List Str} {sp : Sp}
theorem pmk_oexN (T : OexC X.K C) (iC : PySem.W.findIn X.K (.ref C) "__init__" = some (some (.ref fI))) (tI : PySem.W.typeIn X.K (.ref fI) = some (.type "function")) (F1 : FnOk X.prog X.w X.K X.mg X.base (L2N.CX X.prog X.w) k fI fd ps sp) (hr : Room (k + 1) X.A)
    (hb : Binds X.K fd ps []) (hg : Gl X x) (hm : X.mg x = some (.ref C)) (ha : PA X (e :: es) ta) (hdb : (x == ("__debug__" : Str)) = false) (he : starEach (e :: es) X.env = (false, eval e X.env) :: starEach es X.env) (hpl : (backTo pos (starEach es X.env)).any (·.1) = false) :
    L2N.PMk X (.Call (.Name x p) (e :: es) [] pos) (tMkO C sp [] ta) := by
  intro pins s σ H Q I h
  obtain ⟨nm, q, N, bs, bm, sn, sub, ab, col, dd, k0, k1, k2, k3, k5, gC, hbm⟩ := T.cls
  refine wpAny_Call_Name_kw (ld_glob I hg hm ?_ hdb); refine PySem.W.callWith_K (h₀ := X.base) I.ok.mod.kin T.kC (thn (ha.run pos pins s σ H _ I h) fun us s1 ⟨vs, H1, J1, r1, hz, q1⟩ => ⟨J1.kIn, ?_⟩) he hpl
  show wpAny _ _ (call (.ref C) us) _ _ _
  obtain ⟨hp, g, dr, tk, os⟩ := s1
  have big : hp.objs.size ≤ hp.objs.size + 1 := Nat.le_succ _
  have hq := q1 (hp.objs.size + 1) (J1.hok.fresh big)
  rw [List.append_nil] at hq
  have kk : ∀ b o, hp.get? b = some o → ((hp.push (PySem.W.kdv_tup us)).push (PySem.HandSPX.excO C hp.objs.size)).get? b = some o := fun b o z => Heap.get?_push_of_some _ (Heap.get?_push_of_some _ z)
  have gE : ((hp.push (PySem.W.kdv_tup us)).push (PySem.HandSPX.excO C hp.objs.size)).get? (hp.objs.size + 1) = some (PySem.HandSPX.excO C hp.objs.size) := by heap_get
  have J2 : Inv X pins σ (upd H1 (hp.objs.size + 1) (exo (hp.objs.size + 1) C none)) ⟨(hp.push (PySem.W.kdv_tup us)).push (PySem.HandSPX.excO C hp.objs.size), g, dr, tk, os⟩ :=
    J1.laid (t' := tk) (a := hp.objs.size + 1) (o := exo (hp.objs.size + 1) C none) (h' := (hp.push (PySem.W.kdv_tup us)).push (PySem.HandSPX.excO C hp.objs.size)) kk big (exo_ok gE)
  have r2 : Vals (V.ref (hp.objs.size + 1) :: vs) (Value.ref (hp.objs.size + 1) :: us) := .cons rfl r1
  have hl : (Value.ref (hp.objs.size + 1) :: us ++ []).length = ps.length := by
    have z := r2.length
    rw [F1.len _ _ _ _ hq] at z
    rw [List.append_nil, z]
  have lim : us.length ≤ sizeLine := by
    rw [← Paired.length r1, sizeLine_eq]; omega
  have b2 := hb _ (Value.ref (hp.objs.size + 1) :: us) J2.kIn hl
  rw [List.append_nil] at b2
  refine wpAny_call (PySem.HandSPX.call_own F.excBase_ValueError (fun Y => PySem.HandSPX.refsVE_contains Y bm hbm) (J1.kIn _ _ gC) (PySem.W.looks_findIn J1.kIn iC) (fun self => PySem.W.bind_fn J1.kIn self tI) lim
    (codeAny_mono (F1.run _ X.stack _ _ ⟨Value.ref (hp.objs.size + 1) :: us, []⟩ (Value.ref (hp.objs.size + 1) :: us) _ _ (fun _ _ _ => False) (hr.make C us []) (J2.env0.make C us []) b2 r2 hq) fun r s' hq' => ?_))
  cases r with
  | error er => exact passes_false pins σ _ _ er s' J2 hq'
  | ok fl =>
    cases fl with
    | ret u =>
      obtain ⟨v, H2, os2, bare2, un2, hok2, rv, ev, d, fs, ea, ed, hd1, q2⟩ := hq'
      subst ev
      obtain ⟨h2, g2, d2, t2, os'⟩ := s'
      obtain ⟨t0, G, J, kG, ge, hoe, na⟩ := mk_end0 (d2 := d2) (t2 := t2) J1 big kk un2 hok2 os2 bare2 ea ed hd1
      exact ⟨rv, hp.objs.size + 1, _, _, ⟨G, g2, d2, t2, os'⟩, _, .ref C, some d, rfl, J, kG, ge, hoe, ⟨rfl, rfl, fun vs hv => by cases hv; rfl⟩, rfl, rfl, na, rfl, bare2, raises_own T.exC T.tyC, q2⟩
    | _ => exact False.elim hq'
/-- the fields that __init__ stores: two arguments, and the class' name as code -/
def exFs {α : Type} (s : Str → α) (k0 k1 code : Str) (x y : α) : List (Str × α) := [("code", s code), (k1, y), (k0, x)]
def spInit (C : Addr) (k0 k1 code : Str) : Sp := fun vs H Q _ => ∃ (a : Addr) (x y : V), vs = [.ref a, x, y] ∧ H a = some (exo a C none) ∧
  ∀ (d : Addr) (H' : Hp), H d = none → d ≠ a → H' a = some (exo a C (some d)) → H' d = some (exd d (exFs V.str k0 k1 code x y)) → (∀ b, b ≠ a → b ≠ d → H' b = H b) → Q .non H'
end

section
variable {X : Cx} {c : Ct} {W : WX} {Wx : XD → TL.Env → Prop} {x : Str} {e : Expr} {es : List Expr} {U : TAD} {p pos pos' : Pos} {C fI : Addr} {k : Nat} {fd : FuncData} {ps : List Str} {k0 k1 code : Str}
def zRaise (C : Addr) (k0 k1 code : Str) (Wx : XD → TL.Env → Prop) (U : TAD) : TSD := fun _ γ => U γ fun ds => ∃ x y, ds = [x, y] ∧ Wx ⟨C, exFs D.str k0 k1 code x y⟩ γ
theorem z_raise (hc : X.calm = true) (tk : L2N.Takes X W) (hW : WRel c Wx W) (T : OexC X.K C) (iC : PySem.W.findIn X.K (.ref C) "__init__" = some (some (.ref fI))) (tI : PySem.W.typeIn X.K (.ref fI) = some (.type "function"))
    (F1 : FnOk X.prog X.w X.K X.mg X.base (L2N.CX X.prog X.w) k fI fd ps (spInit C k0 k1 code)) (hr : Room (k + 1) X.A) (hb : Binds X.K fd ps []) (hm : X.mg x = some (.ref C)) (ha : PA X (e :: es) (LA c true U)) (hg : Gl X x := by rfl)
    (hdb : (x == ("__debug__" : Str)) = false := by decide) (he : starEach (e :: es) X.env = (false, eval e X.env) :: starEach es X.env := by rfl) (hpl : (backTo pos (starEach es X.env)).any (·.1) = false := by rfl) :
    PS X (.Raise (some (.Call (.Name x p) (e :: es) [] pos)) none pos') (LS c (zRaise C k0 k1 code Wx U)) := ps_imp (L2N.ps_raise hc tk (pmk_oexN T iC tI F1 hr hb hg hm ha hdb he hpl)) fun _ _ σ H E I q => by
  obtain ⟨gh, γ, ED, S, q1, _⟩ := q
  refine ⟨gh, γ, _, S, q1, fun ds vs H1 h1 r S1 x1 => ?_⟩
  obtain ⟨dx, dy, rfl, h1⟩ := h1
  cases r with
  | @cons vx _ _ _ rx r2 =>
    cases r2 with
    | @cons vy _ _ _ ry r3 =>
      cases r3
      refine ⟨(by show 2 ≤ 1000; decide), fun a ha0 => ⟨a, vx, vy, rfl, upd_same, fun d H' hd na ea ed rest => ⟨rfl, d, _, ea, ed, ?_, ?_⟩⟩⟩
      · rw [upd_ne na] at hd
        exact hd
      · rw [upd_ne na] at hd
        have eH : upd (del H' a) d (.xd (exFs V.str k0 k1 code vx vy)) = upd H1 d (.xd (exFs V.str k0 k1 code vx vy)) := by
          funext b
          by_cases hb : b = d
          · rw [hb, upd_same, upd_same]
          · rw [upd_ne hb, upd_ne hb]
            by_cases hba : b = a
            · rw [hba, del_same, ha0]
            · rw [del_ne hba, rest b hba hb, upd_ne hba]
        rw [eH]
        have S2 := S1.new (o := .xd (exFs V.str k0 k1 code vx vy)) hd
        refine hW _ gh γ σ _ (.ref C) (some d) h1 S2 ⟨rfl, d, _, rfl, S1.notM hd, upd_same, ?_⟩
        exact .cons (.str _) (.cons (ry.ext (S1.mB true) (Ext.new hd)) (.cons (rx.ext (S1.mB true) (Ext.new hd)) .nil))
end

theorem SI.setN {c : Ct} {gh : List (V × D)} {γ : TL.Env} {σ : L2.St} {H : Hp} {i : Nat} (S : SI c gh γ σ H) : SI c gh (γ.set i none) (σ.set i none) H := by
  have at_ : ∀ {j : Nat} {s : Slot}, (γ.set i none)[j]? = some (some s) → i ≠ j ∧ γ[j]? = some (some s) := fun {j s} h => by
    rcases set_at h with ⟨_, _, e⟩ | ⟨hj, h⟩
    · cases e
    · exact ⟨hj, h⟩
  have ow : ∀ {a : Addr}, OwnAt (γ.set i none) (σ.set i none) a → OwnAt γ σ a := fun {a} ⟨j, s, h1, h2, h3⟩ => by
    obtain ⟨hj, h1⟩ := at_ h1
    rw [List.getElem?_set_ne hj] at h3
    exact ⟨j, s, h1, h2, h3⟩
  have less : ∀ a, MW c (γ.set i none) (σ.set i none) true a → MW c γ σ true a := fun a m => m.imp id fun m => ⟨m.1, ow m.2⟩
  refine ⟨by simpa using S.len, S.ext, S.bag, S.pB, S.pL, S.pal, fun j d h => ?_, fun j xs h => ?_, fun j C gs h => ?_, fun p hp => (S.gho p hp).less less, fun p hp => S.fresh p (ow hp), fun j k s t p h1 h2 h3 h4 h5 h6 => ?_⟩
  · obtain ⟨hj, h⟩ := at_ h
    rw [List.getElem?_set_ne hj]
    obtain ⟨v, h1, h2⟩ := S.val j d h
    exact ⟨v, h1, h2.less less⟩
  · obtain ⟨hj, h⟩ := at_ h
    rw [List.getElem?_set_ne hj]
    obtain ⟨p, vs, h1, h2, h3⟩ := S.own j xs h
    exact ⟨p, vs, h1, h2, h3.less less⟩
  · obtain ⟨hj, h⟩ := at_ h
    rw [List.getElem?_set_ne hj]
    obtain ⟨p, dx, fs, h1, h2, h3⟩ := S.ins j C gs h
    exact ⟨p, dx, fs, h1, h2, h3.less less⟩
  · obtain ⟨n1, h1⟩ := at_ h1
    obtain ⟨n2, h4⟩ := at_ h4
    rw [List.getElem?_set_ne n1] at h3
    rw [List.getElem?_set_ne n2] at h6
    exact S.sep j k s t p h1 h2 h3 h4 h5 h6
/-- the ends of a suite whose name goes -/
def offE (i : Nat) (E : EndsD) : EndsD := { nx := fun γ => E.nx (γ.set i none), rt := E.rt, bk := fun γ => E.bk (γ.set i none), ct := fun γ => E.ct (γ.set i none) }
def wTry (K : PySem.W.Frag) (cv : Value) (i : Nat) (Ts : Addr → Addr → Addr → TSD) (E : EndsD) : XD → TL.Env → Prop := fun x γ => PySem.W.exmOne K (.ref x.C) cv = some true ∧ ∀ a dd, Ts a x.C dd (offE i E) (γ.set i (some (.val (.exc a dd x.fs))))
def zTryAs (K : PySem.W.Frag) (cv : Value) (i : Nat) (Tb : (XD → TL.Env → Prop) → TSD) (Ts : Addr → Addr → Addr → TSD) : TSD := fun E γ => Tb (wTry K cv i Ts E) E γ
section
variable {X : Cx} {c : Ct} {x n : Str} {cv : Value} {i : Nat} {body suite : List Stmt} {b₀ : Stmt} {np pos pos' : Pos} {Tb : (XD → TL.Env → Prop) → TSD} {Ts : Addr → Addr → Addr → TSD}
theorem z_tryAs (hK : c.K = X.K) (hN : X.N.Nodup) (hi : X.N[i]? = some n) (hc : Names X x cv) {W0 : WX} (tk : L2N.Takes X W0)
    (hb : ∀ (W : WX) (Wx : XD → TL.Env → Prop) (pn : List (Addr × Obj)) (xe : Value → Shared → Prop), L2N.Takes (X.tr pn xe) W → PassesOwn (model X.prog X.w) X.A X.env xe → WRel c Wx W → PSs (X.tr pn xe) body (LS0 c (Tb Wx)))
    (hsu : ∀ (a : Addr) (oe : Obj) (C dd : Addr) (pn : List (Addr × Obj)), L2N.Zn (.ref C) (some dd) oe → (∃ vs, oe.data = .fields vs) → PSs (X.suite a ((a, oe) :: pn)) (b₀ :: suite) (LS0 c (Ts a C dd)))
    (hs : X.stack = X.env :: X.outer := by rfl) (hf : X.env.frame = some X.env.locals := by rfl) (hln : X.env.kindOf n = some .local := by rfl) : PS X (.Try body [.ExceptHandler (some (.Name x np)) (some n) (b₀ :: suite) pos'] [] [] pos) (LS0 c (zTryAs c.K cv i Tb Ts)) := by
  refine ps_imp (L2N.ps_try_as (Wout := W0) (tb := fun W D σ H => ∃ Wx, WRel c Wx W ∧ LS0 c (Tb Wx) D σ H) (ts := fun a cls d D σ H => ∃ C dd, cls = .ref C ∧ d = some dd ∧ LS0 c (Ts a C dd) D σ H) hs hf hN hi hln hc tk
    (fun W pn xe t1 t2 => ⟨fun pins s σ H D I ⟨Wx, hw, q⟩ => (hb W Wx pn xe t1 t2 hw).run pins s σ H D I q⟩) (fun a oe cls d pn hz hd => ⟨fun pins s σ H D I ⟨C, dd, e1, e2, q⟩ => by
      subst e1 e2
      exact (hsu a oe C dd pn hz hd).run pins s σ H D I q⟩)) fun _ _ σ H E I q => ?_
  obtain ⟨γ, ED, S, q1, k1, k2, k3, k4⟩ := q
  refine ⟨wTry c.K cv i Ts ED, fun x gh γ' σ' H' cls d h1 S' rx => ?_, γ, ED, S, q1, k1, k2, k3, k4⟩
  obtain ⟨e1, dd, vs, e2, nM, e3, r⟩ := rx
  obtain ⟨h1, h2⟩ := h1
  subst e1 e2
  rw [hK] at h1
  refine ⟨true, h1, fun _ a ha => ⟨x.C, dd, rfl, rfl, _, offE i ED, S'.noGh.setV (i := i) (d := .exc a dd x.fs) (.exc nM e3 r), h2 a dd, fun γ2 σ2 H2 z S2 => k1 _ _ _ z S2.setN, k2, fun γ2 σ2 H2 z S2 => k3 _ _ _ z S2.setN, fun γ2 σ2 H2 z S2 => k4 _ _ _ z S2.setN⟩, fun z => by cases z⟩
end
end TL
set_option Elab.async false
set_option linter.all false
set_option maxRecDepth 100000
set_option maxHeartbeats 2000000
namespace TL
open PySem L2 PySem.Spec PyProof.Rows HotX

structure FnHq (Ok : Addr × Obj → Prop) (P : Program) (w : World) (K : PySem.W.Frag) (mg : Str → Option Value) (base : Heap) (CX : CXT) (k : Nat) (f : Addr) (fd : FuncData) (ps : List Str) (sp : Sp) : Prop where
  len : ∀ vs H Q E, sp vs H Q E → vs.length = ps.length
  run : ∀ (A : Around) (outer : List PySem.Env) (s : Shared) (H : Hp) (args : Args) (us : List Value) (vs : List V) (Q : VK) (E : XK) (p : Addr × Obj), L2H.RoomH k A → L2H.Hot1 A p → Ok p → L2H.PinOk outer H s p → Env0 P w K mg base A outer s H → BindsTo s fd args (ps.zip us) → Vals vs us →
    sp vs H Q E → codeAny (model P w) A (.call (.ref f) args) (CR CX outer P w H s Q E) s
theorem FnHq.mono {Ok : Addr × Obj → Prop} {P : Program} {w : World} {K : PySem.W.Frag} {mg : Str → Option Value} {base : Heap} {CX : CXT} {j k : Nat} {f : Addr} {fd : FuncData} {ps : List Str} {sp : Sp} (F : FnHq Ok P w K mg base CX j f fd ps sp) (h : j ≤ k) : FnHq Ok P w K mg base CX k f fd ps sp :=
  ⟨F.len, fun A outer s H args us vs Q E p hr => F.run A outer s H args us vs Q E p (hr.mono h)⟩
/-- a def's body's context: calm or not, its pins -/
abbrev cxB (b : Bool) (l : List (Addr × Obj)) (CX : CXT) (P : Program) (w : World) (K : PySem.W.Frag) (mg : Str → Option Value) (base : Heap) (N : List Str) (qual : Str) (scope : Scope) (f : Addr) (cd : Value) (A : Around) (outer : List PySem.Env) (s : Shared) (H : Hp) (E : XK) : Cx :=
  { cxOf CX P w K mg base N qual scope f cd A outer s H E with calm := b, pn := l }
section
variable {P : Program} {wd : World} {K : PySem.W.Frag} {mg : Str → Option Value} {base : Heap} {x qual : Str} {st : Stmt} {f : Addr} {fd : FuncData} {N ps : List Str} {k : Nat}
theorem fn_ofHq {sp : Sp} {Ok : Addr × Obj → Prop} (F : Fun K x qual st f fd) (S : FnScope N ps (defScope st)) (len : ∀ vs H Q E, sp vs H Q E → vs.length = ps.length)
    (hbody : ∀ (cdv : Value) (A : Around) (outer : List PySem.Env) (s : Shared) (H : Hp) (vs : List V) (Q : VK) (E : XK) (p : Addr × Obj), L2H.Hot1 A p → Ok p → L2H.RoomH k (A.deeper (envOfC qual (defScope st) s.heap.objs.size f cdv)) → sp vs H Q E →
      ∃ t, PSs (cxB false [p] (L2N.CX P wd) P wd K mg base N qual (defScope st) f cdv A outer s H E) (defBody st) t ∧ t { nx := fun _ H' => Q .non H', rt := Q } (L2.start N vs) H) : FnHq Ok P wd K mg base (L2N.CX P wd) (k + 1) f fd ps sp := by
  obtain ⟨oc, od, kV, doc, pm, an, cdv, ct, osl, rfl, lk, hcd⟩ := F.ex
  refine ⟨len, fun A outer s H args us vs Q E p hr hot hok hpin e0 hb r hsp => ?_⟩
  have hl := len _ _ _ _ hsp
  have KX : K.In s.heap := e0.mod.kin.keeps fun b o e => (e0.bs b o e).1
  have lim : s.heap.NoLimit := e0.mod.nolimit.keeps fun b o e => (e0.bs b o e).1
  have kinds : ∀ y ∈ ps.zip us, (defScope st).names.lookup y.1 = some .local ∨ ((defScope st).names.lookup y.1 = some .cell ∧ ((cellsFrom (s.heap.objs.size + 1) (defScope st).names []).lookup y.1).isSome = true) := fun ⟨n, v⟩ hy =>
    (S.par n (List.of_mem_zip hy).1).imp id fun q => ⟨q, PySem.W.cellsFrom_some _ _ _ (.inl q)⟩
  refine codeAny_call_function hr.depth (KX _ _ lk) rfl S.co S.gen rfl (PySem.W.codeRec_of KX hcd) (hb _ _ _ _ ?_); refine wpAny_newFunctionEnv_cells S.kind kinds fun env he s1 x => ?_
  subst he
  refine ⟨lim.keeps x.toInCall.keep, codeAny_func ?_⟩
  obtain ⟨t, ht, hq⟩ := hbody cdv A outer s H vs Q E p hot hok (hr.deeper _) hsp
  have J : Inv (L2H.cxH (L2N.CX P wd) P wd K mg base N qual (defScope st) f cdv A outer s H E p) [] (L2.start N vs) H s1 := L2H.inv_startH S hpin e0 hl r x
  refine wpAny_mono (ht.run [] s1 (L2.start N vs) H _ J hq) (fun fl s' hs => ?_) fun e s' hs => hs
  cases fl with
  | ret u =>
    obtain ⟨v, σ', H', J', rv, q⟩ := hs
    exact ⟨v, H', J'.os, J'.bare, J'.base, J'.hok, rv, q⟩
  | next =>
    obtain ⟨σ', H', J', q⟩ := hs
    exact ⟨.non, H', J'.os, J'.bare, J'.base, J'.hok, rfl, q⟩
  | brk => obtain ⟨_, _, _, q⟩ := hs; exact False.elim q
  | cont => obtain ⟨_, _, _, q⟩ := hs; exact False.elim q
/-- the reading at a def's entry -/
theorem sp_entry {S : SpD} {T : (XD → Prop) → TSD} {vs : List V} {H : Hp} {Q : VK} {E : XK} (hs : ∀ ds Qd Ed, S ds Qd Ed → T Ed { nx := fun _ => Qd .non, rt := Qd } (envOf N ds)) (h : spD K S vs H Q E) :
    ∃ (c : Ct) (Ed : XD → Prop), c.K = K ∧ WRel c (fun x _ => Ed x) (wOf E) ∧ LS0 c (T Ed) { nx := fun _ H' => Q .non H', rt := Q } (L2.start N vs) H := by
  obtain ⟨B, L, P', ds, Qd, Ed, pB, pL, pal, bg, r, hS, kq, ke⟩ := h
  refine ⟨ctOf K B L H P', Ed, rfl, fun x gh γ σ H' cls d h1 S' rx => ?_, envOf N ds, _, SI.entry pB pL pal bg r, hs ds Qd Ed hS, fun γ' σ' H' h1 S' => ?_, fun d v H' h1 rv e b => kq d v H' h1 rv e b, fun γ' σ' H' h1 _ => h1.elim, fun γ' σ' H' h1 _ => h1.elim⟩
  · obtain ⟨e1, a, vs', e2, n, e3, e4⟩ := rx
    exact ke x cls d H' h1 ⟨e1, a, vs', e2, fun z => n (.inl z), e3, e4.less fun a m => .inl m⟩ S'.ext S'.bag
  · exact kq .non .non H' h1 .non S'.ext S'.bag
/-- a def by its body, calm -/
theorem fnD0 {S : SpD} {T : (XD → Prop) → TSD} (F : Fun K x qual st f fd) (Sc : FnScope N ps (defScope st)) (len : ∀ ds Q E, S ds Q E → ds.length = ps.length)
    (hd : ∀ (cdv : Value) (A : Around) (outer : List PySem.Env) (s : Shared) (H : Hp) (E : XK) (c : Ct) (Ed : XD → Prop), Room k (A.deeper (envOfC qual (defScope st) s.heap.objs.size f cdv)) → c.K = K →
      L2N.Takes (cxB true [] (L2N.CX P wd) P wd K mg base N qual (defScope st) f cdv A outer s H E) (wOf E) → PassesOwn (model P wd) (A.deeper (envOfC qual (defScope st) s.heap.objs.size f cdv)) (envOfC qual (defScope st) s.heap.objs.size f cdv) (cxB true [] (L2N.CX P wd) P wd K mg base N qual (defScope st) f cdv A outer s H E).xe →
      WRel c (fun x _ => Ed x) (wOf E) → PSs (cxB true [] (L2N.CX P wd) P wd K mg base N qual (defScope st) f cdv A outer s H E) (defBody st) (LS0 c (T Ed)))
    (hs : ∀ ds Qd Ed, S ds Qd Ed → T Ed { nx := fun _ => Qd .non, rt := Qd } (envOf N ds)) : FnOk P wd K mg base (L2N.CX P wd) (k + 1) f fd ps (spD K S) := by
  obtain ⟨oc, od, kV, doc, pm, an, cdv, ct, osl, rfl, lk, hcd⟩ := F.ex
  refine fn_of lk hcd Sc (fun vs H Q E h => ?_) fun A outer s H vs Q E hr h => ?_
  · obtain ⟨B, L, P', ds, Qd, Ed, _, _, _, _, r, hS, _⟩ := h
    rw [r.length, len ds Qd Ed hS]
  · obtain ⟨c, Ed, hK, hW, q⟩ := sp_entry hs h
    exact ⟨_, hd cdv A outer s H E c Ed hr hK (L2N.takes_of rfl rfl rfl rfl) (passes_of (K := fun e s'' => L2N.CX P wd outer H s E e s'') rfl) hW, q⟩
/-- a def by its body, while the exception p is handled -/
theorem fnH0 {S : SpD} {T : (XD → Prop) → TSD} {Ok : Addr × Obj → Prop} (F : Fun K x qual st f fd) (Sc : FnScope N ps (defScope st)) (len : ∀ ds Q E, S ds Q E → ds.length = ps.length)
    (hd : ∀ (cdv : Value) (A : Around) (outer : List PySem.Env) (s : Shared) (H : Hp) (E : XK) (p : Addr × Obj) (c : Ct) (Ed : XD → Prop), L2H.Hot1 A p → Ok p → L2H.RoomH k (A.deeper (envOfC qual (defScope st) s.heap.objs.size f cdv)) → c.K = K →
      L2N.Takes (cxB false [p] (L2N.CX P wd) P wd K mg base N qual (defScope st) f cdv A outer s H E) (wOf E) → WRel c (fun x _ => Ed x) (wOf E) → PSs (cxB false [p] (L2N.CX P wd) P wd K mg base N qual (defScope st) f cdv A outer s H E) (defBody st) (LS0 c (T Ed)))
    (hs : ∀ ds Qd Ed, S ds Qd Ed → T Ed { nx := fun _ => Qd .non, rt := Qd } (envOf N ds)) : FnHq Ok P wd K mg base (L2N.CX P wd) (k + 1) f fd ps (spD K S) := by
  refine fn_ofHq F Sc (fun vs H Q E h => ?_) fun cdv A outer s H vs Q E p hot hok hr h => ?_
  · obtain ⟨B, L, P', ds, Qd, Ed, _, _, _, _, r, hS, _⟩ := h
    rw [r.length, len ds Qd Ed hS]
  · obtain ⟨c, Ed, hK, hW, q⟩ := sp_entry hs h
    exact ⟨_, hd cdv A outer s H E p c Ed hot hok hr hK (L2N.takes_of rfl rfl rfl rfl) hW, q⟩
end

section
variable {X : Cx} {c : Ct} {W : WX} {Wx : XD → TL.Env → Prop} {k : Nat} {f : Addr} {fd : FuncData} {ps : List Str} {S : SpD} {x : Str} {q pos : Pos} {e : Expr} {es : List Expr} {U : TAD} {Ok : Addr × Obj → Prop} {pn : Addr × Obj}
theorem run_fnHq {CX : CXT} {sp : Sp} {E : L2.St → XK} {pins : List (Addr × Obj)} {σ : L2.St} {H : Hp} {s : Shared} {Q : VK} {us : List Value} {vs : List V} (F : FnHq Ok X.prog X.w X.K X.mg X.base CX k f fd ps sp) (hr : L2H.RoomH k X.A) (hot : L2H.Hot1 X.A pn) (hok : Ok pn) (hp : pn ∈ X.pn) (hb : Binds X.K fd ps []) (hx : PassesAt CX X σ (E σ))
    (I : Inv X pins σ H s) (r : Vals vs us) (h : sp vs H Q (E σ)) : wpAny (model X.prog X.w) X.A (call (.ref f) us) (EP X pins σ Q) X.xe s := by
  have hl : us.length = ps.length := by rw [← r.length]; exact F.len _ _ _ _ h
  have b := hb s us I.kIn (by rw [List.append_nil]; exact hl)
  rw [List.append_nil] at b
  have P1 := I.pin pn (List.mem_append_left _ hp)
  have pk : L2H.PinOk X.stack H s pn := ⟨P1.1, P1.2.1, fun hm => (List.mem_cons.mp (I.stkSub pn.1 hm)).elim P1.2.2.1 P1.2.2.2.1, P1.2.2.2.2⟩
  refine wpAny_call (codeAny_mono (F.run X.A X.stack s H ⟨us, []⟩ us vs Q (E σ) pn hr hot hok pk I.env0 b r h) fun r s' hq => ?_)
  cases r with
  | error er => exact hx pins H s er s' I hq
  | ok fl =>
    cases fl with
    | ret u => exact I.after hq
    | _ => exact False.elim hq
theorem pe_callHq {CX : CXT} {sp : Sp} {E : L2.St → XK} {t : TA} (F : FnHq Ok X.prog X.w X.K X.mg X.base CX k f fd ps sp) (hr : L2H.RoomH k X.A) (hot : L2H.Hot1 X.A pn) (hok : Ok pn) (hp : pn ∈ X.pn) (hg : Gl X x) (hm : X.mg x = some (.ref f)) (hk : PySem.W.keepIn X.K (.ref f) = true) (hb : Binds X.K fd ps [])
    (hx : ∀ σ, PassesAt CX X σ (E σ)) (ha : PA X (e :: es) t) (hdb : (x == ("__debug__" : Str)) = false) (he : starEach (e :: es) X.env = (false, eval e X.env) :: starEach es X.env) (hpl : (backTo pos (starEach es X.env)).any (·.1) = false) :
    PE X (.Call (.Name x q) (e :: es) [] pos) (tCallS sp E t) := by
  refine ⟨fun pins s σ H Q I h => ?_⟩
  refine wpAny_Call_Name_kw (ld_glob I hg hm ?_ hdb); refine PySem.W.callWith_K (h₀ := X.base) I.ok.mod.kin hk (thn (ha.run pos pins s σ H _ I h) fun us s1 ⟨vs, H1, J1, r, z⟩ => ⟨J1.kIn, ?_⟩) he hpl
  exact run_fnHq F hr hot hok hp hb (hx σ) J1 r z
/-- f(e, ..) where the exception pn is handled -/
theorem xd_callH (F : FnHq Ok X.prog X.w X.K X.mg X.base (L2N.CX X.prog X.w) k f fd ps (spD c.K S)) (hr : L2H.RoomH k X.A) (hot : L2H.Hot1 X.A pn) (hok : Ok pn) (hp : pn ∈ X.pn) (tk : L2N.Takes X W) (hW : WRel c Wx W) (hm : X.mg x = some (.ref f)) (hk : PySem.W.keepIn X.K (.ref f) = true) (hb : Binds X.K fd ps [])
    (ha : PA X (e :: es) (LA c true U)) (hg : Gl X x := by rfl) (hdb : (x == ("__debug__" : Str)) = false := by decide) (he : starEach (e :: es) X.env = (false, eval e X.env) :: starEach es X.env := by rfl)
    (hpl : (backTo pos (starEach es X.env)).any (·.1) = false := by rfl) : PE X (.Call (.Name x q) (e :: es) [] pos) (LE c true (xCall S Wx U)) :=
  pe_imp (pe_callHq (E := WE W) F hr hot hok hp hg hm hk hb (fun σ => L2N.passAt tk σ) ha hdb he hpl) fun _ _ σ H Q I z => by
    obtain ⟨gh, γ, Qd, St, q1, k⟩ := z
    exact ⟨gh, γ, _, St, q1, fun ds vs H1 h1 r1 S1 x1 => S1.sp hW r1 h1 (fun x hx => ⟨hx, .inl rfl⟩) fun d v H' h2 r2 S2 x2 => k d v H' h2 r2 S2 (x1.trans x2)⟩
/-- f(e, ..), calm or not -/
theorem xd_callW (wm : Warm X) (F : FnOk X.prog X.w X.K X.mg X.base (L2N.CX X.prog X.w) k f fd ps (spD c.K S)) (FH : FnHq (fun _ => True) X.prog X.w X.K X.mg X.base (L2N.CX X.prog X.w) k f fd ps (spD c.K S)) (hr : L2H.RoomH k X.A) (tk : L2N.Takes X W) (hW : WRel c Wx W)
    (hm : X.mg x = some (.ref f)) (hk : PySem.W.keepIn X.K (.ref f) = true) (hb : Binds X.K fd ps [])
    (ha : PA X (e :: es) (LA c true U)) (hg : Gl X x := by rfl) (hdb : (x == ("__debug__" : Str)) = false := by decide) (he : starEach (e :: es) X.env = (false, eval e X.env) :: starEach es X.env := by rfl)
    (hpl : (backTo pos (starEach es X.env)).any (·.1) = false := by rfl) : PE X (.Call (.Name x q) (e :: es) [] pos) (LE c true (xCall S Wx U)) := by
  rcases wm with hc | ⟨p, hot, hp⟩
  · exact ⟨fun pins s σ H Q I z => (xd_call F ⟨I.ok.hd hc, hr.dp, hr.un⟩ tk hW hm hk hb ha hg hdb he hpl).run pins s σ H Q I z⟩
  · exact xd_callH FH hr hot trivial hp tk hW hm hk hb ha hg hdb he hpl
end

section
variable {X : Cx} {c : Ct} {w : Bool} {e : Expr} {T : TED} {f : Str} {pos : Pos} {C a dd : Addr} {oe : Obj}
def xXf (a dd : Addr) (f : Str) (T : TED) : TED := fun γ Q => T γ fun d => ∃ fs v, d = .exc a dd fs ∧ fs.lookup f = some v ∧ Q v
theorem xd_xf (hp : (a, oe) ∈ X.pn) (hz : Zc (.ref C) (some dd) oe) (hf : ∃ vs, oe.data = .fields vs) (Tx : XfC X.K C) (hno : PySem.W.findIn X.K (.ref C) f = some none) (he : PE X e (LE c w T)) (hb : attributeBase e f X.env (eval e X.env) = eval e X.env := by rfl) :
    PE X (.Attribute e f pos) (LE c w (xXf a dd f T)) := by
  refine ⟨fun pins s σ H Q I h => ?_⟩
  obtain ⟨gh, γ, Qd, S, q1, k⟩ := h
  refine attr_of hb (thn (he.run pins s σ H (fun v H1 => v = .ref a ∧ ∃ fs u, H1 dd = some (.xd fs) ∧ fs.lookup f = some u ∧ Q u H1) I ⟨gh, γ, _, S, q1, fun d v H1 h1 r S1 x1 => ?_⟩) fun u s1 hh => ?_)
  · obtain ⟨gs, g, rfl, l, h1⟩ := h1
    cases r with
    | exc nM e3 r =>
      obtain ⟨u, l2, ru⟩ := r.look l
      exact ⟨rfl, _, u, e3, l2, k g u H1 h1 ru S1 x1⟩
  · obtain ⟨x, H1, J1, rx, ex, fs, v, ea, l, q⟩ := hh
    subst ex
    obtain rfl : u = Value.ref a := rx
    obtain ⟨ha, _⟩ := J1.pin (a, oe) (List.mem_append_left _ hp)
    obtain ⟨vs, hd⟩ := hf
    have hx : ObjOk X.prog X.w H1 s1.heap dd (.xd fs) := J1.hok dd _ ea
    obtain ⟨mA, hns, hr⟩ := hx
    obtain ⟨od, ho, hl⟩ := lookIn_ns hns
    obtain ⟨u, hu, ru⟩ := RelO.some_of (v := v) (o := mA f) (by rw [← l]; exact hr f)
    have K1 : PySem.W.InstAt s1.heap a oe C (some od) := ⟨ha, hz.1, by unfold PySem.W.notCls; rw [hd] <;> rfl, by rw [hz.2]; exact ho⟩
    exact HandSPX.exc_get J1.kIn K1 Tx.ga Tx.gg Tx.exC (PySem.W.findObj_own Tx.hdC hno rfl (by rw [hl, hu])) (handed_of ru) ⟨v, H1, J1.tok _, ru, q⟩
end
end TL
set_option Elab.async false
set_option linter.all false
set_option maxRecDepth 100000
set_option maxHeartbeats 4000000
namespace TL
open PySem PySem.Spec PySem.Calls PyProof.Rows PySem.W
section
variable {prog : Program} {w : World} {A : Around} {E : Value → Shared → Prop} {s : Shared} {K : Frag} {x D : Addr} {ox : Obj} {od : Option Obj}
theorem find_dataE {C : Addr} {name : Str} {a g : Value} (hc : (clsIn K C).isSome = true) (ha : findIn K (.ref C) name = some (some a)) (hg : specialIn K a "__get__" = some (some g)) (ht : takesIn K a = some true) : findObj K C od name = some (.bind g a) := by
  obtain ⟨cd, e⟩ := Option.isSome_iff_exists.mp hc
  unfold findObj; rw [e, Option.bind_some, ha, Option.bind_some]; simp [hg, ht]
theorem class_excE {Q : Option Value → Shared → Prop} (T : L2.ExcC K D) (X : K.In s.heap) (I : InstAt s.heap x ox D od) (h : Q (some (.ref D)) { s with toks := s.toks + 1 }) : wpAny (model prog w) A (getAttr? (.ref x) "__class__") Q E s := by
  have hf : findObj K D od "__class__" = some (.bind (.builtin "getset_descriptor.__get__") (.builtin "object.__class__")) := find_dataE (by obtain ⟨cd, hc, _⟩ := any_some T.hd; rw [hc]; rfl) T.ha T.hn T.ht
  obtain ⟨hp, g, d, t, os⟩ := s
  have M0 := I.type (M := model prog w)
  have M1 := looks_findIn (M := model prog w) X T.hg
  have M2 := looks_findIn (M := model prog w) X T.hk
  have M3 := looks_find (M := model prog w) X I hf
  have sub : Looks (model prog w) hp (isInstance (.ref x) (.type "BaseException")) true := M0.andThen (looks_subIn X T.hs)
  have f0 : (false && onTheHeap (Value.builtin "BaseException.__getattribute__")) = false := rfl
  have f2 : (Value.builtin "BaseException.__getattribute__" == Value.builtin "object.__getattribute__") = false := by decide +kernel
  have f1 : (onTheHeap (Value.ref D) && Value.builtin "BaseException.__getattribute__" == Value.builtin "object.__getattribute__") = false := by rw [f2]; rfl
  unfold getAttr? getAttrBy? getAttrBy; refine wpAny_bind (wpAny_mkText (wpAny_bind (wpAny_attempt (wpAny_holding (wpAny_bind (M0.at (wpAny_bind (M1.at ?_))))))))
  show wpAny _ _ (if (onTheHeap (Value.ref D) && Value.builtin "BaseException.__getattribute__" == Value.builtin "object.__getattribute__") = true then _ else _) _ _ _; rw [f1, if_neg Bool.false_ne_true]
  unfold getAttrByItsOwn hookBefore; refine wpAny_bind ?_; rw [if_pos (show onTheHeap (Value.ref D) = true from rfl)]; refine M2.at ?_; refine wpAny_bind (wpAny_attempt (wpAny_holding ?_))
  unfold callGetattribute; rw [f0, if_neg Bool.false_ne_true]; unfold boundAndCalled; rw [PySem.F.excAttr_ValueError.ga.bind (.ref x)]; refine wpAny_bind (wpAny_pure ?_)
  show wpAny _ _ (call (.builtin "BaseException.__getattribute__") [.ref x, .str "__class__" t]) _ _ _; refine wpAny_call (codeAny_call_builtin PySem.F.excAttr_ValueError.ga.plain PySem.F.entry_bexc_ga ?_)
  refine @check_slot (model prog w) _ _ ⟨hp, g, d, t + 1, os⟩ "BaseException.__getattribute__" "BaseException" "__getattribute__" (.ref x) [.str "__class__" t] [] _ (by decide +kernel) (by decide +kernel) sub (PySem.F.args_bexc_ga (.ref x) (.str "__class__" t)) ?_
  unfold Builtin.«object.__getattribute__»; refine wpAny_bind (wpAny_of_eq (a := ((Value.ref x : Value), [Value.str "__class__" t])) (by first | rfl | (simp only [slotArgs]; rfl)) ?_); refine wpAny_bind (wpAny_pure (wpAny_bind (M0.at (wpAny_bind (M3.at ?_)))))
  show wpAny _ _ (holding [Value.builtin "object.__class__"] (call (.builtin "getset_descriptor.__get__") [.builtin "object.__class__", .ref x, .ref D]) >>= ret) _ _ _; refine wpAny_bind (wpAny_holding (wpAny_call (class_get (s := ⟨hp, g, d, t + 1, os⟩) (ox := ox) (od := od) X I T.hm ?_)))
  refine wpAny_pure ?_; show wpAny _ _ (handedOut (.ref D)) _ _ _; rw [handedOut_of (v := .ref D) rfl]
  first
    | exact wpAny_pure (wpAny_pure h)
    | exact wpAny_pure h
    | exact wpAny_pure (wpAny_bind (wpAny_pure (wpAny_pure h)))
theorem kit_excE (T : L2.ExcC K D) : KitX K (.ref x) (.ref D) (fun h => InstAt h x ox D od) where
  ty := fun _ _ _ I => I.type
  it := fun _ _ X _ => by
    obtain ⟨cD, gD, _⟩ := any_some T.hd
    unfold clsIn at gD; split at gD
    · rename_i c' d' cd' sl' ho
      intro A' Q' E' s' k q
      unfold isType loadHead; exact wpAny_bind (wpAny_loadPart (k _ _ (X _ _ ho)) (wpAny_pure q))
    · cases gD
  ne := fun h tp dd its n sl X htp => by
    obtain ⟨cD, gD, _⟩ := any_some T.hd
    refine Bool.eq_false_iff.mpr fun q => ?_
    have e : D = tp := Value.ref.inj (beq_iff_eq.mp q)
    subst e
    unfold clsIn at gD; split at gD
    · rename_i c' d' cd' sl' ho
      have z := (X _ _ ho).symm.trans htp
      cases z
    · cases gD
  ca := fun X I k => class_excE T X I k
end
end TL
namespace TL
open PySem L2 PySem.Spec PyProof.Rows
section
variable {X : Cx} {c : Ct} {w : Bool} {e e2 : Expr} {T : TED} {pos p p2 : Pos} {C a dd : Addr} {oe : Obj} {x : Str}
/-- isinstance(e, C), e the caught exception, of just this class -/
def dIsX (a dd C : Addr) : ClD
  | [.exc a' dd' _, .adr A], Q => a' = a ∧ dd' = dd ∧ A = C ∧ Q (.bl true)
  | _, _ => False
theorem xd_isX (hp : (a, oe) ∈ X.pn) (hz : Zc (.ref C) (some dd) oe) (hf : ∃ vs, oe.data = .fields vs) (Tx : ExcC X.K C) (h1 : PySem.W.kitOne X.K (.ref C) (.ref C) = some true) (hm : X.mg "isinstance" = none) (hm2 : X.mg x = some (.ref C)) (he : PE X e (LE c w T))
    (hg : Gl X "isinstance" := by rfl) (hg2 : Gl X x := by rfl) (hd2 : (x == ("__debug__" : Str)) = false := by decide) (hs : starEach [e, .Name x p2] X.env = (false, eval e X.env) :: starEach [.Name x p2] X.env := by rfl)
    (hs2 : starEach [.Name x p2] X.env = (false, eval (.Name x p2) X.env) :: starEach [] X.env := by rfl) (hpl : (backTo pos (starEach [.Name x p2] X.env)).any (·.1) = false := by rfl) : PE X (.Call (.Name "isinstance" p) [e, .Name x p2] [] pos) (LE c w (xBi (dIsX a dd C) (xCons T (xCons (xC (.adr C)) xNil)))) := by
  have cr : CallR X (.builtin "isinstance") (fun xs H Q => ∃ fs, xs = [.ref a, .ref C] ∧ H dd = some (.xd fs) ∧ Q (.bl true) H) := by
    intro pins s σ H xs us Q I r h
    obtain ⟨fs, rfl, ea, q⟩ := h
    cases r with
    | cons r1 r2 =>
      cases r2 with
      | cons r2 r3 =>
        cases r3
        cases r1
        cases r2
        obtain ⟨hget, _⟩ := I.pin (a, oe) (List.mem_append_left _ hp)
        obtain ⟨vs, hv⟩ := hf
        have hx : ObjOk X.prog X.w H s.heap dd (.xd fs) := I.hok dd _ ea
        obtain ⟨mA, hns, _⟩ := hx
        obtain ⟨od, ho, _⟩ := lookIn_ns hns
        have J : PySem.W.InstAt s.heap a oe C (some od) := ⟨hget, hz.1, by unfold PySem.W.notCls; rw [hv] <;> rfl, by rw [hz.2]; exact ho⟩
        exact PySem.W.kia_one (kit_excE Tx) I.kIn J h1 (fun z => nomatch z) fun tk => ⟨.bl true, H, I.kept (t' := tk) fun _ _ z => z, rfl, q⟩
  refine pe_imp (pe_callB cr hg hm PyProof.Rows.boot_isinstance (xa_cons (c := c) (w := w) he (xa_cons (xd_c (d := .adr C) (pe_glob (v := .ref C) hg2 hm2 rfl hd2) fun _ _ => .adr C) xa_nil hs2) hs) (by decide) (by decide) hs hpl) fun _ _ σ H Q I q => ?_
  obtain ⟨gh, γ, Qd, S, q1, k⟩ := q
  refine ⟨gh, γ, _, S, q1, fun ds vs H1 h1 r S1 x1 => ?_⟩
  cases r with
  | nil => exact h1.elim
  | cons r1 r2 =>
    cases r2 with
    | nil => cases r1 <;> exact h1.elim
    | cons r2 r3 =>
      cases r1 with
      | exc nM e3 r =>
        cases r3 with
        | cons _ _ => cases r2 <;> exact h1.elim
        | nil =>
          cases r2 with
          | adr A =>
            obtain ⟨rfl, rfl, rfl, z1⟩ := h1
            exact ⟨_, rfl, e3, k _ _ H1 z1 (.bl true) S1 x1⟩
          | _ => exact h1.elim
      | _ => cases r2 <;> cases r3 <;> exact h1.elim
end
end TL
set_option Elab.async false
set_option linter.all false
set_option maxRecDepth 100000
set_option maxHeartbeats 2000000
namespace TL
open PySem L2 PySem.Spec PyProof.Rows

def putD (f : Str) (d : D) : List (Str × D) → List (Str × D)
  | [] => [(f, d)]
  | (g, x) :: r => if g = f then (g, d) :: r else (g, x) :: putD f d r
theorem RepF.put {K : PySem.W.Frag} {B : Addr} {M : Addr → Prop} {H : Hp} {f : Str} {v : V} {d : D} (q : Rep K B M H v d) : ∀ {fs : List (Str × V)} {gs : List (Str × D)}, RepF K B M H fs gs → RepF K B M H (putF f v fs) (putD f d gs)
  | _, _, .nil => .cons q .nil
  | _, _, .cons (f := g) r t => by
    unfold putF putD
    by_cases h : g = f
    · rw [if_pos h, if_pos h]
      exact .cons q t
    · rw [if_neg h, if_neg h]
      exact .cons r (RepF.put q t)
section
variable {X : Cx} {c : Ct} {e o : Expr} {T : TED} {pos pos' : Pos} {f : Str} {C : Addr} {i : Nat}
/-- self.f = e, in __init__ -/
def zFld (i : Nat) (C : Addr) (f : Str) (T : TED) : TSD := fun E γ => T γ fun d => ∃ a gs, γ[i]? = some (some (.ins (a, C) gs)) ∧ gs.length < 1000 ∧ E.nx (γ.set i (some (.ins (a, C) (putD f d gs))))
theorem z_fld (hK : c.K = X.K) (cl : Cls X.K C) (n : NoAttr X.K C f) (ho : PE X o (tVar i)) (he : PE X e (LE c true T)) (hs : swapsWith e (some (.Attribute o f pos')) pos.line X.env = pure false := by rfl) : PS X (.Assign [.Attribute o f pos'] e pos) (LS c (zFld i C f T)) := ps_imp (ps_fld ho he hs) fun _ _ σ H E I q => by
  obtain ⟨gh, γ, ED, S, q1, k, _⟩ := q
  refine ⟨gh, γ, _, S, q1, fun d v H1 h1 r S1 x1 => ?_⟩
  obtain ⟨a, gs, e1, hl, h1⟩ := h1
  obtain ⟨p, dx, fs, f1, ⟨f0, f2⟩, f3⟩ := S1.ins i (a, C) gs e1
  exact ⟨_, f1, p, C, dx, fs, rfl, f2, cl, n, by rw [f3.length]; exact hl, k _ _ _ h1 (S1.putO e1 rfl f1 rfl (fun xs z => by cases z) fun C' gs' z => by cases z; exact ⟨dx, _, ⟨f0, rfl⟩, f3.put r⟩)⟩
end

abbrev SpDI := List D → (List (Str × D) → Prop) → (XD → Prop) → Prop
/-- self is a fresh instance of C; what is told of the heap is told of the heap without it -/
def spI (K : PySem.W.Frag) (C : Addr) (S : SpDI) : Sp := fun vs H Q E => ∃ (B L x dx : Addr) (P : Addr → Prop) (ws : List V) (ds : List D) (Qd : List (Str × D) → Prop) (Ed : XD → Prop), vs = .ref x :: ws ∧ P B ∧ P L ∧ (∀ a, P a → H a ≠ none) ∧ ¬ P x ∧ BagOk B L H ∧ H x = some (.ins C dx []) ∧
  Reps K B (fun a => P a ∨ a = x) H ws ds ∧ S ds Qd Ed ∧ (∀ gs fs dx' H', Qd gs → H' x = some (.ins C dx' fs) → RepF K B (fun a => P a ∨ a = x) H' fs gs → Ext B (del H x) H' → BagOk B L H' → Q .non H') ∧
  (∀ e cls dd H', Ed e → RepX K B P H' e cls dd → Ext B (del H x) H' → BagOk B L H' → E cls dd H')
def envI (N : List Str) (x C : Addr) (ds : List D) : TL.Env := some (.ins (x, C) []) :: (ds.map (fun d => some (Slot.val d)) ++ List.replicate (N.length - (ds.length + 1)) none)
theorem ext_del {B a : Addr} {H : Hp} : Ext B (del H a) H := fun b o _ h => by
  by_cases e : b = a
  · rw [e, del_same] at h
    cases h
  · rw [del_ne e] at h
    exact h
theorem SI.entryI {K : PySem.W.Frag} {B L x dx C : Addr} {P : Addr → Prop} {H : Hp} {N : List Str} {ws : List V} {ds : List D} (pB : P B) (pL : P L) (pal : ∀ a, P a → H a ≠ none) (px : ¬ P x) (bg : BagOk B L H) (hx : H x = some (.ins C dx [])) (r : Reps K B (fun a => P a ∨ a = x) H ws ds) :
    SI (ctOf K B L (del H x) P) [] (envI N x C ds) (L2.start N (.ref x :: ws)) H := by
  have no : ∀ {i : Nat} {s : Slot}, (envI N x C ds)[i]? = some (some s) → (i = 0 ∧ s = .ins (x, C) []) ∨ ∃ d j, i = j + 1 ∧ s = .val d ∧ ds[j]? = some d := fun {i s} h => by
    cases i with
    | zero =>
      cases h
      exact .inl ⟨rfl, rfl⟩
    | succ j =>
      have h : (ds.map (fun d => some (Slot.val d)) ++ List.replicate (N.length - (ds.length + 1)) none)[j]? = some (some s) := h
      by_cases hi : j < ds.length
      · rw [List.getElem?_append_left (by simpa using hi), List.getElem?_map] at h
        cases e : ds[j]? with
        | none =>
          rw [e] at h
          cases h
        | some d =>
          rw [e] at h
          cases h
          exact .inr ⟨d, j, rfl, rfl, e⟩
      · rw [List.getElem?_append_right (by simpa using hi), List.getElem?_replicate] at h
        split at h <;> cases h
  have s0 : (L2.start N (V.ref x :: ws))[0]? = some (some (.ref x)) := by unfold L2.start; rfl
  have nown : ∀ {a : Addr}, OwnAt (envI N x C ds) (L2.start N (.ref x :: ws)) a → a = x := fun {a} ⟨i, s, h1, h2, h3⟩ => by
    rcases no h1 with ⟨e, _⟩ | ⟨d, j, _, e, _⟩
    · subst e
      rw [s0] at h3
      cases h3
      rfl
    · subst e
      cases h2
  have less : ∀ a, MW (ctOf K B L (del H x) P) (envI N x C ds) (L2.start N (.ref x :: ws)) true a → P a ∨ a = x := fun a m => m.elim .inl fun z => .inr (nown z.2)
  refine ⟨by simp [L2.start, envI, r.length], ext_del, bg, pB, pL, pal, fun i d h => ?_, fun i xs h => ?_, fun i C' gs h => ?_, fun p hp => (by cases hp), fun p hp => ?_, fun i j s t p h1 h2 h3 h4 h5 h6 => ?_⟩
  · rcases no h with ⟨_, e⟩ | ⟨d', j, e1, e2, h'⟩
    · cases e
    · cases e2
      subst e1
      obtain ⟨v, h1, h2⟩ := r.get h'
      refine ⟨v, ?_, h2.less less⟩
      unfold L2.start
      rw [List.getElem?_append_left (by simpa using (List.getElem?_eq_some_iff.mp h1).1), List.getElem?_map]
      show Option.map some ((V.ref x :: ws)[j + 1]?) = _
      rw [List.getElem?_cons_succ, h1]
      rfl
  · rcases no h with ⟨_, e⟩ | ⟨d', j, e1, e2, h'⟩
    · cases e
    · cases e2
  · rcases no h with ⟨e1, e2⟩ | ⟨d', j, e1, e2, h'⟩
    · cases e2
      subst e1
      exact ⟨x, dx, [], s0, ⟨rfl, hx⟩, .nil⟩
    · cases e2
  · have e := nown hp
    subst e
    exact ⟨del_same, px⟩
  · rcases no h1 with ⟨e1, _⟩ | ⟨_, _, _, e, _⟩
    · rcases no h4 with ⟨e2, _⟩ | ⟨_, _, _, e, _⟩
      · rw [e1, e2]
      · subst e
        cases h5
    · subst e
      cases h2
section
variable {P : Program} {wd : World} {K : PySem.W.Frag} {mg : Str → Option Value} {base : Heap} {x qual : Str} {st : Stmt} {f C : Addr} {fd : FuncData} {N ps : List Str} {k : Nat}
/-- __init__ by its body -/
theorem fnI0 {S : SpDI} {T : (XD → Prop) → TSD} {oc : Value} {od : Option Addr} {dV kV doc pm cdv ct : Value} {an : Option Addr} {osl : Array (Option Value)} (hfd : fd = PySem.W.fnOf x qual (defArgs st) (defBody st) (defScope st) dV kV doc pm an cdv ct) (lk : K.lookup f = some ⟨oc, od, .func fd, osl⟩) (hcd : PySem.W.codeIn K cdv qual = true)
    (Sc : FnScope N ps (defScope st)) (len : ∀ ds Q E, S ds Q E → ds.length + 1 = ps.length)
    (hd : ∀ (A : Around) (outer : List PySem.Env) (s : Shared) (H : Hp) (E : XK) (c : Ct) (Ed : XD → Prop), Room k (A.deeper (envOfC qual (defScope st) s.heap.objs.size f cdv)) → c.K = K →
      L2N.Takes (cxB true [] (L2N.CX P wd) P wd K mg base N qual (defScope st) f cdv A outer s H E) (wOf E) → PassesOwn (model P wd) (A.deeper (envOfC qual (defScope st) s.heap.objs.size f cdv)) (envOfC qual (defScope st) s.heap.objs.size f cdv) (cxB true [] (L2N.CX P wd) P wd K mg base N qual (defScope st) f cdv A outer s H E).xe →
      WRel c (fun x _ => Ed x) (wOf E) → PSs (cxB true [] (L2N.CX P wd) P wd K mg base N qual (defScope st) f cdv A outer s H E) (defBody st) (LS0 c (T Ed)))
    (hs : ∀ a ds Qd Ed, S ds Qd Ed → T Ed { nx := fun γ => ∃ gs, γ[0]? = some (some (.ins (a, C) gs)) ∧ Qd gs, rt := fun _ => False } (envI N a C ds)) : FnOk P wd K mg base (L2N.CX P wd) (k + 1) f fd ps (spI K C S) := by
  subst hfd
  refine fn_of lk hcd Sc (fun vs H Q E h => ?_) fun A outer s H vs Q E hr h => ?_
  · obtain ⟨B, L, x', dx, P', ws, ds, Qd, Ed, rfl, _, _, _, _, _, _, r, hS, _⟩ := h
    rw [List.length_cons, r.length, len ds Qd Ed hS]
  · obtain ⟨B, L, x', dx, P', ws, ds, Qd, Ed, rfl, pB, pL, pal, px, bg, hx, r, hS, kq, ke⟩ := h
    refine ⟨_, hd A outer s H E (ctOf K B L (del H x') P') Ed hr rfl (L2N.takes_of rfl rfl rfl rfl) (passes_of (K := fun e s'' => L2N.CX P wd outer H s E e s'') rfl) (fun y gh γ σ H' cls d h1 S' rx => ?_), envI N x' C ds, _, SI.entryI pB pL pal px bg hx r, hs x' ds Qd Ed hS, fun γ' σ' H' h1 S' => ?_, fun d v H' h1 => h1.elim, fun γ' σ' H' h1 _ => h1.elim, fun γ' σ' H' h1 _ => h1.elim⟩
    · obtain ⟨e1, a, vs', e2, n, e3, e4⟩ := rx
      exact ke y cls d H' h1 ⟨e1, a, vs', e2, fun z => n (.inl z), e3, e4.less fun a m => .inl m⟩ S'.ext S'.bag
    · obtain ⟨gs, g1, h1⟩ := h1
      obtain ⟨p, dx', fs, f1, ⟨f0, f2⟩, f3⟩ := S'.ins 0 (x', C) gs g1
      cases f0
      exact kq gs fs dx' H' h1 f2 (f3.less fun a m => m.elim .inl fun z => .inr ⟨rfl, 0, _, g1, rfl, by rw [z]; exact f1⟩) S'.ext S'.bag
end

section
variable {X : Cx} {c : Ct} {w : Bool} {W : WX} {Wx : XD → TL.Env → Prop} {k n : Nat} {f C : Addr} {fd : FuncData} {ps ks : List Str} {S : SpDI} {x m : Str} {p pos apos : Pos} {e o : Expr} {es : List Expr} {U : TAD} {T : TED} {kws : List Keyword}
theorem run_makeS {sp : Sp} {us : List Value} {E : XK} {pins : List (Addr × Obj)} {σ : L2.St} {H : Hp} {s : Shared} {Q : VK} {kw : List (Str × Value)} {all : List Value} {av : List V} (M : Mk X.K C f) (F : FnOk X.prog X.w X.K X.mg X.base (L2N.CX X.prog X.w) k f fd ps sp) (hr : Room (k + 1) X.A)
    (hx : PassesAt (L2N.CX X.prog X.w) X σ E) (I : Inv X pins σ H s) (h : ∀ x dx, H x = none → H dx = none → dx ≠ x → sp (.ref x :: av) (upd (upd H dx (.own x)) x (.ins C dx [])) (fun v H2 => v = .non ∧ Q (.ref x) H2) E) (r : Vals av all)
    (hb : ∀ s' : Shared, X.K.In s'.heap → BindsTo s' fd ⟨Value.ref (s.heap.objs.size + 1) :: us, kw⟩ (ps.zip (Value.ref (s.heap.objs.size + 1) :: all))) : wpAny (model X.prog X.w) X.A (call (.ref C) us kw) (EP X pins σ Q) X.xe s := by
  have hq := h (s.heap.objs.size + 1) s.heap.objs.size (I.hok.fresh (Nat.le_succ _)) (I.hok.fresh (Nat.le_refl _)) (Nat.ne_of_lt (Nat.lt_succ_self _))
  have J2 := Inv.made (C := C) I
  refine wpAny_call (make_map (f := f) I.kIn M.makes M.init (beq_iff_eq.mp M.fn) (codeAny_mono (F.run _ X.stack _ _ ⟨Value.ref (s.heap.objs.size + 1) :: us, kw⟩ (Value.ref (s.heap.objs.size + 1) :: all) _ _ E (hr.make C us kw) (J2.env0.make C us kw) (hb _ J2.kIn) (show Vals (V.ref (s.heap.objs.size + 1) :: av) (Value.ref (s.heap.objs.size + 1) :: all) from .cons rfl r) hq) fun r s' hq' => ?_))
  cases r with
  | error er => exact hx pins _ _ er s' J2 hq'
  | ok fl =>
    cases fl with
    | ret u =>
      obtain ⟨v, H', J3, rv, ev, q3⟩ := J2.after hq'
      subst ev
      exact ⟨rv, V.ref (s.heap.objs.size + 1), H', J3, rfl, q3⟩
    | _ => exact False.elim hq'
def tMakeS (C : Addr) (sp : Sp) (dvs : List V) (E : L2.St → XK) (t : TA) : TE := fun σ H Q => t σ H fun vs H1 => ∀ x dx, H1 x = none → H1 dx = none → dx ≠ x → sp (.ref x :: (vs ++ dvs)) (upd (upd H1 dx (.own x)) x (.ins C dx [])) (fun v H2 => v = .non ∧ Q (.ref x) H2) (E σ)
theorem pe_makeS {sp : Sp} {dvs : List V} {ds : List Value} {E : L2.St → XK} {t : TA} (M : Mk X.K C f) (F : FnOk X.prog X.w X.K X.mg X.base (L2N.CX X.prog X.w) k f fd ps sp) (hr : Room (k + 1) X.A) (hg : Gl X x) (hm : X.mg x = some (.ref C)) (hb : Binds X.K fd ps ds) (hd : Vals dvs ds)
    (hx : ∀ σ, PassesAt (L2N.CX X.prog X.w) X σ (E σ)) (ha : PA X (e :: es) t) (hdb : (x == ("__debug__" : Str)) = false) (he : starEach (e :: es) X.env = (false, eval e X.env) :: starEach es X.env) (hpl : (backTo pos (starEach es X.env)).any (·.1) = false) :
    PE X (.Call (.Name x p) (e :: es) [] pos) (tMakeS C sp dvs E t) := by
  refine ⟨fun pins s σ H Q I h => ?_⟩
  refine wpAny_Call_Name_kw (ld_glob I hg hm ?_ hdb); refine PySem.W.callWith_K (h₀ := X.base) I.ok.mod.kin M.kp (thn (ha.run pos pins s σ H _ I h) fun us s1 ⟨vs, H1, J1, r, q⟩ => ⟨J1.kIn, ?_⟩) he hpl
  refine run_makeS (all := us ++ ds) (av := vs ++ dvs) M F hr (hx σ) J1 q (r.append hd) fun s' X' => ?_
  have hq := q (s1.heap.objs.size + 1) s1.heap.objs.size (J1.hok.fresh (Nat.le_succ _)) (J1.hok.fresh (Nat.le_refl _)) (Nat.ne_of_lt (Nat.lt_succ_self _))
  have hl : (Value.ref (s1.heap.objs.size + 1) :: us ++ ds).length = ps.length := by
    have r2 : Vals (V.ref (s1.heap.objs.size + 1) :: (vs ++ dvs)) (Value.ref (s1.heap.objs.size + 1) :: (us ++ ds)) := .cons rfl (r.append hd)
    have z := r2.length
    rw [F.len _ _ _ _ hq] at z
    exact z.symm
  exact hb s' (Value.ref (s1.heap.objs.size + 1) :: us) X' hl
/-- C(e, ..), behind it the defaults -/
def xMake (C : Addr) (S : SpDI) (dd : List D) (Wx : XD → TL.Env → Prop) (U : TAD) : TED := fun γ Q => U γ fun ds => S (ds ++ dd) (fun gs => Q (.obj C gs)) fun x => Wx x γ
theorem SI.make (hW : WRel c Wx W) {gh : List (V × D)} {γ : TL.Env} {σ : L2.St} {H : Hp} {ds : List D} {vs : List V} {Qd : List (Str × D) → Prop} {Ed : XD → Prop} {Q : VK} {x dx : Addr} (St : SI c gh γ σ H) (r : Reps c.K c.B (MW c γ σ true) H vs ds) (h : S ds Qd Ed) (hx : H x = none) (hdx : H dx = none) (hne : dx ≠ x)
    (hE : ∀ y, Ed y → Wx y γ) (k : ∀ gs v H', Qd gs → Rep c.K c.B (MW c γ σ true) H' v (.obj C gs) → SI c gh γ σ H' → Ext c.B H H' → Q v H') : spI c.K C S (.ref x :: vs) (upd (upd H dx (.own x)) x (.ins C dx [])) (fun v H2 => v = .non ∧ Q (.ref x) H2) (WE W σ) := by
  have hx1 : (upd H dx (.own x)) x = none := by rw [upd_ne hne.symm]; exact hx
  have S1 : SI c gh γ σ (upd H dx (.own x)) := St.new hdx
  have S2 : SI c gh γ σ (upd (upd H dx (.own x)) x (.ins C dx [])) := S1.new hx1
  have x2 : Ext c.B H (upd (upd H dx (.own x)) x (.ins C dx [])) := (Ext.new hdx).trans (Ext.new hx1)
  have nM : ¬ MW c γ σ true x := St.notM hx
  have back : ∀ {H' : Hp}, Ext c.B (del (upd (upd H dx (.own x)) x (.ins C dx [])) x) H' → Ext c.B H H' := fun {H'} e a u n ha => e a u n (by
    rw [del_ne (ne_of_none ha hx), upd_ne (ne_of_none ha hx), upd_ne (ne_of_none ha hdx)]
    exact ha)
  refine ⟨c.B, c.L, x, dx, MW c γ σ true, vs, ds, Qd, Ed, rfl, St.mB true, .inl St.pL, fun a m => S2.alive m, nM, S2.bag, upd_same, ?_, h, fun gs fs dx' H' h1 e1 r1 ex bg => ?_, fun y cls dd H' h1 rx ex bg => ?_⟩
  · exact (r.grow (M' := fun a => MW c γ σ true a ∨ a = x) fun a m => m.imp id fun z => by rw [z]; exact hx).ext (.inl (St.mB true)) x2
  · have S' := St.later (back ex) bg
    exact ⟨rfl, k gs (.ref x) H' h1 (.obj nM e1 (r1.less fun a m => .inl m)) S' (back ex)⟩
  · have S' := St.later (back ex) bg
    exact hW y gh γ σ H' cls dd (hE y h1) S' rx
theorem xd_make {dd : List D} {dvs : List V} {ds : List Value} (M : Mk X.K C f) (F : FnOk X.prog X.w X.K X.mg X.base (L2N.CX X.prog X.w) k f fd ps (spI c.K C S)) (hr : Room (k + 1) X.A) (tk : L2N.Takes X W) (hW : WRel c Wx W) (hm : X.mg x = some (.ref C)) (hb : Binds X.K fd ps ds) (hd : Vals dvs ds)
    (hdd : ∀ M H, Reps c.K c.B M H dvs dd) (ha : PA X (e :: es) (LA c true U)) (hg : Gl X x := by rfl) (hdb : (x == ("__debug__" : Str)) = false := by decide) (he : starEach (e :: es) X.env = (false, eval e X.env) :: starEach es X.env := by rfl) (hpl : (backTo pos (starEach es X.env)).any (·.1) = false := by rfl) :
    PE X (.Call (.Name x p) (e :: es) [] pos) (LE c true (xMake C S dd Wx U)) := pe_imp (pe_makeS (E := WE W) M F hr hg hm hb hd (fun σ => L2N.passAt tk σ) ha hdb he hpl) fun _ _ σ H Q I q => by
  obtain ⟨gh, γ, Qd, St, q1, k⟩ := q
  refine ⟨gh, γ, _, St, q1, fun ds vs H1 h1 r1 S1 x1 y dy hy hdy hne => ?_⟩
  exact S1.make hW (r1.append (hdd _ _)) h1 hy hdy hne (fun _ z => z) fun gs v H' h2 r2 S2 x2 => k _ v H' h2 r2 S2 (x1.trans x2)
/-- C(e, .., k = v, ..), the keywords' values constants -/
def tMakeKc (C : Addr) (sp : Sp) (zs : List V) (n : Nat) (E : L2.St → XK) (t : TA) : TE := fun σ H Q => t σ H fun vs H1 => vs.length = n ∧ ∀ x dx, H1 x = none → H1 dx = none → dx ≠ x → sp (.ref x :: (vs ++ zs)) (upd (upd H1 dx (.own x)) x (.ins C dx [])) (fun v H2 => v = .non ∧ Q (.ref x) H2) (E σ)
theorem pe_makeKc {sp : Sp} {zs : List V} {E : L2.St → XK} {t : TA} (M : Mk X.K C f) (F : FnOk X.prog X.w X.K X.mg X.base (L2N.CX X.prog X.w) k f fd ps sp) (hr : Room (k + 1) X.A) (hg : Gl X x) (hm : X.mg x = some (.ref C))
    (hb : ∀ (s : Shared) (us ws : List Value), X.K.In s.heap → us.length = n + 1 → ws.length = ks.length → BindsTo s fd ⟨us, ks.zip ws⟩ (ps.zip (us ++ ws))) (hx : ∀ σ, PassesAt (L2N.CX X.prog X.w) X σ (E σ)) (ha : PA X (e :: es) t) (hkw : PK X kws (fun σ H Q => Q zs H)) (hz : zs.length = ks.length)
    (hall : (backToKw pos (keywordEach kws X.env)).all (·.1.isSome) = true) (hks : (backToKw pos (keywordEach kws X.env)).filterMap (·.1) = ks) (hdb : (x == ("__debug__" : Str)) = false)
    (he : starEach (e :: es) X.env = (false, eval e X.env) :: starEach es X.env) (hpl : ((backTo pos (starEach (e :: es) X.env)).any (·.1) || (backToKw pos (keywordEach kws X.env)).any (·.1.isNone)) = false) : PE X (.Call (.Name x p) (e :: es) kws pos) (tMakeKc C sp zs n E t) := by
  refine ⟨fun pins s σ H Q I h => ?_⟩
  refine wpAny_Call_Name_kw (ld_glob I hg hm ?_ hdb); refine PySem.W.callWith_KW (h₀ := X.base) I.ok.mod.kin M.kp hall (thn (ha.run pos pins s σ H _ I h) fun us s1 ⟨vs, H1, J1, r, q⟩ => ?_) hpl he
  refine thn (hkw.run pos pins s1 σ H1 (fun zs' H2 => zs' = zs ∧ H2 = H1) J1 ⟨rfl, rfl⟩) fun ws s2 ⟨zs', H2, J2, rz, e1, e2⟩ => ⟨J2.kIn, ?_⟩
  subst e1 e2
  rw [hks]
  obtain ⟨hn, q⟩ := q
  refine run_makeS (all := us ++ ws) (av := vs ++ zs') M F hr (hx σ) J2 q (r.append rz) fun s' X' => ?_
  exact hb s' (Value.ref (s2.heap.objs.size + 1) :: us) ws X' (by rw [List.length_cons, ← r.length, hn]) (by rw [← rz.length, hz])
def xMakeK (C : Addr) (S : SpDI) (dd : List D) (n : Nat) (Wx : XD → TL.Env → Prop) (U : TAD) : TED := fun γ Q => U γ fun ds => ds.length = n ∧ S (ds ++ dd) (fun gs => Q (.obj C gs)) fun x => Wx x γ
theorem xd_makeK {dd : List D} {zs : List V} (M : Mk X.K C f) (F : FnOk X.prog X.w X.K X.mg X.base (L2N.CX X.prog X.w) k f fd ps (spI c.K C S)) (hr : Room (k + 1) X.A) (tk : L2N.Takes X W) (hW : WRel c Wx W) (hm : X.mg x = some (.ref C))
    (hb : ∀ (s : Shared) (us ws : List Value), X.K.In s.heap → us.length = n + 1 → ws.length = ks.length → BindsTo s fd ⟨us, ks.zip ws⟩ (ps.zip (us ++ ws))) (hdd : ∀ M H, Reps c.K c.B M H zs dd) (ha : PA X (e :: es) (LA c true U)) (hkw : PK X kws (fun σ H Q => Q zs H)) (hz : zs.length = ks.length)
    (hall : (backToKw pos (keywordEach kws X.env)).all (·.1.isSome) = true := by rfl) (hks : (backToKw pos (keywordEach kws X.env)).filterMap (·.1) = ks := by rfl) (hg : Gl X x := by rfl) (hdb : (x == ("__debug__" : Str)) = false := by decide)
    (he : starEach (e :: es) X.env = (false, eval e X.env) :: starEach es X.env := by rfl) (hpl : ((backTo pos (starEach (e :: es) X.env)).any (·.1) || (backToKw pos (keywordEach kws X.env)).any (·.1.isNone)) = false := by rfl) : PE X (.Call (.Name x p) (e :: es) kws pos) (LE c true (xMakeK C S dd n Wx U)) :=
  pe_imp (pe_makeKc (E := WE W) M F hr hg hm hb (fun σ => L2N.passAt tk σ) ha hkw hz hall hks hdb he hpl) fun _ _ σ H Q I q => by
    obtain ⟨gh, γ, Qd, St, q1, k⟩ := q
    refine ⟨gh, γ, _, St, q1, fun ds vs H1 h1 r1 S1 x1 => ⟨by rw [r1.length]; exact h1.1, fun y dy hy hdy hne => ?_⟩⟩
    exact S1.make hW (r1.append (hdd _ _)) h1.2 hy hdy hne (fun _ z => z) fun gs v H' h2 r2 S2 x2 => k _ v H' h2 r2 S2 (x1.trans x2)

variable {Sm : SpD}
def tMethS (C : Addr) (m : Str) (sp : Sp) (E : L2.St → XK) (ta : TE) (t : TA) : TE := fun σ H Q => ta σ H fun x H1 => ∃ a dx fs, x = .ref a ∧ H1 a = some (.ins C dx fs) ∧ fs.lookup m = none ∧ t σ H1 fun vs H2 => sp (x :: vs) H2 Q (E σ)
theorem pe_methS {pl : Sem Bool} {sp : Sp} {E : L2.St → XK} {ta : TE} {t : TA} (he : PE X o ta) (cl : Cls X.K C) (hm : Meth X.K C m f) (F : FnOk X.prog X.w X.K X.mg X.base (L2N.CX X.prog X.w) k f fd ps sp) (hr : Room k X.A) (hb : Binds X.K fd ps []) (hx : ∀ σ, PassesAt (L2N.CX X.prog X.w) X σ (E σ)) (ha : PA X (e :: es) t)
    (hst : starEach (e :: es) X.env = (false, eval e X.env) :: starEach es X.env) (hpl : (backTo pos (starEach es X.env)).any (·.1) = false)
    (ht : eval (.Call (.Attribute o m apos) (e :: es) [] pos) X.env = (do let ov ← eval o X.env; standAt apos.atName; let (f, first) ← holding [ov] (getMethod ov m pl); callWith pos f first (backTo pos (starEach (e :: es) X.env)) (backToKw pos (keywordEach [] X.env)))) :
    PE X (.Call (.Attribute o m apos) (e :: es) [] pos) (tMethS C m sp E ta t) := by
  refine ⟨fun pins s σ H Q I h => ?_⟩
  refine PySem.W.methodCall_KW (pl := pl) (thn (he.run pins s σ H _ I h) fun u s1 ⟨x, H1, J1, rx, a, dx, fs, ex, ea, l, q⟩ => ?_) ht
  subst ex
  obtain rfl : u = Value.ref a := rx
  refine getmeth_ok J1 ea cl hm l ?_; refine PySem.W.callWith_K (first := [.ref a]) (h₀ := X.base) I.ok.mod.kin hm.kp (thn (ha.run pos pins s1 σ H1 _ J1 q) fun us s2 ⟨vs, H2, J2, r, q2⟩ => ⟨J2.kIn, ?_⟩) hst hpl
  exact run_fnS (us := .ref a :: us) (vs := .ref a :: vs) F hr hb (hx σ) J2 (.cons rfl r) q2
def xMeth (C : Addr) (m : Str) (S : SpD) (Wx : XD → TL.Env → Prop) (T : TED) (U : TAD) : TED := fun γ Q => T γ fun o => ∃ gs, o = .obj C gs ∧ gs.lookup m = none ∧ U γ fun ds => S (o :: ds) Q fun x => Wx x γ
theorem lookF_none {K : PySem.W.Frag} {B : Addr} {M : Addr → Prop} {H : Hp} {m : Str} : ∀ {fs : List (Str × V)} {gs : List (Str × D)}, RepF K B M H fs gs → gs.lookup m = none → fs.lookup m = none
  | _, _, .nil, _ => rfl
  | _, _, .cons (f := g) r t, h => by
    by_cases e : m = g
    · subst e
      simp [List.lookup] at h
    · have hb : (m == g) = false := by simpa using e
      simp only [List.lookup, hb] at h ⊢
      exact lookF_none t h
theorem xd_meth {pl : Sem Bool} (ho : PE X o (LE c true T)) (cl : Cls X.K C) (hm : Meth X.K C m f) (F : FnOk X.prog X.w X.K X.mg X.base (L2N.CX X.prog X.w) k f fd ps (spD c.K Sm)) (hr : Room k X.A) (tk : L2N.Takes X W) (hW : WRel c Wx W) (hb : Binds X.K fd ps []) (ha : PA X (e :: es) (LA c true U))
    (hst : starEach (e :: es) X.env = (false, eval e X.env) :: starEach es X.env := by rfl) (hpl : (backTo pos (starEach es X.env)).any (·.1) = false := by rfl)
    (ht : eval (.Call (.Attribute o m apos) (e :: es) [] pos) X.env = (do let ov ← eval o X.env; standAt apos.atName; let (f, first) ← holding [ov] (getMethod ov m pl); callWith pos f first (backTo pos (starEach (e :: es) X.env)) (backToKw pos (keywordEach [] X.env))) := by rfl) :
    PE X (.Call (.Attribute o m apos) (e :: es) [] pos) (LE c true (xMeth C m Sm Wx T U)) := pe_imp (pe_methS (E := WE W) ho cl hm F hr hb (fun σ => L2N.passAt tk σ) ha hst hpl ht) fun _ _ σ H Q I q => by
  obtain ⟨gh, γ, Qd, St, q1, k⟩ := q
  refine ⟨gh, γ, _, St, q1, fun d v H1 h1 r1 S1 x1 => ?_⟩
  obtain ⟨gs, rfl, l, h1⟩ := h1
  cases r1 with
  | @obj a _ dx fs _ nM hh s =>
    refine ⟨a, dx, fs, rfl, hh, lookF_none s l, ?_⟩
    refine ⟨gh, γ, _, S1, h1, fun ds vs H2 h2 r2 S2 x2 => ?_⟩
    exact S2.sp hW (.cons ((Rep.obj nM hh s).ext (S1.mB true) x2) r2) h2 (fun y hy => ⟨hy, .inl rfl⟩) fun d v H' h3 r3 S3 x3 => k d v H' h3 r3 S3 ((x1.trans x2).trans x3)

variable {a b : Expr}
def rOwnEq (C : Addr) (sp : Sp) : R2 := fun x y H Q => (∃ p dx fs, x = .ref p ∧ H p = some (.ins C dx fs)) ∧ ((∃ p dx fs, y = .ref p ∧ H p = some (.ins C dx fs)) ∨ ∃ z, y = .str z) ∧ sp [x, y] H (fun v H' => ∃ b, v = .bl b ∧ Q v H') (fun _ _ _ => False)
theorem op_ownEq {sp : Sp} (F : FnOk X.prog X.w X.K X.mg X.base (L2N.CX X.prog X.w) k f fd ps sp) (hr : Room k X.A) (hs : PySem.W.findIn X.K (.ref C) "__eq__" = some (some (.ref f))) (hf : PySem.W.isFn X.K (.ref f) = true) (hb : Binds X.K fd ps []) (hn : PySem.W.notFirst X.K C (.type "str") = true) :
    OpR X (compareOp .Eq) (rOwnEq C sp) := by
  intro pins s σ H x y v u Q I rx ry hq
  obtain ⟨⟨p, dx, fs, rfl, hp⟩, hy, hsp⟩ := hq
  cases rx
  obtain ⟨mA, J, _⟩ := ins_get I.hok hp
  obtain ⟨od, J, _⟩ := J.look
  obtain ⟨m, hF⟩ := I.fr
  show wpAny (model X.prog X.w) X.A (richCompare .Eq (.ref p) u) (EP X pins σ Q) X.xe s
  have tyb : ∃ tb, PySem.W.Looks (model X.prog X.w) s.heap (typeOf u) tb ∧ PySem.W.notFirst X.K C tb = true := by
    rcases hy with ⟨q, dy, gs, rfl, hq⟩ | ⟨z, rfl⟩
    · cases ry
      obtain ⟨mB, J', _⟩ := ins_get I.hok hq
      obtain ⟨od', J', _⟩ := J'.look
      exact ⟨_, J'.type, by simp [PySem.W.notFirst]⟩
    · obtain ⟨t, rfl⟩ := ry
      exact ⟨_, PySem.W.Looks.of_pure rfl, hn⟩
  obtain ⟨tb, T1, T2⟩ := tyb
  refine PySem.W.cmp_K (op := .Eq) (tb := tb) hr.units0 hF I.ok.mod.kin J T1 T2 hs hf ?_
  have hl := F.len _ _ _ _ hsp
  have r2 : Vals [V.ref p, y] [Value.ref p, u] := .cons rfl (.cons ry .nil)
  have b2 := hb s [.ref p, u] I.kIn (by simpa using hl)
  rw [List.append_nil] at b2
  refine wpAny_call (codeAny_mono (F.run X.A X.stack s H ⟨[.ref p, u], []⟩ [.ref p, u] [.ref p, y] _ _ hr I.env0 b2 r2 hsp) fun r s' hq => ?_)
  cases r with
  | error er => exact passes_false pins σ H s er s' I hq
  | ok fl =>
    cases fl with
    | ret w =>
      obtain ⟨z, H', J', rz, b, ez, q⟩ := I.after hq
      subst ez
      cases rz
      exact ⟨.bl b, H', J', rfl, q⟩
    | _ => exact False.elim hq
def dOwnEq (C : Addr) (S : SpD) : OpD := fun x y Q => (∃ gs, x = .obj C gs) ∧ ((∃ gs, y = .obj C gs) ∨ ∃ z, y = .str z) ∧ S [x, y] (fun d => ∃ b, d = .bl b ∧ Q d) fun _ => False
theorem xd_ownEq {T2 : TED} (F : FnOk X.prog X.w X.K X.mg X.base (L2N.CX X.prog X.w) k f fd ps (spD c.K Sm)) (hr : Room k X.A) (hs : PySem.W.findIn X.K (.ref C) "__eq__" = some (some (.ref f))) (hf : PySem.W.isFn X.K (.ref f) = true) (hb : Binds X.K fd ps []) (hn : PySem.W.notFirst X.K C (.type "str") = true)
    (ha : PE X a (LE c w T)) (hb2 : PE X b (LE c w T2)) : PE X (.Compare a [.Eq] [b] pos) (LE c w (xOp (dOwnEq C Sm) T T2)) := by
  refine xd_cmp (op_ownEq F hr hs hf hb hn) ?_ (nomark _) ha hb2
  intro gh γ σ H x y v u Qd Q St r1 r2 q k
  obtain ⟨⟨gs, rfl⟩, q2, q3⟩ := q
  refine ⟨?_, ?_, c.B, c.L, MW c γ σ w, _, _, _, St.mB w, .inl St.pL, fun a m => St.alive m, St.bag, .cons r1 (.cons r2 .nil), q3, fun d v' H' h1 rd x1 b1 => ?_, fun x cls dd H' h1 => h1.elim⟩
  · cases r1 with
    | obj nM hh s => exact ⟨_, _, _, rfl, hh⟩
  · rcases q2 with ⟨hs, rfl⟩ | ⟨z, rfl⟩
    · cases r2 with
      | obj nM hh s => exact .inl ⟨_, _, _, rfl, hh⟩
    · cases r2
      exact .inr ⟨z, rfl⟩
  · obtain ⟨b, rfl, h1⟩ := h1
    cases rd
    exact ⟨b, rfl, k _ _ H' h1 (.bl b) (St.later x1 b1) x1⟩
end
end TL
set_option Elab.async false
set_option linter.all false
set_option maxRecDepth 100000
set_option maxHeartbeats 2000000
namespace TLS
open PySem PySem.Spec PyProof.Rows
open Sem (wp)
/-- how many different texts stand among the first i -/
def dc (xs : List Str) : Nat → Nat
  | 0 => 0
  | i + 1 => if (xs.take i).any (· == xs.getD i Str.empty) then dc xs i else dc xs i + 1
theorem dc_le (xs : List Str) : ∀ i, dc xs i ≤ i
  | 0 => Nat.le_refl _
  | i + 1 => by
    unfold dc
    have := dc_le xs i
    split <;> omega
section
variable {prog : Program} {w : World} {A : Around} {R : Result → Shared → Prop} {I : Addr} {fp wr : List Addr} {G : Array GenState → Array GenState → Prop} {n : Nat} {P : Nat → Value → Prop} {St : Nat → Shared → Prop}
theorem loop_txt (W : WalksS prog w A.in1 I fp wr G n P St) (S : Addr) (gSf : S ∉ fp) (xs : List Str) (gsz : xs.length = n) (hbd : n + 1 < scanBound)
    (gval : ∀ i v, P i v → ∃ t, v = .str (xs.getD i Str.empty) t) :
    ∀ (k i : Nat) (s : Shared), n - i = k → i ≤ n → St i s →
      s.heap.SetOf (PySem.strKind prog w) S (fun k' => (xs.take i).any (· == k')) (dc xs i) →
      (∀ u', Moved (S :: wr) G s u' → u'.heap.SetOf (PySem.strKind prog w) S (fun k' => (xs.take n).any (· == k')) (dc xs n) → R (.ok (.ret .none)) u') →
      codeAny (model prog w) A (.builtin "set.update.loop" ⟨[.ref S, .ref I], []⟩) R s := by
  have gSw : S ∉ wr := fun h => gSf (W.sub _ h)
  have gsub : ∀ b ∈ wr, b ∈ S :: wr := fun b hb => List.mem_cons_of_mem _ hb
  intro k
  induction k with
  | zero =>
    intro i s hk hi gst gS hR
    have gin : i = n := by omega
    subst gin
    refine codeAny_builtin PyProof.Rows.F.entry_set_update_loop ?_
    rw [Around.under_plainId PyProof.Rows.F.plain_set_update_loop _]
    show wpAny _ A.in1 (pyNext (.ref I) >>= _) _ _ s
    refine wpAny_bind (W.done s _ _ gst fun u' gm => ?_)
    show wpAny _ A.in1 (ret Value.none) _ _ u'
    exact wpAny_pure (hR u' (gm.mono gsub) (by
      obtain ⟨o, es, ep, t, ho, rest⟩ := gS
      exact ⟨o, es, ep, t, gm.heap S _ gSw ho, rest⟩))
  | succ k ih =>
    intro i s hk hi gst gS hR
    have glt : i < n := by omega
    refine codeAny_builtin PyProof.Rows.F.entry_set_update_loop ?_
    rw [Around.under_plainId PyProof.Rows.F.plain_set_update_loop _]
    show wpAny _ A.in1 (pyNext (.ref I) >>= _) _ _ s
    refine wpAny_bind (W.item i s _ _ glt gst fun v u' hP gst' gm => ?_)
    obtain ⟨t, rfl⟩ := gval i v hP
    have gS' : u'.heap.SetOf (PySem.strKind prog w) S (fun k' => (xs.take i).any (· == k')) (dc xs i) := by
      obtain ⟨o, es, ep, tb, ho, rest⟩ := gS
      exact ⟨o, es, ep, tb, gm.heap S _ gSw ho, rest⟩
    show wpAny _ A.in1 (holding [Value.str (xs.getD i Str.empty) t] (setAdd S (.str (xs.getD i Str.empty) t)) >>= _) _ _ u'
    refine wpAny_bind (wpAny_holding ?_)
    unfold setAdd
    refine wpAny_holding ?_
    refine wpAny_bind ((PySem.strKind prog w).pyHash (k := xs.getD i Str.empty) (strKind_is _ _ _ _) ?_)
    refine wpAny_setAddHashed_of (knd := PySem.strKind prog w) (s := { u' with toks := u'.toks + 1 }) (strKind_is _ _ _ _) rfl gS' (by have := dc_le xs i; omega) fun h' gsb gS2 => ?_
    have gSi : h'.SetOf (PySem.strKind prog w) S (fun k' => (xs.take (i + 1)).any (· == k')) (dc xs (i + 1)) := by
      refine PyProof.Rows.SetOf_congr gS2 (fun k' => ?_) rfl
      have hlx : i < xs.length := by omega
      have e0 : xs.getD i Str.empty = xs[i] := by simp [List.getD, hlx]
      rw [List.take_succ_eq_append_getElem hlx, List.any_append, e0]
      show (_ || decide (k' = xs[i])) = (_ || (xs[i] == k' || false))
      rw [Bool.or_false]
      congr 1
      by_cases e : k' = xs[i]
      · rw [e]; simp
      · rw [decide_eq_false e]; exact (beq_eq_false_iff_ne.mpr fun z => e z.symm).symm
    refine wpAny_pure ⟨plainId_quiet PyProof.Rows.F.plain_set_update_loop _, ih (i + 1) _ (by omega) glt (W.frame _ u' _ _ gst' (Nat.le_succ _) fun b hb o e => ?_) gSi fun u'' gm'' gS'' => ?_⟩
    · rw [gsb.2 b (fun h : b = S => gSf (by rw [← h]; exact hb))]; exact e
    · refine hR u'' (Moved.trans W.gtrans ((gm.mono gsub).then_heap (Nat.le_succ _) fun b o hb e => ?_) gm'') gS''
      rw [gsb.2 b (fun h : b = S => hb (by rw [h]; exact List.mem_cons_self))]; exact e
end

section
variable {prog : Program} {w : World} {A : Around} {E : Value → Shared → Prop} {s : Shared}
set_option maxHeartbeats 3200000 in
theorem call_set_txt {l : Addr} {items : Array Value} {xs : List Str} {Q : Value → Shared → Prop}
    (hh : A.handled = none) (hl : s.heap.IsList l items) (hi : PyProof.Rows.StrsAre items.toList xs) (hbd : xs.length + 1 < scanBound)
    (h : ∀ (h' : Heap) (tk : Nat), h'.SetOf (PySem.strKind prog w) s.heap.objs.size (fun k' => (xs.take items.size).any (· == k')) (dc xs items.size) →
      (∀ b o, b < s.heap.objs.size → s.heap.get? b = some o → h'.get? b = some o) → Q (.ref s.heap.objs.size) { s with heap := h', toks := tk }) :
    wpAny (model prog w) A (call (.type "set") [.ref l]) Q E s := by
  obtain ⟨c, tl, gmro⟩ := PySem.F.called_set.mro
  have gmade := PySem.F.called_set.made
  have gsub := PySem.F.called_set.sub
  refine wpAny_call (codeAny_of_tree ?_)
  show wpAny _ _ (callAny (.type "set") _) _ _ _
  refine wpAny_pure ⟨Code.quiet_builtin _ (by decide +kernel), codeAny_builtin PySem.F.entry_type_call ?_⟩
  rw [Around.under_plain (weight_type_call_type "set" [.ref l] []) rfl]
  have w1 := PySem.F.called_set.notType
  have w2 := PySem.F.called_set.canCreate
  have gct := PySem.F.typeCall_set_1 (.ref l)
  repeat (any_goals (first | assumption | wp_step))

  refine codeAny_mono (code_set_new_1 (.ref l) (E := E) (Q₁ := fun obj s₁ => ∃ led : Bool, obj = .ref s.heap.objs.size ∧ s₁ = { s with heap := s.heap.push { cls := .type "set", dict := none, data := .set #[] 0 (.fresh 0 0 led) } }) fun led => ⟨led, rfl, rfl⟩) fun r s₁ gr => ?_
  cases r with
  | error e => exact gr
  | ok fl =>
    cases fl with
    | ret obj =>
      obtain ⟨led, rfl, rfl⟩ := gr
      have gS : (s.heap.push { cls := .type "set", dict := none, data := .set #[] 0 (.fresh 0 0 led) }).get? s.heap.objs.size = some { cls := .type "set", dict := none, data := .set #[] 0 (.fresh 0 0 led) } := Heap.get?_push_size _ rfl
      have gT : Shared.TypeIs { s with heap := s.heap.push { cls := .type "set", dict := none, data := .set #[] 0 (.fresh 0 0 led) } } (.ref s.heap.objs.size) "set" := ⟨_, gS, rfl⟩
      have gli := PySem.F.called_set.init.lookup
      have gbi := PySem.F.called_set.init.bind (.ref s.heap.objs.size)
      repeat (any_goals (first | assumption | wp_step))

      refine codeAny_mono (codeAny_call_builtin (R := wants (fun r s₂ => r = .none ∧ ∃ h' tk, s₂ = { s with heap := h', toks := tk } ∧
          h'.SetOf (PySem.strKind prog w) s.heap.objs.size (fun k' => (xs.take items.size).any (· == k')) (dc xs items.size) ∧
          (∀ b o, b < s.heap.objs.size → s.heap.get? b = some o → h'.get? b = some o)) E) PySem.F.called_set.init.plain PySem.F.entry_set_init (check_set_init_1 gT ?_)) fun r₂ s₂ gr₂ => ?_
      · obtain ⟨ol, gol, gcl, nl, gdl⟩ := hl
        obtain ⟨ocls, odict, odata, oslots⟩ := ol
        simp only at gcl gdl
        subst gcl; subst gdl
        have gol' : (s.heap.push { cls := .type "set", dict := none, data := .set #[] 0 (.fresh 0 0 led) }).get? l = some { cls := .type "list", dict := odict, data := .seq items nl, slots := oslots } := Heap.get?_push_of_some _ gol
        have gsls := PySem.F.sub_list_set
        have gslf := PySem.F.sub_list_frozenset
        have gne : (Value.type "list" == Value.type "dict") = false := by decide
        have gl1 : (s.heap.push { cls := .type "set", dict := none, data := .set #[] 0 (.fresh 0 0 led) }).IsList l items := ⟨_, gol', rfl, nl, rfl⟩
        unfold Builtin.«set.__init__» noKeywords Builtin.Frozenset.updateFrom
        generalize hPI : pyIter = PI
        wp_walk
        subst hPI

        refine wpAny_pyIter_list gl1 ?_
        refine wpAny_bind (wpAny_runValue ?_)
        have glS : l < s.heap.objs.size := Heap.lt_size gol
        have gh3 : A.in1.in1.in1.handled = none := by simp [hh]
        have gneI : l ≠ (s.heap.push { cls := .type "set", dict := none, data := .set #[] 0 (.fresh 0 0 led) }).objs.size := by
          rw [Heap.size_push]; exact Nat.ne_of_lt (Nat.lt_succ_of_lt glS)
        have gSf : s.heap.objs.size ∉ [(s.heap.push { cls := .type "set", dict := none, data := .set #[] 0 (.fresh 0 0 led) }).objs.size, l] := by
          rw [Heap.size_push]; simp only [List.mem_cons, List.mem_singleton, List.not_mem_nil, or_false, not_or]
          exact ⟨Nat.ne_of_lt (Nat.lt_succ_self _), Nat.ne_of_gt glS⟩
        have gsz : xs.length = items.size := by rw [← StrsAre.len_eq hi, Array.length_toList]
        have gval : ∀ (i : Nat) (v : Value), items[i]? = some v → ∃ t, v = .str (xs.getD i Str.empty) t := fun i v hv => SS.strs_at hi i v (by rw [Array.getElem?_toList]; exact hv)
        refine loop_txt ((Walks.list gh3 _ l gneI items).toS) s.heap.objs.size
          gSf xs gsz (by rw [← gsz]; exact hbd) gval (items.size - 0) 0 _ (by omega) (Nat.zero_le _)
          ⟨⟨_, Heap.get?_push_size _ rfl, rfl, rfl⟩, (gl1.push _)⟩ ?hS0 ?hR
        case hS0 =>
          have gget : ((s.heap.push { cls := .type "set", dict := none, data := .set #[] 0 (.fresh 0 0 led) }).push { cls := .type "list_iterator", data := .fields #[.ref l, .int 0 0] }).get? s.heap.objs.size
              = some { cls := .type "set", dict := none, data := .set #[] 0 (.fresh 0 0 led) } := Heap.get?_push_of_some _ gS
          exact PyProof.Rows.SetOf_congr ((PyProof.Rows.setObjOf_fresh (knd := PySem.strKind prog w) led).setOf gget (by unfold scanBound; omega)) (fun _ => rfl) rfl
        case hR =>
          intro u' gm gS'
          obtain ⟨h', g', d', tk', os'⟩ := u'
          have eg : g' = s.gens := gm.gens
          have ed : d' = s.drawn := gm.drawn
          have eo : os' = s.os := gm.os
          subst eg; subst ed; subst eo
          show wpAny _ _ _ _ _ _
          refine wpAny_pure ?_
          show wpAny _ _ (ret Value.none) _ _ _
          refine wpAny_pure ⟨rfl, h', tk', rfl, gS', fun b o hb e => ?_⟩
          have gb1 : b ≠ s.heap.objs.size := Nat.ne_of_lt hb
          have gb2 : b ≠ (s.heap.push { cls := .type "set", dict := none, data := .set #[] 0 (.fresh 0 0 led) }).objs.size := by
            rw [Heap.size_push]; exact Nat.ne_of_lt (Nat.lt_succ_of_lt hb)
          exact gm.heap b o (by simp only [List.mem_cons, List.mem_singleton, List.not_mem_nil, or_false, not_or]; exact ⟨gb1, gb2⟩) (Heap.get?_push_of_some _ (Heap.get?_push_of_some _ e))

      · cases r₂ with
        | error e => exact gr₂
        | ok fl₂ =>
          cases fl₂ with
          | ret r =>
            obtain ⟨rfl, h', tk, rfl, gS', hk'⟩ := gr₂
            repeat (any_goals (first | assumption | wp_step))
            exact h _ _ gS' hk'
          | _ => exact gr₂.elim
    | _ => exact gr.elim

set_option maxHeartbeats 3200000 in
theorem call_set_txtT {l : Addr} {items : Array Value} {xs : List Str} {Q : Value → Shared → Prop}
    (hh : A.handled = none) (hl : s.heap.IsTuple l items) (hi : PyProof.Rows.StrsAre items.toList xs) (hbd : xs.length + 1 < scanBound)
    (h : ∀ (h' : Heap) (tk : Nat), h'.SetOf (PySem.strKind prog w) s.heap.objs.size (fun k' => (xs.take items.size).any (· == k')) (dc xs items.size) →
      (∀ b o, b < s.heap.objs.size → s.heap.get? b = some o → h'.get? b = some o) → Q (.ref s.heap.objs.size) { s with heap := h', toks := tk }) :
    wpAny (model prog w) A (call (.type "set") [.ref l]) Q E s := by
  obtain ⟨c, tl, gmro⟩ := PySem.F.called_set.mro
  have gmade := PySem.F.called_set.made
  have gsub := PySem.F.called_set.sub
  refine wpAny_call (codeAny_of_tree ?_)
  show wpAny _ _ (callAny (.type "set") _) _ _ _
  refine wpAny_pure ⟨Code.quiet_builtin _ (by decide +kernel), codeAny_builtin PySem.F.entry_type_call ?_⟩
  rw [Around.under_plain (weight_type_call_type "set" [.ref l] []) rfl]
  have w1 := PySem.F.called_set.notType
  have w2 := PySem.F.called_set.canCreate
  have gct := PySem.F.typeCall_set_1 (.ref l)
  repeat (any_goals (first | assumption | wp_step))

  refine codeAny_mono (code_set_new_1 (.ref l) (E := E) (Q₁ := fun obj s₁ => ∃ led : Bool, obj = .ref s.heap.objs.size ∧ s₁ = { s with heap := s.heap.push { cls := .type "set", dict := none, data := .set #[] 0 (.fresh 0 0 led) } }) fun led => ⟨led, rfl, rfl⟩) fun r s₁ gr => ?_
  cases r with
  | error e => exact gr
  | ok fl =>
    cases fl with
    | ret obj =>
      obtain ⟨led, rfl, rfl⟩ := gr
      have gS : (s.heap.push { cls := .type "set", dict := none, data := .set #[] 0 (.fresh 0 0 led) }).get? s.heap.objs.size = some { cls := .type "set", dict := none, data := .set #[] 0 (.fresh 0 0 led) } := Heap.get?_push_size _ rfl
      have gT : Shared.TypeIs { s with heap := s.heap.push { cls := .type "set", dict := none, data := .set #[] 0 (.fresh 0 0 led) } } (.ref s.heap.objs.size) "set" := ⟨_, gS, rfl⟩
      have gli := PySem.F.called_set.init.lookup
      have gbi := PySem.F.called_set.init.bind (.ref s.heap.objs.size)
      repeat (any_goals (first | assumption | wp_step))

      refine codeAny_mono (codeAny_call_builtin (R := wants (fun r s₂ => r = .none ∧ ∃ h' tk, s₂ = { s with heap := h', toks := tk } ∧
          h'.SetOf (PySem.strKind prog w) s.heap.objs.size (fun k' => (xs.take items.size).any (· == k')) (dc xs items.size) ∧
          (∀ b o, b < s.heap.objs.size → s.heap.get? b = some o → h'.get? b = some o)) E) PySem.F.called_set.init.plain PySem.F.entry_set_init (check_set_init_1 gT ?_)) fun r₂ s₂ gr₂ => ?_
      · obtain ⟨ol, gol, gcl, nl, gdl⟩ := hl
        obtain ⟨ocls, odict, odata, oslots⟩ := ol
        simp only at gcl gdl
        subst gcl; subst gdl
        have gol' : (s.heap.push { cls := .type "set", dict := none, data := .set #[] 0 (.fresh 0 0 led) }).get? l = some { cls := .type "tuple", dict := odict, data := .seq items nl, slots := oslots } := Heap.get?_push_of_some _ gol
        have gsls := PySem.F.sub_tuple_set
        have gslf := PySem.F.sub_tuple_frozenset
        have gne : (Value.type "tuple" == Value.type "dict") = false := by decide
        have gl1 : (s.heap.push { cls := .type "set", dict := none, data := .set #[] 0 (.fresh 0 0 led) }).IsTuple l items := ⟨_, gol', rfl, nl, rfl⟩
        unfold Builtin.«set.__init__» noKeywords Builtin.Frozenset.updateFrom
        generalize hPI : pyIter = PI
        wp_walk
        subst hPI

        refine wpAny_pyIter_tuple gl1 ?_
        refine wpAny_bind (wpAny_runValue ?_)
        have glS : l < s.heap.objs.size := Heap.lt_size gol
        have gh3 : A.in1.in1.in1.handled = none := by simp [hh]
        have gneI : l ≠ (s.heap.push { cls := .type "set", dict := none, data := .set #[] 0 (.fresh 0 0 led) }).objs.size := by
          rw [Heap.size_push]; exact Nat.ne_of_lt (Nat.lt_succ_of_lt glS)
        have gSf : s.heap.objs.size ∉ [(s.heap.push { cls := .type "set", dict := none, data := .set #[] 0 (.fresh 0 0 led) }).objs.size, l] := by
          rw [Heap.size_push]; simp only [List.mem_cons, List.mem_singleton, List.not_mem_nil, or_false, not_or]
          exact ⟨Nat.ne_of_lt (Nat.lt_succ_self _), Nat.ne_of_gt glS⟩
        have gsz : xs.length = items.size := by rw [← StrsAre.len_eq hi, Array.length_toList]
        have gval : ∀ (i : Nat) (v : Value), items[i]? = some v → ∃ t, v = .str (xs.getD i Str.empty) t := fun i v hv => SS.strs_at hi i v (by rw [Array.getElem?_toList]; exact hv)
        refine loop_txt ((Walks.tuple gh3 _ l gneI items).toS) s.heap.objs.size
          gSf xs gsz (by rw [← gsz]; exact hbd) gval (items.size - 0) 0 _ (by omega) (Nat.zero_le _)
          ⟨⟨_, Heap.get?_push_size _ rfl, rfl, rfl⟩, (gl1.push _)⟩ ?hS0 ?hR
        case hS0 =>
          have gget : ((s.heap.push { cls := .type "set", dict := none, data := .set #[] 0 (.fresh 0 0 led) }).push { cls := .type "tuple_iterator", data := .fields #[.ref l, .int 0 0] }).get? s.heap.objs.size
              = some { cls := .type "set", dict := none, data := .set #[] 0 (.fresh 0 0 led) } := Heap.get?_push_of_some _ gS
          exact PyProof.Rows.SetOf_congr ((PyProof.Rows.setObjOf_fresh (knd := PySem.strKind prog w) led).setOf gget (by unfold scanBound; omega)) (fun _ => rfl) rfl
        case hR =>
          intro u' gm gS'
          obtain ⟨h', g', d', tk', os'⟩ := u'
          have eg : g' = s.gens := gm.gens
          have ed : d' = s.drawn := gm.drawn
          have eo : os' = s.os := gm.os
          subst eg; subst ed; subst eo
          show wpAny _ _ _ _ _ _
          refine wpAny_pure ?_
          show wpAny _ _ (ret Value.none) _ _ _
          refine wpAny_pure ⟨rfl, h', tk', rfl, gS', fun b o hb e => ?_⟩
          have gb1 : b ≠ s.heap.objs.size := Nat.ne_of_lt hb
          have gb2 : b ≠ (s.heap.push { cls := .type "set", dict := none, data := .set #[] 0 (.fresh 0 0 led) }).objs.size := by
            rw [Heap.size_push]; exact Nat.ne_of_lt (Nat.lt_succ_of_lt hb)
          exact gm.heap b o (by simp only [List.mem_cons, List.mem_singleton, List.not_mem_nil, or_false, not_or]; exact ⟨gb1, gb2⟩) (Heap.get?_push_of_some _ (Heap.get?_push_of_some _ e))

      · cases r₂ with
        | error e => exact gr₂
        | ok fl₂ =>
          cases fl₂ with
          | ret r =>
            obtain ⟨rfl, h', tk, rfl, gS', hk'⟩ := gr₂
            repeat (any_goals (first | assumption | wp_step))
            exact h _ _ gS' hk'
          | _ => exact gr₂.elim
    | _ => exact gr.elim

end
end TLS
namespace TL
open PySem L2 PySem.Spec PyProof.Rows TLS
section
variable {X : Cx} {c : Ct} {w : Bool} {e : Expr} {es : List Expr} {T : TED} {U : TAD} {pos p p2 q : Pos}
def xLenSet (T : TED) : TED := fun γ Q => T γ fun d => ∃ ys : List Str, d = .lst (ys.map D.str) ∧ ys.length + 1 < scanBound ∧ Q (.int (dc ys ys.length : Nat))
theorem xd_lenSet (hK : c.K = X.K) (hc : X.calm = true) (hm : X.mg "len" = none) (hm2 : X.mg "set" = none) (ha : PE X e (LE c w T)) (hg : Gl X "len" := by rfl) (hg2 : Gl X "set" := by rfl) (na : starEach [e] X.env = (false, eval e X.env) :: starEach [] X.env := by rfl) :
    PE X (.Call (.Name "len" p) [.Call (.Name "set" p2) [e] [] q] [] pos) (LE c w (xLenSet T)) := by
  refine ⟨fun pins s σ H Q I h => ?_⟩
  obtain ⟨gh, γ, Qd, S, q1, k⟩ := h
  refine Call_ (ld_blt I hg hm PySem.boot_len (PyProof.Rows.callWith_builtin1 (PyProof.Rows.args_cons ?_ rfl) rfl rfl))
  refine Call_ (ld_blt I hg2 hm2 boot_set (PyProof.Rows.callWith_type1 (PyProof.Rows.args_cons (thn (ha.run pins s σ H (fun v H1 => ∃ l, ∃ xs : List Str, v = .ref l ∧ SqL X.K H1 l (xs.map V.str) ∧ xs.length + 1 < scanBound ∧ Q (.int (dc xs xs.length : Nat)) H1) I ⟨gh, γ, _, S, q1, fun d v H1 h1 r1 S1 x1 => ?_⟩) fun v s1 ⟨x, H1, J1, r1, z1⟩ => PyProof.Rows.args_nil ?_) na) na rfl))
  · obtain ⟨ys, rfl, hb, h1⟩ := h1
    cases r1 with
    | lst n hh s =>
      cases rep_strs s
      exact ⟨_, ys, rfl, SqL.of hh, hb, k _ _ H1 h1 (.int _) S1 x1⟩
  · obtain ⟨l, xs, rfl, hq, hb, z1⟩ := z1
    cases r1
    obtain ⟨its, r, pl, hz⟩ := J1.list hq
    have hl : its.toArray.size = xs.length := by rw [List.size_toArray, ← r.length, List.length_map]
    refine call_set_txt (J1.ok.hd hc) pl.isList (by simpa using strsAre_of r) hb fun h' tk hS hk => PyProof.Rows.args_nil ?_
    rw [hl] at hS
    obtain ⟨o, es', ep, t, ho, hex, hd, _, _, _, hf, hn⟩ := hS
    have J2 : Inv X pins σ H1 { s1 with heap := h', toks := tk } := J1.kept fun b o e => hk b o (Heap.lt_size e) e
    have lim := dc_le xs xs.length
    have sb : scanBound ≤ 4611686018427387904 := by decide
    exact call_len_set ho hex hd hf (by rw [hn]; omega) ⟨.int (dc xs xs.length : Nat), H1, J2.tok _, ⟨_, by rw [hn]⟩, z1⟩
/-- *e in a display -/
def xStar (T : TED) (U : TAD) : TAD := fun γ Q => T γ fun d => ∃ xs, (d = .lst xs ∨ d = .tup xs) ∧ U γ fun ds => Q (xs ++ ds)
theorem xa_star (hK : c.K = X.K) (he : PE X e (LE c w T)) (hr : PA X es (LA c w U)) (hs : starEach (.Starred e p :: es) X.env = (true, eval e X.env) :: starEach es X.env := by rfl) : PA X (.Starred e p :: es) (LA c w (xStar T U)) := pa_imp (StX.pa_star he hr hs) fun _ _ σ H Q I z => by
  obtain ⟨gh, γ, Qd, S, q1, k⟩ := z
  refine ⟨gh, γ, _, S, q1, fun d v H1 h1 r1 S1 x1 => ?_⟩
  obtain ⟨xs, hd, h1⟩ := h1
  rw [← hK]
  have fin : ∀ us : List V, Reps c.K c.B (MW c γ σ w) H1 us xs → LA c w U σ H1 fun ys H2 => Q (us ++ ys) H2 := fun us r => ⟨gh, γ, _, S1, h1, fun ds vs H2 h2 r2 S2 x2 => k _ _ H2 h2 ((r.ext (S1.mB w) x2).append r2) S2 (x1.trans x2)⟩
  rcases hd with rfl | rfl
  · cases r1 with
    | lst n hh s => exact ⟨_, _, rfl, .inr (SqL.of hh), fin _ s⟩
  · cases r1 with
    | tup n hh s => exact ⟨_, _, rfl, .inl (SqT.of hh), fin _ s⟩
    | tupK hh s => exact ⟨_, _, rfl, .inl (.inr hh), fin _ s⟩
end

section
variable {prog : Program} {w : World} {A : Around} {E : Value → Shared → Prop} {s : Shared}
theorem items_star {l : Addr} {x : Value} {rest : List Value} {Q : List Value → Shared → Prop} (hh : A.handled = none) (hl : s.heap.IsList l (x :: rest).toArray) (hz : rest.length + 1 ≤ sizeLine)
    (hQ : ∀ (h' : Heap) (tk : Nat), (∀ b o, s.heap.get? b = some o → h'.get? b = some o) → Q [x, .ref h'.objs.size] { s with heap := h'.push { cls := .type "list", data := .seq rest.toArray }, toks := tk }) : wpAny (model prog w) A (unpackItems (.ref l) 2 (some 1)) Q E s := by
  have hlt : l ≠ s.heap.objs.size := by obtain ⟨o, gO, _⟩ := hl; exact Nat.ne_of_lt (Heap.lt_size gO)
  unfold unpackItems; refine wpAny_bind ?_
  unfold notIterableAtAll; refine wpAny_bind (wpAny_specialOf hl.typeIs slot_list_iter.lookup (wpAny_pure ?_)); simp only [Bool.false_eq_true, if_false]
  refine wpAny_bind (wpAny_holding (wpAny_pyIter_list hl ?_)); refine wpAny_bind (wpAny_holding (PySem.W.kun_draw hlt 1 0 _ _ ⟨_, Heap.get?_push_size _ rfl, rfl, rfl⟩ (hl.push _) (by simp) fun h₁ f1 s1 => ?_))
  have l1 : h₁.IsList l (x :: rest).toArray := (hl.push _).extBut s1.extBut hlt
  rw [Nat.zero_add] at f1
  obtain ⟨oi, hoi, _⟩ := id f1
  obtain ⟨ol, hol, _⟩ := id l1
  have e1 : ((x :: rest).toArray.toList.drop 0).take 1 = [x] := by simp
  rw [e1, if_neg (show ¬ ([x].length < 1) by simp)]
  refine wpAny_bind (wpAny_holding (PySem.W.kun_collect (s := { s with heap := h₁ }) (T := "list_iterator") (.inr (.inr (.inl rfl))) (Walks.list (A := A.in1) hh s.heap.objs.size l hlt (x :: rest).toArray) (fun j u st => st.1.typeIs) (k := 1) (by simp) ⟨f1, l1⟩ (Heap.lt_size hoi) (Heap.lt_size hol) (fun h₂ tk hk => ?_) (by simpa using hz)))
  have e2 : (x :: rest).toArray.toList.drop 1 = rest := by simp
  rw [e2]
  have keep : ∀ b o, s.heap.get? b = some o → h₂.get? b = some o := fun b o g => hk b o (Nat.ne_of_lt (Heap.lt_size g)) (s1.extBut b o (Nat.ne_of_lt (Heap.lt_size g)) (Heap.get?_push_of_some _ g))
  show wpAny _ _ (if rest.length < 2 - 1 - 1 then _ else _) _ _ _
  rw [if_neg (by simp)]
  show wpAny _ _ (newList (rest.take (rest.length - (2 - 1 - 1))) >>= fun d => pure ([x] ++ [d] ++ rest.drop (rest.length - (2 - 1 - 1)))) _ _ _
  have e3 : rest.take (rest.length - (2 - 1 - 1)) = rest := by simp
  have e4 : rest.drop (rest.length - (2 - 1 - 1)) = [] := by simp
  rw [e3, e4]
  refine wpAny_bind (wpAny_newObj_type (wpAny_pure ?_) (by show rest.toArray.size ≤ sizeLine; simp; omega))
  exact hQ h₂ tk keep
end
section
variable {X : Cx} {c : Ct} {pos : Pos} {es es2 : List Expr} {k : Nat} {t : TGs} {Gs : TGDs} {js : List Nat}
def gStar (K : PySem.W.Frag) (t : TGs) : TG := fun v σ H Q => ∃ a x r, v = .ref a ∧ SqL K H a (x :: r) ∧ ∀ D, H D = none → t [x, .ref D] σ (upd H D (.lst r)) Q
theorem pg_star (hc : X.calm = true) (h : PGs X es2 t) (hE : (assignEach es X.env).map (·.2) = (assignEach es2 X.env).map (·.2)) (hn : (assignEach es X.env).length = 2) (hst : (assignEach es X.env).findIdx? (·.1) = some 1) : PG X (.Tuple es k pos) (gStar X.K t) := by
  refine ⟨fun pins s σ H v u Q I r hw => ?_⟩
  obtain ⟨a, x, xs, e1, hq, hw⟩ := hw
  subst e1
  cases r
  obtain ⟨its, rv, pl, hz⟩ := I.list hq
  cases rv with
  | @cons _ u0 _ us rx rr =>
    rw [PyProof.Rows.assign_Tuple]; refine wpAny_bind (wpAny_standAt ?_); unfold unpack
    rw [hn, hst, hE]
    have hl := rr.length
    have hlen : us.length + 1 ≤ sizeLine := by
      have z : (x :: xs).length ≤ sizeLine := hz
      rw [List.length_cons, hl] at z
      exact z
    refine wpAny_bind (wpAny_holding (items_star (I.ok.hd hc) pl.isList hlen fun h' tk hk => ?_))
    have J1 : Inv X pins σ H { s with heap := h', toks := tk } := I.kept (t' := tk) hk
    have hD : H h'.objs.size = none := J1.hok.fresh (Nat.le_refl _)
    have J2 : Inv X pins σ (upd H h'.objs.size (.lst xs)) { s with heap := h'.push { cls := .type "list", data := .seq us.toArray }, toks := tk } :=
      J1.laid (t' := tk) (fun b o g => Heap.get?_push_of_some _ g) (Nat.le_refl _) ⟨by rw [hl]; omega, us, 0, rr, Heap.get?_push_size _ rfl⟩
    exact h.run pins _ σ _ [x, .ref h'.objs.size] _ Q J2 (.cons rx (.cons rfl .nil)) (hw _ hD)
/-- a, *b = a list: its first item, the others in a new list -/
def yStar (Gs : TGDs) : TGD := fun d γ Q => ∃ x r, d = .lst (x :: r) ∧ Gs [x, .lst r] γ Q
theorem z_star {e : Expr} {T : TED} {tpos : Pos} (hK : c.K = X.K) (hc : X.calm = true) (he : PE X e (LE c true T)) (h : PGs X es2 (LGs c js Gs)) (hE : (assignEach es X.env).map (·.2) = (assignEach es2 X.env).map (·.2) := by rfl) (hn : (assignEach es X.env).length = 2 := by rfl)
    (hst : (assignEach es X.env).findIdx? (·.1) = some 1 := by rfl) (hs : swapsWithSole [.Tuple es k tpos] e pos.line X.env = pure false := by rfl) (hw : swappedStores [.Tuple es k tpos] e X.env = pure none := by rfl)
    (h1 : (assignEach [.Tuple es k tpos] X.env).map (·.2) = [assign (.Tuple es k tpos) X.env] := by rfl) : PS X (.Assign [.Tuple es k tpos] e pos) (LS c (zAsg T (yStar Gs))) := ps_imp (ps_asg he (pg_star hc h hE hn hst) hs hw h1) fun _ _ σ H E I q => by
  obtain ⟨gh, γ, ED, S, q1, k, _⟩ := q
  refine ⟨gh, γ, _, S, q1, fun d v H1 h1 r S1 x1 => ?_⟩
  obtain ⟨x, xs, rfl, h1⟩ := h1
  rw [← hK]
  cases r with
  | lst nM hh s =>
    cases s with
    | @cons v0 _ vs _ rx rr =>
      refine ⟨_, v0, vs, rfl, SqL.of hh, fun D hD => ?_⟩
      have S2 := S1.new (o := .lst vs) hD
      have xD : Ext c.B H1 (upd H1 D (.lst vs)) := Ext.new hD
      refine ⟨gh, γ, [x, .lst xs], _, S2, .cons (rx.ext (S1.mB true) xD) (.cons (.lst (S1.notM hD) upd_same (rr.ext (S1.mB true) xD)) .nil), h1, fun γ' σ' h2 S3 _ _ => k γ' σ' _ h2 S3⟩
end
end TL
set_option Elab.async false
set_option linter.all false
set_option maxRecDepth 100000
set_option maxHeartbeats 2000000
namespace TL
open PySem L2 PySem.Spec PyProof.Rows TLS

theorem fn_or {P : Program} {w : World} {K : PySem.W.Frag} {mg : Str → Option Value} {base : Heap} {CX : CXT} {k : Nat} {f : Addr} {fd : FuncData} {ps : List Str} {sp sp' : Sp} (F : FnOk P w K mg base CX k f fd ps sp) (F' : FnOk P w K mg base CX k f fd ps sp') :
    FnOk P w K mg base CX k f fd ps (fun vs H Q E => sp vs H Q E ∨ sp' vs H Q E) :=
  ⟨fun vs H Q E h => h.elim (F.len vs H Q E) (F'.len vs H Q E), fun A outer s H args us vs Q E hr he hb hv hs => hs.elim (F.run A outer s H args us vs Q E hr he hb hv) (F'.run A outer s H args us vs Q E hr he hb hv)⟩
theorem fn_orD {P : Program} {w : World} {K : PySem.W.Frag} {mg : Str → Option Value} {base : Heap} {CX : CXT} {k : Nat} {f : Addr} {fd : FuncData} {ps : List Str} {S S' : SpD} (F : FnOk P w K mg base CX k f fd ps (spD K S)) (F' : FnOk P w K mg base CX k f fd ps (spD K S')) :
    FnOk P w K mg base CX k f fd ps (spD K fun ds Q E => S ds Q E ∨ S' ds Q E) := (fn_or F F').imp fun vs H Q E h => by
  obtain ⟨B, L, P', ds, Qd, Ed, pB, pL, pal, bg, r, hS, kq, ke⟩ := h
  exact hS.imp (fun hS => ⟨B, L, P', ds, Qd, Ed, pB, pL, pal, bg, r, hS, kq, ke⟩) fun hS => ⟨B, L, P', ds, Qd, Ed, pB, pL, pal, bg, r, hS, kq, ke⟩
section
variable {X : Cx} {c : Ct} {w : Bool} {e : Expr} {es : List Expr} {T : TED} {V1 : TAD} {pos p p2 q : Pos}
theorem xd_allW (hK : c.K = X.K) (wm : Warm X) (hm : X.mg "all" = none) (ha : PA X (e :: es) (LA c w V1)) (hg : Gl X "all" := by rfl) (he : starEach (e :: es) X.env = (false, eval e X.env) :: starEach es X.env := by rfl) (hpl : (backTo pos (starEach es X.env)).any (·.1) = false := by rfl) :
    PE X (.Call (.Name "all" p) (e :: es) [] pos) (LE c w (xBi dAll V1)) := xd_bi (cr_allW wm) (br_all hK) hm PyProof.Rows.boot_all ha hg (by decide) (by decide) he hpl
def xLenSetT (T : TED) : TED := fun γ Q => T γ fun d => ∃ ys : List Str, d = .tup (ys.map D.str) ∧ ys.length + 1 < scanBound ∧ Q (.int (dc ys ys.length : Nat))
theorem xd_lenSetT (hK : c.K = X.K) (hc : X.calm = true) (hm : X.mg "len" = none) (hm2 : X.mg "set" = none) (ha : PE X e (LE c w T)) (hg : Gl X "len" := by rfl) (hg2 : Gl X "set" := by rfl) (na : starEach [e] X.env = (false, eval e X.env) :: starEach [] X.env := by rfl) :
    PE X (.Call (.Name "len" p) [.Call (.Name "set" p2) [e] [] q] [] pos) (LE c w (xLenSetT T)) := by
  refine ⟨fun pins s σ H Q I h => ?_⟩
  obtain ⟨gh, γ, Qd, S, q1, k⟩ := h
  refine Call_ (ld_blt I hg hm PySem.boot_len (PyProof.Rows.callWith_builtin1 (PyProof.Rows.args_cons ?_ rfl) rfl rfl))
  refine Call_ (ld_blt I hg2 hm2 boot_set (PyProof.Rows.callWith_type1 (PyProof.Rows.args_cons (thn (ha.run pins s σ H (fun v H1 => ∃ l, ∃ xs : List Str, v = .ref l ∧ SqT X.K H1 l (xs.map V.str) ∧ xs.length + 1 < scanBound ∧ Q (.int (dc xs xs.length : Nat)) H1) I ⟨gh, γ, _, S, q1, fun d v H1 h1 r1 S1 x1 => ?_⟩) fun v s1 ⟨x, H1, J1, r1, z1⟩ => PyProof.Rows.args_nil ?_) na) na rfl))
  · obtain ⟨ys, rfl, hb, h1⟩ := h1
    rw [← hK]
    cases r1 with
    | tup n hh s =>
      cases rep_strs s
      exact ⟨_, ys, rfl, SqT.of hh, hb, k _ _ H1 h1 (.int _) S1 x1⟩
    | tupK hh s =>
      cases rep_strs s
      exact ⟨_, ys, rfl, .inr hh, hb, k _ _ H1 h1 (.int _) S1 x1⟩
  · obtain ⟨l, xs, rfl, hq, hb, z1⟩ := z1
    cases r1
    obtain ⟨its, r, pl, hz⟩ := J1.tuple hq
    have hl : its.toArray.size = xs.length := by rw [List.size_toArray, ← r.length, List.length_map]
    refine call_set_txtT (J1.ok.hd hc) pl (by simpa using strsAre_of r) hb fun h' tk hS hk => PyProof.Rows.args_nil ?_
    rw [hl] at hS
    obtain ⟨o, es', ep, t, ho, hex, hd, _, _, _, hf, hn⟩ := hS
    have J2 : Inv X pins σ H1 { s1 with heap := h', toks := tk } := J1.kept fun b o e => hk b o (Heap.lt_size e) e
    have lim := dc_le xs xs.length
    have sb : scanBound ≤ 4611686018427387904 := by decide
    exact call_len_set ho hex hd hf (by rw [hn]; omega) ⟨.int (dc xs xs.length : Nat), H1, J2.tok _, ⟨_, by rw [hn]⟩, z1⟩
end

/-- the def x: its promise, and that it is found and bound -/
def Cal (P : Program) (w : World) (K : PySem.W.Frag) (mg : Str → Option Value) (base : Heap) (x : Str) (ps : List Str) (n : Nat) (S : SpD) : Prop :=
  ∃ (f : Addr) (fd : FuncData), FnOk P w K mg base (L2N.CX P w) n f fd ps (spD K S) ∧ mg x = some (.ref f) ∧ PySem.W.keepIn K (.ref f) = true ∧ Binds K fd ps []
def DefAt (K : PySem.W.Frag) (mg : Str → Option Value) (x : Str) (ps : List Str) (st : Stmt) : Prop := ∃ (f : Addr) (fd : FuncData), Fun K x x st f fd ∧ mg x = some (.ref f) ∧ Binds K fd ps []
theorem tk_no {X : Cx} : L2N.Takes X (fun _ _ _ _ => False) := fun u s' h => by
  obtain ⟨_, _, _, _, _, _, _, _, _, _, _, _, _, _, _, _, z⟩ := h
  exact z.elim
theorem hW_no {c : Ct} : WRel c (fun _ _ => False) (fun _ _ _ _ => False) := fun _ _ _ _ _ _ _ h _ _ => h
section
variable {X : Cx} {c : Ct} {w : Bool} {W : WX} {Wx : XD → TL.Env → Prop} {x : Str} {ps : List Str} {n k : Nat} {S : SpD} {e : Expr} {es : List Expr} {U : TAD} {T : TED} {p pos pos' : Pos}
theorem xd_cal (hK : c.K = X.K) (C : Cal X.prog X.w X.K X.mg X.base x ps n S) (hr : Room k X.A) (tk : L2N.Takes X W) (hW : WRel c Wx W) (ha : PA X (e :: es) (LA c true U)) (hle : n ≤ k := by decide) (hg : Gl X x := by rfl) (hdb : (x == ("__debug__" : Str)) = false := by decide)
    (he : starEach (e :: es) X.env = (false, eval e X.env) :: starEach es X.env := by rfl) (hpl : (backTo pos (starEach es X.env)).any (·.1) = false := by rfl) : PE X (.Call (.Name x p) (e :: es) [] pos) (LE c true (xCall S Wx U)) := by
  obtain ⟨f, fd, F, m, kp, b⟩ := C
  exact xd_call (by rw [hK]; exact F) (hr.mono hle) tk hW m kp b ha hg hdb he hpl
theorem xd_calB (hK : c.K = X.K) (C : Cal X.prog X.w X.K X.mg X.base x ps n S) (hr : Room k X.A) (tk : L2N.Takes X W) (hW : WRel c Wx W) (ha : PA X (e :: es) (LA c false U)) (hle : n ≤ k := by decide) (hg : Gl X x := by rfl) (hdb : (x == ("__debug__" : Str)) = false := by decide)
    (he : starEach (e :: es) X.env = (false, eval e X.env) :: starEach es X.env := by rfl) (hpl : (backTo pos (starEach es X.env)).any (·.1) = false := by rfl) : PE X (.Call (.Name x p) (e :: es) [] pos) (LE c false (xCallB S Wx U)) := by
  obtain ⟨f, fd, F, m, kp, b⟩ := C
  exact xd_callB (by rw [hK]; exact F) (hr.mono hle) tk hW m kp b ha hg hdb he hpl
/-- a name's tree -/
theorem xV (i : Nat) (hN : X.N[i]? = some x := by rfl) (hv : Vis X.env.scope x := by first | exact Or.inl rfl | exact Or.inr (Or.inl rfl) | exact Or.inr (Or.inr rfl)) (hd : (x == ("__debug__" : Str)) = false := by decide) (hcd : (x == ("__classdict__" : Str)) = false := by decide) :
    PE X (.Name x pos) (LE c w (xVar i)) := xd_var i (pv i hN hv hd hcd)
theorem xO (i : Nat) (hN : X.N[i]? = some x := by rfl) (hv : Vis X.env.scope x := by first | exact Or.inl rfl | exact Or.inr (Or.inl rfl) | exact Or.inr (Or.inr rfl)) (hd : (x == ("__debug__" : Str)) = false := by decide) (hcd : (x == ("__classdict__" : Str)) = false := by decide) :
    PE X (.Name x pos) (LE c false (xVarO i)) := xd_varO i (pv i hN hv hd hcd)
theorem zS (i : Nat) (hN : X.N.Nodup) (he : PE X e (LE c true T)) (hi : X.N[i]? = some x := by rfl) (hx : Loc X.env.scope x := by first | exact Or.inl rfl | exact Or.inr rfl) (hs : swapsWith e (some (.Name x pos')) pos.line X.env = pure false := by rfl)
    (hf : X.fn x = true ∨ X.env.scope.names.lookup x = some .local := by first | exact .inl rfl | exact .inr rfl) : PS X (.Assign [.Name x pos'] e pos) (LS c (zSet i T)) := z_set hN hi hx he hs hf
theorem zO (i : Nat) {U : TAD} (hN : X.N.Nodup) (he : PE X e (LF c true U)) (hi : X.N[i]? = some x := by rfl) (hx : Loc X.env.scope x := by first | exact Or.inl rfl | exact Or.inr rfl) (hs : swapsWith e (some (.Name x pos')) pos.line X.env = pure false := by rfl)
    (hf : X.fn x = true ∨ X.env.scope.names.lookup x = some .local := by first | exact .inl rfl | exact .inr rfl) : PS X (.Assign [.Name x pos'] e pos) (LS c (zSetO i U)) := z_setO hN hi hx he hs hf
theorem yN (i : Nat) (hN : X.N.Nodup) (hi : X.N[i]? = some x := by rfl) (hx : Loc X.env.scope x := by first | exact Or.inl rfl | exact Or.inr rfl) (hf : X.fn x = true ∨ X.env.scope.names.lookup x = some .local := by first | exact .inl rfl | exact .inr rfl) :
    PG X (.Name x pos) (LG c [i] (yName i)) := yg_name hN hi hx hf
end
section
variable {P : Program} {wd : World} {K : PySem.W.Frag} {mg : Str → Option Value} {base : Heap} {x : Str} {st : Stmt} {N ps : List Str} {k : Nat} {S : SpD}
theorem room_units {k : Nat} {A : Around} (r : Room k A) : A.units + 64 < cLine := by have := r.un; omega
/-- a def by its body -/
theorem cal_both {S' : SpD} {n : Nat} (D : DefAt K mg x ps st) (a : ∀ f fd, Fun K x x st f fd → FnOk P wd K mg base (L2N.CX P wd) n f fd ps (spD K S)) (b : ∀ f fd, Fun K x x st f fd → FnOk P wd K mg base (L2N.CX P wd) n f fd ps (spD K S')) :
    Cal P wd K mg base x ps n (fun ds Q E => S ds Q E ∨ S' ds Q E) := by
  obtain ⟨f, fd, F, m, bb⟩ := D
  exact ⟨f, fd, fn_orD (a f fd F) (b f fd F), m, F.kp, bb⟩
theorem cal_of {T : (XD → Prop) → TSD} (D : DefAt K mg x ps st) (Sc : FnScope N ps (defScope st)) (len : ∀ ds Q E, S ds Q E → ds.length = ps.length)
    (hd : ∀ (f : Addr) (cdv : Value) (A : Around) (outer : List PySem.Env) (s : Shared) (H : Hp) (E : XK) (c : Ct) (Ed : XD → Prop), Room k (A.deeper (envOfC x (defScope st) s.heap.objs.size f cdv)) → c.K = K →
      L2N.Takes (cxB true [] (L2N.CX P wd) P wd K mg base N x (defScope st) f cdv A outer s H E) (wOf E) → PassesOwn (model P wd) (A.deeper (envOfC x (defScope st) s.heap.objs.size f cdv)) (envOfC x (defScope st) s.heap.objs.size f cdv) (cxB true [] (L2N.CX P wd) P wd K mg base N x (defScope st) f cdv A outer s H E).xe →
      WRel c (fun x _ => Ed x) (wOf E) → PSs (cxB true [] (L2N.CX P wd) P wd K mg base N x (defScope st) f cdv A outer s H E) (defBody st) (LS0 c (T Ed)))
    (hs : ∀ ds Qd Ed, S ds Qd Ed → T Ed { nx := fun _ => Qd .non, rt := Qd } (envOf N ds)) : Cal P wd K mg base x ps (k + 1) S := by
  obtain ⟨f, fd, F, m, b⟩ := D
  exact ⟨f, fd, fnD0 F Sc len (fun cdv => hd f cdv) hs, m, F.kp, b⟩
end

theorem SI.drop {c : Ct} {gh : List (V × D)} {γ : TL.Env} {σ : L2.St} {H : Hp} {i : Nat} (S : SI c gh γ σ H) : SI c gh (γ.set i none) σ H := by
  have at_ : ∀ {j : Nat} {s : Slot}, (γ.set i none)[j]? = some (some s) → γ[j]? = some (some s) := fun {j s} h => by
    rcases set_at h with ⟨_, _, e⟩ | ⟨_, h⟩
    · cases e
    · exact h
  have ow : ∀ {a : Addr}, OwnAt (γ.set i none) σ a → OwnAt γ σ a := fun {a} ⟨j, s, h1, h2, h3⟩ => ⟨j, s, at_ h1, h2, h3⟩
  have less : ∀ a, MW c (γ.set i none) σ true a → MW c γ σ true a := fun a m => m.imp id fun m => ⟨m.1, ow m.2⟩
  refine ⟨by simpa using S.len, S.ext, S.bag, S.pB, S.pL, S.pal, fun j d h => ?_, fun j xs h => ?_, fun j C gs h => ?_, fun p hp => (S.gho p hp).less less, fun p hp => S.fresh p (ow hp), fun j k s t p h1 h2 h3 h4 h5 h6 => S.sep j k s t p (at_ h1) h2 h3 (at_ h4) h5 h6⟩
  · obtain ⟨v, h1, h2⟩ := S.val j d (at_ h)
    exact ⟨v, h1, h2.less less⟩
  · obtain ⟨p, vs, h1, h2, h3⟩ := S.own j xs (at_ h)
    exact ⟨p, vs, h1, h2, h3.less less⟩
  · obtain ⟨p, dx, fs, h1, h2, h3⟩ := S.ins j C gs (at_ h)
    exact ⟨p, dx, fs, h1, h2, h3.less less⟩
def zFg (i : Nat) (T : TSD) : TSD := fun E γ => T E (γ.set i none)
theorem z_fg {X : Cx} {c : Ct} {st : Stmt} {T : TSD} (i : Nat) (h : PS X st (LS c T)) : PS X st (LS c (zFg i T)) := ps_imp h fun _ _ _ _ _ _ ⟨gh, γ, ED, S, q⟩ => ⟨gh, γ.set i none, ED, S.drop, q⟩
/-- a global that holds the tree d -/
def GAt (K : PySem.W.Frag) (mg : Str → Option Value) (x : Str) (d : D) : Prop := ∃ (u : Value) (v : V), mg x = some u ∧ RelV v u ∧ ∀ B M H, Rep K B M H v d
theorem xd_gat {X : Cx} {c : Ct} {w : Bool} {x : Str} {d : D} {pos : Pos} (hK : c.K = X.K) (g : GAt X.K X.mg x d) (hg : Gl X x := by rfl) (hd : (x == ("__debug__" : Str)) = false := by decide) : PE X (.Name x pos) (LE c w (xC d)) := by
  obtain ⟨u, v, m, r, q⟩ := g
  exact xd_glob m r (fun M H => by rw [hK]; exact q _ M H) hg hd

theorem seq_cut {T U : TSD} {E : EndsD} {γ : TL.Env} (Post : TL.Env → Prop) (hU : ∀ γ', Post γ' → U E γ') (hT : ∀ R : TL.Env → Prop, (∀ γ', Post γ' → R γ') → T { E with nx := R } γ) : zSeq T U E γ := hT (U E) hU
theorem for_inv {body : TSD} {G : TGD} {E : EndsD} : ∀ (ds : List D) (I : Nat → TL.Env → Prop) (γ : TL.Env), I 0 γ →
    (∀ (i : Nat) (d : D) (γ' : TL.Env), ds[i]? = some d → I i γ' → ∀ N : TL.Env → Prop, (∀ γ2, I (i + 1) γ2 → N γ2) → G d γ' fun γ2 => body { nx := N, rt := E.rt, bk := E.nx, ct := N } γ2) → (∀ γ', I ds.length γ' → E.nx γ') → forD body G E ds γ
  | [], I, γ, h0, _, hd => hd γ h0
  | d :: ds, I, γ, h0, hs, hd => hs 0 d γ rfl h0 (forD body G E ds) fun γ2 h2 => for_inv ds (fun i => I (i + 1)) γ2 h2 (fun i d' γ' hi => hs (i + 1) d' γ' hi) hd
/-- a comprehension that keeps or drops by a test and gives f of each -/
theorem lc_map {G : TGD} {Tt : TTD} {Te : TED} {γ : TL.Env} {p : D → Bool} {f : D → D} : ∀ (ds : List D) (acc : List D) (Q : List D → Prop), (∀ d ∈ ds, ∀ R : TL.Env → Prop, (∀ γ' : TL.Env, (∀ R' : Bool → Prop, R' (p d) → Tt γ' R') → (p d = true → ∀ R' : D → Prop, R' (f d) → Te γ' R') → R γ') → G d γ R) → Q (acc ++ (ds.filter p).map f) → lcD G Tt Te γ ds acc Q
  | [], acc, Q, _, hq => by
    unfold lcD
    simpa using hq
  | d :: ds, acc, Q, h, hq => by
    unfold lcD
    refine h d (by simp) _ fun γ' h1 h2 => h1 _ ?_
    cases hp : p d with
    | true =>
      rw [if_pos rfl]
      refine h2 hp _ (lc_map ds _ Q (fun d' hd' => h d' (by simp [hd'])) ?_)
      rw [List.filter_cons, if_pos hp] at hq
      simpa [List.append_assoc] using hq
    | false =>
      rw [if_neg Bool.false_ne_true]
      refine lc_map ds _ Q (fun d' hd' => h d' (by simp [hd'])) ?_
      rw [List.filter_cons, if_neg (by rw [hp]; exact Bool.false_ne_true)] at hq
      exact hq
end TL
set_option Elab.async false
set_option linter.all false
set_option maxRecDepth 100000
set_option maxHeartbeats 4000000
namespace TL
open PySem L2 PySem.Spec PyProof.Rows TLS
theorem strs_in {m : Str} {ys : List Str} : inS (.str m) (ys.map D.str) = decide (m ∈ ys) := by
  unfold inS
  rw [List.any_map]
  induction ys with
  | nil => rfl
  | cons y r ih =>
    rw [List.any_cons, ih]
    show ((y == m) || decide (m ∈ r)) = decide (m ∈ y :: r)
    by_cases e : m = y
    · subst e; simp
    · have e' : (y == m) = false := beq_eq_false_iff_ne.mpr fun z => e z.symm
      simp [e, e']
section
variable {γ : TL.Env} {Q : D → Prop} {QB : Bool → Prop} {QL : List D → Prop} {QE : TL.Env → Prop} {QO : Option Int → Prop} {T U V W : TED} {Tt Ut : TTD} {A B : TAD} {G : TGD} {Gs : TGDs} {E : EndsD} {Z Y : TSD} {To Th : TOD}
theorem e_var0 {d : D} : xVar 0 (some (.val d) :: γ) Q = Q d := propext ⟨fun ⟨_, h, q⟩ => by cases h; exact q, fun q => ⟨d, rfl, q⟩⟩
theorem e_varS {i : Nat} {s : Option Slot} : xVar (i + 1) (s :: γ) Q = xVar i γ Q := rfl
theorem e_varO0 {xs : List D} : xVarO 0 (some (.own xs) :: γ) Q = Q (.lst xs) := propext ⟨fun ⟨_, h, q⟩ => by cases h; exact q, fun q => ⟨xs, rfl, q⟩⟩
theorem e_varOS {i : Nat} {s : Option Slot} : xVarO (i + 1) (s :: γ) Q = xVarO i γ Q := rfl
theorem e_C {d : D} : xC d γ Q = Q d := rfl
theorem e_weak {w : Bool} : xFlat T γ Q = T γ fun d => d.flat = true ∧ Q d := rfl
theorem e_new : xNew A γ Q = A γ fun ds => Q (.lst ds) := rfl
theorem e_nil : xNil γ QL = QL [] := rfl
theorem e_cons : xCons T A γ QL = T γ fun d => A γ fun ds => QL (d :: ds) := rfl
theorem e_tup : xTup A γ Q = A γ fun ds => ds.length ≤ sizeLine ∧ Q (.tup ds) := rfl
theorem e_lst : xLst A γ QL = A γ fun ds => ds.length ≤ sizeLine ∧ QL ds := rfl
theorem e_star : xStar T A γ QL = T γ fun d => ∃ xs, (d = .lst xs ∨ d = .tup xs) ∧ A γ fun ds => QL (xs ++ ds) := rfl
theorem e_star_l {xs : List D} {R : List D → Prop} : (∃ ys, (D.lst xs = .lst ys ∨ D.lst xs = .tup ys) ∧ R ys) = R xs := propext ⟨fun ⟨_, h, q⟩ => by rcases h with h | h <;> cases h; exact q, fun q => ⟨xs, .inl rfl, q⟩⟩
theorem e_star_t {xs : List D} {R : List D → Prop} : (∃ ys, (D.tup xs = .lst ys ∨ D.tup xs = .tup ys) ∧ R ys) = R xs := propext ⟨fun ⟨_, h, q⟩ => by rcases h with h | h <;> cases h; exact q, fun q => ⟨xs, .inr rfl, q⟩⟩
theorem e_op {r : OpD} : xOp r T U γ Q = T γ fun x => U γ fun y => r x y Q := rfl
theorem e_addI {i j : Int} : dAdd (.int i) (.int j) Q = Q (.int (i + j)) := rfl
theorem e_addS {x y : Str} : dAdd (.str x) (.str y) Q = (x.length + y.length ≤ sizeLine ∧ Q (.str (x ++ y))) := rfl
theorem e_addL {x y : List D} : dAdd (.lst x) (.lst y) Q = (x.length + y.length ≤ sizeLine ∧ Q (.lst (x ++ y))) := rfl
theorem e_sub {i j : Int} : dSub (.int i) (.int j) Q = Q (.int (i - j)) := rfl
theorem e_mul {i j : Int} : dMul (.int i) (.int j) Q = (CMul i j ∧ Q (.int (i * j))) := rfl
theorem e_fdiv {i j : Int} : dFdiv (.int i) (.int j) Q = (CDiv i j ∧ Q (.int (i / j))) := rfl
theorem e_mod {i j : Int} : dMod (.int i) (.int j) Q = (0 < j ∧ Q (.int (i % j))) := rfl
theorem e_pow {i j : Int} : dPow (.int i) (.int j) Q = (CPow i j ∧ Q (.int (i ^ j.toNat))) := rfl
theorem e_neg : xNeg T γ Q = T γ fun x => ∃ i, x = .int i ∧ Q (.int (-i)) := rfl
theorem e_cmp {p : Int → Int → Bool} {i j : Int} : dCmp p (.int i) (.int j) Q = Q (.bl (p i j)) := rfl
theorem e_eqII {n : Bool} {i j : Int} : dEqq n (.int i) (.int j) Q = Q (.bl (n ^^ decide (i = j))) := rfl
theorem e_eqSS {n : Bool} {i j : Str} : dEqq n (.str i) (.str j) Q = Q (.bl (n ^^ decide (i = j))) := rfl
theorem e_eqBB {n : Bool} {i j : Bool} : dEqq n (.bl i) (.bl j) Q = Q (.bl (n ^^ decide (i = j))) := rfl
theorem e_eqNI {n : Bool} {j : Int} : dEqq n .non (.int j) Q = Q (.bl (n ^^ false)) := rfl
theorem e_eqNS {n : Bool} {j : Str} : dEqq n .non (.str j) Q = Q (.bl (n ^^ false)) := rfl
theorem e_isN {n : Bool} {x : D} : dIs n x .non Q = Q (.bl (n ^^ x.isNon)) := propext ⟨fun ⟨_, q⟩ => q, fun q => ⟨rfl, q⟩⟩
theorem e_inL {n : Bool} {x : Str} {ys : List Str} : dIn n (.str x) (.lst (ys.map D.str)) Q = Q (.bl (n ^^ decide (x ∈ ys))) := propext (by
  have e : inS (.str x) (ys.map D.str) = decide (x ∈ ys) := strs_in
  have f : (ys.map D.str).all flatS = true := by rw [List.all_map]; exact List.all_eq_true.mpr fun _ _ => rfl
  constructor
  · intro ⟨_, _, q⟩
    rw [← e]
    exact q
  · intro q
    rw [← e] at q
    exact ⟨rfl, f, q⟩)
theorem e_xI {i : Int} {R : Int → Prop} : (∃ k, D.int i = .int k ∧ R k) = R i := propext ⟨fun ⟨_, h, q⟩ => by cases h; exact q, fun q => ⟨i, rfl, q⟩⟩
theorem e_xB {i : Bool} {R : Bool → Prop} : (∃ k, D.bl i = .bl k ∧ R k) = R i := propext ⟨fun ⟨_, h, q⟩ => by cases h; exact q, fun q => ⟨i, rfl, q⟩⟩
theorem e_xS {i : Str} {R : Str → Prop} : (∃ k, D.str i = .str k ∧ R k) = R i := propext ⟨fun ⟨_, h, q⟩ => by cases h; exact q, fun q => ⟨i, rfl, q⟩⟩
theorem e_xL {i : List D} {R : List D → Prop} : (∃ k, D.lst i = .lst k ∧ R k) = R i := propext ⟨fun ⟨_, h, q⟩ => by cases h; exact q, fun q => ⟨i, rfl, q⟩⟩
theorem e_xT {i : List D} {R : List D → Prop} : (∃ k, D.tup i = .tup k ∧ R k) = R i := propext ⟨fun ⟨_, h, q⟩ => by cases h; exact q, fun q => ⟨i, rfl, q⟩⟩
theorem e_xO {C : Addr} {i : List (Str × D)} {R : List (Str × D) → Prop} : (∃ k, D.obj C i = .obj C k ∧ R k) = R i := propext ⟨fun ⟨_, h, q⟩ => by cases h; exact q, fun q => ⟨i, rfl, q⟩⟩
theorem e_x2 {a b : D} {R : D → D → Prop} : (∃ x y, [a, b] = [x, y] ∧ R x y) = R a b := propext ⟨fun ⟨_, _, h, q⟩ => by cases h; exact q, fun q => ⟨a, b, rfl, q⟩⟩
theorem e_x3 {a b c : D} {R : D → D → D → Prop} : (∃ x y z, [a, b, c] = [x, y, z] ∧ R x y z) = R a b c := propext ⟨fun ⟨_, _, _, h, q⟩ => by cases h; exact q, fun q => ⟨a, b, c, rfl, q⟩⟩
theorem e_xc {a : D} {b : List D} {R : D → List D → Prop} : (∃ x y, a :: b = x :: y ∧ R x y) = R a b := propext ⟨fun ⟨_, _, h, q⟩ => by cases h; exact q, fun q => ⟨a, b, rfl, q⟩⟩
theorem e_xsom {a : D} {R : D → Prop} : (∃ d, some a = some d ∧ R d) = R a := propext ⟨fun ⟨_, h, q⟩ => by cases h; exact q, fun q => ⟨a, rfl, q⟩⟩
/-- a branch by k, not yet walked -/
def Br (k : Bool) (T U : TSD) (E : EndsD) (γ : TL.Env) : Prop := if k = true then T E γ else U E γ
def BrE (k : Bool) (T U : TED) (γ : TL.Env) (Q : D → Prop) : Prop := if k = true then T γ Q else U γ Q
def BrA (k : Bool) (U : TTD) (γ : TL.Env) (Q : Bool → Prop) : Prop := if k = true then U γ Q else Q false
def BrR (k : Bool) (U : TTD) (γ : TL.Env) (Q : Bool → Prop) : Prop := if k = true then Q true else U γ Q
def BrAV (k : Bool) (U : TED) (γ : TL.Env) (Q : D → Prop) : Prop := if k = true then U γ Q else Q (.bl false)
def BrRV (k : Bool) (U : TED) (γ : TL.Env) (Q : D → Prop) : Prop := if k = true then Q (.bl true) else U γ Q
theorem e_if : zIf Tt Z Y E γ = Tt γ fun k => Br k Z Y E γ := rfl
theorem e_ifE : xIf Tt T U γ Q = Tt γ fun k => BrE k T U γ Q := rfl
theorem e_and : xAnd Tt Ut γ QB = Tt γ fun k => BrA k Ut γ QB := rfl
theorem e_or : xOr Tt Ut γ QB = Tt γ fun k => BrR k Ut γ QB := rfl
theorem e_not : xNot Tt γ QB = Tt γ fun k => QB (!k) := rfl
theorem e_andV : xAndV T U γ Q = T γ fun d => ∃ k, d = .bl k ∧ BrAV k U γ Q := rfl
theorem e_orV : xOrV T U γ Q = T γ fun d => ∃ k, d = .bl k ∧ BrRV k U γ Q := rfl
theorem e_notV : xNotV T γ Q = T γ fun d => ∃ k, d = .bl k ∧ Q (.bl (!k)) := rfl
theorem e_BrT : Br true Z Y E γ = Z E γ := propext ⟨fun h => h, fun h => h⟩
theorem e_BrF : Br false Z Y E γ = Y E γ := propext ⟨fun h => h, fun h => h⟩
theorem e_BrET : BrE true T U γ Q = T γ Q := propext ⟨fun h => h, fun h => h⟩
theorem e_BrEF : BrE false T U γ Q = U γ Q := propext ⟨fun h => h, fun h => h⟩
theorem e_BrAT : BrA true Ut γ QB = Ut γ QB := propext ⟨fun h => h, fun h => h⟩
theorem e_BrAF : BrA false Ut γ QB = QB false := propext ⟨fun h => h, fun h => h⟩
theorem e_BrRT : BrR true Ut γ QB = QB true := propext ⟨fun h => h, fun h => h⟩
theorem e_BrRF : BrR false Ut γ QB = Ut γ QB := propext ⟨fun h => h, fun h => h⟩
theorem e_BrAVT : BrAV true U γ Q = U γ Q := propext ⟨fun h => h, fun h => h⟩
theorem e_BrAVF : BrAV false U γ Q = Q (.bl false) := propext ⟨fun h => h, fun h => h⟩
theorem e_BrRVT : BrRV true U γ Q = Q (.bl true) := propext ⟨fun h => h, fun h => h⟩
theorem e_BrRVF : BrRV false U γ Q = U γ Q := propext ⟨fun h => h, fun h => h⟩
theorem brI {k : Bool} (h1 : k = true → Z E γ) (h2 : k = false → Y E γ) : Br k Z Y E γ := by cases k; exact h2 rfl; exact h1 rfl
theorem brE {k : Bool} (h1 : k = true → T γ Q) (h2 : k = false → U γ Q) : BrE k T U γ Q := by cases k; exact h2 rfl; exact h1 rfl
theorem brA {k : Bool} (h1 : k = true → Ut γ QB) (h2 : k = false → QB false) : BrA k Ut γ QB := by cases k; exact h2 rfl; exact h1 rfl
theorem brR {k : Bool} (h1 : k = true → QB true) (h2 : k = false → Ut γ QB) : BrR k Ut γ QB := by cases k; exact h2 rfl; exact h1 rfl
theorem brAV {k : Bool} (h1 : k = true → U γ Q) (h2 : k = false → Q (.bl false)) : BrAV k U γ Q := by cases k; exact h2 rfl; exact h1 rfl
theorem brRV {k : Bool} (h1 : k = true → Q (.bl true)) (h2 : k = false → U γ Q) : BrRV k U γ Q := by cases k; exact h2 rfl; exact h1 rfl
theorem e_B : TL.xB T γ QB = T γ fun d => ∃ k, d = .bl k ∧ QB k := rfl
theorem e_tru : xTru T γ QB = T γ fun d => dTru d QB := rfl
theorem e_truN : dTru .non QB = QB false := rfl
theorem e_truB {b : Bool} : dTru (.bl b) QB = QB b := rfl
theorem e_truI {i : Int} : dTru (.int i) QB = QB (i != 0) := rfl
theorem e_truS {y : Str} : dTru (.str y) QB = (y.length ≤ sizeLine ∧ QB ((y.length : Int) != 0)) := rfl
theorem e_truL {xs : List D} : dTru (.lst xs) QB = QB (!xs.isEmpty) := rfl
theorem e_truT {xs : List D} : dTru (.tup xs) QB = QB (!xs.isEmpty) := rfl
theorem e_chain {r r' : OpD} : xChain r r' T U W γ Q = T γ fun x => U γ fun y => r x y fun z => ∃ k, z = .bl k ∧ BrE k (fun γ Q => W γ fun z' => r' y z' Q) (fun _ Q => Q (.bl false)) γ Q := rfl
theorem e_bi {rd : ClD} : xBi rd A γ Q = A γ fun ds => rd ds Q := rfl
theorem e_lenS {y : Str} : dLen [.str y] Q = (y.length ≤ sizeLine ∧ Q (.int (y.length : Int))) := rfl
theorem e_lenL {y : List D} : dLen [.lst y] Q = Q (.int (y.length : Int)) := rfl
theorem e_lenT {y : List D} : dLen [.tup y] Q = Q (.int (y.length : Int)) := rfl
theorem e_seq : xSeq A γ QL = A γ fun ds => dSeq ds QL := rfl
theorem e_tupOf : xTupOf A γ Q = A γ fun ds => dSeq ds fun ys => Q (.tup ys) := rfl
theorem e_seqL {y : List D} : dSeq [.lst y] QL = QL y := rfl
theorem e_seqT {y : List D} : dSeq [.tup y] QL = QL y := rfl
theorem e_boolI {i : Int} : dBool [.int i] Q = Q (.bl (i != 0)) := rfl
theorem e_boolB {i : Bool} : dBool [.bl i] Q = Q (.bl i) := rfl
theorem e_intI {i : Int} : dInt [.int i] Q = Q (.int i) := rfl
theorem e_strI {i : Int} : dStrI [.int i] Q = (i.natAbs.log2 < 1920 ∧ Q (.str (toString i))) := rfl
theorem e_min2 {i j : Int} : dMin2 [.int i, .int j] Q = Q (.int (if j < i then j else i)) := rfl
theorem e_all {xs : List D} : dAll [.lst xs] Q = dBools xs fun bs => Q (.bl (bs.all id)) := rfl
theorem e_ixL {xs : List D} {i : Int} : dIx (.lst xs) (.int i) Q = ∃ d, atI xs i = some d ∧ Q d := rfl
theorem e_ixT {xs : List D} {i : Int} : dIx (.tup xs) (.int i) Q = ∃ d, atI xs i = some d ∧ Q d := rfl
theorem e_ixS {z : Str} {i : Int} : dIx (.str z) (.int i) Q = (z.length ≤ sizeLine ∧ ∃ k, atI z.cps.toList i = some k ∧ Q (.str ⟨#[k]⟩)) := rfl
theorem atN {α : Type} {xs : List α} {j : Nat} {x : α} (h : xs[j]? = some x) : atI xs (j : Int) = some x := by
  have hj := (List.getElem?_eq_some_iff.mp h).1
  unfold atI ixN
  rw [if_pos (by omega), if_pos (by omega), Int.toNat_natCast]
  exact h
theorem at0 {α : Type} {x : α} {xs : List α} : atI (x :: xs) 0 = some x := atN (j := 0) rfl
theorem at1 {α : Type} {x y : α} {xs : List α} : atI (x :: y :: xs) 1 = some y := atN (j := 1) rfl
theorem at2 {α : Type} {x y z : α} {xs : List α} : atI (x :: y :: z :: xs) 2 = some z := atN (j := 2) rfl
theorem at3 {α : Type} {x y z v : α} {xs : List α} : atI (x :: y :: z :: v :: xs) 3 = some v := atN (j := 3) rfl
theorem e_at0 {x : D} {xs : List D} {R : D → Prop} : (∃ d, atI (x :: xs) 0 = some d ∧ R d) = R x := by rw [at0, e_xsom]
theorem e_at1 {x y : D} {xs : List D} {R : D → Prop} : (∃ d, atI (x :: y :: xs) 1 = some d ∧ R d) = R y := by rw [at1, e_xsom]
theorem e_at2 {x y z : D} {xs : List D} {R : D → Prop} : (∃ d, atI (x :: y :: z :: xs) 2 = some d ∧ R d) = R z := by rw [at2, e_xsom]
theorem e_noPart : xNoPart γ QO = QO none := rfl
theorem e_part : xPart T γ QO = T γ fun d => ∃ i, d = .int i ∧ QO (some i) := rfl
theorem e_sl : xSl T To Th γ Q = T γ fun x => To γ fun lo => Th γ fun hi => dSl lo hi x Q := rfl
theorem e_slL {lo hi : Option Int} {ds : List D} : dSl lo hi (.lst ds) Q = Q (.lst (cutD ds lo hi)) := rfl
theorem e_slS {lo hi : Option Int} {z : Str} : dSl lo hi (.str z) Q = (z.length ≤ sizeLine ∧ Q (.str (cutS z lo hi))) := rfl
theorem e_range1 : xRange1 T γ QL = T γ fun d => ∃ j : Int, d = .int j ∧ -(2 ^ 62) ≤ j ∧ j < 2 ^ 62 ∧ QL (rangeD 0 j.toNat) := rfl
theorem e_zip : xZip A γ QL = A γ fun ds => ∃ xs ys, ds = [.lst xs, .lst ys] ∧ QL ((xs.zip ys).map fun p => .tup [p.1, p.2]) := rfl
theorem e_isi1 {d : D} {n : String} : dIsi [d, .ty n] Q = ∃ s t : Ty6, d.ty6 = some s ∧ t ≠ .non ∧ n = Ty6.name t ∧ Q (.bl (s.isa t)) := by
  unfold dIsi
  rfl
theorem e_isCo {C : Addr} {fs : List (Str × D)} : dIsC C [.obj C fs, .adr C] Q = Q (.bl true) := propext ⟨fun h => h.2.2, fun h => ⟨rfl, rfl, h⟩⟩
theorem e_isCs {C : Addr} {x : Str} : dIsC C [.str x, .adr C] Q = Q (.bl false) := propext ⟨fun h => h.2, fun h => ⟨rfl, h⟩⟩
theorem e_fld {C : Addr} {f : Str} : xFld C f T γ Q = T γ fun d => ∃ fs v, d = .obj C fs ∧ fs.lookup f = some v ∧ Q v := rfl
theorem e_xfld {C : Addr} {gs : List (Str × D)} {R : List (Str × D) → D → Prop} : (∃ fs v, D.obj C gs = .obj C fs ∧ R fs v) = ∃ v, R gs v := propext ⟨fun ⟨_, v, h, q⟩ => by cases h; exact ⟨v, q⟩, fun ⟨v, q⟩ => ⟨gs, v, rfl, q⟩⟩
theorem e_split : xSplit T U γ QL = T γ fun x => ∃ a, x = .str a ∧ U γ fun y => ∃ b, y = .str b ∧ (b.length == 0) = false ∧ a.length + 2 ≤ sizeLine ∧ QL ((Txt.split a b).map D.str) := rfl
theorem e_join : xJoin T U γ Q = T γ fun x => ∃ a, x = .str a ∧ U γ fun y => ∃ ys : List Str, (y = .lst (ys.map D.str) ∨ y = .tup (ys.map D.str)) ∧ (ys.map (·.length)).sum + ys.length * a.length ≤ 16777216 ∧ Q (.str (Txt.join a ys)) := rfl
theorem e_fmt : xFmt T γ Q = T γ fun x => (∃ y : Str, x = .str y ∧ y.length ≤ sizeLine ∧ Q (.str y)) ∨ ∃ i : Int, x = .int i ∧ i.natAbs.log2 < 1920 ∧ Q (.str (toString i)) := rfl
theorem e_fmtS {x : Str} {R : Str → Prop} {R3 : Int → Prop} : ((∃ y : Str, D.str x = .str y ∧ R y) ∨ ∃ i : Int, D.str x = .int i ∧ R3 i) = R x := propext ⟨fun h => by rcases h with ⟨_, h, q⟩ | ⟨_, h, _⟩ <;> cases h; exact q, fun q => .inl ⟨x, rfl, q⟩⟩
theorem e_fmtI {x : Int} {R : Str → Prop} {R3 : Int → Prop} : ((∃ y : Str, D.int x = .str y ∧ R y) ∨ ∃ i : Int, D.int x = .int i ∧ R3 i) = R3 x := propext ⟨fun h => by rcases h with ⟨_, h, _⟩ | ⟨_, h, q⟩ <;> cases h; exact q, fun q => .inr ⟨x, rfl, q⟩⟩
theorem e_js0 {acc : Str} : xJs [] acc γ Q = Q (.str acc) := rfl
theorem e_jsS {t : TED} {ts : List TED} {acc : Str} : xJs (t :: ts) acc γ Q = t γ fun x => ∃ y : Str, x = .str y ∧ (acc ++ y).length ≤ sizeLine ∧ xJs ts (acc ++ y) γ Q := rfl
theorem e_lenSet : xLenSet T γ Q = T γ fun d => ∃ ys : List Str, d = .lst (ys.map D.str) ∧ ys.length + 1 < scanBound ∧ Q (.int (dc ys ys.length : Nat)) := rfl
theorem e_yName {i : Nat} {d : D} : yName i d γ QE = QE (γ.set i (some (.val d))) := rfl
theorem e_yNil {ds : List D} : yNil ds γ QE = (ds = [] ∧ QE γ) := rfl
theorem e_yNil0 : yNil [] γ QE = QE γ := propext ⟨fun h => h.2, fun h => ⟨rfl, h⟩⟩
theorem e_yCons {d : D} {ds : List D} : yCons G Gs (d :: ds) γ QE = G d γ fun γ' => Gs ds γ' QE := propext ⟨fun ⟨_, _, h, q⟩ => by cases h; exact q, fun q => ⟨d, ds, rfl, q⟩⟩
theorem e_yTup {n : Nat} {ds : List D} : yTup n Gs (.tup ds) γ QE = (ds.length = n ∧ Gs ds γ QE) := propext ⟨fun ⟨_, h, q⟩ => by cases h; exact q, fun q => ⟨ds, rfl, q⟩⟩
theorem e_yLst {n : Nat} {ds : List D} : yLst n Gs (.lst ds) γ QE = (ds.length = n ∧ Gs ds γ QE) := propext ⟨fun ⟨_, h, q⟩ => by cases h; exact q, fun q => ⟨ds, rfl, q⟩⟩
theorem e_yStar {d : D} {ds : List D} : yStar Gs (.lst (d :: ds)) γ QE = Gs [d, .lst ds] γ QE := propext ⟨fun ⟨_, _, h, q⟩ => by cases h; exact q, fun q => ⟨d, ds, rfl, q⟩⟩
theorem e_next : zNext E γ = E.nx γ := rfl
theorem e_zseq : zSeq Z Y E γ = Z { E with nx := Y E } γ := rfl
theorem e_ret : zRet T E γ = T γ E.rt := rfl
theorem e_set {i : Nat} : zSet i T E γ = T γ fun d => E.nx (γ.set i (some (.val d))) := rfl
theorem e_setO {i : Nat} : zSetO i A E γ = A γ fun ds => E.nx (γ.set i (some (.own ds))) := rfl
theorem e_drop : zDrop T E γ = T γ fun _ => E.nx γ := rfl
theorem e_asg : zAsg T G E γ = T γ fun d => G d γ E.nx := rfl
theorem e_par {i j : Nat} : zPar i j A E γ = A γ fun ds => ∃ d d', ds = [d, d'] ∧ E.nx ((γ.set i (some (.val d))).set j (some (.val d'))) := rfl
theorem e_par3 {i j l : Nat} : zPar3 i j l A E γ = A γ fun ds => ∃ d d' d2, ds = [d, d', d2] ∧ E.nx (((γ.set i (some (.val d))).set j (some (.val d'))).set l (some (.val d2))) := rfl
theorem e_for {Ti : TAD} : zFor Ti G Z E γ = Ti γ fun ds => forD Z G E ds γ := rfl
theorem e_for0 : forD Z G E [] γ = E.nx γ := rfl
theorem e_forS {d : D} {ds : List D} : forD Z G E (d :: ds) γ = G d γ fun γ' => Z { nx := forD Z G E ds, rt := E.rt, bk := E.nx, ct := forD Z G E ds } γ' := rfl
theorem e_fg {i : Nat} : zFg i Z E γ = Z E (γ.set i none) := rfl
theorem e_brk : zBreak E γ = E.bk γ := rfl
theorem e_cont : zCont E γ = E.ct γ := rfl
theorem e_call {S : SpD} {Wx : XD → TL.Env → Prop} : xCall S Wx A γ Q = A γ fun ds => S ds Q fun x => Wx x γ := rfl
theorem e_callB {S : SpD} {Wx : XD → TL.Env → Prop} : xCallB S Wx A γ Q = A γ fun ds => S ds Q fun x => Wx x γ ∧ x.fs.all (fun q => q.2.flat) = true := rfl
theorem e_raise {C : Addr} {k0 k1 code : Str} {Wx : XD → TL.Env → Prop} : zRaise C k0 k1 code Wx A E γ = A γ fun ds => ∃ x y, ds = [x, y] ∧ Wx ⟨C, exFs D.str k0 k1 code x y⟩ γ := rfl
theorem e_zfld {i : Nat} {C : Addr} {f : Str} : zFld i C f T E γ = T γ fun d => ∃ a gs, γ[i]? = some (some (.ins (a, C) gs)) ∧ gs.length < 1000 ∧ E.nx (γ.set i (some (.ins (a, C) (putD f d gs)))) := rfl
theorem e_xins {C a0 : Addr} {gs : List (Str × D)} {R : Addr → List (Str × D) → Prop} : (∃ a hs, some (some (Slot.ins (a0, C) gs)) = some (some (Slot.ins (a, C) hs)) ∧ R a hs) = R a0 gs := propext ⟨fun ⟨_, _, h, q⟩ => by cases h; exact q, fun q => ⟨a0, gs, rfl, q⟩⟩
theorem e_xins1 {C : Addr × Addr} {gs : List (Str × D)} {R : List (Str × D) → Prop} : (∃ hs, some (some (Slot.ins C gs)) = some (some (Slot.ins C hs)) ∧ R hs) = R gs := propext ⟨fun ⟨_, h, q⟩ => by cases h; exact q, fun q => ⟨gs, rfl, q⟩⟩
theorem e_make {C : Addr} {S : SpDI} {dd : List D} {Wx : XD → TL.Env → Prop} : xMake C S dd Wx A γ Q = A γ fun ds => S (ds ++ dd) (fun gs => Q (.obj C gs)) fun x => Wx x γ := rfl
theorem e_makeK {C : Addr} {S : SpDI} {dd : List D} {n : Nat} {Wx : XD → TL.Env → Prop} : xMakeK C S dd n Wx A γ Q = A γ fun ds => ds.length = n ∧ S (ds ++ dd) (fun gs => Q (.obj C gs)) fun x => Wx x γ := rfl
theorem e_meth {C : Addr} {m : Str} {S : SpD} {Wx : XD → TL.Env → Prop} : xMeth C m S Wx T A γ Q = T γ fun o => ∃ gs, o = .obj C gs ∧ gs.lookup m = none ∧ A γ fun ds => S (o :: ds) Q fun x => Wx x γ := rfl
theorem e_app0 {xs : List D} : zApp 0 T E (some (.own xs) :: γ) = T (some (.own xs) :: γ) fun d => xs.length < sizeLine ∧ E.nx (some (.own (xs ++ [d])) :: γ) := propext ⟨fun ⟨_, h, q⟩ => by cases h; exact q, fun q => ⟨xs, rfl, q⟩⟩
theorem e_app {i : Nat} : zApp i T E γ = ∃ xs, γ[i]? = some (some (.own xs)) ∧ T γ fun d => xs.length < sizeLine ∧ E.nx (γ.set i (some (.own (xs ++ [d])))) := rfl
theorem e_own {xs : List D} {R : List D → Prop} : (∃ ys, some (some (Slot.own xs)) = some (some (.own ys)) ∧ R ys) = R xs := propext ⟨fun ⟨_, h, q⟩ => by cases h; exact q, fun q => ⟨xs, rfl, q⟩⟩
theorem e_envOf {N : List Str} {ds : List D} : envOf N ds = ds.map (fun d => some (Slot.val d)) ++ List.replicate (N.length - ds.length) none := rfl
theorem e_get0 {α : Type} {x : α} {xs : List α} : (x :: xs)[0]? = some x := rfl
theorem e_getS {α : Type} {x : α} {xs : List α} {i : Nat} : (x :: xs)[i + 1]? = xs[i]? := rfl
theorem e_set0 {α : Type} {x y : α} {xs : List α} : (x :: xs).set 0 y = y :: xs := rfl
theorem e_setS {α : Type} {x y : α} {xs : List α} {i : Nat} : (x :: xs).set (i + 1) y = x :: xs.set i y := rfl
theorem e_xF {b : Bool} : (false ^^ b) = b := by cases b <;> rfl
theorem e_xT' {b : Bool} : (true ^^ b) = !b := by cases b <;> rfl
end
end TL
set_option Elab.async false
set_option linter.all false
set_option maxRecDepth 100000
set_option maxHeartbeats 2000000
namespace TL
open PySem L2 PySem.Spec PyProof.Rows RZ
/-- a tuple's values -/
theorem Rep.tupT {K : PySem.W.Frag} {B a : Addr} {M : Addr → Prop} {H : Hp} {ds : List D} (r : Rep K B M H (.ref a) (.tup ds)) : ∃ vs, SqT K H a vs ∧ Reps K B M H vs ds := by
  cases r with
  | tup n h s => exact ⟨_, SqT.of h, s⟩
  | tupK h s => exact ⟨_, .inr h, s⟩
theorem src_zipT {K : PySem.W.Frag} {B a b : Addr} {xs ys : List D} : SrcOk K B (ItzT K a b) [(.ref a, .tup xs), (.ref b, .tup ys)] ((xs.zip ys).map fun p => .tup [p.1, p.2]) := fun M H al hg => by
  obtain ⟨us, h, s⟩ := (hg (.ref a, .tup xs) (by simp)).tupT
  obtain ⟨ws, h', s'⟩ := (hg (.ref b, .tup ys) (by simp)).tupT
  refine ⟨fun i d hd => ?_, fun i hi => ⟨_, _, h, h', ?_⟩⟩
  · rw [List.getElem?_map] at hd
    cases e : (xs.zip ys)[i]? with
    | none =>
      rw [e] at hd
      cases hd
    | some q =>
      rw [e] at hd
      cases hd
      obtain ⟨e1, e2⟩ := List.getElem?_zip_eq_some.mp e
      obtain ⟨v, h1, r1⟩ := s.get e1
      obtain ⟨u, h2, r2⟩ := s'.get e2
      refine ⟨⟨_, _, v, u, h, h', h1, h2⟩, fun x H' y => ?_⟩
      obtain ⟨t, x1, y1, e3, ht, e4, f1, f2⟩ := y
      subst e3 e4
      have z1 := f1 _ h
      have z2 := f2 _ h'
      rw [h1] at z1
      rw [h2] at z2
      cases z1
      cases z2
      have g : ∀ a o, ¬ M a → H a = some o → ¬ M a ∧ upd H t (.tup [v, u]) a = some o := fun a o n h => ⟨n, by rw [upd_ne (ne_of_none h ht)]; exact h⟩
      exact ⟨.inr ⟨t, _, ht, rfl⟩, .tup (fun m => al t m ht) upd_same (.cons (r1.mono g) (.cons (r2.mono g) .nil))⟩
  · rw [s.length, s'.length]
    rw [List.length_map, List.length_zip] at hi
    omega
def xZipA (U : TAD) : TAD := fun γ Q => U γ fun ds => ∃ xs ys, (ds = [.lst xs, .lst ys] ∨ ds = [.tup xs, .tup ys]) ∧ Q ((xs.zip ys).map fun p => .tup [p.1, p.2])
section
variable {X : Cx} {c : Ct} {e e2 : Expr} {V1 : TAD} {p pos : Pos}
theorem xi_zipA {elts : List Expr} {kk : Nat} {tpos : Pos} (hK : c.K = X.K) (hm : X.mg "zip" = none) (ha : PA X [e, e2] (LA c true V1)) (hg : Gl X "zip" := by rfl)
    (hs : starEach [e, e2] X.env = (false, eval e X.env) :: starEach [e2] X.env := by rfl) (hpl : (backTo pos (starEach [e2] X.env)).any (·.1) = false := by rfl) : PI X (.Tuple elts kk tpos) (.Call (.Name "zip" p) [e, e2] [] pos) (LI c (xZipA V1)) :=
  pi_imp (pi_zipA hg hm ha hs hpl) fun _ _ σ H R I q => by
    obtain ⟨gh, γ, Qd, S, q1, k⟩ := q
    refine ⟨gh, γ, _, S, q1, fun ds vs H' h1 r S' x => ?_⟩
    obtain ⟨xs, ys, e1, h1⟩ := h1
    rw [← hK]
    rcases e1 with e1 | e1
    · subst e1
      cases r with
      | cons r1 r2 =>
        cases r2 with
        | cons r2 r3 =>
          cases r3
          cases r1 with
          | lst n h s =>
            cases r2 with
            | lst n' h' s' =>
              refine ⟨_, _, _, _, rfl, .inl ⟨SqL.of h, SqL.of h', k _ _ _ H' h1 src_zip (fun p hp => ?_) S' x⟩⟩
              rcases List.mem_cons.mp hp with e | hp
              · subst e
                exact .lst n h s
              · rw [List.mem_singleton] at hp
                subst hp
                exact .lst n' h' s'
    · subst e1
      cases r with
      | @cons v1 _ _ _ r1 r2 =>
        cases r2 with
        | @cons v2 _ _ _ r2 r3 =>
          cases r3
          obtain ⟨a, ea⟩ : ∃ a, v1 = .ref a := by cases r1 <;> exact ⟨_, rfl⟩
          obtain ⟨b, eb⟩ : ∃ b, v2 = .ref b := by cases r2 <;> exact ⟨_, rfl⟩
          subst ea eb
          obtain ⟨us, h, s⟩ := r1.tupT
          obtain ⟨ws, h', s'⟩ := r2.tupT
          refine ⟨_, _, _, _, rfl, .inr ⟨h, h', k _ _ _ H' h1 src_zipT (fun p hp => ?_) S' x⟩⟩
          rcases List.mem_cons.mp hp with e | hp
          · subst e
            exact r1
          · rw [List.mem_singleton] at hp
            subst hp
            exact r2
end
theorem e_zipA {A : TAD} {γ : TL.Env} {QL : List D → Prop} : xZipA A γ QL = A γ fun ds => ∃ xs ys, (ds = [.lst xs, .lst ys] ∨ ds = [.tup xs, .tup ys]) ∧ QL ((xs.zip ys).map fun p => .tup [p.1, p.2]) := rfl
theorem e_lc {Ti : TAD} {G : TGD} {Tt : TTD} {Te : TED} {vs : List Nat} {γ : TL.Env} {QL : List D → Prop} : xLc Ti G Tt Te vs γ QL = Ti γ fun ds => ds.length < sizeLine ∧ wipeD γ vs = γ ∧ lcD G Tt Te γ ds [] QL := rfl

section
variable {Q : D → Prop}
theorem ty6_inj : ∀ t t' : Ty6, Ty6.name t = Ty6.name t' → t = t' := by
  intro t t' h
  cases t <;> cases t' <;> first | rfl | (revert h; decide)
theorem isi_t {d : D} {s t : Ty6} (h : d.ty6 = some s) (ht : t ≠ .non) : dIsi [d, .ty t.name] Q = Q (.bl (s.isa t)) := by
  rw [e_isi1]
  refine propext ⟨fun ⟨s', t', h1, h2, h3, q⟩ => ?_, fun q => ⟨s, t, h, ht, rfl, q⟩⟩
  rw [h] at h1
  cases h1
  cases ty6_inj _ _ h3
  exact q
theorem isi_u {d : D} {s : Ty6} (h : d.ty6 = some s) : dIsi [d, .tup [.ty "list", .ty "tuple"]] Q = Q (.bl (s.isa .lst || s.isa .tup)) := by
  refine propext ⟨fun z => ?_, fun q => ?_⟩
  · unfold dIsi at z
    obtain ⟨s', ts, h1, h2, h3, q⟩ := z
    rw [h] at h1
    cases h1
    match ts, h3 with
    | [a, b], h3 =>
      simp only [List.map_cons, List.map_nil, List.cons.injEq, D.ty.injEq, and_true] at h3
      have ea : a = .lst := (ty6_inj .lst a h3.1).symm
      have eb : b = .tup := (ty6_inj .tup b h3.2).symm
      subst ea eb
      simpa using q
    | [], h3 => simp at h3
    | [a], h3 => simp at h3
    | _ :: _ :: _ :: _, h3 => simp at h3
  · unfold dIsi
    exact ⟨s, [.lst, .tup], h, by decide, rfl, by simpa using q⟩
theorem e_isiI_list {i : Int} : dIsi [.int i, .ty "list"] Q = Q (.bl false) := isi_t (s := .int) (t := .lst) rfl (by decide)
theorem e_isiI_tuple {i : Int} : dIsi [.int i, .ty "tuple"] Q = Q (.bl false) := isi_t (s := .int) (t := .tup) rfl (by decide)
theorem e_isiI_bool {i : Int} : dIsi [.int i, .ty "bool"] Q = Q (.bl false) := isi_t (s := .int) (t := .bl) rfl (by decide)
theorem e_isiI_str {i : Int} : dIsi [.int i, .ty "str"] Q = Q (.bl false) := isi_t (s := .int) (t := .str) rfl (by decide)
theorem e_isiI_int {i : Int} : dIsi [.int i, .ty "int"] Q = Q (.bl true) := isi_t (s := .int) (t := .int) rfl (by decide)
theorem e_isiI_u {i : Int} : dIsi [.int i, .tup [.ty "list", .ty "tuple"]] Q = Q (.bl false) := isi_u (s := .int) rfl
theorem e_isiB_list {b : Bool} : dIsi [.bl b, .ty "list"] Q = Q (.bl false) := isi_t (s := .bl) (t := .lst) rfl (by decide)
theorem e_isiB_tuple {b : Bool} : dIsi [.bl b, .ty "tuple"] Q = Q (.bl false) := isi_t (s := .bl) (t := .tup) rfl (by decide)
theorem e_isiB_bool {b : Bool} : dIsi [.bl b, .ty "bool"] Q = Q (.bl true) := isi_t (s := .bl) (t := .bl) rfl (by decide)
theorem e_isiB_str {b : Bool} : dIsi [.bl b, .ty "str"] Q = Q (.bl false) := isi_t (s := .bl) (t := .str) rfl (by decide)
theorem e_isiB_int {b : Bool} : dIsi [.bl b, .ty "int"] Q = Q (.bl true) := isi_t (s := .bl) (t := .int) rfl (by decide)
theorem e_isiB_u {b : Bool} : dIsi [.bl b, .tup [.ty "list", .ty "tuple"]] Q = Q (.bl false) := isi_u (s := .bl) rfl
theorem e_isiS_list {x : Str} : dIsi [.str x, .ty "list"] Q = Q (.bl false) := isi_t (s := .str) (t := .lst) rfl (by decide)
theorem e_isiS_tuple {x : Str} : dIsi [.str x, .ty "tuple"] Q = Q (.bl false) := isi_t (s := .str) (t := .tup) rfl (by decide)
theorem e_isiS_bool {x : Str} : dIsi [.str x, .ty "bool"] Q = Q (.bl false) := isi_t (s := .str) (t := .bl) rfl (by decide)
theorem e_isiS_str {x : Str} : dIsi [.str x, .ty "str"] Q = Q (.bl true) := isi_t (s := .str) (t := .str) rfl (by decide)
theorem e_isiS_int {x : Str} : dIsi [.str x, .ty "int"] Q = Q (.bl false) := isi_t (s := .str) (t := .int) rfl (by decide)
theorem e_isiS_u {x : Str} : dIsi [.str x, .tup [.ty "list", .ty "tuple"]] Q = Q (.bl false) := isi_u (s := .str) rfl
theorem e_isiL_list {xs : List D} : dIsi [.lst xs, .ty "list"] Q = Q (.bl true) := isi_t (s := .lst) (t := .lst) rfl (by decide)
theorem e_isiL_tuple {xs : List D} : dIsi [.lst xs, .ty "tuple"] Q = Q (.bl false) := isi_t (s := .lst) (t := .tup) rfl (by decide)
theorem e_isiL_bool {xs : List D} : dIsi [.lst xs, .ty "bool"] Q = Q (.bl false) := isi_t (s := .lst) (t := .bl) rfl (by decide)
theorem e_isiL_str {xs : List D} : dIsi [.lst xs, .ty "str"] Q = Q (.bl false) := isi_t (s := .lst) (t := .str) rfl (by decide)
theorem e_isiL_int {xs : List D} : dIsi [.lst xs, .ty "int"] Q = Q (.bl false) := isi_t (s := .lst) (t := .int) rfl (by decide)
theorem e_isiL_u {xs : List D} : dIsi [.lst xs, .tup [.ty "list", .ty "tuple"]] Q = Q (.bl true) := isi_u (s := .lst) rfl
theorem e_isiT_list {xs : List D} : dIsi [.tup xs, .ty "list"] Q = Q (.bl false) := isi_t (s := .tup) (t := .lst) rfl (by decide)
theorem e_isiT_tuple {xs : List D} : dIsi [.tup xs, .ty "tuple"] Q = Q (.bl true) := isi_t (s := .tup) (t := .tup) rfl (by decide)
theorem e_isiT_bool {xs : List D} : dIsi [.tup xs, .ty "bool"] Q = Q (.bl false) := isi_t (s := .tup) (t := .bl) rfl (by decide)
theorem e_isiT_str {xs : List D} : dIsi [.tup xs, .ty "str"] Q = Q (.bl false) := isi_t (s := .tup) (t := .str) rfl (by decide)
theorem e_isiT_int {xs : List D} : dIsi [.tup xs, .ty "int"] Q = Q (.bl false) := isi_t (s := .tup) (t := .int) rfl (by decide)
theorem e_isiT_u {xs : List D} : dIsi [.tup xs, .tup [.ty "list", .ty "tuple"]] Q = Q (.bl true) := isi_u (s := .tup) rfl
theorem e_nonI {i : Int} : (D.int i).isNon = false := rfl
theorem e_nonB {i : Bool} : (D.bl i).isNon = false := rfl
theorem e_nonS {i : Str} : (D.str i).isNon = false := rfl
theorem e_nonL {i : List D} : (D.lst i).isNon = false := rfl
theorem e_nonT {i : List D} : (D.tup i).isNon = false := rfl
theorem e_nonN : (D.non).isNon = true := rfl
theorem e_nonO {C : Addr} {fs : List (Str × D)} : (D.obj C fs).isNon = false := rfl
end
theorem sl_0 : (0 ≤ sizeLine) = True := by rw [sizeLine_eq]; simp
theorem sl_1 : (1 ≤ sizeLine) = True := by rw [sizeLine_eq]; simp
theorem sl_2 : (2 ≤ sizeLine) = True := by rw [sizeLine_eq]; simp
theorem sl_3 : (3 ≤ sizeLine) = True := by rw [sizeLine_eq]; simp
theorem sl_4 : (4 ≤ sizeLine) = True := by rw [sizeLine_eq]; simp
theorem sl_5 : (5 ≤ sizeLine) = True := by rw [sizeLine_eq]; simp
theorem sl_6 : (6 ≤ sizeLine) = True := by rw [sizeLine_eq]; simp
theorem sl_7 : (7 ≤ sizeLine) = True := by rw [sizeLine_eq]; simp
theorem sl_8 : (8 ≤ sizeLine) = True := by rw [sizeLine_eq]; simp
theorem sl_9 : (9 ≤ sizeLine) = True := by rw [sizeLine_eq]; simp
theorem sl_10 : (10 ≤ sizeLine) = True := by rw [sizeLine_eq]; simp
theorem sl_11 : (11 ≤ sizeLine) = True := by rw [sizeLine_eq]; simp
theorem sl_12 : (12 ≤ sizeLine) = True := by rw [sizeLine_eq]; simp
theorem sl_13 : (13 ≤ sizeLine) = True := by rw [sizeLine_eq]; simp
theorem sl_14 : (14 ≤ sizeLine) = True := by rw [sizeLine_eq]; simp
theorem sl_15 : (15 ≤ sizeLine) = True := by rw [sizeLine_eq]; simp
theorem sl_16 : (16 ≤ sizeLine) = True := by rw [sizeLine_eq]; simp
end TL
set_option Elab.async false
set_option linter.all false
set_option maxRecDepth 100000
set_option maxHeartbeats 2000000
namespace TL
open PySem L2 PySem.Spec PyProof.Rows
/-- the def x where an exception is handled: its promise, and that it is found and bound -/
def CalH (P : Program) (w : World) (K : PySem.W.Frag) (mg : Str → Option Value) (base : Heap) (x : Str) (ps : List Str) (n : Nat) (S : SpD) : Prop :=
  ∃ (f : Addr) (fd : FuncData), FnHq (fun _ => True) P w K mg base (L2N.CX P w) n f fd ps (spD K S) ∧ mg x = some (.ref f) ∧ PySem.W.keepIn K (.ref f) = true ∧ Binds K fd ps []
section
variable {X : Cx} {c : Ct} {W : WX} {Wx : XD → TL.Env → Prop} {x : Str} {ps : List Str} {n k : Nat} {S : SpD} {e : Expr} {es : List Expr} {U : TAD} {p pos : Pos}
theorem xd_calW (hK : c.K = X.K) (hc : L2H.HotC X) (C : CalH X.prog X.w X.K X.mg X.base x ps n S) (hr : L2H.RoomH k X.A) (tk : L2N.Takes X W) (hW : WRel c Wx W) (ha : PA X (e :: es) (LA c true U)) (hle : n ≤ k := by decide) (hg : Gl X x := by rfl) (hdb : (x == ("__debug__" : Str)) = false := by decide)
    (he : starEach (e :: es) X.env = (false, eval e X.env) :: starEach es X.env := by rfl) (hpl : (backTo pos (starEach es X.env)).any (·.1) = false := by rfl) : PE X (.Call (.Name x p) (e :: es) [] pos) (LE c true (xCall S Wx U)) := by
  obtain ⟨f, fd, F, m, kp, b⟩ := C
  obtain ⟨q, hot, hq⟩ := hc
  exact xd_callH (by rw [hK]; exact F) (hr.mono hle) hot trivial hq tk hW m kp b ha hg hdb he hpl
end
section
variable {P : Program} {wd : World} {K : PySem.W.Frag} {mg : Str → Option Value} {base : Heap} {x : Str} {st : Stmt} {N ps : List Str} {k : Nat} {S : SpD}
theorem calH_of {T : (XD → Prop) → TSD} (D : DefAt K mg x ps st) (Sc : FnScope N ps (defScope st)) (len : ∀ ds Q E, S ds Q E → ds.length = ps.length)
    (hd : ∀ (f : Addr) (cdv : Value) (A : Around) (outer : List PySem.Env) (s : Shared) (H : Hp) (E : XK) (p : Addr × Obj) (c : Ct) (Ed : XD → Prop), L2H.Hot1 A p → L2H.RoomH k (A.deeper (envOfC x (defScope st) s.heap.objs.size f cdv)) → c.K = K →
      L2N.Takes (cxB false [p] (L2N.CX P wd) P wd K mg base N x (defScope st) f cdv A outer s H E) (wOf E) → WRel c (fun x _ => Ed x) (wOf E) → PSs (cxB false [p] (L2N.CX P wd) P wd K mg base N x (defScope st) f cdv A outer s H E) (defBody st) (LS0 c (T Ed)))
    (hs : ∀ ds Qd Ed, S ds Qd Ed → T Ed { nx := fun _ => Qd .non, rt := Qd } (envOf N ds)) : CalH P wd K mg base x ps (k + 1) S := by
  obtain ⟨f, fd, F, m, b⟩ := D
  exact ⟨f, fd, fnH0 F Sc len (fun cdv A outer s H E p c Ed hot _ => hd f cdv A outer s H E p c Ed hot) hs, m, F.kp, b⟩
theorem room_unitsH {k : Nat} {A : Around} (r : L2H.RoomH k A) : A.units + 64 < cLine := by have := r.un; omega
theorem cal_none (D : DefAt K mg x ps st) (n : Nat) : Cal P wd K mg base x ps n (fun _ _ _ => False) := by
  obtain ⟨f, fd, F, m, b⟩ := D
  refine ⟨f, fd, ⟨fun vs H Q E h => ?_, fun A outer s H args us vs Q E hr he hb hv h => ?_⟩, m, F.kp, b⟩
  all_goals
    obtain ⟨_, _, _, _, _, _, _, _, _, _, _, h, _⟩ := h
    exact h.elim
theorem calH_none (D : DefAt K mg x ps st) (n : Nat) : CalH P wd K mg base x ps n (fun _ _ _ => False) := by
  obtain ⟨f, fd, F, m, b⟩ := D
  refine ⟨f, fd, ⟨fun vs H Q E h => ?_, fun A outer s H args us vs Q E p hr h1 h2 h3 he hb hv h => ?_⟩, m, F.kp, b⟩
  all_goals
    obtain ⟨_, _, _, _, _, _, _, _, _, _, _, h, _⟩ := h
    exact h.elim
theorem Cal.imp {n : Nat} {S' : SpD} (C : Cal P wd K mg base x ps n S) (h : ∀ ds Q E, S' ds Q E → S ds Q E) : Cal P wd K mg base x ps n S' := by
  obtain ⟨f, fd, F, m, kp, b⟩ := C
  refine ⟨f, fd, F.imp fun vs H Q E z => ?_, m, kp, b⟩
  obtain ⟨B, L, P', ds, Qd, Ed, pB, pL, pal, bg, r, hS, kq, ke⟩ := z
  exact ⟨B, L, P', ds, Qd, Ed, pB, pL, pal, bg, r, h _ _ _ hS, kq, ke⟩
end
end TL
set_option Elab.async false
set_option linter.all false
set_option maxRecDepth 100000
set_option maxHeartbeats 2000000
namespace TL
open PySem L2 PySem.Spec PyProof.Rows
/-- the handled exception: at a, of class C, its fields at dd -/
def OkX (C a dd : Addr) (q : Addr × Obj) : Prop := q.1 = a ∧ L2N.Zn (.ref C) (some dd) q.2 ∧ ∃ vs, q.2.data = .fields vs
def CalX (P : Program) (w : World) (K : PySem.W.Frag) (mg : Str → Option Value) (base : Heap) (x : Str) (ps : List Str) (n : Nat) (S : Addr → Addr → Addr → SpD) : Prop :=
  ∃ (f : Addr) (fd : FuncData), (∀ C a dd, FnHq (OkX C a dd) P w K mg base (L2N.CX P w) n f fd ps (spD K (S C a dd))) ∧ mg x = some (.ref f) ∧ PySem.W.keepIn K (.ref f) = true ∧ Binds K fd ps []
theorem hot_of {A : Around} {a : Addr} {oe : Obj} {cv : Value} {d : Option Addr} (hh : A.handled = some (.ref a)) (hz : L2N.Zn cv d oe) (hf : ∃ vs, oe.data = .fields vs) : L2H.Hot1 A (a, oe) := by
  obtain ⟨vs, e⟩ := hf
  exact ⟨hh, vs, e, hz.2.2 vs e⟩
theorem roomH {k : Nat} {A A' : Around} (r : Room k A) (h1 : A'.depth = A.depth := by rfl) (h2 : A'.units = A.units := by rfl) : L2H.RoomH k A' := ⟨by rw [h1]; exact r.dp, by rw [h2]; exact r.un⟩
section
variable {X : Cx} {c : Ct} {W : WX} {Wx : XD → TL.Env → Prop} {x : Str} {ps : List Str} {n k : Nat} {S : Addr → Addr → Addr → SpD} {e : Expr} {es : List Expr} {U : TAD} {p pos : Pos} {C a dd : Addr} {oe : Obj}
theorem xd_calX (hK : c.K = X.K) (Cl : CalX X.prog X.w X.K X.mg X.base x ps n S) (hr : L2H.RoomH k X.A) (hot : L2H.Hot1 X.A (a, oe)) (hok : OkX C a dd (a, oe)) (hp : (a, oe) ∈ X.pn) (tk : L2N.Takes X W) (hW : WRel c Wx W) (ha : PA X (e :: es) (LA c true U)) (hle : n ≤ k := by decide) (hg : Gl X x := by rfl) (hdb : (x == ("__debug__" : Str)) = false := by decide)
    (he : starEach (e :: es) X.env = (false, eval e X.env) :: starEach es X.env := by rfl) (hpl : (backTo pos (starEach es X.env)).any (·.1) = false := by rfl) : PE X (.Call (.Name x p) (e :: es) [] pos) (LE c true (xCall (S C a dd) Wx U)) := by
  obtain ⟨f, fd, F, m, kp, b⟩ := Cl
  exact xd_callH (by rw [hK]; exact F C a dd) (hr.mono hle) hot hok hp tk hW m kp b ha hg hdb he hpl
end
section
variable {P : Program} {wd : World} {K : PySem.W.Frag} {mg : Str → Option Value} {base : Heap} {x : Str} {st : Stmt} {N ps : List Str} {k : Nat}
theorem calX_of {S : Addr → Addr → Addr → SpD} {CB : Addr} {T : Addr → Addr → (XD → Prop) → TSD} (D : DefAt K mg x ps st) (Sc : FnScope N ps (defScope st)) (len : ∀ C a dd ds Q E, S C a dd ds Q E → ds.length = ps.length) (hC : ∀ C a dd ds Q E, S C a dd ds Q E → C = CB)
    (hd : ∀ (a dd : Addr) (f : Addr) (cdv : Value) (A : Around) (outer : List PySem.Env) (s : Shared) (H : Hp) (E : XK) (oe : Obj) (c : Ct) (Ed : XD → Prop), L2H.Hot1 A (a, oe) → OkX CB a dd (a, oe) → L2H.RoomH k (A.deeper (envOfC x (defScope st) s.heap.objs.size f cdv)) → c.K = K →
      L2N.Takes (cxB false [(a, oe)] (L2N.CX P wd) P wd K mg base N x (defScope st) f cdv A outer s H E) (wOf E) → WRel c (fun x _ => Ed x) (wOf E) → PSs (cxB false [(a, oe)] (L2N.CX P wd) P wd K mg base N x (defScope st) f cdv A outer s H E) (defBody st) (LS0 c (T a dd Ed)))
    (hs : ∀ a dd ds Qd Ed, S CB a dd ds Qd Ed → T a dd Ed { nx := fun _ => Qd .non, rt := Qd } (envOf N ds)) : CalX P wd K mg base x ps (k + 1) S := by
  obtain ⟨f, fd, F, m, b⟩ := D
  refine ⟨f, fd, fun C a dd => ?_, m, F.kp, b⟩
  by_cases e : C = CB
  · subst e
    refine fnH0 F Sc (len C a dd) (fun cdv A outer s H E p c Ed hot hok => ?_) (hs a dd)
    obtain ⟨a', oe⟩ := p
    obtain ⟨rfl, h2, h3⟩ := hok
    exact hd a' dd f cdv A outer s H E oe c Ed hot ⟨rfl, h2, h3⟩
  · refine ⟨fun vs H Q E h => ?_, fun A outer s H args us vs Q E p hr h1 h2 h3 he hb hv h => ?_⟩
    all_goals
      obtain ⟨_, _, _, _, _, _, _, _, _, _, _, h, _⟩ := h
      exact absurd (hC _ _ _ _ _ _ h) e
end
section
variable {X : Cx} {c : Ct} {x n : Str} {cv : Value} {i : Nat} {body suite : List Stmt} {b₀ : Stmt} {np pos pos' : Pos} {Tb : (XD → TL.Env → Prop) → TSD} {Ts : Addr → Addr → Addr → TSD}
theorem z_tryAsK {K0 : PySem.W.Frag} (hK : c.K = X.K) (hN : X.N.Nodup) (hi : X.N[i]? = some n) (hc : Names X x cv) {W0 : WX} (tk : L2N.Takes X W0)
    (hb : ∀ (W : WX) (Wx : XD → TL.Env → Prop) (pn : List (Addr × Obj)) (xe : Value → Shared → Prop), L2N.Takes (X.tr pn xe) W → PassesOwn (model X.prog X.w) X.A X.env xe → WRel c Wx W → PSs (X.tr pn xe) body (LS0 c (Tb Wx)))
    (hsu : ∀ (a : Addr) (oe : Obj) (C dd : Addr) (pn : List (Addr × Obj)), L2N.Zn (.ref C) (some dd) oe → (∃ vs, oe.data = .fields vs) → PSs (X.suite a ((a, oe) :: pn)) (b₀ :: suite) (LS0 c (Ts a C dd)))
    (hs : X.stack = X.env :: X.outer := by rfl) (hf : X.env.frame = some X.env.locals := by rfl) (hln : X.env.kindOf n = some .local := by rfl) (hX : X.K = K0 := by rfl) : PS X (.Try body [.ExceptHandler (some (.Name x np)) (some n) (b₀ :: suite) pos'] [] [] pos) (LS0 c (zTryAs K0 cv i Tb Ts)) := by
  rw [← hX, ← hK]
  exact z_tryAs hK hN hi hc tk hb hsu hs hf hln
end
section
variable {γ : TL.Env} {Q : D → Prop} {T : TED} {A : TAD} {E : EndsD}
theorem e_xf {a dd : Addr} {f : Str} : xXf a dd f T γ Q = T γ fun d => ∃ fs v, d = .exc a dd fs ∧ fs.lookup f = some v ∧ Q v := rfl
theorem e_xxf {a dd : Addr} {gs : List (Str × D)} {R : List (Str × D) → D → Prop} : (∃ fs v, D.exc a dd gs = .exc a dd fs ∧ R fs v) = ∃ v, R gs v := propext ⟨fun ⟨_, v, h, q⟩ => by cases h; exact ⟨v, q⟩, fun ⟨v, q⟩ => ⟨gs, v, rfl, q⟩⟩
theorem e_isX {a dd C : Addr} {gs : List (Str × D)} : dIsX a dd C [.exc a dd gs, .adr C] Q = Q (.bl true) := propext ⟨fun h => h.2.2.2, fun h => ⟨rfl, rfl, rfl, h⟩⟩
theorem e_try {K : PySem.W.Frag} {cv : Value} {i : Nat} {Tb : (XD → TL.Env → Prop) → TSD} {Ts : Addr → Addr → Addr → TSD} : zTryAs K cv i Tb Ts E γ = Tb (wTry K cv i Ts E) E γ := rfl
theorem e_ownEq {C : Addr} {S : SpD} {gs hs : List (Str × D)} : dOwnEq C S (.obj C gs) (.obj C hs) Q = S [.obj C gs, .obj C hs] (fun d => ∃ b, d = .bl b ∧ Q d) fun _ => False := propext ⟨fun h => h.2.2, fun h => ⟨⟨_, rfl⟩, .inl ⟨_, rfl⟩, h⟩⟩
theorem e_ownEqS {C : Addr} {S : SpD} {gs : List (Str × D)} {z : Str} : dOwnEq C S (.obj C gs) (.str z) Q = S [.obj C gs, .str z] (fun d => ∃ b, d = .bl b ∧ Q d) fun _ => False := propext ⟨fun h => h.2.2, fun h => ⟨⟨_, rfl⟩, .inr ⟨_, rfl⟩, h⟩⟩
end
end TL
set_option Elab.async false
set_option linter.all false
set_option maxRecDepth 100000
set_option maxHeartbeats 2000000
namespace TL
open PySem L2 PySem.Spec PyProof.Rows
mutual
def D.nol : D → Bool
  | .lst _ => false
  | .exc _ _ _ => false
  | .tup ds => D.nols ds
  | .obj _ fs => D.nolf fs
  | _ => true
def D.nols : List D → Bool
  | [] => true
  | d :: ds => D.nol d && D.nols ds
def D.nolf : List (Str × D) → Bool
  | [] => true
  | (_, d) :: ds => D.nol d && D.nolf ds
end
theorem nols_strs : ∀ xs : List Str, D.nols (xs.map D.str) = true
  | [] => rfl
  | x :: r => by
    show (D.nol (.str x) && D.nols (r.map D.str)) = true
    rw [nols_strs r]
    rfl
section
variable {K : PySem.W.Frag} {B : Addr} {M M' : Addr → Prop} {H : Hp}
mutual
theorem Rep.nol (e : ∀ a, M' a → M a ∨ ∃ vs, H a = some (.lst vs)) : ∀ {v : V} {d : D}, Rep K B M H v d → d.nol = true → Rep K B M' H v d
  | _, _, .non, _ => .non
  | _, _, .bl b, _ => .bl b
  | _, _, .int i, _ => .int i
  | _, _, .str x, _ => .str x
  | _, _, .ty n, _ => .ty n
  | _, _, .adr a, _ => .adr a
  | _, _, .lst n h r, z => by cases z
  | _, _, .tup n h r, z => .tup (fun m => (e _ m).elim n fun ⟨vs, h2⟩ => by rw [h] at h2; cases h2) h (Reps.nol e r z)
  | _, _, .tupK h r, z => .tupK h (Reps.nol e r z)
  | _, _, .obj n h r, z => .obj (fun m => (e _ m).elim n fun ⟨vs, h2⟩ => by rw [h] at h2; cases h2) h (RepF.nol e r z)
  | _, _, .bag, _ => .bag
  | _, _, .exc n h r, z => by cases z
theorem Reps.nol (e : ∀ a, M' a → M a ∨ ∃ vs, H a = some (.lst vs)) : ∀ {v : List V} {d : List D}, Reps K B M H v d → D.nols d = true → Reps K B M' H v d
  | _, _, .nil, _ => .nil
  | _, _, .cons r t, z => .cons (Rep.nol e r (Bool.and_eq_true_iff.mp z).1) (Reps.nol e t (Bool.and_eq_true_iff.mp z).2)
theorem RepF.nol (e : ∀ a, M' a → M a ∨ ∃ vs, H a = some (.lst vs)) : ∀ {v : List (Str × V)} {d : List (Str × D)}, RepF K B M H v d → D.nolf d = true → RepF K B M' H v d
  | _, _, .nil, _ => .nil
  | _, _, .cons r t, z => .cons (Rep.nol e r (Bool.and_eq_true_iff.mp z).1) (RepF.nol e t (Bool.and_eq_true_iff.mp z).2)
end
end
def noIns (γ : TL.Env) : Bool := γ.all fun s => match s with
  | some (.ins _ _) => false
  | _ => true
section
variable {X : Cx} {c : Ct} {w : Bool} {W : WX} {Wx : XD → TL.Env → Prop} {k : Nat} {f C : Addr} {fd : FuncData} {ps : List Str} {x m : Str} {p pos apos : Pos} {a e o : Expr} {es : List Expr} {U : TAD} {T : TED} {Sm : SpD} {Ta : TTD}
theorem own_lst {gh : List (V × D)} {γ : TL.Env} {σ : L2.St} {H : Hp} (S : SI c gh γ σ H) (hn : noIns γ = true) {a : Addr} (h : OwnAt γ σ a) : ∃ vs, H a = some (.lst vs) := by
  obtain ⟨i, s, h1, h2, h3⟩ := h
  cases s with
  | val d => cases h2
  | own xs =>
    obtain ⟨p, vs, e1, e2, _⟩ := S.own i xs h1
    rw [h3] at e1
    cases e1
    exact ⟨vs, e2⟩
  | ins C gs =>
    have := List.all_eq_true.mp hn _ (List.mem_of_getElem? h1)
    cases this
def xNol (T : TED) : TED := fun γ Q => T γ fun d => d.nol = true ∧ noIns γ = true ∧ Q d
theorem xd_nol (h : PE X e (LE c false T)) : PE X e (LE c true (xNol T)) := pe_imp h fun pins s σ H Q I q => by
  obtain ⟨gh, γ, Qd, S, q1, k⟩ := q
  refine ⟨gh, γ, _, S, q1, fun d v H' h1 r S' e => k d v H' h1.2.2 (r.nol (fun a m => ?_) h1.1) S' e⟩
  rcases m with m | ⟨_, m⟩
  · exact .inl (.inl m)
  · exact .inr (own_lst S' h1.2.1 m)
/-- a name: a value or one's own list -/
def xVarA (i : Nat) : TED := fun γ Q => (∃ d, γ[i]? = some (some (.val d)) ∧ Q d) ∨ ∃ xs, γ[i]? = some (some (.own xs)) ∧ Q (.lst xs)
theorem xA (i : Nat) (hN : X.N[i]? = some x := by rfl) (hv : Vis X.env.scope x := by first | exact Or.inl rfl | exact Or.inr (Or.inl rfl) | exact Or.inr (Or.inr rfl)) (hd : (x == ("__debug__" : Str)) = false := by decide) (hcd : (x == ("__classdict__" : Str)) = false := by decide) :
    PE X (.Name x pos) (LE c false (xVarA i)) := pe_imp (pv i hN hv hd hcd) fun pins s σ H Q I q => by
  obtain ⟨gh, γ, Qd, S, q1, k⟩ := q
  rcases q1 with ⟨d, e1, q1⟩ | ⟨xs, e1, q1⟩
  · obtain ⟨v, h1, r⟩ := S.val i d e1
    exact ⟨v, h1, k d v H q1 (r.less fun a m => m.toStrong) S (Ext.refl H)⟩
  · obtain ⟨p, vs, h1, h2, r⟩ := S.own i xs e1
    refine ⟨_, h1, k _ _ H q1 (.lst (fun m => ?_) h2 (r.less fun a m => m.toStrong)) S (Ext.refl H)⟩
    rcases m with m | ⟨m, _⟩
    · exact (S.fresh p ⟨i, _, e1, rfl, h1⟩).2 m
    · cases m
/-- o.m(e, ..): one's own lists lent; what is raised is flat -/
def xMethB (C : Addr) (m : Str) (S : SpD) (Wx : XD → TL.Env → Prop) (T : TED) (U : TAD) : TED := fun γ Q => T γ fun o => ∃ gs, o = .obj C gs ∧ gs.lookup m = none ∧ U γ fun ds => S (o :: ds) Q fun x => Wx x γ ∧ x.fs.all (fun q => q.2.flat) = true
theorem xd_methB {pl : Sem Bool} (ho : PE X o (LE c false T)) (cl : Cls X.K C) (hm : Meth X.K C m f) (F : FnOk X.prog X.w X.K X.mg X.base (L2N.CX X.prog X.w) k f fd ps (spD c.K Sm)) (hr : Room k X.A) (tk : L2N.Takes X W) (hW : WRel c Wx W) (hb : Binds X.K fd ps []) (ha : PA X (e :: es) (LA c false U))
    (hst : starEach (e :: es) X.env = (false, eval e X.env) :: starEach es X.env := by rfl) (hpl : (backTo pos (starEach es X.env)).any (·.1) = false := by rfl)
    (ht : eval (.Call (.Attribute o m apos) (e :: es) [] pos) X.env = (do let ov ← eval o X.env; standAt apos.atName; let (f, first) ← holding [ov] (getMethod ov m pl); callWith pos f first (backTo pos (starEach (e :: es) X.env)) (backToKw pos (keywordEach [] X.env))) := by rfl) :
    PE X (.Call (.Attribute o m apos) (e :: es) [] pos) (LE c false (xMethB C m Sm Wx T U)) := pe_imp (pe_methS (E := WE W) ho cl hm F hr hb (fun σ => L2N.passAt tk σ) ha hst hpl ht) fun _ _ σ H Q I q => by
  obtain ⟨gh, γ, Qd, St, q1, k⟩ := q
  refine ⟨gh, γ, _, St, q1, fun d v H1 h1 r1 S1 x1 => ?_⟩
  obtain ⟨gs, rfl, l, h1⟩ := h1
  cases r1 with
  | @obj a _ dx fs _ nM hh s =>
    refine ⟨a, dx, fs, rfl, hh, lookF_none s l, ?_⟩
    refine ⟨gh, γ, _, S1, h1, fun ds vs H2 h2 r2 S2 x2 => ?_⟩
    exact S2.sp hW (.cons ((Rep.obj nM hh s).ext (S1.mB false) x2) r2) h2 (fun y hy => ⟨hy.1, .inr hy.2⟩) fun d v H' h3 r3 S3 x3 => k d v H' h3 r3 S3 ((x1.trans x2).trans x3)
/-- x = a new list if t else e -/
theorem z_setIf {i : Nat} {t b : Expr} {y : Str} {pos' ipos : Pos} {V : TAD} (hN : X.N.Nodup) (ht : PT X t (LT c Ta)) (ha : PE X a (LF c true V)) (hb : PE X b (LE c true T)) (hi : X.N[i]? = some y := by rfl) (hx : Loc X.env.scope y := by first | exact Or.inl rfl | exact Or.inr rfl)
    (hs : swapsWith (.IfExp t a b ipos) (some (.Name y pos')) pos.line X.env = pure false := by rfl)
    (hf : X.fn y = true ∨ X.env.scope.names.lookup y = some .local := by first | exact .inl rfl | exact .inr rfl) : PS X (.Assign [.Name y pos'] (.IfExp t a b ipos) pos) (LS c (zIf Ta (zSetO i V) (zSet i T))) :=
  ps_imp (ps_set hN hi hx (pe_ifExp ht ha hb) hs hf) fun _ _ σ H E I q => by
    obtain ⟨gh, γ, ED, S, q1, k, _⟩ := q
    refine ⟨gh, γ, _, S, q1, fun b H1 h1 S1 x1 => ?_⟩
    cases b with
    | true =>
      have h1 : zSetO i V ED γ := by simpa using h1
      refine iteT ⟨gh, γ, _, S1, h1, fun ds p vs H' h1 hp e r S' x => ?_⟩
      exact k _ _ H' h1 (S1.setO hp S' x rfl (fun xs z => by cases z; exact ⟨vs, e, r⟩) fun C gs z => by cases z)
    | false =>
      have h1 : zSet i T ED γ := by simpa using h1
      refine iteF ⟨gh, γ, _, S1, h1, fun d v H' h1 r S' x => ?_⟩
      exact k _ _ H' h1 (S'.setV r)
end
/-- a method by its name -/
def MethAt (P : Program) (w : World) (K : PySem.W.Frag) (mg : Str → Option Value) (base : Heap) (C : Addr) (m : Str) (ps : List Str) (n : Nat) (S : SpD) : Prop :=
  ∃ (f : Addr) (fd : FuncData), Meth K C m f ∧ FnOk P w K mg base (L2N.CX P w) n f fd ps (spD K S) ∧ Binds K fd ps []
section
variable {X : Cx} {c : Ct} {W : WX} {Wx : XD → TL.Env → Prop} {k n : Nat} {C : Addr} {ps : List Str} {m : Str} {pos apos : Pos} {e o : Expr} {es : List Expr} {U : TAD} {T : TED} {Sm : SpD}
theorem xd_methM {pl : Sem Bool} (hK : c.K = X.K) (ho : PE X o (LE c true T)) (cl : Cls X.K C) (M : MethAt X.prog X.w X.K X.mg X.base C m ps n Sm) (hr : Room k X.A) (tk : L2N.Takes X W) (hW : WRel c Wx W) (ha : PA X (e :: es) (LA c true U)) (hle : n ≤ k := by decide)
    (hst : starEach (e :: es) X.env = (false, eval e X.env) :: starEach es X.env := by rfl) (hpl : (backTo pos (starEach es X.env)).any (·.1) = false := by rfl)
    (ht : eval (.Call (.Attribute o m apos) (e :: es) [] pos) X.env = (do let ov ← eval o X.env; standAt apos.atName; let (f, first) ← holding [ov] (getMethod ov m pl); callWith pos f first (backTo pos (starEach (e :: es) X.env)) (backToKw pos (keywordEach [] X.env))) := by rfl) :
    PE X (.Call (.Attribute o m apos) (e :: es) [] pos) (LE c true (xMeth C m Sm Wx T U)) := by
  obtain ⟨f, fd, hm, F, hb⟩ := M
  exact xd_meth ho cl hm (by rw [hK]; exact F) (hr.mono hle) tk hW hb ha hst hpl ht
theorem xd_methMB {pl : Sem Bool} (hK : c.K = X.K) (ho : PE X o (LE c false T)) (cl : Cls X.K C) (M : MethAt X.prog X.w X.K X.mg X.base C m ps n Sm) (hr : Room k X.A) (tk : L2N.Takes X W) (hW : WRel c Wx W) (ha : PA X (e :: es) (LA c false U)) (hle : n ≤ k := by decide)
    (hst : starEach (e :: es) X.env = (false, eval e X.env) :: starEach es X.env := by rfl) (hpl : (backTo pos (starEach es X.env)).any (·.1) = false := by rfl)
    (ht : eval (.Call (.Attribute o m apos) (e :: es) [] pos) X.env = (do let ov ← eval o X.env; standAt apos.atName; let (f, first) ← holding [ov] (getMethod ov m pl); callWith pos f first (backTo pos (starEach (e :: es) X.env)) (backToKw pos (keywordEach [] X.env))) := by rfl) :
    PE X (.Call (.Attribute o m apos) (e :: es) [] pos) (LE c false (xMethB C m Sm Wx T U)) := by
  obtain ⟨f, fd, hm, F, hb⟩ := M
  exact xd_methB ho cl hm (by rw [hK]; exact F) (hr.mono hle) tk hW hb ha hst hpl ht
end
section
variable {X : Cx} {c : Ct} {w : Bool} {C f : Addr} {Sm : SpD} {fd : FuncData} {ps : List Str} {k : Nat} {a b : Expr} {pos : Pos} {T T2 : TED}
theorem br_ownEq : BrO c w (rOwnEq C (spD c.K Sm)) (dOwnEq C Sm) := by
  intro gh γ σ H x y v u Qd Q St r1 r2 q k
  obtain ⟨⟨gs, rfl⟩, q2, q3⟩ := q
  refine ⟨?_, ?_, c.B, c.L, MW c γ σ w, _, _, _, St.mB w, .inl St.pL, fun a m => St.alive m, St.bag, .cons r1 (.cons r2 .nil), q3, fun d v' H' h1 rd x1 b1 => ?_, fun x cls dd H' h1 => h1.elim⟩
  · cases r1 with
    | obj nM hh s => exact ⟨_, _, _, rfl, hh⟩
  · rcases q2 with ⟨hs, rfl⟩ | ⟨z, rfl⟩
    · cases r2 with
      | obj nM hh s => exact .inl ⟨_, _, _, rfl, hh⟩
    · cases r2
      exact .inr ⟨z, rfl⟩
  · obtain ⟨b, rfl, h1⟩ := h1
    cases rd
    exact ⟨b, rfl, k _ _ H' h1 (.bl b) (St.later x1 b1) x1⟩
theorem xt_ownEq (F : FnOk X.prog X.w X.K X.mg X.base (L2N.CX X.prog X.w) k f fd ps (spD c.K Sm)) (hr : Room k X.A) (hs : PySem.W.findIn X.K (.ref C) "__eq__" = some (some (.ref f))) (hf : PySem.W.isFn X.K (.ref f) = true) (hb : Binds X.K fd ps []) (hn : PySem.W.notFirst X.K C (.type "str") = true)
    (ha : PE X a (LE c w T)) (hb2 : PE X b (LE c w T2)) : PT X (.Compare a [.Eq] [b] pos) (LT c (xB (xOp (dOwnEq C Sm) T T2))) := xt_cmp (op_ownEq F hr hs hf hb hn) br_ownEq (nomark _) ha hb2
end
theorem py_strs : ∀ xs : List Str, PyAll (xs.map D.str) (xs.map PyData.str)
  | [] => .nil
  | x :: r => .cons (.str x) (py_strs r)
theorem shaped_strs (xs : List Str) (ok : ∀ x ∈ xs, PyData.strOk x = true) : SeqAt.shaped (.list (xs.map PyData.str)) = true := by
  have h1 : ∀ xs : List Str, (∀ x ∈ xs, PyData.strOk x = true) → PyData.canLayAll0 (xs.map PyData.str) = true := fun xs => by
    induction xs with
    | nil => intro _; rfl
    | cons x r ih =>
      intro ok
      have e := ih fun y hy => ok y (by simp [hy])
      simp [PyData.canLayAll0, PyData.canLay0, e, ok x (by simp)]
  have h2 : ∀ xs : List Str, PyData.depthAll (xs.map PyData.str) = 0 := fun xs => by
    induction xs with
    | nil => rfl
    | cons x r ih => simp [PyData.depthAll, PyData.depth, ih]
  unfold SeqAt.shaped
  simp [PyData.canLay0, PyData.depth, h1 xs ok, h2]
theorem eqv_strs : ∀ xs ys : List Str, PyData.eqvAll (xs.map PyData.str) (ys.map PyData.str) = decide (xs = ys)
  | [], [] => rfl
  | [], _ :: _ => rfl
  | _ :: _, [] => rfl
  | x :: r, y :: s => by
    show (PyData.eqv (.str x) (.str y) && PyData.eqvAll (r.map PyData.str) (s.map PyData.str)) = _
    rw [eqv_strs r s]
    show ((x == y) && decide (r = s)) = decide (x :: r = y :: s)
    by_cases h : x = y
    · subst h
      simp
    · have e : (x == y) = false := beq_eq_false_iff_ne.mpr h
      simp [e, h]
theorem eqLL {n : Bool} {xs ys : List Str} {Q : D → Prop} (ok : ∀ x ∈ xs, PyData.strOk x = true) (ok' : ∀ x ∈ ys, PyData.strOk x = true) (h : Q (.bl (n ^^ decide (xs = ys)))) : dEqq n (.lst (xs.map D.str)) (.lst (ys.map D.str)) Q := by
  refine ⟨_, _, .lst (py_strs xs), .lst (py_strs ys), shaped_strs xs ok, shaped_strs ys ok', ?_⟩
  rw [show PyData.eqv (.list (xs.map PyData.str)) (.list (ys.map PyData.str)) = decide (xs = ys) from eqv_strs xs ys]
  exact h
section
variable {γ : TL.Env} {Q : D → Prop} {T : TED} {A : TAD}
theorem e_nol : xNol T γ Q = T γ fun d => d.nol = true ∧ noIns γ = true ∧ Q d := rfl
theorem e_vA0 {d : D} : xVarA 0 (some (.val d) :: γ) Q = Q d := propext ⟨fun h => by
  rcases h with ⟨_, h, q⟩ | ⟨_, h, q⟩ <;> cases h
  exact q, fun q => .inl ⟨d, rfl, q⟩⟩
theorem e_vAo {xs : List D} : xVarA 0 (some (.own xs) :: γ) Q = Q (.lst xs) := propext ⟨fun h => by
  rcases h with ⟨_, h, q⟩ | ⟨_, h, q⟩ <;> cases h
  exact q, fun q => .inr ⟨xs, rfl, q⟩⟩
theorem e_vAS {i : Nat} {s : Option Slot} : xVarA (i + 1) (s :: γ) Q = xVarA i γ Q := rfl
theorem e_methB {C : Addr} {m : Str} {S : SpD} {Wx : XD → TL.Env → Prop} : xMethB C m S Wx T A γ Q = T γ fun o => ∃ gs, o = .obj C gs ∧ gs.lookup m = none ∧ A γ fun ds => S (o :: ds) Q fun x => Wx x γ ∧ x.fs.all (fun q => q.2.flat) = true := rfl
theorem e_zitem {i : Nat} {Ti : TED} {E : EndsD} : zItem i Ti T E γ = T γ fun d => ∃ xs, γ[i]? = some (some (.own xs)) ∧ Ti γ fun n => ∃ k j, n = .int k ∧ ixN xs.length k = some j ∧ E.nx (γ.set i (some (.own (xs.set j d)))) := rfl
end
end TL
set_option Elab.async false
set_option linter.all false
set_option maxRecDepth 100000
set_option maxHeartbeats 4000000
namespace K1
open PySem L2 PySem.Spec PyProof.Rows TL
def top (i : Nat) : Stmt := PySem.Challenge.pw_deepfields_k01_grounds_there_and_back.main.body.getD i (.Pass ⟨0, 0, 0, 0⟩)
abbrev sDraw : Stmt := top 30
section
variable {P : Program} {wd : World} {K : PySem.W.Frag} {mg : Str → Option Value} {base : Heap}
/-- 0 ≤ what is drawn < size -/
def SDraw : SpD := fun ds Q _ => ∃ n : Int, ds = [.bag, .int n] ∧ 0 < n ∧ n < 1073741824 ∧ ∀ d : Int, 0 ≤ d → d < n → Q (.int d)
theorem scD : FnScope ["bag", "size", "item", "digit", "mix"] ["bag", "size"] (defScope sDraw) := ⟨rfl, rfl, rfl, by decide +kernel, rfl, by decide +kernel, by decide +kernel⟩
theorem ok_draw {f : Addr} {fd : FuncData} (F : Fun K "_law_draw" "_law_draw" sDraw f fd) (mI : mg "int" = none) (mL : mg "len" = none) : FnOk P wd K mg base (L2N.CX P wd) 1 f fd ["bag", "size"] (spD K SDraw) := by
  obtain ⟨oc, od, kV, doc, pm, an, cdv, ct, osl, rfl, lk, hcd⟩ := F.ex
  refine fn_of lk hcd scD (fun vs H Q E h => ?_) fun A outer s H vs Q E hr h => ?_
  · obtain ⟨B, L, P', ds, Qd, Ed, _, _, _, _, r, ⟨n, rfl, _⟩, _⟩ := h
    rw [r.length]; rfl
  · obtain ⟨B, L, P', ds, Qd, Ed, pB, pL, pal, bg, r, ⟨n, rfl, n0, n1, hn⟩, kq, ke⟩ := h
    obtain ⟨ns, i, g, m, k, b1, b2, nLB, hl, hi, hg, hm0, hm1⟩ := bg
    cases r with
    | cons r1 r2 =>
      cases r2 with
      | cons r2 r3 =>
        cases r3
        cases r1
        cases r2
        -- the bag's state: what stands in it
        have fin : ∀ (i g m k : Int) (H' : Hp) (d : Int), H' B = some (.lst [.ref L, .int i, .int g, .int m, .int k]) → H' L = some (.lst (ns.map V.int)) → Ext B H H' → 0 ≤ i → 0 ≤ g → 0 ≤ m → m < 2147483647 → 0 ≤ d → d < n → Q (.int d) H' := fun i g m k H' d c1 c2 c3 c4 c5 c6 c7 c8 c9 =>
          kq _ _ H' (hn d c8 c9) (.int d) c3 ⟨ns, i, g, m, k, c1, c2, nLB, hl, c4, c5, c6, c7⟩
        have put : ∀ (H' : Hp) (u : HO), Ext B H H' → Ext B H (upd H' B u) := fun H' u x a o ne h => by
          rw [upd_ne ne]
          exact x a o ne h
        have keepL : ∀ (H' : Hp) (u : HO), H' L = some (.lst (ns.map V.int)) → (upd H' B u) L = some (.lst (ns.map V.int)) := fun H' u h => by
          rw [upd_ne nLB]
          exact h
        -- the last four statements
        obtain ⟨tT, derT, hT⟩ : ∃ t, PSs (cxOf (L2N.CX P wd) P wd K mg base ["bag", "size", "item", "digit", "mix"] "_law_draw" (defScope sDraw) f cdv A outer s H E) ((defBody sDraw).drop 2) t ∧ ∀ (i g m k : Int) (x2 : Option V) (H' : Hp), H' B = some (.lst [.ref L, .int i, .int g, .int m, .int k]) → H' L = some (.lst (ns.map V.int)) → Ext B H H' → 0 ≤ i → 0 ≤ g → 0 ≤ m → m < 2147483647 →
            t { nx := fun _ H' => Q .non H', rt := Q } [some (.ref B), some (.int n), x2, none, none] H' := by
          refine ⟨_, (pss_cons (ps_if (pt_cmpR op_gt (pe_ix ix_seq (pv 0) pe_int (fun _ _ => rfl)) pe_int (nomark _)) (pss_cons (ps_set (i := 3) scD.nd rfl (Or.inl rfl) (pe_op op_mod (pe_callTy call_int1 (by rfl) mI (by decide +kernel) (pa_cons (pe_ix ix_seq (pv 0) pe_int (fun _ _ => rfl)) pa_nil)) (pv 1))) (pss_cons (ps_asg (pe_op op_fdiv (pe_ix ix_seq (pv 0) pe_int (fun _ _ => rfl)) (pv 1)) (pg_sub (pv 0) pe_int set_list)) (pss_one (ps_ret (pv 3))))) pss_nil) (pss_cons (ps_set (i := 4) scD.nd rfl (Or.inl rfl) (pe_callTy call_int1 (by rfl) mI (by decide +kernel) (pa_cons (pe_ix ix_seq (pv 0) pe_int (fun _ _ => rfl)) pa_nil))) (pss_cons (ps_asg (pe_op op_mod (pe_callTy call_int1 (by rfl) mI (by decide +kernel) (pa_cons (pe_op op_add (pe_op op_add (pe_op op_add (pe_op op_pow (pv 4) pe_int) (pe_op op_mul (pv 4) pe_int)) (pe_op op_mul (pe_ix ix_seq (pv 0) pe_int (fun _ _ => rfl)) pe_int)) pe_int) pa_nil)) pe_int) (pg_sub (pv 0) pe_int set_list)) (pss_one (ps_ret (pe_op op_mod (pe_callTy call_int1 (by rfl) mI (by decide +kernel) (pa_cons (pe_op op_add (pe_op op_fdiv (pe_ix ix_seq (pv 0) pe_int (fun _ _ => rfl)) pe_int) (pe_op op_mul (pe_op op_mod (pe_callTy call_int1 (by rfl) mI (by decide +kernel) (pa_cons (pe_ix ix_seq (pv 0) pe_int (fun _ _ => rfl)) pa_nil)) pe_int) pe_int)) pa_nil)) (pv 1))))))), fun i g m k x2 H1 c1 c2 c3 c4 c5 c6 c7 => ?_⟩
          have c7' : m < 2 ^ 64 := by omega
          refine ⟨_, rfl, .inl ⟨B, _, _, _, rfl, rfl, SqL.of c1, rfl, _, _, rfl, rfl, ?_⟩⟩
          refine ⟨_, rfl, ite2 (fun hg0 => ?_) fun hg0 => ?_⟩
          · have hg0 : 0 < g := of_decide_eq_true hg0
            refine ⟨_, rfl, .inl ⟨B, _, _, _, rfl, rfl, SqL.of c1, rfl, .inl ⟨g, rfl, _, rfl, _, _, rfl, rfl, n0, ?_⟩⟩⟩
            refine ⟨_, rfl, .inl ⟨B, _, _, _, rfl, rfl, SqL.of c1, rfl, _, rfl, _, _, rfl, rfl, ⟨n0, n1⟩, _, rfl, B, _, _, 2, rfl, rfl, c1, rfl, ?_⟩⟩
            refine ⟨_, rfl, ?_⟩
            exact fin i (g / n) m k _ _ upd_same (keepL _ _ c2) (put _ _ c3) c4 (Int.ediv_nonneg c5 (by omega)) c6 c7 (Int.emod_nonneg _ (by omega)) (Int.emod_lt_of_pos _ n0)
          · refine ⟨_, rfl, .inl ⟨B, _, _, _, rfl, rfl, SqL.of c1, rfl, .inl ⟨m, rfl, ?_⟩⟩⟩
            refine ⟨_, rfl, _, _, rfl, rfl, ⟨by decide, by decide, by omega⟩, _, rfl, _, _, rfl, rfl, .inr ⟨by decide, by decide⟩, _, _, rfl, rfl, ?_⟩
            refine ⟨_, rfl, .inl ⟨B, _, _, _, rfl, rfl, SqL.of c1, rfl, _, _, rfl, rfl, .inr ⟨by decide, by decide⟩, _, _, rfl, rfl, _, _, rfl, rfl, .inl ⟨_, rfl, _, _, rfl, rfl, (by show (0 : Int) < 2147483647; decide), _, rfl, B, _, _, 3, rfl, rfl, c1, rfl, ?_⟩⟩⟩
            have d1 : ∀ z : Int, 0 ≤ z % 2147483647 ∧ z % 2147483647 < 2147483647 := fun z => ⟨Int.emod_nonneg _ (by decide), Int.emod_lt_of_pos _ (by decide)⟩
            have hz1 := d1 (m ^ (3 : Int).toNat + m * 40093 + k * 1500450 + 70001)
            obtain ⟨z, hz⟩ : ∃ z : Int, (m ^ (3 : Int).toNat + m * 40093 + k * 1500450 + 70001) % 2147483647 = z := ⟨_, rfl⟩
            rw [hz] at hz1
            have e1 : (upd H1 B (.lst [.ref L, .int i, .int g, .int ((m ^ (3 : Int).toNat + m * 40093 + k * 1500450 + 70001) % 2147483647), .int k])) B = some (.lst [.ref L, .int i, .int g, .int z, .int k]) := by rw [upd_same, hz]
            refine ⟨_, rfl, .inl ⟨B, _, _, _, rfl, rfl, SqL.of e1, rfl, _, _, rfl, rfl, ⟨by decide, by decide⟩, ?_⟩⟩
            refine ⟨_, rfl, .inl ⟨B, _, _, _, rfl, rfl, SqL.of e1, rfl, .inl ⟨_, rfl, _, _, rfl, rfl, (by show (0 : Int) < 8009; decide), _, _, rfl, rfl, .inr ⟨by decide, by decide⟩, _, _, rfl, rfl, .inl ⟨_, rfl, _, rfl, _, _, rfl, rfl, n0, ?_⟩⟩⟩⟩
            exact fin i g z k _ _ e1 (keepL _ _ c2) (put _ _ c3) c4 c5 hz1.1 hz1.2 (Int.emod_nonneg _ (by omega)) (Int.emod_lt_of_pos _ n0)
        refine ⟨_, pss_cons (ps_asg (pe_op op_add (pe_ix ix_seq (pv 0) pe_int (fun _ _ => rfl)) pe_int) (pg_sub (pv 0) pe_int set_list)) (pss_cons (ps_if (PW.pt (pw_and (pt_cmpR op_eq (pe_ix ix_seq (pv 0) pe_int (fun _ _ => rfl)) pe_int (nomark _)) (pw_and1 (pt_cmpR op_lt (pe_ix ix_seq (pv 0) pe_int (fun _ _ => rfl)) (pe_callB call_len_seq (by rfl) mL PySem.boot_len (pa_cons (pe_ix ix_seq (pv 0) pe_int (fun _ _ => rfl)) pa_nil) (by decide)) (nomark _))))) (pss_cons (ps_set (i := 2) scD.nd rfl (Or.inl rfl) (pe_callTy call_int1 (by rfl) mI (by decide +kernel) (pa_cons (pe_ix ix_seq (pe_ix ix_seq (pv 0) pe_int (fun _ _ => rfl)) (pe_ix ix_seq (pv 0) pe_int (fun _ _ => rfl)) (fun _ _ => rfl)) pa_nil))) (pss_cons (ps_asg (pe_op op_add (pe_ix ix_seq (pv 0) pe_int (fun _ _ => rfl)) pe_int) (pg_sub (pv 0) pe_int set_list)) (pss_one (ps_if (pt_cmpR op_ge (pv 2) (pe_op op_pow pe_int pe_int) (nomark _)) (pss_one (ps_asg (pv 2) (pg_sub (pv 0) pe_int set_list))) (pss_one (ps_asg (pe_op op_mod (pe_callTy call_int1 (by rfl) mI (by decide +kernel) (pa_cons (pe_op op_add (pe_op op_add (pe_op op_mul (pe_ix ix_seq (pv 0) pe_int (fun _ _ => rfl)) pe_int) (pe_op op_mul (pe_op op_mod (pe_callTy call_int1 (by rfl) mI (by decide +kernel) (pa_cons (pv 2) pa_nil)) pe_int) pe_int)) pe_int) pa_nil)) pe_int) (pg_sub (pv 0) pe_int set_list))))))) pss_nil) derT), ?_⟩
        refine ⟨_, rfl, .inl ⟨B, _, _, _, rfl, rfl, SqL.of b1, rfl, _, _, rfl, rfl, _, rfl, B, _, _, 4, rfl, rfl, b1, rfl, ?_⟩⟩
        have c1 := @upd_same H B (.lst [.ref L, .int i, .int g, .int m, .int (k + 1)])
        have c2 := keepL H (.lst [.ref L, .int i, .int g, .int m, .int (k + 1)]) b2
        have c3 := put H (.lst [.ref L, .int i, .int g, .int m, .int (k + 1)]) (Ext.refl H)
        refine ⟨_, rfl, .inl ⟨B, _, _, _, rfl, rfl, SqL.of c1, rfl, rfl, ?_⟩⟩
        refine ⟨_, rfl, ite2 (fun hg0 => ?_) fun _ => iteF (hT i g m (k + 1) none _ c1 c2 c3 hi hg hm0 hm1)⟩
        refine ⟨_, rfl, .inl ⟨B, _, _, _, rfl, rfl, SqL.of c1, rfl, _, rfl, .inl ⟨B, _, _, _, rfl, rfl, SqL.of c1, rfl, L, _, rfl, .inl (SqL.of c2), _, _, rfl, rfl, ?_⟩⟩⟩
        refine ⟨_, rfl, ite2 (fun hlt => ?_) fun _ => hT i g m (k + 1) none _ c1 c2 c3 hi hg hm0 hm1⟩
        have hlt : i < ((ns.map V.int).length : Int) := of_decide_eq_true hlt
        rw [List.length_map] at hlt
        obtain ⟨j, hj⟩ : ∃ j : Nat, i = (j : Int) := ⟨i.toNat, by omega⟩
        have hjn : j < ns.length := by omega
        have hit : atI (ns.map V.int) i = some (.int ns[j]) := at_of (j := j) (v := V.int ns[j]) hj (by rw [List.getElem?_map, List.getElem?_eq_getElem hjn]; rfl)
        refine ⟨_, rfl, .inl ⟨B, _, _, _, rfl, rfl, SqL.of c1, rfl, _, rfl, .inl ⟨B, _, _, _, rfl, rfl, SqL.of c1, rfl, .inl ⟨L, _, _, _, rfl, rfl, SqL.of c2, hit, .inl ⟨_, rfl, ?_⟩⟩⟩⟩⟩
        refine ⟨_, rfl, .inl ⟨B, _, _, _, rfl, rfl, SqL.of c1, rfl, _, _, rfl, rfl, _, rfl, B, _, _, 1, rfl, rfl, c1, rfl, ?_⟩⟩
        have d1 := @upd_same (upd H B (.lst [.ref L, .int i, .int g, .int m, .int (k + 1)])) B (.lst [.ref L, .int (i + 1), .int g, .int m, .int (k + 1)])
        have d2 := keepL _ (.lst [.ref L, .int (i + 1), .int g, .int m, .int (k + 1)]) c2
        have d3 := put _ (.lst [.ref L, .int (i + 1), .int g, .int m, .int (k + 1)]) c3
        refine ⟨_, rfl, _, _, rfl, rfl, ⟨by decide, by decide, by decide⟩, _, _, rfl, rfl, ?_⟩
        refine ⟨_, rfl, ite2 (fun hbig => ?_) fun hbig => ?_⟩
        · have hbig : (10 : Int) ^ (18 : Int).toNat ≤ ns[j] := of_decide_eq_true hbig
          refine ⟨_, rfl, _, rfl, B, _, _, 2, rfl, rfl, d1, rfl, ?_⟩
          exact hT (i + 1) ns[j] m (k + 1) _ _ upd_same (keepL _ _ d2) (put _ _ d3) (by omega) (Int.le_trans (by decide) hbig) hm0 hm1
        · refine ⟨_, rfl, .inl ⟨B, _, _, _, rfl, rfl, SqL.of d1, rfl, _, _, rfl, rfl, .inr ⟨by decide, by decide⟩, ?_⟩⟩
          refine ⟨_, rfl, .inl ⟨_, rfl, _, _, rfl, rfl, (by show (0 : Int) < 2147483549; decide), _, _, rfl, rfl, .inr ⟨by decide, by decide⟩, _, _, rfl, rfl, _, _, rfl, rfl, .inl ⟨_, rfl, _, _, rfl, rfl, (by show (0 : Int) < 2147483647; decide), _, rfl, B, _, _, 3, rfl, rfl, d1, rfl, ?_⟩⟩⟩
          exact hT (i + 1) g _ (k + 1) _ _ upd_same (keepL _ _ d2) (put _ _ d3) (by omega) hg (Int.emod_nonneg _ (by decide)) (Int.emod_lt_of_pos _ (by decide))
end
end K1
set_option Elab.async false
set_option linter.all false
set_option maxRecDepth 100000
set_option maxHeartbeats 4000000
namespace K1
open PySem L2 PySem.Spec PyProof.Rows TL
abbrev sBag : Stmt := top 29
section
variable {P : Program} {wd : World} {K : PySem.W.Frag} {mg : Str → Option Value} {base : Heap}
def Grow (H H' : Hp) : Prop := ∀ b o, H b = some o → H' b = some o
theorem Grow.refl (H : Hp) : Grow H H := fun _ _ h => h
theorem Grow.new {H H' : Hp} {p : Addr} {u : HO} (g : Grow H H') (h : H' p = none) : Grow H (upd H' p u) := fun b o e => by
  rw [upd_ne (ne_of_none (g b o e) h)]
  exact g b o e
theorem Grow.free {H H' : Hp} {p : Addr} (g : Grow H H') (h : H' p = none) : H p = none := by
  cases e : H p with
  | none => rfl
  | some o =>
    rw [g p o e] at h
    cases h
def spBag (K : PySem.W.Frag) : Sp := fun vs H Q _ => ∃ (a : Addr) (ns : List Int), vs = [.ref a] ∧ SqL K H a (ns.map V.int) ∧ ns.length ≤ 63 ∧ ∀ (B L : Addr) (H' : Hp), Grow H H' → H B = none → H L = none → BagOk B L H' → Q (.ref B) H'
theorem scB : FnScope ["script", "mix", "item"] ["script"] (defScope sBag) := ⟨rfl, rfl, rfl, by decide +kernel, rfl, by decide +kernel, by decide +kernel⟩
theorem cut63 {ns : List Int} (h : ns.length ≤ 63) : cutV (ns.map V.int) none (some 63) = ns.map V.int := by
  unfold cutV
  show ((ns.map V.int).drop 0).take (min (63 : Int).toNat (ns.map V.int).length - 0) = ns.map V.int
  rw [List.drop_zero, List.length_map, Nat.sub_zero]
  refine List.take_of_length_le ?_
  rw [List.length_map]
  show ns.length ≤ min 63 ns.length
  omega
theorem seqK {H H' : Hp} {a : Addr} {xs : List V} (g : Grow H H') (h : SqL K H a xs) : SqL K H' a xs := by
  rcases h with h | h
  · exact .inl (h.imp (fun z => g _ _ z) fun ⟨o, z⟩ => ⟨o, g _ _ z⟩)
  · exact .inr h
theorem ok_bag {f : Addr} {fd : FuncData} (F : Fun K "_law_bag" "_law_bag" sBag f fd) (mI : mg "int" = none) (mL : mg "list" = none) : FnOk P wd K mg base (L2N.CX P wd) 1 f fd ["script"] (spBag K) := by
  obtain ⟨oc, od, kV, doc, pm, an, cdv, ct, osl, rfl, lk, hcd⟩ := F.ex
  refine fn_of lk hcd scB (fun vs H Q E h => ?_) fun A outer s H vs Q E hr h => ?_
  · obtain ⟨a, ns, rfl, _⟩ := h
    rfl
  · obtain ⟨a, ns, rfl, hS, hl, k⟩ := h
    have hcut := cut63 hl
    refine ⟨_, pss_cons (ps_set (i := 1) scB.nd rfl (Or.inl rfl) pe_int) (pss_cons (ps_for (passes_of (K := fun e s'' => L2N.CX P wd outer H s E e s'') rfl) rfl (pi_list (pe_slice sl_list (pv 0) po_none (po_some pe_int))) (pg_name (i := 2) scB.nd rfl (Or.inl rfl))
      (pss_one (ps_set (i := 1) scB.nd rfl (Or.inl rfl) (pe_op op_mod (pe_callTy call_int1 (by rfl) mI (by decide +kernel) (pa_cons (pe_op op_add (pe_op op_add (pe_op op_mul (pv 1) pe_int) (pe_op op_mod (pe_callTy call_int1 (by rfl) mI (by decide +kernel) (pa_cons (pv 2) pa_nil)) pe_int)) pe_int) pa_nil)) pe_int))))
      (pss_one (ps_ret (pe_lst (pa_cons (pe_callTy call_list_of (by rfl) mL (by decide +kernel) (pa_cons (pe_slice sl_list (pv 0) po_none (po_some pe_int)) pa_nil)) (pa_cons pe_int (pa_cons pe_int (pa_cons (pv 1) (pa_cons pe_int pa_nil))))))))), ?_⟩
    refine ⟨_, rfl, 63, rfl, a, _, rfl, hS, fun p hp => ?_⟩
    have g1 : Grow H (upd H p (.lst (cutV (ns.map V.int) none (some 63)))) := (Grow.refl H).new hp
    refine ⟨p, rfl, ⟨_, SqL.of upd_same⟩, for_list (K := K) (a := p) (xs := cutV (ns.map V.int) none (some 63)) (fun i σ H2 => ∃ (m : Int) (v : Option V), σ = [some (.ref a), some (.int m), v] ∧ 0 ≤ m ∧ m < 2147483647 ∧ H2 = upd H p (.lst (cutV (ns.map V.int) none (some 63))))
      ⟨1180547, none, rfl, by decide, by decide, rfl⟩ (fun i σ H2 _ ⟨_, _, _, _, _, e⟩ => by rw [e]; exact SqL.of upd_same) ?_ ?_⟩
    · rintro i y σ H2 hi ⟨m, v, rfl, hm0, hm1, rfl⟩
      rw [hcut] at hi
      obtain ⟨z, rfl⟩ : ∃ z, y = V.int z := by
        rw [List.getElem?_map] at hi
        cases e : ns[i]? with
        | none =>
          rw [e] at hi
          cases hi
        | some z =>
          rw [e] at hi
          exact ⟨z, (Option.some.inj hi).symm⟩
      refine ⟨_, rfl, _, _, rfl, rfl, .inr ⟨by decide, by decide⟩, _, rfl, .inl ⟨_, rfl, _, _, rfl, rfl, (by show (0 : Int) < 2147483579; decide), _, _, rfl, rfl, _, _, rfl, rfl, .inl ⟨_, rfl, _, _, rfl, rfl, (by show (0 : Int) < 2147483647; decide), ?_⟩⟩⟩
      exact ⟨_, some (.int z), rfl, Int.emod_nonneg _ (by decide), Int.emod_lt_of_pos _ (by decide), rfl⟩
    · rintro σ H2 ⟨m, v, rfl, hm0, hm1, rfl⟩
      refine ⟨_, rfl, 63, rfl, a, _, rfl, seqK g1 hS, fun p2 hp2 => ?_⟩
      have g2 := g1.new (u := .lst (cutV (ns.map V.int) none (some 63))) hp2
      refine ⟨p2, _, rfl, .inl (SqL.of upd_same), fun L hL => ?_⟩
      have g3 := g2.new (u := .lst (cutV (ns.map V.int) none (some 63))) hL
      refine ⟨_, rfl, (by show 5 ≤ sizeLine; decide), fun B hB => ?_⟩
      have nBL : L ≠ B := fun z => by
        rw [← z, upd_same] at hB
        cases hB
      refine k B L _ (g3.new hB) (g3.free hB) (g2.free hL) ⟨ns, 0, 0, m, 0, upd_same, ?_, nBL, hl, by decide, by decide, hm0, hm1⟩
      rw [upd_ne nBL, upd_same, hcut]
end
end K1
set_option Elab.async false
set_option linter.all false
set_option maxRecDepth 100000
set_option maxHeartbeats 4000000
namespace K1
open PySem L2 PySem.Spec PyProof.Rows TL
/-- built-in names that no text of ours takes -/
structure Bn (mg : Str → Option Value) : Prop where
  len : mg "len" = none
  list : mg "list" = none
  tuple : mg "tuple" = none
  bool : mg "bool" = none
  int : mg "int" = none
  str : mg "str" = none
  min : mg "min" = none
  all : mg "all" = none
  isi : mg "isinstance" = none
  range : mg "range" = none
  zip : mg "zip" = none
  set : mg "set" = none
theorem at_nat {α : Type} {xs : List α} {j : Nat} {x : α} (h : xs[j]? = some x) : atI xs (j : Int) = some x := by
  have hj := (List.getElem?_eq_some_iff.mp h).1
  unfold atI ixN
  rw [if_pos (by omega), if_pos (by omega), Int.toNat_natCast]
  exact h
section
variable {P : Program} {wd : World} {K : PySem.W.Frag} {mg : Str → Option Value} {base : Heap}
theorem cal_draw (D : DefAt K mg "_law_draw" ["bag", "size"] sDraw) (bn : Bn mg) : Cal P wd K mg base "_law_draw" ["bag", "size"] 1 SDraw := by
  obtain ⟨f, fd, F, m, b⟩ := D
  exact ⟨f, fd, ok_draw F bn.int bn.len, m, F.kp, b⟩
/-- one of the things -/
def SOf : SpD := fun ds Q _ => (∃ xs : List D, ds = [.bag, .lst xs] ∧ 0 < xs.length ∧ xs.length < 1073741824 ∧ ∀ x ∈ xs, Q x) ∨ ∃ z : Str, ds = [.bag, .str z] ∧ 0 < z.length ∧ z.length ≤ sizeLine ∧ ∀ k ∈ z.cps.toList, Q (.str ⟨#[k]⟩)
abbrev sOf : Stmt := top 31
theorem scOf : FnScope ["bag", "things"] ["bag", "things"] (defScope sOf) := ⟨rfl, rfl, rfl, by decide +kernel, rfl, by decide +kernel, by decide +kernel⟩
theorem cal_lof (D : DefAt K mg "_law_of" ["bag", "things"] sOf) (bn : Bn mg) (cD : Cal P wd K mg base "_law_draw" ["bag", "size"] 1 SDraw) : Cal P wd K mg base "_law_of" ["bag", "things"] 2 SOf := by
  refine cal_of D scOf (fun ds Q E h => ?_) (fun f cdv A outer s H E c Ed hr hK tk hp hW => zs_one0 (z0 (z_ret (xd_weak (xd_ix hK (fun _ _ => rfl) (xV 1) (xd_cal hK cD hr tk_no hW_no (xa_cons (xV 0) (xa_cons (xd_len hK bn.len (xa_cons (xV 1) xa_nil)) xa_nil)))))))) fun ds Qd Ed h => ?_
  · rcases h with ⟨xs, rfl, _⟩ | ⟨z, rfl, _⟩ <;> rfl
  · rcases h with ⟨xs, rfl, h0, h1, hq⟩ | ⟨z, rfl, h0, h1, hq⟩
    · refine ⟨_, rfl, _, rfl, _, rfl, _, rfl, by omega, by omega, fun d d0 d1 => ?_⟩
      obtain ⟨j, rfl⟩ : ∃ j : Nat, d = (j : Int) := ⟨d.toNat, by omega⟩
      have hj : j < xs.length := by omega
      exact ⟨xs[j], at_nat (j := j) (List.getElem?_eq_getElem hj), hq _ (List.getElem_mem hj)⟩
    · refine ⟨_, rfl, _, rfl, _, rfl, h1, _, rfl, by omega, by rw [sizeLine_eq] at h1; omega, fun d d0 d1 => ⟨h1, ?_⟩⟩
      obtain ⟨j, rfl⟩ : ∃ j : Nat, d = (j : Int) := ⟨d.toNat, by omega⟩
      have hj : j < z.cps.toList.length := by
        have e : z.length = z.cps.toList.length := rfl
        omega
      exact ⟨z.cps.toList[j], at_nat (j := j) (List.getElem?_eq_getElem hj), hq _ (List.getElem_mem hj)⟩
end
end K1
set_option Elab.async false
set_option linter.all false
set_option maxRecDepth 100000
set_option maxHeartbeats 4000000
namespace K1
open PySem L2 PySem.Spec PyProof.Rows TL
/-- the primes, and 0 for fractions -/
def Pr : List Int := [0, 2, 3, 5, 7, 11, 13, 17, 19, 23, 29, 31, 37, 41, 43, 47, 53, 59, 61, 67, 71, 73, 79, 83, 89, 97]
/-- the text of a kind of numbers -/
def kindText (p : Int) : Str := if p = 0 then "fractions" else ("rests " : Str) ++ (toString p : Str)
def waysText (w : Nat) : Str := if w = 1 then "x" else if w = 2 then "x y" else "x y z"
def landD (p : Int) (w : Nat) (ns : List Str) : D := .tup [.int p, .int w, .lst (ns.map D.str)]
def groundText (p : Int) (w : Nat) (ns : List Str) : Str := kindText p ++ "\ndirections " ++ waysText w ++ "\nnames " ++ Txt.join " " ns ++ "\n"
theorem pr_log : ∀ p ∈ Pr, p.natAbs.log2 < 1920 := by decide
theorem pr_len : ∀ p ∈ Pr, (toString p : Str).length ≤ 2 := by decide +kernel
theorem kt_len : ∀ p ∈ Pr, (kindText p).length ≤ 9 := by decide +kernel
theorem big : 65536 ≤ sizeLine := by rw [sizeLine_eq]; decide
section
variable {P : Program} {wd : World} {K : PySem.W.Frag} {mg : Str → Option Value} {base : Heap}
theorem join_le (sep : Str) (ys : List Str) : (Txt.join sep ys).length ≤ (ys.map (·.length)).sum + ys.length * sep.length := by
  rw [show Txt.join sep ys = Str.join sep ys from StrLaws.glued_eq_join ..]
  exact StrLaws.join_length_le sep ys
theorem len_app (a b : Str) : (a ++ b).length = a.length + b.length := PySem.Str.length_append a b
theorem sum_le6 : ∀ {ns : List Str}, (∀ x ∈ ns, x.length ≤ 6) → (ns.map (·.length)).sum ≤ 6 * ns.length
  | [], _ => by simp
  | x :: r, h => by
    have h1 := h x (by simp)
    have h2 := sum_le6 (ns := r) fun y hy => h y (by simp [hy])
    rw [List.map_cons, List.sum_cons, List.length_cons]
    omega
theorem ways_cut (w : Nat) (h1 : 1 ≤ w) (h3 : w ≤ 3) : ∃ ys : List Str, cutD [.str "x", .str "y", .str "z"] none (some (w : Int)) = ys.map D.str ∧ (ys.map (·.length)).sum + ys.length * (" " : Str).length ≤ 16777216 ∧ Txt.join " " ys = waysText w ∧ (waysText w).length ≤ 5 := by
  have hw : w = 1 ∨ w = 2 ∨ w = 3 := by omega
  rcases hw with rfl | rfl | rfl
  · exact ⟨["x"], rfl, by decide +kernel, by decide +kernel, by decide +kernel⟩
  · exact ⟨["x", "y"], rfl, by decide +kernel, by decide +kernel, by decide +kernel⟩
  · exact ⟨["x", "y", "z"], rfl, by decide +kernel, by decide +kernel, by decide +kernel⟩
def SKind : SpD := fun ds Q _ => ∃ p : Int, ds = [.int p] ∧ p ∈ Pr ∧ Q (.str (kindText p))
abbrev sKt : Stmt := top 33
theorem scKt : FnScope ["prime"] ["prime"] (defScope sKt) := ⟨rfl, rfl, rfl, by decide +kernel, rfl, by decide +kernel, by decide +kernel⟩
theorem calKt (Dat : DefAt K mg "_law_kind_text" ["prime"] sKt) (bn : Bn mg)  : Cal P wd K mg base "_law_kind_text" ["prime"] 1 SKind := by
  refine cal_of Dat scKt (fun ds Q E h => ?_) (fun f cdv A outer s H E c Ed hr hK tk hp hW => have hu := room_units hr; (zs0 (zs_one (z_ret (xd_weak (xd_if (xt_eq (w := true) hK hu (xV 0) xd_int) xd_str (xd_add xd_str (xd_strI bn.str (xa_cons (xV 0) xa_nil))))))))) fun ds Qd Ed h => ?_
  · obtain ⟨p, rfl, _⟩ := h
    rfl
  · obtain ⟨p, rfl, hp, hq⟩ := h
    unfold kindText at hq
    refine ⟨_, rfl, _, rfl, ite2 (fun h => ?_) fun h => ?_⟩
    · have h0 : p = 0 := by simpa [sameD] using h
      rw [if_pos h0] at hq
      exact hq
    · have h0 : ¬ p = 0 := by simpa [sameD] using h
      rw [if_neg h0] at hq
      have l := pr_len p hp
      have z := big
      exact ⟨_, rfl, pr_log p hp, by show 6 + (toString p : Str).length ≤ sizeLine; omega, hq⟩
/-- what is asked of a ground -/
structure LandOk (p : Int) (w : Nat) (ns : List Str) : Prop where
  p : p ∈ Pr
  w1 : 1 ≤ w
  w3 : w ≤ 3
  n : ns.length ≤ 8
  l : ∀ x ∈ ns, x.length ≤ 6
def SGt : SpD := fun ds Q _ => ∃ p w ns, ds = [landD p w ns] ∧ LandOk p w ns ∧ Q (.str (groundText p w ns))
abbrev sGt : Stmt := top 34
theorem scGt : FnScope ["land", "ways"] ["land"] (defScope sGt) := ⟨rfl, rfl, rfl, by decide +kernel, rfl, by decide +kernel, by decide +kernel⟩
theorem calGt (Dat : DefAt K mg "_law_ground_text" ["land"] sGt) (bn : Bn mg) (c__law_kind_text : Cal P wd K mg base "_law_kind_text" ["prime"] 1 SKind) : Cal P wd K mg base "_law_ground_text" ["land"] 2 SGt := by
  refine cal_of Dat scGt (fun ds Q E h => ?_) (fun f cdv A outer s H E c Ed hr hK tk hp hW => have hu := room_units hr; (zs0 (zs_cons (zS 1 scGt.nd (xd_join hK xd_str (xd_slice hK (xd_new (xf_lst (xa_cons xd_str (xa_cons xd_str (xa_cons xd_str xa_nil))))) xo_none (xo_some (xd_ix hK (fun _ _ => rfl) (xV 0) xd_int))))) (zs_one (z_ret (xd_weak (xd_add (xd_add (xd_add (xd_add (xd_add (xd_cal hK c__law_kind_text hr tk_no hW_no (xa_cons (xd_ix hK (fun _ _ => rfl) (xV 0) xd_int) xa_nil)) xd_str) (xV 1)) xd_str) (xd_join hK xd_str (xd_ix hK (fun _ _ => rfl) (xV 0) xd_int))) xd_str))))))) fun ds Qd Ed h => ?_
  · obtain ⟨p, w, ns, rfl, _⟩ := h
    rfl
  · obtain ⟨p, w, ns, rfl, L, hq⟩ := h
    obtain ⟨ys, e1, e2, e3, e4⟩ := ways_cut w L.w1 L.w3
    have z := big
    have lk := kt_len p L.p
    have l6 := sum_le6 L.l
    have lj := join_le " " ns
    have l1 : (" " : Str).length = 1 := by decide +kernel
    have l2 : ("\ndirections " : Str).length = 12 := by decide +kernel
    have l3 : ("\nnames " : Str).length = 7 := by decide +kernel
    have l4 : ("\n" : Str).length = 1 := by decide +kernel
    have ln := L.n
    rw [l1] at lj
    refine ⟨_, rfl, (by show 3 ≤ sizeLine; omega), _, rfl, _, rfl, _, rfl, ys, .inl (congrArg TL.D.lst e1), e2, ?_⟩
    rw [e3]
    refine ⟨_, rfl, _, rfl, p, rfl, L.p, ?_⟩
    refine ⟨by rw [l2]; omega, _, rfl, by rw [len_app, l2]; omega, by rw [len_app, len_app, l2, l3]; omega, _, rfl, _, rfl, _, rfl, ns, .inl rfl, by rw [l1]; omega, by rw [len_app, len_app, len_app, l2, l3]; omega, by rw [len_app, len_app, len_app, len_app, l2, l3, l4]; omega, hq⟩
end
end K1
set_option Elab.async false
set_option linter.all false
set_option maxRecDepth 100000
set_option maxHeartbeats 8000000
namespace K1
open PySem L2 PySem.Spec PyProof.Rows TL
def LET : Str := "abcdefghijklmnopqrstuvwxyz"
def SGN : Str := "abcdefghijklmnopqrstuvwxyz0123456789"
/-- a letter, then letters and figures, six signs at most -/
def patB (m : Str) : Bool := decide (m.length ≤ 6) && (match m.cps.toList with | [] => false | k :: _ => decide (k ∈ LET.cps.toList)) && m.cps.toList.all fun k => decide (k ∈ SGN.cps.toList)
def notDir (m : Str) : Bool := !(m == "x" || (m == "y" || m == "z"))
def isName (m : Str) : Bool := patB m && notDir m
def words14 : List Str := ["names", "law", "done", "book", "corner", "form", "at", "x1", "yy", "z9z", "rests", "r0", "s0", "h0"]
def spare : List Str := ["u", "v2", "w", "q", "t0", "e", "d7", "a", "aa", "b", "m3"]
theorem words_pat : ∀ m ∈ words14, patB m = true := by decide +kernel
theorem spare_name : ∀ m ∈ spare, isName m = true := by decide +kernel
theorem let_pat : ∀ k ∈ LET.cps.toList, patB ⟨#[k]⟩ = true := by decide +kernel
theorem pat_more {m : Str} {k : Nat} (h : patB m = true) (hk : k ∈ SGN.cps.toList) (hl : m.length ≤ 5) : patB (m ++ ⟨#[k]⟩) = true := by
  obtain ⟨cs⟩ := m
  obtain ⟨l⟩ := cs
  unfold patB at h ⊢
  simp only [Bool.and_eq_true, decide_eq_true_eq] at h ⊢
  obtain ⟨⟨h1, h2⟩, h3⟩ := h
  have ap : ((⟨⟨l⟩⟩ : Str) ++ ⟨#[k]⟩).cps.toList = l ++ [k] := by simp [PySem.Str.cps_append]
  refine ⟨⟨?_, ?_⟩, ?_⟩
  · rw [len_app]
    show _ + 1 ≤ 6
    omega
  · rw [ap]
    cases l with
    | nil => exact absurd h2 Bool.false_ne_true
    | cons a r => exact h2
  · rw [ap, List.all_append, Bool.and_eq_true]
    exact ⟨h3, by simpa using hk⟩
theorem nodup_le : ∀ {xs ys : List Str}, xs.Nodup → (∀ x ∈ xs, x ∈ ys) → xs.length ≤ ys.length
  | [], _, _, _ => Nat.zero_le _
  | x :: r, ys, h, hs => by
    obtain ⟨h1, h2⟩ := List.nodup_cons.mp h
    have hx := hs x (by simp)
    have := nodup_le (xs := r) (ys := ys.erase x) h2 fun y hy => (List.mem_erase_of_ne (fun z => h1 (by rw [← z]; exact hy))).mpr (hs y (by simp [hy]))
    have l := List.length_erase_of_mem hx
    have p := List.length_pos_of_mem hx
    rw [List.length_cons]
    omega
theorem inS_strs {m : Str} {ys : List Str} : inS (.str m) (ys.map D.str) = decide (m ∈ ys) := by
  unfold inS
  rw [List.any_map]
  induction ys with
  | nil => rfl
  | cons y r ih =>
    rw [List.any_cons, ih]
    show ((y == m) || decide (m ∈ r)) = decide (m ∈ y :: r)
    by_cases e : m = y
    · subst e; simp
    · have e' : (y == m) = false := beq_eq_false_iff_ne.mpr fun z => e z.symm
      simp [e, e']
theorem flat_strsD {ys : List Str} : (ys.map D.str).all flatS = true := by
  induction ys with
  | nil => rfl
  | cons y r ih => rw [List.map_cons, List.all_cons, ih]; rfl
section
variable {P : Program} {wd : World} {K : PySem.W.Frag} {mg : Str → Option Value} {base : Heap}
def SName : SpD := fun ds Q _ => ∃ tk : List Str, ds = [.bag, .lst (tk.map D.str)] ∧ tk.length ≤ 10 ∧ ∀ m, isName m = true → m ∉ tk → Q (.str m)
abbrev sNm : Stmt := top 35
theorem scNm : FnScope ["bag", "taken", "pick", "mine", "k"] ["bag", "taken"] (defScope sNm) := ⟨rfl, rfl, rfl, by decide +kernel, rfl, by decide +kernel, by decide +kernel⟩
theorem calNm (Dat : DefAt K mg "_law_name" ["bag", "taken"] sNm) (bn : Bn mg) (c__law_draw : Cal P wd K mg base "_law_draw" ["bag", "size"] 1 SDraw) (c__law_of : Cal P wd K mg base "_law_of" ["bag", "things"] 2 SOf) : Cal P wd K mg base "_law_name" ["bag", "taken"] 3 SName := by
  refine cal_of Dat scNm (fun ds Q E h => ?_) (fun f cdv A outer s H E c Ed hr hK tk hp hW => have hu := room_units hr; (zs0 (zs_cons (zS 2 scNm.nd (xd_cal hK c__law_draw hr tk_no hW_no (xa_cons (xV 0) (xa_cons xd_int xa_nil)))) (zs_cons (z_if (xt_eq (w := true) hK hu (xV 2) xd_int) (zs_one (zS 3 scNm.nd (xd_cal hK c__law_of hr tk_no hW_no (xa_cons (xV 0) (xa_cons (xd_new (xf_lst (xa_cons xd_str (xa_cons xd_str (xa_cons xd_str (xa_cons xd_str (xa_cons xd_str (xa_cons xd_str (xa_cons xd_str (xa_cons xd_str (xa_cons xd_str (xa_cons xd_str (xa_cons xd_str (xa_cons xd_str (xa_cons xd_str (xa_cons xd_str xa_nil)))))))))))))))) xa_nil))))) (zs_cons (zS 3 scNm.nd (xd_cal hK c__law_of hr tk_no hW_no (xa_cons (xV 0) (xa_cons xd_str xa_nil)))) (zs_one (z_for hp rfl (xi_range1 bn.range (xd_cal hK c__law_of hr tk_no hW_no (xa_cons (xV 0) (xa_cons (xd_new (xf_lst (xa_cons xd_int (xa_cons xd_int (xa_cons xd_int (xa_cons xd_int (xa_cons xd_int (xa_cons xd_int (xa_cons xd_int xa_nil))))))))) xa_nil)))) (yN 4 scNm.nd) (zs_one (zS 3 scNm.nd (xd_add (xV 3) (xd_cal hK c__law_of hr tk_no hW_no (xa_cons (xV 0) (xa_cons xd_str xa_nil)))))))))) (zs_cons (z_if (xt_w (xw_or (xt_in (w := true) hK rfl (xV 3) (xd_tup (xa_cons xd_str (xa_cons xd_str (xa_cons xd_str xa_nil))))) (xw_or1 (xt_in (w := true) hK rfl (xV 3) (xV 1))))) (zs_one (z_fg 4 (z_ret (xd_weak (xd_ix hK (fun _ _ => rfl) (xd_new (xf_lc rfl scNm.nd (xi_list hK (xd_new (xf_lst (xa_cons xd_str (xa_cons xd_str (xa_cons xd_str (xa_cons xd_str (xa_cons xd_str (xa_cons xd_str (xa_cons xd_str (xa_cons xd_str (xa_cons xd_str (xa_cons xd_str (xa_cons xd_str xa_nil)))))))))))))) (blkOk_by (N := ["bag", "taken", "pick", "mine", "k"]) (sc := defScope sNm) (own := [("k", 4)]) (by decide +kernel)) (fun _ h => h) (fun _ _ _ _ _ _ => (yN 4 scNm.nd)) (fun _ _ _ _ _ _ => (xts_one (xt_notin (w := true) hK rfl (xV 4) (xV 1)))) (fun _ _ _ _ _ _ => (xV 4)))) xd_int))))) zs_nil) (zs_one (z_ret (xd_weak (xV 3))))))))) fun ds Qd Ed h => ?_
  · obtain ⟨tk, rfl, _⟩ := h
    rfl
  · obtain ⟨tk, rfl, htk, hq⟩ := h
    have z := big
    refine ⟨_, rfl, 6, rfl, by decide, by decide, fun d d0 d1 => ?_⟩
    dsimp only
    refine seq_cut (fun γ' => ∃ (m : Str) (s : Option Slot), patB m = true ∧ γ' = [some (.val .bag), some (.val (.lst (tk.map D.str))), some (.val (.int d)), some (.val (.str m)), s]) (fun γ' ⟨m, s, hm, e⟩ => ?_) fun R hR => ?_
    · subst e
      have hname : ∀ n, isName n = true → n ∉ tk → Qd (.str n) := hq
      have nm : notDir m = !(decide (m ∈ (["x", "y", "z"] : List Str))) := by
        unfold notDir
        by_cases e1 : m = "x"
        · subst e1; decide +kernel
        · by_cases e2 : m = "y"
          · subst e2; decide +kernel
          · by_cases e3 : m = "z"
            · subst e3; decide +kernel
            · have f1 : (m == ("x" : Str)) = false := beq_eq_false_iff_ne.mpr e1
              have f2 : (m == ("y" : Str)) = false := beq_eq_false_iff_ne.mpr e2
              have f3 : (m == ("z" : Str)) = false := beq_eq_false_iff_ne.mpr e3
              simp [f1, f2, f3, e1, e2, e3]
      -- what stands in for a name that may not be
      have spares : ∀ (s : Option Slot), zFg 4 (zRet (xOp dIx (xNew (xLc (fun γ Q => xNew (xLst (xCons (xC (D.str "u")) (xCons (xC (D.str "v2")) (xCons (xC (D.str "w")) (xCons (xC (D.str "q")) (xCons (xC (D.str "t0")) (xCons (xC (D.str "e")) (xCons (xC (D.str "d7")) (xCons (xC (D.str "a")) (xCons (xC (D.str "aa")) (xCons (xC (D.str "b")) (xCons (xC (D.str "m3")) xNil)))))))))))) γ fun d => ∃ ds, d = D.lst ds ∧ Q ds) (yName 4) (xB (xOp (dIn true) (xVar 4) (xVar 1))) (xVar 4) [4])) (xC (D.int 0))))
          { nx := fun _ => Qd D.non, rt := Qd } [some (Slot.val D.bag), some (Slot.val (D.lst (tk.map D.str))), some (Slot.val (D.int d)), some (Slot.val (D.str m)), s] := fun s => by
        refine ⟨(by show 11 ≤ sizeLine; omega), spare.map D.str, rfl, by show 11 < sizeLine; omega, rfl, ?_⟩
        refine lc_map (p := fun d => match d with | .str y => decide (y ∉ tk) | _ => false) (f := fun d => d) (spare.map D.str) [] _ (fun d hd R hR => ?_) ?_
        · obtain ⟨y, hy, rfl⟩ := List.mem_map.mp hd
          refine hR _ (fun R' h' => ⟨_, rfl, _, rfl, rfl, flat_strsD, _, rfl, ?_⟩) fun _ R' h' => ⟨_, rfl, h'⟩
          rw [inS_strs]
          have e : (true ^^ decide (y ∈ tk)) = decide (y ∉ tk) := by by_cases h : y ∈ tk <;> simp [h]
          rw [e]
          exact h'
        · have fl : (spare.map D.str).filter (fun d => match d with | .str y => decide (y ∉ tk) | _ => false) = (spare.filter fun y => decide (y ∉ tk)).map D.str := by
            rw [List.filter_map]
            rfl
          rw [List.nil_append, fl, List.map_id'' (fun _ => rfl)]
          cases e : spare.filter fun y => decide (y ∉ tk) with
          | nil =>
            have all : ∀ y ∈ spare, y ∈ tk := fun y hy => by
              by_cases h : y ∈ tk
              · exact h
              · have : y ∈ spare.filter fun y => decide (y ∉ tk) := List.mem_filter.mpr ⟨hy, decide_eq_true h⟩
                rw [e] at this
                cases this
            have := nodup_le (by decide +kernel : spare.Nodup) all
            have e11 : spare.length = 11 := rfl
            omega
          | cons y r =>
            have hy : y ∈ spare.filter fun y => decide (y ∉ tk) := by rw [e]; simp
            obtain ⟨h1, h2⟩ := List.mem_filter.mp hy
            exact ⟨.str y, at_nat (j := 0) rfl, hname y (spare_name y h1) (of_decide_eq_true h2)⟩
      refine ⟨_, rfl, (by show 3 ≤ sizeLine; omega), rfl, rfl, _, rfl, ite2 (fun _ => iteT (spares s)) fun h1 => ⟨_, rfl, _, rfl, rfl, flat_strsD, _, rfl, ite2 (fun _ => spares s) fun h2 => ⟨_, rfl, hname m ?_ ?_⟩⟩⟩
      · have e1 : inS (.str m) ((["x", "y", "z"] : List Str).map D.str) = false := by
          cases hh : inS (.str m) ((["x", "y", "z"] : List Str).map D.str) with
          | false => rfl
          | true => exact absurd (by show (false ^^ inS (.str m) ((["x", "y", "z"] : List Str).map D.str)) = true; rw [hh]; rfl) h1
        rw [inS_strs] at e1
        unfold isName
        rw [hm, nm, e1]
        rfl
      · have e2 : inS (.str m) (tk.map D.str) = false := by
          cases hh : inS (.str m) (tk.map D.str) with
          | false => rfl
          | true => exact absurd (by show (false ^^ inS (.str m) (tk.map D.str)) = true; rw [hh]; rfl) h2
        rw [inS_strs] at e2
        exact of_decide_eq_false e2
    · refine ⟨_, rfl, _, rfl, ite2 (fun _ => ?_) fun _ => ?_⟩
      · refine ⟨_, rfl, (by show 14 ≤ sizeLine; omega), .inl ⟨words14.map D.str, rfl, by decide, by decide, fun x hx => ?_⟩⟩
        obtain ⟨m, hm, rfl⟩ := List.mem_map.mp hx
        exact hR _ ⟨m, none, words_pat m hm, rfl⟩
      · refine ⟨_, rfl, .inr ⟨LET, rfl, by decide +kernel, Nat.le_trans (by decide +kernel : LET.length ≤ 65536) z, fun k hk => ?_⟩⟩
        dsimp only
        have I5 : ∀ n ∈ ([0, 1, 0, 2, 5, 0, 3] : List Int), 0 ≤ n ∧ n ≤ 5 := by decide
        refine ⟨_, rfl, (by show 7 ≤ sizeLine; omega), .inl ⟨([0, 1, 0, 2, 5, 0, 3] : List Int).map D.int, rfl, by decide, by decide, fun x hx => ?_⟩⟩
        obtain ⟨n, hn, rfl⟩ := List.mem_map.mp hx
        obtain ⟨n0, n5⟩ := I5 n hn
        refine ⟨n, rfl, by omega, by omega, ?_⟩
        refine for_inv _ (fun i γ' => ∃ (m : Str) (s : Option Slot), patB m = true ∧ m.length = i + 1 ∧ γ' = [some (.val .bag), some (.val (.lst (tk.map D.str))), some (.val (.int d)), some (.val (.str m)), s]) _ ⟨⟨#[k]⟩, none, let_pat k hk, rfl, rfl⟩ (fun i e γ' hi ⟨m, s, hm, hml, eγ⟩ N hN => ?_) fun γ' ⟨m, s, hm, _, eγ⟩ => hR γ' ⟨m, s, hm, eγ⟩
        subst eγ
        have hi6 : i < 5 := by
          have h1 := (List.getElem?_eq_some_iff.mp hi).1
          have h2 : (rangeD 0 n.toNat).length = n.toNat := by unfold rangeD; simp
          omega
        refine ⟨_, rfl, _, rfl, .inr ⟨SGN, rfl, by decide +kernel, Nat.le_trans (by decide +kernel : SGN.length ≤ 65536) z, fun k2 hk2 => ⟨?_, ?_⟩⟩⟩
        · rw [hml]
          show i + 1 + 1 ≤ sizeLine
          omega
        · exact hN _ ⟨m ++ ⟨#[k2]⟩, some (.val e), pat_more hm hk2 (by omega), by rw [len_app, hml]; rfl, rfl⟩
end
end K1
set_option Elab.async false
set_option linter.all false
set_option maxRecDepth 100000
set_option maxHeartbeats 8000000
namespace K1
open PySem L2 PySem.Spec PyProof.Rows TL
/-- a ground as the law draws it -/
structure LandN (p : Int) (w : Nat) (ns : List Str) : Prop where
  p : p ∈ Pr
  w1 : 1 ≤ w
  w3 : w ≤ 3
  n1 : 1 ≤ ns.length
  nd : ns.Nodup
  nm : ∀ x ∈ ns, isName x = true
theorem name_len {m : Str} (h : isName m = true) : m.length ≤ 6 := by
  unfold isName patB at h
  simp only [Bool.and_eq_true, decide_eq_true_eq] at h
  exact h.1.1.1
theorem LandN.ok {p : Int} {w : Nat} {ns : List Str} (h : LandN p w ns) (h8 : ns.length ≤ 8) : LandOk p w ns := ⟨h.p, h.w1, h.w3, h8, fun x hx => name_len (h.nm x hx)⟩
section
variable {P : Program} {wd : World} {K : PySem.W.Frag} {mg : Str → Option Value} {base : Heap}
def SLand : SpD := fun ds Q _ => ds = [.bag, .int 4] ∧ ∀ p w ns, LandN p w ns → ns.length ≤ 4 → Q (landD p w ns)
abbrev sLd : Stmt := top 36
theorem scLd : FnScope ["bag", "most", "prime", "ways", "labels", "k"] ["bag", "most"] (defScope sLd) := ⟨rfl, rfl, rfl, by decide +kernel, rfl, by decide +kernel, by decide +kernel⟩
theorem calLd (Dat : DefAt K mg "_law_land" ["bag", "most"] sLd) (bn : Bn mg) (c__law_draw : Cal P wd K mg base "_law_draw" ["bag", "size"] 1 SDraw) (c__law_of : Cal P wd K mg base "_law_of" ["bag", "things"] 2 SOf) (c__law_name : Cal P wd K mg base "_law_name" ["bag", "taken"] 3 SName) : Cal P wd K mg base "_law_land" ["bag", "most"] 4 SLand := by
  refine cal_of Dat scLd (fun ds Q E h => ?_) (fun f cdv A outer s H E c Ed hr hK tk hp hW => have hu := room_units hr; (zs0 (zs_cons (zS 2 scLd.nd (xd_cal hK c__law_of hr tk_no hW_no (xa_cons (xV 0) (xa_cons (xd_new (xf_lst (xa_cons xd_int (xa_cons xd_int (xa_cons xd_int (xa_cons xd_int (xa_cons xd_int (xa_cons xd_int (xa_cons xd_int (xa_cons xd_int (xa_cons xd_int (xa_cons xd_int xa_nil)))))))))))) xa_nil)))) (zs_cons (z_if (xt_eq (w := true) hK hu (xd_cal hK c__law_draw hr tk_no hW_no (xa_cons (xV 0) (xa_cons xd_int xa_nil))) xd_int) (zs_one (zS 2 scLd.nd (xd_cal hK c__law_of hr tk_no hW_no (xa_cons (xV 0) (xa_cons (xd_new (xf_lst (xa_cons xd_int (xa_cons xd_int (xa_cons xd_int (xa_cons xd_int (xa_cons xd_int (xa_cons xd_int (xa_cons xd_int (xa_cons xd_int (xa_cons xd_int (xa_cons xd_int (xa_cons xd_int (xa_cons xd_int (xa_cons xd_int (xa_cons xd_int xa_nil)))))))))))))))) xa_nil))))) zs_nil) (zs_cons (zS 3 scLd.nd (xd_cal hK c__law_of hr tk_no hW_no (xa_cons (xV 0) (xa_cons (xd_new (xf_lst (xa_cons xd_int (xa_cons xd_int (xa_cons xd_int (xa_cons xd_int (xa_cons xd_int (xa_cons xd_int (xa_cons xd_int (xa_cons xd_int (xa_cons xd_int (xa_cons xd_int xa_nil)))))))))))) xa_nil)))) (zs_cons (zO 4 scLd.nd (xf_lst xa_nil)) (zs_cons (z_for hp rfl (xi_range1 bn.range (xd_min2 rfl bn.min (xa_cons (xV 1) (xa_cons (xd_cal hK c__law_of hr tk_no hW_no (xa_cons (xV 0) (xa_cons (xd_new (xf_lst (xa_cons xd_int (xa_cons xd_int (xa_cons xd_int (xa_cons xd_int (xa_cons xd_int (xa_cons xd_int (xa_cons xd_int (xa_cons xd_int (xa_cons xd_int (xa_cons xd_int xa_nil)))))))))))) xa_nil))) xa_nil)))) (yN 5 scLd.nd) (zs_one (z_app (pv 4) (xd_flat (xd_calB hK c__law_name hr tk_no hW_no (xa_cons (xV 0) (xa_cons (xO 4) xa_nil)))) hK))) (zs_one (z_ret (xd_tup (xa_cons (xV 2) (xa_cons (xV 3) (xa_cons (xO 4) xa_nil))))))))))))) fun ds Qd Ed h => ?_
  · obtain ⟨rfl, _⟩ := h
    rfl
  · obtain ⟨rfl, hq⟩ := h
    have z := big
    have P1 : ∀ n ∈ ([2, 3, 5, 7, 0, 0, 0, 2, 3, 5] : List Int), n ∈ Pr := by decide
    have P2 : ∀ n ∈ ([11, 13, 31, 47, 71, 89, 97, 17, 59, 83, 23, 41, 19, 67] : List Int), n ∈ Pr := by decide
    have W1 : ∀ n ∈ ([2, 1, 2, 3, 2, 2, 1, 3, 2, 1] : List Int), 1 ≤ n ∧ n ≤ 3 := by decide
    have N1 : ∀ n ∈ ([1, 2, 2, 3, 1, 3, 2, 1, 3, 4] : List Int), 1 ≤ n ∧ n ≤ 4 := by decide
    refine ⟨_, rfl, (by show 10 ≤ sizeLine; omega), .inl ⟨([2, 3, 5, 7, 0, 0, 0, 2, 3, 5] : List Int).map D.int, rfl, by decide, by decide, fun x hx => ?_⟩⟩
    obtain ⟨p0, hp0, rfl⟩ := List.mem_map.mp hx
    dsimp only
    refine seq_cut (fun γ' => ∃ p : Int, p ∈ Pr ∧ γ' = [some (.val .bag), some (.val (.int 4)), some (.val (.int p)), none, none, none]) (fun γ' ⟨p, hp, e⟩ => ?_) fun R hR => ?_
    · subst e
      refine ⟨_, rfl, (by show 10 ≤ sizeLine; omega), .inl ⟨([2, 1, 2, 3, 2, 2, 1, 3, 2, 1] : List Int).map D.int, rfl, by decide, by decide, fun x hx => ?_⟩⟩
      obtain ⟨w, hw, rfl⟩ := List.mem_map.mp hx
      obtain ⟨w1, w3⟩ := W1 w hw
      refine ⟨(by show 0 ≤ sizeLine; omega), ?_⟩
      dsimp only
      refine seq_cut (fun γ' => ∃ (ns : List Str) (s : Option Slot), 1 ≤ ns.length ∧ ns.length ≤ 4 ∧ ns.Nodup ∧ (∀ x ∈ ns, isName x = true) ∧ γ' = [some (.val .bag), some (.val (.int 4)), some (.val (.int p)), some (.val (.int w)), some (.own (ns.map D.str)), s]) (fun γ' ⟨ns, s, n1, n4, nd, nm, e⟩ => ?_) fun R hR => ?_
      · subst e
        obtain ⟨wn, rfl⟩ : ∃ wn : Nat, w = (wn : Int) := ⟨w.toNat, by omega⟩
        refine ⟨_, rfl, _, rfl, _, rfl, (by show 3 ≤ sizeLine; omega), hq p wn ns ⟨hp, by omega, by omega, n1, nd, nm⟩ n4⟩
      · refine ⟨_, rfl, _, rfl, (by show 10 ≤ sizeLine; omega), .inl ⟨([1, 2, 2, 3, 1, 3, 2, 1, 3, 4] : List Int).map D.int, rfl, by decide, by decide, fun x hx => ?_⟩⟩
        obtain ⟨n, hn, rfl⟩ := List.mem_map.mp hx
        obtain ⟨n1, n4⟩ := N1 n hn
        have hj : (if n < 4 then n else 4) = n := by split <;> omega
        refine ⟨n, by rw [hj], by omega, by omega, ?_⟩
        have hl : (rangeD 0 n.toNat).length = n.toNat := by unfold rangeD; simp
        refine for_inv _ (fun i γ' => ∃ (ns : List Str) (s : Option Slot), ns.length = i ∧ ns.Nodup ∧ (∀ x ∈ ns, isName x = true) ∧ γ' = [some (.val .bag), some (.val (.int 4)), some (.val (.int p)), some (.val (.int w)), some (.own (ns.map D.str)), s]) _ ⟨[], none, rfl, List.nodup_nil, by simp, rfl⟩
          (fun i e γ' hi ⟨ns, s, hns, nd, nm, eγ⟩ N hN => ?_) fun γ' ⟨ns, s, hns, nd, nm, eγ⟩ => hR γ' ⟨ns, s, by omega, by omega, nd, nm, eγ⟩
        subst eγ
        have hi4 : i < 4 := by
          have h1 := (List.getElem?_eq_some_iff.mp hi).1
          omega
        refine ⟨_, rfl, _, rfl, _, rfl, ns, rfl, by omega, fun m hm hnot => ⟨rfl, ?_, ?_⟩⟩
        · rw [List.length_map]
          omega
        · exact hN _ ⟨ns ++ [m], some (.val e), by rw [List.length_append, hns]; rfl, List.nodup_append.mpr ⟨nd, by simp, by intro a ha b hb; simp at hb; subst hb; exact fun z => hnot (z ▸ ha)⟩, fun x hx => by
            rcases List.mem_append.mp hx with h | h
            · exact nm x h
            · simp at h; subst h; exact hm, by rw [List.map_append]; rfl⟩
    · refine ⟨_, rfl, 5, rfl, by decide, by decide, fun d d0 d1 => ⟨_, rfl, ite2 (fun _ => ?_) fun _ => hR _ ⟨p0, P1 p0 hp0, rfl⟩⟩⟩
      refine ⟨_, rfl, (by show 14 ≤ sizeLine; omega), .inl ⟨([11, 13, 31, 47, 71, 89, 97, 17, 59, 83, 23, 41, 19, 67] : List Int).map D.int, rfl, by decide, by decide, fun x hx => ?_⟩⟩
      obtain ⟨p, hp, rfl⟩ := List.mem_map.mp hx
      exact hR _ ⟨p, P2 p hp, rfl⟩
end
end K1
set_option Elab.async false
set_option linter.all false
set_option maxRecDepth 100000
set_option maxHeartbeats 8000000
namespace K1
open PySem L2 PySem.Spec PyProof.Rows TL
theorem lc_each {α : Type} {G : TGD} {Tt : TTD} {Te : TED} {γ : TL.Env} {inj f : α → D} : ∀ (xs : List α) (acc : List D) (Q : List D → Prop), (∀ a ∈ xs, ∀ R : TL.Env → Prop, (∀ γ' : TL.Env, (∀ R' : Bool → Prop, R' true → Tt γ' R') → (∀ R' : D → Prop, R' (f a) → Te γ' R') → R γ') → G (inj a) γ R) → Q (acc ++ xs.map f) → lcD G Tt Te γ (xs.map inj) acc Q
  | [], acc, Q, _, hq => by
    unfold lcD
    simpa using hq
  | a :: xs, acc, Q, h, hq => by
    rw [List.map_cons]
    unfold lcD
    refine h a (by simp) _ fun γ' h1 h2 => h1 _ ?_
    rw [if_pos rfl]
    refine h2 _ (lc_each xs _ Q (fun a' ha => h a' (by simp [ha])) ?_)
    simpa [List.append_assoc] using hq
theorem dir_dec (m : Str) : notDir m = !(decide (m ∈ (["x", "y", "z"] : List Str))) := by
  unfold notDir
  by_cases e1 : m = "x"
  · subst e1; decide +kernel
  · by_cases e2 : m = "y"
    · subst e2; decide +kernel
    · by_cases e3 : m = "z"
      · subst e3; decide +kernel
      · have f1 : (m == ("x" : Str)) = false := beq_eq_false_iff_ne.mpr e1
        have f2 : (m == ("y" : Str)) = false := beq_eq_false_iff_ne.mpr e2
        have f3 : (m == ("z" : Str)) = false := beq_eq_false_iff_ne.mpr e3
        simp [f1, f2, f3, e1, e2, e3]
section
variable {P : Program} {wd : World} {K : PySem.W.Frag} {mg : Str → Option Value} {base : Heap}
def SNameSo : SpD := fun ds Q _ => ∃ w : Str, ds = [.str w] ∧ w.length < sizeLine ∧ Q (.bl (isName w))
abbrev sNs : Stmt := top 37
theorem scNs : FnScope ["word", "sign"] ["word"] (defScope sNs) := ⟨rfl, rfl, rfl, by decide +kernel, rfl, by decide +kernel, by decide +kernel⟩
theorem calNs (Dat : DefAt K mg "_law_name_so" ["word"] sNs) (bn : Bn mg)  : Cal P wd K mg base "_law_name_so" ["word"] 1 SNameSo := by
  refine cal_of Dat scNs (fun ds Q E h => ?_) (fun f cdv A outer s H E c Ed hr hK tk hp hW => have hu := room_units hr; (zs0 (zs_cons (z_if (xt_w (xw_or (xt_eq (w := true) hK hu (xV 0) xd_str) (xw_or (xt_gt (w := true) (xd_len hK bn.len (xa_cons (xV 0) xa_nil)) xd_int) (xw_or (xt_in (w := true) hK rfl (xV 0) (xd_tup (xa_cons xd_str (xa_cons xd_str (xa_cons xd_str xa_nil))))) (xw_or1 (xt_notin (w := true) hK rfl (xd_ix hK (fun _ _ => rfl) (xV 0) xd_int) xd_str)))))) (zs_one (z_ret (xd_weak xd_bl))) zs_nil) (zs_one (z_ret (xd_weak (xd_all hK rfl bn.all (xa_cons (xd_new (xf_lc rfl scNs.nd (xi_str (xV 0)) (blkOk_by (N := ["word", "sign"]) (sc := defScope sNs) (own := [("sign", 1)]) (by decide +kernel)) (fun _ h => h) (fun _ _ _ _ _ _ => (yN 1 scNs.nd)) (fun _ _ _ _ _ _ => xts_nil) (fun _ _ _ _ _ _ => (xd_in hK rfl (xV 1) xd_str)))) xa_nil)))))))) fun ds Qd Ed h => ?_
  · obtain ⟨w, rfl, _⟩ := h
    rfl
  · obtain ⟨w, rfl, hl, hq⟩ := h
    have z := big
    have no : isName w = false → Qd (.bl false) := fun e => by rw [e] at hq; exact hq
    refine ⟨_, rfl, _, rfl, ite2 (fun h => ?_) fun h0 => ?_⟩
    · have hw : w = "" := by simpa [sameD] using h
      refine iteT (no ?_)
      subst hw
      decide +kernel
    · have hw : ¬ w = "" := by simpa [sameD] using h0
      refine ⟨_, rfl, Nat.le_of_lt hl, _, rfl, ite2 (fun h => iteT (no ?_)) fun h1 => ?_⟩
      · have h6 : (6 : Int) < (w.length : Int) := of_decide_eq_true h
        unfold isName patB
        have : decide (w.length ≤ 6) = false := decide_eq_false (by omega)
        rw [this]
        rfl
      · refine ⟨_, rfl, (by show 3 ≤ sizeLine; omega), rfl, rfl, _, rfl, ite2 (fun h => iteT (no ?_)) fun h2 => ?_⟩
        · have e : (false ^^ inS (.str w) ((["x", "y", "z"] : List Str).map D.str)) = true := h
          rw [inS_strs] at e
          unfold isName
          rw [dir_dec, show decide (w ∈ (["x", "y", "z"] : List Str)) = true by simpa using e]
          simp
        · have e2 : (false ^^ inS (.str w) ((["x", "y", "z"] : List Str).map D.str)) = false := by
            cases hh : inS (.str w) ((["x", "y", "z"] : List Str).map D.str) with
            | false => rfl
            | true => exact absurd (by show (false ^^ inS (.str w) ((["x", "y", "z"] : List Str).map D.str)) = true; rw [hh]; rfl) h2
          rw [inS_strs] at e2
          have nd : notDir w = true := by
            rw [dir_dec]
            simpa using e2
          obtain ⟨k, r, ek⟩ : ∃ k r, w.cps.toList = k :: r := by
            cases e : w.cps.toList with
            | nil =>
              refine absurd ?_ hw
              obtain ⟨⟨l⟩⟩ := w
              have e : l = [] := e
              subst e
              rfl
            | cons k r => exact ⟨k, r, rfl⟩
          have h6 : w.length ≤ 6 := by
            rcases Nat.lt_or_ge 6 w.length with h | h
            · exact absurd (decide_eq_true (by omega : (6 : Int) < (w.length : Int))) h1
            · exact h
          have val : isName w = (decide (k ∈ LET.cps.toList) && w.cps.toList.all fun k => decide (k ∈ SGN.cps.toList)) := by
            unfold isName patB
            rw [nd, decide_eq_true h6, Bool.true_and, Bool.and_true]
            congr 1
            rw [ek]
          refine ⟨_, rfl, Nat.le_of_lt hl, k, at_nat (j := 0) (by rw [ek]; rfl), k, rfl, _, rfl, ite2 (fun h => no ?_) fun h3 => ?_⟩
          · have h : (true ^^ decide (k ∈ LET.cps.toList)) = true := h
            rw [val, show decide (k ∈ LET.cps.toList) = false by simpa using h]
            rfl
          · have h3 : ¬ (true ^^ decide (k ∈ LET.cps.toList)) = true := h3
            have h3 : decide (k ∈ LET.cps.toList) = true := by simpa using h3
            refine ⟨_, rfl, _, rfl, (by show (TL.signs w).length < sizeLine; unfold TL.signs; rw [List.length_map]; exact hl), rfl, ?_⟩
            refine lc_each (inj := fun k : Nat => D.str ⟨#[k]⟩) (f := fun k : Nat => D.bl (decide (k ∈ SGN.cps.toList))) w.cps.toList [] _ (fun q hq' R hR => hR _ (fun R' h => h) fun R' h => ⟨_, rfl, q, rfl, by show R' (.bl (false ^^ decide (q ∈ SGN.cps.toList))); rw [Bool.false_xor]; exact h⟩) ?_
            rw [List.nil_append, show w.cps.toList.map (fun k : Nat => D.bl (decide (k ∈ SGN.cps.toList))) = (w.cps.toList.map fun k => decide (k ∈ SGN.cps.toList)).map D.bl from by rw [List.map_map]; rfl]
            refine dBools_map _ _ ?_
            rw [val, h3, Bool.true_and] at hq
            rw [List.all_map]
            exact hq
end
end K1
set_option Elab.async false
set_option linter.all false
set_option maxRecDepth 100000
set_option maxHeartbeats 8000000
namespace K1
open PySem L2 PySem.Spec PyProof.Rows TL TLS
theorem name_val {w : Str} {k : Nat} {r : List Nat} (ek : w.cps.toList = k :: r) (h6 : w.length ≤ 6) (nd : notDir w = true) : isName w = (decide (k ∈ LET.cps.toList) && w.cps.toList.all fun k => decide (k ∈ SGN.cps.toList)) := by
  unfold isName patB
  rw [nd, decide_eq_true h6, Bool.true_and, Bool.and_true]
  congr 1
  rw [ek]
theorem dirs_in {w : Str} {b : Bool} : (b ^^ inS (.str w) [.str "x", .str "y", .str "z"]) = (b ^^ !(notDir w)) := by
  rw [dir_dec, Bool.not_not, ← inS_strs]
  rfl
/-- all are names, no two alike -/
def distinctOk (ws : List Str) : Bool := ws.all isName && decide ws.Nodup
theorem dc_nodup (ws : List Str) : ∀ n, n ≤ ws.length → (dc ws n = n ↔ (ws.take n).Nodup)
  | 0, _ => by simp [dc]
  | n + 1, h => by
    have hn : n < ws.length := h
    have ih := dc_nodup ws n (Nat.le_of_lt hn)
    have lim := dc_le ws n
    have e0 : ws.getD n Str.empty = ws[n] := by simp [List.getD, hn]
    unfold dc
    rw [e0, List.take_succ_eq_append_getElem hn, List.nodup_append]
    have ea : (ws.take n).any (· == ws[n]) = decide (ws[n] ∈ ws.take n) := by
      induction ws.take n with
      | nil => rfl
      | cons y r ih =>
        rw [List.any_cons, ih]
        by_cases e : ws[n] = y
        · rw [← e]; simp
        · have e' : (y == ws[n]) = false := beq_eq_false_iff_ne.mpr fun z => e z.symm
          simp [e, e']
    rw [ea]
    by_cases hm : ws[n] ∈ ws.take n
    · rw [if_pos (decide_eq_true hm)]
      constructor
      · intro z; omega
      · intro z; exact absurd rfl (z.2.2 _ hm _ (by simp))
    · rw [if_neg (by simpa using hm)]
      constructor
      · intro z
        refine ⟨ih.mp (by omega), by simp, fun a ha b hb => ?_⟩
        simp at hb
        subst hb
        exact fun z => hm (z ▸ ha)
      · intro z
        have := ih.mpr z.1
        omega
section
variable {P : Program} {wd : World} {K : PySem.W.Frag} {mg : Str → Option Value} {base : Heap}
abbrev sIn : Stmt := top 22
theorem scIn : FnScope ["word", "sign"] ["word"] (defScope sIn) := ⟨rfl, rfl, rfl, by decide +kernel, rfl, by decide +kernel, by decide +kernel⟩
theorem calIn (Dat : DefAt K mg "is_name" ["word"] sIn) (bn : Bn mg)  (g_LETTERS : GAt K mg "LETTERS" (.str LET)) (g_SIGNS : GAt K mg "SIGNS" (.str SGN)) : Cal P wd K mg base "is_name" ["word"] 1 SNameSo := by
  refine cal_of Dat scIn (fun ds Q E h => ?_) (fun f cdv A outer s H E c Ed hr hK tk hp hW => have hu := room_units hr; (zs0 (zs_cons (z_if (xt_w (xw_or (xt_not (xt_chain (w := true) op_le br_cmp op_le br_cmp xd_int (xd_len hK bn.len (xa_cons (xV 0) xa_nil)) xd_int)) (xw_or1 (xt_in (w := true) hK rfl (xV 0) (xd_tup (xa_cons xd_str (xa_cons xd_str (xa_cons xd_str xa_nil)))))))) (zs_one (z_ret (xd_weak xd_bl))) zs_nil) (zs_one (z_ret (xd_weak (xd_and (xd_in hK rfl (xd_ix hK (fun _ _ => rfl) (xV 0) xd_int) (xd_gat hK g_LETTERS)) (xd_one (xd_all hK rfl bn.all (xa_cons (xd_new (xf_lc rfl scIn.nd (xi_str (xV 0)) (blkOk_by (N := ["word", "sign"]) (sc := defScope sIn) (own := [("sign", 1)]) (by decide +kernel)) (fun _ h => h) (fun _ _ _ _ _ _ => (yN 1 scIn.nd)) (fun _ _ _ _ _ _ => xts_nil) (fun _ _ _ _ _ _ => (xd_in hK rfl (xV 1) (xd_gat hK g_SIGNS))))) xa_nil)))))))))) fun ds Qd Ed h => ?_
  · obtain ⟨w, rfl, _⟩ := h
    rfl
  · obtain ⟨w, rfl, hl, hq⟩ := h
    have z := big
    have no : isName w = false → Qd (.bl false) := fun e => by rw [e] at hq; exact hq
    refine ⟨_, rfl, Nat.le_of_lt hl, _, rfl, ite2 (fun h1 => ⟨_, rfl, ite2 (fun h6 => iteT (no ?_)) fun h6 => ?_⟩) fun h1 => ⟨_, rfl, iteT (iteT (no ?_))⟩⟩
    · have h6 : ¬ (w.length : Int) ≤ 6 := by simpa using h6
      unfold isName patB
      rw [decide_eq_false (by omega : ¬ w.length ≤ 6)]
      rfl
    · have h1 : (1 : Int) ≤ (w.length : Int) := of_decide_eq_true h1
      have h6 : w.length ≤ 6 := by
        have : (w.length : Int) ≤ 6 := by simpa using h6
        omega
      obtain ⟨k, r, ek⟩ : ∃ k r, w.cps.toList = k :: r := by
        cases e : w.cps.toList with
        | nil =>
          have e2 : w.length = w.cps.toList.length := rfl
          rw [e] at e2
          simp at e2
          omega
        | cons k r => exact ⟨k, r, rfl⟩
      refine ⟨_, rfl, (by show 3 ≤ sizeLine; omega), rfl, rfl, _, rfl, ite2 (fun h2 => no ?_) fun h2 => ?_⟩
      · have h2 : (false ^^ inS (.str w) [.str "x", .str "y", .str "z"]) = true := h2
        rw [dirs_in] at h2
        unfold isName
        rw [show notDir w = false by simpa using h2, Bool.and_false]
      · have h2 : ¬ (false ^^ inS (.str w) [.str "x", .str "y", .str "z"]) = true := h2
        rw [dirs_in] at h2
        have nd : notDir w = true := by simpa using h2
        have val := name_val ek h6 nd
        refine ⟨_, rfl, Nat.le_of_lt hl, k, at_nat (j := 0) (by rw [ek]; rfl), k, rfl, _, rfl, ite2 (fun h3 => ?_) fun h3 => no ?_⟩
        · have h3 : (false ^^ decide (k ∈ LET.cps.toList)) = true := h3
          rw [Bool.false_xor] at h3
          refine ⟨_, rfl, _, rfl, (by show (TL.signs w).length < sizeLine; unfold TL.signs; rw [List.length_map]; exact hl), rfl, ?_⟩
          refine lc_each (inj := fun k : Nat => D.str ⟨#[k]⟩) (f := fun k : Nat => D.bl (decide (k ∈ SGN.cps.toList))) w.cps.toList [] _ (fun q hq' R hR => hR _ (fun R' h => h) fun R' h => ⟨_, rfl, q, rfl, by show R' (.bl (false ^^ decide (q ∈ SGN.cps.toList))); rw [Bool.false_xor]; exact h⟩) ?_
          rw [List.nil_append, show w.cps.toList.map (fun k : Nat => D.bl (decide (k ∈ SGN.cps.toList))) = (w.cps.toList.map fun k => decide (k ∈ SGN.cps.toList)).map D.bl from by rw [List.map_map]; rfl]
          refine dBools_map _ _ ?_
          rw [val, h3, Bool.true_and] at hq
          rw [List.all_map]
          exact hq
        · have h3 : ¬ (false ^^ decide (k ∈ LET.cps.toList)) = true := h3
          rw [Bool.false_xor] at h3
          rw [val, Bool.eq_false_iff.mpr h3, Bool.false_and]
    · have h1 : ¬ (1 : Int) ≤ (w.length : Int) := by simpa using h1
      have e : w.cps.toList = [] := by
        have e2 : w.length = w.cps.toList.length := rfl
        exact List.eq_nil_of_length_eq_zero (by omega)
      unfold isName patB
      rw [e]
      simp
end
end K1
set_option Elab.async false
set_option linter.all false
set_option maxRecDepth 100000
set_option maxHeartbeats 8000000
namespace K1
open PySem L2 PySem.Spec PyProof.Rows TL TLS
theorem dc_all (ws : List Str) : (decide ((dc ws ws.length : Nat) = ws.length)) = decide ws.Nodup := by
  have h := dc_nodup ws ws.length (Nat.le_refl _)
  rw [List.take_length] at h
  by_cases e : ws.Nodup
  · rw [decide_eq_true e, decide_eq_true (h.mpr e)]
  · rw [decide_eq_false e, decide_eq_false fun z => e (h.mp z)]
/-- each is a name, none stands ahead of itself -/
theorem names_at (ws : List Str) : ∀ n, n ≤ ws.length → ((List.range n).all fun k => isName (ws.getD k "") && !(decide (ws.getD k "" ∈ ws.take k))) = distinctOk (ws.take n)
  | 0, _ => by simp [distinctOk]
  | n + 1, h => by
    have hn : n < ws.length := h
    have e0 : ws.getD n "" = ws[n] := by simp [List.getD, hn]
    rw [List.range_succ, List.all_append, names_at ws n (Nat.le_of_lt hn), List.take_succ_eq_append_getElem hn]
    unfold distinctOk
    simp only [List.all_cons, List.all_nil, Bool.and_true, List.all_append]
    rw [e0]
    cases h1 : (ws.take n).all isName
    · simp
    · cases h2 : isName ws[n]
      · simp
      · simp only [Bool.true_and]
        by_cases hd : (ws.take n).Nodup
        · rw [decide_eq_true hd, Bool.true_and]
          by_cases hm : ws[n] ∈ ws.take n
          · rw [decide_eq_true hm, decide_eq_false]
            · rfl
            · intro z
              exact absurd rfl ((List.nodup_append.mp z).2.2 _ hm _ (by simp))
          · rw [decide_eq_false hm, decide_eq_true]
            · rfl
            · refine List.nodup_append.mpr ⟨hd, by simp, fun a ha b hb => ?_⟩
              simp at hb
              subst hb
              exact fun z => hm (z ▸ ha)
        · rw [decide_eq_false hd, decide_eq_false (fun z => hd (List.nodup_append.mp z).1 : ¬ (List.take n ws ++ [ws[n]]).Nodup), Bool.false_and]
section
variable {P : Program} {wd : World} {K : PySem.W.Frag} {mg : Str → Option Value} {base : Heap}
def SArN : SpD := fun ds Q _ => ∃ ws : List Str, ds = [.lst (ws.map D.str)] ∧ ws.length < 4000 ∧ (∀ w ∈ ws, w.length < sizeLine) ∧ Q (.bl (distinctOk ws))
def SArT : SpD := fun ds Q _ => ∃ ws : List Str, ds = [.tup (ws.map D.str)] ∧ ws.length < 4000 ∧ (∀ w ∈ ws, w.length < sizeLine) ∧ Q (.bl (distinctOk ws))
abbrev sAn : Stmt := top 23
theorem scAn : FnScope ["words", "word"] ["words"] (defScope sAn) := ⟨rfl, rfl, rfl, by decide +kernel, rfl, by decide +kernel, by decide +kernel⟩
theorem okAnL (bn : Bn mg) (c_is_name : Cal P wd K mg base "is_name" ["word"] 1 SNameSo) {f : Addr} {fd : FuncData} (F : Fun K "are_names" "are_names" sAn f fd) : FnOk P wd K mg base (L2N.CX P wd) 2 f fd ["words"] (spD K SArN) := by
  refine fnD0 F scAn (fun ds Q E h => ?_) (fun cdv A outer s H E c Ed hr hK tk hp hW => have hu := room_units hr; (zs0 (zs_one (z_ret (xd_weak (xd_and (xd_all hK rfl bn.all (xa_cons (xd_new (xf_lc rfl scAn.nd (xi_list hK (xV 0)) (blkOk_by (N := ["words", "word"]) (sc := defScope sAn) (own := [("word", 1)]) (by decide +kernel)) (fun _ h => h) (fun _ _ _ _ _ _ => (yN 1 scAn.nd)) (fun _ _ _ _ _ _ => xts_nil) (fun _ _ _ _ _ _ => (xd_cal hK c_is_name hr tk_no hW_no (xa_cons (xV 1) xa_nil))))) xa_nil)) (xd_one (xd_eq hK hu (xd_lenSet hK rfl bn.len bn.set (xV 0)) (xd_len hK bn.len (xa_cons (xV 0) xa_nil)))))))))) fun ds Qd Ed h => ?_
  · obtain ⟨ws, rfl, _⟩ := h
    rfl
  · obtain ⟨ws, rfl, h4, hl, hq⟩ := h
    have z := big
    have sb : 4000 < scanBound := by decide
    refine ⟨_, rfl, _, rfl, (by rw [List.length_map]; omega), rfl, ?_⟩
    refine lc_each (inj := D.str) (f := fun w => D.bl (isName w)) ws [] _ (fun w hw R hR => hR _ (fun R' h => h) fun R' h => ⟨_, rfl, w, rfl, hl w hw, h⟩) ?_
    rw [List.nil_append, show ws.map (fun w => D.bl (isName w)) = (ws.map isName).map D.bl from by rw [List.map_map]; rfl]
    refine dBools_map _ _ ⟨_, rfl, ite2 (fun ha => ?_) fun ha => ?_⟩
    · rw [List.all_map] at ha
      refine ⟨_, rfl, ws, rfl, by omega, _, rfl, ?_⟩
      unfold distinctOk at hq
      rw [show ws.all isName = true from ha, Bool.true_and, ← dc_all] at hq
      have e : (false ^^ sameD (.int (dc ws ws.length : Nat)) (.int ((ws.map D.str).length : Nat))) = decide ((dc ws ws.length : Nat) = ws.length) := by
        show (false ^^ decide ((dc ws ws.length : Int) = ((ws.map D.str).length : Int))) = _
        rw [List.length_map, Bool.false_xor]
        by_cases h : dc ws ws.length = ws.length
        · rw [decide_eq_true h, decide_eq_true (by omega)]
        · rw [decide_eq_false h, decide_eq_false (by omega)]
      show Qd (.bl (false ^^ sameD (.int (dc ws ws.length : Nat)) (.int ((ws.map D.str).length : Nat))))
      rw [e]
      exact hq
    · rw [List.all_map] at ha
      unfold distinctOk at hq
      rw [show ws.all isName = false from Bool.eq_false_iff.mpr ha, Bool.false_and] at hq
      exact hq
theorem okAnT (bn : Bn mg) (c_is_name : Cal P wd K mg base "is_name" ["word"] 1 SNameSo) {f : Addr} {fd : FuncData} (F : Fun K "are_names" "are_names" sAn f fd) : FnOk P wd K mg base (L2N.CX P wd) 2 f fd ["words"] (spD K SArT) := by
  refine fnD0 F scAn (fun ds Q E h => ?_) (fun cdv A outer s H E c Ed hr hK tk hp hW => have hu := room_units hr; (zs0 (zs_one (z_ret (xd_weak (xd_and (xd_all hK rfl bn.all (xa_cons (xd_new (xf_lc rfl scAn.nd (xi_tup hK (xV 0)) (blkOk_by (N := ["words", "word"]) (sc := defScope sAn) (own := [("word", 1)]) (by decide +kernel)) (fun _ h => h) (fun _ _ _ _ _ _ => (yN 1 scAn.nd)) (fun _ _ _ _ _ _ => xts_nil) (fun _ _ _ _ _ _ => (xd_cal hK c_is_name hr tk_no hW_no (xa_cons (xV 1) xa_nil))))) xa_nil)) (xd_one (xd_eq hK hu (xd_lenSetT hK rfl bn.len bn.set (xV 0)) (xd_len hK bn.len (xa_cons (xV 0) xa_nil)))))))))) fun ds Qd Ed h => ?_
  · obtain ⟨ws, rfl, _⟩ := h
    rfl
  · obtain ⟨ws, rfl, h4, hl, hq⟩ := h
    have z := big
    have sb : 4000 < scanBound := by decide
    refine ⟨_, rfl, _, rfl, (by rw [List.length_map]; omega), rfl, ?_⟩
    refine lc_each (inj := D.str) (f := fun w => D.bl (isName w)) ws [] _ (fun w hw R hR => hR _ (fun R' h => h) fun R' h => ⟨_, rfl, w, rfl, hl w hw, h⟩) ?_
    rw [List.nil_append, show ws.map (fun w => D.bl (isName w)) = (ws.map isName).map D.bl from by rw [List.map_map]; rfl]
    refine dBools_map _ _ ⟨_, rfl, ite2 (fun ha => ?_) fun ha => ?_⟩
    · rw [List.all_map] at ha
      refine ⟨_, rfl, ws, rfl, by omega, _, rfl, ?_⟩
      unfold distinctOk at hq
      rw [show ws.all isName = true from ha, Bool.true_and, ← dc_all] at hq
      have e : (false ^^ sameD (.int (dc ws ws.length : Nat)) (.int ((ws.map D.str).length : Nat))) = decide ((dc ws ws.length : Nat) = ws.length) := by
        show (false ^^ decide ((dc ws ws.length : Int) = ((ws.map D.str).length : Int))) = _
        rw [List.length_map, Bool.false_xor]
        by_cases h : dc ws ws.length = ws.length
        · rw [decide_eq_true h, decide_eq_true (by omega)]
        · rw [decide_eq_false h, decide_eq_false (by omega)]
      show Qd (.bl (false ^^ sameD (.int (dc ws ws.length : Nat)) (.int ((ws.map D.str).length : Nat))))
      rw [e]
      exact hq
    · rw [List.all_map] at ha
      unfold distinctOk at hq
      rw [show ws.all isName = false from Bool.eq_false_iff.mpr ha, Bool.false_and] at hq
      exact hq
theorem calAn (Dat : DefAt K mg "are_names" ["words"] sAn) (bn : Bn mg) (c : Cal P wd K mg base "is_name" ["word"] 1 SNameSo) : Cal P wd K mg base "are_names" ["words"] 2 (fun ds Q E => SArN ds Q E ∨ SArT ds Q E) :=
  cal_both Dat (fun f fd F => okAnL bn c F) fun f fd F => okAnT bn c F
end
end K1
set_option Elab.async false
set_option linter.all false
set_option maxRecDepth 100000
set_option maxHeartbeats 8000000
namespace K1
open PySem L2 PySem.Spec PyProof.Rows TL TLS
theorem cut_hi (xs : List D) (i : Nat) : TL.cutD xs none (some (i : Int)) = xs.take i := by
  unfold TL.cutD
  rw [HT.sIx_nat]
  show (xs.drop 0).take (min i xs.length - 0) = xs.take i
  rw [List.drop_zero, Nat.sub_zero]
  rcases Nat.le_total i xs.length with h | h
  · rw [Nat.min_eq_left h]
  · rw [Nat.min_eq_right h, List.take_of_length_le (Nat.le_refl _), List.take_of_length_le h]
theorem cut_lo (xs : List D) (i : Nat) : TL.cutD xs (some (i : Int)) none = xs.drop i := by
  unfold TL.cutD
  rw [HT.sIx_nat]
  show (xs.drop (min i xs.length)).take (xs.length - min i xs.length) = xs.drop i
  rcases Nat.le_total i xs.length with h | h
  · rw [Nat.min_eq_left h, List.take_of_length_le (by rw [List.length_drop]; exact Nat.le_refl _)]
  · rw [Nat.min_eq_right h, List.drop_of_length_le (Nat.le_refl _), List.drop_of_length_le h, List.take_nil]
section
variable {P : Program} {wd : World} {K : PySem.W.Frag} {mg : Str → Option Value} {base : Heap}
def namesOk (ws : List Str) : Bool := decide (0 < ws.length) && distinctOk ws
def SNamesSo : SpD := fun ds Q _ => ∃ ws : List Str, ds = [.lst (ws.map D.str)] ∧ ws.length < 4000 ∧ (∀ w ∈ ws, w.length < sizeLine) ∧ Q (.bl (namesOk ws))
abbrev sNz : Stmt := top 38
theorem scNz : FnScope ["words", "k"] ["words"] (defScope sNz) := ⟨rfl, rfl, rfl, by decide +kernel, rfl, by decide +kernel, by decide +kernel⟩
theorem calNz (Dat : DefAt K mg "_law_names_so" ["words"] sNz) (bn : Bn mg) (c__law_name_so : Cal P wd K mg base "_law_name_so" ["word"] 1 SNameSo) : Cal P wd K mg base "_law_names_so" ["words"] 2 SNamesSo := by
  refine cal_of Dat scNz (fun ds Q E h => ?_) (fun f cdv A outer s H E c Ed hr hK tk hp hW => have hu := room_units hr; (zs0 (zs_one (z_ret (xd_weak (xd_and (xd_gt (xd_len hK bn.len (xa_cons (xV 0) xa_nil)) xd_int) (xd_one (xd_all hK rfl bn.all (xa_cons (xd_new (xf_lc rfl scNz.nd (xi_range1 bn.range (xd_len hK bn.len (xa_cons (xV 0) xa_nil))) (blkOk_by (N := ["words", "k"]) (sc := defScope sNz) (own := [("k", 1)]) (by decide +kernel)) (fun _ h => h) (fun _ _ _ _ _ _ => (yN 1 scNz.nd)) (fun _ _ _ _ _ _ => xts_nil) (fun _ _ _ _ _ _ => (xd_and (xd_cal hK c__law_name_so hr tk_no hW_no (xa_cons (xd_ix hK (fun _ _ => rfl) (xV 0) (xV 1)) xa_nil)) (xd_one (xd_notin hK rfl (xd_ix hK (fun _ _ => rfl) (xV 0) (xV 1)) (xd_slice hK (xV 0) xo_none (xo_some (xV 1))))))))) xa_nil))))))))) fun ds Qd Ed h => ?_
  · obtain ⟨ws, rfl, _⟩ := h
    rfl
  · obtain ⟨ws, rfl, h4, hl, hq⟩ := h
    have z := big
    unfold namesOk at hq
    refine ⟨_, rfl, _, rfl, ite2 (fun h0 => ?_) fun h0 => ?_⟩
    · have h0 : (0 : Int) < ((ws.map D.str).length : Int) := of_decide_eq_true h0
      rw [List.length_map] at h0
      rw [decide_eq_true (by omega : 0 < ws.length), Bool.true_and] at hq
      have hlr : (rangeD 0 ws.length).length = ws.length := by unfold rangeD; simp
      refine ⟨_, rfl, ((ws.map D.str).length : Int), rfl, by omega, by rw [List.length_map]; omega, ?_⟩
      rw [List.length_map, Int.toNat_natCast]
      refine ⟨by omega, rfl, ?_⟩
      refine lc_each (inj := fun i : Nat => D.int (0 + (i : Int))) (f := fun k : Nat => D.bl (isName (ws.getD k "") && !(decide (ws.getD k "" ∈ ws.take k)))) (List.range ws.length) [] _ (fun i hi R hR => ?_) ?_
      · have hi : i < ws.length := List.mem_range.mp hi
        have e0 : ws.getD i "" = ws[i] := by simp [List.getD, hi]
        have ea : atI (ws.map D.str) (0 + (i : Int)) = some (.str ws[i]) := by
          rw [Int.zero_add]
          exact at_nat (by rw [List.getElem?_map, List.getElem?_eq_getElem hi]; rfl)
        refine hR _ (fun R' h => h) fun R' h => ?_
        rw [e0] at h
        refine ⟨_, rfl, _, rfl, _, ea, ws[i], rfl, hl _ (List.getElem_mem hi), _, rfl, ite2 (fun h1 => ?_) fun h1 => ?_⟩
        · rw [h1, Bool.true_and] at h
          refine ⟨_, rfl, _, rfl, _, ea, _, rfl, _, rfl, _, rfl, ?_⟩
          have ec : TL.cutD (ws.map D.str) none (some (0 + (i : Int))) = (ws.take i).map D.str := by rw [Int.zero_add, cut_hi, List.map_take]
          show dIn true (.str ws[i]) (.lst (TL.cutD (ws.map D.str) none (some (0 + (i : Int))))) R'
          rw [ec]
          refine ⟨rfl, flat_strsD, ?_⟩
          rw [inS_strs, Bool.true_xor]
          exact h
        · rw [Bool.eq_false_iff.mpr h1, Bool.false_and] at h
          exact h
      · rw [List.nil_append, show (List.range ws.length).map (fun k : Nat => D.bl (isName (ws.getD k "") && !(decide (ws.getD k "" ∈ ws.take k)))) = ((List.range ws.length).map fun k => isName (ws.getD k "") && !(decide (ws.getD k "" ∈ ws.take k))).map D.bl from by rw [List.map_map]; rfl]
        refine dBools_map _ _ ?_
        rw [List.all_map, show (List.range ws.length).all (id ∘ fun k => isName (ws.getD k "") && !(decide (ws.getD k "" ∈ ws.take k))) = distinctOk (ws.take ws.length) from names_at ws ws.length (Nat.le_refl _), List.take_length]
        exact hq
    · have h0 : ¬ (0 : Int) < ((ws.map D.str).length : Int) := by simpa using h0
      rw [List.length_map] at h0
      rw [decide_eq_false (by omega : ¬ 0 < ws.length), Bool.false_and] at hq
      exact hq
end
end K1
set_option Elab.async false
set_option linter.all false
set_option maxRecDepth 100000
set_option maxHeartbeats 8000000
namespace K1
open PySem L2 PySem.Spec PyProof.Rows TL TLS
def smallP : List Int := [2, 3, 5, 7, 11, 13, 17, 19, 23, 29, 31, 37, 41, 43, 47, 53, 59, 61, 67, 71, 73, 79, 83, 89, 97]
theorem small_pr : ∀ p ∈ smallP, p ∈ Pr ∧ 1 < p := by decide
/-- the kind that a row tells; -1: none -/
def primeDue (row : Str) : Int := if row = "fractions" then 0 else match smallP.filter (fun k => decide (row = ("rests " : Str) ++ (toString k : Str))) with
  | [] => -1
  | k :: _ => k
section
variable {P : Program} {wd : World} {K : PySem.W.Frag} {mg : Str → Option Value} {base : Heap}
def SPd : SpD := fun ds Q _ => ∃ row : Str, ds = [.str row] ∧ Q (.int (primeDue row))
abbrev sPd : Stmt := top 39
theorem scPd : FnScope ["row", "small", "found", "k"] ["row"] (defScope sPd) := ⟨rfl, rfl, rfl, by decide +kernel, rfl, by decide +kernel, by decide +kernel⟩
theorem calPd (Dat : DefAt K mg "_law_prime_due" ["row"] sPd) (bn : Bn mg)  : Cal P wd K mg base "_law_prime_due" ["row"] 1 SPd := by
  refine cal_of Dat scPd (fun ds Q E h => ?_) (fun f cdv A outer s H E c Ed hr hK tk hp hW => have hu := room_units hr; (zs0 (zs_cons (zS 1 scPd.nd (xd_new (xf_lst (xa_cons xd_int (xa_cons xd_int (xa_cons xd_int (xa_cons xd_int (xa_cons xd_int (xa_cons xd_int (xa_cons xd_int (xa_cons xd_int (xa_cons xd_int (xa_cons xd_int (xa_cons xd_int (xa_cons xd_int (xa_cons xd_int (xa_cons xd_int (xa_cons xd_int (xa_cons xd_int (xa_cons xd_int (xa_cons xd_int (xa_cons xd_int (xa_cons xd_int (xa_cons xd_int (xa_cons xd_int (xa_cons xd_int (xa_cons xd_int (xa_cons xd_int xa_nil)))))))))))))))))))))))))))) (zs_cons (z_lc (i := 2) rfl scPd.nd rfl rfl (sw_true rfl rfl rfl (by decide +kernel)) (xi_list hK (xV 1)) (blkOk_by (N := ["row", "small", "found", "k"]) (sc := defScope sPd) (own := [("k", 3)]) (by decide +kernel)) (fun _ h => h) (fun _ _ _ _ _ _ => (yN 3 scPd.nd)) (fun _ _ _ _ _ _ => (xts_one (xt_eq (w := true) hK hu (xV 0) (xd_add xd_str (xd_strI bn.str (xa_cons (xV 3) xa_nil)))))) (fun _ _ _ _ _ _ => (xV 3))) (zs_one (z_ret (xd_weak (xd_if (xt_eq (w := true) hK hu (xV 0) xd_str) xd_int (xd_if (xt_tru (w := true) hK (xV 2)) (xd_ix hK (fun _ _ => rfl) (xV 2) xd_int) (xd_sub xd_int xd_int)))))))))) fun ds Qd Ed h => ?_
  · obtain ⟨ws, rfl, _⟩ := h
    rfl
  · obtain ⟨row, rfl, hq⟩ := h
    have z := big
    unfold primeDue at hq
    refine ⟨(by show 25 ≤ sizeLine; omega), _, rfl, smallP.map D.int, rfl, (by show 25 < sizeLine; omega), rfl, ?_⟩
    refine lc_map (p := fun d => match d with | .int k => decide (row = ("rests " : Str) ++ (toString k : Str)) | _ => false) (f := fun d => d) (smallP.map D.int) [] _ (fun d hd R hR => ?_) ?_
    · obtain ⟨k, hk, rfl⟩ := List.mem_map.mp hd
      have hp := (small_pr k hk).1
      have l := pr_len k hp
      refine hR _ (fun R' h' => ⟨_, rfl, _, rfl, pr_log k hp, (by show 6 + (toString k : Str).length ≤ sizeLine; omega), _, rfl, ?_⟩) fun _ R' h' => ⟨_, rfl, h'⟩
      show R' (false ^^ decide (row = ("rests " : Str) ++ (toString k : Str)))
      rw [Bool.false_xor]
      exact h'
    · have fl : (smallP.map D.int).filter (fun d => match d with | .int k => decide (row = ("rests " : Str) ++ (toString k : Str)) | _ => false) = (smallP.filter fun k => decide (row = ("rests " : Str) ++ (toString k : Str))).map D.int := by
        rw [List.filter_map]
        rfl
      rw [List.nil_append, fl, List.map_id'' (fun _ => rfl)]
      refine ⟨_, rfl, _, rfl, ite2 (fun h => ?_) fun h => ?_⟩
      · have h : row = "fractions" := by simpa [sameD] using h
        rw [if_pos h] at hq
        exact hq
      · have h : ¬ row = "fractions" := by simpa [sameD] using h
        rw [if_neg h] at hq
        cases e : smallP.filter fun k => decide (row = ("rests " : Str) ++ (toString k : Str)) with
        | nil =>
          rw [e] at hq
          refine ⟨_, rfl, ?_⟩
          simp only [dTru, List.map_nil, List.isEmpty_nil, Bool.not_true, Bool.false_eq_true, if_false]
          exact hq
        | cons k r =>
          rw [e] at hq
          refine ⟨_, rfl, ?_⟩
          simp only [dTru, List.map_cons, List.isEmpty_cons, Bool.not_false, if_true]
          exact ⟨_, rfl, _, at_nat (j := 0) rfl, hq⟩
end
end K1
set_option Elab.async false
set_option linter.all false
set_option maxRecDepth 100000
set_option maxHeartbeats 8000000
namespace K1
open PySem L2 PySem.Spec PyProof.Rows TL TLS
def NL : Str := "\n"
/-- the lines of a text; what stands behind the last line feed is told with a line feed ahead -/
def linesOf (t : Str) : List Str := if (Txt.split t NL).getLastD "" = "" then (Txt.split t NL).dropLast else (Txt.split t NL).dropLast ++ [NL ++ (Txt.split t NL).getLastD ""]
theorem le_sum : ∀ {ys : List Str} {y : Str}, y ∈ ys → y.length ≤ (ys.map (·.length)).sum
  | a :: r, y, h => by
    rw [List.map_cons, List.sum_cons]
    rcases List.mem_cons.mp h with e | h
    · subst e; omega
    · have := le_sum h; omega
theorem at_last {α : Type} (xs : List α) (x : α) : atI (xs ++ [x]) (-1) = some x := by
  unfold atI ixN
  rw [if_neg (by decide), if_pos (by rw [List.length_append, List.length_singleton]; omega)]
  show (xs ++ [x])[((-1 : Int) + ((xs ++ [x]).length : Int)).toNat]? = some x
  rw [List.length_append, List.length_singleton, show ((-1 : Int) + ((xs.length + 1 : Nat) : Int)).toNat = xs.length by omega]
  simp
theorem cut_butlast (xs : List D) (x : D) : TL.cutD (xs ++ [x]) none (some (-1)) = xs := by
  unfold TL.cutD
  show ((xs ++ [x]).drop 0).take (((-1 : Int) + ((xs ++ [x]).length : Int)).toNat - 0) = xs
  rw [List.length_append, List.length_singleton, List.drop_zero, show ((-1 : Int) + ((xs.length + 1 : Nat) : Int)).toNat - 0 = xs.length by omega]
  simp
section
variable {P : Program} {wd : World} {K : PySem.W.Frag} {mg : Str → Option Value} {base : Heap}
def SLines : SpD := fun ds Q _ => ∃ t : Str, ds = [.str t] ∧ t.length ≤ 100000 ∧ Q (.lst ((linesOf t).map D.str))
abbrev sLo : Stmt := top 16
theorem scLo : FnScope ["text", "lines", "last"] ["text"] (defScope sLo) := ⟨rfl, rfl, rfl, by decide +kernel, rfl, by decide +kernel, by decide +kernel⟩
theorem calLo (Dat : DefAt K mg "lines_of" ["text"] sLo) (bn : Bn mg)  : Cal P wd K mg base "lines_of" ["text"] 1 SLines := by
  refine cal_of Dat scLo (fun ds Q E h => ?_) (fun f cdv A outer s H E c Ed hr hK tk hp hW => have hu := room_units hr; (zs0 (zs_cons (zS 1 scLo.nd (xd_new (xf_split (xV 0) xd_str))) (zs_cons (zS 2 scLo.nd (xd_ix hK (fun _ _ => rfl) (xV 1) (xd_neg xd_int))) (zs_cons (z_if (xt_eq (w := true) hK hu (xV 2) xd_str) (zs_one (z_ret (xd_weak (xd_slice hK (xV 1) xo_none (xo_some (xd_neg xd_int)))))) zs_nil) (zs_one (z_ret (xd_weak (xd_new (xf_lst (xa_star hK (xd_slice hK (xV 1) xo_none (xo_some (xd_neg xd_int))) (xa_cons (xd_add xd_str (xV 2)) xa_nil)))))))))))) fun ds Qd Ed h => ?_
  · obtain ⟨ws, rfl, _⟩ := h
    rfl
  · obtain ⟨t, rfl, hl, hq⟩ := h
    have z : 1000000 ≤ sizeLine := by rw [sizeLine_eq]; decide
    have hlen := PyProof.Rows.split_le t NL
    have hpos := PyProof.Rows.split_pos t NL
    have hwt : ∀ y ∈ Txt.split t NL, y.length ≤ 100000 := fun y hy => by
      have h1 := PyProof.Rows.split_weight t NL (by decide +kernel)
      have h2 : y.length ≤ ((Txt.split t NL).map (·.length)).sum := le_sum hy
      omega
    refine ⟨_, rfl, _, rfl, _, rfl, by decide +kernel, by omega, ?_⟩
    show zSeq _ _ _ ([some (.val (.str t)), some (.val (.lst ((Txt.split t NL).map D.str))), none] : TL.Env)
    unfold linesOf at hq
    rcases List.eq_nil_or_concat (Txt.split t NL) with e | ⟨i, l, e⟩
    · rw [e] at hpos
      simp at hpos
    · rw [List.concat_eq_append] at e
      rw [e] at hq hlen hwt ⊢
      have hd : (i ++ [l]).dropLast = i := by simp
      have hg : (i ++ [l]).getLastD "" = l := by rw [List.getLastD_eq_getLast?]; simp
      rw [hd, hg] at hq
      rw [List.map_append]
      refine ⟨_, rfl, 1, rfl, _, at_last _ _, ?_⟩
      refine ⟨_, rfl, _, rfl, ite2 (fun h => ?_) fun h => ?_⟩
      · have h : l = "" := by simpa [sameD] using h
        rw [if_pos h] at hq
        refine ⟨_, rfl, 1, rfl, _, rfl, ?_⟩
        show Qd (.lst (TL.cutD (i.map D.str ++ [.str l]) none (some (-1))))
        rw [cut_butlast]
        exact hq
      · have h : ¬ l = "" := by simpa [sameD] using h
        rw [if_neg h] at hq
        have hl2 := hwt l (by simp)
        refine ⟨_, rfl, 1, rfl, _, rfl, TL.cutD (i.map D.str ++ [.str l]) none (some (-1)), .inl rfl, ?_⟩
        rw [cut_butlast]
        refine ⟨_, rfl, (by show 1 + l.length ≤ sizeLine; omega), ?_, ?_⟩
        · rw [List.length_append, List.length_map]
          rw [List.length_append] at hlen
          show i.length + 1 ≤ sizeLine
          simp at hlen
          omega
        · rw [List.map_append] at hq
          exact hq
end
end K1
set_option Elab.async false
set_option linter.all false
set_option maxRecDepth 100000
set_option maxHeartbeats 8000000
namespace TL
open PySem L2 PySem.Spec PyProof.Rows
/-- the exception class x at C, its two fields -/
def ExcAt (P : Program) (w : World) (K : PySem.W.Frag) (mg : Str → Option Value) (base : Heap) (x : Str) (C : Addr) (k0 k1 : Str) : Prop := OexC K C ∧ mg x = some (.ref C) ∧
  ∃ (fI : Addr) (fd : FuncData) (ps : List Str), PySem.W.findIn K (.ref C) "__init__" = some (some (.ref fI)) ∧ PySem.W.typeIn K (.ref fI) = some (.type "function") ∧ FnOk P w K mg base (L2N.CX P w) 1 fI fd ps (spInit C k0 k1 x) ∧ Binds K fd ps []
theorem z_raiseC {X : Cx} {c : Ct} {W : WX} {Wx : XD → TL.Env → Prop} {x : Str} {e : Expr} {es : List Expr} {U : TAD} {p pos pos' : Pos} {C : Addr} {k : Nat} {k0 k1 : Str} (hc : X.calm = true) (tk : L2N.Takes X W) (hW : WRel c Wx W) (E : ExcAt X.prog X.w X.K X.mg X.base x C k0 k1) (hr : Room k X.A) (ha : PA X (e :: es) (LA c true U)) (h2 : 2 ≤ k := by decide) (hg : Gl X x := by rfl)
    (hdb : (x == ("__debug__" : Str)) = false := by decide) (he : starEach (e :: es) X.env = (false, eval e X.env) :: starEach es X.env := by rfl) (hpl : (backTo pos (starEach es X.env)).any (·.1) = false := by rfl) :
    PS X (.Raise (some (.Call (.Name x p) (e :: es) [] pos)) none pos') (LS c (zRaise C k0 k1 x Wx U)) := by
  obtain ⟨T, m, fI, fd, ps, iC, tI, F, b⟩ := E
  exact z_raise hc tk hW T iC tI F (hr.mono h2) b m ha hg hdb he hpl
end TL
namespace K1
open PySem L2 PySem.Spec PyProof.Rows TL
section
variable {P : Program} {wd : World} {K : PySem.W.Frag} {mg : Str → Option Value} {base : Heap}
/-- three stores of __init__, read -/
theorem init_read {C a dd : Addr} {k0 k1 code : Str} {x y : V} {H H1 H2 H3 : Hp} {Q : VK} (T : OexC K C) (ha : H a = some (exo a C none)) (hd : H dd = none) (ne : dd ≠ a) (k : ∀ (d : Addr) (H' : Hp), H d = none → d ≠ a → H' a = some (exo a C (some d)) → H' d = some (exd d (exFs V.str k0 k1 code x y)) → (∀ b, b ≠ a → b ≠ d → H' b = H b) → Q .non H')
    (e1 : H1 = upd (upd H dd (exd dd [(k0, x)])) a (exo a C (some dd))) (e2 : H2 = upd H1 dd (exd dd [(k1, y), (k0, x)])) (e3 : H3 = upd H2 dd (exd dd [(code0, .str code), (k1, y), (k0, x)])) (hc : code0 = "code") : Q .non H3 := by
  subst e1 e2 e3 hc
  refine k dd _ hd ne ?_ upd_same fun b h1 h2 => ?_
  · rw [upd_ne ne.symm, upd_ne ne.symm, upd_same]
  · rw [upd_ne h2, upd_ne h2, upd_ne h1, upd_ne h2]
abbrev iBG : Stmt := inClass (top 2) 0
theorem scBG : FnScope ["self", "line", "why"] ["self", "line", "why"] (defScope iBG) := ⟨rfl, rfl, rfl, by decide +kernel, rfl, by decide +kernel, by decide +kernel⟩
theorem ok_BG {f C : Addr} {fd : FuncData} (F : Fun K "__init__" "BadGround.__init__" iBG f fd) (T : OexC K C) (n0 : PySem.W.findIn K (.ref C) "line" = some none) (n1 : PySem.W.findIn K (.ref C) "why" = some none) (n2 : PySem.W.findIn K (.ref C) "code" = some none) :
    FnOk P wd K mg base (L2N.CX P wd) 1 f fd ["self", "line", "why"] (spInit C "line" "why" "BadGround") := by
  obtain ⟨oc, od, kV, doc, pm, an, cdv, ct, osl, rfl, lk, hcd⟩ := F.ex
  refine fn_of lk hcd scBG (fun vs H Q E h => ?_) fun A outer s H vs Q E hr h => ?_
  · obtain ⟨a, x, y, rfl, _⟩ := h
    rfl
  · obtain ⟨a, x, y, rfl, ha, k⟩ := h
    refine ⟨_, pss_cons (ps_ost (pv 0) (pv 1)) (pss_cons (ps_ost (pv 0) (pv 2)) (pss_one (ps_ost (pv 0) pe_str))), ?_⟩
    refine ⟨_, rfl, _, rfl, a, C, rfl, T, n0, .inl ⟨ha, fun dd hd ne => ?_⟩⟩
    refine ⟨_, rfl, _, rfl, a, C, rfl, T, n1, .inr ⟨dd, _, upd_same, by rw [upd_ne ne, upd_same], (by show 1 ≤ 900; decide), ?_⟩⟩
    refine ⟨_, rfl, a, C, rfl, T, n2, .inr ⟨dd, _, by rw [upd_ne ne.symm, upd_same], upd_same, (by show 2 ≤ 900; decide), ?_⟩⟩
    exact init_read T ha hd ne k rfl rfl rfl rfl
abbrev iTM : Stmt := inClass (top 4) 0
theorem scTM : FnScope ["self", "what", "count"] ["self", "what", "count"] (defScope iTM) := ⟨rfl, rfl, rfl, by decide +kernel, rfl, by decide +kernel, by decide +kernel⟩
theorem ok_TM {f C : Addr} {fd : FuncData} (F : Fun K "__init__" "TooMany.__init__" iTM f fd) (T : OexC K C) (n0 : PySem.W.findIn K (.ref C) "what" = some none) (n1 : PySem.W.findIn K (.ref C) "count" = some none) (n2 : PySem.W.findIn K (.ref C) "code" = some none) :
    FnOk P wd K mg base (L2N.CX P wd) 1 f fd ["self", "what", "count"] (spInit C "what" "count" "TooMany") := by
  obtain ⟨oc, od, kV, doc, pm, an, cdv, ct, osl, rfl, lk, hcd⟩ := F.ex
  refine fn_of lk hcd scTM (fun vs H Q E h => ?_) fun A outer s H vs Q E hr h => ?_
  · obtain ⟨a, x, y, rfl, _⟩ := h
    rfl
  · obtain ⟨a, x, y, rfl, ha, k⟩ := h
    refine ⟨_, pss_cons (ps_ost (pv 0) (pv 1)) (pss_cons (ps_ost (pv 0) (pv 2)) (pss_one (ps_ost (pv 0) pe_str))), ?_⟩
    refine ⟨_, rfl, _, rfl, a, C, rfl, T, n0, .inl ⟨ha, fun dd hd ne => ?_⟩⟩
    refine ⟨_, rfl, _, rfl, a, C, rfl, T, n1, .inr ⟨dd, _, upd_same, by rw [upd_ne ne, upd_same], (by show 1 ≤ 900; decide), ?_⟩⟩
    refine ⟨_, rfl, a, C, rfl, T, n2, .inr ⟨dd, _, by rw [upd_ne ne.symm, upd_same], upd_same, (by show 2 ≤ 900; decide), ?_⟩⟩
    exact init_read T ha hd ne k rfl rfl rfl rfl
end
end K1
set_option Elab.async false
set_option linter.all false
set_option maxRecDepth 100000
set_option maxHeartbeats 8000000
namespace K1
open PySem L2 PySem.Spec PyProof.Rows TL TLS
theorem rests_inj : ∀ j ∈ smallP, ∀ q ∈ smallP, ("rests " : Str) ++ (toString j : Str) = ("rests " : Str) ++ (toString q : Str) → j = q := by decide +kernel
theorem prime_hit {t : Str} {q : Int} (h : ¬ t = "fractions") (hq : q ∈ smallP) (e : t = ("rests " : Str) ++ (toString q : Str)) : primeDue t = q := by
  unfold primeDue
  rw [if_neg h]
  have hm : q ∈ smallP.filter (fun k => decide (t = ("rests " : Str) ++ (toString k : Str))) := List.mem_filter.mpr ⟨hq, decide_eq_true e⟩
  cases ef : smallP.filter fun k => decide (t = ("rests " : Str) ++ (toString k : Str)) with
  | nil =>
    rw [ef] at hm
    cases hm
  | cons k r =>
    have hk : k ∈ smallP.filter (fun k => decide (t = ("rests " : Str) ++ (toString k : Str))) := by
      rw [ef]
      exact List.mem_cons_self
    obtain ⟨k1, k2⟩ := List.mem_filter.mp hk
    exact rests_inj k k1 q hq ((of_decide_eq_true k2).symm.trans e)
theorem prime_miss {t : Str} (h : ¬ t = "fractions") (hn : ∀ q ∈ smallP, t ≠ ("rests " : Str) ++ (toString q : Str)) : primeDue t = -1 := by
  unfold primeDue
  rw [if_neg h, List.filter_eq_nil_iff.mpr fun q hq => by simpa using hn q hq]
section
variable {P : Program} {wd : World} {K : PySem.W.Frag} {mg : Str → Option Value} {base : Heap} {CT CB : Addr}
def SAsk (C : Addr) : SpD := fun ds Q E => ∃ (w : Str) (n m : Int), ds = [.str w, .int n, .int m] ∧ (n ≤ m → Q .non) ∧ (m < n → E ⟨C, exFs D.str "what" "count" "TooMany" (.str w) (.int n)⟩)
abbrev sAs : Stmt := top 14
theorem scAs : FnScope ["what", "count", "most"] ["what", "count", "most"] (defScope sAs) := ⟨rfl, rfl, rfl, by decide +kernel, rfl, by decide +kernel, by decide +kernel⟩
theorem calAs (Dat : DefAt K mg "ask" ["what", "count", "most"] sAs) (bn : Bn mg)  (e_TooMany : ExcAt P wd K mg base "TooMany" CT "what" "count") : Cal P wd K mg base "ask" ["what", "count", "most"] 3 (SAsk CT) := by
  refine cal_of Dat scAs (fun ds Q E h => ?_) (fun f cdv A outer s H E c Ed hr hK tk hp hW => have hu := room_units hr; (zs0 (zs_one (z_if (xt_gt (w := true) (xV 1) (xV 2)) (zs_one (z_raiseC rfl tk hW e_TooMany hr (xa_cons (xV 0) (xa_cons (xV 1) xa_nil)))) zs_nil)))) fun ds Qd Ed h => ?_
  · obtain ⟨w, n, m, rfl, _⟩ := h
    rfl
  · obtain ⟨w, n, m, rfl, h1, h2⟩ := h
    refine ⟨_, rfl, _, rfl, _, rfl, ite2 (fun h => ?_) fun h => ?_⟩
    · exact ⟨_, rfl, _, rfl, _, _, rfl, h2 (by simpa using h)⟩
    · exact h1 (by simpa using h)
def SAskText (C : Addr) : SpD := fun ds Q E => ∃ t : Str, ds = [.str t] ∧ t.length ≤ 100000 ∧ (t.length ≤ 20000 → Q .non) ∧ (20000 < t.length → E ⟨C, exFs D.str "what" "count" "TooMany" (.str "text") (.int t.length)⟩)
abbrev sAt : Stmt := top 15
theorem scAt : FnScope ["text"] ["text"] (defScope sAt) := ⟨rfl, rfl, rfl, by decide +kernel, rfl, by decide +kernel, by decide +kernel⟩
theorem calAt (Dat : DefAt K mg "ask_text" ["text"] sAt) (bn : Bn mg) (c_ask : Cal P wd K mg base "ask" ["what", "count", "most"] 3 (SAsk CT)) : Cal P wd K mg base "ask_text" ["text"] 4 (SAskText CT) := by
  refine cal_of Dat scAt (fun ds Q E h => ?_) (fun f cdv A outer s H E c Ed hr hK tk hp hW => have hu := room_units hr; (zs0 (zs_one (z_drop (w := true) (xd_cal hK c_ask hr tk hW (xa_cons xd_str (xa_cons (xd_len hK bn.len (xa_cons (xV 0) xa_nil)) (xa_cons xd_int xa_nil)))))))) fun ds Qd Ed h => ?_
  · obtain ⟨t, rfl, _⟩ := h
    rfl
  · obtain ⟨t, rfl, hl, h1, h2⟩ := h
    have z := big
    have z1 : 100000 ≤ sizeLine := by rw [sizeLine_eq]; decide
    refine ⟨_, rfl, (by omega), _, _, _, rfl, fun h => ?_, fun h => ?_⟩
    · exact h1 (by omega)
    · exact h2 (by omega)
def SReadPrime (C : Addr) : SpD := fun ds Q E => ∃ t : Str, ds = [.str t] ∧ (0 ≤ primeDue t → Q (.int (primeDue t))) ∧ (primeDue t < 0 → E ⟨C, exFs D.str "line" "why" "BadGround" (.int 1) (.str "the numbers are fractions, or rests with a prime from 2 to 97")⟩)
abbrev sRp : Stmt := top 25
theorem scRp : FnScope ["line", "prime"] ["line"] (defScope sRp) := ⟨rfl, rfl, rfl, by decide +kernel, rfl, by decide +kernel, by decide +kernel⟩
theorem calRp (Dat : DefAt K mg "_read_prime" ["line"] sRp) (bn : Bn mg)  (e_BadGround : ExcAt P wd K mg base "BadGround" CB "line" "why") (g_PRIMES : GAt K mg "PRIMES" (.tup (smallP.map D.int))) : Cal P wd K mg base "_read_prime" ["line"] 3 (SReadPrime CB) := by
  refine cal_of Dat scRp (fun ds Q E h => ?_) (fun f cdv A outer s H E c Ed hr hK tk hp hW => have hu := room_units hr; (zs0 (zs_cons (z_if (xt_eq (w := true) hK hu (xV 0) xd_str) (zs_one (z_ret (xd_weak xd_int))) zs_nil) (zs_cons (z_for hp rfl (xi_tup hK (xd_gat hK g_PRIMES)) (yN 1 scRp.nd) (zs_one (z_if (xt_eq (w := true) hK hu (xV 0) (xd_joined (PJD.cons xd_str (PJD.cons (xd_fmt (xV 1)) PJD.nil)))) (zs_one (z_ret (xd_weak (xV 1)))) zs_nil))) (zs_one (z_raiseC rfl tk hW e_BadGround hr (xa_cons xd_int (xa_cons xd_str xa_nil)))))))) fun ds Qd Ed h => ?_
  · obtain ⟨t, rfl, _⟩ := h
    rfl
  · obtain ⟨t, rfl, h1, h2⟩ := h
    have z := big
    refine ⟨_, rfl, _, rfl, ite2 (fun h => ?_) fun h => ?_⟩
    · have h : t = "fractions" := by simpa [sameD] using h
      have e : primeDue t = 0 := by unfold primeDue; rw [if_pos h]
      rw [e] at h1
      exact h1 (by decide)
    · have h : ¬ t = "fractions" := by simpa [sameD] using h
      refine ⟨smallP.map D.int, rfl, ?_⟩
      refine for_inv (smallP.map D.int) (fun i γ' => ∃ s : Option Slot, (∀ q ∈ smallP.take i, t ≠ ("rests " : Str) ++ (toString q : Str)) ∧ γ' = [some (.val (.str t)), s]) _ ⟨none, by simp, rfl⟩ (fun i e γ' hi ⟨s, hs, eγ⟩ N hN => ?_) fun γ' ⟨s, hs, eγ⟩ => ?_
      · subst eγ
        rw [List.getElem?_map] at hi
        obtain ⟨q, hq, rfl⟩ := Option.map_eq_some_iff.mp hi
        have hm : q ∈ smallP := List.mem_of_getElem? hq
        have hp := (small_pr q hm).1
        have l := pr_len q hp
        have e0 : Str.empty ++ ("rests " : Str) = "rests " := by decide +kernel
        refine ⟨_, rfl, _, rfl, (by rw [e0]; show 6 ≤ sizeLine; omega), _, rfl, .inr ⟨q, rfl, pr_log q hp, _, rfl, (by rw [e0, len_app]; show 6 + (toString q : Str).length ≤ sizeLine; omega), ?_⟩⟩
        refine ⟨_, rfl, ite2 (fun h3 => ?_) fun h3 => ?_⟩
        · have e : t = ("rests " : Str) ++ (toString q : Str) := by
            have h4 : (false ^^ decide (t = Str.empty ++ ("rests " : Str) ++ (toString q : Str))) = true := h3
            rw [Bool.false_xor, e0] at h4
            exact of_decide_eq_true h4
          have e2 := prime_hit h hm e
          rw [e2] at h1
          exact ⟨_, rfl, h1 (by have := (small_pr q hm).2; omega)⟩
        · have e : ¬ t = ("rests " : Str) ++ (toString q : Str) := fun e => h3 (by
            show (false ^^ decide (t = Str.empty ++ ("rests " : Str) ++ (toString q : Str))) = true
            rw [Bool.false_xor, e0]
            exact decide_eq_true e)
          refine hN _ ⟨some (.val (.int q)), fun j hj => ?_, rfl⟩
          rw [List.take_add_one, hq] at hj
          rcases List.mem_append.mp hj with hj | hj
          · exact hs j hj
          · simp at hj
            subst hj
            exact e
      · subst eγ
        rw [List.length_map, List.take_length] at hs
        exact ⟨_, _, rfl, h2 (by rw [prime_miss h hs]; decide)⟩
end
end K1
set_option Elab.async false
set_option linter.all false
set_option maxRecDepth 100000
set_option maxHeartbeats 8000000
namespace K1
open PySem L2 PySem.Spec PyProof.Rows TL TLS
def dirRows : List Str := ["directions x", "directions x y", "directions x y z"]
def wordsOf (l : Str) : List Str := Txt.split l " "
def nameRow (l : Str) : Bool := decide ((wordsOf l).headD "" = "names") && namesOk (wordsOf l).tail
/-- the line at which a ground's rows fail, 0: none -/
def readCode : List Str → Int
  | [] => 1
  | l0 :: r => if primeDue l0 < 0 then 1 else match r with
    | [] => 2
    | l1 :: r => if l1 ∈ dirRows then (match r with
      | [] => 3
      | l2 :: r => if nameRow l2 = true then (if r = [] then 0 else 4) else 3) else 2
section
variable {P : Program} {wd : World} {K : PySem.W.Frag} {mg : Str → Option Value} {base : Heap} {CT CB : Addr}
def SReadGround (C : Addr) : SpD := fun ds Q E => ∃ ls : List Str, ds = [.lst (ls.map D.str)] ∧ (∀ l ∈ ls, l.length < 3000) ∧ (∀ l0 l1 l2, ls = [l0, l1, l2] → readCode ls = 0 → Q (.tup [.int (primeDue l0), .lst ((wordsOf l1).tail.map D.str), .lst ((wordsOf l2).tail.map D.str)])) ∧ (∀ why : Str, why ≠ "" → readCode ls ≠ 0 → E ⟨C, exFs D.str "line" "why" "BadGround" (.int (readCode ls)) (.str why)⟩)
abbrev sRg : Stmt := top 24
theorem scRg : FnScope ["lines", "prime", "word", "names"] ["lines"] (defScope sRg) := ⟨rfl, rfl, rfl, by decide +kernel, rfl, by decide +kernel, by decide +kernel⟩
theorem calRg (Dat : DefAt K mg "read_ground" ["lines"] sRg) (bn : Bn mg) (c__read_prime : Cal P wd K mg base "_read_prime" ["line"] 3 (SReadPrime CB)) (c_are_names : Cal P wd K mg base "are_names" ["words"] 2 (fun ds Q E => SArN ds Q E ∨ SArT ds Q E)) (e_BadGround : ExcAt P wd K mg base "BadGround" CB "line" "why") (g_DIRECTIONS : GAt K mg "DIRECTIONS" (.tup [.str "directions x", .str "directions x y", .str "directions x y z"])) : Cal P wd K mg base "read_ground" ["lines"] 4 (SReadGround CB) := by
  refine cal_of Dat scRg (fun ds Q E h => ?_) (fun f cdv A outer s H E c Ed hr hK tk hp hW => have hu := room_units hr; (zs0 (zs_cons (z_if (xt_not (xt_tru (w := true) hK (xV 0))) (zs_one (z_raiseC rfl tk hW e_BadGround hr (xa_cons xd_int (xa_cons xd_str xa_nil)))) zs_nil) (zs_cons (zS 1 scRg.nd (xd_cal hK c__read_prime hr tk hW (xa_cons (xd_ix hK (fun _ _ => rfl) (xV 0) xd_int) xa_nil))) (zs_cons (z_if (xt_eq (w := true) hK hu (xd_len hK bn.len (xa_cons (xV 0) xa_nil)) xd_int) (zs_one (z_raiseC rfl tk hW e_BadGround hr (xa_cons xd_int (xa_cons xd_str xa_nil)))) zs_nil) (zs_cons (z_if (xt_notin (w := true) hK rfl (xd_ix hK (fun _ _ => rfl) (xV 0) xd_int) (xd_gat hK g_DIRECTIONS)) (zs_one (z_raiseC rfl tk hW e_BadGround hr (xa_cons xd_int (xa_cons xd_str xa_nil)))) zs_nil) (zs_cons (z_if (xt_eq (w := true) hK hu (xd_len hK bn.len (xa_cons (xV 0) xa_nil)) xd_int) (zs_one (z_raiseC rfl tk hW e_BadGround hr (xa_cons xd_int (xa_cons xd_str xa_nil)))) zs_nil) (zs_cons (z_star hK rfl (xd_new (xf_split (xd_ix hK (fun _ _ => rfl) (xV 0) xd_int) xd_str)) (ygs_cons (yN 2 scRg.nd) (ygs_cons (yN 3 scRg.nd) ygs_nil))) (zs_cons (z_if (xt_w (xw_or (xt_ne (w := true) hK hu (xV 2) xd_str) (xw_or (xt_not (xt_tru (w := true) hK (xV 3))) (xw_or1 (xt_not (xt_val (w := true) (xd_cal hK c_are_names hr tk_no hW_no (xa_cons (xV 3) xa_nil)))))))) (zs_one (z_raiseC rfl tk hW e_BadGround hr (xa_cons xd_int (xa_cons xd_str xa_nil)))) zs_nil) (zs_cons (z_if (xt_gt (w := true) (xd_len hK bn.len (xa_cons (xV 0) xa_nil)) xd_int) (zs_one (z_raiseC rfl tk hW e_BadGround hr (xa_cons xd_int (xa_cons xd_str xa_nil)))) zs_nil) (zs_one (z_ret (xd_weak (xd_tup (xa_cons (xV 1) (xa_cons (xd_slice hK (xd_new (xf_split (xd_ix hK (fun _ _ => rfl) (xV 0) xd_int) xd_str)) (xo_some xd_int) xo_none) (xa_cons (xV 3) xa_nil))))))))))))))))) fun ds Qd Ed h => ?_
  · obtain ⟨t, rfl, _⟩ := h
    rfl
  · obtain ⟨t, rfl, hl, hq, hE⟩ := h
    have z := big
    cases t with
    | nil => exact ⟨_, rfl, _, _, rfl, hE _ (by decide +kernel) (by decide)⟩
    | cons l0 r =>
      refine ⟨_, rfl, ?_⟩
      refine ⟨_, rfl, _, at_nat (j := 0) rfl, l0, rfl, fun hp => ?_, fun hp => by
        have e : readCode (l0 :: r) = 1 := by exact if_pos hp
        rw [e] at hE
        exact hE _ (by decide +kernel) (by decide)⟩
      have hp' : ¬ primeDue l0 < 0 := by omega
      cases r with
      | nil =>
        have e : readCode [l0] = 2 := if_neg hp'
        rw [e] at hE
        exact ⟨_, rfl, _, rfl, ite2 (fun _ => ⟨_, _, rfl, hE _ (by decide +kernel) (by decide)⟩) fun h => absurd rfl h⟩
      | cons l1 r =>
        refine ⟨_, rfl, _, rfl, ite2 (fun h => ?_) fun _ => ?_⟩
        · have h : (false ^^ decide ((((l0 :: l1 :: r).map D.str).length : Int) = 1)) = true := h
          simp at h
          omega
        refine ⟨_, rfl, _, at_nat (j := 1) rfl, rfl, rfl, _, rfl, ite2 (fun h => ?_) fun h => ?_⟩
        · have hd : ¬ l1 ∈ dirRows := fun hd => by
            have h : (true ^^ inS (.str l1) (dirRows.map D.str)) = true := h
            rw [inS_strs, decide_eq_true hd] at h
            cases h
          have e : readCode (l0 :: l1 :: r) = 2 := (if_neg hp').trans (if_neg hd)
          rw [e] at hE
          exact ⟨_, _, rfl, hE _ (by decide +kernel) (by decide)⟩
        · have hd : l1 ∈ dirRows := by
            by_cases hd : l1 ∈ dirRows
            · exact hd
            · refine absurd ?_ h
              show (true ^^ inS (.str l1) (dirRows.map D.str)) = true
              rw [inS_strs, decide_eq_false hd]
              rfl
          have l1l := hl l1 (by simp)
          cases r with
          | nil =>
            have e : readCode [l0, l1] = 3 := (if_neg hp').trans (if_pos hd)
            rw [e] at hE
            exact ⟨_, rfl, _, rfl, ite2 (fun _ => ⟨_, _, rfl, hE _ (by decide +kernel) (by decide)⟩) fun h => absurd rfl h⟩
          | cons l2 r =>
            have l2l := hl l2 (by simp)
            refine ⟨_, rfl, _, rfl, ite2 (fun h => ?_) fun _ => ?_⟩
            · have h : (false ^^ decide ((((l0 :: l1 :: l2 :: r).map D.str).length : Int) = 2)) = true := h
              simp at h
              omega
            have ec : readCode (l0 :: l1 :: l2 :: r) = if nameRow l2 = true then (if r = [] then 0 else 4) else 3 := (if_neg hp').trans (if_pos hd)
            have hwt : ∀ y ∈ wordsOf l2, y.length < sizeLine := fun y hy => by
              have h1 := PyProof.Rows.split_weight l2 " " (by decide +kernel)
              have h2 : y.length ≤ ((Txt.split l2 " ").map (·.length)).sum := le_sum hy
              omega
            have hcn : (wordsOf l2).length ≤ l2.length + 2 := PyProof.Rows.split_le l2 " "
            have hpos : 1 ≤ (wordsOf l2).length := PyProof.Rows.split_pos l2 " "
            refine ⟨_, rfl, _, at_nat (j := 2) rfl, l2, rfl, _, rfl, by decide +kernel, by omega, ?_⟩
            show yStar _ (.lst ((wordsOf l2).map D.str)) _ _
            cases ew : wordsOf l2 with
            | nil =>
              rw [ew] at hpos
              simp at hpos
            | cons w ws =>
              rw [ew] at hwt hcn
              refine ⟨.str w, ws.map D.str, rfl, .str w, _, rfl, .lst (ws.map D.str), _, rfl, rfl, ?_⟩
              have bad : nameRow l2 = false → Ed ⟨CB, exFs D.str "line" "why" "BadGround" (.int 3) (.str "different names are expected here")⟩ := fun hn => by
                have e3 : readCode (l0 :: l1 :: l2 :: r) = 3 := by
                  rw [ec, hn]
                  rfl
                rw [e3] at hE
                exact hE _ (by decide +kernel) (by decide)
              have nr : nameRow l2 = (decide (w = "names") && namesOk ws) := by
                unfold nameRow
                rw [ew]
                rfl
              refine ⟨_, rfl, _, rfl, ite2 (fun h => ?_) fun h => ?_⟩
              · have h : (true ^^ decide (w = "names")) = true := h
                refine ⟨_, _, rfl, bad ?_⟩
                rw [nr]
                cases hw : decide (w = "names") with
                | false => rfl
                | true => rw [hw] at h; cases h
              · have hw : decide (w = "names") = true := by
                  cases hw : decide (w = "names") with
                  | true => rfl
                  | false =>
                    refine absurd ?_ h
                    show (true ^^ decide (w = "names")) = true
                    rw [hw]
                    rfl
                rw [hw, Bool.true_and] at nr
                refine ⟨_, rfl, ?_⟩
                cases ws with
                | nil => exact ⟨_, _, rfl, bad (by rw [nr]; rfl)⟩
                | cons x ws =>
                  refine ⟨_, rfl, .inl ⟨x :: ws, rfl, by simp at hcn ⊢; omega, fun y hy => hwt y (List.mem_cons_of_mem _ hy), ?_⟩⟩
                  have no : namesOk (x :: ws) = distinctOk (x :: ws) := by
                    unfold namesOk
                    rw [List.length_cons, decide_eq_true (Nat.succ_pos _), Bool.true_and]
                  rw [no] at nr
                  refine ⟨_, rfl, ite2 (fun h => ?_) fun h => ?_⟩
                  · refine ⟨_, _, rfl, bad ?_⟩
                    rw [nr]
                    cases hd : distinctOk (x :: ws) with
                    | false => rfl
                    | true => rw [hd] at h; cases h
                  · have hd : nameRow l2 = true := by
                      rw [nr]
                      cases hd : distinctOk (x :: ws) with
                      | true => rfl
                      | false => rw [hd] at h; exact absurd rfl h
                    rw [if_pos hd] at ec
                    refine ⟨_, rfl, _, rfl, ite2 (fun h => ?_) fun h => ?_⟩
                    · have hr : ¬ r = [] := fun hr => by
                        subst hr
                        have h : decide ((3 : Int) < 3) = true := h
                        exact absurd (of_decide_eq_true h) (by decide)
                      rw [if_neg hr] at ec
                      rw [ec] at hE
                      exact ⟨_, _, rfl, hE _ (by decide +kernel) (by decide)⟩
                    · cases r with
                      | nil =>
                        rw [if_pos rfl] at ec
                        have hq := hq l0 l1 l2 rfl ec
                        rw [ew] at hq
                        refine ⟨_, rfl, _, rfl, _, at_nat (j := 1) rfl, l1, rfl, _, rfl, by decide +kernel, by omega, 1, rfl, ?_⟩
                        have ed : TL.cutD ((Txt.split l1 " ").map D.str) (some ((1 : Nat) : Int)) none = (wordsOf l1).tail.map D.str := by
                          rw [cut_lo, ← List.map_drop, List.drop_one]
                          rfl
                        refine ⟨_, rfl, (by show 3 ≤ sizeLine; omega), ?_⟩
                        show Qd (.tup [.int (primeDue l0), .lst (TL.cutD ((Txt.split l1 " ").map D.str) (some ((1 : Nat) : Int)) none), .lst ((x :: ws).map D.str)])
                        rw [ed]
                        exact hq
                      | cons y r =>
                        refine absurd ?_ h
                        show decide (((((l0 :: l1 :: l2 :: y :: r).map D.str).length : Nat) : Int) > 3) = true
                        refine decide_eq_true ?_
                        simp
                        omega
end
end K1
set_option Elab.async false
set_option linter.all false
set_option maxRecDepth 100000
set_option maxHeartbeats 8000000
namespace K1
open PySem L2 PySem.Spec PyProof.Rows TL TLS
/-- the line at which the law lets a text fail, 0: none -/
def dueCode (tail : Str) : List Str → Int
  | [] => 1
  | l0 :: r => if primeDue l0 < 0 then 1 else match r with
    | [] => 2
    | l1 :: r => if l1 ∈ dirRows then (match r with
      | [] => 3
      | l2 :: r => if nameRow l2 = true then (if r = [] ∧ tail = "" then 0 else 4) else 3) else 2
def wayRow (k : Int) : Str := if k = 1 then "directions x" else if k = 2 then "directions x y" else "directions x y z"
def waysOf (l : Str) : Int := if l = "directions x" then 1 else if l = "directions x y" then 2 else 3
def rowsOf (t : Str) : List Str := (Txt.split t NL).dropLast
def tailOf (t : Str) : Str := (Txt.split t NL).getLastD ""
theorem way_filter (l : Str) : (([.int 1, .int 2, .int 3] : List D).filter fun d => match d with | .int k => decide (l = wayRow k) | _ => false) = if l ∈ dirRows then [.int (waysOf l)] else [] := by
  have n12 : ¬ ("directions x" : Str) = "directions x y" := by decide +kernel
  have n13 : ¬ ("directions x" : Str) = "directions x y z" := by decide +kernel
  have n23 : ¬ ("directions x y" : Str) = "directions x y z" := by decide +kernel
  have n21 : ¬ ("directions x y" : Str) = "directions x" := by decide +kernel
  have n31 : ¬ ("directions x y z" : Str) = "directions x" := by decide +kernel
  have n32 : ¬ ("directions x y z" : Str) = "directions x y" := by decide +kernel
  have w1 : wayRow 1 = "directions x" := rfl
  have w2 : wayRow 2 = "directions x y" := rfl
  have w3 : wayRow 3 = "directions x y z" := rfl
  by_cases h1 : l = "directions x"
  · subst h1
    simp [List.filter_cons, w1, w2, w3, dirRows, waysOf, n12, n13]
  · by_cases h2 : l = "directions x y"
    · subst h2
      simp [List.filter_cons, w1, w2, w3, dirRows, waysOf, n21, n23]
    · by_cases h3 : l = "directions x y z"
      · subst h3
        simp [List.filter_cons, w1, w2, w3, dirRows, waysOf, n31, n32]
      · simp [List.filter_cons, w1, w2, w3, dirRows, waysOf, h1, h2, h3]
section
variable {P : Program} {wd : World} {K : PySem.W.Frag} {mg : Str → Option Value} {base : Heap} {CT CB : Addr}
def SDue : SpD := fun ds Q _ => ∃ t : Str, ds = [.str t] ∧ t.length < 3000 ∧ (∀ l0 l1 l2, rowsOf t = [l0, l1, l2] → dueCode (tailOf t) (rowsOf t) = 0 → Q (.tup [.int 0, .tup [.int (primeDue l0), .int (waysOf l1), .lst ((wordsOf l2).tail.map D.str)]])) ∧ (dueCode (tailOf t) (rowsOf t) ≠ 0 → Q (.tup [.int (dueCode (tailOf t) (rowsOf t)), .non]))
abbrev sGd : Stmt := top 40
theorem scGd : FnScope ["text_in", "rows", "full", "tail", "prime", "ways", "k", "words"] ["text_in"] (defScope sGd) := ⟨rfl, rfl, rfl, by decide +kernel, rfl, by decide +kernel, by decide +kernel⟩
theorem calGd (Dat : DefAt K mg "_law_ground_due" ["text_in"] sGd) (bn : Bn mg) (c__law_prime_due : Cal P wd K mg base "_law_prime_due" ["row"] 1 SPd) (c__law_names_so : Cal P wd K mg base "_law_names_so" ["words"] 2 SNamesSo) : Cal P wd K mg base "_law_ground_due" ["text_in"] 3 SDue := by
  refine cal_of Dat scGd (fun ds Q E h => ?_) (fun f cdv A outer s H E c Ed hr hK tk hp hW => have hu := room_units hr; (zs0 (zs_cons (zS 1 scGd.nd (xd_new (xf_split (xV 0) xd_str))) (zs_cons (z_asg (xd_tup (xa_cons (xd_slice hK (xV 1) xo_none (xo_some (xd_sub (xd_len hK bn.len (xa_cons (xV 1) xa_nil)) xd_int))) (xa_cons (xd_ix hK (fun _ _ => rfl) (xV 1) (xd_sub (xd_len hK bn.len (xa_cons (xV 1) xa_nil)) xd_int)) xa_nil))) (yg_tup (n := 2) hK rfl (ygs_cons (yN 2 scGd.nd) (ygs_cons (yN 3 scGd.nd) ygs_nil)))) (zs_cons (zS 4 scGd.nd (xd_if (xt_gt (w := true) (xd_len hK bn.len (xa_cons (xV 2) xa_nil)) xd_int) (xd_cal hK c__law_prime_due hr tk_no hW_no (xa_cons (xd_ix hK (fun _ _ => rfl) (xV 2) xd_int) xa_nil)) (xd_sub xd_int xd_int))) (zs_cons (z_if (xt_lt (w := true) (xV 4) xd_int) (zs_one (z_ret (xd_weak (xd_tup (xa_cons xd_int (xa_cons xd_non xa_nil)))))) zs_nil) (zs_cons (z_lc (i := 5) rfl scGd.nd rfl rfl (sw_true rfl rfl rfl (by decide +kernel)) (xi_tup hK (xd_tup (xa_cons xd_int (xa_cons xd_int (xa_cons xd_int xa_nil))))) (blkOk_by (N := ["text_in", "rows", "full", "tail", "prime", "ways", "k", "words"]) (sc := defScope sGd) (own := [("k", 6)]) (by decide +kernel)) (fun _ h => h) (fun _ _ _ _ _ _ => (yN 6 scGd.nd)) (fun _ _ _ _ _ _ => (xts_one (xt_w (xw_and (xt_gt (w := true) (xd_len hK bn.len (xa_cons (xV 2) xa_nil)) xd_int) (xw_and1 (xt_eq (w := true) hK hu (xd_ix hK (fun _ _ => rfl) (xV 2) xd_int) (xd_join hK xd_str (xd_slice hK (xd_new (xf_lst (xa_cons xd_str (xa_cons xd_str (xa_cons xd_str (xa_cons xd_str xa_nil)))))) xo_none (xo_some (xd_add (xV 6) xd_int)))))))))) (fun _ _ _ _ _ _ => (xV 6))) (zs_cons (z_if (xt_not (xt_tru (w := true) hK (xV 5))) (zs_one (z_ret (xd_weak (xd_tup (xa_cons xd_int (xa_cons xd_non xa_nil)))))) zs_nil) (zs_cons (zS 7 scGd.nd (xd_if (xt_gt (w := true) (xd_len hK bn.len (xa_cons (xV 2) xa_nil)) xd_int) (xd_new (xf_split (xd_ix hK (fun _ _ => rfl) (xV 2) xd_int) xd_str)) (xd_new (xf_lst (xa_cons xd_str xa_nil))))) (zs_cons (z_if (xt_w (xw_or (xt_ne (w := true) hK hu (xd_ix hK (fun _ _ => rfl) (xV 7) xd_int) xd_str) (xw_or1 (xt_not (xt_val (w := true) (xd_cal hK c__law_names_so hr tk_no hW_no (xa_cons (xd_slice hK (xV 7) (xo_some xd_int) xo_none) xa_nil))))))) (zs_one (z_ret (xd_weak (xd_tup (xa_cons xd_int (xa_cons xd_non xa_nil)))))) zs_nil) (zs_one (z_ret (xd_weak (xd_if (xt_w (xw_or (xt_gt (w := true) (xd_len hK bn.len (xa_cons (xV 2) xa_nil)) xd_int) (xw_or1 (xt_ne (w := true) hK hu (xV 3) xd_str)))) (xd_tup (xa_cons xd_int (xa_cons xd_non xa_nil))) (xd_tup (xa_cons xd_int (xa_cons (xd_tup (xa_cons (xV 4) (xa_cons (xd_ix hK (fun _ _ => rfl) (xV 5) xd_int) (xa_cons (xd_slice hK (xV 7) (xo_some xd_int) xo_none) xa_nil)))) xa_nil))))))))))))))))) fun ds Qd Ed h => ?_
  · obtain ⟨t, rfl, _⟩ := h
    rfl
  · obtain ⟨t, rfl, hl, hq, hE⟩ := h
    have z : 1000000 ≤ sizeLine := by rw [sizeLine_eq]; decide
    have hlen := PyProof.Rows.split_le t NL
    have hpos := PyProof.Rows.split_pos t NL
    have hwt : ∀ y ∈ Txt.split t NL, y.length < 3001 := fun y hy => by
      have h1 := PyProof.Rows.split_weight t NL (by decide +kernel)
      have h2 : y.length ≤ ((Txt.split t NL).map (·.length)).sum := le_sum hy
      omega
    refine ⟨_, rfl, _, rfl, _, rfl, by decide +kernel, by omega, ?_⟩
    rcases List.eq_nil_or_concat (Txt.split t NL) with e | ⟨fu, la, e⟩
    · rw [e] at hpos
      simp at hpos
    rw [List.concat_eq_append] at e
    have ef : rowsOf t = fu := by unfold rowsOf; rw [e]; simp
    have et : tailOf t = la := by unfold tailOf; rw [e, List.getLastD_eq_getLast?]; simp
    rw [ef, et] at hq hE
    rw [e] at hwt hlen
    show zSeq _ _ _ ([some (.val (.str t)), some (.val (.lst ((Txt.split t NL).map D.str))), none, none, none, none, none, none] : TL.Env)
    rw [e]
    have i1 : ((((fu ++ [la]).map D.str).length : Nat) : Int) - 1 = ((fu.length : Nat) : Int) := by simp
    have cu : TL.cutD ((fu ++ [la]).map D.str) none (some (((((fu ++ [la]).map D.str).length : Nat) : Int) - 1)) = fu.map D.str := by
      rw [i1, cut_hi, List.map_append, ← List.length_map (f := D.str) (as := fu), List.take_left]
    have ai : atI ((fu ++ [la]).map D.str) (((((fu ++ [la]).map D.str).length : Nat) : Int) - 1) = some (.str la) := by
      rw [i1]
      exact at_nat (by simp)
    refine ⟨_, rfl, _, rfl, _, rfl, _, rfl, _, rfl, .str la, ai, (by show 2 ≤ sizeLine; omega), ?_⟩
    refine ⟨_, rfl, rfl, _, _, rfl, _, _, rfl, rfl, ?_⟩
    show zSeq _ _ _ ([some (.val (.str t)), some (.val (.lst ((fu ++ [la]).map D.str))), some (.val (.lst (TL.cutD ((fu ++ [la]).map D.str) none (some (((((fu ++ [la]).map D.str).length : Nat) : Int) - 1))))), some (.val (.str la)), none, none, none, none] : TL.Env)
    rw [cu]
    cases fu with
    | nil => exact ⟨_, rfl, _, rfl, _, rfl, _, rfl, (by show 2 ≤ sizeLine; omega), hE (by show (1 : Int) ≠ 0; decide)⟩
    | cons l0 r =>
    refine ⟨_, rfl, _, rfl, ?_⟩
    have g0 : decide ((((l0 :: r).map D.str).length : Int) > 0) = true := decide_eq_true (by simp)
    show if decide ((((l0 :: r).map D.str).length : Int) > 0) = true then _ else _
    rw [if_pos g0]
    refine ⟨_, rfl, _, at_nat (j := 0) rfl, l0, rfl, ?_⟩
    refine ⟨_, rfl, _, rfl, ite2 (fun h => ?_) fun h => ?_⟩
    · have hp : primeDue l0 < 0 := of_decide_eq_true h
      have e1 : dueCode la (l0 :: r) = 1 := if_pos hp
      rw [e1] at hE
      exact ⟨(by show 2 ≤ sizeLine; omega), hE (by decide)⟩
    · have hp : ¬ primeDue l0 < 0 := fun hp => h (decide_eq_true hp)
      cases r with
      | nil =>
        have e2 : dueCode la [l0] = 2 := if_neg hp
        rw [e2] at hE
        refine ⟨(by show 3 ≤ sizeLine; omega), [.int 1, .int 2, .int 3], rfl, (by show 3 < sizeLine; omega), rfl, ?_⟩
        refine lc_map (p := fun _ => false) (f := fun d => d) [.int 1, .int 2, .int 3] [] _ (fun d hd R hR => ?_) ?_
        · refine hR _ (fun R' h' => ?_) fun hh => by cases hh
          exact ⟨_, rfl, _, rfl, h'⟩
        · refine ⟨_, rfl, ?_⟩
          exact ⟨(by show 2 ≤ sizeLine; omega), hE (by decide)⟩
      | cons l1 r =>
        have g1 : decide ((((l0 :: l1 :: r).map D.str).length : Int) > 1) = true := decide_eq_true (by simp; omega)
        refine ⟨(by show 3 ≤ sizeLine; omega), [.int 1, .int 2, .int 3], rfl, (by show 3 < sizeLine; omega), rfl, ?_⟩
        refine lc_map (p := fun d => match d with | .int k => decide (l1 = wayRow k) | _ => false) (f := fun d => d) [.int 1, .int 2, .int 3] [] _ (fun d hd R hR => ?_) ?_
        · refine hR _ (fun R' h' => ?_) fun _ R' h' => ⟨_, rfl, h'⟩
          refine ⟨_, rfl, _, rfl, ?_⟩
          show if decide ((((l0 :: l1 :: r).map D.str).length : Int) > 1) = true then _ else _
          rw [if_pos g1]
          refine ⟨_, rfl, _, at_nat (j := 1) rfl, ?_⟩
          have hd : d = .int 1 ∨ d = .int 2 ∨ d = .int 3 := by simpa using hd
          have zz : 16777216 ≤ sizeLine := by rw [sizeLine_eq]; decide
          rcases hd with rfl | rfl | rfl
          · refine ⟨_, rfl, (by show 4 ≤ sizeLine; omega), _, rfl, _, rfl, ["directions", "x"], .inl rfl, by decide +kernel, ?_⟩
            show ∃ k, D.bl (false ^^ decide (l1 = Txt.join " " ["directions", "x"])) = .bl k ∧ R' k
            rw [show Txt.join " " ["directions", "x"] = wayRow 1 by decide +kernel, Bool.false_xor]
            exact ⟨_, rfl, h'⟩
          · refine ⟨_, rfl, (by show 4 ≤ sizeLine; omega), _, rfl, _, rfl, ["directions", "x", "y"], .inl rfl, by decide +kernel, ?_⟩
            show ∃ k, D.bl (false ^^ decide (l1 = Txt.join " " ["directions", "x", "y"])) = .bl k ∧ R' k
            rw [show Txt.join " " ["directions", "x", "y"] = wayRow 2 by decide +kernel, Bool.false_xor]
            exact ⟨_, rfl, h'⟩
          · refine ⟨_, rfl, (by show 4 ≤ sizeLine; omega), _, rfl, _, rfl, ["directions", "x", "y", "z"], .inl rfl, by decide +kernel, ?_⟩
            show ∃ k, D.bl (false ^^ decide (l1 = Txt.join " " ["directions", "x", "y", "z"])) = .bl k ∧ R' k
            rw [show Txt.join " " ["directions", "x", "y", "z"] = wayRow 3 by decide +kernel, Bool.false_xor]
            exact ⟨_, rfl, h'⟩
        · rw [way_filter, List.nil_append, List.map_id'' (fun _ => rfl)]
          by_cases hd : l1 ∈ dirRows
          · rw [if_pos hd]
            cases r with
            | nil =>
              have e3 : dueCode la [l0, l1] = 3 := (if_neg hp).trans (if_pos hd)
              rw [e3] at hE
              exact ⟨_, rfl, _, rfl, _, rfl, (by show 1 ≤ sizeLine; omega), _, rfl, _, at_nat (j := 0) rfl, _, rfl, (by show 2 ≤ sizeLine; omega), hE (by decide)⟩
            | cons l2 r =>
              refine ⟨_, rfl, _, rfl, _, rfl, ?_⟩
              have g2 : decide ((((l0 :: l1 :: l2 :: r).map D.str).length : Int) > 2) = true := decide_eq_true (by simp; omega)
              show if decide ((((l0 :: l1 :: l2 :: r).map D.str).length : Int) > 2) = true then _ else _
              rw [if_pos g2]
              have hlw : ∀ y ∈ l0 :: l1 :: l2 :: r ++ [la], y.length < 3001 := hwt
              have l2l := hlw l2 (by simp)
              have hwt2 : ∀ y ∈ wordsOf l2, y.length < sizeLine := fun y hy => by
                have h1 := PyProof.Rows.split_weight l2 " " (by decide +kernel)
                have h2 : y.length ≤ ((Txt.split l2 " ").map (·.length)).sum := le_sum hy
                omega
              have hcn : (wordsOf l2).length ≤ l2.length + 2 := PyProof.Rows.split_le l2 " "
              have hpos2 : 1 ≤ (wordsOf l2).length := PyProof.Rows.split_pos l2 " "
              have ec : dueCode la (l0 :: l1 :: l2 :: r) = if nameRow l2 = true then (if r = [] ∧ la = "" then 0 else 4) else 3 := (if_neg hp).trans (if_pos hd)
              refine ⟨_, rfl, _, at_nat (j := 2) rfl, l2, rfl, _, rfl, by decide +kernel, by omega, ?_⟩
              cases ew : wordsOf l2 with
              | nil =>
                rw [ew] at hpos2
                simp at hpos2
              | cons w ws =>
                have ew' : Txt.split l2 " " = w :: ws := ew
                rw [ew'] 
                rw [ew] at hwt2 hcn
                have nr : nameRow l2 = (decide (w = "names") && namesOk ws) := by
                  unfold nameRow
                  rw [ew]
                  rfl
                have bad : nameRow l2 = false → Qd (.tup [.int 3, .non]) := fun hn => by
                  have e3 : dueCode la (l0 :: l1 :: l2 :: r) = 3 := by
                    rw [ec, hn]
                    rfl
                  rw [e3] at hE
                  exact hE (by decide)
                refine ⟨_, rfl, _, at_nat (j := 0) rfl, _, rfl, ite2 (fun h => ?_) fun h => ?_⟩
                · have h : (true ^^ decide (w = "names")) = true := h
                  refine ⟨(by show 2 ≤ sizeLine; omega), bad ?_⟩
                  rw [nr]
                  cases hw : decide (w = "names") with
                  | false => rfl
                  | true => rw [hw] at h; cases h
                · have hw : decide (w = "names") = true := by
                    cases hw : decide (w = "names") with
                    | true => rfl
                    | false =>
                      refine absurd ?_ h
                      show (true ^^ decide (w = "names")) = true
                      rw [hw]
                      rfl
                  rw [hw, Bool.true_and] at nr
                  have cw : TL.cutD ((w :: ws).map D.str) (some ((1 : Nat) : Int)) none = ws.map D.str := by
                    rw [cut_lo]
                    rfl
                  refine ⟨_, rfl, 1, rfl, ws, congrArg (fun q => [D.lst q]) cw, by simp at hcn; omega, fun y hy => hwt2 y (List.mem_cons_of_mem _ hy), _, rfl, ite2 (fun h => ?_) fun h => ?_⟩
                  · refine ⟨(by show 2 ≤ sizeLine; omega), bad ?_⟩
                    rw [nr]
                    cases hd : namesOk ws with
                    | false => rfl
                    | true => rw [hd] at h; cases h
                  · have hn : nameRow l2 = true := by
                      rw [nr]
                      cases hd : namesOk ws with
                      | true => rfl
                      | false => rw [hd] at h; exact absurd rfl h
                    rw [if_pos hn] at ec
                    cases r with
                    | nil =>
                      refine ⟨_, rfl, _, rfl, _, rfl, _, rfl, ite2 (fun h => ?_) fun h => ?_⟩
                      · have h : (true ^^ decide (la = "")) = true := h
                        have hla : ¬ la = "" := fun z => by
                          rw [decide_eq_true z] at h
                          cases h
                        rw [if_neg fun z => hla z.2] at ec
                        rw [ec] at hE
                        exact ⟨(by show 2 ≤ sizeLine; omega), hE (by decide)⟩
                      · have hla : la = "" := by
                          cases hw : decide (la = "") with
                          | true => exact of_decide_eq_true hw
                          | false =>
                            refine absurd ?_ h
                            show (true ^^ decide (la = "")) = true
                            rw [hw]
                            rfl
                        rw [if_pos ⟨rfl, hla⟩] at ec
                        have hq := hq l0 l1 l2 rfl ec
                        rw [ew] at hq
                        refine ⟨_, rfl, _, rfl, _, at_nat (j := 0) rfl, _, rfl, 1, rfl, (by show 3 ≤ sizeLine; omega), (by show 2 ≤ sizeLine; omega), ?_⟩
                        show Qd (.tup [.int 0, .tup [.int (primeDue l0), .int (waysOf l1), .lst (TL.cutD ((w :: ws).map D.str) (some ((1 : Nat) : Int)) none)]])
                        rw [cw]
                        exact hq
                    | cons y r =>
                      have g3 : decide ((((l0 :: l1 :: l2 :: y :: r).map D.str).length : Int) > 3) = true := decide_eq_true (by simp; omega)
                      rw [if_neg fun z => by cases z.1] at ec
                      rw [ec] at hE
                      refine ⟨_, rfl, _, rfl, ite2 (fun _ => ?_) fun h => absurd g3 h⟩
                      exact ⟨(by show 2 ≤ sizeLine; omega), hE (by decide)⟩
          · rw [if_neg hd]
            have e2 : dueCode la (l0 :: l1 :: r) = 2 := (if_neg hp).trans (if_neg hd)
            rw [e2] at hE
            refine ⟨_, rfl, ?_⟩
            exact ⟨(by show 2 ≤ sizeLine; omega), hE (by decide)⟩
end
end K1
set_option Elab.async false
set_option linter.all false
set_option maxRecDepth 100000
set_option maxHeartbeats 8000000
namespace K1
open PySem L2 PySem.Spec PyProof.Rows TL TLS
theorem cps_app (a b : Str) : (a ++ b).cps.toList = a.cps.toList ++ b.cps.toList := by
  show (a.cps ++ b.cps).toList = _
  simp
theorem nl_head (x : Str) : (NL ++ x).cps.toList.head? = some 10 := by
  rw [cps_app]
  rfl
theorem ne_of_head {x b : Str} (h : b.cps.toList.head? ≠ some 10) : ¬ NL ++ x = b := fun e => h (by rw [← e]; exact nl_head x)
theorem nl_prime (x : Str) : primeDue (NL ++ x) = -1 := by
  refine prime_miss (ne_of_head (by decide +kernel)) fun q _ => ne_of_head ?_
  rw [cps_app]
  show (some 114 : Option Nat) ≠ some 10
  decide
theorem nl_dir (x : Str) : ¬ NL ++ x ∈ dirRows := fun h => by
  unfold dirRows at h
  simp only [List.mem_cons, List.not_mem_nil, or_false] at h
  rcases h with h | h | h
  · exact ne_of_head (by decide +kernel) h
  · exact ne_of_head (by decide +kernel) h
  · exact ne_of_head (by decide +kernel) h
theorem code_nil : ∀ fu : List Str, dueCode "" fu = readCode fu
  | [] => rfl
  | [l0] => rfl
  | [l0, l1] => rfl
  | l0 :: l1 :: l2 :: r => by
    show (if primeDue l0 < 0 then (1 : Int) else if l1 ∈ dirRows then (if nameRow l2 = true then (if r = [] ∧ ("" : Str) = "" then 0 else 4) else 3) else 2) = (if primeDue l0 < 0 then (1 : Int) else if l1 ∈ dirRows then (if nameRow l2 = true then (if r = [] then 0 else 4) else 3) else 2)
    simp
theorem nl_row (x : Str) : nameRow (NL ++ x) = false := by
  have h : Str.join " " (wordsOf (NL ++ x)) = NL ++ x := StrLaws.join_split (NL ++ x) " "
  unfold nameRow
  have hn : decide ((wordsOf (NL ++ x)).headD "" = "names") = false := by
    refine decide_eq_false ?_
    cases e : wordsOf (NL ++ x) with
    | nil => exact by decide +kernel
    | cons w ws =>
      intro hw
      have hw : w = "names" := hw
      subst hw
      rw [e] at h
      refine ne_of_head ?_ h.symm
      cases ws with
      | nil => exact by decide +kernel
      | cons b r =>
        show (("names" : Str) ++ (" " : Str) ++ Str.join " " (b :: r)).cps.toList.head? ≠ some 10
        rw [cps_app, cps_app]
        show (some 110 : Option Nat) ≠ some 10
        decide
  rw [hn, Bool.false_and]
/-- a row that starts with a line feed fails where it stands -/
theorem code_nl {la : Str} (h : la ≠ "") : ∀ fu : List Str, readCode (fu ++ [NL ++ la]) = dueCode la fu
  | [] => if_pos (by rw [nl_prime]; decide)
  | [l0] => by
    show (if primeDue l0 < 0 then (1 : Int) else if NL ++ la ∈ dirRows then 3 else 2) = if primeDue l0 < 0 then (1 : Int) else 2
    rw [if_neg (nl_dir la)]
  | [l0, l1] => by
    show (if primeDue l0 < 0 then (1 : Int) else if l1 ∈ dirRows then (if nameRow (NL ++ la) = true then (if ([] : List Str) = [] then 0 else 4) else 3) else 2) = if primeDue l0 < 0 then (1 : Int) else if l1 ∈ dirRows then 3 else 2
    rw [nl_row]
    rfl
  | l0 :: l1 :: l2 :: r => by
    show (if primeDue l0 < 0 then (1 : Int) else if l1 ∈ dirRows then (if nameRow l2 = true then (if r ++ [NL ++ la] = [] then 0 else 4) else 3) else 2) = (if primeDue l0 < 0 then (1 : Int) else if l1 ∈ dirRows then (if nameRow l2 = true then (if r = [] ∧ la = "" then 0 else 4) else 3) else 2)
    rw [if_neg (by simp : ¬ r ++ [NL ++ la] = []), if_neg fun z : r = [] ∧ la = "" => h z.2]
/-- the failing line: the program's reading and the law's agree -/
theorem codes_agree (t : Str) : readCode (linesOf t) = dueCode (tailOf t) (rowsOf t) := by
  unfold linesOf tailOf rowsOf
  by_cases h : (Txt.split t NL).getLastD "" = ""
  · rw [if_pos h, h]
    exact (code_nil _).symm
  · rw [if_neg h]
    exact code_nl h _
end K1
set_option Elab.async false
set_option linter.all false
set_option maxRecDepth 100000
set_option maxHeartbeats 8000000
namespace K1
open PySem L2 PySem.Spec PyProof.Rows TL TLS
theorem due_zero {la : Str} : ∀ {fu : List Str}, dueCode la fu = 0 → ∃ l0 l1 l2, fu = [l0, l1, l2] ∧ la = "" ∧ 0 ≤ primeDue l0 ∧ l1 ∈ dirRows ∧ nameRow l2 = true
  | [], h => by
    have h : (1 : Int) = 0 := h
    cases h
  | [l0], h => by
    have h : (if primeDue l0 < 0 then (1 : Int) else 2) = 0 := h
    split at h <;> cases h
  | [l0, l1], h => by
    have h : (if primeDue l0 < 0 then (1 : Int) else if l1 ∈ dirRows then 3 else 2) = 0 := h
    split at h
    · cases h
    · split at h <;> cases h
  | l0 :: l1 :: l2 :: r, h => by
    have h : (if primeDue l0 < 0 then (1 : Int) else if l1 ∈ dirRows then (if nameRow l2 = true then (if r = [] ∧ la = "" then 0 else 4) else 3) else 2) = 0 := h
    split at h
    · cases h
    · next hp =>
      split at h
      · next hd =>
        split at h
        · next hn =>
          split at h
          · next hr => exact ⟨l0, l1, l2, by rw [hr.1], hr.2, by omega, hd, hn⟩
          · cases h
        · cases h
      · cases h
/-- a right text: its rows are the program's lines -/
theorem right_text {t : Str} (h : dueCode (tailOf t) (rowsOf t) = 0) : ∃ l0 l1 l2, rowsOf t = [l0, l1, l2] ∧ linesOf t = [l0, l1, l2] ∧ tailOf t = "" ∧ 0 ≤ primeDue l0 ∧ l1 ∈ dirRows ∧ nameRow l2 = true := by
  obtain ⟨l0, l1, l2, e, et, hp, hd, hn⟩ := due_zero h
  refine ⟨l0, l1, l2, e, ?_, et, hp, hd, hn⟩
  have et' : (Txt.split t NL).getLastD "" = "" := et
  unfold linesOf
  rw [if_pos et']
  exact e
end K1
set_option Elab.async false
set_option linter.all false
set_option maxRecDepth 100000
set_option maxHeartbeats 8000000
namespace K1
open PySem L2 PySem.Spec PyProof.Rows TL TLS
local macro_rules | `(tactic| array_get_dec) => `(tactic| try simp only [↓e_var0, ↓e_varS, ↓e_varO0, ↓e_varOS, ↓e_C, ↓e_new, ↓e_nil, ↓e_cons, ↓e_tup, ↓e_lst, ↓e_star, ↓e_star_l, ↓e_star_t, ↓e_op, ↓e_addI, ↓e_addS, ↓e_addL, ↓e_sub, ↓e_mul, ↓e_fdiv, ↓e_mod, ↓e_pow, ↓e_neg, ↓e_cmp, ↓e_eqII, ↓e_eqSS, ↓e_eqBB, ↓e_eqNI, ↓e_eqNS, ↓e_isN, ↓e_inL, ↓e_xI, ↓e_xB, ↓e_xS, ↓e_xL, ↓e_xT, ↓e_xO, ↓e_x2, ↓e_x3, ↓e_xc, ↓e_xsom, ↓e_if, ↓e_ifE, ↓e_and, ↓e_or, ↓e_not, ↓e_andV, ↓e_orV, ↓e_notV, ↓e_BrT, ↓e_BrF, ↓e_BrET, ↓e_BrEF, ↓e_BrAT, ↓e_BrAF, ↓e_BrRT, ↓e_BrRF, ↓e_BrAVT, ↓e_BrAVF, ↓e_BrRVT, ↓e_BrRVF, ↓e_B, ↓e_tru, ↓e_truN, ↓e_truB, ↓e_truI, ↓e_truS, ↓e_truL, ↓e_truT, ↓e_chain, ↓e_bi, ↓e_lenS, ↓e_lenL, ↓e_lenT, ↓e_seq, ↓e_tupOf, ↓e_seqL, ↓e_seqT, ↓e_boolI, ↓e_boolB, ↓e_intI, ↓e_strI, ↓e_min2, ↓e_all, ↓e_ixL, ↓e_ixT, ↓e_ixS, ↓e_at0, ↓e_at1, ↓e_at2, ↓e_noPart, ↓e_part, ↓e_sl, ↓e_slL, ↓e_slS, ↓e_range1, ↓e_zip, ↓e_isi1, ↓e_isCo, ↓e_isCs, ↓e_fld, ↓e_xfld, ↓e_split, ↓e_join, ↓e_fmt, ↓e_fmtS, ↓e_fmtI, ↓e_js0, ↓e_jsS, ↓e_lenSet, ↓e_yName, ↓e_yNil0, ↓e_yCons, ↓e_yTup, ↓e_yLst, ↓e_yStar, ↓e_next, ↓e_zseq, ↓e_ret, ↓e_set, ↓e_setO, ↓e_drop, ↓e_asg, ↓e_par, ↓e_par3, ↓e_for, ↓e_for0, ↓e_fg, ↓e_brk, ↓e_cont, ↓e_call, ↓e_callB, ↓e_raise, ↓e_zfld, ↓e_make, ↓e_makeK, ↓e_meth, ↓e_app0, ↓e_own, e_get0, e_getS, e_set0, e_setS, e_xF, e_xT', e_xins, e_xins1, ↓e_app, e_weak, e_yNil, Bool.not_not, Bool.not_true, Bool.not_false, List.isEmpty_nil, List.isEmpty_cons, true_and, and_true, List.length_cons, List.length_nil, Nat.reduceAdd, Nat.zero_add, ↓at0, ↓at1, ↓at2, List.map_cons, List.map_nil, List.cons_append, List.nil_append, List.replicate, Nat.reduceSub])

/-- the directions' letters -/
def waysL (w : Int) : List Str := if w = 1 then ["x"] else if w = 2 then ["x", "y"] else ["x", "y", "z"]
/-- a ground's text is right: its kind, directions, names -/
def Right (t : Str) (p w : Int) (ns : List Str) : Prop := ∃ l0 l1 l2, linesOf t = [l0, l1, l2] ∧ readCode (linesOf t) = 0 ∧ p = primeDue l0 ∧ w = waysOf l1 ∧ l1 ∈ dirRows ∧ ns = (wordsOf l2).tail
def grFs (p w : Int) (ns : List Str) (t : Str) : List (Str × D) := [("kind", .str (if p = 0 then "fractions" else "rests")), ("prime", .int p), ("directions", .tup ((waysL w).map D.str)), ("names", .tup (ns.map D.str)), ("text", .str t)]
def grD (C : Addr) (p w : Int) (ns : List Str) (t : Str) : D := .obj C (grFs p w ns t)
theorem dir_ways : ∀ l ∈ dirRows, (wordsOf l).tail = waysL (waysOf l) := by decide +kernel
theorem code_dir {l0 l1 l2 : Str} {ls : List Str} (e : ls = [l0, l1, l2]) (ec : readCode ls = 0) : l1 ∈ dirRows := by
  subst e
  have h : (if primeDue l0 < 0 then (1 : Int) else if l1 ∈ dirRows then (if nameRow l2 = true then (if ([] : List Str) = [] then 0 else 4) else 3) else 2) = 0 := ec
  by_cases hd : l1 ∈ dirRows
  · exact hd
  · rw [if_neg hd] at h
    split at h <;> cases h
theorem gr_puts {k p d n t : D} {R : List (Str × D) → Prop} : (0 < 1000 ∧ (putD "kind" k []).length < 1000 ∧ (putD "prime" p (putD "kind" k [])).length < 1000 ∧ (putD "directions" d (putD "prime" p (putD "kind" k []))).length < 1000 ∧ (putD "names" n (putD "directions" d (putD "prime" p (putD "kind" k [])))).length < 1000 ∧
    R (putD "text" t (putD "names" n (putD "directions" d (putD "prime" p (putD "kind" k [])))))) = R [("kind", k), ("prime", p), ("directions", d), ("names", n), ("text", t)] := by
  have e1 : putD "kind" k [] = ([("kind", k)] : List (Str × D)) := rfl
  have e2 : putD "prime" p [("kind", k)] = ([("kind", k), ("prime", p)] : List (Str × D)) := by
    unfold putD
    rw [if_neg (by decide +kernel)]
    rfl
  have e3 : putD "directions" d [("kind", k), ("prime", p)] = ([("kind", k), ("prime", p), ("directions", d)] : List (Str × D)) := by
    unfold putD putD putD
    rw [if_neg (by decide +kernel), if_neg (by decide +kernel)]
  have e4 : putD "names" n [("kind", k), ("prime", p), ("directions", d)] = ([("kind", k), ("prime", p), ("directions", d), ("names", n)] : List (Str × D)) := by
    unfold putD putD putD putD
    rw [if_neg (by decide +kernel), if_neg (by decide +kernel), if_neg (by decide +kernel)]
  have e5 : putD "text" t [("kind", k), ("prime", p), ("directions", d), ("names", n)] = ([("kind", k), ("prime", p), ("directions", d), ("names", n), ("text", t)] : List (Str × D)) := by
    unfold putD putD putD putD putD
    rw [if_neg (by decide +kernel), if_neg (by decide +kernel), if_neg (by decide +kernel), if_neg (by decide +kernel)]
  rw [e1, e2, e3, e4, e5]
  simp
theorem lines_len {t : Str} : ∀ l ∈ linesOf t, l.length ≤ t.length + 1 := fun l hl => by
  have hw : ∀ y ∈ Txt.split t NL, y.length ≤ t.length := fun y hy => by
    have h1 := PyProof.Rows.split_weight t NL (by decide +kernel)
    have h2 : y.length ≤ ((Txt.split t NL).map (·.length)).sum := le_sum hy
    have h3 := PyProof.Rows.split_pos t NL
    omega
  have hpos := PyProof.Rows.split_pos t NL
  unfold linesOf at hl
  split at hl
  · have := hw l (List.dropLast_subset _ hl)
    omega
  · rcases List.mem_append.mp hl with h | h
    · have := hw l (List.dropLast_subset _ h)
      omega
    · rw [List.mem_singleton] at h
      subst h
      rw [len_app]
      have e : (NL : Str).length = 1 := rfl
      have : ((Txt.split t NL).getLastD "").length ≤ t.length := hw _ (by
        cases e : Txt.split t NL with
        | nil => rw [e] at hpos; simp at hpos
        | cons a r => rw [List.getLastD_cons]; exact List.getLastD_mem_cons ..)
      omega
/-- what of the class Ground the text holds -/
structure GrC (K : PySem.W.Frag) (mg : Str → Option Value) (C : Addr) : Prop where
  cl : Cls K C
  n_kind : NoAttr K C "kind"
  n_prime : NoAttr K C "prime"
  n_directions : NoAttr K C "directions"
  n_names : NoAttr K C "names"
  n_text : NoAttr K C "text"
  own : OwnC K C
  k1 : PySem.W.kitOne K (.ref C) (.ref C) = some true
  k2 : PySem.W.kitOne K (.type "str") (.ref C) = some false
  mgC : mg "Ground" = some (.ref C)
section
variable {P : Program} {wd : World} {K : PySem.W.Frag} {mg : Str → Option Value} {base : Heap} {CT CB C : Addr}
def SGr (CB : Addr) : SpDI := fun ds Qd E => ∃ (t : Str) (b : Bool), ds = [.str t, .bl b] ∧ t.length < 2990 ∧ (∀ p w ns, Right t p w ns → (b = false ∨ ns.length ≤ 8) ∧ Qd (grFs p w ns t)) ∧ (∀ why : Str, why ≠ "" → readCode (linesOf t) ≠ 0 → E ⟨CB, exFs D.str "line" "why" "BadGround" (.int (readCode (linesOf t))) (.str why)⟩)
abbrev iGi : Stmt := inClass (top 27) 0
theorem scGi : FnScope ["self", "text", "bounded", "prime", "directions", "names"] ["self", "text", "bounded"] (defScope iGi) := ⟨rfl, rfl, rfl, by decide +kernel, rfl, by decide +kernel, by decide +kernel⟩
theorem ok_Gi (bn : Bn mg) (gr : GrC K mg C) (c_ask_text : Cal P wd K mg base "ask_text" ["text"] 4 (SAskText CT)) (c_ask : Cal P wd K mg base "ask" ["what", "count", "most"] 3 (SAsk CT)) (c_lines_of : Cal P wd K mg base "lines_of" ["text"] 1 SLines) (c_read_ground : Cal P wd K mg base "read_ground" ["lines"] 4 (SReadGround CB))
    {f : Addr} {fd : FuncData} {oc : Value} {od : Option Addr} {dV kV doc pm cdv ct : Value} {an : Option Addr} {osl : Array (Option Value)} (hfd : fd = PySem.W.fnOf "__init__" "Ground.__init__" (defArgs iGi) (defBody iGi) (defScope iGi) dV kV doc pm an cdv ct) (lk : K.lookup f = some ⟨oc, od, .func fd, osl⟩) (hcd : PySem.W.codeIn K cdv "Ground.__init__" = true) :
    FnOk P wd K mg base (L2N.CX P wd) 5 f fd ["self", "text", "bounded"] (spI K C (SGr CB)) := by
  refine fnI0 hfd lk hcd scGi (fun ds Q E h => ?_) (fun A outer s H E c Ed hr hK tk hp hW => (zs0 (zs_cons (z_if (xt_val (w := true) (xV 2)) (zs_one (z_drop (w := true) (xd_cal hK c_ask_text hr tk hW (xa_cons (xV 1) xa_nil)))) zs_nil) (zs_cons (z_asg (xd_cal hK c_read_ground hr tk hW (xa_cons (xd_cal hK c_lines_of hr tk_no hW_no (xa_cons (xV 1) xa_nil)) xa_nil)) (yg_tup (n := 3) hK rfl (ygs_cons (yN 3 scGi.nd) (ygs_cons (yN 4 scGi.nd) (ygs_cons (yN 5 scGi.nd) ygs_nil))))) (zs_cons (z_if (xt_val (w := true) (xV 2)) (zs_one (z_drop (w := true) (xd_cal hK c_ask hr tk hW (xa_cons xd_str (xa_cons (xd_len hK bn.len (xa_cons (xV 5) xa_nil)) (xa_cons xd_int xa_nil)))))) zs_nil) (zs_cons (z_fld hK gr.cl gr.n_kind (pv 0) (xd_if (xt_tru (w := true) hK (xV 3)) xd_str xd_str)) (zs_cons (z_fld hK gr.cl gr.n_prime (pv 0) (xV 3)) (zs_cons (z_fld hK gr.cl gr.n_directions (pv 0) (xd_tuple hK bn.tuple (xa_cons (xV 4) xa_nil))) (zs_cons (z_fld hK gr.cl gr.n_names (pv 0) (xd_tuple hK bn.tuple (xa_cons (xV 5) xa_nil))) (zs_one (z_fld hK gr.cl gr.n_text (pv 0) (xV 1)))))))))))) fun a ds Qd Ed h => ?_
  · obtain ⟨t, b, rfl, _⟩ := h
    rfl
  · obtain ⟨t, b, rfl, hl, hq, hE⟩ := h
    have z := big
    have z1 : 100000 ≤ sizeLine := by rw [sizeLine_eq]; decide
    show zSeq _ _ _ ([some (.ins (a, C) []), some (.val (.str t)), some (.val (.bl b)), none, none, none] : TL.Env)
    array_get_dec
    refine brI (fun hb => ?_) fun hb => ?_
    all_goals array_get_dec
    refine ⟨t, rfl, by omega, fun _ => ?_, fun h => absurd h (by omega)⟩
    all_goals array_get_dec
    all_goals refine ⟨t, rfl, by omega, ⟨linesOf t, rfl, fun l hl => by have := lines_len l hl; omega, fun l0 l1 l2 e ec => ?_, fun why hw hc => hE why hw hc⟩⟩
    all_goals
      array_get_dec
      have hR : Right t (primeDue l0) (waysOf l1) (wordsOf l2).tail := ⟨l0, l1, l2, e, ec, rfl, rfl, code_dir e ec, rfl⟩
      obtain ⟨h8, hq⟩ := hq _ _ _ hR
      have hw := dir_ways l1 (code_dir e ec)
      have nz : ((primeDue l0 != 0) = true ∧ ¬ primeDue l0 = 0) ∨ ((primeDue l0 != 0) = false ∧ primeDue l0 = 0) := by
        by_cases h : primeDue l0 = 0
        · exact .inr ⟨by rw [h]; rfl, h⟩
        · exact .inl ⟨bne_iff_ne.mpr h, h⟩
      refine brI (fun hb' => ?_) fun hb' => ?_
      all_goals try (rw [hb] at hb'; cases hb'; done)
      all_goals array_get_dec
    · refine ⟨_, _, _, rfl, fun h => ?_, fun h => ?_⟩
      · array_get_dec
        rcases nz with ⟨n1, n2⟩ | ⟨n1, n2⟩
        all_goals
          rw [n1]
          array_get_dec
          rw [gr_puts]
          first | (rw [hw]; have e0 : grFs (primeDue l0) (waysOf l1) (wordsOf l2).tail t = _ := rfl; unfold grFs at hq; rw [if_neg n2] at hq; exact hq) | (rw [hw]; unfold grFs at hq; rw [if_pos n2] at hq; exact hq)
      · have h : 8 < (((wordsOf l2).tail.map D.str).length : Int) := h
        rw [List.length_map] at h
        rcases h8 with h8 | h8
        · rw [hb] at h8
          cases h8
        · omega
    · rcases nz with ⟨n1, n2⟩ | ⟨n1, n2⟩
      all_goals
        rw [n1]
        array_get_dec
        rw [gr_puts]
        first | (rw [hw]; have e0 : grFs (primeDue l0) (waysOf l1) (wordsOf l2).tail t = _ := rfl; unfold grFs at hq; rw [if_neg n2] at hq; exact hq) | (rw [hw]; unfold grFs at hq; rw [if_pos n2] at hq; exact hq)
end
end K1
set_option Elab.async false
set_option linter.all false
set_option maxRecDepth 100000
set_option maxHeartbeats 8000000
namespace K1
open PySem L2 PySem.Spec PyProof.Rows TL TLS
theorem due_kind : ∀ p ∈ Pr, primeDue (kindText p) = p := by decide +kernel
theorem kind_nl : ∀ p ∈ Pr, 10 ∉ tl (kindText p) := by decide +kernel
def dirText (w : Nat) : Str := "directions " ++ waysText w
theorem dir_row (w : Nat) (h1 : 1 ≤ w) (h3 : w ≤ 3) : dirText w ∈ dirRows ∧ waysOf (dirText w) = w ∧ 10 ∉ tl (dirText w) := by
  have hw : w = 1 ∨ w = 2 ∨ w = 3 := by omega
  rcases hw with rfl | rfl | rfl <;> exact ⟨by decide +kernel, by decide +kernel, by decide +kernel⟩
theorem sign_not : ∀ k ∈ SGN.cps.toList, k ≠ 10 ∧ k ≠ 32 := by decide +kernel
theorem name_sign {m : Str} (h : isName m = true) : ∀ k ∈ tl m, k ∈ SGN.cps.toList := by
  have e : ((decide (m.length ≤ 6) && (match m.cps.toList with | [] => false | k :: _ => decide (k ∈ LET.cps.toList)) && m.cps.toList.all fun k => decide (k ∈ SGN.cps.toList)) && notDir m) = true := h
  simp only [Bool.and_eq_true] at e
  intro k hk
  simpa using List.all_eq_true.mp e.1.2 k hk
theorem join_nil2 (y : Str) : ∀ (a : Str) (l : List Str), l ≠ [] → Txt.join y (a :: l) = a ++ (y ++ Txt.join y l) := by
  intro a l h
  cases l with
  | nil => exact absurd rfl h
  | cons b r =>
    rw [show Txt.join y (a :: b :: r) = Str.join y (a :: b :: r) from StrLaws.glued_eq_join .., show Txt.join y (b :: r) = Str.join y (b :: r) from StrLaws.glued_eq_join ..]
    show a ++ y ++ Str.join y (b :: r) = _
    refine ext_tl ?_
    simp only [tl_append, List.append_assoc]
theorem join_one (y a : Str) : Txt.join y [a] = a := by
  rw [show Txt.join y [a] = Str.join y [a] from StrLaws.glued_eq_join ..]
  rfl
/-- a ground's rows -/
def rows4 (p : Int) (w : Nat) (ns : List Str) : List Str := [kindText p, dirText w, Txt.join " " ("names" :: ns), ""]
theorem text_rows (p : Int) (w : Nat) (ns : List Str) (h : ns ≠ []) : groundText p w ns = Txt.join NL (rows4 p w ns) := by
  unfold groundText rows4 dirText
  rw [join_nil2 _ _ _ (by simp), join_nil2 _ _ _ (by simp), join_nil2 _ _ _ (by simp), join_one, join_nil2 _ _ _ h]
  refine ext_tl ?_
  have e1 : tl ("\ndirections " : Str) = tl NL ++ tl ("directions " : Str) := by decide +kernel
  have e2 : tl ("\nnames " : Str) = tl NL ++ (tl ("names" : Str) ++ tl (" " : Str)) := by decide +kernel
  have e3 : tl ("\n" : Str) = tl NL := rfl
  have e4 : tl ("" : Str) = [] := by decide +kernel
  simp only [tl_append, e1, e2, e3, e4, List.append_assoc, List.append_nil]
theorem join_not {y : Str} {k : Nat} (hy : k ∉ tl y) : ∀ {l : List Str}, (∀ a ∈ l, k ∉ tl a) → k ∉ tl (Txt.join y l)
  | [], _ => by
    have e : tl (Txt.join y []) = [] := by
      rw [show Txt.join y [] = Str.join y [] from StrLaws.glued_eq_join ..]
      rfl
    rw [e]
    exact List.not_mem_nil
  | [a], h => by
    rw [join_one]
    exact h a (by simp)
  | a :: b :: r, h => by
    rw [join_nil2 _ _ _ (by simp), tl_append, tl_append]
    intro z
    rcases List.mem_append.mp z with z | z
    · exact h a (by simp) z
    · rcases List.mem_append.mp z with z | z
      · exact hy z
      · exact join_not hy (l := b :: r) (fun q hq => h q (by simp at hq ⊢; exact .inr hq)) z
theorem split_nl {l : List Str} (hn : l ≠ []) (h : ∀ a ∈ l, 10 ∉ tl a) : Txt.split (Txt.join NL l) NL = l := TL.split_join (s := 10) (S := []) (by decide +kernel) (by decide +kernel) hn h
theorem split_sp {l : List Str} (hn : l ≠ []) (h : ∀ a ∈ l, 32 ∉ tl a) : Txt.split (Txt.join " " l) " " = l := TL.split_join (s := 32) (S := []) (by decide +kernel) (by decide +kernel) hn h
theorem names_words {ns : List Str} (h : ∀ x ∈ ns, isName x = true) : wordsOf (Txt.join " " ("names" :: ns)) = ("names" : Str) :: ns := split_sp (l := ("names" : Str) :: ns) (by simp) fun a ha => by
  rcases List.mem_cons.mp ha with rfl | ha
  · decide +kernel
  · exact fun z => (sign_not _ (name_sign (h a ha) _ z)).2 rfl
theorem rows_nl {p : Int} {w : Nat} {ns : List Str} (h : LandN p w ns) : ∀ a ∈ rows4 p w ns, 10 ∉ tl a := fun a ha => by
  unfold rows4 at ha
  simp only [List.mem_cons, List.not_mem_nil, or_false] at ha
  rcases ha with rfl | rfl | rfl | rfl
  · exact kind_nl p h.p
  · exact (dir_row w h.w1 h.w3).2.2
  · refine join_not (by decide +kernel) fun a ha => ?_
    rcases List.mem_cons.mp ha with rfl | ha
    · decide +kernel
    · exact fun z => (sign_not _ (name_sign (h.nm a ha) _ z)).1 rfl
  · decide +kernel
theorem lines_text {p : Int} {w : Nat} {ns : List Str} (h : LandN p w ns) : linesOf (groundText p w ns) = [kindText p, dirText w, Txt.join " " ("names" :: ns)] := by
  have hn : ns ≠ [] := fun z => by
    have := h.n1
    rw [z] at this
    cases this
  have e := split_nl (l := rows4 p w ns) (by unfold rows4; simp) (rows_nl h)
  unfold linesOf
  rw [text_rows p w ns hn, e]
  rfl
theorem land_right {p : Int} {w : Nat} {ns : List Str} (h : LandN p w ns) : Right (groundText p w ns) p w ns := by
  obtain ⟨d1, d2, d3⟩ := dir_row w h.w1 h.w3
  have e := lines_text h
  have ew := names_words h.nm
  have hp := due_kind p h.p
  have p0 : ∀ p ∈ Pr, (0 : Int) ≤ p := by decide
  refine ⟨_, _, _, e, ?_, hp.symm, d2.symm, d1, by rw [ew]; rfl⟩
  rw [e]
  show (if primeDue (kindText p) < 0 then (1 : Int) else if dirText w ∈ dirRows then (if nameRow (Txt.join " " ("names" :: ns)) = true then (if ([] : List Str) = [] then 0 else 4) else 3) else 2) = 0
  rw [hp, if_neg (by have := p0 p h.p; omega), if_pos d1, if_pos, if_pos rfl]
  unfold nameRow
  rw [ew]
  show (decide (("names" : Str) = "names") && namesOk ns) = true
  unfold namesOk distinctOk
  rw [decide_eq_true rfl, decide_eq_true (by have := h.n1; omega : 0 < ns.length), decide_eq_true h.nd, List.all_eq_true.mpr h.nm]
  rfl
theorem due_back {l : Str} (h : 0 ≤ primeDue l) : l = kindText (primeDue l) ∧ primeDue l ∈ Pr := by
  by_cases hf : l = "fractions"
  · have e : primeDue l = 0 := by unfold primeDue; rw [if_pos hf]
    rw [e]
    exact ⟨hf, by decide⟩
  · by_cases hn : ∀ q ∈ smallP, l ≠ ("rests " : Str) ++ (toString q : Str)
    · rw [prime_miss hf hn] at h
      exact absurd h (by decide)
    · have ⟨q, hq, e⟩ : ∃ q, q ∈ smallP ∧ l = ("rests " : Str) ++ (toString q : Str) := by
        refine Classical.byContradiction fun z => hn fun q hq e => z ⟨q, hq, e⟩
      have e2 := prime_hit hf hq e
      rw [e2]
      obtain ⟨hp, h1⟩ := small_pr q hq
      refine ⟨?_, hp⟩
      unfold kindText
      rw [if_neg (by omega)]
      exact e
theorem dir_back : ∀ l ∈ dirRows, ∃ w : Nat, 1 ≤ w ∧ w ≤ 3 ∧ l = dirText w ∧ waysOf l = w := fun l hl => by
  unfold dirRows at hl
  simp only [List.mem_cons, List.not_mem_nil, or_false] at hl
  rcases hl with rfl | rfl | rfl
  · exact ⟨1, by decide, by decide, by decide +kernel, by decide +kernel⟩
  · exact ⟨2, by decide, by decide, by decide +kernel, by decide +kernel⟩
  · exact ⟨3, by decide, by decide, by decide +kernel, by decide +kernel⟩
/-- what a right text tells -/
theorem right_land {t : Str} {p w : Int} {ns : List Str} (h : Right t p w ns) : ∃ k : Nat, w = k ∧ LandN p k ns ∧ ∃ l2, linesOf t = [kindText p, dirText k, l2] := by
  obtain ⟨l0, l1, l2, e, ec, rfl, rfl, hd, rfl⟩ := h
  obtain ⟨k, k1, k3, rfl, ek⟩ := dir_back l1 hd
  rw [e] at ec
  have hc : (if primeDue l0 < 0 then (1 : Int) else if dirText k ∈ dirRows then (if nameRow l2 = true then (if ([] : List Str) = [] then 0 else 4) else 3) else 2) = 0 := ec
  have hp : ¬ primeDue l0 < 0 := fun z => by rw [if_pos z] at hc; cases hc
  rw [if_neg hp, if_pos hd] at hc
  have hn : nameRow l2 = true := by
    cases hn : nameRow l2 with
    | true => rfl
    | false => rw [hn] at hc; cases hc
  obtain ⟨e0, hP⟩ := due_back (by omega : 0 ≤ primeDue l0)
  unfold nameRow namesOk distinctOk at hn
  simp only [Bool.and_eq_true, decide_eq_true_eq] at hn
  exact ⟨k, ek, ⟨hP, k1, k3, hn.2.1, hn.2.2.2, List.all_eq_true.mp hn.2.2.1⟩, l2, by rw [← e0]; exact e⟩
theorem right_code {t : Str} {p w : Int} {ns : List Str} (h : Right t p w ns) : readCode (linesOf t) = 0 := by
  obtain ⟨_, _, _, _, ec, _⟩ := h
  exact ec
theorem right_or (t : Str) : (∃ p w ns, Right t p w ns) ∨ readCode (linesOf t) ≠ 0 := by
  by_cases h : readCode (linesOf t) = 0
  · have h' := h
    rw [codes_agree] at h'
    obtain ⟨l0, l1, l2, _, e, _, _, hd, _⟩ := right_text h'
    exact .inl ⟨_, _, _, l0, l1, l2, e, h, rfl, rfl, hd, rfl⟩
  · exact .inr h
theorem right_one {t : Str} {p w p' w' : Int} {ns ns' : List Str} (h : Right t p w ns) (h' : Right t p' w' ns') : p = p' ∧ w = w' ∧ ns = ns' := by
  obtain ⟨l0, l1, l2, e, _, rfl, rfl, _, rfl⟩ := h
  obtain ⟨m0, m1, m2, e', _, rfl, rfl, _, rfl⟩ := h'
  rw [e] at e'
  cases e'
  exact ⟨rfl, rfl, rfl⟩
end K1
set_option Elab.async false
set_option linter.all false
set_option maxRecDepth 100000
set_option maxHeartbeats 8000000
namespace K1
open PySem L2 PySem.Spec PyProof.Rows TL TLS
local macro_rules | `(tactic| array_get_dec) => `(tactic| try simp only [↓e_var0, ↓e_varS, ↓e_varO0, ↓e_varOS, ↓e_C, ↓e_new, ↓e_nil, ↓e_cons, ↓e_tup, ↓e_lst, ↓e_star, ↓e_star_l, ↓e_star_t, ↓e_op, ↓e_addI, ↓e_addS, ↓e_addL, ↓e_sub, ↓e_mul, ↓e_fdiv, ↓e_mod, ↓e_pow, ↓e_neg, ↓e_cmp, ↓e_eqII, ↓e_eqSS, ↓e_eqBB, ↓e_eqNI, ↓e_eqNS, ↓e_isN, ↓e_inL, ↓e_xI, ↓e_xB, ↓e_xS, ↓e_xL, ↓e_xT, ↓e_xO, ↓e_x2, ↓e_x3, ↓e_xc, ↓e_xsom, ↓e_if, ↓e_ifE, ↓e_and, ↓e_or, ↓e_not, ↓e_andV, ↓e_orV, ↓e_notV, ↓e_BrT, ↓e_BrF, ↓e_BrET, ↓e_BrEF, ↓e_BrAT, ↓e_BrAF, ↓e_BrRT, ↓e_BrRF, ↓e_BrAVT, ↓e_BrAVF, ↓e_BrRVT, ↓e_BrRVF, ↓e_B, ↓e_tru, ↓e_truN, ↓e_truB, ↓e_truI, ↓e_truS, ↓e_truL, ↓e_truT, ↓e_chain, ↓e_bi, ↓e_lenS, ↓e_lenL, ↓e_lenT, ↓e_seq, ↓e_tupOf, ↓e_seqL, ↓e_seqT, ↓e_boolI, ↓e_boolB, ↓e_intI, ↓e_strI, ↓e_min2, ↓e_all, ↓e_ixL, ↓e_ixT, ↓e_ixS, ↓e_at0, ↓e_at1, ↓e_at2, ↓e_noPart, ↓e_part, ↓e_sl, ↓e_slL, ↓e_slS, ↓e_range1, ↓e_zip, ↓e_isi1, ↓e_isCo, ↓e_isCs, ↓e_fld, ↓e_xfld, ↓e_split, ↓e_join, ↓e_fmt, ↓e_fmtS, ↓e_fmtI, ↓e_js0, ↓e_jsS, ↓e_lenSet, ↓e_yName, ↓e_yNil0, ↓e_yCons, ↓e_yTup, ↓e_yLst, ↓e_yStar, ↓e_next, ↓e_zseq, ↓e_ret, ↓e_set, ↓e_setO, ↓e_drop, ↓e_asg, ↓e_par, ↓e_par3, ↓e_for, ↓e_for0, ↓e_fg, ↓e_brk, ↓e_cont, ↓e_call, ↓e_callB, ↓e_raise, ↓e_zfld, ↓e_make, ↓e_makeK, ↓e_meth, ↓e_app0, ↓e_own, e_get0, e_getS, e_set0, e_setS, e_xF, e_xT', e_xins, e_xins1, ↓e_app, e_weak, e_yNil, Bool.not_not, Bool.not_true, Bool.not_false, List.isEmpty_nil, List.isEmpty_cons, true_and, and_true, List.length_cons, List.length_nil, Nat.reduceAdd, Nat.zero_add, ↓at0, ↓at1, ↓at2, List.map_cons, List.map_nil, List.cons_append, List.nil_append, List.replicate, Nat.reduceSub])

/-- the class Ground can be made -/
def MkAt (P : Program) (w : World) (K : PySem.W.Frag) (mg : Str → Option Value) (base : Heap) (C : Addr) (n : Nat) (S : SpDI) : Prop :=
  ∃ (f : Addr) (fd : FuncData), Mk K C f ∧ FnOk P w K mg base (L2N.CX P w) n f fd ["self", "text", "bounded"] (spI K C S) ∧ mg "Ground" = some (.ref C) ∧ (∃ ds : List Value, Binds K fd ["self", "text", "bounded"] ds ∧ Vals [V.bl true] ds) ∧
    (∀ (s : Shared) (us ws : List Value), K.In s.heap → us.length = 2 → ws.length = 1 → BindsTo s fd ⟨us, (["bounded"] : List Str).zip ws⟩ ((["self", "text", "bounded"] : List Str).zip (us ++ ws)))
section
variable {X : Cx} {c : Ct} {W : WX} {Wx : XD → TL.Env → Prop} {n k : Nat} {C : Addr} {S : SpDI} {p pos : Pos} {e : Expr} {es : List Expr} {U : TAD}
theorem xd_ground (hK : c.K = X.K) (M : MkAt X.prog X.w X.K X.mg X.base C n S) (hr : Room k X.A) (tk : L2N.Takes X W) (hW : WRel c Wx W) (ha : PA X (e :: es) (LA c true U)) (hle : n + 1 ≤ k := by decide) (hg : Gl X "Ground" := by rfl)
    (he : starEach (e :: es) X.env = (false, eval e X.env) :: starEach es X.env := by rfl) (hpl : (backTo pos (starEach es X.env)).any (·.1) = false := by rfl) :
    PE X (.Call (.Name "Ground" p) (e :: es) [] pos) (LE c true (xMake C S [.bl true] Wx U)) := by
  obtain ⟨f, fd, M, F, m, ⟨ds, b, v⟩, _⟩ := M
  exact xd_make M (by rw [hK]; exact F) (hr.mono hle) tk hW m b v (fun M H => .cons (.bl true) .nil) ha hg (by decide) he hpl
theorem xd_groundK {kp cp : Pos} {j : Nat} (hK : c.K = X.K) (M : MkAt X.prog X.w X.K X.mg X.base C n S) (hr : Room k X.A) (tk : L2N.Takes X W) (hW : WRel c Wx W) (ha : PA X (e :: es) (LA c true U)) (hle : n + 1 ≤ k := by decide) (hg : Gl X "Ground" := by rfl)
    (hall : (backToKw pos (keywordEach [⟨some "bounded", .Constant (.bool false) j cp, kp⟩] X.env)).all (·.1.isSome) = true := by rfl) (hks : (backToKw pos (keywordEach [⟨some "bounded", .Constant (.bool false) j cp, kp⟩] X.env)).filterMap (·.1) = (["bounded"] : List Str) := by rfl)
    (he : starEach (e :: es) X.env = (false, eval e X.env) :: starEach es X.env := by rfl) (hpl : ((backTo pos (starEach (e :: es) X.env)).any (·.1) || (backToKw pos (keywordEach [⟨some "bounded", .Constant (.bool false) j cp, kp⟩] X.env)).any (·.1.isNone)) = false := by rfl) :
    PE X (.Call (.Name "Ground" p) (e :: es) [⟨some "bounded", .Constant (.bool false) j cp, kp⟩] pos) (LE c true (xMakeK C S [.bl false] 1 Wx U)) := by
  obtain ⟨f, fd, M, F, m, _, b⟩ := M
  exact xd_makeK (zs := [.bl false]) (ks := (["bounded"] : List Str)) (n := 1) M (by rw [hK]; exact F) (hr.mono hle) tk hW m b (fun M H => .cons (.bl false) .nil) ha
    ⟨fun pins s σ H Q I q => (pk_cons pe_bl pk_nil).run pins s σ H Q I q⟩ rfl hall hks hg (by decide) he hpl
end
section
variable {P : Program} {wd : World} {K : PySem.W.Frag} {mg : Str → Option Value} {base : Heap} {CT CB C : Addr}
def SEq (C : Addr) : SpD := fun ds Q _ => (∃ p w ns t p' w' ns' t', ds = [grD C p w ns t, grD C p' w' ns' t'] ∧ Q (.bl (decide (t = t')))) ∨ ∃ p w ns t z, ds = [grD C p w ns t, .str z] ∧ Q (.bl false)
abbrev iGe : Stmt := inClass (top 27) 1
theorem scGe : FnScope ["self", "other"] ["self", "other"] (defScope iGe) := ⟨rfl, rfl, rfl, by decide +kernel, rfl, by decide +kernel, by decide +kernel⟩
theorem look_text {p w : Int} {ns : List Str} {t : Str} : (grFs p w ns t).lookup ("text" : Str) = some (D.str t) := rfl
theorem ok_Ge (bn : Bn mg) (gr : GrC K mg C) (g_Ground : GAt K mg "Ground" (.adr C)) {f : Addr} {fd : FuncData} (F : Fun K "__eq__" "Ground.__eq__" iGe f fd) : FnOk P wd K mg base (L2N.CX P wd) 1 f fd ["self", "other"] (spD K (SEq C)) := by
  refine fnD0 F scGe (fun ds Q E h => ?_) (fun cdv A outer s H E c Ed hr hK tk hp hW => have hu := room_units hr; (zs0 (zs_one (z_ret (xd_weak (xd_and (xd_isC hK gr.own gr.k1 gr.k2 bn.isi (xa_cons (xV 1) (xa_cons (xd_gat hK g_Ground) xa_nil))) (xd_one (xd_eq hK hu (xd_fld hK gr.cl gr.n_text (xV 0)) (xd_fld hK gr.cl gr.n_text (xV 1)))))))))) fun ds Qd Ed h => ?_
  · rcases h with ⟨p, w, ns, t, p', w', ns', t', rfl, _⟩ | ⟨p, w, ns, t, z, rfl, _⟩ <;> rfl
  · rcases h with ⟨p, w, ns, t, p', w', ns', t', rfl, hq⟩ | ⟨p, w, ns, t, z, rfl, hq⟩
    · show zRet _ _ ([some (.val (grD C p w ns t)), some (.val (grD C p' w' ns' t'))] : TL.Env)
      unfold grD
      array_get_dec
      refine ⟨_, look_text, _, look_text, ?_⟩
      array_get_dec
      exact hq
    · show zRet _ _ ([some (.val (grD C p w ns t)), some (.val (.str z))] : TL.Env)
      unfold grD
      array_get_dec
      exact hq
def SWn (CB C : Addr) : SpD := fun ds Q E => ∃ (p : Int) (w : Nat) (ns : List Str) (t : Str) (dn : D) (ws : List Str), ds = [grD C p w ns t, dn] ∧ Right t p w ns ∧ t.length < 2990 ∧ (dn = .lst (ws.map D.str) ∨ dn = .tup (ws.map D.str)) ∧ ws.length < 50 ∧ (∀ x ∈ ws, x.length < 50) ∧
  (namesOk ws = true → Q (grD C p w ws (groundText p w ws))) ∧ (namesOk ws = false → ∀ why : Str, why ≠ "" → E ⟨CB, exFs D.str "line" "why" "BadGround" (.int 3) (.str why)⟩)
abbrev iGw : Stmt := inClass (top 27) 4
theorem scGw : FnScope ["self", "names", "numbers", "directions", "_", "line"] ["self", "names"] (defScope iGw) := ⟨rfl, rfl, rfl, by decide +kernel, rfl, by decide +kernel, by decide +kernel⟩
theorem ok_Gw (bn : Bn mg) (gr : GrC K mg C) (c_are_names : Cal P wd K mg base "are_names" ["words"] 2 (fun ds Q E => SArN ds Q E ∨ SArT ds Q E)) (c_lines_of : Cal P wd K mg base "lines_of" ["text"] 1 SLines) (c_Ground : MkAt P wd K mg base C 5 (SGr CB)) (e_BadGround : ExcAt P wd K mg base "BadGround" CB "line" "why")
    {f : Addr} {fd : FuncData} (F : Fun K "with_names" "Ground.with_names" iGw f fd) : FnOk P wd K mg base (L2N.CX P wd) 7 f fd ["self", "names"] (spD K (SWn CB C)) := by
  refine fnD0 F scGw (fun ds Q E h => ?_) (fun cdv A outer s H E c Ed hr hK tk hp hW => have hu := room_units hr; (zs0 (zs_cons (z_if (xt_w (xw_or (xt_not (xt_tru (w := true) hK (xd_new (xf_list hK bn.list (xa_cons (xV 1) xa_nil))))) (xw_or1 (xt_not (xt_val (w := true) (xd_cal hK c_are_names hr tk_no hW_no (xa_cons (xV 1) xa_nil))))))) (zs_one (z_raiseC rfl tk hW e_BadGround hr (xa_cons xd_int (xa_cons xd_str xa_nil)))) zs_nil) (zs_cons (z_asg (xd_cal hK c_lines_of hr tk_no hW_no (xa_cons (xd_fld hK gr.cl gr.n_text (xV 0)) xa_nil)) (yg_lst (n := 3) hK rfl (ygs_cons (yN 2 scGw.nd) (ygs_cons (yN 3 scGw.nd) (ygs_cons (yN 4 scGw.nd) ygs_nil))))) (zs_cons (zS 5 scGw.nd (xd_join hK xd_str (xd_new (xf_list hK bn.list (xa_cons (xV 1) xa_nil))))) (zs_one (z_ret (xd_weak (xd_groundK hK c_Ground hr tk hW (xa_cons (xd_joined (PJD.cons (xd_fmt (xV 2)) (PJD.cons xd_str (PJD.cons (xd_fmt (xV 3)) (PJD.cons xd_str (PJD.cons (xd_fmt (xV 5)) (PJD.cons xd_str PJD.nil))))))) xa_nil)))))))))) fun ds Qd Ed h => ?_
  · obtain ⟨p, w, ns, t, dn, ws, rfl, _⟩ := h
    rfl
  · obtain ⟨p, w, ns, t, dn, ws, rfl, hR, hl, hd, hwl, hww, hq, hE⟩ := h
    have z := big
    have z1 : 100000 ≤ sizeLine := by rw [sizeLine_eq]; decide
    show zSeq _ _ _ ([some (.val (grD C p w ns t)), some (.val dn), none, none, none, none] : TL.Env)
    unfold grD
    obtain ⟨k, ek, hL, l2, el⟩ := right_land hR
    cases ek
    cases ws with
    | nil =>
      have hE := hE rfl
      rcases hd with rfl | rfl
      all_goals
        array_get_dec
        exact hE _ (by decide +kernel)
    | cons x ws =>
      have no : namesOk (x :: ws) = distinctOk (x :: ws) := by
        unfold namesOk
        rw [List.length_cons, decide_eq_true (Nat.succ_pos _), Bool.true_and]
      rw [no] at hq hE
      have hg : Str.empty ++ kindText p ++ "
" ++ dirText w ++ "
names " ++ Txt.join " " (x :: ws) ++ "
" = groundText p w (x :: ws) := by
        unfold groundText dirText
        refine ext_tl ?_
        have e1 : tl ("
directions " : Str) = tl ("
" : Str) ++ tl ("directions " : Str) := by decide +kernel
        have e2 : tl Str.empty = [] := rfl
        simp only [tl_append, e1, e2, List.append_assoc, List.nil_append]
      have hsum : ∀ l : List Str, (∀ y ∈ l, y.length < 50) → (l.map (·.length)).sum ≤ 50 * l.length := fun l => by
        induction l with
        | nil => intro _; simp
        | cons a r ih =>
          intro h
          have h1 := h a (by simp)
          have h2 := ih fun y hy => h y (by simp [hy])
          simp only [List.map_cons, List.sum_cons, List.length_cons]
          omega
      have hsm := hsum _ hww
      have hj := join_le " " (x :: ws)
      rw [show (" " : Str).length = 1 from rfl] at hj
      have hkl := kt_len p hL.p
      have hdl : (dirText w).length ≤ 16 := by
        obtain ⟨ys, _, _, _, h5⟩ := ways_cut w hL.w1 hL.w3
        unfold dirText
        rw [len_app]
        have : ("directions " : Str).length = 11 := rfl
        omega
      have hs : ∀ y ∈ x :: ws, y.length < sizeLine := fun y hy => by have := hww y hy; omega
      rcases hd with rfl | rfl
      all_goals
        array_get_dec
        first
          | refine .inl ⟨x :: ws, rfl, by omega, hs, ?_⟩
          | refine .inr ⟨x :: ws, rfl, by omega, hs, ?_⟩
        array_get_dec
        cases hk : distinctOk (x :: ws) with
        | false =>
          array_get_dec
          exact hE hk _ (by decide +kernel)
        | true =>
          array_get_dec
          refine ⟨_, look_text, ?_⟩
          array_get_dec
          refine ⟨t, rfl, by omega, ?_⟩
          rw [el]
          array_get_dec
          refine ⟨x :: ws, .inl rfl, by rw [show (" " : Str).length = 1 from rfl]; omega, ?_⟩
          array_get_dec
          rw [hg]
          array_get_dec
          have l0 : (Str.empty : Str).length = 0 := rfl
          have l1 : ("
" : Str).length = 1 := rfl
          have l2' : ("
names " : Str).length = 7 := rfl
          have hlg : (groundText p w (x :: ws)).length < 2990 := by
            rw [← hg]
            simp only [len_app]
            omega
          simp only [len_app]
          refine ⟨by omega, by omega, by omega, by omega, by omega, by omega, by omega, by omega, by omega, ?_⟩
          have hd : distinctOk (x :: ws) = true := hk
          unfold distinctOk at hd
          simp only [Bool.and_eq_true, decide_eq_true_eq] at hd
          have hL' : LandN p w (x :: ws) := ⟨hL.p, hL.w1, hL.w3, by simp, hd.2, List.all_eq_true.mp hd.1⟩
          have hR' := land_right hL'
          refine ⟨_, _, rfl, hlg, fun p' w' ns' h' => ⟨.inl rfl, ?_⟩, fun why hw hc => absurd (right_code hR') hc⟩
          obtain ⟨rfl, rfl, rfl⟩ := right_one hR' h'
          exact hq hk
end
end K1
set_option Elab.async false
set_option linter.all false
set_option maxRecDepth 100000
set_option maxHeartbeats 8000000
namespace K1
open PySem L2 PySem.Spec PyProof.Rows TL TLS
local macro_rules | `(tactic| array_get_dec) => `(tactic| try simp only [↓e_isiI_list, ↓e_isiI_tuple, ↓e_isiI_bool, ↓e_isiI_str, ↓e_isiI_int, ↓e_isiI_u, ↓e_isiB_list, ↓e_isiB_tuple, ↓e_isiB_bool, ↓e_isiB_str, ↓e_isiB_int, ↓e_isiB_u, ↓e_isiS_list, ↓e_isiS_tuple, ↓e_isiS_bool, ↓e_isiS_str, ↓e_isiS_int, ↓e_isiS_u, ↓e_isiL_list, ↓e_isiL_tuple, ↓e_isiL_bool, ↓e_isiL_str, ↓e_isiL_int, ↓e_isiL_u, ↓e_isiT_list, ↓e_isiT_tuple, ↓e_isiT_bool, ↓e_isiT_str, ↓e_isiT_int, ↓e_isiT_u, e_nonI, e_nonB, e_nonS, e_nonL, e_nonT, e_nonN, e_nonO, ↓e_zipA, ↓e_lc, bne_self_eq_false, decide_true, sl_0, sl_1, sl_2, sl_3, sl_4, sl_5, sl_6, sl_7, sl_8, sl_9, sl_10, sl_11, sl_12, sl_13, sl_14, sl_15, sl_16, Bool.not_true, Bool.not_false, ↓e_var0, ↓e_varS, ↓e_varO0, ↓e_varOS, ↓e_C, ↓e_new, ↓e_nil, ↓e_cons, ↓e_tup, ↓e_lst, ↓e_star, ↓e_star_l, ↓e_star_t, ↓e_op, ↓e_addI, ↓e_addS, ↓e_addL, ↓e_sub, ↓e_mul, ↓e_fdiv, ↓e_mod, ↓e_pow, ↓e_neg, ↓e_cmp, ↓e_eqII, ↓e_eqSS, ↓e_eqBB, ↓e_eqNI, ↓e_eqNS, ↓e_isN, ↓e_inL, ↓e_xI, ↓e_xB, ↓e_xS, ↓e_xL, ↓e_xT, ↓e_xO, ↓e_x2, ↓e_x3, ↓e_xc, ↓e_xsom, ↓e_if, ↓e_ifE, ↓e_and, ↓e_or, ↓e_not, ↓e_andV, ↓e_orV, ↓e_notV, ↓e_BrT, ↓e_BrF, ↓e_BrET, ↓e_BrEF, ↓e_BrAT, ↓e_BrAF, ↓e_BrRT, ↓e_BrRF, ↓e_BrAVT, ↓e_BrAVF, ↓e_BrRVT, ↓e_BrRVF, ↓e_B, ↓e_tru, ↓e_truN, ↓e_truB, ↓e_truI, ↓e_truS, ↓e_truL, ↓e_truT, ↓e_chain, ↓e_bi, ↓e_lenS, ↓e_lenL, ↓e_lenT, ↓e_seq, ↓e_tupOf, ↓e_seqL, ↓e_seqT, ↓e_boolI, ↓e_boolB, ↓e_intI, ↓e_strI, ↓e_min2, ↓e_all, ↓e_ixL, ↓e_ixT, ↓e_ixS, ↓e_at0, ↓e_at1, ↓e_at2, ↓e_noPart, ↓e_part, ↓e_sl, ↓e_slL, ↓e_slS, ↓e_range1, ↓e_zip, ↓e_isCo, ↓e_isCs, ↓e_fld, ↓e_xfld, ↓e_split, ↓e_join, ↓e_fmt, ↓e_fmtS, ↓e_fmtI, ↓e_js0, ↓e_jsS, ↓e_lenSet, ↓e_yName, ↓e_yNil0, ↓e_yCons, ↓e_yTup, ↓e_yLst, ↓e_yStar, ↓e_next, ↓e_zseq, ↓e_ret, ↓e_set, ↓e_setO, ↓e_drop, ↓e_asg, ↓e_par, ↓e_par3, ↓e_for, ↓e_for0, ↓e_fg, ↓e_brk, ↓e_cont, ↓e_call, ↓e_callB, ↓e_raise, ↓e_zfld, ↓e_make, ↓e_makeK, ↓e_meth, ↓e_app0, ↓e_own, e_get0, e_getS, e_set0, e_setS, e_xF, e_xT', e_xins, e_xins1, ↓e_app, e_weak, e_yNil, Bool.not_not, Bool.not_true, Bool.not_false, List.isEmpty_nil, List.isEmpty_cons, true_and, and_true, List.length_cons, List.length_nil, Nat.reduceAdd, Nat.zero_add, ↓at0, ↓at1, ↓at2, List.map_cons, List.map_nil, List.cons_append, List.nil_append, List.replicate, Nat.reduceSub])

def scalarD : D → Bool
  | .int _ => true | .bl _ => true | .str _ => true
  | _ => false
/-- trees one level above P -/
def upD (P : D → Prop) (d : D) : Prop := scalarD d = true ∨ ∃ xs, (d = .lst xs ∨ d = .tup xs) ∧ xs.length + 1 < sizeLine ∧ ∀ x ∈ xs, P x
theorem zip_self : ∀ xs : List D, xs.zip xs = xs.map fun x => (x, x)
  | [] => rfl
  | a :: r => by
    rw [List.zip_cons_cons, zip_self r]
    rfl
section
variable {P : Program} {wd : World} {K : PySem.W.Frag} {mg : Str → Option Value} {base : Heap}
def SLk (P : D → Prop) : SpD := fun ds Q _ => ∃ d, ds = [d, d] ∧ P d ∧ Q (.bl true)
abbrev sLk : Stmt := top 32
theorem scLk : FnScope ["told", "due", "a", "b"] ["told", "due"] (defScope sLk) := ⟨rfl, rfl, rfl, by decide +kernel, rfl, by decide +kernel, by decide +kernel⟩
theorem ok_Lk (bn : Bn mg) {n : Nat} {Pd : D → Prop} (c__law_like : Cal P wd K mg base "_law_like" ["told", "due"] n (SLk Pd)) {f : Addr} {fd : FuncData} (F : Fun K "_law_like" "_law_like" sLk f fd) : FnOk P wd K mg base (L2N.CX P wd) (n + 1) f fd ["told", "due"] (spD K (SLk (upD Pd))) := by
  refine fnD0 F scLk (fun ds Q E h => ?_) (fun cdv A outer s H E c Ed hr hK tk hp hW => have hu := room_units hr; (zs0 (zs_cons (z_if (xt_w (xw_or (xt_is (w := true) (xV 1) xd_non) (xw_or1 (xt_is (w := true) (xV 0) xd_non)))) (zs_one (z_ret (xd_weak (xd_and (xd_is (xV 1) xd_non) (xd_one (xd_is (xV 0) xd_non)))))) zs_nil) (zs_cons (z_if (xt_val (w := true) (xd_isi hK bn.isi (xa_cons (xV 1) (xa_cons (xd_tup (xa_cons (xd_tyn (n := "list") bn.list (by decide +kernel)) (xa_cons (xd_tyn (n := "tuple") bn.tuple (by decide +kernel)) xa_nil))) xa_nil)))) (zs_cons (z_if (xt_w (xw_or (xt_ne (w := true) hK hu (xd_isi hK bn.isi (xa_cons (xV 0) (xa_cons (xd_tyn (n := "list") bn.list (by decide +kernel)) xa_nil))) (xd_isi hK bn.isi (xa_cons (xV 1) (xa_cons (xd_tyn (n := "list") bn.list (by decide +kernel)) xa_nil)))) (xw_or1 (xt_ne (w := true) hK hu (xd_isi hK bn.isi (xa_cons (xV 0) (xa_cons (xd_tyn (n := "tuple") bn.tuple (by decide +kernel)) xa_nil))) (xd_isi hK bn.isi (xa_cons (xV 1) (xa_cons (xd_tyn (n := "tuple") bn.tuple (by decide +kernel)) xa_nil))))))) (zs_one (z_ret (xd_weak xd_bl))) zs_nil) (zs_one (z_ret (xd_weak (xd_and (xd_eq hK hu (xd_len hK bn.len (xa_cons (xV 0) xa_nil)) (xd_len hK bn.len (xa_cons (xV 1) xa_nil))) (xd_one (xd_all hK rfl bn.all (xa_cons (xd_new (xf_lc rfl scLk.nd (xi_zipA hK bn.zip (xa_cons (xV 0) (xa_cons (xV 1) xa_nil))) (blkOk_by (N := ["told", "due", "a", "b"]) (sc := defScope sLk) (own := [("a", 2), ("b", 3)]) (by decide +kernel)) (fun _ h => h) (fun _ _ _ _ _ _ => (yg_tup (n := 2) hK rfl (ygs_cons (yN 2 scLk.nd) (ygs_cons (yN 3 scLk.nd) ygs_nil)))) (fun _ _ _ _ _ _ => xts_nil) (fun _ _ _ _ _ _ => (xd_cal hK c__law_like hr tk_no hW_no (xa_cons (xV 2) (xa_cons (xV 3) xa_nil)) (hle := Nat.le_refl _))))) xa_nil)))))))) zs_nil) (zs_cons (z_if (xt_w (xw_or (xt_val (w := true) (xd_isi hK bn.isi (xa_cons (xV 0) (xa_cons (xd_tup (xa_cons (xd_tyn (n := "list") bn.list (by decide +kernel)) (xa_cons (xd_tyn (n := "tuple") bn.tuple (by decide +kernel)) xa_nil))) xa_nil)))) (xw_or1 (xt_ne (w := true) hK hu (xd_isi hK bn.isi (xa_cons (xV 0) (xa_cons (xd_tyn (n := "bool") bn.bool (by decide +kernel)) xa_nil))) (xd_isi hK bn.isi (xa_cons (xV 1) (xa_cons (xd_tyn (n := "bool") bn.bool (by decide +kernel)) xa_nil))))))) (zs_one (z_ret (xd_weak xd_bl))) zs_nil) (zs_cons (z_if (xt_w (xw_or (xt_ne (w := true) hK hu (xd_isi hK bn.isi (xa_cons (xV 0) (xa_cons (xd_tyn (n := "str") bn.str (by decide +kernel)) xa_nil))) (xd_isi hK bn.isi (xa_cons (xV 1) (xa_cons (xd_tyn (n := "str") bn.str (by decide +kernel)) xa_nil)))) (xw_or1 (xt_ne (w := true) hK hu (xd_isi hK bn.isi (xa_cons (xV 0) (xa_cons (xd_tyn (n := "int") bn.int (by decide +kernel)) xa_nil))) (xd_isi hK bn.isi (xa_cons (xV 1) (xa_cons (xd_tyn (n := "int") bn.int (by decide +kernel)) xa_nil))))))) (zs_one (z_ret (xd_weak xd_bl))) zs_nil) (zs_one (z_ret (xd_weak (xd_bool bn.bool (xa_cons (xd_eq hK hu (xV 0) (xV 1)) xa_nil))))))))))) fun ds Qd Ed h => ?_
  · obtain ⟨d, rfl, _⟩ := h
    rfl
  · obtain ⟨d, rfl, hd, hq⟩ := h
    have z := big
    show zSeq _ _ _ ([some (.val d), some (.val d), none, none] : TL.Env)
    rcases hd with hd | ⟨xs, hd, hl, hx⟩
    · cases d with
      | int i => array_get_dec; exact hq
      | bl b => array_get_dec; exact hq
      | str x => array_get_dec; exact hq
      | _ => cases hd
    · have ez := zip_self xs
      have el : (List.map (fun p : D × D => D.tup [p.1, p.2]) (xs.zip xs)) = xs.map fun x => D.tup [x, x] := by rw [ez, List.map_map]; rfl
      have eb : ((xs.map fun _ => true).all id) = true := by simp
      rcases hd with rfl | rfl
      all_goals
        array_get_dec
        first
          | refine ⟨xs, xs, .inl rfl, by rw [el, List.length_map]; omega, rfl, ?_⟩
          | refine ⟨xs, xs, .inr rfl, by rw [el, List.length_map]; omega, rfl, ?_⟩
        rw [el]
        refine lc_each (inj := fun x => D.tup [x, x]) (f := fun _ => D.bl true) xs [] _ (fun x hm R hR => ?_) ?_
        · array_get_dec
          refine hR _ (fun R' h => h) fun R' h => ?_
          array_get_dec
          exact ⟨x, rfl, hx x hm, h⟩
        · rw [List.nil_append, show xs.map (fun _ => D.bl true) = (xs.map fun _ => true).map D.bl from by rw [List.map_map]; rfl]
          refine dBools_map _ _ ?_
          rw [eb]
          exact hq
/-- trees of depth n -/
def depD : Nat → D → Prop
  | 0 => fun _ => False
  | n + 1 => upD (depD n)
theorem cal_Lk (Dat : DefAt K mg "_law_like" ["told", "due"] sLk) (bn : Bn mg) : ∀ n, Cal P wd K mg base "_law_like" ["told", "due"] n (SLk (depD n))
  | 0 => (cal_none Dat 0).imp fun ds Q E h => by
    obtain ⟨d, _, h, _⟩ := h
    exact h
  | n + 1 => by
    have c := cal_Lk Dat bn n
    obtain ⟨f, fd, F, m, b⟩ := Dat
    exact ⟨f, fd, ok_Lk bn c F, m, F.kp, b⟩
/-- lists one level above P, where an exception is handled -/
def upH (P : D → Prop) (d : D) : Prop := scalarD d = true ∨ ∃ xs, d = .lst xs ∧ xs.length + 1 < sizeLine ∧ ∀ x ∈ xs, P x
theorem calH_Lk1 (Dat : DefAt K mg "_law_like" ["told", "due"] sLk) (bn : Bn mg) {n : Nat} {Pd : D → Prop} (c__law_like : CalH P wd K mg base "_law_like" ["told", "due"] n (SLk Pd)) : CalH P wd K mg base "_law_like" ["told", "due"] (n + 1) (SLk (upH Pd)) := by
  refine calH_of Dat scLk (fun ds Q E h => ?_) (fun f cdv A outer s H E p c Ed hot hr hK tk hW => have hu := room_unitsH hr; (zs0 (zs_cons (z_if (xt_w (xw_or (xt_is (w := true) (xV 1) xd_non) (xw_or1 (xt_is (w := true) (xV 0) xd_non)))) (zs_one (z_ret (xd_weak (xd_and (xd_is (xV 1) xd_non) (xd_one (xd_is (xV 0) xd_non)))))) zs_nil) (zs_cons (z_if (xt_val (w := true) (xd_isi hK bn.isi (xa_cons (xV 1) (xa_cons (xd_tup (xa_cons (xd_tyn (n := "list") bn.list (by decide +kernel)) (xa_cons (xd_tyn (n := "tuple") bn.tuple (by decide +kernel)) xa_nil))) xa_nil)))) (zs_cons (z_if (xt_w (xw_or (xt_ne (w := true) hK hu (xd_isi hK bn.isi (xa_cons (xV 0) (xa_cons (xd_tyn (n := "list") bn.list (by decide +kernel)) xa_nil))) (xd_isi hK bn.isi (xa_cons (xV 1) (xa_cons (xd_tyn (n := "list") bn.list (by decide +kernel)) xa_nil)))) (xw_or1 (xt_ne (w := true) hK hu (xd_isi hK bn.isi (xa_cons (xV 0) (xa_cons (xd_tyn (n := "tuple") bn.tuple (by decide +kernel)) xa_nil))) (xd_isi hK bn.isi (xa_cons (xV 1) (xa_cons (xd_tyn (n := "tuple") bn.tuple (by decide +kernel)) xa_nil))))))) (zs_one (z_ret (xd_weak xd_bl))) zs_nil) (zs_one (z_ret (xd_weak (xd_and (xd_eq hK hu (xd_len hK bn.len (xa_cons (xV 0) xa_nil)) (xd_len hK bn.len (xa_cons (xV 1) xa_nil))) (xd_one (xd_allW hK (.inr ⟨p, hot, List.mem_singleton.mpr rfl⟩) bn.all (xa_cons (xd_new (xfw_lc (.inr ⟨p, hot, List.mem_singleton.mpr rfl⟩) scLk.nd (xiw_zip hK bn.zip (xa_cons (xV 0) (xa_cons (xV 1) xa_nil))) (blkOk_by (N := ["told", "due", "a", "b"]) (sc := defScope sLk) (own := [("a", 2), ("b", 3)]) (by decide +kernel)) (fun _ h => h) (fun _ _ _ _ _ _ => (ygw_tup (n := 2) hK (.inr ⟨p, hot, List.mem_singleton.mpr rfl⟩) (ygs_cons (yN 2 scLk.nd) (ygs_cons (yN 3 scLk.nd) ygs_nil)))) (fun _ _ _ _ _ _ => xts_nil) (fun _ _ _ _ _ _ => (xd_calW hK ⟨p, hot, List.mem_singleton.mpr rfl⟩ c__law_like hr tk_no hW_no (xa_cons (xV 2) (xa_cons (xV 3) xa_nil)) (hle := Nat.le_refl _))))) xa_nil)))))))) zs_nil) (zs_cons (z_if (xt_w (xw_or (xt_val (w := true) (xd_isi hK bn.isi (xa_cons (xV 0) (xa_cons (xd_tup (xa_cons (xd_tyn (n := "list") bn.list (by decide +kernel)) (xa_cons (xd_tyn (n := "tuple") bn.tuple (by decide +kernel)) xa_nil))) xa_nil)))) (xw_or1 (xt_ne (w := true) hK hu (xd_isi hK bn.isi (xa_cons (xV 0) (xa_cons (xd_tyn (n := "bool") bn.bool (by decide +kernel)) xa_nil))) (xd_isi hK bn.isi (xa_cons (xV 1) (xa_cons (xd_tyn (n := "bool") bn.bool (by decide +kernel)) xa_nil))))))) (zs_one (z_ret (xd_weak xd_bl))) zs_nil) (zs_cons (z_if (xt_w (xw_or (xt_ne (w := true) hK hu (xd_isi hK bn.isi (xa_cons (xV 0) (xa_cons (xd_tyn (n := "str") bn.str (by decide +kernel)) xa_nil))) (xd_isi hK bn.isi (xa_cons (xV 1) (xa_cons (xd_tyn (n := "str") bn.str (by decide +kernel)) xa_nil)))) (xw_or1 (xt_ne (w := true) hK hu (xd_isi hK bn.isi (xa_cons (xV 0) (xa_cons (xd_tyn (n := "int") bn.int (by decide +kernel)) xa_nil))) (xd_isi hK bn.isi (xa_cons (xV 1) (xa_cons (xd_tyn (n := "int") bn.int (by decide +kernel)) xa_nil))))))) (zs_one (z_ret (xd_weak xd_bl))) zs_nil) (zs_one (z_ret (xd_weak (xd_bool bn.bool (xa_cons (xd_eq hK hu (xV 0) (xV 1)) xa_nil))))))))))) fun ds Qd Ed h => ?_
  · obtain ⟨d, rfl, _⟩ := h
    rfl
  · obtain ⟨d, rfl, hd, hq⟩ := h
    have z := big
    show zSeq _ _ _ ([some (.val d), some (.val d), none, none] : TL.Env)
    rcases hd with hd | ⟨xs, rfl, hl, hx⟩
    · cases d with
      | int i => array_get_dec; exact hq
      | bl b => array_get_dec; exact hq
      | str x => array_get_dec; exact hq
      | _ => cases hd
    · have ez := zip_self xs
      have el : (List.map (fun p : D × D => D.tup [p.1, p.2]) (xs.zip xs)) = xs.map fun x => D.tup [x, x] := by rw [ez, List.map_map]; rfl
      have eb : ((xs.map fun _ => true).all id) = true := by simp
      array_get_dec
      refine ⟨xs, xs, rfl, by rw [el, List.length_map]; omega, rfl, ?_⟩
      rw [el]
      refine lc_each (inj := fun x => D.tup [x, x]) (f := fun _ => D.bl true) xs [] _ (fun x hm R hR => ?_) ?_
      · array_get_dec
        refine hR _ (fun R' h => h) fun R' h => ?_
        array_get_dec
        exact ⟨x, rfl, hx x hm, h⟩
      · rw [List.nil_append, show xs.map (fun _ => D.bl true) = (xs.map fun _ => true).map D.bl from by rw [List.map_map]; rfl]
        refine dBools_map _ _ ?_
        rw [eb]
        exact hq
def depH : Nat → D → Prop
  | 0 => fun _ => False
  | n + 1 => upH (depH n)
theorem calH_Lk (Dat : DefAt K mg "_law_like" ["told", "due"] sLk) (bn : Bn mg) : ∀ n, CalH P wd K mg base "_law_like" ["told", "due"] n (SLk (depH n))
  | 0 => by
    obtain ⟨f, fd, F, r⟩ := calH_none (P := P) (wd := wd) (base := base) Dat 0
    refine ⟨f, fd, ⟨fun vs H Q E h => ?_, fun A outer s H args us vs Q E p hr h1 h2 h3 he hb hv h => ?_⟩, r⟩
    all_goals
      obtain ⟨_, _, _, _, _, _, _, _, _, _, _, h, _⟩ := h
      obtain ⟨d, _, h, _⟩ := h
      exact h.elim
  | n + 1 => calH_Lk1 Dat bn (calH_Lk Dat bn n)
end
end K1
set_option Elab.async false
set_option linter.all false
set_option maxRecDepth 100000
set_option maxHeartbeats 8000000
namespace K1
open PySem L2 PySem.Spec PyProof.Rows TL TLS
local macro_rules | `(tactic| array_get_dec) => `(tactic| try simp only [↓e_xf, ↓e_xxf, ↓e_isX, ↓e_try, ↓e_ownEq, ↓e_ownEqS, ↓e_isiI_list, ↓e_isiI_tuple, ↓e_isiI_bool, ↓e_isiI_str, ↓e_isiI_int, ↓e_isiI_u, ↓e_isiB_list, ↓e_isiB_tuple, ↓e_isiB_bool, ↓e_isiB_str, ↓e_isiB_int, ↓e_isiB_u, ↓e_isiS_list, ↓e_isiS_tuple, ↓e_isiS_bool, ↓e_isiS_str, ↓e_isiS_int, ↓e_isiS_u, ↓e_isiL_list, ↓e_isiL_tuple, ↓e_isiL_bool, ↓e_isiL_str, ↓e_isiL_int, ↓e_isiL_u, ↓e_isiT_list, ↓e_isiT_tuple, ↓e_isiT_bool, ↓e_isiT_str, ↓e_isiT_int, ↓e_isiT_u, e_nonI, e_nonB, e_nonS, e_nonL, e_nonT, e_nonN, e_nonO, ↓e_zipA, ↓e_lc, bne_self_eq_false, decide_true, sl_0, sl_1, sl_2, sl_3, sl_4, sl_5, sl_6, sl_7, sl_8, sl_9, sl_10, sl_11, sl_12, sl_13, sl_14, sl_15, sl_16, Bool.not_true, Bool.not_false, ↓e_var0, ↓e_varS, ↓e_varO0, ↓e_varOS, ↓e_C, ↓e_new, ↓e_nil, ↓e_cons, ↓e_tup, ↓e_lst, ↓e_star, ↓e_star_l, ↓e_star_t, ↓e_op, ↓e_addI, ↓e_addS, ↓e_addL, ↓e_sub, ↓e_mul, ↓e_fdiv, ↓e_mod, ↓e_pow, ↓e_neg, ↓e_cmp, ↓e_eqII, ↓e_eqSS, ↓e_eqBB, ↓e_eqNI, ↓e_eqNS, ↓e_isN, ↓e_inL, ↓e_xI, ↓e_xB, ↓e_xS, ↓e_xL, ↓e_xT, ↓e_xO, ↓e_x2, ↓e_x3, ↓e_xc, ↓e_xsom, ↓e_if, ↓e_ifE, ↓e_and, ↓e_or, ↓e_not, ↓e_andV, ↓e_orV, ↓e_notV, ↓e_BrT, ↓e_BrF, ↓e_BrET, ↓e_BrEF, ↓e_BrAT, ↓e_BrAF, ↓e_BrRT, ↓e_BrRF, ↓e_BrAVT, ↓e_BrAVF, ↓e_BrRVT, ↓e_BrRVF, ↓e_B, ↓e_tru, ↓e_truN, ↓e_truB, ↓e_truI, ↓e_truS, ↓e_truL, ↓e_truT, ↓e_chain, ↓e_bi, ↓e_lenS, ↓e_lenL, ↓e_lenT, ↓e_seq, ↓e_tupOf, ↓e_seqL, ↓e_seqT, ↓e_boolI, ↓e_boolB, ↓e_intI, ↓e_strI, ↓e_min2, ↓e_all, ↓e_ixL, ↓e_ixT, ↓e_ixS, ↓e_at0, ↓e_at1, ↓e_at2, ↓e_noPart, ↓e_part, ↓e_sl, ↓e_slL, ↓e_slS, ↓e_range1, ↓e_zip, ↓e_isCo, ↓e_isCs, ↓e_fld, ↓e_xfld, ↓e_split, ↓e_join, ↓e_fmt, ↓e_fmtS, ↓e_fmtI, ↓e_js0, ↓e_jsS, ↓e_lenSet, ↓e_yName, ↓e_yNil0, ↓e_yCons, ↓e_yTup, ↓e_yLst, ↓e_yStar, ↓e_next, ↓e_zseq, ↓e_ret, ↓e_set, ↓e_setO, ↓e_drop, ↓e_asg, ↓e_par, ↓e_par3, ↓e_for, ↓e_for0, ↓e_fg, ↓e_brk, ↓e_cont, ↓e_call, ↓e_callB, ↓e_raise, ↓e_zfld, ↓e_make, ↓e_makeK, ↓e_meth, ↓e_app0, ↓e_own, e_get0, e_getS, e_set0, e_setS, e_xF, e_xT', e_xins, e_xins1, ↓e_app, e_weak, e_yNil, Bool.not_not, Bool.not_true, Bool.not_false, List.isEmpty_nil, List.isEmpty_cons, true_and, and_true, List.length_cons, List.length_nil, Nat.reduceAdd, Nat.zero_add, ↓at0, ↓at1, ↓at2, List.map_cons, List.map_nil, List.cons_append, List.nil_append, List.replicate, Nat.reduceSub])

/-- the class BadGround, caught as DeepError -/
structure ExB (K : PySem.W.Frag) (mg : Str → Option Value) (CB : Addr) : Prop where
  xf : XfC K CB
  ex : ExcC K CB
  k1 : PySem.W.kitOne K (.ref CB) (.ref CB) = some true
  mg : mg "BadGround" = some (.ref CB)
  n_line : PySem.W.findIn K (.ref CB) "line" = some none
  n_why : PySem.W.findIn K (.ref CB) "why" = some none
  n_code : PySem.W.findIn K (.ref CB) "code" = some none
/-- the class DeepError, over BadGround -/
structure ExD (K : PySem.W.Frag) (mg : Str → Option Value) (CB CD : Addr) : Prop where
  deep : mg "DeepError" = some (.ref CD)
  dp : PySem.W.exmOne K (.ref CB) (.ref CD) = some true
/-- grounds compared -/
def EqAt (P : Program) (w : World) (K : PySem.W.Frag) (mg : Str → Option Value) (base : Heap) (C : Addr) : Prop :=
  ∃ (f : Addr) (fd : FuncData), FnOk P w K mg base (L2N.CX P w) 1 f fd ["self", "other"] (spD K (SEq C)) ∧ PySem.W.findIn K (.ref C) "__eq__" = some (some (.ref f)) ∧ PySem.W.isFn K (.ref f) = true ∧ Binds K fd ["self", "other"] [] ∧ PySem.W.notFirst K C (.type "str") = true
theorem xd_gEq {X : Cx} {c : Ct} {w : Bool} {T T2 : TED} {a b : Expr} {pos : Pos} {k : Nat} {C : Addr} (hK : c.K = X.K) (M : EqAt X.prog X.w X.K X.mg X.base C) (hr : Room k X.A) (ha : PE X a (LE c w T)) (hb : PE X b (LE c w T2)) (h1 : 1 ≤ k := by decide) : PE X (.Compare a [.Eq] [b] pos) (LE c w (xOp (dOwnEq C (SEq C)) T T2)) := by
  obtain ⟨f, fd, F, fi, fn, bb, nf⟩ := M
  exact xd_ownEq (by rw [hK]; exact F) (hr.mono h1) fi fn bb nf ha hb
section
variable {P : Program} {wd : World} {K : PySem.W.Frag} {mg : Str → Option Value} {base : Heap} {CT CB CD C : Addr}
def STs (C : Addr) : SpD := fun ds Q _ => ∃ (p : Int) (w : Nat) (ns : List Str) (t : Str), ds = [grD C p w ns t, landD p w ns, .str t] ∧ 1 ≤ w ∧ w ≤ 3 ∧ ns.length < 1000 ∧ Q (.bl true)
abbrev sTs : Stmt := top 43
theorem scTs : FnScope ["gr", "land", "due", "told", "kind"] ["gr", "land", "due"] (defScope sTs) := ⟨rfl, rfl, rfl, by decide +kernel, rfl, by decide +kernel, by decide +kernel⟩
theorem cal_Ts (Dat : DefAt K mg "_law_told_so" ["gr", "land", "due"] sTs) (bn : Bn mg) (gr : GrC K mg C) (g_Ground : GAt K mg "Ground" (.adr C)) (c__law_like : Cal P wd K mg base "_law_like" ["told", "due"] 3 (SLk (depD 3))) : Cal P wd K mg base "_law_told_so" ["gr", "land", "due"] 4 (STs C) := by
  refine cal_of Dat scTs (fun ds Q E h => ?_) (fun f cdv A outer s H E c Ed hr hK tk hp hW => have hu := room_units hr; (zs0 (zs_cons (zS 3 scTs.nd (xd_new (xf_lst (xa_cons (xd_fld hK gr.cl gr.n_kind (xV 0)) (xa_cons (xd_fld hK gr.cl gr.n_prime (xV 0)) (xa_cons (xd_fld hK gr.cl gr.n_directions (xV 0)) (xa_cons (xd_fld hK gr.cl gr.n_names (xV 0)) (xa_cons (xd_fld hK gr.cl gr.n_text (xV 0)) xa_nil)))))))) (zs_cons (zS 4 scTs.nd (xd_if (xt_eq (w := true) hK hu (xd_ix hK (fun _ _ => rfl) (xV 1) xd_int) xd_int) xd_str xd_str)) (zs_one (z_ret (xd_weak (xd_and (xd_isC hK gr.own gr.k1 gr.k2 bn.isi (xa_cons (xV 0) (xa_cons (xd_gat hK g_Ground) xa_nil))) (xd_one (xd_cal hK c__law_like hr tk_no hW_no (xa_cons (xV 3) (xa_cons (xd_new (xf_lst (xa_cons (xV 4) (xa_cons (xd_ix hK (fun _ _ => rfl) (xV 1) xd_int) (xa_cons (xd_tuple hK bn.tuple (xa_cons (xd_slice hK (xd_new (xf_lst (xa_cons xd_str (xa_cons xd_str (xa_cons xd_str xa_nil))))) xo_none (xo_some (xd_ix hK (fun _ _ => rfl) (xV 1) xd_int))) xa_nil)) (xa_cons (xd_tuple hK bn.tuple (xa_cons (xd_ix hK (fun _ _ => rfl) (xV 1) xd_int) xa_nil)) (xa_cons (xV 2) xa_nil))))))) xa_nil)))))))))))) fun ds Qd Ed h => ?_
  · obtain ⟨p, w, ns, t, rfl, _⟩ := h
    rfl
  · obtain ⟨p, w, ns, t, rfl, h1, h3, hn, hq⟩ := h
    have z := big
    show zSeq _ _ _ ([some (.val (grD C p w ns t)), some (.val (landD p w ns)), some (.val (.str t)), none, none] : TL.Env)
    unfold grD landD
    array_get_dec
    refine ⟨_, rfl, _, rfl, _, rfl, _, rfl, _, rfl, ?_⟩
    have ecut : TL.cutD [D.str "x", D.str "y", D.str "z"] none (some (w : Int)) = (waysL w).map D.str := by
      have hw : w = 1 ∨ w = 2 ∨ w = 3 := by omega
      rcases hw with rfl | rfl | rfl
      · exact cut_hi _ 1
      · exact cut_hi _ 2
      · exact cut_hi _ 3
    have hwl : (waysL w).length ≤ 3 := by
      unfold waysL
      split
      · decide
      · split <;> decide
    have hk : ∀ k : Str, SLk (depD 3) [D.lst [.str k, .int p, .tup ((waysL w).map D.str), .tup (ns.map D.str), .str t], D.lst [.str k, .int p, .tup ((waysL w).map D.str), .tup (ns.map D.str), .str t]] Qd fun _ => False := fun k => by
      refine ⟨_, rfl, .inr ⟨_, .inl rfl, by show 5 + 1 < sizeLine; omega, fun x hx => ?_⟩, hq⟩
      have hs : ∀ l : List Str, l.length < 2000 → depD 2 (.tup (l.map D.str)) := fun l hl => .inr ⟨_, .inr rfl, by rw [List.length_map]; omega, fun y hy => by
        obtain ⟨q, _, rfl⟩ := List.mem_map.mp hy
        exact .inl rfl⟩
      simp only [List.mem_cons, List.not_mem_nil, or_false] at hx
      rcases hx with rfl | rfl | rfl | rfl | rfl
      · exact .inl rfl
      · exact .inl rfl
      · exact hs _ (by omega)
      · exact hs _ (by omega)
      · exact .inl rfl
    by_cases e : p = 0
    · have e1 : decide (p = 0) = true := decide_eq_true e
      rw [e1, ecut]
      array_get_dec
      rw [if_pos e]
      exact hk _
    · have e1 : decide (p = 0) = false := decide_eq_false e
      rw [e1, ecut]
      array_get_dec
      rw [if_neg e]
      exact hk _
def SEr (CB : Addr) : Addr → Addr → Addr → SpD := fun C a dd ds Q _ => C = CB ∧ ∃ (l : Int) (why : Str), ds = [.exc a dd (exFs D.str "line" "why" "BadGround" (.int l) (.str why)), .int l] ∧ why ≠ "" ∧ Q (.bl true)
abbrev sEr : Stmt := top 44
theorem scEr : FnScope ["e", "place"] ["e", "place"] (defScope sEr) := ⟨rfl, rfl, rfl, by decide +kernel, rfl, by decide +kernel, by decide +kernel⟩
theorem calX_Er (Dat : DefAt K mg "_law_error_so" ["e", "place"] sEr) (bn : Bn mg) (ex : ExB K mg CB) (c__law_like : CalH P wd K mg base "_law_like" ["told", "due"] 2 (SLk (depH 2))) : CalX P wd K mg base "_law_error_so" ["e", "place"] 3 (SEr CB) := by
  refine calX_of (CB := CB) Dat scEr (fun C a dd ds Q E h => ?_) (fun C a dd ds Q E h => h.1) (fun a dd f cdv A outer s H E oe c Ed hot hok hr hK tk hW => have hu := room_unitsH hr; (zs0 (zs_one (z_ret (xd_weak (xd_and (xd_isX (C := CB) (List.mem_singleton.mpr rfl) ⟨hok.2.1.1, hok.2.1.2.1⟩ hok.2.2 ex.ex ex.k1 bn.isi ex.mg (xV 0)) (xd_and (xd_calW hK ⟨_, hot, List.mem_singleton.mpr rfl⟩ c__law_like hr tk_no hW_no (xa_cons (xd_new (xf_lst (xa_cons (xd_xf (C := CB) (List.mem_singleton.mpr rfl) ⟨hok.2.1.1, hok.2.1.2.1⟩ hok.2.2 ex.xf ex.n_line (xV 0)) (xa_cons (xd_xf (C := CB) (List.mem_singleton.mpr rfl) ⟨hok.2.1.1, hok.2.1.2.1⟩ hok.2.2 ex.xf ex.n_code (xV 0)) xa_nil)))) (xa_cons (xd_new (xf_lst (xa_cons (xV 1) (xa_cons xd_str xa_nil)))) xa_nil))) (xd_and (xd_isi hK bn.isi (xa_cons (xd_xf (C := CB) (List.mem_singleton.mpr rfl) ⟨hok.2.1.1, hok.2.1.2.1⟩ hok.2.2 ex.xf ex.n_why (xV 0)) (xa_cons (xd_tyn (n := "str") bn.str (by decide +kernel)) xa_nil))) (xd_one (xd_ne hK hu (xd_xf (C := CB) (List.mem_singleton.mpr rfl) ⟨hok.2.1.1, hok.2.1.2.1⟩ hok.2.2 ex.xf ex.n_why (xV 0)) xd_str)))))))))) fun a dd ds Qd Ed h => ?_
  · obtain ⟨_, l, why, rfl, _⟩ := h
    rfl
  · obtain ⟨_, l, why, rfl, hw, hq⟩ := h
    show zRet _ _ ([some (.val (.exc a dd (exFs D.str "line" "why" "BadGround" (.int l) (.str why)))), some (.val (.int l))] : TL.Env)
    array_get_dec
    refine ⟨_, rfl, _, rfl, _, rfl, .inr ⟨_, rfl, by show 2 + 1 < sizeLine; have := big; omega, fun x hx => ?_⟩, ?_⟩
    · simp only [List.mem_cons, List.not_mem_nil, or_false] at hx
      rcases hx with rfl | rfl
      · exact .inl rfl
      · exact .inl rfl
    · array_get_dec
      refine ⟨_, rfl, ?_⟩
      array_get_dec
      refine ⟨_, rfl, ?_⟩
      array_get_dec
      rw [decide_eq_false hw]
      exact hq
def STx : SpD := fun ds Q _ => ∃ t : Str, ds = [.str t] ∧ t.length < 2990 ∧ (∀ p w ns, Right t p w ns → ns.length ≤ 8) ∧ Q (.bl true)
abbrev sTx : Stmt := top 45
theorem scTx : FnScope ["text_in", "place", "land", "gr", "e"] ["text_in"] (defScope sTx) := ⟨rfl, rfl, rfl, by decide +kernel, rfl, by decide +kernel, by decide +kernel⟩
theorem cal_Tx (Dat : DefAt K mg "_law_text_so" ["text_in"] sTx) (bn : Bn mg) (gr : GrC K mg C) (g_Ground : GAt K mg "Ground" (.adr C)) (ex : ExD K mg CB CD) (c_Ground : MkAt P wd K mg base C 5 (SGr CB)) (c_gEq : EqAt P wd K mg base C) (c__law_ground_due : Cal P wd K mg base "_law_ground_due" ["text_in"] 3 SDue)
    (c__law_told_so : Cal P wd K mg base "_law_told_so" ["gr", "land", "due"] 4 (STs C)) (c__law_error_so : CalX P wd K mg base "_law_error_so" ["e", "place"] 3 (SEr CB)) : Cal P wd K mg base "_law_text_so" ["text_in"] 7 STx := by
  refine cal_of Dat scTx (fun ds Q E h => ?_) (fun f cdv A outer s H E c Ed hr hK tk hp hW => have hu := room_units hr; (zs_cons0 (z0 (z_asg (xd_cal hK c__law_ground_due hr tk_no hW_no (xa_cons (xV 0) xa_nil)) (yg_tup (n := 2) hK rfl (ygs_cons (yN 1 scTx.nd) (ygs_cons (yN 2 scTx.nd) ygs_nil))))) (zs_cons0 (z_tryAsK (K0 := K) (x := "DeepError") (n := "e") hK scTx.nd (i := 4) (by rfl) (by exact ⟨rfl, by decide, .inl ex.deep⟩) tk (fun W Wx pn xe tk hp hW => (zs0 (zs_one (zS 3 scTx.nd (xd_ground hK c_Ground hr tk hW (xa_cons (xV 0) xa_nil)))))) (fun a oe C dd pn hz hf => (zs0 (zs_one (z_ret (xd_weak (xd_and (xd_is (xV 2) xd_non) (xd_one (xd_calX hK c__law_error_so (roomH hr) (hot_of rfl hz hf) ⟨rfl, hz, hf⟩ (List.mem_cons_self ..) tk_no hW_no (xa_cons (xV 4) (xa_cons (xV 1) xa_nil))))))))))) (zs_one0 (z0 (z_ret (xd_weak (xd_and (xd_isnot (xV 2) xd_non) (xd_and (xd_cal hK c__law_told_so hr tk_no hW_no (xa_cons (xV 3) (xa_cons (xV 2) (xa_cons (xV 0) xa_nil)))) (xd_one (xd_gEq hK c_gEq hr (xV 3) (xd_ground hK c_Ground hr tk hW (xa_cons (xd_fld hK gr.cl gr.n_text (xV 3)) xa_nil))))))))))))) fun ds Qd Ed h => ?_
  · obtain ⟨t, rfl, _⟩ := h
    rfl
  · obtain ⟨t, rfl, hl, h8, hq⟩ := h
    have z := big
    show zSeq _ _ _ ([some (.val (.str t)), none, none, none, none] : TL.Env)
    array_get_dec
    refine ⟨t, rfl, by omega, fun l0 l1 l2 er ec => ?_, fun hc => ?_⟩
    · have ec' : readCode (linesOf t) = 0 := by rw [codes_agree]; exact ec
      obtain ⟨m0, m1, m2, e1, e2, _, _, hd, _⟩ := right_text ec
      rw [er] at e1
      cases e1
      have hR : Right t (primeDue l0) (waysOf l1) (wordsOf l2).tail := ⟨l0, l1, l2, e2, ec', rfl, rfl, hd, rfl⟩
      obtain ⟨k, ek, hL, _⟩ := right_land hR
      rw [ek] at hR
      rw [ek]
      have h8 := h8 _ _ _ hR
      array_get_dec
      refine ⟨t, true, rfl, hl, fun p w ns h' => ?_, fun why hw hc => absurd ec' hc⟩
      obtain ⟨rfl, rfl, rfl⟩ := right_one hR h'
      refine ⟨.inr h8, ?_⟩
      array_get_dec
      refine ⟨_, k, _, t, rfl, hL.w1, hL.w3, by omega, ?_⟩
      array_get_dec
      refine ⟨_, look_text, ?_⟩
      array_get_dec
      refine ⟨t, true, rfl, hl, fun p w ns h' => ?_, fun why hw hc => absurd ec' hc⟩
      obtain ⟨rfl, rfl, rfl⟩ := right_one hR h'
      refine ⟨.inr h8, ?_⟩
      array_get_dec
      refine .inl ⟨_, _, _, t, _, _, _, t, rfl, _, rfl, ?_⟩
      rw [decide_eq_true rfl]
      exact hq
    · have hc' : readCode (linesOf t) ≠ 0 := by rw [codes_agree]; exact hc
      have hn : ∀ p w ns, ¬ Right t p w ns := fun p w ns h => hc' (right_code h)
      array_get_dec
      refine ⟨t, true, rfl, hl, fun p w ns h => absurd h (hn p w ns), fun why hw _ => ⟨ex.dp, fun a dd => ?_⟩⟩
      array_get_dec
      refine ⟨rfl, dueCode (tailOf t) (rowsOf t), why, ?_, hw, hq⟩
      rw [codes_agree]
end
end K1
set_option Elab.async false
set_option linter.all false
set_option maxRecDepth 100000
set_option maxHeartbeats 8000000
namespace K1
open PySem L2 PySem.Spec PyProof.Rows TL TLS

def lt1 : List Str := ["rests 4", "rests 101", "rests 1", "rests 0", "rests", "rests 5 5", "rests -5", "rests 05", "fractions 5", "fraction", "Fractions", "rests 97", "rests 91", "rests 2"]
def lt2 : List Str := ["fractions", "", " ", "directions y x", "directions x z", "directions", "names", "directions x y z w", "direction x", "directions x", "directions x y", "directions x  y", "directions x y z", "done"]
def lt3 : List Str := ["names x", "names u u", "names u x1", "names 1a", "names abcdefg", "names a_b", "names u ", "names  u", "names U", "Names u"]
def lineTexts : List Str := lt1 ++ (lt2 ++ lt3)
/-- a row that was bent b times -/
def lenB (b : Nat) : Nat := 50 * 2 ^ b - 10
structure RowOk (b : Nat) (r : Str) : Prop where
  nl : 10 ∉ tl r
  sp : (tl r).count 32 ≤ 4 + 2 * b
  len : r.length ≤ lenB b
structure RowsOk (b : Nat) (rows : List Str) : Prop where
  ne : rows ≠ []
  len : rows.length ≤ 4 + b
  row : ∀ r ∈ rows, RowOk b r
theorem lenB_up (b : Nat) : lenB (b + 1) = 2 * lenB b + 10 := by
  have h : 1 ≤ 2 ^ b := Nat.one_le_two_pow
  unfold lenB
  rw [Nat.pow_succ]
  omega
theorem RowOk.up {b : Nat} {r : Str} (h : RowOk b r) : RowOk (b + 1) r := ⟨h.nl, by have := h.sp; omega, by have := h.len; rw [lenB_up]; omega⟩
theorem line_row (b : Nat) : ∀ s ∈ lineTexts, RowOk (b + 1) s := fun s hs => by
  have h : ∀ s ∈ lineTexts, 10 ∉ tl s ∧ (tl s).count 32 ≤ 4 ∧ s.length ≤ 40 := by decide +kernel
  obtain ⟨h1, h2, h3⟩ := h s hs
  have h4 : ∀ b, 40 ≤ lenB b := fun b => by
    have h : 1 ≤ 2 ^ b := Nat.one_le_two_pow
    unfold lenB
    omega
  exact ⟨h1, by omega, by have := h4 (b + 1); omega⟩
theorem drawN {n : Nat} {Q : D → Prop} {E : XD → Prop} (h0 : 0 < n) (h1 : n < 1073741824) (h : ∀ j : Nat, j < n → Q (.int (j : Int))) : SDraw [.bag, .int (n : Int)] Q E := by
  refine ⟨n, rfl, by omega, by omega, fun d d0 d1 => ?_⟩
  obtain ⟨j, rfl⟩ : ∃ j : Nat, d = (j : Int) := ⟨d.toNat, by omega⟩
  exact h j (by omega)
theorem cutH (xs : List Str) (j : Nat) : TL.cutD (xs.map D.str) none (some (j : Int)) = (xs.take j).map D.str := by rw [cut_hi, List.map_take]
theorem cutL (xs : List Str) (j : Nat) : TL.cutD (xs.map D.str) (some (j : Int)) none = (xs.drop j).map D.str := by rw [cut_lo, List.map_drop]
theorem cutL1 (xs : List Str) (j : Nat) : TL.cutD (xs.map D.str) (some ((j : Int) + 1)) none = (xs.drop (j + 1)).map D.str := cutL xs (j + 1)
theorem cutLk (xs : List Str) (j k : Nat) : TL.cutD (xs.map D.str) (some ((j : Int) + (k : Int))) none = (xs.drop (j + k)).map D.str := by
  have e : (j : Int) + (k : Int) = ((j + k : Nat) : Int) := by omega
  rw [e]
  exact cutL xs (j + k)
theorem e_mapC3 (xs ys : List Str) (x : Str) : xs.map D.str ++ [D.str x] ++ ys.map D.str = (xs ++ [x] ++ ys).map D.str := by simp
theorem e_ixM {xs : List Str} {j : Nat} {R : D → Prop} : (∃ d, atI (xs.map D.str) (j : Int) = some d ∧ R d) = ∃ h : j < xs.length, R (.str xs[j]) := propext ⟨fun ⟨d, h, q⟩ => by
    have hj : j < xs.length := by
      unfold atI ixN at h
      by_cases h0 : (0 : Int) ≤ (j : Int)
      · rw [if_pos h0] at h
        by_cases h1 : (j : Int) < ((xs.map D.str).length : Int)
        · rw [List.length_map] at h1
          omega
        · rw [if_neg h1] at h
          cases h
      · omega
    rw [atN (x := D.str xs[j]) (by simp [hj])] at h
    cases h
    exact ⟨hj, q⟩, fun ⟨hj, q⟩ => ⟨_, atN (by simp [hj]), q⟩⟩
/-- sums over words -/
def sumS (f : Str → Nat) (ws : List Str) : Nat := (ws.map f).sum
theorem sumS_app (f : Str → Nat) (a b : List Str) : sumS f (a ++ b) = sumS f a + sumS f b := by unfold sumS; rw [List.map_append, List.sum_append]
theorem sumS_one (f : Str → Nat) (a : Str) : sumS f [a] = f a := by unfold sumS; simp
theorem sumS_drop (f : Str → Nat) : ∀ (e : Nat) (ws : List Str), sumS f (ws.drop e) ≤ sumS f ws
  | 0, ws => by simp
  | e + 1, [] => by simp
  | e + 1, a :: r => by
    have := sumS_drop f e r
    rw [List.drop_succ_cons]
    unfold sumS at this ⊢
    rw [List.map_cons, List.sum_cons]
    omega
theorem join_count (k : Nat) : ∀ ws : List Str, ws ≠ [] → (tl (Txt.join " " ws)).count k + (if k = 32 then 1 else 0) = sumS (fun w => (tl w).count k) ws + (if k = 32 then ws.length else 0)
  | [], h => absurd rfl h
  | [a], _ => by
    rw [join_one, sumS_one]
    simp
  | a :: b :: r, _ => by
    have ih := join_count k (b :: r) (by simp)
    rw [join_nil2 _ _ _ (by simp), tl_append, tl_append, List.count_append, List.count_append]
    have e : tl (" " : Str) = [32] := by decide +kernel
    have e2 : sumS (fun w => (tl w).count k) (a :: b :: r) = (tl a).count k + sumS (fun w => (tl w).count k) (b :: r) := by unfold sumS; simp
    rw [e, e2]
    simp only [List.count_singleton, List.length_cons] at ih ⊢
    by_cases h : k = 32
    · subst h
      simp at ih ⊢
      omega
    · have h' : ¬ 32 = k := fun z => h z.symm
      simp [h, h'] at ih ⊢
      omega
theorem join_len1 : ∀ ws : List Str, ws ≠ [] → (Txt.join " " ws).length + 1 = sumS (·.length) ws + ws.length
  | [], h => absurd rfl h
  | [a], _ => by
    rw [join_one, sumS_one]
    rfl
  | a :: b :: r, _ => by
    have ih := join_len1 (b :: r) (by simp)
    rw [join_nil2 _ _ _ (by simp), len_app, len_app]
    have e : (" " : Str).length = 1 := rfl
    have e2 : sumS (·.length) (a :: b :: r) = a.length + sumS (·.length) (b :: r) := by unfold sumS; simp
    rw [e2, e]
    simp only [List.length_cons] at ih ⊢
    omega
theorem words_join (r : Str) : Txt.join " " (wordsOf r) = r := by
  rw [show Txt.join " " (wordsOf r) = Str.join " " (wordsOf r) from StrLaws.glued_eq_join ..]
  exact StrLaws.join_split r " "
theorem words_ne (r : Str) : wordsOf r ≠ [] := fun z => by
  have h : 1 ≤ (wordsOf r).length := PyProof.Rows.split_pos r " "
  rw [z] at h
  cases h
theorem words_free (r : Str) : ∀ w ∈ wordsOf r, 32 ∉ tl w := StrLaws.split_free r 32
theorem count_zero {ws : List Str} {k : Nat} (h : ∀ w ∈ ws, k ∉ tl w) : sumS (fun w => (tl w).count k) ws = 0 := by
  unfold sumS
  induction ws with
  | nil => rfl
  | cons a r ih =>
    rw [List.map_cons, List.sum_cons, ih fun w hw => h w (by simp [hw]), List.count_eq_zero.mpr (h a (by simp))]
theorem zero_count {ws : List Str} {k : Nat} (h : sumS (fun w => (tl w).count k) ws = 0) : ∀ w ∈ ws, k ∉ tl w := by
  unfold sumS at h
  induction ws with
  | nil => intro w hw; cases hw
  | cons a r ih =>
    rw [List.map_cons, List.sum_cons] at h
    intro w hw
    rcases List.mem_cons.mp hw with rfl | hw
    · exact List.count_eq_zero.mp (by omega)
    · exact ih (by omega) w hw
def oddTexts : List Str := ["", "x", "y", "u", "names", "5", "Q", "ab c", "longer7", "a-b", "~"]
/-- a word put in a row -/
theorem row_bent {b : Nat} {r odd : Str} {i e : Nat} (hr : RowOk b r) (ho : odd ∈ oddTexts ∨ odd ∈ wordsOf r) : RowOk (b + 1) (Txt.join " " ((wordsOf r).take i ++ [odd] ++ (wordsOf r).drop (i + e))) := by
  have ne : (wordsOf r).take i ++ [odd] ++ (wordsOf r).drop (i + e) ≠ [] := by simp
  have hw := words_ne r
  have hlen := join_len1 _ hw
  have c32 := join_count 32 _ hw
  have c10 := join_count 10 _ hw
  rw [words_join] at hlen c32 c10
  have l2 := join_len1 _ ne
  have d32 := join_count 32 _ ne
  have d10 := join_count 10 _ ne
  have nt : ¬ (10 : Nat) = 32 := by decide
  simp only [if_neg nt] at c10 d10
  simp only [if_true] at c32 d32
  have z10 : (tl r).count 10 = 0 := List.count_eq_zero.mpr hr.nl
  have odd1 : (tl odd).count 10 = 0 ∧ (tl odd).count 32 ≤ 1 ∧ odd.length ≤ lenB b + 7 := by
    rcases ho with h | h
    · have g : ∀ s ∈ oddTexts, (tl s).count 10 = 0 ∧ (tl s).count 32 ≤ 1 ∧ s.length ≤ 7 := by decide +kernel
      obtain ⟨g1, g2, g3⟩ := g odd h
      exact ⟨g1, g2, by omega⟩
    · have g1 := zero_count (ws := wordsOf r) (k := 10) (by omega) odd h
      have g2 := words_free r odd h
      have g3 : odd.length ≤ sumS (·.length) (wordsOf r) := le_sum h
      have g4 := hr.len
      have g5 : 1 ≤ (wordsOf r).length := PyProof.Rows.split_pos r " "
      exact ⟨List.count_eq_zero.mpr g1, by rw [List.count_eq_zero.mpr g2]; omega, by omega⟩
  have part : ∀ f : Str → Nat, sumS f ((wordsOf r).take i ++ [odd] ++ (wordsOf r).drop (i + e)) ≤ sumS f (wordsOf r) + f odd := fun f => by
    have h1 := sumS_drop f e ((wordsOf r).drop i)
    rw [List.drop_drop] at h1
    have h2 : sumS f (wordsOf r) = sumS f ((wordsOf r).take i) + sumS f ((wordsOf r).drop i) := by rw [← sumS_app, List.take_append_drop]
    rw [sumS_app, sumS_app, sumS_one]
    omega
  have pl : ((wordsOf r).take i ++ [odd] ++ (wordsOf r).drop (i + e)).length ≤ (wordsOf r).length + 1 := by
    simp only [List.length_append, List.length_take, List.length_drop, List.length_singleton]
    omega
  have p10 := part fun w => (tl w).count 10
  have p32 := part fun w => (tl w).count 32
  have plen := part (·.length)
  have z32 := count_zero (words_free r)
  have hs := hr.sp
  have hl := hr.len
  refine ⟨List.count_eq_zero.mp ?_, ?_, ?_⟩
  · omega
  · omega
  · rw [lenB_up]
    omega
local macro_rules | `(tactic| array_get_dec) => `(tactic| try simp only [List.length_map, List.length_append, List.length_take, List.length_drop, cutH, cutL, cutL1, cutLk, e_mapC3, ← List.map_append, Int.zero_add, e_ixM, ↓e_xf, ↓e_xxf, ↓e_isX, ↓e_try, ↓e_ownEq, ↓e_ownEqS, ↓e_isiI_list, ↓e_isiI_tuple, ↓e_isiI_bool, ↓e_isiI_str, ↓e_isiI_int, ↓e_isiI_u, ↓e_isiB_list, ↓e_isiB_tuple, ↓e_isiB_bool, ↓e_isiB_str, ↓e_isiB_int, ↓e_isiB_u, ↓e_isiS_list, ↓e_isiS_tuple, ↓e_isiS_bool, ↓e_isiS_str, ↓e_isiS_int, ↓e_isiS_u, ↓e_isiL_list, ↓e_isiL_tuple, ↓e_isiL_bool, ↓e_isiL_str, ↓e_isiL_int, ↓e_isiL_u, ↓e_isiT_list, ↓e_isiT_tuple, ↓e_isiT_bool, ↓e_isiT_str, ↓e_isiT_int, ↓e_isiT_u, e_nonI, e_nonB, e_nonS, e_nonL, e_nonT, e_nonN, e_nonO, ↓e_zipA, ↓e_lc, bne_self_eq_false, decide_true, sl_0, sl_1, sl_2, sl_3, sl_4, sl_5, sl_6, sl_7, sl_8, sl_9, sl_10, sl_11, sl_12, sl_13, sl_14, sl_15, sl_16, Bool.not_true, Bool.not_false, ↓e_var0, ↓e_varS, ↓e_varO0, ↓e_varOS, ↓e_C, ↓e_new, ↓e_nil, ↓e_cons, ↓e_tup, ↓e_lst, ↓e_star, ↓e_star_l, ↓e_star_t, ↓e_op, ↓e_addI, ↓e_addS, ↓e_addL, ↓e_sub, ↓e_mul, ↓e_fdiv, ↓e_mod, ↓e_pow, ↓e_neg, ↓e_cmp, ↓e_eqII, ↓e_eqSS, ↓e_eqBB, ↓e_eqNI, ↓e_eqNS, ↓e_isN, ↓e_inL, ↓e_xI, ↓e_xB, ↓e_xS, ↓e_xL, ↓e_xT, ↓e_xO, ↓e_x2, ↓e_x3, ↓e_xc, ↓e_xsom, ↓e_if, ↓e_ifE, ↓e_and, ↓e_or, ↓e_not, ↓e_andV, ↓e_orV, ↓e_notV, ↓e_BrT, ↓e_BrF, ↓e_BrET, ↓e_BrEF, ↓e_BrAT, ↓e_BrAF, ↓e_BrRT, ↓e_BrRF, ↓e_BrAVT, ↓e_BrAVF, ↓e_BrRVT, ↓e_BrRVF, ↓e_B, ↓e_tru, ↓e_truN, ↓e_truB, ↓e_truI, ↓e_truS, ↓e_truL, ↓e_truT, ↓e_chain, ↓e_bi, ↓e_lenS, ↓e_lenL, ↓e_lenT, ↓e_seq, ↓e_tupOf, ↓e_seqL, ↓e_seqT, ↓e_boolI, ↓e_boolB, ↓e_intI, ↓e_strI, ↓e_min2, ↓e_all, ↓e_ixL, ↓e_ixT, ↓e_ixS, ↓e_at0, ↓e_at1, ↓e_at2, ↓e_noPart, ↓e_part, ↓e_sl, ↓e_slL, ↓e_slS, ↓e_range1, ↓e_zip, ↓e_isCo, ↓e_isCs, ↓e_fld, ↓e_xfld, ↓e_split, ↓e_join, ↓e_fmt, ↓e_fmtS, ↓e_fmtI, ↓e_js0, ↓e_jsS, ↓e_lenSet, ↓e_yName, ↓e_yNil0, ↓e_yCons, ↓e_yTup, ↓e_yLst, ↓e_yStar, ↓e_next, ↓e_zseq, ↓e_ret, ↓e_set, ↓e_setO, ↓e_drop, ↓e_asg, ↓e_par, ↓e_par3, ↓e_for, ↓e_for0, ↓e_fg, ↓e_brk, ↓e_cont, ↓e_call, ↓e_callB, ↓e_raise, ↓e_zfld, ↓e_make, ↓e_makeK, ↓e_meth, ↓e_app0, ↓e_own, e_get0, e_getS, e_set0, e_setS, e_xF, e_xT', e_xins, e_xins1, ↓e_app, e_weak, e_yNil, Bool.not_not, Bool.not_true, Bool.not_false, List.isEmpty_nil, List.isEmpty_cons, true_and, and_true, List.length_cons, List.length_nil, Nat.reduceAdd, Nat.zero_add, ↓at0, ↓at1, ↓at2, List.map_cons, List.map_nil, List.cons_append, List.nil_append, List.replicate, Nat.reduceSub])

section
variable {P : Program} {wd : World} {K : PySem.W.Frag} {mg : Str → Option Value} {base : Heap}
def SLi : SpD := fun ds Q _ => ds = [.bag] ∧ ∀ s ∈ lineTexts, Q (.str s)
abbrev sLi : Stmt := top 41
theorem scLi : FnScope ["bag", "some"] ["bag"] (defScope sLi) := ⟨rfl, rfl, rfl, by decide +kernel, rfl, by decide +kernel, by decide +kernel⟩
theorem cal_Li (Dat : DefAt K mg "_law_line" ["bag"] sLi) (bn : Bn mg) (c__law_of : Cal P wd K mg base "_law_of" ["bag", "things"] 2 SOf) : Cal P wd K mg base "_law_line" ["bag"] 3 SLi := by
  refine cal_of Dat scLi (fun ds Q E h => ?_) (fun f cdv A outer s H E c Ed hr hK tk hp hW => have hu := room_units hr; (zs0 (zs_cons (zS 1 scLi.nd (xd_new (xf_lst (xa_cons xd_str (xa_cons xd_str (xa_cons xd_str (xa_cons xd_str (xa_cons xd_str (xa_cons xd_str (xa_cons xd_str (xa_cons xd_str (xa_cons xd_str (xa_cons xd_str (xa_cons xd_str xa_nil)))))))))))))) (zs_cons (zS 1 scLi.nd (xd_add (xV 1) (xd_new (xf_lst (xa_cons xd_str (xa_cons xd_str (xa_cons xd_str (xa_cons xd_str (xa_cons xd_str (xa_cons xd_str (xa_cons xd_str (xa_cons xd_str (xa_cons xd_str (xa_cons xd_str xa_nil)))))))))))))) (zs_cons (zS 1 scLi.nd (xd_add (xV 1) (xd_new (xf_lst (xa_cons xd_str (xa_cons xd_str (xa_cons xd_str (xa_cons xd_str (xa_cons xd_str (xa_cons xd_str (xa_cons xd_str xa_nil))))))))))) (zs_one (z_ret (xd_weak (xd_cal hK c__law_of hr tk_no hW_no (xa_cons (xV 0) (xa_cons (xd_add (xV 1) (xd_new (xf_lst (xa_cons xd_str (xa_cons xd_str (xa_cons xd_str (xa_cons xd_str (xa_cons xd_str (xa_cons xd_str (xa_cons xd_str (xa_cons xd_str (xa_cons xd_str (xa_cons xd_str xa_nil))))))))))))) xa_nil))))))))))) fun ds Qd Ed h => ?_
  · obtain ⟨rfl, _⟩ := h
    rfl
  · obtain ⟨rfl, hq⟩ := h
    have z := big
    show zSeq _ _ _ ([some (.val .bag), none] : TL.Env)
    array_get_dec
    refine ⟨by omega, by omega, by omega, .inl ⟨lineTexts.map D.str, rfl, by decide, by decide, fun x hx => ?_⟩⟩
    obtain ⟨s, hs, rfl⟩ := List.mem_map.mp hx
    exact hq s hs
def SBe : SpD := fun ds Q _ => ∃ b rows, ds = [.bag, .lst (rows.map D.str)] ∧ b ≤ 1 ∧ RowsOk b rows ∧ ∀ rows', RowsOk (b + 1) rows' → Q (.lst (rows'.map D.str))
abbrev sBe : Stmt := top 42
theorem scBe : FnScope ["bag", "rows", "pick", "spot", "more", "k", "words", "at", "odd"] ["bag", "rows"] (defScope sBe) := ⟨rfl, rfl, rfl, by decide +kernel, rfl, by decide +kernel, by decide +kernel⟩
theorem cal_Be (Dat : DefAt K mg "_law_bent" ["bag", "rows"] sBe) (bn : Bn mg) (c__law_draw : Cal P wd K mg base "_law_draw" ["bag", "size"] 1 SDraw) (c__law_of : Cal P wd K mg base "_law_of" ["bag", "things"] 2 SOf) (c__law_line : Cal P wd K mg base "_law_line" ["bag"] 3 SLi) : Cal P wd K mg base "_law_bent" ["bag", "rows"] 4 SBe := by
  refine cal_of Dat scBe (fun ds Q E h => ?_) (fun f cdv A outer s H E c Ed hr hK tk hp hW => have hu := room_units hr; (zs0 (zs_cons (z_asg (xd_tup (xa_cons (xd_cal hK c__law_draw hr tk_no hW_no (xa_cons (xV 0) (xa_cons xd_int xa_nil))) (xa_cons (xd_cal hK c__law_draw hr tk_no hW_no (xa_cons (xV 0) (xa_cons (xd_len hK bn.len (xa_cons (xV 1) xa_nil)) xa_nil))) (xa_cons (xd_cal hK c__law_draw hr tk_no hW_no (xa_cons (xV 0) (xa_cons (xd_len hK bn.len (xa_cons (xV 1) xa_nil)) xa_nil))) xa_nil)))) (yg_tup (n := 3) hK rfl (ygs_cons (yN 2 scBe.nd) (ygs_cons (yN 3 scBe.nd) (ygs_cons (yN 4 scBe.nd) ygs_nil))))) (zs_cons (z_if (xt_eq (w := true) hK hu (xV 2) xd_int) (zs_one (z_ret (xd_weak (xd_if (xt_gt (w := true) (xd_len hK bn.len (xa_cons (xV 1) xa_nil)) xd_int) (xd_add (xd_slice hK (xV 1) xo_none (xo_some (xV 3))) (xd_slice hK (xV 1) (xo_some (xd_add (xV 3) xd_int)) xo_none)) (xV 1))))) zs_nil) (zs_cons (z_if (xt_eq (w := true) hK hu (xV 2) xd_int) (zs_one (z_ret (xd_weak (xd_add (xd_add (xd_slice hK (xV 1) xo_none (xo_some (xV 3))) (xd_new (xf_lst (xa_cons (xd_ix hK (fun _ _ => rfl) (xV 1) (xV 4)) xa_nil)))) (xd_slice hK (xV 1) (xo_some (xV 3)) xo_none))))) zs_nil) (zs_cons (z_if (xt_eq (w := true) hK hu (xV 2) xd_int) (zs_one (z_ret (xd_weak (xd_new (xf_lc rfl scBe.nd (xi_range1 bn.range (xd_len hK bn.len (xa_cons (xV 1) xa_nil))) (blkOk_by (N := ["bag", "rows", "pick", "spot", "more", "k", "words", "at", "odd"]) (sc := defScope sBe) (own := [("k", 5)]) (by decide +kernel)) (fun _ h => h) (fun _ _ _ _ _ _ => (yN 5 scBe.nd)) (fun _ _ _ _ _ _ => xts_nil) (fun _ _ _ _ _ _ => (xd_if (xt_eq (w := true) hK hu (xV 5) (xV 3)) (xd_ix hK (fun _ _ => rfl) (xV 1) (xV 4)) (xd_if (xt_eq (w := true) hK hu (xV 5) (xV 4)) (xd_ix hK (fun _ _ => rfl) (xV 1) (xV 3)) (xd_ix hK (fun _ _ => rfl) (xV 1) (xV 5)))))))))) zs_nil) (zs_cons (z_if (xt_eq (w := true) hK hu (xV 2) xd_int) (zs_one (z_ret (xd_weak (xd_add (xd_add (xd_slice hK (xV 1) xo_none (xo_some (xV 3))) (xd_new (xf_lst (xa_cons (xd_cal hK c__law_line hr tk_no hW_no (xa_cons (xV 0) xa_nil)) xa_nil)))) (xd_slice hK (xV 1) (xo_some (xd_add (xV 3) (xd_cal hK c__law_draw hr tk_no hW_no (xa_cons (xV 0) (xa_cons xd_int xa_nil))))) xo_none))))) zs_nil) (zs_cons (zS 6 scBe.nd (xd_new (xf_split (xd_ix hK (fun _ _ => rfl) (xV 1) (xV 3)) xd_str))) (zs_cons (zS 7 scBe.nd (xd_cal hK c__law_draw hr tk_no hW_no (xa_cons (xV 0) (xa_cons (xd_add (xd_len hK bn.len (xa_cons (xV 6) xa_nil)) xd_int) xa_nil)))) (zs_cons (zS 8 scBe.nd (xd_cal hK c__law_of hr tk_no hW_no (xa_cons (xV 0) (xa_cons (xd_add (xd_new (xf_lst (xa_cons xd_str (xa_cons xd_str (xa_cons xd_str (xa_cons xd_str (xa_cons xd_str (xa_cons xd_str (xa_cons xd_str (xa_cons xd_str (xa_cons xd_str (xa_cons xd_str (xa_cons xd_str xa_nil))))))))))))) (xV 6)) xa_nil)))) (zs_cons (zS 6 scBe.nd (xd_add (xd_add (xd_slice hK (xV 6) xo_none (xo_some (xV 7))) (xd_new (xf_lst (xa_cons (xV 8) xa_nil)))) (xd_slice hK (xV 6) (xo_some (xd_add (xV 7) (xd_cal hK c__law_draw hr tk_no hW_no (xa_cons (xV 0) (xa_cons xd_int xa_nil))))) xo_none))) (zs_one (z_ret (xd_weak (xd_add (xd_add (xd_slice hK (xV 1) xo_none (xo_some (xV 3))) (xd_new (xf_lst (xa_cons (xd_join hK xd_str (xV 6)) xa_nil)))) (xd_slice hK (xV 1) (xo_some (xd_add (xV 3) xd_int)) xo_none)))))))))))))))) fun ds Qd Ed h => ?_
  · obtain ⟨b, rows, rfl, _⟩ := h
    rfl
  · obtain ⟨b, rows, rfl, hb, hR, hq⟩ := h
    have z := big
    have hrl := hR.len
    have hne : 0 < rows.length := List.length_pos_iff.mpr hR.ne
    have hLb : lenB b ≤ 100 := by
      have h : b = 0 ∨ b = 1 := by omega
      rcases h with rfl | rfl <;> decide
    have mem_up : ∀ l : List Str, (∀ r ∈ l, r ∈ rows) → ∀ r ∈ l, RowOk (b + 1) r := fun l h r hr => (hR.row r (h r hr)).up
    show zSeq _ _ _ ([some (.val .bag), some (.val (.lst (rows.map D.str))), none, none, none, none, none, none, none] : TL.Env)
    array_get_dec
    refine drawN (n := 7) (by decide) (by decide) fun pick hp => ?_
    refine drawN hne (by omega) fun spot hs => ?_
    refine drawN hne (by omega) fun more hm => ?_
    array_get_dec
    refine brI (fun h0 => ?_) fun h0 => ?_
    · array_get_dec
      refine brE (fun h1 => ?_) fun h1 => ?_
      · array_get_dec
        have h1 : (1 : Int) < (rows.length : Int) := of_decide_eq_true h1
        refine ⟨by omega, hq _ ⟨fun z => ?_, by simp; omega, mem_up _ fun r hr => ?_⟩⟩
        · have := congrArg List.length z
          simp only [List.length_append, List.length_take, List.length_drop, List.length_nil] at this
          omega
        · rcases List.mem_append.mp hr with h | h
          · exact List.mem_of_mem_take h
          · exact List.mem_of_mem_drop h
      · array_get_dec
        exact hq _ ⟨hR.ne, by omega, mem_up _ fun r hr => hr⟩
    · array_get_dec
      refine brI (fun h1 => ?_) fun h1 => ?_
      · array_get_dec
        refine ⟨hm, by omega, by omega, hq _ ⟨by simp, by simp; omega, mem_up _ fun r hr => ?_⟩⟩
        rcases List.mem_append.mp hr with h | h
        · rcases List.mem_append.mp h with h | h
          · exact List.mem_of_mem_take h
          · rw [List.mem_singleton.mp h]
            exact List.getElem_mem hm
        · exact List.mem_of_mem_drop h
      · array_get_dec
        refine brI (fun h2 => ?_) fun h2 => ?_
        · array_get_dec
          refine ⟨by omega, by omega, by unfold rangeD; simp; omega, rfl, ?_⟩
          have hge : ∀ i, i < rows.length → rows.getD i "" ∈ rows := fun i hi => by
            rw [List.getD_eq_getElem?_getD, List.getElem?_eq_getElem hi]
            exact List.getElem_mem hi
          have hix : ∀ i (hi : i < rows.length), rows[i] = rows.getD i "" := fun i hi => by
            rw [List.getD_eq_getElem?_getD, List.getElem?_eq_getElem hi]
            rfl
          refine lc_each (inj := fun i : Nat => D.int (0 + (i : Int))) (f := fun i => D.str (if i = spot then rows.getD more "" else if i = more then rows.getD spot "" else rows.getD i "")) (List.range rows.length) [] _ (fun i hi R hR => ?_) ?_
          · have hi : i < rows.length := List.mem_range.mp hi
            array_get_dec
            refine hR _ (fun R' h => h) fun R' h => ?_
            array_get_dec
            by_cases e1 : i = spot
            · have e : decide ((i : Int) = (spot : Int)) = true := decide_eq_true (by omega)
              rw [e]
              array_get_dec
              rw [if_pos e1] at h
              exact ⟨hm, by rw [hix]; exact h⟩
            · have e : decide ((i : Int) = (spot : Int)) = false := decide_eq_false (by omega)
              rw [e]
              array_get_dec
              rw [if_neg e1] at h
              by_cases e2 : i = more
              · have e : decide ((i : Int) = (more : Int)) = true := decide_eq_true (by omega)
                rw [e]
                array_get_dec
                rw [if_pos e2] at h
                exact ⟨hs, by rw [hix]; exact h⟩
              · have e : decide ((i : Int) = (more : Int)) = false := decide_eq_false (by omega)
                rw [e]
                array_get_dec
                rw [if_neg e2] at h
                exact ⟨hi, by rw [hix]; exact h⟩
          · rw [List.nil_append, show (List.range rows.length).map (fun i => D.str (if i = spot then rows.getD more "" else if i = more then rows.getD spot "" else rows.getD i "")) = ((List.range rows.length).map fun i => if i = spot then rows.getD more "" else if i = more then rows.getD spot "" else rows.getD i "").map D.str from by rw [List.map_map]; rfl]
            refine hq _ ⟨fun z => ?_, by simp; omega, mem_up _ fun r hr => ?_⟩
            · have := congrArg List.length z
              simp only [List.length_map, List.length_range, List.length_nil] at this
              omega
            · obtain ⟨i, hi, rfl⟩ := List.mem_map.mp hr
              have hi : i < rows.length := List.mem_range.mp hi
              split
              · exact hge _ hm
              · split
                · exact hge _ hs
                · exact hge _ hi
        · array_get_dec
          refine brI (fun h3 => ?_) fun h3 => ?_
          · array_get_dec
            refine ⟨rfl, fun s hs' => ?_⟩
            array_get_dec
            refine ⟨by omega, drawN (n := 2) (by decide) (by decide) fun e he => ?_⟩
            array_get_dec
            refine ⟨by omega, hq _ ⟨by simp, by simp; omega, fun r hr => ?_⟩⟩
            rcases List.mem_append.mp hr with h | h
            · rcases List.mem_append.mp h with h | h
              · exact (hR.row r (List.mem_of_mem_take h)).up
              · rw [List.mem_singleton.mp h]
                exact line_row b s hs'
            · exact (hR.row r (List.mem_of_mem_drop h)).up
          · array_get_dec
            have hro := hR.row rows[spot] (List.getElem_mem hs)
            have hrl' := hro.len
            have hwl : (Txt.split rows[spot] " ").length ≤ rows[spot].length + 2 := PyProof.Rows.split_le rows[spot] " "
            refine ⟨hs, rfl, by omega, drawN (n := (Txt.split rows[spot] " ").length + 1) (by omega) (by omega) fun at' ha => ⟨by omega, .inl ⟨(oddTexts ++ wordsOf rows[spot]).map D.str, rfl, by simp [oddTexts], by rw [List.length_map, List.length_append]; show 11 + (Txt.split rows[spot] " ").length < _; omega, fun x hx => ?_⟩⟩⟩
            obtain ⟨odd, ho, rfl⟩ := List.mem_map.mp hx
            have ho := List.mem_append.mp ho
            array_get_dec
            refine ⟨by omega, drawN (n := 2) (by decide) (by decide) fun e he => ?_⟩
            array_get_dec
            have hrow := row_bent (i := at') (e := e) hro ho
            refine ⟨by omega, _, .inl rfl, ?_, by omega, by omega, hq _ ⟨by simp, by simp; omega, fun r hr => ?_⟩⟩
            · have hj := join_len1 ((wordsOf rows[spot]).take at' ++ [odd] ++ (wordsOf rows[spot]).drop (at' + e)) (by simp)
              have hl := hrow.len
              rw [lenB_up] at hl
              have e1 : (" " : Str).length = 1 := rfl
              unfold sumS wordsOf at hj
              unfold wordsOf at hl
              rw [e1]
              omega
            · rcases List.mem_append.mp hr with h | h
              · rcases List.mem_append.mp h with h | h
                · exact (hR.row r (List.mem_of_mem_take h)).up
                · rw [List.mem_singleton.mp h]
                  exact hrow
              · exact (hR.row r (List.mem_of_mem_drop h)).up
end
end K1
set_option Elab.async false
set_option linter.all false
set_option maxRecDepth 100000
set_option maxHeartbeats 8000000
namespace K1
open PySem L2 PySem.Spec PyProof.Rows TL TLS
local macro_rules | `(tactic| array_get_dec) => `(tactic| try simp only [↓e_nol, ↓e_vA0, ↓e_vAo, ↓e_vAS, ↓e_methB, ↓e_zitem, List.length_map, List.length_append, List.length_take, List.length_drop, cutH, cutL, cutL1, cutLk, e_mapC3, ← List.map_append, Int.zero_add, e_ixM, ↓e_xf, ↓e_xxf, ↓e_isX, ↓e_try, ↓e_ownEq, ↓e_ownEqS, ↓e_isiI_list, ↓e_isiI_tuple, ↓e_isiI_bool, ↓e_isiI_str, ↓e_isiI_int, ↓e_isiI_u, ↓e_isiB_list, ↓e_isiB_tuple, ↓e_isiB_bool, ↓e_isiB_str, ↓e_isiB_int, ↓e_isiB_u, ↓e_isiS_list, ↓e_isiS_tuple, ↓e_isiS_bool, ↓e_isiS_str, ↓e_isiS_int, ↓e_isiS_u, ↓e_isiL_list, ↓e_isiL_tuple, ↓e_isiL_bool, ↓e_isiL_str, ↓e_isiL_int, ↓e_isiL_u, ↓e_isiT_list, ↓e_isiT_tuple, ↓e_isiT_bool, ↓e_isiT_str, ↓e_isiT_int, ↓e_isiT_u, e_nonI, e_nonB, e_nonS, e_nonL, e_nonT, e_nonN, e_nonO, ↓e_zipA, ↓e_lc, bne_self_eq_false, decide_true, sl_0, sl_1, sl_2, sl_3, sl_4, sl_5, sl_6, sl_7, sl_8, sl_9, sl_10, sl_11, sl_12, sl_13, sl_14, sl_15, sl_16, Bool.not_true, Bool.not_false, ↓e_var0, ↓e_varS, ↓e_varO0, ↓e_varOS, ↓e_C, ↓e_new, ↓e_nil, ↓e_cons, ↓e_tup, ↓e_lst, ↓e_star, ↓e_star_l, ↓e_star_t, ↓e_op, ↓e_addI, ↓e_addS, ↓e_addL, ↓e_sub, ↓e_mul, ↓e_fdiv, ↓e_mod, ↓e_pow, ↓e_neg, ↓e_cmp, ↓e_eqII, ↓e_eqSS, ↓e_eqBB, ↓e_eqNI, ↓e_eqNS, ↓e_isN, ↓e_inL, ↓e_xI, ↓e_xB, ↓e_xS, ↓e_xL, ↓e_xT, ↓e_xO, ↓e_x2, ↓e_x3, ↓e_xc, ↓e_xsom, ↓e_if, ↓e_ifE, ↓e_and, ↓e_or, ↓e_not, ↓e_andV, ↓e_orV, ↓e_notV, ↓e_BrT, ↓e_BrF, ↓e_BrET, ↓e_BrEF, ↓e_BrAT, ↓e_BrAF, ↓e_BrRT, ↓e_BrRF, ↓e_BrAVT, ↓e_BrAVF, ↓e_BrRVT, ↓e_BrRVF, ↓e_B, ↓e_tru, ↓e_truN, ↓e_truB, ↓e_truI, ↓e_truS, ↓e_truL, ↓e_truT, ↓e_chain, ↓e_bi, ↓e_lenS, ↓e_lenL, ↓e_lenT, ↓e_seq, ↓e_tupOf, ↓e_seqL, ↓e_seqT, ↓e_boolI, ↓e_boolB, ↓e_intI, ↓e_strI, ↓e_min2, ↓e_all, ↓e_ixL, ↓e_ixT, ↓e_ixS, ↓e_at0, ↓e_at1, ↓e_at2, ↓e_noPart, ↓e_part, ↓e_sl, ↓e_slL, ↓e_slS, ↓e_range1, ↓e_zip, ↓e_isCo, ↓e_isCs, ↓e_fld, ↓e_xfld, ↓e_split, ↓e_join, ↓e_fmt, ↓e_fmtS, ↓e_fmtI, ↓e_js0, ↓e_jsS, ↓e_lenSet, ↓e_yName, ↓e_yNil0, ↓e_yCons, ↓e_yTup, ↓e_yLst, ↓e_yStar, ↓e_next, ↓e_zseq, ↓e_ret, ↓e_set, ↓e_setO, ↓e_drop, ↓e_asg, ↓e_par, ↓e_par3, ↓e_for, ↓e_for0, ↓e_fg, ↓e_brk, ↓e_cont, ↓e_call, ↓e_callB, ↓e_raise, ↓e_zfld, ↓e_make, ↓e_makeK, ↓e_meth, ↓e_app0, ↓e_own, e_get0, e_getS, e_set0, e_setS, e_xF, e_xT', e_xins, e_xins1, ↓e_app, e_weak, e_yNil, Bool.not_not, Bool.not_true, Bool.not_false, List.isEmpty_nil, List.isEmpty_cons, true_and, and_true, List.length_cons, List.length_nil, Nat.reduceAdd, Nat.zero_add, ↓at0, ↓at1, ↓at2, List.map_cons, List.map_nil, List.cons_append, List.nil_append, List.replicate, Nat.reduceSub])

theorem xt_gEq {X : Cx} {c : Ct} {w : Bool} {T T2 : TED} {a b : Expr} {pos : Pos} {k : Nat} {C : Addr} (hK : c.K = X.K) (M : EqAt X.prog X.w X.K X.mg X.base C) (hr : Room k X.A) (ha : PE X a (LE c w T)) (hb : PE X b (LE c w T2)) (h1 : 1 ≤ k := by decide) : PT X (.Compare a [.Eq] [b] pos) (LT c (xB (xOp (dOwnEq C (SEq C)) T T2))) := by
  obtain ⟨f, fd, F, fi, fn, bb, nf⟩ := M
  exact xt_ownEq (by rw [hK]; exact F) (hr.mono h1) fi fn bb nf ha hb
theorem ofI {is : List Int} {Q : D → Prop} {E : XD → Prop} (h0 : 0 < is.length) (h1 : is.length < 1073741824) (h : ∀ i ∈ is, Q (.int i)) : SOf [.bag, .lst (is.map D.int)] Q E :=
  .inl ⟨_, rfl, by rw [List.length_map]; exact h0, by rw [List.length_map]; exact h1, fun x hx => by
    obtain ⟨i, hi, rfl⟩ := List.mem_map.mp hx
    exact h i hi⟩
theorem ofS {is : List Str} {Q : D → Prop} {E : XD → Prop} (h0 : 0 < is.length) (h1 : is.length < 1073741824) (h : ∀ i ∈ is, Q (.str i)) : SOf [.bag, .lst (is.map D.str)] Q E :=
  .inl ⟨_, rfl, by rw [List.length_map]; exact h0, by rw [List.length_map]; exact h1, fun x hx => by
    obtain ⟨i, hi, rfl⟩ := List.mem_map.mp hx
    exact h i hi⟩
theorem name_ok {m : Str} (h : isName m = true) : m.length < 50 ∧ PyData.strOk m = true := by
  refine ⟨by have := name_len h; omega, ?_⟩
  unfold PyData.strOk
  have g : ∀ k ∈ SGN.cps.toList, k < 0x110000 := by decide +kernel
  rw [← Array.all_toList]
  exact List.all_eq_true.mpr fun k hk => decide_eq_true (g k (name_sign h k hk))
theorem gr_nol (C : Addr) (p w : Int) (ns : List Str) (t : Str) : (grD C p w ns t).nol = true := by
  show (true && (true && (D.nols ((waysL w).map D.str) && (D.nols (ns.map D.str) && (true && true))))) = true
  rw [nols_strs, nols_strs]
  rfl
def oddNames : List Str := ["", "x", "y", "z", "U", "7a", "longer7", "a b", "a_", "u
"]
theorem odd_ok : ∀ x ∈ oddNames, x.length < 50 ∧ PyData.strOk x = true := by decide +kernel
section
variable {P : Program} {wd : World} {K : PySem.W.Frag} {mg : Str → Option Value} {base : Heap} {CT CB CD C : Addr}
def SNl : SpD := fun ds Q _ => ∃ (p : Int) (w : Nat) (ns : List Str), ds = [.bag, landD p w ns] ∧ ns.length ≤ 5 ∧ (∀ x ∈ ns, isName x = true) ∧ ∀ ws : List Str, ws.length ≤ 5 → (∀ x ∈ ws, x.length < 50 ∧ PyData.strOk x = true) → Q (.lst (ws.map D.str))
abbrev sNl : Stmt := top 46
theorem scNl : FnScope ["bag", "land", "words", "k", "odd", "spot"] ["bag", "land"] (defScope sNl) := ⟨rfl, rfl, rfl, by decide +kernel, rfl, by decide +kernel, by decide +kernel⟩
theorem cal_Nl (Dat : DefAt K mg "_law_names_list" ["bag", "land"] sNl) (bn : Bn mg) (c__law_draw : Cal P wd K mg base "_law_draw" ["bag", "size"] 1 SDraw) (c__law_of : Cal P wd K mg base "_law_of" ["bag", "things"] 2 SOf) (c__law_name : Cal P wd K mg base "_law_name" ["bag", "taken"] 3 SName) : Cal P wd K mg base "_law_names_list" ["bag", "land"] 4 SNl := by
  refine cal_of Dat scNl (fun ds Q E h => ?_) (fun f cdv A outer s H E c Ed hr hK tk hp hW => have hu := room_units hr; (zs0 (zs_cons (zO 2 scNl.nd (xf_lst xa_nil)) (zs_cons (z_for hp rfl (xi_range1 bn.range (xd_cal hK c__law_of hr tk_no hW_no (xa_cons (xV 0) (xa_cons (xd_new (xf_lst (xa_cons xd_int (xa_cons xd_int (xa_cons xd_int (xa_cons xd_int (xa_cons xd_int (xa_cons xd_int xa_nil)))))))) xa_nil)))) (yN 3 scNl.nd) (zs_one (z_app (pv 2) (xd_flat (xd_calB hK c__law_name hr tk_no hW_no (xa_cons (xV 0) (xa_cons (xO 2) xa_nil)))) hK))) (zs_cons (zS 4 scNl.nd (xd_flat (xd_calB hK c__law_of hr tk_no hW_no (xa_cons (xV 0) (xa_cons (xd_add (xd_add (xd_new (xf_lst (xa_cons xd_str (xa_cons xd_str (xa_cons xd_str (xa_cons xd_str (xa_cons xd_str (xa_cons xd_str (xa_cons xd_str (xa_cons xd_str (xa_cons xd_str (xa_cons xd_str xa_nil)))))))))))) (xO 2)) (xd_new (xf_list hK bn.list (xa_cons (xd_ix hK (fun _ _ => rfl) (xV 1) xd_int) xa_nil)))) xa_nil))))) (zs_cons (zS 5 scNl.nd (xd_flat (xd_calB hK c__law_draw hr tk_no hW_no (xa_cons (xV 0) (xa_cons (xd_add (xd_len hK bn.len (xa_cons (xO 2) xa_nil)) xd_int) xa_nil))))) (zs_one (z_ret (xd_if (xt_eq (w := true) hK hu (xd_weak (xd_cal hK c__law_draw hr tk_no hW_no (xa_cons (xV 0) (xa_cons xd_int xa_nil)))) xd_int) (xO 2) (xd_add (xd_add (xd_slice hK (xO 2) xo_none (xo_some (xV 5))) (xd_new (xf_lst (xa_cons (xV 4) xa_nil)))) (xd_slice hK (xO 2) (xo_some (xV 5)) xo_none))))))))))) fun ds Qd Ed h => ?_
  · obtain ⟨p, w, ns, rfl, _⟩ := h
    rfl
  · obtain ⟨p, w, ns, rfl, hn, hns, hq⟩ := h
    have z := big
    show zSeq _ _ _ ([some (.val .bag), some (.val (landD p w ns)), none, none, none, none] : TL.Env)
    unfold landD
    array_get_dec
    refine ofI (is := [1, 2, 3, 1, 4, 0]) (by decide) (by decide) fun i hi => ?_
    have hi4 : 0 ≤ i ∧ i ≤ 4 := by
      have g : ∀ i ∈ ([1, 2, 3, 1, 4, 0] : List Int), 0 ≤ i ∧ i ≤ 4 := by decide
      exact g i hi
    array_get_dec
    refine ⟨by omega, by omega, ?_⟩
    have hrl : (rangeD 0 i.toNat).length = i.toNat := by unfold rangeD; simp
    refine for_inv _ (fun n γ' => ∃ (ws : List Str) (s : Option Slot), γ' = [some (.val .bag), some (.val (.tup [.int p, .int w, .lst (ns.map D.str)])), some (.own (ws.map D.str)), s, none, none] ∧ ws.length = n ∧ ∀ x ∈ ws, isName x = true) _ ⟨[], none, rfl, rfl, by simp⟩ (fun n d γ' hd ⟨ws, s, e, hl, hw⟩ N hN => ?_) fun γ' ⟨ws, s, e, hl, hw⟩ => ?_
    · subst e
      have hn4 : n < i.toNat := by rw [← hrl]; exact (List.getElem?_eq_some_iff.mp hd).1
      array_get_dec
      refine ⟨ws, rfl, by omega, fun m hm hn' => ⟨rfl, by omega, hN _ ⟨ws ++ [m], _, by rw [List.map_append]; rfl, by simp [hl], fun x hx => ?_⟩⟩⟩
      rcases List.mem_append.mp hx with h | h
      · exact hw x h
      · rw [List.mem_singleton.mp h]
        exact hm
    · subst e
      rw [hrl] at hl
      array_get_dec
      have hall : ∀ x ∈ oddNames ++ (ws ++ ns), x.length < 50 ∧ PyData.strOk x = true := fun x hx => by
        rcases List.mem_append.mp hx with h | h
        · exact odd_ok x h
        · rcases List.mem_append.mp h with h | h
          · exact name_ok (hw x h)
          · exact name_ok (hns x h)
      refine ⟨by omega, by omega, ofS (is := oddNames ++ (ws ++ ns)) (by simp [oddNames]) (by rw [List.length_append, List.length_append]; show 10 + _ < _; omega) fun odd ho => ⟨rfl, drawN (n := ws.length + 1) (by omega) (by omega) fun at' ha => ⟨rfl, drawN (n := 2) (by decide) (by decide) fun d hd => ?_⟩⟩⟩
      have hwl : ∀ x ∈ ws, x.length < 50 ∧ PyData.strOk x = true := fun x hx => name_ok (hw x hx)
      array_get_dec
      refine brE (fun h => ?_) fun h => ?_
      · array_get_dec
        exact hq ws (by omega) hwl
      · array_get_dec
        refine ⟨by omega, by omega, hq _ ?_ fun x hx => ?_⟩
        · simp
          omega
        · rcases List.mem_append.mp hx with h | h
          · rcases List.mem_append.mp h with h | h
            · exact hwl x (List.mem_of_mem_take h)
            · rw [List.mem_singleton.mp h]
              exact hall odd ho
          · exact hwl x (List.mem_of_mem_drop h)
def SOt : SpD := fun ds Q _ => ∃ (p : Int) (w : Nat) (ns : List Str), ds = [.bag, landD p w ns] ∧ LandN p w ns ∧ ns.length ≤ 4 ∧ ∀ (p' : Int) (w' : Nat) (ns' : List Str), LandN p' w' ns' → ns'.length ≤ 5 → ¬ (p' = p ∧ w' = w ∧ ns' = ns) → Q (landD p' w' ns')
abbrev sOt : Stmt := top 48
theorem scOt : FnScope ["bag", "land", "pick", "labels", "prime"] ["bag", "land"] (defScope sOt) := ⟨rfl, rfl, rfl, by decide +kernel, rfl, by decide +kernel, by decide +kernel⟩
theorem cal_Ot (Dat : DefAt K mg "_law_other" ["bag", "land"] sOt) (bn : Bn mg) (c__law_draw : Cal P wd K mg base "_law_draw" ["bag", "size"] 1 SDraw) (c__law_of : Cal P wd K mg base "_law_of" ["bag", "things"] 2 SOf) (c__law_name : Cal P wd K mg base "_law_name" ["bag", "taken"] 3 SName) : Cal P wd K mg base "_law_other" ["bag", "land"] 4 SOt := by
  refine cal_of Dat scOt (fun ds Q E h => ?_) (fun f cdv A outer s H E c Ed hr hK tk hp hW => have hu := room_units hr; (zs0 (zs_cons (z_par (i := 2) (j := 3) rfl scOt.nd rfl rfl (by decide) rfl rfl (xa_cons (xd_cal hK c__law_draw hr tk_no hW_no (xa_cons (xV 0) (xa_cons xd_int xa_nil))) (xa_cons (xd_new (xf_list hK bn.list (xa_cons (xd_ix hK (fun _ _ => rfl) (xV 1) xd_int) xa_nil))) xa_nil))) (zs_cons (z_if (xt_eq (w := true) hK hu (xV 2) xd_int) (zs_cons (zS 4 scOt.nd (xd_cal hK c__law_of hr tk_no hW_no (xa_cons (xV 0) (xa_cons (xd_new (xf_lst (xa_cons xd_int (xa_cons xd_int (xa_cons xd_int (xa_cons xd_int (xa_cons xd_int (xa_cons xd_int xa_nil)))))))) xa_nil)))) (zs_one (z_ret (xd_weak (xd_tup (xa_cons (xd_if (xt_ne (w := true) hK hu (xV 4) (xd_ix hK (fun _ _ => rfl) (xV 1) xd_int)) (xV 4) xd_int) (xa_cons (xd_ix hK (fun _ _ => rfl) (xV 1) xd_int) (xa_cons (xV 3) xa_nil)))))))) zs_nil) (zs_cons (z_if (xt_eq (w := true) hK hu (xV 2) xd_int) (zs_one (z_ret (xd_weak (xd_tup (xa_cons (xd_ix hK (fun _ _ => rfl) (xV 1) xd_int) (xa_cons (xd_add xd_int (xd_mod (xd_intOf bn.int (xa_cons (xd_add (xd_ix hK (fun _ _ => rfl) (xV 1) xd_int) (xd_cal hK c__law_draw hr tk_no hW_no (xa_cons (xV 0) (xa_cons xd_int xa_nil)))) xa_nil)) xd_int)) (xa_cons (xV 3) xa_nil))))))) zs_nil) (zs_cons (z_if (xt_w (xw_and (xt_eq (w := true) hK hu (xV 2) xd_int) (xw_and1 (xt_gt (w := true) (xd_len hK bn.len (xa_cons (xV 3) xa_nil)) xd_int)))) (zs_one (z_ret (xd_weak (xd_tup (xa_cons (xd_ix hK (fun _ _ => rfl) (xV 1) xd_int) (xa_cons (xd_ix hK (fun _ _ => rfl) (xV 1) xd_int) (xa_cons (xd_add (xd_slice hK (xV 3) (xo_some xd_int) xo_none) (xd_slice hK (xV 3) xo_none (xo_some xd_int))) xa_nil))))))) zs_nil) (zs_one (z_ret (xd_weak (xd_tup (xa_cons (xd_ix hK (fun _ _ => rfl) (xV 1) xd_int) (xa_cons (xd_ix hK (fun _ _ => rfl) (xV 1) xd_int) (xa_cons (xd_add (xV 3) (xd_new (xf_lst (xa_cons (xd_cal hK c__law_name hr tk_no hW_no (xa_cons (xV 0) (xa_cons (xV 3) xa_nil))) xa_nil)))) xa_nil))))))))))))) fun ds Qd Ed h => ?_
  · obtain ⟨p, w, ns, rfl, _⟩ := h
    rfl
  · obtain ⟨p, w, ns, rfl, hL, hn, hq⟩ := h
    have z := big
    show zSeq _ _ _ ([some (.val .bag), some (.val (landD p w ns)), none, none, none] : TL.Env)
    unfold landD
    array_get_dec
    have p0 : p ∈ Pr := hL.p
    have last : SName [D.bag, D.lst (List.map D.str ns)] (fun d => ns.length + 1 ≤ sizeLine ∧ Qd (D.tup [D.int p, D.int (w : Int), D.lst (List.map D.str ns ++ [d])])) fun x => False := by
      refine ⟨ns, rfl, by omega, fun m hm hn' => ⟨by omega, ?_⟩⟩
      rw [show List.map D.str ns ++ [D.str m] = (ns ++ [m]).map D.str by rw [List.map_append]; rfl]
      refine hq p w _ ⟨hL.p, hL.w1, hL.w3, by simp, ?_, fun x hx => ?_⟩ (by simp; omega) fun h => ?_
      · refine List.nodup_append.mpr ⟨hL.nd, by simp, fun x hx y hy e => ?_⟩
        rw [List.mem_singleton.mp hy] at e
        exact hn' (e ▸ hx)
      · rcases List.mem_append.mp hx with h | h
        · exact hL.nm x h
        · rw [List.mem_singleton.mp h]
          exact hm
      · have := congrArg List.length h.2.2
        simp at this
    refine drawN (n := 4) (by decide) (by decide) fun pick hp => ?_
    array_get_dec
    refine brI (fun h0 => ?_) fun h0 => ?_
    · array_get_dec
      refine ofI (is := [0, 2, 3, 5, 7, 97]) (by decide) (by decide) fun i hi => ?_
      have g : ∀ i ∈ ([0, 2, 3, 5, 7, 97] : List Int), i ∈ Pr ∧ i ≠ 11 := by decide
      obtain ⟨g1, g2⟩ := g i hi
      array_get_dec
      refine brE (fun h1 => ?_) fun h1 => ?_
      · array_get_dec
        exact hq i w ns ⟨g1, hL.w1, hL.w3, hL.n1, hL.nd, hL.nm⟩ (by omega) fun h => by
          rw [h.1] at h1
          simp at h1
      · array_get_dec
        have h1 : i = p := by simpa using h1
        exact hq 11 w ns ⟨by decide, hL.w1, hL.w3, hL.n1, hL.nd, hL.nm⟩ (by omega) fun h => g2 (by rw [h1, ← h.1])
    · array_get_dec
      refine brI (fun h1 => ?_) fun h1 => ?_
      · array_get_dec
        refine drawN (n := 2) (by decide) (by decide) fun d hd => ?_
        array_get_dec
        have e : (1 : Int) + ((w : Int) + (d : Int)) % 3 = ((1 + (w + d) % 3 : Nat) : Int) := by omega
        rw [e]
        have := hL.w1
        have := hL.w3
        refine ⟨by omega, hq p (1 + (w + d) % 3) ns ⟨hL.p, by omega, by omega, hL.n1, hL.nd, hL.nm⟩ (by omega) fun h => ?_⟩
        omega
      · array_get_dec
        refine brA (fun h2 => ?_) fun h2 => ?_
        · array_get_dec
          refine brI (fun h3 => ?_) fun h3 => ?_
          · array_get_dec
            have h3 : (1 : Int) < (ns.length : Int) := of_decide_eq_true h3
            rw [show TL.cutD (ns.map D.str) (some 1) none = (ns.drop 1).map D.str from cutL ns 1, show TL.cutD (ns.map D.str) none (some 1) = (ns.take 1).map D.str from cutH ns 1]
            rw [← List.map_append, List.length_map, List.length_map, List.length_drop, List.length_take]
            have hmem : ∀ x ∈ ns.drop 1 ++ ns.take 1, x ∈ ns := fun x hx => by
              rcases List.mem_append.mp hx with h | h
              · exact List.mem_of_mem_drop h
              · exact List.mem_of_mem_take h
            have hperm : (ns.drop 1 ++ ns.take 1).Nodup := by
              have h := hL.nd
              rw [← List.take_append_drop 1 ns] at h
              obtain ⟨a, b, c⟩ := List.nodup_append.mp h
              exact List.nodup_append.mpr ⟨b, a, fun x hx y hy e => c y hy x hx e.symm⟩
            refine ⟨by omega, hq p w _ ⟨hL.p, hL.w1, hL.w3, by rw [List.length_append, List.length_drop, List.length_take]; omega, hperm, fun x hx => hL.nm x (hmem x hx)⟩ (by rw [List.length_append, List.length_drop, List.length_take]; omega) fun h => ?_⟩
            have h4 := h.2.2
            have hnd := hL.nd
            match ns, h3, h4, hnd with
            | a :: b :: r, _, h4, hnd =>
              have h5 : b = a := by
                have := congrArg List.head? h4
                simpa using this
              rw [h5] at hnd
              simp at hnd
            | [a], h3, _, _ => simp at h3
            | [], h3, _, _ => simp at h3
          · array_get_dec
            exact last
        · array_get_dec
          exact last
def SWs (C : Addr) : SpD := fun ds Q _ => ∃ (p : Int) (w : Nat) (ns : List Str), ds = [.bag, grD C p w ns (groundText p w ns), landD p w ns] ∧ LandN p w ns ∧ ns.length ≤ 4 ∧ Q (.bl true)
abbrev sWs : Stmt := top 47
theorem scWs : FnScope ["bag", "gr", "land", "words", "passed", "right", "told", "e", "due", "same"] ["bag", "gr", "land"] (defScope sWs) := ⟨rfl, rfl, rfl, by decide +kernel, rfl, by decide +kernel, by decide +kernel⟩
theorem cal_Ws (Dat : DefAt K mg "_law_with_so" ["bag", "gr", "land"] sWs) (bn : Bn mg) (gr : GrC K mg C) (ex : ExD K mg CB CD) (c_gEq : EqAt P wd K mg base C) (gm_with_names : MethAt P wd K mg base C "with_names" ["self", "names"] 7 (SWn CB C)) (c__law_draw : Cal P wd K mg base "_law_draw" ["bag", "size"] 1 SDraw)
    (c__law_names_list : Cal P wd K mg base "_law_names_list" ["bag", "land"] 4 SNl) (c__law_names_so : Cal P wd K mg base "_law_names_so" ["words"] 2 SNamesSo) (c__law_error_so : CalX P wd K mg base "_law_error_so" ["e", "place"] 3 (SEr CB)) (c__law_told_so : Cal P wd K mg base "_law_told_so" ["gr", "land", "due"] 4 (STs C))
    (c__law_ground_text : Cal P wd K mg base "_law_ground_text" ["land"] 2 SGt) : Cal P wd K mg base "_law_with_so" ["bag", "gr", "land"] 8 (SWs C) := by
  refine cal_of Dat scWs (fun ds Q E h => ?_) (fun f cdv A outer s H E c Ed hr hK tk hp hW => have hu := room_units hr; (zs_cons0 (z0 (zS 3 scWs.nd (xd_cal hK c__law_names_list hr tk_no hW_no (xa_cons (xV 0) (xa_cons (xV 2) xa_nil))))) (zs_cons0 (z0 (z_setIf (i := 4) scWs.nd (xt_gt (w := true) (xd_cal hK c__law_draw hr tk_no hW_no (xa_cons (xV 0) (xa_cons xd_int xa_nil))) xd_int) (xf_list hK bn.list (xa_cons (xV 3) xa_nil)) (xd_tuple hK bn.tuple (xa_cons (xV 3) xa_nil)))) (zs_cons0 (z0 (zS 5 scWs.nd (xd_cal hK c__law_names_so hr tk_no hW_no (xa_cons (xV 3) xa_nil)))) (zs_cons0 (z_tryAsK (K0 := K) (x := "DeepError") (n := "e") hK scWs.nd (i := 7) (by rfl) (by exact ⟨rfl, by decide, .inl ex.deep⟩) tk (fun W Wx pn xe tk hp hW => (zs0 (zs_one (zS 6 scWs.nd (xd_nol (xd_methMB hK (xV 1) gr.cl gm_with_names hr tk hW (xa_cons (xA 4) xa_nil))))))) (fun a oe C dd pn hz hf => (zs0 (zs_one (z_ret (xd_and (xd_not (xV 5)) (xd_and (xd_weak (xd_calX hK c__law_error_so (roomH hr) (hot_of rfl hz hf) ⟨rfl, hz, hf⟩ (List.mem_cons_self ..) tk_no hW_no (xa_cons (xV 7) (xa_cons xd_int xa_nil)))) (xd_one (xd_eq hK hu (xd_new (xf_list hK bn.list (xa_cons (xA 4) xa_nil))) (xV 3)))))))))) (zs_cons0 (z0 (z_if (xt_w (xw_or (xt_not (xt_tru (w := true) hK (xV 5))) (xw_or1 (xt_ne (w := false) hK hu (xd_new (xf_list hK bn.list (xa_cons (xA 4) xa_nil))) (xV 3))))) (zs_one (z_ret (xd_weak xd_bl))) zs_nil)) (zs_cons0 (z0 (zS 8 scWs.nd (xd_tup (xa_cons (xd_ix hK (fun _ _ => rfl) (xV 2) xd_int) (xa_cons (xd_ix hK (fun _ _ => rfl) (xV 2) xd_int) (xa_cons (xV 3) xa_nil)))))) (zs_cons0 (z0 (z_if (xt_val (w := false) (xd_isi hK bn.isi (xa_cons (xA 4) (xa_cons (xd_tyn (n := "list") bn.list (by decide +kernel)) xa_nil)))) (zs_cons (z_app (pv 4) xd_str hK) (zs_one (z_item (pv 4) xd_int xd_str))) zs_nil)) (zs_cons0 (z0 (z_if (xt_w (xw_or (xt_not (xt_val (w := true) (xd_cal hK c__law_told_so hr tk_no hW_no (xa_cons (xV 6) (xa_cons (xV 8) (xa_cons (xd_cal hK c__law_ground_text hr tk_no hW_no (xa_cons (xV 8) xa_nil)) xa_nil)))))) (xw_or1 (xt_not (xt_val (w := true) (xd_cal hK c__law_told_so hr tk_no hW_no (xa_cons (xV 1) (xa_cons (xV 2) (xa_cons (xd_cal hK c__law_ground_text hr tk_no hW_no (xa_cons (xV 2) xa_nil)) xa_nil))))))))) (zs_one (z_ret (xd_weak xd_bl))) zs_nil)) (zs_cons0 (z0 (zS 9 scWs.nd (xd_eq hK hu (xV 3) (xd_new (xf_list hK bn.list (xa_cons (xd_ix hK (fun _ _ => rfl) (xV 2) xd_int) xa_nil)))))) (zs_one0 (z0 (z_ret (xd_weak (xd_and (xd_eq hK hu (xd_bool bn.bool (xa_cons (xd_gEq hK c_gEq hr (xV 6) (xV 1)) xa_nil)) (xV 9)) (xd_and (xd_eq hK hu (xd_bool bn.bool (xa_cons (xd_gEq hK c_gEq hr (xV 1) (xV 6)) xa_nil)) (xV 9)) (xd_one (xd_gEq hK c_gEq hr (xd_methM hK (xV 6) gr.cl gm_with_names hr tk hW (xa_cons (xd_ix hK (fun _ _ => rfl) (xV 2) xd_int) xa_nil)) (xV 1))))))))))))))))))) fun ds Qd Ed h => ?_
  · obtain ⟨p, w, ns, rfl, _⟩ := h
    rfl
  · obtain ⟨p, w, ns, rfl, hL, hn, hq⟩ := h
    have z := big
    show zSeq _ _ _ ([some (.val .bag), some (.val (grD C p w ns (groundText p w ns))), some (.val (landD p w ns)), none, none, none, none, none, none, none] : TL.Env)
    have hokn : ∀ x ∈ ns, PyData.strOk x = true := fun x hx => (name_ok (hL.nm x hx)).2
    have hln : ∀ (us : List Str), LandN p w us → us.length ≤ 5 → (groundText p w us).length < 2990 := fun us hu h5 => by
      have hj := join_le " " us
      rw [show (" " : Str).length = 1 from rfl] at hj
      have h6 := sum_le6 (ns := us) fun x hx => name_len (hu.nm x hx)
      have hkl := kt_len p hL.p
      obtain ⟨ys, _, _, _, h5'⟩ := ways_cut w hL.w1 hL.w3
      have e1 : ("
directions " : Str).length = 12 := rfl
      have e2 : ("
names " : Str).length = 7 := rfl
      have e3 : ("
" : Str).length = 1 := rfl
      unfold groundText
      simp only [len_app]
      omega
    unfold grD
    array_get_dec
    refine ⟨p, w, ns, rfl, by omega, hL.nm, fun ws hwl hws => ?_⟩
    have hokw : ∀ x ∈ ws, PyData.strOk x = true := fun x hx => (hws x hx).2
    array_get_dec
    refine drawN (n := 3) (by decide) (by decide) fun d hd => ?_
    array_get_dec
    refine brI (fun h0 => ?_) fun h0 => ?_
    all_goals
      unfold landD
      array_get_dec
      refine ⟨ws, rfl, by omega, fun x hx => by have := (hws x hx).1; omega, ?_⟩
      cases hb : namesOk ws with
      | false =>
        array_get_dec
        refine ⟨rfl, ?_⟩
        first
          | refine ⟨p, w, ns, _, _, ws, rfl, land_right hL, hln ns hL (by omega), .inl rfl, by omega, fun x hx => (hws x hx).1, fun h => by (rw [hb] at h; cases h), fun _ why hw => ⟨⟨ex.dp, fun a dd => ?_⟩, rfl⟩⟩
          | refine ⟨p, w, ns, _, _, ws, rfl, land_right hL, hln ns hL (by omega), .inr rfl, by omega, fun x hx => (hws x hx).1, fun h => by (rw [hb] at h; cases h), fun _ why hw => ⟨⟨ex.dp, fun a dd => ?_⟩, rfl⟩⟩
        array_get_dec
        refine ⟨rfl, 3, why, rfl, hw, ?_⟩
        array_get_dec
        refine eqLL hokw hokw ?_
        array_get_dec
        exact hq
      | true =>
        have hb' := hb
        unfold namesOk distinctOk at hb'
        simp only [Bool.and_eq_true, decide_eq_true_eq] at hb'
        have hLw : LandN p w ws := ⟨hL.p, hL.w1, hL.w3, hb'.1, hb'.2.2, List.all_eq_true.mp hb'.2.1⟩
        have hns : namesOk ns = true := by
          unfold namesOk distinctOk
          rw [decide_eq_true (by have := hL.n1; omega : 0 < ns.length), decide_eq_true hL.nd, List.all_eq_true.mpr hL.nm]
          rfl
        have et : decide (groundText p w ws = groundText p w ns) = decide (ws = ns) := by
          by_cases e : ws = ns
          · rw [e, decide_eq_true rfl, decide_eq_true rfl]
          · rw [decide_eq_false e, decide_eq_false]
            intro z
            have h1 := land_right hLw
            rw [z] at h1
            exact e (right_one h1 (land_right hL)).2.2
        have et' : decide (groundText p w ns = groundText p w ws) = decide (ws = ns) := by
          rw [← et]
          by_cases e : groundText p w ws = groundText p w ns
          · rw [e]
          · rw [decide_eq_false e, decide_eq_false fun z => e z.symm]
        array_get_dec
        refine ⟨rfl, ?_⟩
        first
          | refine ⟨p, w, ns, _, _, ws, rfl, land_right hL, hln ns hL (by omega), .inl rfl, by omega, fun x hx => (hws x hx).1, fun _ => ⟨gr_nol .., rfl, ?_⟩, fun h => by (rw [hb] at h; cases h)⟩
          | refine ⟨p, w, ns, _, _, ws, rfl, land_right hL, hln ns hL (by omega), .inr rfl, by omega, fun x hx => (hws x hx).1, fun _ => ⟨gr_nol .., rfl, ?_⟩, fun h => by (rw [hb] at h; cases h)⟩
        unfold grD
        array_get_dec
        refine eqLL hokw hokw ?_
        array_get_dec
        try refine ⟨by omega, 0, 0, rfl, by unfold ixN; rw [if_pos (by decide), if_pos (by omega)]; rfl, ?_⟩
        refine ⟨p, w, ws, rfl, hLw.ok (by omega), ?_⟩
        refine ⟨p, w, ws, _, rfl, hL.w1, hL.w3, by omega, ?_⟩
        array_get_dec
        refine ⟨p, w, ns, rfl, hL.ok (by omega), ?_⟩
        refine ⟨p, w, ns, _, rfl, hL.w1, hL.w3, by omega, ?_⟩
        array_get_dec
        refine eqLL hokw hokn ?_
        array_get_dec
        refine .inl ⟨_, _, _, _, _, _, _, _, rfl, _, rfl, ?_⟩
        rw [et]
        array_get_dec
        refine .inl ⟨_, _, _, _, _, _, _, _, rfl, _, rfl, ?_⟩
        rw [et']
        array_get_dec
        refine ⟨rfl, p, w, ws, _, _, ns, rfl, land_right hLw, hln ws hLw (by omega), .inl rfl, by omega, fun x hx => (name_ok (hL.nm x hx)).1, fun _ => ?_, fun h => by (rw [hns] at h; cases h)⟩
        unfold grD
        array_get_dec
        refine .inl ⟨_, _, _, _, _, _, _, _, rfl, _, rfl, ?_⟩
        rw [decide_eq_true rfl]
        exact hq
end
end K1
set_option Elab.async false
set_option linter.all false
set_option maxRecDepth 100000
set_option maxHeartbeats 8000000
namespace K1
open PySem L2 PySem.Spec PyProof.Rows TL TLS
theorem RowOk.take {b : Nat} {r : Str} (h : RowOk b r) (k : Nat) : RowOk b ⟨((tl r).take k).toArray⟩ := by
  have e : tl (⟨((tl r).take k).toArray⟩ : Str) = (tl r).take k := TL.tl_mk _
  refine ⟨by rw [e]; exact fun z => h.nl (List.mem_of_mem_take z), ?_, ?_⟩
  · rw [e]
    exact Nat.le_trans (List.Sublist.count_le 32 (List.take_sublist k (tl r))) h.sp
  · have h1 := h.len
    rw [TL.len_tl] at h1 ⊢
    rw [e, List.length_take]
    omega
theorem nl_tl : tl NL = [10] := by decide +kernel
theorem rows_take {b : Nat} : ∀ (rows : List Str) (k : Nat), rows ≠ [] → (∀ r ∈ rows, RowOk b r) → ∃ rows' : List Str, rows' ≠ [] ∧ rows'.length ≤ rows.length ∧ (∀ r ∈ rows', RowOk b r) ∧ tl (Txt.join NL rows') = (tl (Txt.join NL rows)).take k
  | [], _, h, _ => absurd rfl h
  | [a], k, _, h => ⟨[⟨((tl a).take k).toArray⟩], by simp, by simp, fun r hr => by
      rw [List.mem_singleton.mp hr]
      exact (h a (by simp)).take k, by rw [join_one, join_one]⟩
  | a :: c :: r, k, _, h => by
    have ej : tl (Txt.join NL (a :: c :: r)) = tl a ++ (10 :: tl (Txt.join NL (c :: r))) := by rw [join_nil2 _ _ _ (by simp), tl_append, tl_append, nl_tl]; rfl
    by_cases hk : k ≤ (tl a).length
    · refine ⟨[⟨((tl a).take k).toArray⟩], by simp, by simp, fun r hr => ?_, ?_⟩
      · rw [List.mem_singleton.mp hr]
        exact (h a (by simp)).take k
      · rw [join_one, ej, List.take_append_of_le_length hk]
    · obtain ⟨rows', h1, h2, h3, h4⟩ := rows_take (c :: r) (k - (tl a).length - 1) (by simp) fun q hq => h q (by simp at hq ⊢; exact .inr hq)
      refine ⟨a :: rows', by simp, by simp at h2 ⊢; omega, fun q hq => ?_, ?_⟩
      · rcases List.mem_cons.mp hq with rfl | hq
        · exact h q (by simp)
        · exact h3 q hq
      · have e2 : tl (Txt.join NL (a :: rows')) = tl a ++ (10 :: tl (Txt.join NL rows')) := by rw [join_nil2 _ _ _ h1, tl_append, tl_append, nl_tl]; rfl
        rw [e2, ej, h4, List.take_append]
        have e3 : (tl a).take k = tl a := List.take_of_length_le (by omega)
        have e4 : k - (tl a).length = (k - (tl a).length - 1) + 1 := by omega
        rw [e3, e4, List.take_succ_cons, Nat.add_sub_cancel]
theorem rowsOk_take {b : Nat} {rows : List Str} (h : RowsOk b rows) (k : Nat) : ∃ rows', RowsOk b rows' ∧ Txt.join NL rows' = ⟨((tl (Txt.join NL rows)).take k).toArray⟩ := by
  obtain ⟨rows', h1, h2, h3, h4⟩ := rows_take rows k h.ne h.row
  exact ⟨rows', ⟨h1, by have := h.len; omega, h3⟩, ext_tl (by rw [h4])⟩
theorem words_count (l : Str) : (wordsOf l).length = (tl l).count 32 + 1 := by
  have c := join_count 32 _ (words_ne l)
  rw [words_join, count_zero (words_free l)] at c
  simp only [if_true] at c
  omega
theorem rows_len {b : Nat} : ∀ rows : List Str, (∀ r ∈ rows, RowOk b r) → (Txt.join NL rows).length ≤ rows.length * (lenB b + 1)
  | [], _ => by
    rw [show Txt.join NL [] = Str.join NL [] from StrLaws.glued_eq_join ..]
    simp [Str.join]
    rfl
  | [a], h => by
    rw [join_one]
    have := (h a (by simp)).len
    simp
    omega
  | a :: c :: r, h => by
    have ih := rows_len (c :: r) fun q hq => h q (by simp at hq ⊢; exact .inr hq)
    have h1 := (h a (by simp)).len
    have e : (NL : Str).length = 1 := rfl
    rw [join_nil2 _ _ _ (by simp), len_app, len_app, e]
    rw [List.length_cons, Nat.succ_mul]
    omega
/-- what a text of bent rows is -/
theorem rows_text {b : Nat} {rows : List Str} (h : RowsOk b rows) (hb : b ≤ 2) : (Txt.join NL rows).length < 2990 ∧ ∀ p w ns, Right (Txt.join NL rows) p w ns → ns.length ≤ 8 := by
  have hL : lenB b ≤ 190 := by
    have h : b = 0 ∨ b = 1 ∨ b = 2 := by omega
    rcases h with rfl | rfl | rfl <;> decide
  have hl := rows_len rows h.row
  have hr := h.len
  have hsp := split_nl h.ne fun a ha => (h.row a ha).nl
  refine ⟨?_, fun p w ns hR => ?_⟩
  · have h1 : rows.length * (lenB b + 1) ≤ 6 * 191 := Nat.mul_le_mul (by omega) (by omega)
    omega
  · obtain ⟨l0, l1, l2, e, ec, _, _, _, rfl⟩ := hR
    have hc : (tl l2).count 32 ≤ 8 := by
      have hm : l2 ∈ linesOf (Txt.join NL rows) := by rw [e]; simp
      have hrow : ∀ r ∈ rows, (tl r).count 32 ≤ 8 := fun r hr => by
        have := (h.row r hr).sp
        omega
      unfold linesOf at hm
      rw [hsp] at hm
      split at hm
      · exact hrow _ (List.dropLast_subset _ hm)
      · rcases List.mem_append.mp hm with hm | hm
        · exact hrow _ (List.dropLast_subset _ hm)
        · rw [List.mem_singleton.mp hm, tl_append, nl_tl, List.count_append]
          have h2 : rows.getLastD "" ∈ rows := by
            cases he : rows with
            | nil => exact absurd he h.ne
            | cons a r => rw [List.getLastD_cons]; exact List.getLastD_mem_cons ..
          have h3 := hrow _ h2
          have h4 : List.count 32 [10] = 0 := by decide
          omega
    have hw := words_count l2
    rw [List.length_tail]
    omega
theorem text_split {p : Int} {w : Nat} {ns : List Str} (h : LandN p w ns) (h4 : ns.length ≤ 4) : Txt.split (groundText p w ns) NL = rows4 p w ns ∧ RowsOk 0 (rows4 p w ns) := by
  have hn : ns ≠ [] := fun z => by
    have := h.n1
    rw [z] at this
    cases this
  refine ⟨by rw [text_rows p w ns hn]; exact split_nl (by unfold rows4; simp) (rows_nl h), by unfold rows4; simp, by unfold rows4; simp, fun r hr => ?_⟩
  have hnl := rows_nl h r hr
  have hk : ∀ p ∈ Pr, (tl (kindText p)).count 32 ≤ 4 ∧ (kindText p).length ≤ 40 := by decide +kernel
  have e40 : lenB 0 = 40 := by decide
  unfold rows4 at hr
  simp only [List.mem_cons, List.not_mem_nil, or_false] at hr
  rcases hr with rfl | rfl | rfl | rfl
  · exact ⟨hnl, (hk p h.p).1, by rw [e40]; exact (hk p h.p).2⟩
  · have hw : w = 1 ∨ w = 2 ∨ w = 3 := by have := h.w1; have := h.w3; omega
    rcases hw with rfl | rfl | rfl <;> exact ⟨hnl, by decide +kernel, by decide +kernel⟩
  · have c := words_count (Txt.join " " ("names" :: ns))
    rw [names_words h.nm] at c
    have hj := join_len1 (("names" : Str) :: ns) (by simp)
    have e5 : sumS (·.length) (("names" : Str) :: ns) = 5 + (ns.map (·.length)).sum := by
      unfold sumS
      rw [List.map_cons, List.sum_cons]
      rfl
    have h6 := sum_le6 (ns := ns) fun x hx => name_len (h.nm x hx)
    refine ⟨hnl, ?_, ?_⟩
    · rw [List.length_cons] at c
      omega
    · rw [e40]
      rw [e5, List.length_cons] at hj
      omega
  · exact ⟨hnl, by decide +kernel, by decide +kernel⟩
theorem cutS_hi (z : Str) (k : Nat) : L2.cutS z none (some (k : Int)) = ⟨((tl z).take k).toArray⟩ := by
  unfold L2.cutS
  have e0 : HT.sIx z.length 0 none = 0 := rfl
  have e1 : HT.sIx z.length z.length (some (k : Int)) = min k z.length := by
    show min (k : Int).toNat z.length = min k z.length
    rfl
  rw [e0, e1, List.drop_zero, Nat.sub_zero]
  have e2 : (tl z).take (min k z.length) = (tl z).take k := by
    by_cases h : k ≤ z.length
    · rw [Nat.min_eq_left h]
    · have h1 : (tl z).length ≤ z.length := Nat.le_of_eq (TL.len_tl z).symm
      rw [Nat.min_eq_right (by omega), List.take_of_length_le (by omega), List.take_of_length_le (by omega)]
  show (⟨((tl z).take (min k z.length)).toArray⟩ : Str) = _
  rw [e2]
end K1
set_option Elab.async false
set_option linter.all false
set_option maxRecDepth 100000
set_option maxHeartbeats 8000000
namespace K1
open PySem L2 PySem.Spec PyProof.Rows TL TLS
local macro_rules | `(tactic| array_get_dec) => `(tactic| try simp only [↓e_nol, ↓e_vA0, ↓e_vAo, ↓e_vAS, ↓e_methB, ↓e_zitem, List.length_map, List.length_append, List.length_take, List.length_drop, cutH, cutL, cutL1, cutLk, e_mapC3, ← List.map_append, Int.zero_add, e_ixM, ↓e_xf, ↓e_xxf, ↓e_isX, ↓e_try, ↓e_ownEq, ↓e_ownEqS, ↓e_isiI_list, ↓e_isiI_tuple, ↓e_isiI_bool, ↓e_isiI_str, ↓e_isiI_int, ↓e_isiI_u, ↓e_isiB_list, ↓e_isiB_tuple, ↓e_isiB_bool, ↓e_isiB_str, ↓e_isiB_int, ↓e_isiB_u, ↓e_isiS_list, ↓e_isiS_tuple, ↓e_isiS_bool, ↓e_isiS_str, ↓e_isiS_int, ↓e_isiS_u, ↓e_isiL_list, ↓e_isiL_tuple, ↓e_isiL_bool, ↓e_isiL_str, ↓e_isiL_int, ↓e_isiL_u, ↓e_isiT_list, ↓e_isiT_tuple, ↓e_isiT_bool, ↓e_isiT_str, ↓e_isiT_int, ↓e_isiT_u, e_nonI, e_nonB, e_nonS, e_nonL, e_nonT, e_nonN, e_nonO, ↓e_zipA, ↓e_lc, bne_self_eq_false, decide_true, sl_0, sl_1, sl_2, sl_3, sl_4, sl_5, sl_6, sl_7, sl_8, sl_9, sl_10, sl_11, sl_12, sl_13, sl_14, sl_15, sl_16, Bool.not_true, Bool.not_false, ↓e_var0, ↓e_varS, ↓e_varO0, ↓e_varOS, ↓e_C, ↓e_new, ↓e_nil, ↓e_cons, ↓e_tup, ↓e_lst, ↓e_star, ↓e_star_l, ↓e_star_t, ↓e_op, ↓e_addI, ↓e_addS, ↓e_addL, ↓e_sub, ↓e_mul, ↓e_fdiv, ↓e_mod, ↓e_pow, ↓e_neg, ↓e_cmp, ↓e_eqII, ↓e_eqSS, ↓e_eqBB, ↓e_eqNI, ↓e_eqNS, ↓e_isN, ↓e_inL, ↓e_xI, ↓e_xB, ↓e_xS, ↓e_xL, ↓e_xT, ↓e_xO, ↓e_x2, ↓e_x3, ↓e_xc, ↓e_xsom, ↓e_if, ↓e_ifE, ↓e_and, ↓e_or, ↓e_not, ↓e_andV, ↓e_orV, ↓e_notV, ↓e_BrT, ↓e_BrF, ↓e_BrET, ↓e_BrEF, ↓e_BrAT, ↓e_BrAF, ↓e_BrRT, ↓e_BrRF, ↓e_BrAVT, ↓e_BrAVF, ↓e_BrRVT, ↓e_BrRVF, ↓e_B, ↓e_tru, ↓e_truN, ↓e_truB, ↓e_truI, ↓e_truS, ↓e_truL, ↓e_truT, ↓e_chain, ↓e_bi, ↓e_lenS, ↓e_lenL, ↓e_lenT, ↓e_seq, ↓e_tupOf, ↓e_seqL, ↓e_seqT, ↓e_boolI, ↓e_boolB, ↓e_intI, ↓e_strI, ↓e_min2, ↓e_all, ↓e_ixL, ↓e_ixT, ↓e_ixS, ↓e_at0, ↓e_at1, ↓e_at2, ↓e_noPart, ↓e_part, ↓e_sl, ↓e_slL, ↓e_slS, ↓e_range1, ↓e_zip, ↓e_isCo, ↓e_isCs, ↓e_fld, ↓e_xfld, ↓e_split, ↓e_join, ↓e_fmt, ↓e_fmtS, ↓e_fmtI, ↓e_js0, ↓e_jsS, ↓e_lenSet, ↓e_yName, ↓e_yNil0, ↓e_yCons, ↓e_yTup, ↓e_yLst, ↓e_yStar, ↓e_next, ↓e_zseq, ↓e_ret, ↓e_set, ↓e_setO, ↓e_drop, ↓e_asg, ↓e_par, ↓e_par3, ↓e_for, ↓e_for0, ↓e_fg, ↓e_brk, ↓e_cont, ↓e_call, ↓e_callB, ↓e_raise, ↓e_zfld, ↓e_make, ↓e_makeK, ↓e_meth, ↓e_app0, ↓e_own, e_get0, e_getS, e_set0, e_setS, e_xF, e_xT', e_xins, e_xins1, ↓e_app, e_weak, e_yNil, Bool.not_not, Bool.not_true, Bool.not_false, List.isEmpty_nil, List.isEmpty_cons, true_and, and_true, List.length_cons, List.length_nil, Nat.reduceAdd, Nat.zero_add, ↓at0, ↓at1, ↓at2, List.map_cons, List.map_nil, List.cons_append, List.nil_append, List.replicate, Nat.reduceSub])

/-- a reading that holds in some context of trees -/
theorem pss_some {X : Cx} {rest : List Stmt} {T : TSD} (h : ∀ c : Ct, c.K = X.K → PSs X rest (LS0 c T)) : PSs X rest (fun E σ H => ∃ c : Ct, c.K = X.K ∧ LS0 c T E σ H) := ⟨fun pins s σ H D I ⟨c, hK, q⟩ => (h c hK).run pins s σ H D I q⟩
theorem pe_bagCall {X : Cx} {e : Expr} {p pos : Pos} {f : Addr} {fd : FuncData} {k : Nat} (F : FnOk X.prog X.w X.K X.mg X.base (L2N.CX X.prog X.w) 1 f fd ["script"] (spBag X.K)) (hm : X.mg "_law_bag" = some (.ref f)) (hk : PySem.W.keepIn X.K (.ref f) = true) (hb : Binds X.K fd ["script"] [])
    (hr : Room k X.A) (h1 : 1 ≤ k) (he : PE X e (tVar 0)) (hg : Gl X "_law_bag" := by rfl) (hst : starEach [e] X.env = (false, eval e X.env) :: starEach [] X.env := by rfl) (hpl : (backTo pos (starEach [] X.env)).any (·.1) = false := by rfl) :
    PE X (.Call (.Name "_law_bag" p) [e] [] pos) (tCallS (spBag X.K) (fun σ => WE (fun _ _ _ _ => False) σ) (tCons (tVar 0) tNil)) :=
  pe_callS F (hr.mono h1) hg hm hk hb (fun σ => L2N.passAt tk_no σ) (pa_cons he pa_nil hst) (by decide) hst hpl
theorem si_bag {K : PySem.W.Frag} {B L a : Addr} {H : Hp} {n : Nat} (bg : BagOk B L H) : SI ⟨K, B, L, H, fun x => x = B ∨ x = L⟩ [] (none :: some (.val .bag) :: List.replicate n none) (some (V.ref a) :: some (V.ref B) :: List.replicate n none) H := by
  have at_ : ∀ {i : Nat} {s : Slot}, ((none :: some (.val .bag) :: List.replicate n none : TL.Env))[i]? = some (some s) → i = 1 ∧ s = .val .bag := fun {i s} h => by
    match i, h with
    | 0, h => cases h
    | 1, h => cases h; exact ⟨rfl, rfl⟩
    | i + 2, h =>
      have h : (List.replicate n none : TL.Env)[i]? = some (some s) := h
      rw [List.getElem?_replicate] at h
      split at h <;> cases h
  have no : ∀ {x : Addr}, ¬ OwnAt (none :: some (.val .bag) :: List.replicate n none) (some (V.ref a) :: some (V.ref B) :: List.replicate n none) x := fun {x} ⟨i, s, h1, h2, _⟩ => by
    obtain ⟨_, rfl⟩ := at_ h1
    cases h2
  refine ⟨by simp, Ext.refl H, bg, .inl rfl, .inr rfl, fun x hx => ?_, fun i d h => ?_, fun i xs h => ?_, fun i C gs h => ?_, fun p hp => (by cases hp), fun p hp => absurd hp no, fun i j s t p h1 h2 h3 h4 h5 h6 => absurd ⟨i, s, h1, h2, h3⟩ no⟩
  · rcases hx with rfl | rfl
    · exact bg.ne
    · obtain ⟨ns, i, g, m, k, _, h2, _⟩ := bg
      rw [h2]
      exact fun z => by cases z
  · obtain ⟨rfl, e⟩ := at_ h
    cases e
    exact ⟨_, rfl, .bag⟩
  · obtain ⟨_, e⟩ := at_ h
    cases e
  · obtain ⟨_, e⟩ := at_ h
    cases e
theorem text_len {p : Int} {w : Nat} {us : List Str} (hu : LandN p w us) (h5 : us.length ≤ 5) : (groundText p w us).length < 2990 := by
  have hj := join_le " " us
  rw [show (" " : Str).length = 1 from rfl] at hj
  have h6 := sum_le6 (ns := us) fun x hx => name_len (hu.nm x hx)
  have hkl := kt_len p hu.p
  obtain ⟨ys, _, _, _, h5'⟩ := ways_cut w hu.w1 hu.w3
  have e1 : ("
directions " : Str).length = 12 := rfl
  have e2 : ("
names " : Str).length = 7 := rfl
  have e3 : ("
" : Str).length = 1 := rfl
  unfold groundText
  simp only [len_app]
  omega
theorem sum_le190 : ∀ {ns : List Str}, (∀ x ∈ ns, x.length ≤ 190) → (ns.map (·.length)).sum ≤ 190 * ns.length
  | [], _ => by simp
  | x :: r, h => by
    have h1 := h x (by simp)
    have h2 := sum_le190 (ns := r) fun y hy => h y (by simp [hy])
    rw [List.map_cons, List.sum_cons, List.length_cons]
    omega
theorem made {CB : Addr} {p : Int} {w : Nat} {ns : List Str} {R : List (Str × D) → Prop} {E : XD → Prop} (hL : LandN p w ns) (h5 : ns.length ≤ 5) (hq : R (grFs p w ns (groundText p w ns))) : SGr CB [.str (groundText p w ns), .bl true] R E := by
  refine ⟨_, true, rfl, text_len hL h5, fun p' w' ns' h' => ?_, fun why hw hc => absurd (right_code (land_right hL)) hc⟩
  obtain ⟨rfl, rfl, rfl⟩ := right_one (land_right hL) h'
  exact ⟨.inr (by omega), hq⟩
theorem same_text {p p' : Int} {w w' : Nat} {ns ns' : List Str} (h : LandN p w ns) (h' : LandN p' w' ns') (e : groundText p w ns = groundText p' w' ns') : p' = p ∧ w' = w ∧ ns' = ns := by
  have h1 := land_right h
  rw [e] at h1
  obtain ⟨e1, e2, e3⟩ := right_one h1 (land_right h')
  exact ⟨e1.symm, by omega, e3.symm⟩
theorem law_read {CB C : Addr} :             (zSeq
              (zFor (xRange1 (xC (D.int 3))) (yName 2)
                (zSeq (zSet 3 (xCall SLand (fun _ _ => False) (xCons (xVar 1) (xCons (xC (D.int 4)) xNil))))
                  (zSeq (zSet 4 (xCall SGt (fun _ _ => False) (xCons (xVar 3) xNil)))
                    (zSeq
                      (zIf (xNot (xB (xCall STx (fun _ _ => False) (xCons (xVar 4) xNil)))) (zRet (xC (D.bl false)))
                        zNext)
                      (zSeq
                        (zPar 5 6
                          (xCons (xMake C (SGr CB) [D.bl true] (fun _ _ => False) (xCons (xVar 4) xNil))
                            (xCons (xCall SOt (fun _ _ => False) (xCons (xVar 1) (xCons (xVar 3) xNil))) xNil)))
                        (zSeq
                          (zIf
                            (xOr
                              (xB
                                (xOp (dOwnEq C (SEq C)) (xVar 5)
                                  (xMake C (SGr CB) [D.bl true] (fun _ _ => False)
                                    (xCons (xCall SGt (fun _ _ => False) (xCons (xVar 6) xNil)) xNil))))
                              (xOr (xB (xOp (dOwnEq C (SEq C)) (xVar 5) (xVar 4)))
                                (xNot
                                  (xB
                                    (xOp (dOwnEq C (SEq C)) (xVar 5)
                                      (xMake C (SGr CB) [D.bl true] (fun _ _ => False) (xCons (xVar 4) xNil)))))))
                            (zRet (xC (D.bl false))) zNext)
                          (zSeq
                            (zFor (xRange1 (xC (D.int 5))) (yName 7)
                              (zSeq
                                (zSet 8
                                  (xCall SBe (fun _ _ => False)
                                    (xCons (xVar 1)
                                      (xCons (xNew (xSplit (xVar 4) (xC (D.str ("\n"))))) xNil))))
                                (zSeq
                                  (zIf
                                    (xB
                                      (xOp (dEqq false)
                                        (xCall SDraw (fun _ _ => False) (xCons (xVar 1) (xCons (xC (D.int 3)) xNil)))
                                        (xC (D.int 0))))
                                    (zSet 8 (xCall SBe (fun _ _ => False) (xCons (xVar 1) (xCons (xVar 8) xNil))))
                                    zNext)
                                  (zSeq (zSet 9 (xJoin (xC (D.str ("\n"))) (xVar 8)))
                                    (zSeq
                                      (zIf
                                        (xB
                                          (xOp (dEqq false)
                                            (xCall SDraw (fun _ _ => False)
                                              (xCons (xVar 1) (xCons (xC (D.int 6)) xNil)))
                                            (xC (D.int 0))))
                                        (zSet 9
                                          (xSl (xVar 9) xNoPart
                                            (xPart
                                              (xCall SDraw (fun _ _ => False)
                                                (xCons (xVar 1)
                                                  (xCons (xOp dAdd (xBi dLen (xCons (xVar 9) xNil)) (xC (D.int 1)))
                                                    xNil))))))
                                        zNext)
                                      (zIf (xNot (xB (xCall STx (fun _ _ => False) (xCons (xVar 9) xNil))))
                                        (zRet (xC (D.bl false))) zNext))))))
                            (zIf
                              (xOr
                                (xNot
                                  (xB
                                    (xCall (SWs C) (fun _ _ => False)
                                      (xCons (xVar 1) (xCons (xVar 5) (xCons (xVar 3) xNil))))))
                                (xOr
                                  (xNot
                                    (xB
                                      (xCall (SWs C) (fun _ _ => False)
                                        (xCons (xVar 1) (xCons (xVar 5) (xCons (xVar 3) xNil))))))
                                  (xNot
                                    (xB
                                      (xCall (STs C) (fun _ _ => False)
                                        (xCons (xVar 5) (xCons (xVar 3) (xCons (xVar 4) xNil))))))))
                              (zRet (xC (D.bl false))) zNext))))))))
              (zRet (xC (D.bl true)))) { nx := fun _ => False, rt := fun d => d = .bl true } (none :: some (.val .bag) :: List.replicate 8 none) := by
  show zSeq _ _ _ ([none, some (.val .bag), none, none, none, none, none, none, none, none] : TL.Env)
  array_get_dec
  refine ⟨by decide, by decide, ?_⟩
  refine for_inv _ (fun n γ' => ∃ s2 s3 s4 s5 s6 s7 s8 s9, γ' = [none, some (.val .bag), s2, s3, s4, s5, s6, s7, s8, s9]) _ ⟨_, _, _, _, _, _, _, _, rfl⟩ (fun n d γ' hd ⟨s2, s3, s4, s5, s6, s7, s8, s9, e⟩ N hN => ?_) fun γ' ⟨s2, s3, s4, s5, s6, s7, s8, s9, e⟩ => ?_
  · subst e
    array_get_dec
    refine ⟨rfl, fun p w ns hL h4 => ?_⟩
    have hR := land_right hL
    obtain ⟨hts, hrows⟩ := text_split hL h4
    have hne : ns ≠ [] := fun z => by
      have := hL.n1
      rw [z] at this
      cases this
    have hTx := rows_text hrows (by decide)
    rw [← text_rows p w ns hne] at hTx
    array_get_dec
    refine ⟨p, w, ns, rfl, hL.ok (by omega), ?_⟩
    array_get_dec
    refine ⟨_, rfl, hTx.1, hTx.2, ?_⟩
    array_get_dec
    refine made hL (by omega) ?_
    refine ⟨p, w, ns, rfl, hL, h4, fun p' w' ns' hL' h5 hdf => ?_⟩
    have hnt : ¬ groundText p w ns = groundText p' w' ns' := fun z => hdf (same_text hL hL' z)
    array_get_dec
    refine ⟨p', w', ns', rfl, hL'.ok (by omega), ?_⟩
    refine made hL' h5 ?_
    array_get_dec
    refine .inl ⟨_, _, _, _, _, _, _, _, rfl, _, rfl, ?_⟩
    rw [decide_eq_false hnt]
    array_get_dec
    refine .inr ⟨_, _, _, _, _, rfl, _, rfl, ?_⟩
    array_get_dec
    refine made hL (by omega) ?_
    array_get_dec
    refine .inl ⟨_, _, _, _, _, _, _, _, rfl, _, rfl, ?_⟩
    array_get_dec
    refine ⟨by decide, by decide, ?_⟩
    refine for_inv _ (fun n γ' => ∃ s2 s7 s8 s9, γ' = [none, some (.val .bag), s2, some (.val (landD p w ns)), some (.val (.str (groundText p w ns))), some (.val (.obj C (grFs p w ns (groundText p w ns)))), some (.val (landD p' w' ns')), s7, s8, s9]) _ ⟨_, _, _, _, rfl⟩ (fun n d γ' hd ⟨s2, s7, s8, s9, e⟩ N hN2 => ?_) fun γ' ⟨s2, s7, s8, s9, e⟩ => ?_
    · subst e
      array_get_dec
      refine ⟨rfl, by have := hTx.1; have := big; omega, 0, rows4 p w ns, by rw [show Txt.split (groundText p w ns) "
" = rows4 p w ns from hts], by decide, hrows, fun rows1 hR1 => ?_⟩
      array_get_dec
      refine drawN (n := 3) (by decide) (by decide) fun d1 hd1 => ?_
      array_get_dec
      refine brI (fun h0 => ?_) fun h0 => ?_
      · array_get_dec
        refine ⟨1, rows1, rfl, by decide, hR1, fun rows hR2 => ?_⟩
        obtain ⟨b, hb, hRb⟩ : ∃ b, b ≤ 2 ∧ RowsOk b rows := ⟨2, by decide, hR2⟩
        array_get_dec
        have hT : (Txt.join "\n" rows).length < 2990 ∧ ∀ p w ns, Right (Txt.join "\n" rows) p w ns → ns.length ≤ 8 := rows_text hRb hb
        have hL190 : ∀ r ∈ rows, r.length ≤ 190 := fun r hr => by
          have h1 := (hRb.row r hr).len
          have h2 : lenB b ≤ 190 := by
            have h : b = 0 ∨ b = 1 ∨ b = 2 := by omega
            rcases h with rfl | rfl | rfl <;> decide
          omega
        have hsum := sum_le190 hL190
        have hrl := hRb.len
        refine ⟨_, .inl rfl, by rw [show ("\n" : Str).length = 1 from rfl]; omega, drawN (n := 6) (by decide) (by decide) fun d2 hd2 => ?_⟩
        array_get_dec
        refine brI (fun h1 => ?_) fun h1 => ?_
        · array_get_dec
          have hz := big
          refine ⟨by omega, drawN (n := (Txt.join "\n" rows).length + 1) (by omega) (by omega) fun k hk => ?_⟩
          array_get_dec
          obtain ⟨rows', hR', ej⟩ := rowsOk_take hRb k
          have hT' := rows_text hR' hb
          rw [ej] at hT'
          rw [cutS_hi]
          refine ⟨by omega, _, rfl, hT'.1, hT'.2, ?_⟩
          array_get_dec
          exact hN2 _ ⟨_, _, _, _, rfl⟩
        · array_get_dec
          refine ⟨_, rfl, hT.1, hT.2, ?_⟩
          array_get_dec
          exact hN2 _ ⟨_, _, _, _, rfl⟩
      · array_get_dec
        obtain ⟨b, hb, hRb⟩ : ∃ b, b ≤ 2 ∧ RowsOk b rows1 := ⟨1, by decide, hR1⟩
        have hT : (Txt.join "\n" rows1).length < 2990 ∧ ∀ p w ns, Right (Txt.join "\n" rows1) p w ns → ns.length ≤ 8 := rows_text hRb hb
        have hL190 : ∀ r ∈ rows1, r.length ≤ 190 := fun r hr => by
          have h1 := (hRb.row r hr).len
          have h2 : lenB b ≤ 190 := by
            have h : b = 0 ∨ b = 1 ∨ b = 2 := by omega
            rcases h with rfl | rfl | rfl <;> decide
          omega
        have hsum := sum_le190 hL190
        have hrl := hRb.len
        refine ⟨_, .inl rfl, by rw [show ("\n" : Str).length = 1 from rfl]; omega, drawN (n := 6) (by decide) (by decide) fun d2 hd2 => ?_⟩
        array_get_dec
        refine brI (fun h1 => ?_) fun h1 => ?_
        · array_get_dec
          have hz := big
          refine ⟨by omega, drawN (n := (Txt.join "\n" rows1).length + 1) (by omega) (by omega) fun k hk => ?_⟩
          array_get_dec
          obtain ⟨rows', hR', ej⟩ := rowsOk_take hRb k
          have hT' := rows_text hR' hb
          rw [ej] at hT'
          rw [cutS_hi]
          refine ⟨by omega, _, rfl, hT'.1, hT'.2, ?_⟩
          array_get_dec
          exact hN2 _ ⟨_, _, _, _, rfl⟩
        · array_get_dec
          refine ⟨_, rfl, hT.1, hT.2, ?_⟩
          array_get_dec
          exact hN2 _ ⟨_, _, _, _, rfl⟩
    · subst e
      array_get_dec
      refine ⟨p, w, ns, rfl, hL, h4, ?_⟩
      array_get_dec
      refine ⟨p, w, ns, rfl, hL, h4, ?_⟩
      array_get_dec
      refine ⟨p, w, ns, _, rfl, hL.w1, hL.w3, by omega, ?_⟩
      array_get_dec
      exact hN _ ⟨_, _, _, _, _, _, _, _, rfl⟩
  · subst e
    array_get_dec
section
variable {P : Program} {wd : World} {K : PySem.W.Frag} {mg : Str → Option Value} {base : Heap} {CT CB CD C : Addr}
def spLaw (K : PySem.W.Frag) : Sp := fun vs H Q _ => ∃ (a : Addr) (ns : List Int), vs = [.ref a] ∧ SqL K H a (ns.map V.int) ∧ ns.length ≤ 63 ∧ ∀ H', Q (.bl true) H'
abbrev sLw : Stmt := top 49
theorem scLw : FnScope ["script", "bag", "lap", "land", "due", "gr", "more", "trial", "rows", "bent"] ["script"] (defScope sLw) := ⟨rfl, rfl, rfl, by decide +kernel, rfl, by decide +kernel, by decide +kernel⟩
theorem ok_law (bn : Bn mg) (gr : GrC K mg C) (c_gEq : EqAt P wd K mg base C) (c_Ground : MkAt P wd K mg base C 5 (SGr CB)) (c__law_draw : Cal P wd K mg base "_law_draw" ["bag", "size"] 1 SDraw) (c__law_land : Cal P wd K mg base "_law_land" ["bag", "most"] 4 SLand) (c__law_ground_text : Cal P wd K mg base "_law_ground_text" ["land"] 2 SGt)
    (c__law_text_so : Cal P wd K mg base "_law_text_so" ["text_in"] 7 STx) (c__law_other : Cal P wd K mg base "_law_other" ["bag", "land"] 4 SOt) (c__law_bent : Cal P wd K mg base "_law_bent" ["bag", "rows"] 4 SBe) (c__law_with_so : Cal P wd K mg base "_law_with_so" ["bag", "gr", "land"] 8 (SWs C)) (c__law_told_so : Cal P wd K mg base "_law_told_so" ["gr", "land", "due"] 4 (STs C))
    {fB : Addr} {fdB : FuncData} (FB : FnOk P wd K mg base (L2N.CX P wd) 1 fB fdB ["script"] (spBag K)) (mB : mg "_law_bag" = some (.ref fB)) (kB : PySem.W.keepIn K (.ref fB) = true) (bB : Binds K fdB ["script"] []) {f : Addr} {fd : FuncData} (F : Fun K "law" "law" sLw f fd) : FnOk P wd K mg base (L2N.CX P wd) 9 f fd ["script"] (spLaw K) := by
  obtain ⟨oc, od, kV, doc, pm, an, cdv, ct, osl, rfl, lk, hcd⟩ := F.ex
  refine fn_of lk hcd scLw (fun vs H Q E h => ?_) fun A outer s H vs Q E hr h => ?_
  · obtain ⟨a, ns, rfl, _⟩ := h
    rfl
  · obtain ⟨a, ns, rfl, hS, hl, hq⟩ := h
    have hu := room_units hr
    have hp := passes_of (X := cxB true [] (L2N.CX P wd) P wd K mg base ["script", "bag", "lap", "land", "due", "gr", "more", "trial", "rows", "bent"] "law" (defScope sLw) f cdv A outer s H E) (K := fun e s'' => L2N.CX P wd outer H s E e s'') rfl
    refine ⟨_, pss_cons (ps_set (i := 1) scLw.nd rfl (Or.inl rfl) (pe_bagCall FB mB kB bB hr (by decide) (pv 0))) (pss_some fun c hK => (zs0 (zs_cons (z_for hp rfl (xi_range1 bn.range xd_int) (yN 2 scLw.nd) (zs_cons (zS 3 scLw.nd (xd_cal hK c__law_land hr tk_no hW_no (xa_cons (xV 1) (xa_cons xd_int xa_nil)))) (zs_cons (zS 4 scLw.nd (xd_cal hK c__law_ground_text hr tk_no hW_no (xa_cons (xV 3) xa_nil))) (zs_cons (z_if (xt_not (xt_val (w := true) (xd_cal hK c__law_text_so hr tk_no hW_no (xa_cons (xV 4) xa_nil)))) (zs_one (z_ret (xd_weak xd_bl))) zs_nil) (zs_cons (z_par (i := 5) (j := 6) rfl scLw.nd rfl rfl (by decide) rfl rfl (xa_cons (xd_ground hK c_Ground hr tk_no hW_no (xa_cons (xV 4) xa_nil)) (xa_cons (xd_cal hK c__law_other hr tk_no hW_no (xa_cons (xV 1) (xa_cons (xV 3) xa_nil))) xa_nil))) (zs_cons (z_if (xt_w (xw_or (xt_gEq (w := true) hK c_gEq hr (xV 5) (xd_ground hK c_Ground hr tk_no hW_no (xa_cons (xd_cal hK c__law_ground_text hr tk_no hW_no (xa_cons (xV 6) xa_nil)) xa_nil))) (xw_or (xt_gEq (w := true) hK c_gEq hr (xV 5) (xV 4)) (xw_or1 (xt_not (xt_gEq (w := true) hK c_gEq hr (xV 5) (xd_ground hK c_Ground hr tk_no hW_no (xa_cons (xV 4) xa_nil)))))))) (zs_one (z_ret (xd_weak xd_bl))) zs_nil) (zs_cons (z_for hp rfl (xi_range1 bn.range xd_int) (yN 7 scLw.nd) (zs_cons (zS 8 scLw.nd (xd_cal hK c__law_bent hr tk_no hW_no (xa_cons (xV 1) (xa_cons (xd_new (xf_split (xV 4) xd_str)) xa_nil)))) (zs_cons (z_if (xt_eq (w := true) hK hu (xd_cal hK c__law_draw hr tk_no hW_no (xa_cons (xV 1) (xa_cons xd_int xa_nil))) xd_int) (zs_one (zS 8 scLw.nd (xd_cal hK c__law_bent hr tk_no hW_no (xa_cons (xV 1) (xa_cons (xV 8) xa_nil))))) zs_nil) (zs_cons (zS 9 scLw.nd (xd_join hK xd_str (xV 8))) (zs_cons (z_if (xt_eq (w := true) hK hu (xd_cal hK c__law_draw hr tk_no hW_no (xa_cons (xV 1) (xa_cons xd_int xa_nil))) xd_int) (zs_one (zS 9 scLw.nd (xd_slice hK (xV 9) xo_none (xo_some (xd_cal hK c__law_draw hr tk_no hW_no (xa_cons (xV 1) (xa_cons (xd_add (xd_len hK bn.len (xa_cons (xV 9) xa_nil)) xd_int) xa_nil))))))) zs_nil) (zs_one (z_if (xt_not (xt_val (w := true) (xd_cal hK c__law_text_so hr tk_no hW_no (xa_cons (xV 9) xa_nil)))) (zs_one (z_ret (xd_weak xd_bl))) zs_nil))))))) (zs_one (z_if (xt_w (xw_or (xt_not (xt_val (w := true) (xd_cal hK c__law_with_so hr tk_no hW_no (xa_cons (xV 1) (xa_cons (xV 5) (xa_cons (xV 3) xa_nil)))))) (xw_or (xt_not (xt_val (w := true) (xd_cal hK c__law_with_so hr tk_no hW_no (xa_cons (xV 1) (xa_cons (xV 5) (xa_cons (xV 3) xa_nil)))))) (xw_or1 (xt_not (xt_val (w := true) (xd_cal hK c__law_told_so hr tk_no hW_no (xa_cons (xV 5) (xa_cons (xV 3) (xa_cons (xV 4) xa_nil)))))))))) (zs_one (z_ret (xd_weak xd_bl))) zs_nil))))))))) (zs_one (z_ret (xd_weak xd_bl)))))), ?_⟩
    refine ⟨_, rfl, a, ns, rfl, hS, hl, fun B L H' g hB hL bg => ?_⟩
    refine ⟨⟨K, B, L, H', fun x => x = B ∨ x = L⟩, rfl, (none :: some (.val .bag) :: List.replicate 8 none : TL.Env), { nx := fun _ => False, rt := fun d => d = .bl true }, si_bag bg, law_read, fun γ' σ' H2 h1 S' => h1.elim, fun d v H2 h1 rv e b => ?_, fun γ' σ' H2 h1 _ => h1.elim, fun γ' σ' H2 h1 _ => h1.elim⟩
    subst h1
    cases rv
    exact hq H2
end
end K1
set_option Elab.async false
set_option linter.all false
set_option maxRecDepth 100000
set_option maxHeartbeats 8000000
namespace K1
open PySem L2 PySem.Spec PyProof.Rows TL TLS
theorem vI {i : Int} {t : Tok} : RelV (V.int i) (Value.int i t) := ⟨t, rfl⟩
theorem vS {i : Str} {t : Tok} : RelV (V.str i) (Value.str i t) := ⟨t, rfl⟩
theorem all_mk {P : Program} {w : World} {K : PySem.W.Frag} {h : Heap} {mg : Str → Option Value} {fa : Addr} (X : K.In h) (G : h.Ns mainGlobals mg) (hfa : mg "law" = some (.ref fa))
    {fAs : Addr} {odAs anAs : Option Addr} {slAs : Array (Option Value)} {ocAs kVAs dcAs pmAs cdAs ctAs : Value}
    {fAt : Addr} {odAt anAt : Option Addr} {slAt : Array (Option Value)} {ocAt kVAt dcAt pmAt cdAt ctAt : Value}
    {fLo : Addr} {odLo anLo : Option Addr} {slLo : Array (Option Value)} {ocLo kVLo dcLo pmLo cdLo ctLo : Value}
    {fIn : Addr} {odIn anIn : Option Addr} {slIn : Array (Option Value)} {ocIn kVIn dcIn pmIn cdIn ctIn : Value}
    {fAn : Addr} {odAn anAn : Option Addr} {slAn : Array (Option Value)} {ocAn kVAn dcAn pmAn cdAn ctAn : Value}
    {fRg : Addr} {odRg anRg : Option Addr} {slRg : Array (Option Value)} {ocRg kVRg dcRg pmRg cdRg ctRg : Value}
    {fRp : Addr} {odRp anRp : Option Addr} {slRp : Array (Option Value)} {ocRp kVRp dcRp pmRp cdRp ctRp : Value}
    {fBag : Addr} {odBag anBag : Option Addr} {slBag : Array (Option Value)} {ocBag kVBag dcBag pmBag cdBag ctBag : Value}
    {fDraw : Addr} {odDraw anDraw : Option Addr} {slDraw : Array (Option Value)} {ocDraw kVDraw dcDraw pmDraw cdDraw ctDraw : Value}
    {fOf : Addr} {odOf anOf : Option Addr} {slOf : Array (Option Value)} {ocOf kVOf dcOf pmOf cdOf ctOf : Value}
    {fLk : Addr} {odLk anLk : Option Addr} {slLk : Array (Option Value)} {ocLk kVLk dcLk pmLk cdLk ctLk : Value}
    {fKt : Addr} {odKt anKt : Option Addr} {slKt : Array (Option Value)} {ocKt kVKt dcKt pmKt cdKt ctKt : Value}
    {fGt : Addr} {odGt anGt : Option Addr} {slGt : Array (Option Value)} {ocGt kVGt dcGt pmGt cdGt ctGt : Value}
    {fNm : Addr} {odNm anNm : Option Addr} {slNm : Array (Option Value)} {ocNm kVNm dcNm pmNm cdNm ctNm : Value}
    {fLd : Addr} {odLd anLd : Option Addr} {slLd : Array (Option Value)} {ocLd kVLd dcLd pmLd cdLd ctLd : Value}
    {fNs : Addr} {odNs anNs : Option Addr} {slNs : Array (Option Value)} {ocNs kVNs dcNs pmNs cdNs ctNs : Value}
    {fNz : Addr} {odNz anNz : Option Addr} {slNz : Array (Option Value)} {ocNz kVNz dcNz pmNz cdNz ctNz : Value}
    {fPd : Addr} {odPd anPd : Option Addr} {slPd : Array (Option Value)} {ocPd kVPd dcPd pmPd cdPd ctPd : Value}
    {fGd : Addr} {odGd anGd : Option Addr} {slGd : Array (Option Value)} {ocGd kVGd dcGd pmGd cdGd ctGd : Value}
    {fLi : Addr} {odLi anLi : Option Addr} {slLi : Array (Option Value)} {ocLi kVLi dcLi pmLi cdLi ctLi : Value}
    {fBe : Addr} {odBe anBe : Option Addr} {slBe : Array (Option Value)} {ocBe kVBe dcBe pmBe cdBe ctBe : Value}
    {fTs : Addr} {odTs anTs : Option Addr} {slTs : Array (Option Value)} {ocTs kVTs dcTs pmTs cdTs ctTs : Value}
    {fEr : Addr} {odEr anEr : Option Addr} {slEr : Array (Option Value)} {ocEr kVEr dcEr pmEr cdEr ctEr : Value}
    {fTx : Addr} {odTx anTx : Option Addr} {slTx : Array (Option Value)} {ocTx kVTx dcTx pmTx cdTx ctTx : Value}
    {fNl : Addr} {odNl anNl : Option Addr} {slNl : Array (Option Value)} {ocNl kVNl dcNl pmNl cdNl ctNl : Value}
    {fWs : Addr} {odWs anWs : Option Addr} {slWs : Array (Option Value)} {ocWs kVWs dcWs pmWs cdWs ctWs : Value}
    {fOt : Addr} {odOt anOt : Option Addr} {slOt : Array (Option Value)} {ocOt kVOt dcOt pmOt cdOt ctOt : Value}
    {fLw : Addr} {odLw anLw : Option Addr} {slLw : Array (Option Value)} {ocLw kVLw dcLw pmLw cdLw ctLw : Value}
    {CB fCB : Addr} {odCB anCB : Option Addr} {slCB : Array (Option Value)} {ocCB kVCB dcCB pmCB cdCB ctCB : Value} {nmCB qCB : Str} {NCB : Addr} {bsCB bmCB subCB : List Value} {snCB : List Str} {abCB : Bool} {colCB : Option Bool} {ddCB : Option Addr} {m0CB m1CB m2CB m3CB m5CB : Option Value}
    {CT fCT : Addr} {odCT anCT : Option Addr} {slCT : Array (Option Value)} {ocCT kVCT dcCT pmCT cdCT ctCT : Value} {nmCT qCT : Str} {NCT : Addr} {bsCT bmCT subCT : List Value} {snCT : List Str} {abCT : Bool} {colCT : Option Bool} {ddCT : Option Addr} {m0CT m1CT m2CT m3CT m5CT : Option Value}
    {CD : Addr}
    {C fGi fGe fGw Dk : Addr} {odGi anGi odGe anGe odGw anGw : Option Addr} {slGi slGe slGw : Array (Option Value)} {ocGi dcGi pmGi cdGi ctGi ocGe kVGe dcGe pmGe cdGe ctGe ocGw kVGw dcGw pmGw cdGw ctGw : Value}
    {tL tS : Tok} {aD aP : Addr} {odD odP : Option Addr} {nD nP : Nat} {slD slP : Array (Option Value)} {tD1 tD2 tD3 : Tok}
    {tP2 tP3 tP5 tP7 tP11 tP13 tP17 tP19 tP23 tP29 tP31 tP37 tP41 tP43 tP47 tP53 tP59 tP61 tP67 tP71 tP73 tP79 tP83 tP89 tP97 : Tok}
    (aAs : PySem.W.nsIn K mainGlobals "ask" = some (some (.ref fAs)))
    (lAs : K.lookup fAs = some ⟨ocAs, odAs, .func (PySem.W.fnOf "ask" "ask" (defArgs sAs) (defBody sAs) (defScope sAs) .none kVAs dcAs pmAs anAs cdAs ctAs), slAs⟩)
    (cAs : PySem.W.codeIn K cdAs "ask" = true)
    (kAs : PySem.W.keepIn K (.ref fAs) = true)
    (aAt : PySem.W.nsIn K mainGlobals "ask_text" = some (some (.ref fAt)))
    (lAt : K.lookup fAt = some ⟨ocAt, odAt, .func (PySem.W.fnOf "ask_text" "ask_text" (defArgs sAt) (defBody sAt) (defScope sAt) .none kVAt dcAt pmAt anAt cdAt ctAt), slAt⟩)
    (cAt : PySem.W.codeIn K cdAt "ask_text" = true)
    (kAt : PySem.W.keepIn K (.ref fAt) = true)
    (aLo : PySem.W.nsIn K mainGlobals "lines_of" = some (some (.ref fLo)))
    (lLo : K.lookup fLo = some ⟨ocLo, odLo, .func (PySem.W.fnOf "lines_of" "lines_of" (defArgs sLo) (defBody sLo) (defScope sLo) .none kVLo dcLo pmLo anLo cdLo ctLo), slLo⟩)
    (cLo : PySem.W.codeIn K cdLo "lines_of" = true)
    (kLo : PySem.W.keepIn K (.ref fLo) = true)
    (aIn : PySem.W.nsIn K mainGlobals "is_name" = some (some (.ref fIn)))
    (lIn : K.lookup fIn = some ⟨ocIn, odIn, .func (PySem.W.fnOf "is_name" "is_name" (defArgs sIn) (defBody sIn) (defScope sIn) .none kVIn dcIn pmIn anIn cdIn ctIn), slIn⟩)
    (cIn : PySem.W.codeIn K cdIn "is_name" = true)
    (kIn : PySem.W.keepIn K (.ref fIn) = true)
    (aAn : PySem.W.nsIn K mainGlobals "are_names" = some (some (.ref fAn)))
    (lAn : K.lookup fAn = some ⟨ocAn, odAn, .func (PySem.W.fnOf "are_names" "are_names" (defArgs sAn) (defBody sAn) (defScope sAn) .none kVAn dcAn pmAn anAn cdAn ctAn), slAn⟩)
    (cAn : PySem.W.codeIn K cdAn "are_names" = true)
    (kAn : PySem.W.keepIn K (.ref fAn) = true)
    (aRg : PySem.W.nsIn K mainGlobals "read_ground" = some (some (.ref fRg)))
    (lRg : K.lookup fRg = some ⟨ocRg, odRg, .func (PySem.W.fnOf "read_ground" "read_ground" (defArgs sRg) (defBody sRg) (defScope sRg) .none kVRg dcRg pmRg anRg cdRg ctRg), slRg⟩)
    (cRg : PySem.W.codeIn K cdRg "read_ground" = true)
    (kRg : PySem.W.keepIn K (.ref fRg) = true)
    (aRp : PySem.W.nsIn K mainGlobals "_read_prime" = some (some (.ref fRp)))
    (lRp : K.lookup fRp = some ⟨ocRp, odRp, .func (PySem.W.fnOf "_read_prime" "_read_prime" (defArgs sRp) (defBody sRp) (defScope sRp) .none kVRp dcRp pmRp anRp cdRp ctRp), slRp⟩)
    (cRp : PySem.W.codeIn K cdRp "_read_prime" = true)
    (kRp : PySem.W.keepIn K (.ref fRp) = true)
    (aBag : PySem.W.nsIn K mainGlobals "_law_bag" = some (some (.ref fBag)))
    (lBag : K.lookup fBag = some ⟨ocBag, odBag, .func (PySem.W.fnOf "_law_bag" "_law_bag" (defArgs sBag) (defBody sBag) (defScope sBag) .none kVBag dcBag pmBag anBag cdBag ctBag), slBag⟩)
    (cBag : PySem.W.codeIn K cdBag "_law_bag" = true)
    (kBag : PySem.W.keepIn K (.ref fBag) = true)
    (aDraw : PySem.W.nsIn K mainGlobals "_law_draw" = some (some (.ref fDraw)))
    (lDraw : K.lookup fDraw = some ⟨ocDraw, odDraw, .func (PySem.W.fnOf "_law_draw" "_law_draw" (defArgs sDraw) (defBody sDraw) (defScope sDraw) .none kVDraw dcDraw pmDraw anDraw cdDraw ctDraw), slDraw⟩)
    (cDraw : PySem.W.codeIn K cdDraw "_law_draw" = true)
    (kDraw : PySem.W.keepIn K (.ref fDraw) = true)
    (aOf : PySem.W.nsIn K mainGlobals "_law_of" = some (some (.ref fOf)))
    (lOf : K.lookup fOf = some ⟨ocOf, odOf, .func (PySem.W.fnOf "_law_of" "_law_of" (defArgs sOf) (defBody sOf) (defScope sOf) .none kVOf dcOf pmOf anOf cdOf ctOf), slOf⟩)
    (cOf : PySem.W.codeIn K cdOf "_law_of" = true)
    (kOf : PySem.W.keepIn K (.ref fOf) = true)
    (aLk : PySem.W.nsIn K mainGlobals "_law_like" = some (some (.ref fLk)))
    (lLk : K.lookup fLk = some ⟨ocLk, odLk, .func (PySem.W.fnOf "_law_like" "_law_like" (defArgs sLk) (defBody sLk) (defScope sLk) .none kVLk dcLk pmLk anLk cdLk ctLk), slLk⟩)
    (cLk : PySem.W.codeIn K cdLk "_law_like" = true)
    (kLk : PySem.W.keepIn K (.ref fLk) = true)
    (aKt : PySem.W.nsIn K mainGlobals "_law_kind_text" = some (some (.ref fKt)))
    (lKt : K.lookup fKt = some ⟨ocKt, odKt, .func (PySem.W.fnOf "_law_kind_text" "_law_kind_text" (defArgs sKt) (defBody sKt) (defScope sKt) .none kVKt dcKt pmKt anKt cdKt ctKt), slKt⟩)
    (cKt : PySem.W.codeIn K cdKt "_law_kind_text" = true)
    (kKt : PySem.W.keepIn K (.ref fKt) = true)
    (aGt : PySem.W.nsIn K mainGlobals "_law_ground_text" = some (some (.ref fGt)))
    (lGt : K.lookup fGt = some ⟨ocGt, odGt, .func (PySem.W.fnOf "_law_ground_text" "_law_ground_text" (defArgs sGt) (defBody sGt) (defScope sGt) .none kVGt dcGt pmGt anGt cdGt ctGt), slGt⟩)
    (cGt : PySem.W.codeIn K cdGt "_law_ground_text" = true)
    (kGt : PySem.W.keepIn K (.ref fGt) = true)
    (aNm : PySem.W.nsIn K mainGlobals "_law_name" = some (some (.ref fNm)))
    (lNm : K.lookup fNm = some ⟨ocNm, odNm, .func (PySem.W.fnOf "_law_name" "_law_name" (defArgs sNm) (defBody sNm) (defScope sNm) .none kVNm dcNm pmNm anNm cdNm ctNm), slNm⟩)
    (cNm : PySem.W.codeIn K cdNm "_law_name" = true)
    (kNm : PySem.W.keepIn K (.ref fNm) = true)
    (aLd : PySem.W.nsIn K mainGlobals "_law_land" = some (some (.ref fLd)))
    (lLd : K.lookup fLd = some ⟨ocLd, odLd, .func (PySem.W.fnOf "_law_land" "_law_land" (defArgs sLd) (defBody sLd) (defScope sLd) .none kVLd dcLd pmLd anLd cdLd ctLd), slLd⟩)
    (cLd : PySem.W.codeIn K cdLd "_law_land" = true)
    (kLd : PySem.W.keepIn K (.ref fLd) = true)
    (aNs : PySem.W.nsIn K mainGlobals "_law_name_so" = some (some (.ref fNs)))
    (lNs : K.lookup fNs = some ⟨ocNs, odNs, .func (PySem.W.fnOf "_law_name_so" "_law_name_so" (defArgs sNs) (defBody sNs) (defScope sNs) .none kVNs dcNs pmNs anNs cdNs ctNs), slNs⟩)
    (cNs : PySem.W.codeIn K cdNs "_law_name_so" = true)
    (kNs : PySem.W.keepIn K (.ref fNs) = true)
    (aNz : PySem.W.nsIn K mainGlobals "_law_names_so" = some (some (.ref fNz)))
    (lNz : K.lookup fNz = some ⟨ocNz, odNz, .func (PySem.W.fnOf "_law_names_so" "_law_names_so" (defArgs sNz) (defBody sNz) (defScope sNz) .none kVNz dcNz pmNz anNz cdNz ctNz), slNz⟩)
    (cNz : PySem.W.codeIn K cdNz "_law_names_so" = true)
    (kNz : PySem.W.keepIn K (.ref fNz) = true)
    (aPd : PySem.W.nsIn K mainGlobals "_law_prime_due" = some (some (.ref fPd)))
    (lPd : K.lookup fPd = some ⟨ocPd, odPd, .func (PySem.W.fnOf "_law_prime_due" "_law_prime_due" (defArgs sPd) (defBody sPd) (defScope sPd) .none kVPd dcPd pmPd anPd cdPd ctPd), slPd⟩)
    (cPd : PySem.W.codeIn K cdPd "_law_prime_due" = true)
    (kPd : PySem.W.keepIn K (.ref fPd) = true)
    (aGd : PySem.W.nsIn K mainGlobals "_law_ground_due" = some (some (.ref fGd)))
    (lGd : K.lookup fGd = some ⟨ocGd, odGd, .func (PySem.W.fnOf "_law_ground_due" "_law_ground_due" (defArgs sGd) (defBody sGd) (defScope sGd) .none kVGd dcGd pmGd anGd cdGd ctGd), slGd⟩)
    (cGd : PySem.W.codeIn K cdGd "_law_ground_due" = true)
    (kGd : PySem.W.keepIn K (.ref fGd) = true)
    (aLi : PySem.W.nsIn K mainGlobals "_law_line" = some (some (.ref fLi)))
    (lLi : K.lookup fLi = some ⟨ocLi, odLi, .func (PySem.W.fnOf "_law_line" "_law_line" (defArgs sLi) (defBody sLi) (defScope sLi) .none kVLi dcLi pmLi anLi cdLi ctLi), slLi⟩)
    (cLi : PySem.W.codeIn K cdLi "_law_line" = true)
    (kLi : PySem.W.keepIn K (.ref fLi) = true)
    (aBe : PySem.W.nsIn K mainGlobals "_law_bent" = some (some (.ref fBe)))
    (lBe : K.lookup fBe = some ⟨ocBe, odBe, .func (PySem.W.fnOf "_law_bent" "_law_bent" (defArgs sBe) (defBody sBe) (defScope sBe) .none kVBe dcBe pmBe anBe cdBe ctBe), slBe⟩)
    (cBe : PySem.W.codeIn K cdBe "_law_bent" = true)
    (kBe : PySem.W.keepIn K (.ref fBe) = true)
    (aTs : PySem.W.nsIn K mainGlobals "_law_told_so" = some (some (.ref fTs)))
    (lTs : K.lookup fTs = some ⟨ocTs, odTs, .func (PySem.W.fnOf "_law_told_so" "_law_told_so" (defArgs sTs) (defBody sTs) (defScope sTs) .none kVTs dcTs pmTs anTs cdTs ctTs), slTs⟩)
    (cTs : PySem.W.codeIn K cdTs "_law_told_so" = true)
    (kTs : PySem.W.keepIn K (.ref fTs) = true)
    (aEr : PySem.W.nsIn K mainGlobals "_law_error_so" = some (some (.ref fEr)))
    (lEr : K.lookup fEr = some ⟨ocEr, odEr, .func (PySem.W.fnOf "_law_error_so" "_law_error_so" (defArgs sEr) (defBody sEr) (defScope sEr) .none kVEr dcEr pmEr anEr cdEr ctEr), slEr⟩)
    (cEr : PySem.W.codeIn K cdEr "_law_error_so" = true)
    (kEr : PySem.W.keepIn K (.ref fEr) = true)
    (aTx : PySem.W.nsIn K mainGlobals "_law_text_so" = some (some (.ref fTx)))
    (lTx : K.lookup fTx = some ⟨ocTx, odTx, .func (PySem.W.fnOf "_law_text_so" "_law_text_so" (defArgs sTx) (defBody sTx) (defScope sTx) .none kVTx dcTx pmTx anTx cdTx ctTx), slTx⟩)
    (cTx : PySem.W.codeIn K cdTx "_law_text_so" = true)
    (kTx : PySem.W.keepIn K (.ref fTx) = true)
    (aNl : PySem.W.nsIn K mainGlobals "_law_names_list" = some (some (.ref fNl)))
    (lNl : K.lookup fNl = some ⟨ocNl, odNl, .func (PySem.W.fnOf "_law_names_list" "_law_names_list" (defArgs sNl) (defBody sNl) (defScope sNl) .none kVNl dcNl pmNl anNl cdNl ctNl), slNl⟩)
    (cNl : PySem.W.codeIn K cdNl "_law_names_list" = true)
    (kNl : PySem.W.keepIn K (.ref fNl) = true)
    (aWs : PySem.W.nsIn K mainGlobals "_law_with_so" = some (some (.ref fWs)))
    (lWs : K.lookup fWs = some ⟨ocWs, odWs, .func (PySem.W.fnOf "_law_with_so" "_law_with_so" (defArgs sWs) (defBody sWs) (defScope sWs) .none kVWs dcWs pmWs anWs cdWs ctWs), slWs⟩)
    (cWs : PySem.W.codeIn K cdWs "_law_with_so" = true)
    (kWs : PySem.W.keepIn K (.ref fWs) = true)
    (aOt : PySem.W.nsIn K mainGlobals "_law_other" = some (some (.ref fOt)))
    (lOt : K.lookup fOt = some ⟨ocOt, odOt, .func (PySem.W.fnOf "_law_other" "_law_other" (defArgs sOt) (defBody sOt) (defScope sOt) .none kVOt dcOt pmOt anOt cdOt ctOt), slOt⟩)
    (cOt : PySem.W.codeIn K cdOt "_law_other" = true)
    (kOt : PySem.W.keepIn K (.ref fOt) = true)
    (aLw : PySem.W.nsIn K mainGlobals "law" = some (some (.ref fLw)))
    (lLw : K.lookup fLw = some ⟨ocLw, odLw, .func (PySem.W.fnOf "law" "law" (defArgs sLw) (defBody sLw) (defScope sLw) .none kVLw dcLw pmLw anLw cdLw ctLw), slLw⟩)
    (cLw : PySem.W.codeIn K cdLw "law" = true)
    (kLw : PySem.W.keepIn K (.ref fLw) = true)
    (z_len : PySem.W.nsIn K mainGlobals "len" = some none)
    (z_list : PySem.W.nsIn K mainGlobals "list" = some none)
    (z_tuple : PySem.W.nsIn K mainGlobals "tuple" = some none)
    (z_bool : PySem.W.nsIn K mainGlobals "bool" = some none)
    (z_int : PySem.W.nsIn K mainGlobals "int" = some none)
    (z_str : PySem.W.nsIn K mainGlobals "str" = some none)
    (z_min : PySem.W.nsIn K mainGlobals "min" = some none)
    (z_all : PySem.W.nsIn K mainGlobals "all" = some none)
    (z_isinstance : PySem.W.nsIn K mainGlobals "isinstance" = some none)
    (z_range : PySem.W.nsIn K mainGlobals "range" = some none)
    (z_zip : PySem.W.nsIn K mainGlobals "zip" = some none)
    (z_set : PySem.W.nsIn K mainGlobals "set" = some none)
    (aCB : PySem.W.nsIn K mainGlobals "BadGround" = some (some (.ref CB)))
    (xCB : K.lookup CB = some (excClassObj nmCB qCB CB NCB bsCB bmCB true snCB subCB abCB colCB ddCB m0CB m1CB m2CB m3CB m5CB "ValueError.__new__"))
    (rCB : PySem.HandSPX.refsVE bmCB = true)
    (saCB : PySem.W.findIn K (.ref CB) "__setattr__" = some (some (.builtin "object.__setattr__")))
    (eCB : PySem.W.subIn K (.ref CB) (.type "BaseException") = some true)
    (tCB : PySem.W.typeIn K (.ref CB) = some (.type "type"))
    (kCB : PySem.W.keepIn K (.ref CB) = true)
    (iaCB : PySem.W.findIn K (.ref CB) "__init__" = some (some (.ref fCB)))
    (itCB : PySem.W.typeIn K (.ref fCB) = some (.type "function"))
    (ilCB : K.lookup fCB = some ⟨ocCB, odCB, .func (PySem.W.fnOf "__init__" "BadGround.__init__" (defArgs iBG) (defBody iBG) (defScope iBG) .none kVCB dcCB pmCB anCB cdCB ctCB), slCB⟩)
    (icCB : PySem.W.codeIn K cdCB "BadGround.__init__" = true)
    (ikCB : PySem.W.keepIn K (.ref fCB) = true)
    (nlineCB : PySem.W.findIn K (.ref CB) "line" = some none)
    (nwhyCB : PySem.W.findIn K (.ref CB) "why" = some none)
    (ncodeCB : PySem.W.findIn K (.ref CB) "code" = some none)
    (aCT : PySem.W.nsIn K mainGlobals "TooMany" = some (some (.ref CT)))
    (xCT : K.lookup CT = some (excClassObj nmCT qCT CT NCT bsCT bmCT true snCT subCT abCT colCT ddCT m0CT m1CT m2CT m3CT m5CT "ValueError.__new__"))
    (rCT : PySem.HandSPX.refsVE bmCT = true)
    (saCT : PySem.W.findIn K (.ref CT) "__setattr__" = some (some (.builtin "object.__setattr__")))
    (eCT : PySem.W.subIn K (.ref CT) (.type "BaseException") = some true)
    (tCT : PySem.W.typeIn K (.ref CT) = some (.type "type"))
    (kCT : PySem.W.keepIn K (.ref CT) = true)
    (iaCT : PySem.W.findIn K (.ref CT) "__init__" = some (some (.ref fCT)))
    (itCT : PySem.W.typeIn K (.ref fCT) = some (.type "function"))
    (ilCT : K.lookup fCT = some ⟨ocCT, odCT, .func (PySem.W.fnOf "__init__" "TooMany.__init__" (defArgs iTM) (defBody iTM) (defScope iTM) .none kVCT dcCT pmCT anCT cdCT ctCT), slCT⟩)
    (icCT : PySem.W.codeIn K cdCT "TooMany.__init__" = true)
    (ikCT : PySem.W.keepIn K (.ref fCT) = true)
    (nwhatCT : PySem.W.findIn K (.ref CT) "what" = some none)
    (ncountCT : PySem.W.findIn K (.ref CT) "count" = some none)
    (ncodeCT : PySem.W.findIn K (.ref CT) "code" = some none)
    (Bga : PySem.W.findIn K (.ref CB) "__getattribute__" = some (some (.builtin "BaseException.__getattribute__")))
    (Bgg : PySem.W.findIn K (.ref CB) "__getattr__" = some none)
    (Bhd : PySem.W.hasDictIn K CB = true)
    (Bha : PySem.W.findIn K (.ref CB) "__class__" = some (some (.builtin "object.__class__")))
    (Bhn : PySem.W.specialIn K (.builtin "object.__class__") "__get__" = some (some (.builtin "getset_descriptor.__get__")))
    (Bht : PySem.W.takesIn K (.builtin "object.__class__") = some true)
    (Bhm : PySem.W.mroIn K CB (.type "object") = some true)
    (Bk1 : PySem.W.kitOne K (.ref CB) (.ref CB) = some true)
    (aCD : PySem.W.nsIn K mainGlobals "DeepError" = some (some (.ref CD)))
    (dpCD : PySem.W.exmOne K (.ref CB) (.ref CD) = some true)
    (aC : PySem.W.nsIn K mainGlobals "Ground" = some (some (.ref C)))
    (Gpg : PySem.W.plainGet K C Str.empty = true)
    (Ghd : PySem.W.hasDictIn K C = true)
    (Gpo : PySem.W.plainOver K C = true)
    (Gsa : PySem.W.findIn K (.ref C) "__setattr__" = some (some (.builtin "object.__setattr__")))
    (Gkind : NoAttr K C "kind")
    (Gprime : NoAttr K C "prime")
    (Gdirections : NoAttr K C "directions")
    (Gnames : NoAttr K C "names")
    (Gtext : NoAttr K C "text")
    (Gca : PySem.W.findIn K (.ref C) "__class__" = some (some (.builtin "object.__class__")))
    (Gcm : PySem.W.mroIn K C (.type "object") = some true)
    (Gk1 : PySem.W.kitOne K (.ref C) (.ref C) = some true)
    (Gk2 : PySem.W.kitOne K (.type "str") (.ref C) = some false)
    (Gmk : PySem.W.makesIn K C = true)
    (Gkc : PySem.W.keepIn K (.ref C) = true)
    (Gnf : PySem.W.notFirst K C (.type "str") = true)
    (aGi : PySem.W.findIn K (.ref C) "__init__" = some (some (.ref fGi)))
    (iGi' : PySem.W.isFn K (.ref fGi) = true)
    (lGi : K.lookup fGi = some ⟨ocGi, odGi, .func (PySem.W.fnOf "__init__" "Ground.__init__" (defArgs iGi) (defBody iGi) (defScope iGi) .none (.ref Dk) dcGi pmGi anGi cdGi ctGi), slGi⟩)
    (cGi : PySem.W.codeIn K cdGi "Ground.__init__" = true)
    (kGi : PySem.W.keepIn K (.ref fGi) = true)
    (aGe : PySem.W.findIn K (.ref C) "__eq__" = some (some (.ref fGe)))
    (iGe' : PySem.W.isFn K (.ref fGe) = true)
    (lGe : K.lookup fGe = some ⟨ocGe, odGe, .func (PySem.W.fnOf "__eq__" "Ground.__eq__" (defArgs iGe) (defBody iGe) (defScope iGe) .none kVGe dcGe pmGe anGe cdGe ctGe), slGe⟩)
    (cGe : PySem.W.codeIn K cdGe "Ground.__eq__" = true)
    (kGe : PySem.W.keepIn K (.ref fGe) = true)
    (aGw : PySem.W.findIn K (.ref C) "with_names" = some (some (.ref fGw)))
    (iGw' : PySem.W.isFn K (.ref fGw) = true)
    (lGw : K.lookup fGw = some ⟨ocGw, odGw, .func (PySem.W.fnOf "with_names" "Ground.with_names" (defArgs iGw) (defBody iGw) (defScope iGw) .none kVGw dcGw pmGw anGw cdGw ctGw), slGw⟩)
    (cGw : PySem.W.codeIn K cdGw "Ground.with_names" = true)
    (kGw : PySem.W.keepIn K (.ref fGw) = true)
    (dk : PySem.W.nsIn K Dk "bounded" = some (some (.bool true)))
    (gL : PySem.W.nsIn K mainGlobals "LETTERS" = some (some (.str LET tL)))
    (gS : PySem.W.nsIn K mainGlobals "SIGNS" = some (some (.str SGN tS)))
    (gD : PySem.W.nsIn K mainGlobals "DIRECTIONS" = some (some (.ref aD)))
    (gP : PySem.W.nsIn K mainGlobals "PRIMES" = some (some (.ref aP)))
    (lD : K.lookup aD = some ⟨.type "tuple", odD, .seq #[.str "directions x" tD1, .str "directions x y" tD2, .str "directions x y z" tD3] nD, slD⟩)
    (lP : K.lookup aP = some ⟨.type "tuple", odP, .seq #[.int 2 tP2, .int 3 tP3, .int 5 tP5, .int 7 tP7, .int 11 tP11, .int 13 tP13, .int 17 tP17, .int 19 tP19, .int 23 tP23, .int 29 tP29, .int 31 tP31, .int 37 tP37, .int 41 tP41, .int 43 tP43, .int 47 tP47, .int 53 tP53, .int 59 tP59, .int 61 tP61, .int 67 tP67, .int 71 tP71, .int 73 tP73, .int 79 tP79, .int 83 tP83, .int 89 tP89, .int 97 tP97] nP, slP⟩) :
    ∃ fd : FuncData, (∀ (s : Shared) (v : Value), BindsTo s fd ⟨[v], []⟩ [("script", v)]) ∧ ∀ base : Heap, K.In base → base.Ns mainGlobals mg → FnOk P w K mg base (L2N.CX P w) 9 fa fd ["script"] (spLaw K) := by
  have e := hfa.symm.trans (PySem.W.mg_of X G aLw)
  cases e
  refine ⟨PySem.W.fnOf "law" "law" (defArgs sLw) (defBody sLw) (defScope sLw) .none kVLw dcLw pmLw anLw cdLw ctLw, fun s v => .of_eq rfl, fun base _ _ => ?_⟩
  have FAs := fun_mk (st := sAs) lAs cAs kAs
  have bAs := FAs.binds (ps := ["what", "count", "most"]) fun _ _ _ _ _ _ us hl => match us, hl with | [_, _, _], _ => rfl
  have DAs : DefAt K mg "ask" ["what", "count", "most"] sAs := ⟨_, _, FAs, PySem.W.mg_of X G aAs, bAs⟩
  have FAt := fun_mk (st := sAt) lAt cAt kAt
  have bAt := FAt.binds (ps := ["text"]) fun _ _ _ _ _ _ us hl => match us, hl with | [_], _ => rfl
  have DAt : DefAt K mg "ask_text" ["text"] sAt := ⟨_, _, FAt, PySem.W.mg_of X G aAt, bAt⟩
  have FLo := fun_mk (st := sLo) lLo cLo kLo
  have bLo := FLo.binds (ps := ["text"]) fun _ _ _ _ _ _ us hl => match us, hl with | [_], _ => rfl
  have DLo : DefAt K mg "lines_of" ["text"] sLo := ⟨_, _, FLo, PySem.W.mg_of X G aLo, bLo⟩
  have FIn := fun_mk (st := sIn) lIn cIn kIn
  have bIn := FIn.binds (ps := ["word"]) fun _ _ _ _ _ _ us hl => match us, hl with | [_], _ => rfl
  have DIn : DefAt K mg "is_name" ["word"] sIn := ⟨_, _, FIn, PySem.W.mg_of X G aIn, bIn⟩
  have FAn := fun_mk (st := sAn) lAn cAn kAn
  have bAn := FAn.binds (ps := ["words"]) fun _ _ _ _ _ _ us hl => match us, hl with | [_], _ => rfl
  have DAn : DefAt K mg "are_names" ["words"] sAn := ⟨_, _, FAn, PySem.W.mg_of X G aAn, bAn⟩
  have FRg := fun_mk (st := sRg) lRg cRg kRg
  have bRg := FRg.binds (ps := ["lines"]) fun _ _ _ _ _ _ us hl => match us, hl with | [_], _ => rfl
  have DRg : DefAt K mg "read_ground" ["lines"] sRg := ⟨_, _, FRg, PySem.W.mg_of X G aRg, bRg⟩
  have FRp := fun_mk (st := sRp) lRp cRp kRp
  have bRp := FRp.binds (ps := ["line"]) fun _ _ _ _ _ _ us hl => match us, hl with | [_], _ => rfl
  have DRp : DefAt K mg "_read_prime" ["line"] sRp := ⟨_, _, FRp, PySem.W.mg_of X G aRp, bRp⟩
  have FBag := fun_mk (st := sBag) lBag cBag kBag
  have bBag := FBag.binds (ps := ["script"]) fun _ _ _ _ _ _ us hl => match us, hl with | [_], _ => rfl
  have DBag : DefAt K mg "_law_bag" ["script"] sBag := ⟨_, _, FBag, PySem.W.mg_of X G aBag, bBag⟩
  have FDraw := fun_mk (st := sDraw) lDraw cDraw kDraw
  have bDraw := FDraw.binds (ps := ["bag", "size"]) fun _ _ _ _ _ _ us hl => match us, hl with | [_, _], _ => rfl
  have DDraw : DefAt K mg "_law_draw" ["bag", "size"] sDraw := ⟨_, _, FDraw, PySem.W.mg_of X G aDraw, bDraw⟩
  have FOf := fun_mk (st := sOf) lOf cOf kOf
  have bOf := FOf.binds (ps := ["bag", "things"]) fun _ _ _ _ _ _ us hl => match us, hl with | [_, _], _ => rfl
  have DOf : DefAt K mg "_law_of" ["bag", "things"] sOf := ⟨_, _, FOf, PySem.W.mg_of X G aOf, bOf⟩
  have FLk := fun_mk (st := sLk) lLk cLk kLk
  have bLk := FLk.binds (ps := ["told", "due"]) fun _ _ _ _ _ _ us hl => match us, hl with | [_, _], _ => rfl
  have DLk : DefAt K mg "_law_like" ["told", "due"] sLk := ⟨_, _, FLk, PySem.W.mg_of X G aLk, bLk⟩
  have FKt := fun_mk (st := sKt) lKt cKt kKt
  have bKt := FKt.binds (ps := ["prime"]) fun _ _ _ _ _ _ us hl => match us, hl with | [_], _ => rfl
  have DKt : DefAt K mg "_law_kind_text" ["prime"] sKt := ⟨_, _, FKt, PySem.W.mg_of X G aKt, bKt⟩
  have FGt := fun_mk (st := sGt) lGt cGt kGt
  have bGt := FGt.binds (ps := ["land"]) fun _ _ _ _ _ _ us hl => match us, hl with | [_], _ => rfl
  have DGt : DefAt K mg "_law_ground_text" ["land"] sGt := ⟨_, _, FGt, PySem.W.mg_of X G aGt, bGt⟩
  have FNm := fun_mk (st := sNm) lNm cNm kNm
  have bNm := FNm.binds (ps := ["bag", "taken"]) fun _ _ _ _ _ _ us hl => match us, hl with | [_, _], _ => rfl
  have DNm : DefAt K mg "_law_name" ["bag", "taken"] sNm := ⟨_, _, FNm, PySem.W.mg_of X G aNm, bNm⟩
  have FLd := fun_mk (st := sLd) lLd cLd kLd
  have bLd := FLd.binds (ps := ["bag", "most"]) fun _ _ _ _ _ _ us hl => match us, hl with | [_, _], _ => rfl
  have DLd : DefAt K mg "_law_land" ["bag", "most"] sLd := ⟨_, _, FLd, PySem.W.mg_of X G aLd, bLd⟩
  have FNs := fun_mk (st := sNs) lNs cNs kNs
  have bNs := FNs.binds (ps := ["word"]) fun _ _ _ _ _ _ us hl => match us, hl with | [_], _ => rfl
  have DNs : DefAt K mg "_law_name_so" ["word"] sNs := ⟨_, _, FNs, PySem.W.mg_of X G aNs, bNs⟩
  have FNz := fun_mk (st := sNz) lNz cNz kNz
  have bNz := FNz.binds (ps := ["words"]) fun _ _ _ _ _ _ us hl => match us, hl with | [_], _ => rfl
  have DNz : DefAt K mg "_law_names_so" ["words"] sNz := ⟨_, _, FNz, PySem.W.mg_of X G aNz, bNz⟩
  have FPd := fun_mk (st := sPd) lPd cPd kPd
  have bPd := FPd.binds (ps := ["row"]) fun _ _ _ _ _ _ us hl => match us, hl with | [_], _ => rfl
  have DPd : DefAt K mg "_law_prime_due" ["row"] sPd := ⟨_, _, FPd, PySem.W.mg_of X G aPd, bPd⟩
  have FGd := fun_mk (st := sGd) lGd cGd kGd
  have bGd := FGd.binds (ps := ["text_in"]) fun _ _ _ _ _ _ us hl => match us, hl with | [_], _ => rfl
  have DGd : DefAt K mg "_law_ground_due" ["text_in"] sGd := ⟨_, _, FGd, PySem.W.mg_of X G aGd, bGd⟩
  have FLi := fun_mk (st := sLi) lLi cLi kLi
  have bLi := FLi.binds (ps := ["bag"]) fun _ _ _ _ _ _ us hl => match us, hl with | [_], _ => rfl
  have DLi : DefAt K mg "_law_line" ["bag"] sLi := ⟨_, _, FLi, PySem.W.mg_of X G aLi, bLi⟩
  have FBe := fun_mk (st := sBe) lBe cBe kBe
  have bBe := FBe.binds (ps := ["bag", "rows"]) fun _ _ _ _ _ _ us hl => match us, hl with | [_, _], _ => rfl
  have DBe : DefAt K mg "_law_bent" ["bag", "rows"] sBe := ⟨_, _, FBe, PySem.W.mg_of X G aBe, bBe⟩
  have FTs := fun_mk (st := sTs) lTs cTs kTs
  have bTs := FTs.binds (ps := ["gr", "land", "due"]) fun _ _ _ _ _ _ us hl => match us, hl with | [_, _, _], _ => rfl
  have DTs : DefAt K mg "_law_told_so" ["gr", "land", "due"] sTs := ⟨_, _, FTs, PySem.W.mg_of X G aTs, bTs⟩
  have FEr := fun_mk (st := sEr) lEr cEr kEr
  have bEr := FEr.binds (ps := ["e", "place"]) fun _ _ _ _ _ _ us hl => match us, hl with | [_, _], _ => rfl
  have DEr : DefAt K mg "_law_error_so" ["e", "place"] sEr := ⟨_, _, FEr, PySem.W.mg_of X G aEr, bEr⟩
  have FTx := fun_mk (st := sTx) lTx cTx kTx
  have bTx := FTx.binds (ps := ["text_in"]) fun _ _ _ _ _ _ us hl => match us, hl with | [_], _ => rfl
  have DTx : DefAt K mg "_law_text_so" ["text_in"] sTx := ⟨_, _, FTx, PySem.W.mg_of X G aTx, bTx⟩
  have FNl := fun_mk (st := sNl) lNl cNl kNl
  have bNl := FNl.binds (ps := ["bag", "land"]) fun _ _ _ _ _ _ us hl => match us, hl with | [_, _], _ => rfl
  have DNl : DefAt K mg "_law_names_list" ["bag", "land"] sNl := ⟨_, _, FNl, PySem.W.mg_of X G aNl, bNl⟩
  have FWs := fun_mk (st := sWs) lWs cWs kWs
  have bWs := FWs.binds (ps := ["bag", "gr", "land"]) fun _ _ _ _ _ _ us hl => match us, hl with | [_, _, _], _ => rfl
  have DWs : DefAt K mg "_law_with_so" ["bag", "gr", "land"] sWs := ⟨_, _, FWs, PySem.W.mg_of X G aWs, bWs⟩
  have FOt := fun_mk (st := sOt) lOt cOt kOt
  have bOt := FOt.binds (ps := ["bag", "land"]) fun _ _ _ _ _ _ us hl => match us, hl with | [_, _], _ => rfl
  have DOt : DefAt K mg "_law_other" ["bag", "land"] sOt := ⟨_, _, FOt, PySem.W.mg_of X G aOt, bOt⟩
  have FLw := fun_mk (st := sLw) lLw cLw kLw
  have bLw := FLw.binds (ps := ["script"]) fun _ _ _ _ _ _ us hl => match us, hl with | [_], _ => rfl
  have DLw : DefAt K mg "law" ["script"] sLw := ⟨_, _, FLw, PySem.W.mg_of X G aLw, bLw⟩
  have bn : Bn mg := ⟨PySem.W.mg_none_of X G z_len, PySem.W.mg_none_of X G z_list, PySem.W.mg_none_of X G z_tuple, PySem.W.mg_none_of X G z_bool, PySem.W.mg_none_of X G z_int, PySem.W.mg_none_of X G z_str, PySem.W.mg_none_of X G z_min, PySem.W.mg_none_of X G z_all, PySem.W.mg_none_of X G z_isinstance, PySem.W.mg_none_of X G z_range, PySem.W.mg_none_of X G z_zip, PySem.W.mg_none_of X G z_set⟩
  have TCB : OexC K CB := ⟨⟨nmCB, qCB, NCB, bsCB, bmCB, snCB, subCB, abCB, colCB, ddCB, m0CB, m1CB, m2CB, m3CB, m5CB, xCB, rCB⟩, saCB, eCB, tCB, kCB⟩
  have FCB := fun_mk (st := iBG) ilCB icCB ikCB
  have bCB := FCB.binds (ps := ["self", "line", "why"]) fun _ _ _ _ _ _ us hl => match us, hl with | [_, _, _], _ => rfl
  have e_BadGround : ExcAt P w K mg base "BadGround" CB "line" "why" := ⟨TCB, PySem.W.mg_of X G aCB, fCB, _, _, iaCB, itCB, ok_BG FCB TCB nlineCB nwhyCB ncodeCB, bCB⟩
  have TCT : OexC K CT := ⟨⟨nmCT, qCT, NCT, bsCT, bmCT, snCT, subCT, abCT, colCT, ddCT, m0CT, m1CT, m2CT, m3CT, m5CT, xCT, rCT⟩, saCT, eCT, tCT, kCT⟩
  have FCT := fun_mk (st := iTM) ilCT icCT ikCT
  have bCT := FCT.binds (ps := ["self", "what", "count"]) fun _ _ _ _ _ _ us hl => match us, hl with | [_, _, _], _ => rfl
  have e_TooMany : ExcAt P w K mg base "TooMany" CT "what" "count" := ⟨TCT, PySem.W.mg_of X G aCT, fCT, _, _, iaCT, itCT, ok_TM FCT TCT nwhatCT ncountCT ncodeCT, bCT⟩
  have exB : ExB K mg CB := ⟨⟨Bga, Bgg, eCB, Bhd⟩, ⟨Bga, Bgg, eCB, Bhd, Bha, Bhn, Bht, Bhm⟩, Bk1, PySem.W.mg_of X G aCB, nlineCB, nwhyCB, ncodeCB⟩
  have exD : ExD K mg CB CD := ⟨PySem.W.mg_of X G aCD, dpCD⟩
  have gr : GrC K mg C := ⟨⟨Gpg, Ghd, Gpo, Gsa⟩, Gkind, Gprime, Gdirections, Gnames, Gtext, ⟨⟨Gpg, Ghd, Gpo, Gsa⟩, Gca, Bhn, Bht, Gcm⟩, Gk1, Gk2, PySem.W.mg_of X G aC⟩
  have g_Ground : GAt K mg "Ground" (.adr C) := ⟨_, .ref C, PySem.W.mg_of X G aC, rfl, fun _ _ _ => .adr C⟩
  have g_LETTERS : GAt K mg "LETTERS" (.str LET) := ⟨_, .str LET, PySem.W.mg_of X G gL, ⟨tL, rfl⟩, fun _ _ _ => .str LET⟩
  have g_SIGNS : GAt K mg "SIGNS" (.str SGN) := ⟨_, .str SGN, PySem.W.mg_of X G gS, ⟨tS, rfl⟩, fun _ _ _ => .str SGN⟩
  have g_DIRECTIONS : GAt K mg "DIRECTIONS" (.tup [.str "directions x", .str "directions x y", .str "directions x y z"]) := ⟨_, .ref aD, PySem.W.mg_of X G gD, rfl, fun _ _ _ => .tupK ⟨_, _, nD, lD, rfl, rfl, by show 3 ≤ sizeLine; have := big; omega, .cons vS (.cons vS (.cons vS .nil))⟩ (.cons (.str _) (.cons (.str _) (.cons (.str _) .nil)))⟩
  have g_PRIMES : GAt K mg "PRIMES" (.tup (smallP.map D.int)) := ⟨_, .ref aP, PySem.W.mg_of X G gP, rfl, fun _ _ _ => .tupK ⟨_, _, nP, lP, rfl, rfl, by show 25 ≤ sizeLine; have := big; omega, (.cons vI (.cons vI (.cons vI (.cons vI (.cons vI (.cons vI (.cons vI (.cons vI (.cons vI (.cons vI (.cons vI (.cons vI (.cons vI (.cons vI (.cons vI (.cons vI (.cons vI (.cons vI (.cons vI (.cons vI (.cons vI (.cons vI (.cons vI (.cons vI (.cons vI .nil)))))))))))))))))))))))))⟩ (.cons (.int 2) (.cons (.int 3) (.cons (.int 5) (.cons (.int 7) (.cons (.int 11) (.cons (.int 13) (.cons (.int 17) (.cons (.int 19) (.cons (.int 23) (.cons (.int 29) (.cons (.int 31) (.cons (.int 37) (.cons (.int 41) (.cons (.int 43) (.cons (.int 47) (.cons (.int 53) (.cons (.int 59) (.cons (.int 61) (.cons (.int 67) (.cons (.int 71) (.cons (.int 73) (.cons (.int 79) (.cons (.int 83) (.cons (.int 89) (.cons (.int 97) .nil)))))))))))))))))))))))))⟩
  have c_draw := cal_draw (P := P) (wd := w) (base := base) DDraw bn
  have c_of := cal_lof DOf bn c_draw
  have c_kt := calKt (P := P) (wd := w) (base := base) DKt bn
  have c_gt := calGt DGt bn c_kt
  have c_nm := calNm DNm bn c_draw c_of
  have c_ld := calLd DLd bn c_draw c_of c_nm
  have c_ns := calNs (P := P) (wd := w) (base := base) DNs bn
  have c_in := calIn (P := P) (wd := w) (base := base) DIn bn g_LETTERS g_SIGNS
  have c_an := calAn DAn bn c_in
  have c_nz := calNz DNz bn c_ns
  have c_pd := calPd (P := P) (wd := w) (base := base) DPd bn
  have c_lo := calLo (P := P) (wd := w) (base := base) DLo bn
  have c_as := calAs DAs bn e_TooMany
  have c_at := calAt DAt bn c_as
  have c_rp := calRp DRp bn e_BadGround g_PRIMES
  have c_rg := calRg DRg bn c_rp c_an e_BadGround g_DIRECTIONS
  have c_gd := calGd DGd bn c_pd c_nz
  have iGiOk := ok_Gi bn gr c_at c_as c_lo c_rg rfl lGi cGi
  have FD : FunD K "__init__" "Ground.__init__" (defArgs iGi) (defBody iGi) (defScope iGi) [] [("bounded", .bl true)] fGi _ := ⟨⟨_, _, _, _, _, _, _, _, _, _, rfl, lGi, cGi, .inl ⟨rfl, rfl⟩, .inr ⟨Dk, rfl, fun q hq => by
    rw [List.mem_singleton] at hq
    subst hq
    exact ⟨_, dk, rfl⟩⟩⟩, kGi⟩
  obtain ⟨ds, vds, bds⟩ := FD.binds0 (ps := ["self", "text", "bounded"]) 2 (by simp) rfl fun D doc pm an cdv ct us ks hl hk => match us, ks, hl, hk with | [_, _], [_], _, _ => ⟨_, _, _, _, _, _, rfl, rfl, rfl⟩
  obtain ⟨mv, kbn⟩ := FD.kbinds0 (ps := ["self", "text", "bounded"]) 2 ["bounded"] [] (fun us _ ws => us ++ ws) (by simp) (fun q hq => by cases hq) (fun r1 _ r2 => r1.append r2) fun D doc pm an cdv ct us mv ws hl hm hk => match us, mv, ws, hl, hm, hk with | [_, _], [], [_], _, _, _ => rfl
  have c_Gr : MkAt P w K mg base C 5 (SGr CB) := ⟨fGi, _, ⟨Gmk, aGi, iGi', Gkc⟩, iGiOk, PySem.W.mg_of X G aC, ⟨ds, bds, vds⟩, fun s us ws X' h1 h2 => kbn.to s us ws X' h1 h2⟩
  have FGe := fun_mk (st := iGe) lGe cGe kGe
  have bGe := FGe.binds (ps := ["self", "other"]) fun _ _ _ _ _ _ us hl => match us, hl with | [_, _], _ => rfl
  have c_eq : EqAt P w K mg base C := ⟨fGe, _, ok_Ge bn gr g_Ground FGe, aGe, iGe', bGe, Gnf⟩
  have FGw := fun_mk (st := iGw) lGw cGw kGw
  have bGw := FGw.binds (ps := ["self", "names"]) fun _ _ _ _ _ _ us hl => match us, hl with | [_, _], _ => rfl
  have c_wn : MethAt P w K mg base C "with_names" ["self", "names"] 7 (SWn CB C) := ⟨fGw, _, ⟨aGw, iGw', kGw⟩, ok_Gw bn gr c_an c_lo c_Gr e_BadGround FGw, bGw⟩
  have c_lk := cal_Lk (P := P) (wd := w) (base := base) DLk bn
  have c_lkH := calH_Lk (P := P) (wd := w) (base := base) DLk bn
  have c_ts := cal_Ts DTs bn gr g_Ground (c_lk 3)
  have c_er := calX_Er DEr bn exB (c_lkH 2)
  have c_tx := cal_Tx DTx bn gr g_Ground exD c_Gr c_eq c_gd c_ts c_er
  have c_li := cal_Li DLi bn c_of
  have c_be := cal_Be DBe bn c_draw c_of c_li
  have c_nl := cal_Nl DNl bn c_draw c_of c_nm
  have c_ot := cal_Ot DOt bn c_draw c_of c_nm
  have c_ws := cal_Ws DWs bn gr exD c_eq c_wn c_draw c_nl c_nz c_er c_ts c_gt
  exact ok_law bn gr c_eq c_Gr c_draw c_ld c_gt c_tx c_ot c_be c_ws c_ts (ok_bag FBag bn.int bn.list) (PySem.W.mg_of X G aBag) kBag bBag FLw
theorem walk {l : PySem.W.OpenLaw} {q : Program} {loose : List Str} {XP : (Str → Option Value) → Heap → Prop} {YP : World → Heap → Prop} {d : DefRec} {K : Params → PySem.W.Frag} (hn : l.most = some 63) (hdf : d.params.defaults = [])
    (hY : ∀ (w : World) (h : Heap), YP w h → (K w.params).In h)
    (F : ∀ (w : World) (mg : Str → Option Value) (fa : Addr) (h : Heap), (K w.params).In h → h.Ns mainGlobals mg → mg d.name = some (.ref fa) →
      ∃ fd : FuncData, (∀ (s : Shared) (u : Value), BindsTo s fd ⟨[u], []⟩ [("script", u)]) ∧ ∀ base : Heap, (K w.params).In base → base.Ns mainGlobals mg → FnOk l.prog w (K w.params) mg base (L2N.CX l.prog w) 9 fa fd ["script"] (spLaw (K w.params))) :
    PySem.W.WalkO q loose XP YP l.row.toRowW d [] (fun f vs => PySem.call f vs) :=
  L2.walk_of (n := 63) (k := 9) (x := "script") (CX := fun w => L2N.CX l.prog w) (sp := fun w => spLaw (K w.params)) hn (by decide) hdf ⟨rfl, by decide, by decide⟩ hY F (fun _ _ a ns hl _ hS => ⟨a, ns, rfl, hS, hl, fun _ => rfl⟩) fun _ _ _ _ _ z => by
    obtain ⟨_, _, _, _, _, _, _, _, _, _, _, _, z⟩ := z
    exact z.elim
end K1
open PySem PySem.W PyProof.Rows
set_option Elab.async false
set_option maxRecDepth 100000 in
set_option maxHeartbeats 0 in
theorem PySem.Challenge.cw_deepfields_k01_grounds_there_and_back_holds : PySem.Challenge.rw_deepfields_k01_grounds_there_and_back.Holds := by
  w_on; o_law; k_head; (case hw => w_witness2)
  k_fill
  refine K1.walk (l := PySem.Challenge.rw_deepfields_k01_grounds_there_and_back) rfl rfl (fun w h Y => PySem.W.kIn_of Y) ?F
  case F =>
    intro w mg fa h KX G hmg
    refine' K1.all_mk KX G hmg ?aAs ?lAs ?cAs ?kAs ?aAt ?lAt ?cAt ?kAt ?aLo ?lLo ?cLo ?kLo ?aIn ?lIn ?cIn ?kIn ?aAn ?lAn ?cAn ?kAn ?aRg ?lRg ?cRg ?kRg ?aRp ?lRp ?cRp ?kRp ?aBag ?lBag ?cBag ?kBag ?aDraw ?lDraw ?cDraw ?kDraw ?aOf ?lOf ?cOf ?kOf ?aLk ?lLk ?cLk ?kLk ?aKt ?lKt ?cKt ?kKt ?aGt ?lGt ?cGt ?kGt ?aNm ?lNm ?cNm ?kNm ?aLd ?lLd ?cLd ?kLd ?aNs ?lNs ?cNs ?kNs ?aNz ?lNz ?cNz ?kNz ?aPd ?lPd ?cPd ?kPd ?aGd ?lGd ?cGd ?kGd ?aLi ?lLi ?cLi ?kLi ?aBe ?lBe ?cBe ?kBe ?aTs ?lTs ?cTs ?kTs ?aEr ?lEr ?cEr ?kEr ?aTx ?lTx ?cTx ?kTx ?aNl ?lNl ?cNl ?kNl ?aWs ?lWs ?cWs ?kWs ?aOt ?lOt ?cOt ?kOt ?aLw ?lLw ?cLw ?kLw ?z_len ?z_list ?z_tuple ?z_bool ?z_int ?z_str ?z_min ?z_all ?z_isinstance ?z_range ?z_zip ?z_set ?aCB ?xCB ?rCB ?saCB ?eCB ?tCB ?kCB ?iaCB ?itCB ?ilCB ?icCB ?ikCB ?nlineCB ?nwhyCB ?ncodeCB ?aCT ?xCT ?rCT ?saCT ?eCT ?tCT ?kCT ?iaCT ?itCT ?ilCT ?icCT ?ikCT ?nwhatCT ?ncountCT ?ncodeCT ?Bga ?Bgg ?Bhd ?Bha ?Bhn ?Bht ?Bhm ?Bk1 ?aCD ?dpCD ?aC ?Gpg ?Ghd ?Gpo ?Gsa ?Gkind ?Gprime ?Gdirections ?Gnames ?Gtext ?Gca ?Gcm ?Gk1 ?Gk2 ?Gmk ?Gkc ?Gnf ?aGi ?iGi' ?lGi ?cGi ?kGi ?aGe ?iGe' ?lGe ?cGe ?kGe ?aGw ?iGw' ?lGw ?cGw ?kGw ?dk ?gL ?gS ?gD ?gP ?lD ?lP
    (case aAs => first | k_is | rfl | decide +kernel)
    (case lAs => first | k_is | rfl | decide +kernel)
    (case cAs => first | k_is | rfl | decide +kernel)
    (case kAs => first | k_is | rfl | decide +kernel)
    (case aAt => first | k_is | rfl | decide +kernel)
    (case lAt => first | k_is | rfl | decide +kernel)
    (case cAt => first | k_is | rfl | decide +kernel)
    (case kAt => first | k_is | rfl | decide +kernel)
    (case aLo => first | k_is | rfl | decide +kernel)
    (case lLo => first | k_is | rfl | decide +kernel)
    (case cLo => first | k_is | rfl | decide +kernel)
    (case kLo => first | k_is | rfl | decide +kernel)
    (case aIn => first | k_is | rfl | decide +kernel)
    (case lIn => first | k_is | rfl | decide +kernel)
    (case cIn => first | k_is | rfl | decide +kernel)
    (case kIn => first | k_is | rfl | decide +kernel)
    (case aAn => first | k_is | rfl | decide +kernel)
    (case lAn => first | k_is | rfl | decide +kernel)
    (case cAn => first | k_is | rfl | decide +kernel)
    (case kAn => first | k_is | rfl | decide +kernel)
    (case aRg => first | k_is | rfl | decide +kernel)
    (case lRg => first | k_is | rfl | decide +kernel)
    (case cRg => first | k_is | rfl | decide +kernel)
    (case kRg => first | k_is | rfl | decide +kernel)
    (case aRp => first | k_is | rfl | decide +kernel)
    (case lRp => first | k_is | rfl | decide +kernel)
    (case cRp => first | k_is | rfl | decide +kernel)
    (case kRp => first | k_is | rfl | decide +kernel)
    (case aBag => first | k_is | rfl | decide +kernel)
    (case lBag => first | k_is | rfl | decide +kernel)
    (case cBag => first | k_is | rfl | decide +kernel)
    (case kBag => first | k_is | rfl | decide +kernel)
    (case aDraw => first | k_is | rfl | decide +kernel)
    (case lDraw => first | k_is | rfl | decide +kernel)
    (case cDraw => first | k_is | rfl | decide +kernel)
    (case kDraw => first | k_is | rfl | decide +kernel)
    (case aOf => first | k_is | rfl | decide +kernel)
    (case lOf => first | k_is | rfl | decide +kernel)
    (case cOf => first | k_is | rfl | decide +kernel)
    (case kOf => first | k_is | rfl | decide +kernel)
    (case aLk => first | k_is | rfl | decide +kernel)
    (case lLk => first | k_is | rfl | decide +kernel)
    (case cLk => first | k_is | rfl | decide +kernel)
    (case kLk => first | k_is | rfl | decide +kernel)
    (case aKt => first | k_is | rfl | decide +kernel)
    (case lKt => first | k_is | rfl | decide +kernel)
    (case cKt => first | k_is | rfl | decide +kernel)
    (case kKt => first | k_is | rfl | decide +kernel)
    (case aGt => first | k_is | rfl | decide +kernel)
    (case lGt => first | k_is | rfl | decide +kernel)
    (case cGt => first | k_is | rfl | decide +kernel)
    (case kGt => first | k_is | rfl | decide +kernel)
    (case aNm => first | k_is | rfl | decide +kernel)
    (case lNm => first | k_is | rfl | decide +kernel)
    (case cNm => first | k_is | rfl | decide +kernel)
    (case kNm => first | k_is | rfl | decide +kernel)
    (case aLd => first | k_is | rfl | decide +kernel)
    (case lLd => first | k_is | rfl | decide +kernel)
    (case cLd => first | k_is | rfl | decide +kernel)
    (case kLd => first | k_is | rfl | decide +kernel)
    (case aNs => first | k_is | rfl | decide +kernel)
    (case lNs => first | k_is | rfl | decide +kernel)
    (case cNs => first | k_is | rfl | decide +kernel)
    (case kNs => first | k_is | rfl | decide +kernel)
    (case aNz => first | k_is | rfl | decide +kernel)
    (case lNz => first | k_is | rfl | decide +kernel)
    (case cNz => first | k_is | rfl | decide +kernel)
    (case kNz => first | k_is | rfl | decide +kernel)
    (case aPd => first | k_is | rfl | decide +kernel)
    (case lPd => first | k_is | rfl | decide +kernel)
    (case cPd => first | k_is | rfl | decide +kernel)
    (case kPd => first | k_is | rfl | decide +kernel)
    (case aGd => first | k_is | rfl | decide +kernel)
    (case lGd => first | k_is | rfl | decide +kernel)
    (case cGd => first | k_is | rfl | decide +kernel)
    (case kGd => first | k_is | rfl | decide +kernel)
    (case aLi => first | k_is | rfl | decide +kernel)
    (case lLi => first | k_is | rfl | decide +kernel)
    (case cLi => first | k_is | rfl | decide +kernel)
    (case kLi => first | k_is | rfl | decide +kernel)
    (case aBe => first | k_is | rfl | decide +kernel)
    (case lBe => first | k_is | rfl | decide +kernel)
    (case cBe => first | k_is | rfl | decide +kernel)
    (case kBe => first | k_is | rfl | decide +kernel)
    (case aTs => first | k_is | rfl | decide +kernel)
    (case lTs => first | k_is | rfl | decide +kernel)
    (case cTs => first | k_is | rfl | decide +kernel)
    (case kTs => first | k_is | rfl | decide +kernel)
    (case aEr => first | k_is | rfl | decide +kernel)
    (case lEr => first | k_is | rfl | decide +kernel)
    (case cEr => first | k_is | rfl | decide +kernel)
    (case kEr => first | k_is | rfl | decide +kernel)
    (case aTx => first | k_is | rfl | decide +kernel)
    (case lTx => first | k_is | rfl | decide +kernel)
    (case cTx => first | k_is | rfl | decide +kernel)
    (case kTx => first | k_is | rfl | decide +kernel)
    (case aNl => first | k_is | rfl | decide +kernel)
    (case lNl => first | k_is | rfl | decide +kernel)
    (case cNl => first | k_is | rfl | decide +kernel)
    (case kNl => first | k_is | rfl | decide +kernel)
    (case aWs => first | k_is | rfl | decide +kernel)
    (case lWs => first | k_is | rfl | decide +kernel)
    (case cWs => first | k_is | rfl | decide +kernel)
    (case kWs => first | k_is | rfl | decide +kernel)
    (case aOt => first | k_is | rfl | decide +kernel)
    (case lOt => first | k_is | rfl | decide +kernel)
    (case cOt => first | k_is | rfl | decide +kernel)
    (case kOt => first | k_is | rfl | decide +kernel)
    (case aLw => first | k_is | rfl | decide +kernel)
    (case lLw => first | k_is | rfl | decide +kernel)
    (case cLw => first | k_is | rfl | decide +kernel)
    (case kLw => first | k_is | rfl | decide +kernel)
    (case z_len => first | k_is | rfl | decide +kernel)
    (case z_list => first | k_is | rfl | decide +kernel)
    (case z_tuple => first | k_is | rfl | decide +kernel)
    (case z_bool => first | k_is | rfl | decide +kernel)
    (case z_int => first | k_is | rfl | decide +kernel)
    (case z_str => first | k_is | rfl | decide +kernel)
    (case z_min => first | k_is | rfl | decide +kernel)
    (case z_all => first | k_is | rfl | decide +kernel)
    (case z_isinstance => first | k_is | rfl | decide +kernel)
    (case z_range => first | k_is | rfl | decide +kernel)
    (case z_zip => first | k_is | rfl | decide +kernel)
    (case z_set => first | k_is | rfl | decide +kernel)
    (case aCB => first | k_is | rfl | decide +kernel)
    (case xCB => first | k_is | rfl | decide +kernel)
    (case rCB => first | k_is | rfl | decide +kernel)
    (case saCB => first | k_is | rfl | decide +kernel)
    (case eCB => first | k_is | rfl | decide +kernel)
    (case tCB => first | k_is | rfl | decide +kernel)
    (case kCB => first | k_is | rfl | decide +kernel)
    (case iaCB => first | k_is | rfl | decide +kernel)
    (case itCB => first | k_is | rfl | decide +kernel)
    (case ilCB => first | k_is | rfl | decide +kernel)
    (case icCB => first | k_is | rfl | decide +kernel)
    (case ikCB => first | k_is | rfl | decide +kernel)
    (case nlineCB => first | k_is | rfl | decide +kernel)
    (case nwhyCB => first | k_is | rfl | decide +kernel)
    (case ncodeCB => first | k_is | rfl | decide +kernel)
    (case aCT => first | k_is | rfl | decide +kernel)
    (case xCT => first | k_is | rfl | decide +kernel)
    (case rCT => first | k_is | rfl | decide +kernel)
    (case saCT => first | k_is | rfl | decide +kernel)
    (case eCT => first | k_is | rfl | decide +kernel)
    (case tCT => first | k_is | rfl | decide +kernel)
    (case kCT => first | k_is | rfl | decide +kernel)
    (case iaCT => first | k_is | rfl | decide +kernel)
    (case itCT => first | k_is | rfl | decide +kernel)
    (case ilCT => first | k_is | rfl | decide +kernel)
    (case icCT => first | k_is | rfl | decide +kernel)
    (case ikCT => first | k_is | rfl | decide +kernel)
    (case nwhatCT => first | k_is | rfl | decide +kernel)
    (case ncountCT => first | k_is | rfl | decide +kernel)
    (case ncodeCT => first | k_is | rfl | decide +kernel)
    (case Bga => first | k_is | rfl | decide +kernel)
    (case Bgg => first | k_is | rfl | decide +kernel)
    (case Bhd => first | k_is | rfl | decide +kernel)
    (case Bha => first | k_is | rfl | decide +kernel)
    (case Bhn => first | k_is | rfl | decide +kernel)
    (case Bht => first | k_is | rfl | decide +kernel)
    (case Bhm => first | k_is | rfl | decide +kernel)
    (case Bk1 => first | k_is | rfl | decide +kernel)
    (case aCD => first | k_is | rfl | decide +kernel)
    (case dpCD => first | k_is | rfl | decide +kernel)
    (case aC => first | k_is | rfl | decide +kernel)
    (case Gpg => first | k_is | rfl | decide +kernel)
    (case Ghd => first | k_is | rfl | decide +kernel)
    (case Gpo => first | k_is | rfl | decide +kernel)
    (case Gsa => first | k_is | rfl | decide +kernel)
    (case Gkind => first | k_is | rfl | decide +kernel)
    (case Gprime => first | k_is | rfl | decide +kernel)
    (case Gdirections => first | k_is | rfl | decide +kernel)
    (case Gnames => first | k_is | rfl | decide +kernel)
    (case Gtext => first | k_is | rfl | decide +kernel)
    (case Gca => first | k_is | rfl | decide +kernel)
    (case Gcm => first | k_is | rfl | decide +kernel)
    (case Gk1 => first | k_is | rfl | decide +kernel)
    (case Gk2 => first | k_is | rfl | decide +kernel)
    (case Gmk => first | k_is | rfl | decide +kernel)
    (case Gkc => first | k_is | rfl | decide +kernel)
    (case Gnf => first | k_is | rfl | decide +kernel)
    (case aGi => first | k_is | rfl | decide +kernel)
    (case iGi' => first | k_is | rfl | decide +kernel)
    (case lGi => first | k_is | rfl | decide +kernel)
    (case cGi => first | k_is | rfl | decide +kernel)
    (case kGi => first | k_is | rfl | decide +kernel)
    (case aGe => first | k_is | rfl | decide +kernel)
    (case iGe' => first | k_is | rfl | decide +kernel)
    (case lGe => first | k_is | rfl | decide +kernel)
    (case cGe => first | k_is | rfl | decide +kernel)
    (case kGe => first | k_is | rfl | decide +kernel)
    (case aGw => first | k_is | rfl | decide +kernel)
    (case iGw' => first | k_is | rfl | decide +kernel)
    (case lGw => first | k_is | rfl | decide +kernel)
    (case cGw => first | k_is | rfl | decide +kernel)
    (case kGw => first | k_is | rfl | decide +kernel)
    (case dk => first | k_is | rfl | decide +kernel)
    (case gL => first | k_is | rfl | decide +kernel)
    (case gS => first | k_is | rfl | decide +kernel)
    (case gD => first | k_is | rfl | decide +kernel)
    (case gP => first | k_is | rfl | decide +kernel)
    (case lD => first | k_is | rfl | decide +kernel)
    (case lP => first | k_is | rfl | decide +kernel)
