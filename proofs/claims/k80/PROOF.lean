import PyProof.Rows.All
import Wide.All
import OpenK.AllK
import Wide.FinOn
import HandS.ForMost
import HandS.Exc
import HandS.ExcOwn
import HandS.WordsExc
import HandS.CallSlots
import HandS.Wide
import HandS.Style
import HandS.IsInst
import KE.DataEq
import KE.DataCmp
import KE.DatumOrd
import PyProof.StrBlock2
import HandS.Text
import HandS.Flow
import KE.SortData
import HandS.Conv
import HandS.RaiseMore
import HandS.Star
import HandS.StrMore
import HandS.Replace
import HandS.WideBits
import KE.KxWritten
import HandS.ReCall
import PyProof.ReprReads
import PyProof.ReprRoads
import KE.KExcSuper
import HandS.ExcInit
import HandS.Defaults
import HandS.ExcIs
import HandS.ExcValue
import HandS.ExcField
import HandS.TryOnly
import HandS.ReplaceLit
import PyProof.ListStr
import HandS.Ends
import HandS.Iter
import KE.GoesEnumKw
import HandS.Codes
import PySem.Challenge.RW_debtscleared_k80_whole_shares_of_trees
section
open PySem PySem.W PyProof.Rows
set_option Elab.async false
set_option maxRecDepth 100000
set_option maxHeartbeats 0
open_top hd80 for PySem.Challenge.rw_debtscleared_k80_whole_shares_of_trees
end

set_option Elab.async false
set_option linter.all false
set_option maxRecDepth 100000
/-! Values as data: what stands in the heap is read as a tree; slots that own their list may change it. -/
namespace PyD
open PySem PySem.Spec L2
open PyProof.Rows hiding St

/-- data: what a value and all that hangs on it is read as; scr: the law's own script (locked); exc: an own exception with its value; fn: a def -/
inductive D where
  | non | bl (b : Bool) | int (i : Int) | str (x : Str) | lst (ds : List D) | tup (ds : List D) | dct (es : List (D × D)) | scr (ns : List Int) | exc (c : Nat) (d : D) | fn (n : Nat)
instance : Inhabited D := ⟨.non⟩
/-- the written part, with the addresses of exception classes and of defs -/
structure KX where
  K : PySem.W.Frag
  CA : Nat → Addr
  FA : Nat → Addr
/-- what a slot holds: nothing; shared data; a list (dict) that it alone holds; one that the caller lent -/
inductive Cell where
  | no | sh (d : D) | ow (d : D) | rf (d : D)
abbrev Rho := List Cell
inductive R (α : Type) where
  | ok (a : α) | exc (c : Nat) (d : D) | bad
def R.bind {α β : Type} (r : R α) (f : α → R β) : R β := match r with
  | .ok a => f a
  | .exc c d => .exc c d
  | .bad => .bad
def R.map {α β : Type} (g : α → β) (r : R α) : R β := match r with
  | .ok a => .ok (g a)
  | .exc c d => .exc c d
  | .bad => .bad
def R.ofOpt {α : Type} : Option α → R α
  | some a => .ok a
  | none => .bad
@[simp] theorem R.bind_ok {α β : Type} (a : α) (f : α → R β) : (R.ok a).bind f = f a := rfl
@[simp] theorem R.bind_exc {α β : Type} (c : Nat) (d : D) (f : α → R β) : (R.exc c d : R α).bind f = .exc c d := rfl
@[simp] theorem R.bind_bad {α β : Type} (f : α → R β) : (R.bad : R α).bind f = .bad := rfl
@[simp] theorem R.map_ok {α β : Type} (a : α) (g : α → β) : (R.ok a).map g = .ok (g a) := rfl
@[simp] theorem R.ofOpt_some {α : Type} (a : α) : R.ofOpt (some a) = .ok a := rfl
@[simp] theorem R.ofOpt_none {α : Type} : R.ofOpt (none : Option α) = .bad := rfl
theorem R.bind_eq_ok {α β : Type} {r : R α} {f : α → R β} {b : β} (h : r.bind f = .ok b) : ∃ a, r = .ok a ∧ f a = .ok b := by
  cases r with
  | ok a => exact ⟨a, rfl, h⟩
  | exc c d => cases h
  | bad => cases h
theorem R.bind_eq_exc {α β : Type} {r : R α} {f : α → R β} {c : Nat} {d : D} (h : r.bind f = .exc c d) : r = .exc c d ∨ ∃ a, r = .ok a ∧ f a = .exc c d := by
  cases r with
  | ok a => exact .inr ⟨a, rfl, h⟩
  | exc c' d' => cases h; exact .inl rfl
  | bad => cases h
theorem R.ofOpt_eq_ok {α : Type} {o : Option α} {a : α} (h : R.ofOpt o = .ok a) : o = some a := by
  cases o with
  | some b => cases h; rfl
  | none => cases h
theorem R.ofOpt_ne_exc {α : Type} {o : Option α} {c : Nat} {d : D} (h : R.ofOpt o = .exc c d) : False := by
  cases o <;> cases h

/-! ### the heap read as data -/
open Classical in
noncomputable def cut (M : Addr → Prop) (H : Hp) : Hp := fun a => if M a then none else H a
theorem cut_in {M : Addr → Prop} {H : Hp} {a : Addr} (h : M a) : cut M H a = none := by unfold cut; rw [if_pos h]
theorem cut_out {M : Addr → Prop} {H : Hp} {a : Addr} (h : ¬ M a) : cut M H a = H a := by unfold cut; rw [if_neg h]
theorem cut_some {M : Addr → Prop} {H : Hp} {a : Addr} {o : HO} (h : cut M H a = some o) : ¬ M a ∧ H a = some o := by
  by_cases m : M a
  · rw [cut_in m] at h; cases h
  · rw [cut_out m] at h; exact ⟨m, h⟩
theorem cut_mk {M : Addr → Prop} {H : Hp} {a : Addr} {o : HO} (m : ¬ M a) (h : H a = some o) : cut M H a = some o := by rw [cut_out m]; exact h
theorem cut_same (M : Addr → Prop) (H : Hp) : Same (cut M H) H := fun _ _ h => (cut_some h).2
theorem cut_mono {M N : Addr → Prop} {H H' : Hp} (h : ∀ a o, ¬ M a → H a = some o → ¬ N a ∧ H' a = some o) : Same (cut M H) (cut N H') := fun a o e => by
  obtain ⟨m, e⟩ := cut_some e
  obtain ⟨n, e'⟩ := h a o m e
  exact cut_mk n e'

/-- a caught exception's object -/
def ExcHold (a C dx : Addr) : HO := .ext fun h => ∃ o, h.get? a = some o ∧ o.cls = .ref C ∧ o.dict = some dx ∧ ∃ vs, o.data = .fields vs
def keyD : Key → D
  | .inl i => .int i
  | .inr x => .str x
mutual
inductive Rp (K : KX) (H : Hp) : V → D → Prop
  | non : Rp K H .non .non
  | bl (b : Bool) : Rp K H (.bl b) (.bl b)
  | int (i : Int) : Rp K H (.int i) (.int i)
  | str (x : Str) : Rp K H (.str x) (.str x)
  | lst {a : Addr} {xs : List V} {ds : List D} : H a = some (.lst xs) → RpAll K H xs ds → Rp K H (.ref a) (.lst ds)
  | tup {a : Addr} {xs : List V} {ds : List D} : SqT K.K H a xs → RpAll K H xs ds → Rp K H (.ref a) (.tup ds)
  | dct {a : Addr} {kvs : List (Key × V)} {es : List (D × D)} : H a = some (.dK kvs) → RpKV K H kvs es → Rp K H (.ref a) (.dct es)
  | scr {a : Addr} {ns : List Int} : SqL K.K H a (ns.map V.int) → Rp K H (.ref a) (.scr ns)
  | exc {a dx : Addr} {c : Nat} {v : V} {d : D} : H a = some (ExcHold a (K.CA c) dx) → H dx = some (.xd [(("value" : Str), v)]) → Rp K H v d → Rp K H (.ref a) (.exc c d)
  | fn (n : Nat) : Rp K H (.ref (K.FA n)) (.fn n)
inductive RpAll (K : KX) (H : Hp) : List V → List D → Prop
  | nil : RpAll K H [] []
  | cons {v : V} {vs : List V} {d : D} {ds : List D} : Rp K H v d → RpAll K H vs ds → RpAll K H (v :: vs) (d :: ds)
inductive RpKV (K : KX) (H : Hp) : List (Key × V) → List (D × D) → Prop
  | nil : RpKV K H [] []
  | cons {k : Key} {v : V} {kvs : List (Key × V)} {d : D} {es : List (D × D)} : Rp K H v d → RpKV K H kvs es → RpKV K H ((k, v) :: kvs) ((keyD k, d) :: es)
end
section
variable {K : KX} {H H' : Hp}
theorem SqT.keep {K : PySem.W.Frag} {a : Addr} {xs : List V} (e : Same H H') (h : SqT K H a xs) : SqT K H' a xs := by
  rcases h with (h | ⟨o, h⟩) | h
  · exact .inl (.inl (e _ _ h))
  · exact .inl (.inr ⟨o, e _ _ h⟩)
  · exact .inr h
mutual
theorem Rp.keep (e : Same H H') : ∀ {v : V} {d : D}, Rp K H v d → Rp K H' v d
  | _, _, .non => .non
  | _, _, .bl b => .bl b
  | _, _, .int i => .int i
  | _, _, .str x => .str x
  | _, _, .lst h r => .lst (e _ _ h) (RpAll.keep e r)
  | _, _, .tup h r => .tup (SqT.keep e h) (RpAll.keep e r)
  | _, _, .dct h r => .dct (e _ _ h) (RpKV.keep e r)
  | _, _, .scr h => .scr (e.seq h)
  | _, _, .exc h1 h2 r => .exc (e _ _ h1) (e _ _ h2) (Rp.keep e r)
  | _, _, .fn n => .fn n
theorem RpAll.keep (e : Same H H') : ∀ {vs : List V} {ds : List D}, RpAll K H vs ds → RpAll K H' vs ds
  | _, _, .nil => .nil
  | _, _, .cons r t => .cons (Rp.keep e r) (RpAll.keep e t)
theorem RpKV.keep (e : Same H H') : ∀ {vs : List (Key × V)} {ds : List (D × D)}, RpKV K H vs ds → RpKV K H' vs ds
  | _, _, .nil => .nil
  | _, _, .cons r t => .cons (Rp.keep e r) (RpKV.keep e t)
end
theorem RpAll.length : ∀ {vs : List V} {ds : List D}, RpAll K H vs ds → vs.length = ds.length
  | _, _, .nil => rfl
  | _, _, .cons _ t => by rw [List.length_cons, List.length_cons, RpAll.length t]
theorem RpAll.get : ∀ {vs : List V} {ds : List D} {i : Nat} {d : D}, RpAll K H vs ds → ds[i]? = some d → ∃ v, vs[i]? = some v ∧ Rp K H v d
  | _, _, _, _, .nil, e => by simp at e
  | _, _, 0, _, .cons r _, e => by simp at e; subst e; exact ⟨_, rfl, r⟩
  | _, _, i + 1, _, .cons _ t, e => by
    obtain ⟨v, h1, h2⟩ := RpAll.get (i := i) t (by simpa using e)
    exact ⟨v, by simpa using h1, h2⟩
theorem RpAll.getV : ∀ {vs : List V} {ds : List D} {i : Nat} {v : V}, RpAll K H vs ds → vs[i]? = some v → ∃ d, ds[i]? = some d ∧ Rp K H v d
  | _, _, _, _, .nil, e => by simp at e
  | _, _, 0, _, .cons r _, e => by simp at e; subst e; exact ⟨_, rfl, r⟩
  | _, _, i + 1, _, .cons _ t, e => by
    obtain ⟨v, h1, h2⟩ := RpAll.getV (i := i) t (by simpa using e)
    exact ⟨v, by simpa using h1, h2⟩
theorem RpAll.append : ∀ {vs ws : List V} {ds es : List D}, RpAll K H vs ds → RpAll K H ws es → RpAll K H (vs ++ ws) (ds ++ es)
  | _, _, _, _, .nil, s => s
  | _, _, _, _, .cons r t, s => .cons r (RpAll.append t s)
theorem RpAll.take : ∀ {vs : List V} {ds : List D} (n : Nat), RpAll K H vs ds → RpAll K H (vs.take n) (ds.take n)
  | _, _, 0, _ => .nil
  | _, _, _ + 1, .nil => .nil
  | _, _, n + 1, .cons r t => .cons r (RpAll.take n t)
theorem RpAll.drop : ∀ {vs : List V} {ds : List D} (n : Nat), RpAll K H vs ds → RpAll K H (vs.drop n) (ds.drop n)
  | _, _, 0, r => r
  | _, _, _ + 1, .nil => .nil
  | _, _, n + 1, .cons _ t => RpAll.drop n t
theorem RpAll.set : ∀ {vs : List V} {ds : List D} {v : V} {d : D} (i : Nat), RpAll K H vs ds → Rp K H v d → RpAll K H (vs.set i v) (ds.set i d)
  | _, _, _, _, _, .nil, _ => .nil
  | _, _, _, _, 0, .cons _ t, r => .cons r t
  | _, _, _, _, i + 1, .cons q t, r => .cons q (RpAll.set i t r)
theorem RpAll.dropLast : ∀ {vs : List V} {ds : List D}, RpAll K H vs ds → RpAll K H vs.dropLast ds.dropLast := fun r => by
  rw [List.dropLast_eq_take, List.dropLast_eq_take, r.length]; exact r.take _
theorem RpAll.eraseIdx : ∀ {vs : List V} {ds : List D} (i : Nat), RpAll K H vs ds → RpAll K H (vs.eraseIdx i) (ds.eraseIdx i)
  | _, _, _, .nil => .nil
  | _, _, 0, .cons _ t => t
  | _, _, i + 1, .cons q t => .cons q (RpAll.eraseIdx i t)
theorem RpAll.ints : ∀ {vs : List V} {ns : List Int}, RpAll K H vs (ns.map .int) → vs = ns.map V.int
  | _, [], .nil => rfl
  | _, n :: ns, .cons r t => by
    cases r
    rw [List.map_cons, RpAll.ints t]
theorem RpAll.of_ints : ∀ ns : List Int, RpAll K H (ns.map V.int) (ns.map .int)
  | [] => .nil
  | n :: ns => .cons (.int n) (RpAll.of_ints ns)
theorem RpAll.bls : ∀ {vs : List V} {ns : List Bool}, RpAll K H vs (ns.map .bl) → vs = ns.map V.bl
  | _, [], .nil => rfl
  | _, n :: ns, .cons r t => by
    cases r
    rw [List.map_cons, RpAll.bls t]
theorem RpAll.strs : ∀ {vs : List V} {ns : List Str}, RpAll K H vs (ns.map .str) → vs = ns.map V.str
  | _, [], .nil => rfl
  | _, n :: ns, .cons r t => by
    cases r
    rw [List.map_cons, RpAll.strs t]
theorem RpAll.of_strs : ∀ ns : List Str, RpAll K H (ns.map V.str) (ns.map .str)
  | [] => .nil
  | n :: ns => .cons (.str n) (RpAll.of_strs ns)
mutual
/-- none, truth values, numbers, texts, lists and tuples of these -/
def plainD : D → Bool
  | .non => true
  | .bl _ => true
  | .int _ => true
  | .str _ => true
  | .lst ds => plainAllD ds
  | .tup ds => plainAllD ds
  | _ => false
def plainAllD : List D → Bool
  | [] => true
  | d :: ds => plainD d && plainAllD ds
end
mutual
def toPy : D → PyData
  | .bl b => .bool b
  | .int i => .int i
  | .str x => .str x
  | .lst ds => .list (toPyAll ds)
  | .tup ds => .tuple (toPyAll ds)
  | .dct es => .dict (toPyKV es)
  | _ => .none
def toPyAll : List D → List PyData
  | [] => []
  | d :: ds => toPy d :: toPyAll ds
def toPyKV : List (D × D) → List (PyData × PyData)
  | [] => []
  | (k, d) :: es => (toPy k, toPy d) :: toPyKV es
end
mutual
theorem Rp.dp : ∀ {v : V} {d : D}, Rp K H v d → plainD d = true → Dp K.K H v (toPy d)
  | _, _, .non, _ => .non
  | _, _, .bl b, _ => .bl b
  | _, _, .int i, _ => .int i
  | _, _, .str x, _ => .str x
  | _, _, .lst h r, p => by
    rw [toPy]
    exact .lst (.inl (.inl h)) (RpAll.dp r (by simpa [plainD] using p))
  | _, _, .tup h r, p => by
    rw [toPy]
    exact .tup h (RpAll.dp r (by simpa [plainD] using p))
  | _, _, .dct _ _, p => by simp [plainD] at p
  | _, _, .scr _, p => by simp [plainD] at p
  | _, _, .exc _ _ _, p => by simp [plainD] at p
  | _, _, .fn _, p => by simp [plainD] at p
theorem RpAll.dp : ∀ {vs : List V} {ds : List D}, RpAll K H vs ds → plainAllD ds = true → DpAll K.K H vs (toPyAll ds)
  | _, _, .nil, _ => .nil
  | _, _, .cons r t, p => by
    simp only [plainAllD, Bool.and_eq_true] at p
    exact .cons (Rp.dp r p.1) (RpAll.dp t p.2)
end
end

/-! ### a frame's slots against its plain environment -/
/-- the roots that the slots alone hold -/
def Ows (σ : St) (ρ : Rho) (a : Addr) : Prop := ∃ (i : Nat) (d : D), (ρ[i]? = some (.ow d) ∨ ρ[i]? = some (.rf d)) ∧ σ[i]? = some (some (.ref a))
/-- what all may read -/
noncomputable def hv (M : Addr → Prop) (σ : St) (ρ : Rho) (H : Hp) : Hp := cut (fun a => M a ∨ Ows σ ρ a) H
/-- an owned root's content -/
inductive Own (K : KX) (Hc H : Hp) (p : Addr) : D → Prop
  | lst {xs : List V} {ds : List D} : H p = some (.lst xs) → RpAll K Hc xs ds → Own K Hc H p (.lst ds)
structure Rel (K : KX) (M : Addr → Prop) (G : Hp) (σ : St) (ρ : Rho) (H : Hp) : Prop where
  len : σ.length = ρ.length
  sh : ∀ (i : Nat) d, ρ[i]? = some (.sh d) → ∃ v, σ[i]? = some (some v) ∧ Rp K (hv M σ ρ H) v d
  ow : ∀ (i : Nat) d, (ρ[i]? = some (.ow d) ∨ ρ[i]? = some (.rf d)) → ∃ p, σ[i]? = some (some (.ref p)) ∧ Own K (hv M σ ρ H) H p d
  inj : ∀ (i j : Nat) d e p, (ρ[i]? = some (.ow d) ∨ ρ[i]? = some (.rf d)) → (ρ[j]? = some (.ow e) ∨ ρ[j]? = some (.rf e)) → σ[i]? = some (some (.ref p)) → σ[j]? = some (some (.ref p)) → i = j
  dis : ∀ a, Ows σ ρ a → G a = none ∧ ¬ M a
  mdom : ∀ a, M a → G a ≠ none
  same : Same G H
section
variable {K : KX} {M : Addr → Prop} {G : Hp} {σ : St} {ρ : Rho} {H H' : Hp}
theorem Own.keep {Hc Hc' : Hp} {p : Addr} {d : D} (e : Same Hc Hc') (h : H' p = H p) (o : Own K Hc H p d) : Own K Hc' H' p d := by
  cases o with
  | lst a r => exact .lst (h.trans a) (r.keep e)
theorem Own.dom {Hc : Hp} {p : Addr} {d : D} (o : Own K Hc H p d) : H p ≠ none := by
  cases o with
  | lst a r => rw [a]; exact fun z => by cases z
theorem Rel.fresh (r : Rel K M G σ ρ H) {p : Addr} (n : H p = none) : G p = none ∧ ¬ M p ∧ ¬ Ows σ ρ p := by
  have g : G p = none := r.same.free n
  refine ⟨g, fun m => r.mdom p m g, fun ⟨i, d, h, e⟩ => ?_⟩
  obtain ⟨q, e', o⟩ := r.ow i d h
  rw [e] at e'
  cases e'; exact o.dom n
theorem Rel.fresh_hv (r : Rel K M G σ ρ H) {p : Addr} (n : H p = none) : ¬ (M p ∨ Ows σ ρ p) := fun z => by
  obtain ⟨_, h1, h2⟩ := r.fresh n
  exact z.elim h1 h2
/-- the heap has grown by what is no root -/
theorem Rel.grow (r : Rel K M G σ ρ H) (e : Same H H') : Rel K M G σ ρ H' ∧ Same (hv M σ ρ H) (hv M σ ρ H') := by
  have s : Same (hv M σ ρ H) (hv M σ ρ H') := cut_mono fun a o m h => ⟨m, e a o h⟩
  refine ⟨⟨r.len, fun i d h => ?_, fun i d h => ?_, r.inj, r.dis, r.mdom, r.same.trans e⟩, s⟩
  · obtain ⟨v, h1, h2⟩ := r.sh i d h
    exact ⟨v, h1, h2.keep s⟩
  · obtain ⟨p, h1, h2⟩ := r.ow i d h
    refine ⟨p, h1, ?_⟩
    cases h2 with
    | lst a q => exact .lst (e _ _ a) (q.keep s)
theorem same_upd {H : Hp} {p : Addr} {o : HO} (h : H p = none) : Same H (upd H p o) := fun b x e => by
  rw [upd_ne (ne_of_none e h)]
  exact e
/-- a new object that is not protected -/
theorem Rel.new (r : Rel K M G σ ρ H) {p : Addr} {o : HO} (n : H p = none) : Rel K M G σ ρ (upd H p o) ∧ Same (hv M σ ρ H) (hv M σ ρ (upd H p o)) ∧ hv M σ ρ (upd H p o) p = some o := by
  obtain ⟨a, b⟩ := r.grow (same_upd (o := o) n)
  exact ⟨a, b, cut_mk (r.fresh_hv n) upd_same⟩
/-- .. that is protected: p with what it holds -/
abbrev Mp (M : Addr → Prop) (p : Addr) : Addr → Prop := fun a => M a ∨ a = p
theorem hv_Mp {p : Addr} : hv (Mp M p) σ ρ H = cut (fun a => (M a ∨ Ows σ ρ a) ∨ a = p) H := by
  unfold hv
  congr 1
  funext a
  exact propext ⟨fun z => z.elim (fun z => z.elim (fun z => .inl (.inl z)) .inr) (fun z => .inl (.inr z)), fun z => z.elim (fun z => z.elim (fun z => .inl (.inl z)) .inr) (fun z => .inl (.inr z))⟩
theorem Rel.protect (r : Rel K M G σ ρ H) {p : Addr} {o : HO} (n : H p = none) : Rel K (Mp M p) (upd G p o) σ ρ (upd H p o) ∧ Same (hv M σ ρ H) (hv (Mp M p) σ ρ (upd H p o)) := by
  obtain ⟨g, m, w⟩ := r.fresh n
  have s : Same (hv M σ ρ H) (hv (Mp M p) σ ρ (upd H p o)) := cut_mono fun a u z h => by
    have ne : a ≠ p := ne_of_none h n
    exact ⟨fun q => q.elim (fun q => q.elim (fun q => z (.inl q)) ne) (fun q => z (.inr q)), by rw [upd_ne ne]; exact h⟩
  refine ⟨⟨r.len, fun i d h => ?_, fun i d h => ?_, r.inj, fun a h => ?_, fun a h => ?_, fun a u h => ?_⟩, s⟩
  · obtain ⟨v, h1, h2⟩ := r.sh i d h
    exact ⟨v, h1, h2.keep s⟩
  · obtain ⟨q, h1, h2⟩ := r.ow i d h
    exact ⟨q, h1, h2.keep s (upd_ne (fun z => by rw [z] at h2; exact h2.dom n))⟩
  · have ne : a ≠ p := fun z => w (z ▸ h)
    obtain ⟨h1, h2⟩ := r.dis a h
    exact ⟨by rw [upd_ne ne]; exact h1, fun z => z.elim h2 ne⟩
  · by_cases e : a = p
    · rw [e, upd_same]; exact fun z => by cases z
    · rw [upd_ne e]; exact r.mdom a (h.elim id fun z => absurd z e)
  · by_cases e : a = p
    · subst e; rw [upd_same] at h ⊢; exact h
    · rw [upd_ne e] at h ⊢; exact r.same _ _ h
/-- what was protected is let go: it is shared from now on -/
theorem Rel.unprotect {p : Addr} {o : HO} (r : Rel K (Mp M p) (upd G p o) σ ρ H) (g : G p = none) (m : ¬ M p) : Rel K M G σ ρ H ∧ Same (hv (Mp M p) σ ρ H) (hv M σ ρ H) ∧ hv M σ ρ H p = some o := by
  have s : Same (hv (Mp M p) σ ρ H) (hv M σ ρ H) := cut_mono fun a u z h => ⟨fun q => z (q.elim (fun q => .inl (.inl q)) .inr), h⟩
  have np : ¬ Ows σ ρ p := fun z => (r.dis p z).2 (.inr rfl)
  refine ⟨⟨r.len, fun i d h => ?_, fun i d h => ?_, r.inj, fun a h => ?_, fun a h => ?_, fun a u h => ?_⟩, s, cut_mk (fun z => z.elim m np) (r.same p o upd_same)⟩
  · obtain ⟨v, h1, h2⟩ := r.sh i d h
    exact ⟨v, h1, h2.keep s⟩
  · obtain ⟨q, h1, h2⟩ := r.ow i d h
    exact ⟨q, h1, h2.keep s rfl⟩
  · obtain ⟨h1, h2⟩ := r.dis a h
    have ne : a ≠ p := fun z => h2 (.inr z)
    rw [upd_ne ne] at h1
    exact ⟨h1, fun z => h2 (.inl z)⟩
  · have z := r.mdom a (.inl h)
    have ne : a ≠ p := fun q => m (q ▸ h)
    rw [upd_ne ne] at z
    exact z
  · have ne : a ≠ p := ne_of_none h g
    exact r.same a u (by rw [upd_ne ne]; exact h)
end
end PyD

set_option Elab.async false
set_option linter.all false
set_option maxRecDepth 100000
namespace PyD
open PySem PySem.Spec L2
open PyProof.Rows hiding St
section
variable {K : KX} {M : Addr → Prop} {G : Hp} {σ : St} {ρ : Rho} {H H' : Hp} {i : Nat} {v : V} {d : D} {c : Cell}
def isRf : Cell → Bool
  | .rf _ => true
  | _ => false
abbrev IsOw (ρ : Rho) (i : Nat) (d : D) : Prop := ρ[i]? = some (.ow d) ∨ ρ[i]? = some (.rf d)
theorem set_ne {α : Type} {l : List α} {i j : Nat} {a : α} (h : j ≠ i) : (l.set i a)[j]? = l[j]? := List.getElem?_set_ne (Ne.symm h)
theorem set_eq {α : Type} {l : List α} {i : Nat} {a b : α} (h : l[i]? = some b) : (l.set i a)[i]? = some a := List.getElem?_set_self (List.getElem?_eq_some_iff.mp h).1
theorem isOw_ne {c : Cell} {j : Nat} {e : D} (hj : j ≠ i) : IsOw (ρ.set i c) j e ↔ IsOw ρ j e := by
  unfold IsOw
  rw [set_ne hj]
theorem not_isOw_sh {e : D} (h : ρ[i]? = some c) : ¬ IsOw (ρ.set i (.sh d)) i e := fun z => by
  unfold IsOw at z
  rw [set_eq h] at z
  rcases z with z | z <;> cases z
theorem not_isOw_no {e : D} (h : ρ[i]? = some c) : ¬ IsOw (ρ.set i .no) i e := fun z => by
  unfold IsOw at z
  rw [set_eq h] at z
  rcases z with z | z <;> cases z
theorem ows_of {σ' : St} {ρ' : Rho} {a : Addr} {j : Nat} {e : D} (h : IsOw ρ' j e) (h2 : σ'[j]? = some (some (.ref a))) : Ows σ' ρ' a := ⟨j, e, h, h2⟩
/-- the roots become fewer -/
theorem hv_fewer {σ' : St} {ρ' : Rho} (h : ∀ a, Ows σ' ρ' a → Ows σ ρ a) : Same (hv M σ ρ H) (hv M σ' ρ' H) :=
  cut_mono fun a o m e => ⟨fun z => m (z.imp id (h a)), e⟩
theorem ows_set_sh {x : Option V} (h : ρ[i]? = some c) (a : Addr) : Ows (σ.set i x) (ρ.set i (.sh d)) a → Ows σ ρ a := fun ⟨j, e, h1, h2⟩ => by
  by_cases hj : j = i
  · subst hj; exact absurd h1 (not_isOw_sh h)
  · exact ⟨j, e, (isOw_ne hj).mp h1, by rw [set_ne hj] at h2; exact h2⟩
theorem ows_set_no {x : Option V} (h : ρ[i]? = some c) (a : Addr) : Ows (σ.set i x) (ρ.set i .no) a → Ows σ ρ a := fun ⟨j, e, h1, h2⟩ => by
  by_cases hj : j = i
  · subst hj; exact absurd h1 (not_isOw_no h)
  · exact ⟨j, e, (isOw_ne hj).mp h1, by rw [set_ne hj] at h2; exact h2⟩
/-- slot i is given shared data -/
theorem Rel.set_sh (r : Rel K M G σ ρ H) (h : ρ[i]? = some c) (hv' : Rp K (hv M σ ρ H) v d) : Rel K M G (σ.set i (some v)) (ρ.set i (.sh d)) H ∧ Same (hv M σ ρ H) (hv M (σ.set i (some v)) (ρ.set i (.sh d)) H) := by
  have s : Same (hv M σ ρ H) (hv M (σ.set i (some v)) (ρ.set i (.sh d)) H) := hv_fewer (ows_set_sh h)
  have hσ : i < σ.length := by rw [r.len]; exact (List.getElem?_eq_some_iff.mp h).1
  refine ⟨⟨by simpa using r.len, fun j e q => ?_, fun j e q => ?_, fun j k e f p q1 q2 q3 q4 => ?_, fun a z => r.dis a (ows_set_sh h a z), r.mdom, r.same⟩, s⟩
  · by_cases hj : j = i
    · subst hj
      rw [set_eq h] at q; cases q
      exact ⟨v, by rw [List.getElem?_set_self hσ], hv'.keep s⟩
    · rw [set_ne hj] at q
      obtain ⟨u, h1, h2⟩ := r.sh j e q
      exact ⟨u, by rw [set_ne hj]; exact h1, h2.keep s⟩
  · by_cases hj : j = i
    · subst hj; exact absurd q (not_isOw_sh h)
    · obtain ⟨p, h1, h2⟩ := r.ow j e ((isOw_ne hj).mp q)
      exact ⟨p, by rw [set_ne hj]; exact h1, h2.keep s rfl⟩
  · by_cases hj : j = i
    · subst hj; exact absurd q1 (not_isOw_sh h)
    · by_cases hk : k = i
      · subst hk; exact absurd q2 (not_isOw_sh h)
      · rw [set_ne hj] at q3
        rw [set_ne hk] at q4
        exact r.inj j k e f p ((isOw_ne hj).mp q1) ((isOw_ne hk).mp q2) q3 q4
/-- slot i is forgotten -/
theorem Rel.set_no {x : Option V} (r : Rel K M G σ ρ H) (h : ρ[i]? = some c) : Rel K M G (σ.set i x) (ρ.set i .no) H ∧ Same (hv M σ ρ H) (hv M (σ.set i x) (ρ.set i .no) H) := by
  have s : Same (hv M σ ρ H) (hv M (σ.set i x) (ρ.set i .no) H) := hv_fewer (ows_set_no h)
  refine ⟨⟨by simpa using r.len, fun j e q => ?_, fun j e q => ?_, fun j k e f p q1 q2 q3 q4 => ?_, fun a z => r.dis a (ows_set_no h a z), r.mdom, r.same⟩, s⟩
  · by_cases hj : j = i
    · subst hj
      rw [set_eq h] at q; cases q
    · rw [set_ne hj] at q
      obtain ⟨u, h1, h2⟩ := r.sh j e q
      exact ⟨u, by rw [set_ne hj]; exact h1, h2.keep s⟩
  · by_cases hj : j = i
    · subst hj; exact absurd q (not_isOw_no h)
    · obtain ⟨p, h1, h2⟩ := r.ow j e ((isOw_ne hj).mp q)
      exact ⟨p, by rw [set_ne hj]; exact h1, h2.keep s rfl⟩
  · by_cases hj : j = i
    · subst hj; exact absurd q1 (not_isOw_no h)
    · by_cases hk : k = i
      · subst hk; exact absurd q2 (not_isOw_no h)
      · rw [set_ne hj] at q3
        rw [set_ne hk] at q4
        exact r.inj j k e f p ((isOw_ne hj).mp q1) ((isOw_ne hk).mp q2) q3 q4
/-- the same with the slot's value as it stands -/
theorem Rel.forget (r : Rel K M G σ ρ H) (h : ρ[i]? = some c) : Rel K M G σ (ρ.set i .no) H ∧ Same (hv M σ ρ H) (hv M σ (ρ.set i .no) H) := by
  have hσ : i < σ.length := by rw [r.len]; exact (List.getElem?_eq_some_iff.mp h).1
  have e : σ.set i σ[i] = σ := List.set_getElem_self hσ
  have := r.set_no (x := σ[i]) h
  rw [e] at this
  exact this
theorem ow_slot {j : Nat} {e : D} (h : ρ[i]? = some c) (hc : IsOw (ρ.set i (.ow d)) j e) : j = i ∨ IsOw ρ j e := by
  by_cases hj : j = i
  · exact .inl hj
  · exact .inr ((isOw_ne hj).mp hc)
/-- slot i is given a new list (protected so far) of its own -/
theorem Rel.set_ow {p : Addr} {xs : List V} {ds : List D} (r : Rel K (Mp M p) (upd G p (.lst xs)) σ ρ H) (h : ρ[i]? = some c) (g : G p = none) (m : ¬ M p) (ra : RpAll K (hv (Mp M p) σ ρ H) xs ds) :
    Rel K M G (σ.set i (some (.ref p))) (ρ.set i (.ow (.lst ds))) H ∧ Same (hv (Mp M p) σ ρ H) (hv M (σ.set i (some (.ref p))) (ρ.set i (.ow (.lst ds))) H) := by
  have hσ : i < σ.length := by rw [r.len]; exact (List.getElem?_eq_some_iff.mp h).1
  have o1 : ∀ a, Ows (σ.set i (some (.ref p))) (ρ.set i (.ow (.lst ds))) a → a = p ∨ Ows σ ρ a := fun a ⟨j, e, h1, h2⟩ => by
    by_cases hj : j = i
    · subst hj
      rw [List.getElem?_set_self hσ] at h2
      cases h2; exact .inl rfl
    · exact .inr ⟨j, e, (isOw_ne hj).mp h1, by rw [set_ne hj] at h2; exact h2⟩
  have np : ¬ Ows σ ρ p := fun z => (r.dis p z).2 (.inr rfl)
  have s : Same (hv (Mp M p) σ ρ H) (hv M (σ.set i (some (.ref p))) (ρ.set i (.ow (.lst ds))) H) := cut_mono fun a o z e => by
    refine ⟨fun q => ?_, e⟩
    rcases q with q | q
    · exact z (.inl (.inl q))
    · rcases o1 a q with q | q
      · exact z (.inl (.inr q))
      · exact z (.inr q)
  have hp : H p = some (.lst xs) := r.same p _ upd_same
  refine ⟨⟨by simpa using r.len, fun j e q => ?_, fun j e q => ?_, fun j k e f b q1 q2 q3 q4 => ?_, fun a z => ?_, fun a z => ?_, fun a o e => ?_⟩, s⟩
  · by_cases hj : j = i
    · subst hj
      rw [set_eq h] at q; cases q
    · rw [set_ne hj] at q
      obtain ⟨u, h1, h2⟩ := r.sh j e q
      exact ⟨u, by rw [set_ne hj]; exact h1, h2.keep s⟩
  · by_cases hj : j = i
    · subst hj
      rw [set_eq h] at q
      have e' : e = .lst ds := by rcases q with q | q <;> cases q; rfl
      subst e'
      exact ⟨p, by rw [List.getElem?_set_self hσ], .lst hp (ra.keep s)⟩
    · obtain ⟨b, h1, h2⟩ := r.ow j e ((isOw_ne hj).mp q)
      exact ⟨b, by rw [set_ne hj]; exact h1, h2.keep s rfl⟩
  · by_cases hj : j = i
    · by_cases hk : k = i
      · rw [hj, hk]
      · subst hj
        rw [List.getElem?_set_self hσ] at q3
        cases q3
        rw [set_ne hk] at q4
        exact absurd ⟨k, f, (isOw_ne hk).mp q2, q4⟩ np
    · by_cases hk : k = i
      · subst hk
        rw [List.getElem?_set_self hσ] at q4
        cases q4
        rw [set_ne hj] at q3
        exact absurd ⟨j, e, (isOw_ne hj).mp q1, q3⟩ np
      · rw [set_ne hj] at q3
        rw [set_ne hk] at q4
        exact r.inj j k e f b ((isOw_ne hj).mp q1) ((isOw_ne hk).mp q2) q3 q4
  · rcases o1 a z with q | q
    · rw [q]; exact ⟨g, m⟩
    · obtain ⟨h1, h2⟩ := r.dis a q
      have ne : a ≠ p := fun y => h2 (.inr y)
      rw [upd_ne ne] at h1
      exact ⟨h1, fun y => h2 (.inl y)⟩
  · have q := r.mdom a (.inl z)
    rw [upd_ne (fun y => m (by rw [← y]; exact z))] at q
    exact q
  · exact r.same a o (by rw [upd_ne (ne_of_none e g)]; exact e)
/-- a list is let go: all may read it, none may change it -/
theorem Rel.release (r : Rel K M G σ ρ H) (h : ρ[i]? = some (.ow d)) : ∃ p, σ[i]? = some (some (.ref p)) ∧ Rel K M G σ (ρ.set i (.sh d)) H ∧ Same (hv M σ ρ H) (hv M σ (ρ.set i (.sh d)) H) ∧ Rp K (hv M σ (ρ.set i (.sh d)) H) (.ref p) d := by
  obtain ⟨p, hp, o⟩ := r.ow i d (.inl h)
  have hσ : i < σ.length := by rw [r.len]; exact (List.getElem?_eq_some_iff.mp h).1
  have eσ : σ.set i (some (.ref p)) = σ := by
    have : σ[i] = some (.ref p) := by have := hp; rw [List.getElem?_eq_getElem hσ] at this; exact Option.some.inj this
    rw [← this]; exact List.set_getElem_self hσ
  obtain ⟨r0, s0⟩ := r.forget h
  have np : ¬ Ows σ (ρ.set i .no) p := fun ⟨j, e, h1, h2⟩ => by
    by_cases hj : j = i
    · subst hj; exact absurd h1 (not_isOw_no h)
    · exact hj (r.inj j i e d p ((isOw_ne hj).mp h1) (.inl h) h2 hp)
  have nM : ¬ M p := (r.dis p ⟨i, d, .inl h, hp⟩).2
  have rp : Rp K (hv M σ (ρ.set i .no) H) (.ref p) d := by
    cases o with
    | lst a q => exact .lst (cut_mk (fun z => z.elim nM np) a) (q.keep s0)
  obtain ⟨r1, s1⟩ := r0.set_sh (i := i) (c := .no) (set_eq h) rp
  rw [eσ, List.set_set] at r1
  rw [eσ, List.set_set] at s1
  exact ⟨p, hp, r1, s0.trans s1, rp.keep s1⟩
/-- the cell of the same kind -/
def sameKind : Cell → D → Cell
  | .ow _, d => .ow d
  | .rf _, d => .rf d
  | .sh _, d => .sh d
  | .no, _ => .no
/-- an own list is changed -/
theorem Rel.write {p : Addr} {ys : List V} {es : List D} (r : Rel K M G σ ρ H) (h : ρ[i]? = some c) (hc : c = .ow d ∨ c = .rf d) (hp : σ[i]? = some (some (.ref p))) (ra : RpAll K (hv M σ ρ H) ys es) :
    Rel K M G σ (ρ.set i (sameKind c (.lst es))) (upd H p (.lst ys)) ∧ Same (hv M σ ρ H) (hv M σ (ρ.set i (sameKind c (.lst es))) (upd H p (.lst ys))) := by
  have how : IsOw ρ i d := by rcases hc with z | z <;> subst z; exact .inl h; exact .inr h
  have hop : Ows σ ρ p := ⟨i, d, how, hp⟩
  have k1 : ∀ j e, IsOw (ρ.set i (sameKind c (.lst es))) j e → ∃ e', IsOw ρ j e' := fun j e q => by
    by_cases hj : j = i
    · subst hj; exact ⟨d, how⟩
    · exact ⟨e, (isOw_ne hj).mp q⟩
  have o1 : ∀ a, Ows σ (ρ.set i (sameKind c (.lst es))) a → Ows σ ρ a := fun a ⟨j, e, h1, h2⟩ => by
    obtain ⟨e', q⟩ := k1 j e h1
    exact ⟨j, e', q, h2⟩
  have kk : sameKind c (.lst es) = .ow (.lst es) ∨ sameKind c (.lst es) = .rf (.lst es) := by
    rcases hc with z | z <;> subst z <;> simp [sameKind]
  have ki : ∀ e, IsOw (ρ.set i (sameKind c (.lst es))) i e → e = .lst es := fun e q => by
    unfold IsOw at q
    rw [set_eq h] at q
    rcases kk with z | z <;> rw [z] at q <;> rcases q with q | q <;> cases q <;> rfl
  have s : Same (hv M σ ρ H) (hv M σ (ρ.set i (sameKind c (.lst es))) (upd H p (.lst ys))) := cut_mono fun a o z e => by
    have ne : a ≠ p := fun q => z (.inr (q ▸ hop))
    exact ⟨fun q => z (q.imp id (o1 a)), by rw [upd_ne ne]; exact e⟩
  refine ⟨⟨by simpa using r.len, fun j e q => ?_, fun j e q => ?_, fun j k e f b q1 q2 q3 q4 => ?_, fun a z => r.dis a (o1 a z), r.mdom, fun a o e => ?_⟩, s⟩
  · by_cases hj : j = i
    · subst hj
      rw [set_eq h] at q
      rcases kk with z | z <;> rw [z] at q <;> cases q
    · rw [set_ne hj] at q
      obtain ⟨u, h1, h2⟩ := r.sh j e q
      exact ⟨u, h1, h2.keep s⟩
  · by_cases hj : j = i
    · subst hj
      rw [ki e q]
      exact ⟨p, hp, .lst upd_same (ra.keep s)⟩
    · obtain ⟨b, h1, h2⟩ := r.ow j e ((isOw_ne hj).mp q)
      refine ⟨b, h1, h2.keep s (upd_ne fun z => ?_)⟩
      subst z
      exact hj (r.inj j i e d b ((isOw_ne hj).mp q) how h1 hp)
  · obtain ⟨e', z1⟩ := k1 j e q1
    obtain ⟨f', z2⟩ := k1 k f q2
    exact r.inj j k e' f' b z1 z2 q3 q4
  · have ne : a ≠ p := fun z => by
      have := (r.dis p hop).1
      rw [← z, e] at this
      cases this
    rw [upd_ne ne]
    exact r.same a o e
end
end PyD

set_option Elab.async false
set_option linter.all false
set_option maxRecDepth 100000
namespace PyD
open PySem PySem.Spec L2
open PyProof.Rows hiding St
abbrev Ev := Rho → R (D × Rho)
abbrev Tv := Rho → R (Bool × Rho)
abbrev Av := Rho → R (List D × Rho)
inductive Fl where
  | nx | bk | ct | rt (d : D) | rtF (ds : List D)
abbrev Sv := Rho → R (Fl × Rho)
/-- from one state of a frame to a later one -/
structure After (K : KX) (M : Addr → Prop) (σ : St) (ρ : Rho) (H : Hp) (M' : Addr → Prop) (G' : Hp) (σ' : St) (ρ' : Rho) (H' : Hp) : Prop where
  rel : Rel K M' G' σ' ρ' H'
  same : Same (hv M σ ρ H) (hv M' σ' ρ' H')
  keep : ∀ (i : Nat) d, ρ[i]? = some (.rf d) → σ'[i]? = σ[i]? ∧ ∃ d', ρ'[i]? = some (.rf d')
  len : ρ'.length = ρ.length
section
variable {K : KX} {M M' M'' : Addr → Prop} {G G' G'' : Hp} {σ σ' σ'' : St} {ρ ρ' ρ'' : Rho} {H H' H'' : Hp}
theorem After.refl (r : Rel K M G σ ρ H) : After K M σ ρ H M G σ ρ H := ⟨r, Same.refl _, fun i d h => ⟨rfl, d, h⟩, rfl⟩
theorem After.trans (a : After K M σ ρ H M' G' σ' ρ' H') (b : After K M' σ' ρ' H' M'' G'' σ'' ρ'' H'') : After K M σ ρ H M'' G'' σ'' ρ'' H'' :=
  ⟨b.rel, a.same.trans b.same, fun i d h => by
    obtain ⟨e1, d1, h1⟩ := a.keep i d h
    obtain ⟨e2, d2, h2⟩ := b.keep i d1 h1
    exact ⟨e2.trans e1, d2, h2⟩, b.len.trans a.len⟩
theorem After.grow (r : Rel K M G σ ρ H) (e : Same H H') : After K M σ ρ H M G σ ρ H' :=
  ⟨(r.grow e).1, (r.grow e).2, fun i d h => ⟨rfl, d, h⟩, rfl⟩
theorem After.new (r : Rel K M G σ ρ H) {p : Addr} {o : HO} (n : H p = none) : After K M σ ρ H M G σ ρ (upd H p o) := .grow r (same_upd n)
theorem After.protect (r : Rel K M G σ ρ H) {p : Addr} {o : HO} (n : H p = none) : After K M σ ρ H (Mp M p) (upd G p o) σ ρ (upd H p o) :=
  ⟨(r.protect n).1, (r.protect n).2, fun i d h => ⟨rfl, d, h⟩, rfl⟩
theorem After.unprotect {p : Addr} {o : HO} (r : Rel K (Mp M p) (upd G p o) σ ρ H) (g : G p = none) (m : ¬ M p) : After K (Mp M p) σ ρ H M G σ ρ H :=
  ⟨(r.unprotect g m).1, (r.unprotect g m).2.1, fun i d h => ⟨rfl, d, h⟩, rfl⟩
end
/-- what is wanted of an exception -/
def ExcPost (K : KX) (W : WX) (M : Addr → Prop) (G : Hp) (σ : St) (c : Nat) (d : D) : Prop :=
  ∀ dx v H', Same G H' → G dx = none → H' dx = some (.xd [(("value" : Str), v)]) → Rp K (cut M H') v d → W (.ref (K.CA c)) (some dx) σ H'
structure Den (K : KX) (W : WX) (te : TE) (f : Ev) : Prop where
  ok : ∀ {M G σ ρ H d ρ'}, Rel K M G σ ρ H → f ρ = .ok (d, ρ') → ∀ Q : VK, (∀ v H', After K M σ ρ H M G σ ρ' H' → Rp K (hv M σ ρ' H') v d → Q v H') → te σ H Q
  exc : ∀ {M G σ ρ H c d}, Rel K M G σ ρ H → f ρ = .exc c d → ExcPost K W M G σ c d → ∀ Q : VK, te σ H Q
structure DenF (K : KX) (W : WX) (te : TE) (f : Av) : Prop where
  ok : ∀ {M G σ ρ H ds ρ'}, Rel K M G σ ρ H → f ρ = .ok (ds, ρ') → ∀ Q : VK, (∀ p xs H', G p = none → ¬ M p → After K M σ ρ H (Mp M p) (upd G p (.lst xs)) σ ρ' H' → RpAll K (hv (Mp M p) σ ρ' H') xs ds → Q (.ref p) H') → te σ H Q
  exc : ∀ {M G σ ρ H c d}, Rel K M G σ ρ H → f ρ = .exc c d → ExcPost K W M G σ c d → ∀ Q : VK, te σ H Q
structure DenT (K : KX) (W : WX) (te : TT) (f : Tv) : Prop where
  ok : ∀ {M G σ ρ H b ρ'}, Rel K M G σ ρ H → f ρ = .ok (b, ρ') → ∀ Q : Bool → Hp → Prop, (∀ H', After K M σ ρ H M G σ ρ' H' → Q b H') → te σ H Q
  exc : ∀ {M G σ ρ H c d}, Rel K M G σ ρ H → f ρ = .exc c d → ExcPost K W M G σ c d → ∀ Q, te σ H Q
structure DenA (K : KX) (W : WX) (te : TA) (f : Av) : Prop where
  ok : ∀ {M G σ ρ H ds ρ'}, Rel K M G σ ρ H → f ρ = .ok (ds, ρ') → ∀ Q : List V → Hp → Prop, (∀ vs H', After K M σ ρ H M G σ ρ' H' → RpAll K (hv M σ ρ' H') vs ds → Q vs H') → te σ H Q
  exc : ∀ {M G σ ρ H c d}, Rel K M G σ ρ H → f ρ = .exc c d → ExcPost K W M G σ c d → ∀ Q, te σ H Q
/-- shared, or an own root that is looked at -/
def RpP (K : KX) (M : Addr → Prop) (σ : St) (ρ : Rho) (H : Hp) (v : V) (d : D) : Prop := Rp K (hv M σ ρ H) v d ∨ ∃ i : Nat, IsOw ρ i d ∧ σ[i]? = some (some v)
structure DenP (K : KX) (W : WX) (te : TE) (f : Ev) : Prop where
  ok : ∀ {M G σ ρ H d ρ'}, Rel K M G σ ρ H → f ρ = .ok (d, ρ') → ∀ Q : VK, (∀ v H', After K M σ ρ H M G σ ρ' H' → RpP K M σ ρ' H' v d → Q v H') → te σ H Q
  exc : ∀ {M G σ ρ H c d}, Rel K M G σ ρ H → f ρ = .exc c d → ExcPost K W M G σ c d → ∀ Q : VK, te σ H Q
def SPost (K : KX) (M : Addr → Prop) (G : Hp) (σ : St) (ρ : Rho) (H : Hp) (ρ' : Rho) (Dn : Ends) : Fl → Prop
  | .nx => ∀ σ' H', After K M σ ρ H M G σ' ρ' H' → Dn.nx σ' H'
  | .bk => ∀ σ' H', After K M σ ρ H M G σ' ρ' H' → Dn.bk σ' H'
  | .ct => ∀ σ' H', After K M σ ρ H M G σ' ρ' H' → Dn.ct σ' H'
  | .rt d => ∀ v σ' H', After K M σ ρ H M G σ' ρ' H' → Rp K (hv M σ' ρ' H') v d → Dn.rt v H'
  | .rtF ds => ∀ p xs σ' H', G p = none → ¬ M p → After K M σ ρ H (Mp M p) (upd G p (.lst xs)) σ' ρ' H' → RpAll K (hv (Mp M p) σ' ρ' H') xs ds → Dn.rt (.ref p) H'
structure DenS (K : KX) (W : WX) (ts : TS) (f : Sv) : Prop where
  ok : ∀ {M G σ ρ H fl ρ'}, Rel K M G σ ρ H → f ρ = .ok (fl, ρ') → ∀ Dn : Ends, SPost K M G σ ρ H ρ' Dn fl → ts Dn σ H
  exc : ∀ {M G σ ρ H c d}, Rel K M G σ ρ H → f ρ = .exc c d → (∀ σ', ExcPost K W M G σ' c d) → ∀ Dn : Ends, ts Dn σ H
theorem ExcPost.after {K : KX} {W : WX} {M M' : Addr → Prop} {G G' : Hp} {σ σ' : St} {c : Nat} {d : D} (h : ExcPost K W M G σ c d) (e : M = M') (e2 : G = G') (e3 : σ = σ') : ExcPost K W M' G' σ' c d := by subst e e2 e3; exact h

/-! ### the judgements over the text -/
def PD (X : Cx) (K : KX) (W : WX) (e : Expr) (f : Ev) : Prop := ∃ te, PE X e te ∧ Den K W te f
def PDF (X : Cx) (K : KX) (W : WX) (e : Expr) (f : Av) : Prop := ∃ te, PE X e te ∧ DenF K W te f
def PDP (X : Cx) (K : KX) (W : WX) (e : Expr) (f : Ev) : Prop := ∃ te, PE X e te ∧ DenP K W te f
def TD (X : Cx) (K : KX) (W : WX) (e : Expr) (f : Tv) : Prop := ∃ te, PT X e te ∧ DenT K W te f
def AD (X : Cx) (K : KX) (W : WX) (es : List Expr) (f : Av) : Prop := ∃ te, PA X es te ∧ DenA K W te f
def SD (X : Cx) (K : KX) (W : WX) (st : Stmt) (f : Sv) : Prop := ∃ ts, PS X st ts ∧ DenS K W ts f
def SsD (X : Cx) (K : KX) (W : WX) (st : List Stmt) (f : Sv) : Prop := ∃ ts, PSs X st ts ∧ DenS K W ts f

section
variable {X : Cx} {K : KX} {W : WX} {pos : Pos}
/-! ### leaves -/
def cC (d : D) : Ev := fun ρ => .ok (d, ρ)
theorem den_c {v : V} {d : D} (h : ∀ H, Rp K H v d) : Den K W (tC v) (cC d) :=
  ⟨fun r e Q q => by cases e; exact q _ _ (.refl r) (h _), fun r e => by cases e⟩
theorem pd_int {i j} : PD X K W (.Constant (.int i) j pos) (cC (.int i)) := ⟨_, pe_int, den_c fun _ => .int i⟩
theorem pd_bl {i j} : PD X K W (.Constant (.bool i) j pos) (cC (.bl i)) := ⟨_, pe_bl, den_c fun _ => .bl i⟩
theorem pd_non {j} : PD X K W (.Constant .none j pos) (cC .non) := ⟨_, pe_non, den_c fun _ => .non⟩
theorem pd_str {x j} : PD X K W (.Constant (.str x) j pos) (cC (.str x)) := ⟨_, pe_str, den_c fun _ => .str x⟩
/-- a slot's shared data -/
def cV (i : Nat) : Ev := fun ρ => match ρ[i]? with
  | some (.sh d) => .ok (d, ρ)
  | _ => .bad
/-- a slot that is looked at, its list its own or not -/
def cP (i : Nat) : Ev := fun ρ => match ρ[i]? with
  | some (.sh d) => .ok (d, ρ)
  | some (.ow d) => .ok (d, ρ)
  | some (.rf d) => .ok (d, ρ)
  | _ => .bad
/-- a slot whose list is let go -/
def cR (i : Nat) : Ev := fun ρ => match ρ[i]? with
  | some (.sh d) => .ok (d, ρ)
  | some (.ow d) => .ok (d, ρ.set i (.sh d))
  | _ => .bad
theorem den_v {i : Nat} : Den K W (tVar i) (cV i) := by
  refine ⟨fun {M G σ ρ H d ρ'} r e Q q => ?_, fun {M G σ ρ H c d} r e => ?_⟩
  · unfold cV at e
    split at e
    · rename_i d' h
      cases e
      obtain ⟨v, h1, h2⟩ := r.sh i d h
      exact ⟨v, h1, q _ _ (.refl r) h2⟩
    · cases e
  · unfold cV at e
    split at e <;> cases e
theorem den_p {i : Nat} : DenP K W (tVar i) (cP i) := by
  refine ⟨fun {M G σ ρ H d ρ'} r e Q q => ?_, fun {M G σ ρ H c d} r e => ?_⟩
  · unfold cP at e
    split at e
    · rename_i d' h
      cases e
      obtain ⟨v, h1, h2⟩ := r.sh i d h
      exact ⟨v, h1, q _ _ (.refl r) (.inl h2)⟩
    · rename_i d' h
      cases e
      obtain ⟨p, h1, h2⟩ := r.ow i d (.inl h)
      exact ⟨_, h1, q _ _ (.refl r) (.inr ⟨i, .inl h, h1⟩)⟩
    · rename_i d' h
      cases e
      obtain ⟨p, h1, h2⟩ := r.ow i d (.inr h)
      exact ⟨_, h1, q _ _ (.refl r) (.inr ⟨i, .inr h, h1⟩)⟩
    · cases e
  · unfold cP at e
    split at e <;> cases e
theorem keep_set {ρ : Rho} {i : Nat} {c c' : Cell} (h : ρ[i]? = some c) (hc : isRf c = false) {σ : St} (j : Nat) (e : D) (q : ρ[j]? = some (.rf e)) : (σ[j]? = σ[j]?) ∧ ∃ d', (ρ.set i c')[j]? = some (.rf d') := by
  refine ⟨rfl, e, ?_⟩
  have : j ≠ i := fun z => by
    subst z; rw [h] at q; cases q; cases hc
  rw [set_ne this]; exact q
theorem den_r {i : Nat} : Den K W (tVar i) (cR i) := by
  refine ⟨fun {M G σ ρ H d ρ'} r e Q q => ?_, fun {M G σ ρ H c d} r e => ?_⟩
  · unfold cR at e
    split at e
    · rename_i d' h
      cases e
      obtain ⟨v, h1, h2⟩ := r.sh i d h
      exact ⟨v, h1, q _ _ (.refl r) h2⟩
    · rename_i d' h
      cases e
      obtain ⟨p, h1, r2, s2, h2⟩ := r.release h
      exact ⟨_, h1, q _ _ ⟨r2, s2, fun j e z => keep_set h rfl j e z, by simp⟩ h2⟩
    · cases e
  · unfold cR at e
    split at e <;> cases e
theorem pd_v (i : Nat) {x : Str} (hN : X.N[i]? = some x := by rfl) (hv : Vis X.env.scope x := by first | exact Or.inl rfl | exact Or.inr (Or.inl rfl) | exact Or.inr (Or.inr rfl)) (hd : (x == ("__debug__" : Str)) = false := by decide)
    (hcd : (x == ("__classdict__" : Str)) = false := by decide) : PD X K W (.Name x pos) (cV i) := ⟨_, pv i hN hv hd hcd, den_v⟩
theorem pd_p (i : Nat) {x : Str} (hN : X.N[i]? = some x := by rfl) (hv : Vis X.env.scope x := by first | exact Or.inl rfl | exact Or.inr (Or.inl rfl) | exact Or.inr (Or.inr rfl)) (hd : (x == ("__debug__" : Str)) = false := by decide)
    (hcd : (x == ("__classdict__" : Str)) = false := by decide) : PDP X K W (.Name x pos) (cP i) := ⟨_, pv i hN hv hd hcd, den_p⟩
theorem pd_r (i : Nat) {x : Str} (hN : X.N[i]? = some x := by rfl) (hv : Vis X.env.scope x := by first | exact Or.inl rfl | exact Or.inr (Or.inl rfl) | exact Or.inr (Or.inr rfl)) (hd : (x == ("__debug__" : Str)) = false := by decide)
    (hcd : (x == ("__classdict__" : Str)) = false := by decide) : PD X K W (.Name x pos) (cR i) := ⟨_, pv i hN hv hd hcd, den_r⟩
/-- a module's constant -/
theorem pd_glob {x : Str} {v : V} {u : Value} {d : D} (hg : Gl X x) (hm : X.mg x = some u) (r : RelV v u) (h : ∀ H, Rp K H v d) (hd : (x == ("__debug__" : Str)) = false := by decide) : PD X K W (.Name x pos) (cC d) := ⟨_, pe_glob hg hm r hd, den_c h⟩
theorem PD.p {e : Expr} {f : Ev} (h : PD X K W e f) : PDP X K W e f := by
  obtain ⟨te, h1, h2⟩ := h
  exact ⟨te, h1, fun r e Q q => h2.ok r e Q fun v H' a b => q v H' a (.inl b), h2.exc⟩
/-- a new list as shared data -/
def cL (f : Av) : Ev := fun ρ => (f ρ).map fun x => (.lst x.1, x.2)
theorem map_ok {α β : Type} {r : R α} {g : α → β} {b : β} (h : r.map g = .ok b) : ∃ a, r = .ok a ∧ g a = b := by
  cases r with
  | ok a => cases h; exact ⟨a, rfl, rfl⟩
  | exc c d => cases h
  | bad => cases h
theorem map_exc {α β : Type} {r : R α} {g : α → β} {c : Nat} {d : D} (h : r.map g = .exc c d) : r = .exc c d := by
  cases r with
  | ok a => cases h
  | exc c d => cases h; rfl
  | bad => cases h
theorem DenF.den {te : TE} {f : Av} (h : DenF K W te f) : Den K W te (cL f) := by
  refine ⟨fun {M G σ ρ H d ρ'} r e Q q => ?_, fun {M G σ ρ H c d} r e x Q => h.exc r (map_exc e) x Q⟩
  obtain ⟨⟨ds, ρ1⟩, e1, e2⟩ := map_ok e
  cases e2
  refine h.ok r e1 Q fun p xs H' g m a b => ?_
  have u := After.unprotect a.rel g m
  have hp := (a.rel.unprotect g m).2.2
  exact q _ _ (a.trans u) (.lst hp (b.keep u.same))
theorem PDF.d {e : Expr} {f : Av} (h : PDF X K W e f) : PD X K W e (cL f) := by
  obtain ⟨te, h1, h2⟩ := h
  exact ⟨te, h1, h2.den⟩

/-! ### two operands -/
/-- what an operator's reading gives on data -/
def OpD (K : KX) (r : R2) (g : D → D → Option D) : Prop := ∀ {M : Addr → Prop} {G : Hp} {σ : St} {ρ : Rho} {H : Hp} {x y : V} {d e z : D}, Rel K M G σ ρ H → Rp K (hv M σ ρ H) x d → Rp K (hv M σ ρ H) y e → g d e = some z →
  ∀ Q : VK, (∀ v H', After K M σ ρ H M G σ ρ H' → Rp K (hv M σ ρ H') v z → Q v H') → r x y H Q
def c2 (g : D → D → Option D) (fa fb : Ev) : Ev := fun ρ => (fa ρ).bind fun a => (fb a.2).bind fun b => (R.ofOpt (g a.1 b.1)).map fun z => (z, b.2)
theorem den_2 {r : R2} {g : D → D → Option D} {ta tb : TE} {fa fb : Ev} (hr : OpD K r g) (ha : Den K W ta fa) (hb : Den K W tb fb) : Den K W (tOp r ta tb) (c2 g fa fb) := by
  refine ⟨fun {M G σ ρ H d ρ'} r0 e Q q => ?_, fun {M G σ ρ H c d} r0 e x Q => ?_⟩
  · obtain ⟨⟨a, ρ1⟩, e1, e⟩ := R.bind_eq_ok e
    obtain ⟨⟨b, ρ2⟩, e2, e⟩ := R.bind_eq_ok e
    obtain ⟨z, e3, e⟩ := map_ok e
    cases e
    refine ha.ok r0 e1 _ fun v H1 a1 r1 => hb.ok a1.rel e2 _ fun u H2 a2 r2 => ?_
    exact hr a2.rel (r1.keep a2.same) r2 (R.ofOpt_eq_ok e3) Q fun w H3 a3 r3 => q w H3 ((a1.trans a2).trans a3) r3
  · rcases R.bind_eq_exc e with e | ⟨⟨a, ρ1⟩, e1, e⟩
    · exact ha.exc r0 e x _
    · refine ha.ok r0 e1 _ fun v H1 a1 r1 => ?_
      rcases R.bind_eq_exc e with e | ⟨⟨b, ρ2⟩, e2, e⟩
      · exact hb.exc a1.rel e x _
      · exact (R.ofOpt_ne_exc (map_exc e)).elim
theorem OpD.or {r r' : R2} {g g' : D → D → Option D} (h : OpD K r g) (h' : OpD K r' g') : OpD K (fun x y H Q => r x y H Q ∨ r' x y H Q) (fun d e => (g d e).or (g' d e)) := by
  intro M G σ ρ H x y d e z r0 hx hy hz Q q
  replace hz : ((g d e).or (g' d e)) = some z := hz
  cases e1 : g d e with
  | some w =>
    rw [e1] at hz
    have : w = z := Option.some.inj hz
    subst this
    exact .inl (h r0 hx hy e1 Q q)
  | none =>
    rw [e1] at hz
    exact .inr (h' r0 hx hy hz Q q)
/-- int operators -/
def gI (g : Int → Int → D) (C : Int → Int → Bool) : D → D → Option D
  | .int i, .int j => if C i j then some (g i j) else none
  | _, _ => none
def vD : D → V
  | .bl b => .bl b
  | .int i => .int i
  | .str x => .str x
  | _ => .non
def scD : D → Bool
  | .bl _ => true
  | .int _ => true
  | .str _ => true
  | .non => true
  | _ => false
theorem rp_vD {H : Hp} {d : D} (h : scD d = true) : Rp K H (vD d) d := by
  cases d <;> first | exact .bl _ | exact .int _ | exact .str _ | exact .non | cases h
theorem opd_I {C : Int → Int → Prop} {Cb : Int → Int → Bool} {gv : Int → Int → V} {g : Int → Int → D} (hC : ∀ i j, Cb i j = true → C i j) (hg : ∀ i j H, Rp K H (gv i j) (g i j)) : OpD K (rI C gv) (gI g Cb) := by
  intro M G σ ρ H x y d e z r0 hx hy hz Q q
  cases hx <;> cases hy <;> simp only [gI] at hz <;> try cases hz
  split at hz
  · cases hz
    rename_i h
    exact ⟨_, _, rfl, rfl, hC _ _ h, q _ _ (.refl r0) (hg _ _ _)⟩
  · cases hz
theorem opd_I0 {gv : Int → Int → V} {g : Int → Int → D} (hg : ∀ i j H, Rp K H (gv i j) (g i j)) : OpD K (rI0 gv) (gI g fun _ _ => true) := by
  intro M G σ ρ H x y d e z r0 hx hy hz Q q
  cases hx <;> cases hy <;> simp only [gI] at hz <;> try cases hz
  exact ⟨_, _, rfl, rfl, q _ _ (.refl r0) (hg _ _ _)⟩
end
end PyD

set_option Elab.async false
set_option linter.all false
set_option maxRecDepth 100000
namespace PyD
open PySem PySem.Spec L2
open PyProof.Rows hiding St
/-! ### defs, called where no repr runs -/
/-- a def's promise, where the guards of repr are known to be none -/
structure FnG (P : Program) (w : World) (K : PySem.W.Frag) (mg : Str → Option Value) (base : Heap) (k : Nat) (f : Addr) (fd : FuncData) (ps : List Str) (sp : Sp) : Prop where
  len : ∀ vs H Q E, sp vs H Q E → vs.length = ps.length
  run : ∀ (A : Around) (outer : List PySem.Env) (s : Shared) (H : Hp) (args : Args) (us : List Value) (vs : List V) (Q : VK) (E : XK), Room k A → A.guards = some [] → Env0 P w K mg base A outer s H → BindsTo s fd args (ps.zip us) → Vals vs us → sp vs H Q E →
    codeAny (model P w) A (.call (.ref f) args) (CR (L2.CX P w) outer P w H s Q E) s
theorem FnG.mono {P : Program} {w : World} {K : PySem.W.Frag} {mg : Str → Option Value} {base : Heap} {j k : Nat} {f : Addr} {fd : FuncData} {ps : List Str} {sp : Sp} (F : FnG P w K mg base j f fd ps sp) (h : j ≤ k) : FnG P w K mg base k f fd ps sp :=
  ⟨F.len, fun A outer s H args us vs Q E hr => F.run A outer s H args us vs Q E (hr.mono h)⟩
theorem FnG.imp {P : Program} {w : World} {K : PySem.W.Frag} {mg : Str → Option Value} {base : Heap} {k : Nat} {f : Addr} {fd : FuncData} {ps : List Str} {sp sp' : Sp} (F : FnG P w K mg base k f fd ps sp)
    (h : ∀ vs H Q E, sp' vs H Q E → sp vs H Q E) : FnG P w K mg base k f fd ps sp' :=
  ⟨fun vs H Q E z => F.len vs H Q E (h vs H Q E z), fun A outer s H args us vs Q E hr hg he hb hv z => F.run A outer s H args us vs Q E hr hg he hb hv (h vs H Q E z)⟩
section
variable {P : Program} {w : World} {K : PySem.W.Frag} {mg : Str → Option Value} {base : Heap}
/-- a def's body, walked, keeps its promise -/
theorem okG {x qual : Str} {st : Stmt} {f : Addr} {fd : FuncData} {N ps : List Str} {k : Nat} {sp : Sp} (F : Fun K x qual st f fd) (S : FnScope N ps (defScope st)) (len : ∀ vs H Q E, sp vs H Q E → vs.length = ps.length)
    (hbody : ∀ (cdv : Value) (A : Around) (outer : List PySem.Env) (s : Shared) (H : Hp) (vs : List V) (Q : VK) (E : XK), Room k (A.deeper (envOfC qual (defScope st) s.heap.objs.size f cdv)) → A.guards = some [] → sp vs H Q E →
      ∃ t, PSs (cxOf (L2.CX P w) P w K mg base N qual (defScope st) f cdv A outer s H E) (defBody st) t ∧ t { nx := fun _ H' => Q .non H', rt := Q } (L2.start N vs) H) : FnG P w K mg base (k + 1) f fd ps sp := by
  obtain ⟨oc, od, kV, doc, pm, an, cdv, ct, osl, rfl, lk, hcd⟩ := F.ex
  refine ⟨len, fun A outer s H args us vs Q E hr hg e0 hb r hsp => ?_⟩
  have low : ∀ b o, base.get? b = some o → s.heap.get? b = some o := fun b o e => (e0.bs b o e).1
  have kin : K.In s.heap := e0.mod.kin.keeps low
  have hl : vs.length = ps.length := len vs H Q E hsp
  refine codeAny_call_function hr.depth (kin f _ lk) rfl S.co S.gen rfl (PySem.W.codeRec_of kin hcd) (hb _ _ _ _ ?_)
  refine wpAny_newFunctionEnv_cells S.kind (fun y hy => ?_) fun env he s1 ic => ?_
  · have hm : y.1 ∈ ps := (List.of_mem_zip (a := y.1) (b := y.2) hy).1
    exact (S.par y.1 hm).elim .inl fun q => .inr ⟨q, PySem.W.cellsFrom_some _ _ _ (.inl q)⟩
  · subst he
    obtain ⟨t, walk, goal⟩ := hbody cdv A outer s H vs Q E (hr.deeper _) hg hsp
    have I0 := inv_start (CX := L2.CX P w) (E := E) S hr.hd e0 hl r ic
    refine ⟨(e0.mod.nolimit.keeps low).keeps ic.toInCall.keep, codeAny_func (wpAny_mono (walk.run [] s1 (L2.start N vs) H _ I0 goal) (fun fl s2 hs => ?_) fun _ _ z => z)⟩
    cases fl with
    | next => exact let ⟨_, H2, J, q⟩ := hs; ⟨.non, H2, J.os, J.bare, J.base, J.hok, rfl, q⟩
    | ret u => exact let ⟨v, _, H2, J, rv, q⟩ := hs; ⟨v, H2, J.os, J.bare, J.base, J.hok, rv, q⟩
    | brk => exact let ⟨_, _, _, q⟩ := hs; q.elim
    | cont => exact let ⟨_, _, _, q⟩ := hs; q.elim
end
section
variable {X : Cx} {k : Nat} {f : Addr} {fd : FuncData} {ps : List Str} {sp : Sp} {W : WX} {x : Str} {p pos : Pos} {e : Expr} {es : List Expr} {t : TA} {dvs : List V} {ds : List Value}
theorem run_fnG {pins : List (Addr × Obj)} {σ : St} {H : Hp} {s : Shared} {Q : VK} {us : List Value} {vs : List V} (F : FnG X.prog X.w X.K X.mg X.base k f fd ps sp) (hr : Room k X.A) (hgd : X.A.guards = some []) (hb : Binds X.K fd ps ds) (hd : Vals dvs ds) (tk : Takes X W)
    (I : Inv X pins σ H s) (r : Vals vs us) (h : sp (vs ++ dvs) H Q (WE W σ)) : wpAny (model X.prog X.w) X.A (call (.ref f) us) (EP X pins σ Q) X.xe s := by
  have rr := r.append hd
  have hz : (us ++ ds).length = ps.length := rr.length.symm.trans (F.len _ _ _ _ h)
  refine wpAny_call (codeAny_mono (F.run X.A X.stack s H _ _ _ Q (WE W σ) hr hgd I.env0 (hb s us I.kIn hz) rr h) fun res s' hq => ?_)
  match res, hq with
  | .error e, hq => exact passAt tk σ pins H s e s' I hq
  | .ok (.ret u), hq => exact I.after hq
  | .ok .next, hq => exact hq.elim
  | .ok .brk, hq => exact hq.elim
  | .ok .cont, hq => exact hq.elim
theorem pe_callG (F : FnG X.prog X.w X.K X.mg X.base k f fd ps sp) (hr : Room k X.A) (hgd : X.A.guards = some []) (hg : Gl X x) (hm : X.mg x = some (.ref f)) (hk : PySem.W.keepIn X.K (.ref f) = true) (hb : Binds X.K fd ps ds) (hd : Vals dvs ds) (tk : Takes X W)
    (ha : PA X (e :: es) t) (hdb : (x == ("__debug__" : Str)) = false := by decide) (he : starEach (e :: es) X.env = (false, eval e X.env) :: starEach es X.env := by rfl) (hpl : (backTo pos (starEach es X.env)).any (·.1) = false := by rfl) :
    PE X (.Call (.Name x p) (e :: es) [] pos) (tCallSD sp dvs (WE W) t) := by
  refine ⟨fun pins s σ H Q I h => wpAny_Call_Name_kw (ld_glob I hg hm ?_ hdb)⟩
  exact PySem.W.callWith_K (h₀ := X.base) I.ok.mod.kin hk (thn (ha.run pos pins s σ H _ I h) fun us s1 ⟨vs, H1, I1, r, q⟩ => ⟨I1.kIn, run_fnG F hr hgd hb hd tk I1 r q⟩) he hpl
end
/-! ### a def's promise by its mirror -/
def shs (ds : List D) : Rho := ds.map .sh
def okArg : Cell → Bool
  | .sh _ => true
  | .rf _ => true
  | _ => false
def isSh : Cell → Bool
  | .sh _ => true
  | _ => false
/-- what is told behind a call -/
def Out (K : KX) (M : Addr → Prop) (G : Hp) (σ : St) (as : Rho) (H : Hp) (Q : VK) (E : XK) : R (D × Rho) → Prop
  | .ok (d, as') => ∀ v H', After K M σ as H M G σ as' H' → Rp K (hv M σ as' H') v d → Q v H'
  | .exc c d => as.all isSh = true ∧ ∀ dx v H', Same G H' → G dx = none → H' dx = some (.xd [(("value" : Str), v)]) → Rp K (cut M H') v d → E (.ref (K.CA c)) (some dx) H'
  | .bad => False
def OutF (K : KX) (M : Addr → Prop) (G : Hp) (σ : St) (as : Rho) (H : Hp) (Q : VK) (E : XK) : R (List D × Rho) → Prop
  | .ok (ds, as') => ∀ p xs H', G p = none → ¬ M p → After K M σ as H (Mp M p) (upd G p (.lst xs)) σ as' H' → RpAll K (hv (Mp M p) σ as' H') xs ds → Q (.ref p) H'
  | .exc c d => as.all isSh = true ∧ ∀ dx v H', Same G H' → G dx = none → H' dx = some (.xd [(("value" : Str), v)]) → Rp K (cut M H') v d → E (.ref (K.CA c)) (some dx) H'
  | .bad => False
def spD (K : KX) (n : Nat) (F : Ev) : Sp := fun vs H Q E => vs.length = n ∧ ∃ M G as, as.all okArg = true ∧ Rel K M G (vs.map some) as H ∧ Out K M G (vs.map some) as H Q E (F as)
def spF (K : KX) (n : Nat) (F : Av) : Sp := fun vs H Q E => vs.length = n ∧ ∃ M G as, as.all okArg = true ∧ Rel K M G (vs.map some) as H ∧ OutF K M G (vs.map some) as H Q E (F as)
/-- a promise of a new list is one of data -/
theorem spF_D {K : KX} {n : Nat} {F : Av} {vs : List V} {H : Hp} {Q : VK} {E : XK} (h : spD K n (cL F) vs H Q E) : spF K n F vs H Q E := by
  obtain ⟨hl, M, G, as, ha, r, o⟩ := h
  refine ⟨hl, M, G, as, ha, r, ?_⟩
  unfold cL at o
  cases e : F as with
  | ok x =>
    obtain ⟨ds, as'⟩ := x
    rw [e] at o
    intro p xs H' g m a b
    have u := After.unprotect a.rel g m
    have hp := (a.rel.unprotect g m).2.2
    exact o _ _ (a.trans u) (.lst hp (b.keep u.same))
  | exc c d => rw [e] at o; exact o
  | bad => rw [e] at o; exact o
/-! the body's slots: arguments, then nothing -/
def full (n : Nat) (as : Rho) : Rho := as ++ List.replicate (n - as.length) .no
def outCell : Cell → Cell → Cell
  | .rf _, c => c
  | c, _ => c
def outCells (as ρ' : Rho) : Rho := List.zipWith outCell as ρ'
section
variable {K : KX} {M : Addr → Prop} {G : Hp} {H H' : Hp} {as ρ' : Rho} {vs : List V} {N : List Str} {σ' : St}
theorem full_get {n : Nat} (i : Nat) : (∃ c, as[i]? = some c ∧ (full n as)[i]? = some c) ∨ (as[i]? = none ∧ ((full n as)[i]? = some .no ∨ (full n as)[i]? = none)) := by
  unfold full
  by_cases h : i < as.length
  · left
    exact ⟨as[i], by simp [h], by rw [List.getElem?_append_left h]; simp [h]⟩
  · right
    refine ⟨by simp; omega, ?_⟩
    rw [List.getElem?_append_right (by omega), List.getElem?_replicate]
    split
    · exact .inl rfl
    · exact .inr rfl
theorem full_ow {n : Nat} {i : Nat} {d : D} : IsOw (full n as) i d ↔ IsOw as i d := by
  unfold IsOw
  rcases full_get (as := as) (n := n) i with ⟨c, h1, h2⟩ | ⟨h1, h2⟩
  · rw [h1, h2]
  · rw [h1]
    rcases h2 with h2 | h2 <;> rw [h2] <;> simp
theorem full_sh {n : Nat} {i : Nat} {d : D} : (full n as)[i]? = some (.sh d) ↔ as[i]? = some (.sh d) := by
  rcases full_get (as := as) (n := n) i with ⟨c, h1, h2⟩ | ⟨h1, h2⟩
  · rw [h1, h2]
  · rw [h1]
    rcases h2 with h2 | h2 <;> rw [h2] <;> simp
theorem start_get {i : Nat} (h : i < vs.length) : (L2.start N vs)[i]? = (vs.map some)[i]? := by
  unfold L2.start
  rw [List.getElem?_append_left (by simpa using h)]
theorem ows_full {n : Nat} (hl : vs.length = as.length) (a : Addr) : Ows (L2.start N vs) (full n as) a ↔ Ows (vs.map some) as a := by
  refine ⟨fun ⟨i, d, h1, h2⟩ => ?_, fun ⟨i, d, h1, h2⟩ => ?_⟩
  · have h1 := full_ow.mp h1
    have hi : i < vs.length := by rw [hl]; rcases h1 with h | h <;> exact (List.getElem?_eq_some_iff.mp h).1
    exact ⟨i, d, h1, by rw [start_get hi] at h2; exact h2⟩
  · have hi : i < vs.length := by rw [hl]; rcases h1 with h | h <;> exact (List.getElem?_eq_some_iff.mp h).1
    exact ⟨i, d, full_ow.mpr h1, by rw [start_get hi]; exact h2⟩
theorem hv_full {n : Nat} (hl : vs.length = as.length) : hv M (L2.start N vs) (full n as) H = hv M (vs.map some) as H := by
  unfold hv
  congr 1
  funext a
  exact propext (or_congr Iff.rfl (ows_full hl a))
theorem Rel.start (r : Rel K M G (vs.map some) as H) (hN : vs.length ≤ N.length) : Rel K M G (L2.start N vs) (full N.length as) H := by
  have hl : vs.length = as.length := by simpa using r.len
  refine ⟨?_, fun i d h => ?_, fun i d h => ?_, fun i j d e p h1 h2 h3 h4 => ?_, fun a h => r.dis a ((ows_full hl a).mp h), r.mdom, r.same⟩
  · unfold L2.start full
    simp only [List.length_append, List.length_map, List.length_replicate]
    omega
  · have h := full_sh.mp h
    have hi : i < vs.length := by rw [hl]; exact (List.getElem?_eq_some_iff.mp h).1
    obtain ⟨v, h1, h2⟩ := r.sh i d h
    exact ⟨v, by rw [start_get hi]; exact h1, by rw [hv_full hl]; exact h2⟩
  · have h := full_ow.mp h
    have hi : i < vs.length := by rw [hl]; rcases h with h | h <;> exact (List.getElem?_eq_some_iff.mp h).1
    obtain ⟨p, h1, h2⟩ := r.ow i d h
    exact ⟨p, by rw [start_get hi]; exact h1, by rw [hv_full hl]; exact h2⟩
  · have h1 := full_ow.mp h1
    have h2 := full_ow.mp h2
    have hi : i < vs.length := by rw [hl]; rcases h1 with h | h <;> exact (List.getElem?_eq_some_iff.mp h).1
    have hj : j < vs.length := by rw [hl]; rcases h2 with h | h <;> exact (List.getElem?_eq_some_iff.mp h).1
    rw [start_get hi] at h3
    rw [start_get hj] at h4
    exact r.inj i j d e p h1 h2 h3 h4
theorem outCells_get {i : Nat} (h : i < as.length) (h2 : i < ρ'.length) : (outCells as ρ')[i]? = some (outCell as[i] ρ'[i]) := by
  unfold outCells
  rw [List.getElem?_zipWith]
  simp [h, h2]
/-- the caller's view behind a def's end -/
theorem After.finish {M' : Addr → Prop} {G' : Hp} (hN : vs.length ≤ N.length) (hok : as.all okArg = true) (r0 : Rel K M G (vs.map some) as H) (a : After K M (L2.start N vs) (full N.length as) H M' G' σ' ρ' H') (hM : ∀ b, M b → M' b) :
    After K M (vs.map some) as H M' G' (vs.map some) (outCells as ρ') H' ∧ Same (hv M' σ' ρ' H') (hv M' (vs.map some) (outCells as ρ') H') := by
  have hl : vs.length = as.length := by simpa using r0.len
  have hlen : ρ'.length = N.length := by
    rw [a.len]; unfold full; simp only [List.length_append, List.length_replicate]; omega
  have lt : ∀ {i : Nat} {c : Cell}, as[i]? = some c → i < as.length ∧ i < ρ'.length ∧ i < vs.length := fun {i c} h => by
    have := (List.getElem?_eq_some_iff.mp h).1
    omega
  -- the kinds stand
  have olen : (outCells as ρ').length = as.length := by unfold outCells; simp only [List.length_zipWith]; omega
  have kow : ∀ (i : Nat) d, IsOw (outCells as ρ') i d → ρ'[i]? = some (.rf d) ∧ σ'[i]? = (vs.map some)[i]? ∧ ∃ d0, as[i]? = some (.rf d0) := fun i d h => by
    have hi : i < (outCells as ρ').length := by rcases h with h | h <;> exact (List.getElem?_eq_some_iff.mp h).1
    have hi' : i < as.length := by omega
    have hρ : i < ρ'.length := by omega
    have e := outCells_get hi' hρ
    have ok := List.all_eq_true.mp hok as[i] (List.getElem_mem hi')
    have g : as[i]? = some as[i] := by simp [hi']
    cases ec : as[i] with
    | no => rw [ec] at ok; cases ok
    | ow d0 => rw [ec] at ok; cases ok
    | sh d0 =>
      have h' : (outCells as ρ')[i]? = some (.ow d) ∨ (outCells as ρ')[i]? = some (.rf d) := h
      rw [e, ec] at h'
      rcases h' with h' | h' <;> cases h'
    | rf d0 =>
      have hf : (full N.length as)[i]? = some (.rf d0) := by
        rcases full_get (as := as) (n := N.length) i with ⟨c, h1, h2⟩ | ⟨h1, _⟩
        · rw [h2, ← h1, g, ec]
        · rw [g] at h1; cases h1
      obtain ⟨e1, d', e2⟩ := a.keep i d0 hf
      have e3 : ρ'[i] = .rf d' := by rw [List.getElem?_eq_getElem hρ] at e2; exact Option.some.inj e2
      have h' : (outCells as ρ')[i]? = some (.ow d) ∨ (outCells as ρ')[i]? = some (.rf d) := h
      rw [e, ec, e3] at h'
      have : d' = d := by rcases h' with h' | h' <;> cases h'; rfl
      subst this
      refine ⟨e2, ?_, d0, by rw [g, ec]⟩
      rw [e1, start_get (by omega)]
  have kows : ∀ b, Ows (vs.map some) (outCells as ρ') b → Ows σ' ρ' b := fun b ⟨i, d, h1, h2⟩ => by
    obtain ⟨e1, e2, _⟩ := kow i d h1
    exact ⟨i, d, .inr e1, by rw [e2]; exact h2⟩
  have s2 : Same (hv M' σ' ρ' H') (hv M' (vs.map some) (outCells as ρ') H') := cut_mono fun b o z e => ⟨fun q => z (q.imp id (kows b)), e⟩
  have s1 : Same (hv M (vs.map some) as H) (hv M' (vs.map some) (outCells as ρ') H') := by
    have := a.same
    rw [hv_full hl] at this
    exact this.trans s2
  refine ⟨⟨⟨?_, fun i d h => ?_, fun i d h => ?_, fun i j d e p h1 h2 h3 h4 => ?_, fun b h => a.rel.dis b (kows b h), a.rel.mdom, a.rel.same⟩, s1, fun i d h => ?_, olen⟩, s2⟩
  · rw [olen, ← hl]; simp
  · have hi : i < (outCells as ρ').length := (List.getElem?_eq_some_iff.mp h).1
    have hi' : i < as.length := by omega
    have hρ : i < ρ'.length := by omega
    have g : as[i]? = some as[i] := by simp [hi']
    have e := outCells_get hi' hρ
    cases ec : as[i] with
    | no => have ok := List.all_eq_true.mp hok as[i] (List.getElem_mem hi'); rw [ec] at ok; cases ok
    | ow d0 => have ok := List.all_eq_true.mp hok as[i] (List.getElem_mem hi'); rw [ec] at ok; cases ok
    | sh d0 =>
      rw [e, ec] at h
      cases h
      obtain ⟨v, h1, h2⟩ := r0.sh i d (by rw [g, ec])
      exact ⟨v, h1, h2.keep s1⟩
    | rf d0 =>
      have hf : (full N.length as)[i]? = some (.rf d0) := by
        rcases full_get (as := as) (n := N.length) i with ⟨c, h1, h2⟩ | ⟨h1, _⟩
        · rw [h2, ← h1, g, ec]
        · rw [g] at h1; cases h1
      obtain ⟨e1, d', e2⟩ := a.keep i d0 hf
      have e3 : ρ'[i] = .rf d' := by rw [List.getElem?_eq_getElem hρ] at e2; exact Option.some.inj e2
      rw [e, ec, e3] at h
      cases h
  · obtain ⟨e1, e2, _⟩ := kow i d h
    obtain ⟨p, h1, h2⟩ := a.rel.ow i d (.inr e1)
    exact ⟨p, by rw [← e2]; exact h1, h2.keep s2 rfl⟩
  · obtain ⟨e1, e2, _⟩ := kow i d h1
    obtain ⟨f1, f2, _⟩ := kow j e h2
    exact a.rel.inj i j d e p (.inr e1) (.inr f1) (by rw [e2]; exact h3) (by rw [f2]; exact h4)
  · refine ⟨rfl, ?_⟩
    have hf : (full N.length as)[i]? = some (.rf d) := by
      rcases full_get (as := as) (n := N.length) i with ⟨c, h1, h2⟩ | ⟨h1, _⟩
      · rw [h2, ← h1, h]
      · rw [h] at h1; cases h1
    obtain ⟨e1, d', e2⟩ := a.keep i d hf
    obtain ⟨hi, hρ, _⟩ := lt h
    have e3 : ρ'[i] = .rf d' := by rw [List.getElem?_eq_getElem hρ] at e2; exact Option.some.inj e2
    have e4 : as[i] = .rf d := by rw [List.getElem?_eq_getElem hi] at h; exact Option.some.inj h
    exact ⟨d', by rw [outCells_get hi hρ, e4, e3]; rfl⟩
end
/-- the mirror of a def with data as its value -/
def runD (n : Nat) (body : Sv) : Ev := fun as => match body (full n as) with
  | .ok (.rt d, ρ') => .ok (d, outCells as ρ')
  | .ok (.rtF ds, ρ') => .ok (.lst ds, outCells as ρ')
  | .ok (.nx, ρ') => .ok (.non, outCells as ρ')
  | .ok _ => .bad
  | .exc c d => if as.all isSh = true then .exc c d else .bad
  | .bad => .bad
/-- .. with a new list -/
def runF (n : Nat) (body : Sv) : Av := fun as => match body (full n as) with
  | .ok (.rtF ds, ρ') => .ok (ds, outCells as ρ')
  | .ok _ => .bad
  | .exc c d => if as.all isSh = true then .exc c d else .bad
  | .bad => .bad
section
variable {P : Program} {w : World} {K : KX} {mg : Str → Option Value} {base : Heap}
theorem okD {x qual : Str} {st : Stmt} {f : Addr} {fd : FuncData} {N ps : List Str} {k : Nat} {body : Sv} (F : Fun K.K x qual st f fd) (S : FnScope N ps (defScope st))
    (hbody : ∀ (cdv : Value) (A : Around) (outer : List PySem.Env) (s : Shared) (H : Hp) (E : XK), Room k (A.deeper (envOfC qual (defScope st) s.heap.objs.size f cdv)) → A.guards = some [] →
      SsD (cxOf (L2.CX P w) P w K.K mg base N qual (defScope st) f cdv A outer s H E) K (fun cls d _ H => E cls d H) (defBody st) body) : FnG P w K.K mg base (k + 1) f fd ps (spD K ps.length (runD N.length body)) := by
  refine okG F S (fun vs H Q E h => h.1) fun cdv A outer s H vs Q E hr hg h => ?_
  obtain ⟨t, ht, hd⟩ := hbody cdv A outer s H E hr hg
  refine ⟨t, ht, ?_⟩
  obtain ⟨hl, M, G, as, hok, r, o⟩ := h
  have hN : vs.length ≤ N.length := by
    rw [hl]
    have := congrArg List.length S.pre
    rw [List.length_take] at this
    omega
  have rs := r.start hN
  unfold runD at o
  cases e : body (full N.length as) with
  | bad => rw [e] at o; exact o.elim
  | exc c d =>
    rw [e] at o
    simp only at o
    split at o
    · exact hd.exc rs e (fun σ' dx v H' s g h q => o.2 dx v H' s g h q) _
    · exact o.elim
  | ok z =>
    obtain ⟨fl, ρ'⟩ := z
    rw [e] at o
    cases fl with
    | rt d =>
      refine hd.ok rs e _ fun v σ' H' a b => ?_
      obtain ⟨a2, s2⟩ := After.finish hN hok r a fun _ z => z
      exact o v H' a2 (b.keep s2)
    | rtF ds =>
      refine hd.ok rs e _ fun p xs σ' H' g m a b => ?_
      have u := After.unprotect a.rel g m
      have hp := (a.rel.unprotect g m).2.2
      obtain ⟨a2, s2⟩ := After.finish hN hok r (a.trans u) fun _ z => z
      exact o _ H' a2 ((Rp.lst hp (b.keep u.same)).keep s2)
    | nx =>
      refine hd.ok rs e _ fun σ' H' a => ?_
      obtain ⟨a2, s2⟩ := After.finish hN hok r a fun _ z => z
      exact o .non H' a2 .non
    | bk => exact o.elim
    | ct => exact o.elim
theorem okF {x qual : Str} {st : Stmt} {f : Addr} {fd : FuncData} {N ps : List Str} {k : Nat} {body : Sv} (F : Fun K.K x qual st f fd) (S : FnScope N ps (defScope st))
    (hbody : ∀ (cdv : Value) (A : Around) (outer : List PySem.Env) (s : Shared) (H : Hp) (E : XK), Room k (A.deeper (envOfC qual (defScope st) s.heap.objs.size f cdv)) → A.guards = some [] →
      SsD (cxOf (L2.CX P w) P w K.K mg base N qual (defScope st) f cdv A outer s H E) K (fun cls d _ H => E cls d H) (defBody st) body) : FnG P w K.K mg base (k + 1) f fd ps (spF K ps.length (runF N.length body)) := by
  refine okG F S (fun vs H Q E h => h.1) fun cdv A outer s H vs Q E hr hg h => ?_
  obtain ⟨t, ht, hd⟩ := hbody cdv A outer s H E hr hg
  refine ⟨t, ht, ?_⟩
  obtain ⟨hl, M, G, as, hok, r, o⟩ := h
  have hN : vs.length ≤ N.length := by
    rw [hl]
    have := congrArg List.length S.pre
    rw [List.length_take] at this
    omega
  have rs := r.start hN
  unfold runF at o
  cases e : body (full N.length as) with
  | bad => rw [e] at o; exact o.elim
  | exc c d =>
    rw [e] at o
    simp only at o
    split at o
    · exact hd.exc rs e (fun σ' dx v H' s g h q => o.2 dx v H' s g h q) _
    · exact o.elim
  | ok z =>
    obtain ⟨fl, ρ'⟩ := z
    rw [e] at o
    cases fl with
    | rtF ds =>
      refine hd.ok rs e _ fun p xs σ' H' g m a b => ?_
      obtain ⟨a2, s2⟩ := After.finish hN hok r a fun _ z => .inl z
      exact o p xs H' g m a2 (b.keep s2)
    | rt d => exact o.elim
    | nx => exact o.elim
    | bk => exact o.elim
    | ct => exact o.elim
end
end PyD

set_option Elab.async false
set_option linter.all false
set_option maxRecDepth 100000
namespace PyD
open PySem PySem.Spec L2
open PyProof.Rows hiding St
/-! ### bounded data -/
mutual
/-- none, truth values, numbers, texts, lists and tuples of these, at most n deep -/
def plN : Nat → D → Bool
  | _, .non => true
  | _, .bl _ => true
  | _, .int _ => true
  | _, .str _ => true
  | n + 1, .lst ds => plNs n ds
  | n + 1, .tup ds => plNs n ds
  | _, _ => false
def plNs : Nat → List D → Bool
  | _, [] => true
  | n, d :: ds => plN n d && plNs n ds
end
mutual
theorem plN_plain : ∀ (n : Nat) (d : D), plN n d = true → plainD d = true ∧ (toPy d).plain = true ∧ (toPy d).depth ≤ n
  | _, .non, _ => ⟨rfl, rfl, by simp [toPy, PyData.depth]⟩
  | _, .bl _, _ => ⟨rfl, rfl, by simp [toPy, PyData.depth]⟩
  | _, .int _, _ => ⟨rfl, rfl, by simp [toPy, PyData.depth]⟩
  | _, .str _, _ => ⟨rfl, rfl, by simp [toPy, PyData.depth]⟩
  | n + 1, .lst ds, h => by
    obtain ⟨a, b, c⟩ := plNs_plain n ds (by simpa [plN] using h)
    exact ⟨by simpa [plainD] using a, by simpa [toPy, PyData.plain] using b, by simp [toPy, PyData.depth]; omega⟩
  | n + 1, .tup ds, h => by
    obtain ⟨a, b, c⟩ := plNs_plain n ds (by simpa [plN] using h)
    exact ⟨by simpa [plainD] using a, by simpa [toPy, PyData.plain] using b, by simp [toPy, PyData.depth]; omega⟩
  | 0, .lst ds, h => by simp [plN] at h
  | 0, .tup ds, h => by simp [plN] at h
  | n, .dct _, h => by cases n <;> simp [plN] at h
  | n, .scr _, h => by cases n <;> simp [plN] at h
  | n, .exc _ _, h => by cases n <;> simp [plN] at h
  | n, .fn _, h => by cases n <;> simp [plN] at h
theorem plNs_plain : ∀ (n : Nat) (ds : List D), plNs n ds = true → plainAllD ds = true ∧ PyData.plainAll (toPyAll ds) = true ∧ PyData.depthAll (toPyAll ds) ≤ n
  | _, [], _ => ⟨rfl, rfl, by simp [toPyAll, PyData.depthAll]⟩
  | n, d :: ds, h => by
    simp only [plNs, Bool.and_eq_true] at h
    obtain ⟨a, b, c⟩ := plN_plain n d h.1
    obtain ⟨a', b', c'⟩ := plNs_plain n ds h.2
    exact ⟨by simp [plainAllD, a, a'], by simp [toPyAll, PyData.plainAll, b, b'], by simp [toPyAll, PyData.depthAll]; omega⟩
end
/-- how deep data may be that is compared -/
def cmpD (d : D) : Bool := plN 20 d
def eqD (d e : D) : Bool := PyData.eqv (toPy d) (toPy e)
section
variable {X : Cx} {K : KX} {W : WX} {pos : Pos}
theorem reads_of {pins : List (Addr × Obj)} {σ : St} {H : Hp} {s : Shared} {v : V} {u : Value} {d : D} (I : Inv X pins σ H s) (hK : X.K = K.K) (r : Rp K H v d) (rv : RelV v u) (h : plainD d = true) : ∃ as, Reads s.heap u (toPy d) as :=
  Dp.reads I _ v u (by rw [hK]; exact r.dp h) rv
/-! ### the operators' readings on data -/
def rEqR (K : KX) : R2 := fun x y H Q => ∃ d e, Rp K H x d ∧ Rp K H y e ∧ cmpD d = true ∧ cmpD e = true ∧ Q (.bl (eqD d e)) H
def rNeR (K : KX) : R2 := fun x y H Q => ∃ d e, Rp K H x d ∧ Rp K H y e ∧ cmpD d = true ∧ cmpD e = true ∧ Q (.bl (!eqD d e)) H
theorem op_eqR (hK : X.K = K.K) (hu : X.A.units + 64 < cLine) : OpR X (compareOp .Eq) (rEqR K) := by
  intro pins s σ H x y v u Q I rx ry h
  obtain ⟨d, e, hd, he, sd, se, q⟩ := h
  obtain ⟨p1, p2, p3⟩ := plN_plain _ _ sd
  obtain ⟨q1, q2, q3⟩ := plN_plain _ _ se
  obtain ⟨as, r1⟩ := reads_of I hK hd rx p1
  obtain ⟨bs, r2⟩ := reads_of I hK he ry q1
  exact SeqAt.eq_plain r1 r2 p2 q2 (by omega) ⟨.bl _, H, I, rfl, q⟩
theorem op_neR (hK : X.K = K.K) (hu : X.A.units + 64 < cLine) : OpR X (compareOp .NotEq) (rNeR K) := by
  intro pins s σ H x y v u Q I rx ry h
  obtain ⟨d, e, hd, he, sd, se, q⟩ := h
  obtain ⟨p1, p2, p3⟩ := plN_plain _ _ sd
  obtain ⟨q1, q2, q3⟩ := plN_plain _ _ se
  obtain ⟨as, r1⟩ := reads_of I hK hd rx p1
  obtain ⟨bs, r2⟩ := reads_of I hK he ry q1
  exact SeqAt.ne_plain r1 r2 p2 q2 (by omega) ⟨.bl _, H, I, rfl, q⟩
/-- the items of a list or tuple -/
def itemsD : D → Option (List D)
  | .lst ds => some ds
  | .tup ds => some ds
  | _ => none
def inD (d : D) (ds : List D) : Bool := (toPyAll ds).any fun z => PyData.eqv z (toPy d)
def rInR (K : KX) (neg : Bool) : R2 := fun x y H Q => ∃ d e ds, Rp K H x d ∧ Rp K H y e ∧ itemsD e = some ds ∧ cmpD d = true ∧ cmpD e = true ∧ Q (.bl (if neg then !inD d ds else inD d ds)) H
theorem items_py {e : D} {ds : List D} (h : itemsD e = some ds) : toPy e = .list (toPyAll ds) ∨ toPy e = .tuple (toPyAll ds) := by
  cases e <;> simp only [itemsD] at h <;> cases h
  · exact .inl (by rw [toPy])
  · exact .inr (by rw [toPy])
theorem op_inR (hK : X.K = K.K) (hu : X.A.units + 64 < cLine) : OpR X (compareOp .In) (rInR K false) := by
  intro pins s σ H x y v u Q I rx ry h
  obtain ⟨d, e, ds, hd, he, hi, sd, se, q⟩ := h
  obtain ⟨p1, p2, p3⟩ := plN_plain _ _ sd
  obtain ⟨q1, q2, q3⟩ := plN_plain _ _ se
  obtain ⟨as, r1⟩ := reads_of I hK hd rx p1
  obtain ⟨bs, r2⟩ := reads_of I hK he ry q1
  rcases items_py hi with z | z <;> rw [z] at r2 q2 q3 <;> simp only [PyData.plain, PyData.depth] at q2 q3
  · exact SeqAt.in_list_data r2 r1 q2 p2 (by omega) ⟨.bl _, H, I, rfl, q⟩
  · exact SeqAt.in_tuple_data r2 r1 q2 p2 (by omega) ⟨.bl _, H, I, rfl, q⟩
theorem op_notInR (hK : X.K = K.K) (hu : X.A.units + 64 < cLine) : OpR X (compareOp .NotIn) (rInR K true) := by
  intro pins s σ H x y v u Q I rx ry h
  obtain ⟨d, e, ds, hd, he, hi, sd, se, q⟩ := h
  obtain ⟨p1, p2, p3⟩ := plN_plain _ _ sd
  obtain ⟨q1, q2, q3⟩ := plN_plain _ _ se
  obtain ⟨as, r1⟩ := reads_of I hK hd rx p1
  obtain ⟨bs, r2⟩ := reads_of I hK he ry q1
  rcases items_py hi with z | z <;> rw [z] at r2 q2 q3 <;> simp only [PyData.plain, PyData.depth] at q2 q3
  · exact SeqAt.notIn_list_data r2 r1 q2 p2 (by omega) ⟨.bl _, H, I, rfl, q⟩
  · exact SeqAt.notIn_tuple_data r2 r1 q2 p2 (by omega) ⟨.bl _, H, I, rfl, q⟩
/-- data that has an order: numbers, texts, lists and tuples of alike data -/
def isNon : D → Bool
  | .non => true
  | _ => false
def ltO (d e : D) : Option Bool := if cmpD d = true ∧ cmpD e = true ∧ PySem.W.alike (toPy d) (toPy e) = true ∧ isNon d = false then some (PySem.W.dataLt (toPy d) (toPy e)) else none
theorem ltO_some {d e : D} {b : Bool} (h : ltO d e = some b) : cmpD d = true ∧ cmpD e = true ∧ PySem.W.alike (toPy d) (toPy e) = true ∧ toPy d ≠ .none ∧ b = PySem.W.dataLt (toPy d) (toPy e) := by
  unfold ltO at h
  by_cases c : cmpD d = true ∧ cmpD e = true ∧ PySem.W.alike (toPy d) (toPy e) = true ∧ isNon d = false
  · rw [if_pos c] at h
    refine ⟨c.1, c.2.1, c.2.2.1, fun z => ?_, (Option.some.inj h).symm⟩
    have h1 := c.1
    have h2 := c.2.2.2
    cases d <;> first | (simp [toPy] at z; done) | (simp [isNon] at h2; done) | (simp [cmpD, plN] at h1; done)
  · rw [if_neg c] at h; cases h
def rCmpR (K : KX) (g : D → D → Option Bool) : R2 := fun x y H Q => ∃ d e b, Rp K H x d ∧ Rp K H y e ∧ g d e = some b ∧ Q (.bl b) H
theorem op_ltR (hK : X.K = K.K) (hu : X.A.units + 64 < cLine) : OpR X (compareOp .Lt) (rCmpR K ltO) := by
  intro pins s σ H x y v u Q I rx ry h
  obtain ⟨d, e, b, hd, he, hb, q⟩ := h
  obtain ⟨sd, se, al, nn, rfl⟩ := ltO_some hb
  obtain ⟨p1, p2, p3⟩ := plN_plain _ _ sd
  obtain ⟨q1, q2, q3⟩ := plN_plain _ _ se
  obtain ⟨as, r1⟩ := reads_of I hK hd rx p1
  obtain ⟨bs, r2⟩ := reads_of I hK he ry q1
  exact PySem.W.rcLt_alike _ _ X.A s v u as bs r1 r2 al nn (by omega) _ _ _ _ ⟨.bl _, H, I, rfl, q⟩
theorem op_geR (hK : X.K = K.K) (hu : X.A.units + 64 < cLine) : OpR X (compareOp .GtE) (rCmpR K fun d e => (ltO d e).map (!·)) := by
  intro pins s σ H x y v u Q I rx ry h
  obtain ⟨d, e, b, hd, he, hb, q⟩ := h
  obtain ⟨b', hb2, rfl⟩ := Option.map_eq_some_iff.mp hb
  obtain ⟨sd, se, al, nn, rfl⟩ := ltO_some hb2
  obtain ⟨p1, p2, p3⟩ := plN_plain _ _ sd
  obtain ⟨q1, q2, q3⟩ := plN_plain _ _ se
  obtain ⟨as, r1⟩ := reads_of I hK hd rx p1
  obtain ⟨bs, r2⟩ := reads_of I hK he ry q1
  exact PySem.W.rcGe_alike _ _ X.A s v u as bs r1 r2 al nn (by omega) _ _ _ _ ⟨.bl _, H, I, rfl, q⟩
end
end PyD

set_option Elab.async false
set_option linter.all false
set_option maxRecDepth 100000
namespace PyD
open PySem PySem.Spec L2
open PyProof.Rows hiding St
section
variable {X : Cx} {K : KX} {W : WX} {pos : Pos} {a b c : Expr} {fa fb fc : Ev}
/-! ### operators -/
def gAdd : D → D → Option D
  | .int i, .int j => some (.int (i + j))
  | .str x, .str y => if x.length + y.length ≤ sizeLine then some (.str (x ++ y)) else none
  | .lst xs, .lst ys => if xs.length + ys.length ≤ sizeLine then some (.lst (xs ++ ys)) else none
  | _, _ => none
theorem rp_int {H : Hp} {v : V} {i : Int} (h : Rp K H v (.int i)) : v = .int i := by cases h; rfl
theorem rp_str {H : Hp} {v : V} {x : Str} (h : Rp K H v (.str x)) : v = .str x := by cases h; rfl
theorem rp_bl {H : Hp} {v : V} {x : Bool} (h : Rp K H v (.bl x)) : v = .bl x := by cases h; rfl
theorem rp_non {H : Hp} {v : V} (h : Rp K H v .non) : v = .non := by cases h; rfl
theorem opd_add : OpD K (fun x y H Q => rI0 (fun i j => V.int (i + j)) x y H Q ∨ ((∃ i j, x = .str i ∧ y = .str j ∧ i.length + j.length ≤ sizeLine ∧ Q (.str (i ++ j)) H) ∨ rCat x y H Q)) gAdd := by
  intro M G σ ρ H x y d e z r0 hx hy hz Q q
  cases d <;> cases e <;> simp only [gAdd] at hz <;> try cases hz
  · rename_i i j
    rw [rp_int hx, rp_int hy]
    exact .inl ⟨i, j, rfl, rfl, q _ _ (.refl r0) (.int _)⟩
  · rename_i i j
    split at hz
    · cases hz
      rename_i hl
      rw [rp_str hx, rp_str hy]
      exact .inr (.inl ⟨i, j, rfl, rfl, hl, q _ _ (.refl r0) (.str _)⟩)
    · cases hz
  · split at hz
    · cases hz
      rename_i hl
      cases hx with
      | @lst a1 xs1 _ h1 r1 =>
        cases hy with
        | @lst a2 xs2 _ h2 r2 =>
          refine .inr (.inr ⟨_, _, _, _, rfl, rfl, cut_same _ _ _ _ h1, cut_same _ _ _ _ h2, by rw [r1.length, r2.length]; exact hl, fun p n => ?_⟩)
          have A := After.new (o := .lst (xs1 ++ xs2)) r0 n
          exact q _ _ A (.lst (cut_mk (r0.fresh_hv n) upd_same) ((r1.append r2).keep A.same))
    · cases hz
theorem op_addR : OpR X (binaryOp .Add) (fun x y H Q => rI0 (fun i j => V.int (i + j)) x y H Q ∨ ((∃ i j, x = .str i ∧ y = .str j ∧ i.length + j.length ≤ sizeLine ∧ Q (.str (i ++ j)) H) ∨ rCat x y H Q)) := op_add.or (op_add_str.or op_cat)
theorem PD.bin {op : Operator} {r : R2} {g : D → D → Option D} (ho : OpR X (binaryOp op) r) (hd : OpD K r g) (ha : PD X K W a fa) (hb : PD X K W b fb) : PD X K W (.BinOp a op b pos) (c2 g fa fb) := by
  obtain ⟨ta, a1, a2⟩ := ha
  obtain ⟨tb, b1, b2⟩ := hb
  exact ⟨_, pe_op ho a1 b1, den_2 hd a2 b2⟩
theorem pd_add (ha : PD X K W a fa) (hb : PD X K W b fb) : PD X K W (.BinOp a .Add b pos) (c2 gAdd fa fb) := .bin op_addR opd_add ha hb
def gSub : D → D → Option D
  | .int i, .int j => some (.int (i - j))
  | _, _ => none
theorem opd_sub : OpD K (rI0 fun i j => .int (i - j)) gSub := by
  intro M G σ ρ H x y d e z r0 hx hy hz Q q
  cases d <;> cases e <;> simp only [gSub] at hz <;> cases hz
  rw [rp_int hx, rp_int hy]
  exact ⟨_, _, rfl, rfl, q _ _ (.refl r0) (.int _)⟩
theorem pd_sub (ha : PD X K W a fa) (hb : PD X K W b fb) : PD X K W (.BinOp a .Sub b pos) (c2 gSub fa fb) := .bin op_sub opd_sub ha hb
/-- products: of numbers; a list so many times -/
def gMul : D → D → Option D
  | .int i, .int j => if i.natAbs.log2 + j.natAbs.log2 < 1000000 then some (.int (i * j)) else none
  | .lst xs, .int k => if -(2 ^ 63) ≤ k ∧ k < 2 ^ 63 ∧ xs.length * k.toNat ≤ sizeLine then some (.lst (List.replicate k.toNat xs).flatten) else none
  | .str x, .int k => if -(2 ^ 63) ≤ k ∧ k < 2 ^ 63 ∧ x.length * k.toNat ≤ sizeLine then some (.str (Txt.mul x k)) else none
  | _, _ => none
def rMulS : R2 := fun x y H Q => ∃ (a : Str) (k : Int), x = .str a ∧ y = .int k ∧ -(2 ^ 63) ≤ k ∧ k < 2 ^ 63 ∧ a.length * k.toNat ≤ sizeLine ∧ Q (.str (Txt.mul a k)) H
theorem op_mulS : OpR X (binaryOp .Mult) rMulS := by
  intro pins s σ H x y v u Q I rx ry h
  obtain ⟨a, k, rfl, rfl, h1, h2, h3, q⟩ := h
  obtain ⟨t, rfl⟩ := rx
  obtain ⟨t', rfl⟩ := ry
  refine PySem.SB.mul ⟨?_, fun c1 c2 c3 => ?_, fun c1 c2 => ?_⟩ fun t' j => ⟨.str _, H, I.tok j, ⟨_, rfl⟩, q⟩
  · rw [Bool.or_eq_false_iff]
    exact ⟨decide_eq_false (by omega), decide_eq_false (by omega)⟩
  · have hk : 0 < k := by omega
    have e1 : (a.length : Int) * k ≤ 2 ^ 63 - 1 := by
      have z : ((a.length * k.toNat : Nat) : Int) ≤ (sizeLine : Nat) := by exact_mod_cast h3
      rw [Int.natCast_mul, Int.toNat_of_nonneg (by omega), sizeLine_eq] at z
      omega
    have e2 := (Int.le_ediv_iff_mul_le hk).mpr e1
    omega
  · unfold PySem.Builtin.Str.tooLong
    exact decide_eq_false (by omega)
theorem RpAll.rep {H : Hp} {vs : List V} {ds : List D} (h : RpAll K H vs ds) : ∀ k : Nat, RpAll K H (List.replicate k vs).flatten (List.replicate k ds).flatten
  | 0 => .nil
  | k + 1 => by
    rw [List.replicate_succ, List.replicate_succ, List.flatten_cons, List.flatten_cons]
    exact h.append (h.rep k)
theorem opd_mul : OpD K (fun x y H Q => rI CMulW (fun i j => V.int (i * j)) x y H Q ∨ (rRep x y H Q ∨ rMulS x y H Q)) gMul := by
  intro M G σ ρ H x y d e z r0 hx hy hz Q q
  cases d <;> cases e <;> simp only [gMul] at hz <;> try cases hz
  · split at hz
    · cases hz
      rename_i hl
      rw [rp_int hx, rp_int hy]
      exact .inl ⟨_, _, rfl, rfl, hl, q _ _ (.refl r0) (.int _)⟩
    · cases hz
  · rename_i a k
    split at hz
    · cases hz
      rename_i hl
      rw [rp_str hx, rp_int hy]
      exact .inr (.inr ⟨_, _, rfl, rfl, hl.1, hl.2.1, hl.2.2, q _ _ (.refl r0) (.str _)⟩)
    · cases hz
  · rename_i ds k
    split at hz
    · cases hz
      rename_i hl
      rw [rp_int hy]
      cases hx with
      | @lst a1 xs1 _ h1 r1 =>
        refine .inr (.inl ⟨_, _, _, rfl, rfl, cut_same _ _ _ _ h1, hl.1, hl.2.1, by rw [r1.length]; exact hl.2.2, fun p n => ?_⟩)
        have A := After.new (o := .lst (List.replicate k.toNat xs1).flatten) r0 n
        exact q _ _ A (.lst (cut_mk (r0.fresh_hv n) upd_same) ((r1.rep _).keep A.same))
    · cases hz
theorem pd_mul (ha : PD X K W a fa) (hb : PD X K W b fb) : PD X K W (.BinOp a .Mult b pos) (c2 gMul fa fb) := .bin (op_mulW.or (op_rep.or op_mulS)) opd_mul ha hb
def gDiv : D → D → Option D
  | .int i, .int j => if 0 < j ∧ j.natAbs.log2 < 9000 then some (.int (i / j)) else none
  | _, _ => none
theorem opd_div : OpD K (rI CDivW fun i j => .int (i / j)) gDiv := by
  intro M G σ ρ H x y d e z r0 hx hy hz Q q
  cases d <;> cases e <;> simp only [gDiv] at hz <;> try cases hz
  split at hz
  · cases hz
    rename_i hl
    rw [rp_int hx, rp_int hy]
    exact ⟨_, _, rfl, rfl, hl, q _ _ (.refl r0) (.int _)⟩
  · cases hz
theorem pd_div (ha : PD X K W a fa) (hb : PD X K W b fb) : PD X K W (.BinOp a .FloorDiv b pos) (c2 gDiv fa fb) := .bin op_fdivW opd_div ha hb
def gMod : D → D → Option D
  | .int i, .int j => if 0 < j then some (.int (i % j)) else if j = 0 then none else some (.int (i.fmod j))
  | _, _ => none
theorem opd_mod : OpD K (rI (fun _ j => j ≠ 0) fun i j => .int (i.fmod j)) gMod := by
  intro M G σ ρ H x y d e z r0 hx hy hz Q q
  cases d <;> cases e <;> simp only [gMod] at hz <;> try cases hz
  rename_i i j
  rw [rp_int hx, rp_int hy]
  split at hz
  · cases hz
    rename_i hl
    have em : i.fmod j = i % j := Int.fmod_eq_emod_of_nonneg i (by omega)
    exact ⟨_, _, rfl, rfl, by omega, q _ _ (.refl r0) (by rw [← em]; exact .int _)⟩
  · split at hz
    · cases hz
    · cases hz
      rename_i h0
      exact ⟨_, _, rfl, rfl, h0, q _ _ (.refl r0) (.int _)⟩
theorem pd_mod (ha : PD X K W a fa) (hb : PD X K W b fb) : PD X K W (.BinOp a .Mod b pos) (c2 gMod fa fb) := .bin op_modN opd_mod ha hb
def gPow : D → D → Option D
  | .int i, .int j => if 0 ≤ j ∧ (Builtin.Int.intBits i : Int) * j ≤ 2 ^ 27 then some (.int (i ^ j.toNat)) else none
  | _, _ => none
theorem op_powW : OpR X (binaryOp .Pow) (rI (fun i j => 0 ≤ j ∧ (Builtin.Int.intBits i : Int) * j ≤ 2 ^ 27) fun i j => .int (i ^ j.toNat)) := opI fun _ _ _ _ _ _ _ hc q => pow_int hc.1 hc.2 q
theorem opd_pow : OpD K (rI (fun i j => 0 ≤ j ∧ (Builtin.Int.intBits i : Int) * j ≤ 2 ^ 27) fun i j => .int (i ^ j.toNat)) gPow := by
  intro M G σ ρ H x y d e z r0 hx hy hz Q q
  cases d <;> cases e <;> simp only [gPow] at hz <;> try (cases hz; done)
  rename_i i j
  by_cases c : 0 ≤ j ∧ (Builtin.Int.intBits i : Int) * j ≤ 2 ^ 27
  · rw [if_pos c] at hz
    cases hz
    rw [rp_int hx, rp_int hy]
    exact ⟨_, _, rfl, rfl, c, q _ H (.refl r0) (.int _)⟩
  · rw [if_neg c] at hz; cases hz
theorem pd_pow (ha : PD X K W a fa) (hb : PD X K W b fb) : PD X K W (.BinOp a .Pow b pos) (c2 gPow fa fb) := .bin op_powW opd_pow ha hb
/-! one operand -/
def c1 (g : D → Option D) (fa : Ev) : Ev := fun ρ => (fa ρ).bind fun x => (R.ofOpt (g x.1)).map fun z => (z, x.2)
def OpD1 (K : KX) (r : V → Hp → VK → Prop) (g : D → Option D) : Prop := ∀ {M : Addr → Prop} {G : Hp} {σ : St} {ρ : Rho} {H : Hp} {x : V} {d z : D}, Rel K M G σ ρ H → Rp K (hv M σ ρ H) x d → g d = some z →
  ∀ Q : VK, (∀ v H', After K M σ ρ H M G σ ρ H' → Rp K (hv M σ ρ H') v z → Q v H') → r x H Q
theorem den_1 {r : V → Hp → VK → Prop} {g : D → Option D} {ta : TE} (hr : OpD1 K r g) (ha : Den K W ta fa) : Den K W (tUn r ta) (c1 g fa) := by
  refine ⟨fun {M G σ ρ H d ρ'} r0 e Q q => ?_, fun {M G σ ρ H c d} r0 e x Q => ?_⟩
  · obtain ⟨⟨z, ρ1⟩, e1, e⟩ := R.bind_eq_ok e
    obtain ⟨w, e2, e⟩ := map_ok e
    cases e
    exact ha.ok r0 e1 _ fun v H1 a1 r1 => hr a1.rel r1 (R.ofOpt_eq_ok e2) Q fun u H2 a2 r2 => q u H2 (a1.trans a2) r2
  · rcases R.bind_eq_exc e with e | ⟨⟨z, ρ1⟩, e1, e⟩
    · exact ha.exc r0 e x _
    · exact (R.ofOpt_ne_exc (map_exc e)).elim
def gNeg : D → Option D
  | .int i => some (.int (-i))
  | _ => none
theorem pd_neg (ha : PD X K W a fa) : PD X K W (.UnaryOp .USub a pos) (c1 gNeg fa) := by
  obtain ⟨ta, a1, a2⟩ := ha
  refine ⟨_, pe_un un_neg a1, den_1 ?_ a2⟩
  intro M G σ ρ H x d z r0 hx hz Q q
  cases d <;> simp only [gNeg] at hz <;> cases hz
  rw [rp_int hx]
  exact ⟨_, rfl, q _ _ (.refl r0) (.int _)⟩
/-! ### comparisons: an operand may be an own list that is looked at -/
/-- what of a looked-at value holds in the whole heap -/
theorem RpP.all {M : Addr → Prop} {G : Hp} {σ : St} {ρ : Rho} {H : Hp} {v : V} {d : D} (r : Rel K M G σ ρ H) (h : RpP K M σ ρ H v d) : Rp K H v d := by
  rcases h with h | ⟨i, h, e⟩
  · exact h.keep (cut_same _ _)
  · obtain ⟨p, e', o⟩ := r.ow i d h
    rw [e] at e'
    cases e'
    cases o with
    | lst a ra => exact .lst a (ra.keep (cut_same _ _))
/-- an operator whose answer is plain: it asks the whole heap alone -/
def OpB (K : KX) (r : R2) (g : D → D → Option D) : Prop := ∀ {H : Hp} {x y : V} {d e z : D}, Rp K H x d → Rp K H y e → g d e = some z → ∃ v, (∀ H', Rp K H' v z) ∧ ∀ Q : VK, Q v H → r x y H Q
theorem OpB.d {r : R2} {g : D → D → Option D} (h : OpB K r g) : OpD K r g := by
  intro M G σ ρ H x y d e z r0 hx hy hz Q q
  obtain ⟨v, h1, h2⟩ := h (hx.keep (cut_same _ _)) (hy.keep (cut_same _ _)) hz
  exact h2 Q (q v H (.refl r0) (h1 _))
theorem OpB.or {r r' : R2} {g g' : D → D → Option D} (h : OpB K r g) (h' : OpB K r' g') : OpB K (fun x y H Q => r x y H Q ∨ r' x y H Q) (fun d e => (g d e).or (g' d e)) := by
  intro H x y d e z hx hy hz
  replace hz : (g d e).or (g' d e) = some z := hz
  cases e1 : g d e with
  | some w =>
    rw [e1] at hz
    obtain rfl : w = z := Option.some.inj hz
    obtain ⟨v, h1, h2⟩ := h hx hy e1
    exact ⟨v, h1, fun Q q => .inl (h2 Q q)⟩
  | none =>
    rw [e1] at hz
    obtain ⟨v, h1, h2⟩ := h' hx hy hz
    exact ⟨v, h1, fun Q q => .inr (h2 Q q)⟩
/-- an expression that leaves the slots' data as they are -/
def Pure (f : Ev) : Prop := ∀ ρ d ρ', f ρ = .ok (d, ρ') → ρ' = ρ
theorem den_2P {r : R2} {g : D → D → Option D} {ta tb : TE} (hr : OpB K r g) (ha : DenP K W ta fa) (hb : DenP K W tb fb) (hp : Pure fb) : Den K W (tOp r ta tb) (c2 g fa fb) := by
  refine ⟨fun {M G σ ρ H d ρ'} r0 e Q q => ?_, fun {M G σ ρ H c d} r0 e x Q => ?_⟩
  · obtain ⟨⟨x, ρ1⟩, e1, e⟩ := R.bind_eq_ok e
    obtain ⟨⟨y, ρ2⟩, e2, e⟩ := R.bind_eq_ok e
    obtain ⟨z, e3, e⟩ := map_ok e
    cases e
    obtain rfl := hp _ _ _ e2
    refine ha.ok r0 e1 _ fun v H1 a1 r1 => hb.ok a1.rel e2 _ fun u H2 a2 r2 => ?_
    have r1' : RpP K M σ ρ2 H2 v x := r1.imp (fun h => h.keep a2.same) id
    obtain ⟨w, h1, h2⟩ := hr (r1'.all a2.rel) (r2.all a2.rel) (R.ofOpt_eq_ok e3)
    exact h2 Q (q w H2 (a1.trans a2) (h1 _))
  · rcases R.bind_eq_exc e with e | ⟨⟨x', ρ1⟩, e1, e⟩
    · exact ha.exc r0 e x _
    · refine ha.ok r0 e1 _ fun v H1 a1 r1 => ?_
      rcases R.bind_eq_exc e with e | ⟨⟨y, ρ2⟩, e2, e⟩
      · exact hb.exc a1.rel e x _
      · exact (R.ofOpt_ne_exc (map_exc e)).elim
def gEq (d e : D) : Option D := if cmpD d = true ∧ cmpD e = true then some (.bl (eqD d e)) else none
def gNe (d e : D) : Option D := if cmpD d = true ∧ cmpD e = true then some (.bl (!eqD d e)) else none
theorem opb_eq : OpB K (rEqR K) gEq := by
  intro H x y d e z hx hy hz
  unfold gEq at hz
  by_cases c : cmpD d = true ∧ cmpD e = true
  · rw [if_pos c] at hz
    cases hz
    exact ⟨_, fun _ => .bl _, fun Q q => ⟨d, e, hx, hy, c.1, c.2, q⟩⟩
  · rw [if_neg c] at hz; cases hz
theorem opb_ne : OpB K (rNeR K) gNe := by
  intro H x y d e z hx hy hz
  unfold gNe at hz
  by_cases c : cmpD d = true ∧ cmpD e = true
  · rw [if_pos c] at hz
    cases hz
    exact ⟨_, fun _ => .bl _, fun Q q => ⟨d, e, hx, hy, c.1, c.2, q⟩⟩
  · rw [if_neg c] at hz; cases hz
def gInts (p : Int → Int → Bool) : D → D → Option D
  | .int i, .int j => some (.bl (p i j))
  | _, _ => none
theorem opb_ints {p : Int → Int → Bool} : OpB K (rI0 fun i j => .bl (p i j)) (gInts p) := by
  intro H x y d e z hx hy hz
  cases d <;> cases e <;> simp only [gInts] at hz <;> cases hz
  rw [rp_int hx, rp_int hy]
  exact ⟨_, fun _ => .bl _, fun Q q => ⟨_, _, rfl, rfl, q⟩⟩
theorem opb_cmp {g : D → D → Option Bool} : OpB K (rCmpR K g) (fun d e => (g d e).map .bl) := by
  intro H x y d e z hx hy hz
  obtain ⟨b, h1, rfl⟩ := Option.map_eq_some_iff.mp hz
  exact ⟨_, fun _ => .bl _, fun Q q => ⟨d, e, b, hx, hy, h1, q⟩⟩
def gLt (d e : D) : Option D := (gInts (fun i j => decide (i < j)) d e).or ((ltO d e).map .bl)
def gGe (d e : D) : Option D := (gInts (fun i j => decide (j ≤ i)) d e).or (((ltO d e).map (!·)).map .bl)
abbrev gLe : D → D → Option D := gInts fun i j => decide (i ≤ j)
abbrev gGt : D → D → Option D := gInts fun i j => decide (j < i)
def gIn (neg : Bool) (d e : D) : Option D := match d, e with
  | .str x, .str z => match x.cps.toList with
    | [c] => some (.bl (if neg then !decide (c ∈ z.cps.toList) else decide (c ∈ z.cps.toList)))
    | _ => none
  | d, e => match itemsD e with
    | some ds => if cmpD d = true ∧ cmpD e = true then some (.bl (if neg then !inD d ds else inD d ds)) else none
    | none => none
def rSign (neg : Bool) : R2 := fun x y H Q => ∃ (c : Nat) (z : Str), x = .str ⟨#[c]⟩ ∧ y = .str z ∧ Q (.bl (if neg then !decide (c ∈ z.cps.toList) else decide (c ∈ z.cps.toList))) H
theorem opb_in {neg : Bool} : OpB K (fun x y H Q => rSign neg x y H Q ∨ rInR K neg x y H Q) (gIn neg) := by
  intro H x y d e z hx hy hz
  have items : (∀ a b, ¬ (d = .str a ∧ e = .str b)) → ∃ v, (∀ H', Rp K H' v z) ∧ ∀ Q : VK, Q v H → (rSign neg x y H Q ∨ rInR K neg x y H Q) := fun hn => by
    have hz' : (match itemsD e with
      | some ds => if cmpD d = true ∧ cmpD e = true then some (.bl (if neg then !inD d ds else inD d ds)) else none
      | none => none) = some z := by
      rw [← hz]
      unfold gIn
      cases d <;> first | rfl | (cases e <;> first | rfl | exact absurd ⟨rfl, rfl⟩ (hn _ _))
    cases hi : itemsD e with
    | none => rw [hi] at hz'; cases hz'
    | some ds =>
      rw [hi] at hz'
      simp only at hz'
      by_cases c : cmpD d = true ∧ cmpD e = true
      · rw [if_pos c] at hz'
        cases hz'
        exact ⟨_, fun _ => .bl _, fun Q q => .inr ⟨d, e, ds, hx, hy, hi, c.1, c.2, q⟩⟩
      · rw [if_neg c] at hz'; cases hz'
  by_cases hs : ∃ a b, d = .str a ∧ e = .str b
  · obtain ⟨a, b, rfl, rfl⟩ := hs
    simp only [gIn] at hz
    split at hz
    · rename_i c hc
      cases hz
      have ea : a = ⟨#[c]⟩ := by
        cases a with
        | mk cps =>
          have : cps.toList = [c] := hc
          congr 1
          rw [← Array.toArray_toList (xs := cps), this]
      rw [rp_str hx, rp_str hy]
      exact ⟨_, fun _ => .bl _, fun Q q => .inl ⟨c, b, by rw [ea], rfl, q⟩⟩
    · cases hz
  · exact items fun a b h => hs ⟨a, b, h⟩
theorem op_inS : OpR X (compareOp .In) (rSign false) := op_in_sign
theorem op_notInS : OpR X (compareOp .NotIn) (rSign true) := op_notIn_sign
/-- x is None -/
def gIsN (neg : Bool) (d : D) (e : D) : Option D := match e with
  | .non => some (.bl (if neg then !isNon d else isNon d))
  | _ => none
theorem isNon_iff {H : Hp} {v : V} {d : D} (h : Rp K H v d) : decide (v = .non) = isNon d := by
  cases h <;> simp [isNon]
theorem opb_isN : OpB K (fun x y H Q => y = .non ∧ Q (.bl (decide (x = .non))) H) (gIsN false) := by
  intro H x y d e z hx hy hz
  cases e <;> simp only [gIsN] at hz <;> cases hz
  rw [rp_non hy]
  exact ⟨_, fun _ => .bl _, fun Q q => ⟨rfl, by rw [isNon_iff hx]; exact q⟩⟩
theorem opb_notN : OpB K (fun x y H Q => y = .non ∧ Q (.bl (!decide (x = .non))) H) (gIsN true) := by
  intro H x y d e z hx hy hz
  cases e <;> simp only [gIsN] at hz <;> cases hz
  rw [rp_non hy]
  exact ⟨_, fun _ => .bl _, fun Q q => ⟨rfl, by rw [isNon_iff hx]; exact q⟩⟩
/-- x is True, x is False -/
def gIsB : D → D → Option D
  | .bl a, .bl b => some (.bl (decide (a = b)))
  | _, _ => none
theorem opb_isB : OpB K rIsB gIsB := by
  intro H x y d e z hx hy hz
  cases d <;> cases e <;> simp only [gIsB] at hz <;> cases hz
  rw [rp_bl hx, rp_bl hy]
  exact ⟨_, fun _ => .bl _, fun Q q => ⟨_, _, rfl, rfl, q⟩⟩
/-- how a comparison is read: its operator's reading and what it gives -/
structure Cmp (X : Cx) (K : KX) (op : CmpOp) (g : D → D → Option D) : Prop where
  ex : ∃ r, OpR X (compareOp op) r ∧ OpB K r g
theorem cm_eq (hu : X.A.units + 64 < cLine) (hK : X.K = K.K := by rfl) : Cmp X K .Eq gEq := ⟨_, op_eqR hK hu, opb_eq⟩
theorem cm_ne (hu : X.A.units + 64 < cLine) (hK : X.K = K.K := by rfl) : Cmp X K .NotEq gNe := ⟨_, op_neR hK hu, opb_ne⟩
theorem cm_lt (hu : X.A.units + 64 < cLine) (hK : X.K = K.K := by rfl) : Cmp X K .Lt gLt := ⟨_, op_lt.or (op_ltR hK hu), opb_ints.or opb_cmp⟩
theorem cm_ge (hu : X.A.units + 64 < cLine) (hK : X.K = K.K := by rfl) : Cmp X K .GtE gGe := ⟨_, op_ge.or (op_geR hK hu), opb_ints.or (opb_cmp (g := fun d e => (ltO d e).map (!·)))⟩
theorem cm_le : Cmp X K .LtE gLe := ⟨_, op_le, opb_ints⟩
theorem cm_gt : Cmp X K .Gt gGt := ⟨_, op_gt, opb_ints⟩
theorem cm_in (hu : X.A.units + 64 < cLine) (hK : X.K = K.K := by rfl) : Cmp X K .In (gIn false) := ⟨_, op_inS.or (op_inR hK hu), opb_in⟩
theorem cm_notIn (hu : X.A.units + 64 < cLine) (hK : X.K = K.K := by rfl) : Cmp X K .NotIn (gIn true) := ⟨_, op_notInS.or (op_notInR hK hu), opb_in⟩
theorem cm_isN : Cmp X K .Is (gIsN false) := ⟨_, op_isN, opb_isN⟩
theorem cm_notN : Cmp X K .IsNot (gIsN true) := ⟨_, op_notN, opb_notN⟩
theorem cm_isB : Cmp X K .Is gIsB := ⟨_, op_isBl, opb_isB⟩
theorem pd_cmp {op : CmpOp} {g : D → D → Option D} (hc : Cmp X K op g) (ha : PDP X K W a fa) (hb : PDP X K W b fb) (hp : Pure fb) (hm : behindInMarks op b = false) : PD X K W (.Compare a [op] [b] pos) (c2 g fa fb) := by
  obtain ⟨r, h1, h2⟩ := hc.ex
  obtain ⟨ta, a1, a2⟩ := ha
  obtain ⟨tb, b1, b2⟩ := hb
  exact ⟨_, pe_cmpR h1 a1 b1 hm, den_2P h2 a2 b2 hp⟩
theorem den_2D {r : R2} {g : D → D → Option D} {ta tb : TE} (hr : OpB K r g) (ha : Den K W ta fa) (hb : Den K W tb fb) : Den K W (tOp r ta tb) (c2 g fa fb) := den_2 hr.d ha hb
theorem pd_cmpE {op : CmpOp} {g : D → D → Option D} (hc : Cmp X K op g) (ha : PD X K W a fa) (hb : PD X K W b fb) (hm : behindInMarks op b = false) : PD X K W (.Compare a [op] [b] pos) (c2 g fa fb) := by
  obtain ⟨r, h1, h2⟩ := hc.ex
  obtain ⟨ta, a1, a2⟩ := ha
  obtain ⟨tb, b1, b2⟩ := hb
  exact ⟨_, pe_cmpR h1 a1 b1 hm, den_2D h2 a2 b2⟩
/-! ### tests -/
def asB : D → Option Bool
  | .bl b => some b
  | _ => none
def tOf (f : Ev) : Tv := fun ρ => (f ρ).bind fun x => (R.ofOpt (asB x.1)).map fun b => (b, x.2)
theorem den_tOf {te : TE} {f : Ev} (h : Den K W te f) : DenT K W (tTest te) (tOf f) := by
  refine ⟨fun {M G σ ρ H b ρ'} r0 e Q q => ?_, fun {M G σ ρ H c d} r0 e x Q => ?_⟩
  · obtain ⟨⟨z, ρ1⟩, e1, e⟩ := R.bind_eq_ok e
    obtain ⟨w, e2, e⟩ := map_ok e
    cases e
    refine h.ok r0 e1 _ fun v H1 a1 r1 => ?_
    have e2 := R.ofOpt_eq_ok e2
    cases z <;> simp only [asB] at e2 <;> cases e2
    exact ⟨_, rp_bl r1, q H1 a1⟩
  · rcases R.bind_eq_exc e with e | ⟨⟨z, ρ1⟩, e1, e⟩
    · exact h.exc r0 e x _
    · exact (R.ofOpt_ne_exc (map_exc e)).elim
theorem td_cmp {op : CmpOp} {g : D → D → Option D} (hc : Cmp X K op g) (ha : PDP X K W a fa) (hb : PDP X K W b fb) (hp : Pure fb) (hm : behindInMarks op b = false) : TD X K W (.Compare a [op] [b] pos) (tOf (c2 g fa fb)) := by
  obtain ⟨r, h1, h2⟩ := hc.ex
  obtain ⟨ta, a1, a2⟩ := ha
  obtain ⟨tb, b1, b2⟩ := hb
  exact ⟨_, pt_cmpR h1 a1 b1 hm, den_tOf (den_2P h2 a2 b2 hp)⟩
theorem td_cmpE {op : CmpOp} {g : D → D → Option D} (hc : Cmp X K op g) (ha : PD X K W a fa) (hb : PD X K W b fb) (hm : behindInMarks op b = false) : TD X K W (.Compare a [op] [b] pos) (tOf (c2 g fa fb)) := by
  obtain ⟨r, h1, h2⟩ := hc.ex
  obtain ⟨ta, a1, a2⟩ := ha
  obtain ⟨tb, b1, b2⟩ := hb
  exact ⟨_, pt_cmpR h1 a1 b1 hm, den_tOf (den_2D h2 a2 b2)⟩
theorem td_val {e : Expr} {f : Ev} (h : PD X K W e f) (he : ∀ whole, isTrue e X.env whole = (do let v ← whole; standAt e.pos; holding [v] (truthy v)) := by intro _; rfl) : TD X K W e (tOf f) := by
  obtain ⟨te, h1, h2⟩ := h
  exact ⟨_, pt_val h1 he, den_tOf h2⟩
def WD (X : Cx) (K : KX) (W : WX) (e : Expr) (f : Tv) : Prop := ∃ t, PW X e t ∧ DenT K W t f
def cAnd (f g : Tv) : Tv := fun ρ => (f ρ).bind fun x => if x.1 = true then g x.2 else .ok (false, x.2)
def cOr (f g : Tv) : Tv := fun ρ => (f ρ).bind fun x => if x.1 = true then .ok (true, x.2) else g x.2
def cNot (f : Tv) : Tv := fun ρ => (f ρ).bind fun x => .ok (!x.1, x.2)
variable {rest : List Expr} {f g : Tv}
theorem wd_and1 (h : TD X K W a f) : WD X K W (.BoolOp .And [a] pos) f := by obtain ⟨t, h1, h2⟩ := h; exact ⟨t, pw_and1 h1, h2⟩
theorem wd_or1 (h : TD X K W a f) : WD X K W (.BoolOp .Or [a] pos) f := by obtain ⟨t, h1, h2⟩ := h; exact ⟨t, pw_or1 h1, h2⟩
theorem wd_and (h : TD X K W a f) (h' : WD X K W (.BoolOp .And (b :: rest) pos) g) : WD X K W (.BoolOp .And (a :: b :: rest) pos) (cAnd f g) := by
  obtain ⟨t, h1, h2⟩ := h
  obtain ⟨u, h3, h4⟩ := h'
  refine ⟨_, pw_and h1 h3, fun {M G σ ρ H c ρ'} r0 e Q q => ?_, fun {M G σ ρ H c d} r0 e x Q => ?_⟩
  · obtain ⟨⟨z, ρ1⟩, e1, e⟩ := R.bind_eq_ok e
    refine h2.ok r0 e1 _ fun H1 a1 => ?_
    cases z with
    | true =>
      rw [if_pos rfl] at e ⊢
      exact h4.ok a1.rel e Q fun H2 a2 => q H2 (a1.trans a2)
    | false =>
      rw [if_neg Bool.false_ne_true] at e ⊢
      cases e
      exact q H1 a1
  · rcases R.bind_eq_exc e with e | ⟨⟨z, ρ1⟩, e1, e⟩
    · exact h2.exc r0 e x _
    · refine h2.ok r0 e1 _ fun H1 a1 => ?_
      cases z with
      | true =>
        rw [if_pos rfl] at e ⊢
        exact h4.exc a1.rel e x _
      | false => rw [if_neg Bool.false_ne_true] at e; cases e
theorem wd_or (h : TD X K W a f) (h' : WD X K W (.BoolOp .Or (b :: rest) pos) g) : WD X K W (.BoolOp .Or (a :: b :: rest) pos) (cOr f g) := by
  obtain ⟨t, h1, h2⟩ := h
  obtain ⟨u, h3, h4⟩ := h'
  refine ⟨_, pw_or h1 h3, fun {M G σ ρ H c ρ'} r0 e Q q => ?_, fun {M G σ ρ H c d} r0 e x Q => ?_⟩
  · obtain ⟨⟨z, ρ1⟩, e1, e⟩ := R.bind_eq_ok e
    refine h2.ok r0 e1 _ fun H1 a1 => ?_
    cases z with
    | false =>
      rw [if_neg Bool.false_ne_true] at e ⊢
      exact h4.ok a1.rel e Q fun H2 a2 => q H2 (a1.trans a2)
    | true =>
      rw [if_pos rfl] at e ⊢
      cases e
      exact q H1 a1
  · rcases R.bind_eq_exc e with e | ⟨⟨z, ρ1⟩, e1, e⟩
    · exact h2.exc r0 e x _
    · refine h2.ok r0 e1 _ fun H1 a1 => ?_
      cases z with
      | false =>
        rw [if_neg Bool.false_ne_true] at e ⊢
        exact h4.exc a1.rel e x _
      | true => rw [if_pos rfl] at e; cases e
theorem WD.t {e : Expr} (h : WD X K W e f) : TD X K W e f := by obtain ⟨t, h1, h2⟩ := h; exact ⟨t, h1.pt, h2⟩
theorem td_not (h : TD X K W a f) : TD X K W (.UnaryOp .Not a pos) (cNot f) := by
  obtain ⟨t, h1, h2⟩ := h
  refine ⟨_, pt_not h1, fun {M G σ ρ H c ρ'} r0 e Q q => ?_, fun {M G σ ρ H c d} r0 e x Q => ?_⟩
  · obtain ⟨⟨z, ρ1⟩, e1, e⟩ := R.bind_eq_ok e
    cases e
    exact h2.ok r0 e1 _ fun H1 a1 => q H1 a1
  · rcases R.bind_eq_exc e with e | ⟨⟨z, ρ1⟩, e1, e⟩
    · exact h2.exc r0 e x _
    · cases e
/-! .. as values -/
def cAndV (f g : Ev) : Ev := fun ρ => (tOf f ρ).bind fun x => if x.1 = true then g x.2 else .ok (.bl false, x.2)
def cOrV (f g : Ev) : Ev := fun ρ => (tOf f ρ).bind fun x => if x.1 = true then .ok (.bl true, x.2) else g x.2
def cNotV (f : Ev) : Ev := fun ρ => (tOf f ρ).bind fun x => .ok (.bl (!x.1), x.2)
theorem pd_one {op} {h : Ev} (ha : PD X K W a h) : PD X K W (.BoolOp op [a] pos) h := by obtain ⟨t, h1, h2⟩ := ha; exact ⟨t, pe_one h1, h2⟩
theorem pd_and (ha : PD X K W a fa) (hb : PD X K W (.BoolOp .And (b :: rest) pos) fb) : PD X K W (.BoolOp .And (a :: b :: rest) pos) (cAndV fa fb) := by
  obtain ⟨t, h1, h2⟩ := ha
  obtain ⟨u, h3, h4⟩ := hb
  have h2 := den_tOf h2
  refine ⟨_, pe_and h1 h3, fun {M G σ ρ H c ρ'} r0 e Q q => ?_, fun {M G σ ρ H c d} r0 e x Q => ?_⟩
  · obtain ⟨⟨z, ρ1⟩, e1, e⟩ := R.bind_eq_ok e
    refine h2.ok r0 e1 _ fun H1 a1 => ?_
    cases z with
    | true =>
      rw [if_pos rfl] at e ⊢
      exact h4.ok a1.rel e Q fun v H2 a2 => q v H2 (a1.trans a2)
    | false =>
      rw [if_neg Bool.false_ne_true] at e ⊢
      cases e
      exact q _ H1 a1 (.bl _)
  · rcases R.bind_eq_exc e with e | ⟨⟨z, ρ1⟩, e1, e⟩
    · exact h2.exc r0 e x _
    · refine h2.ok r0 e1 _ fun H1 a1 => ?_
      cases z with
      | true =>
        rw [if_pos rfl] at e ⊢
        exact h4.exc a1.rel e x _
      | false => rw [if_neg Bool.false_ne_true] at e; cases e
theorem pd_or (ha : PD X K W a fa) (hb : PD X K W (.BoolOp .Or (b :: rest) pos) fb) : PD X K W (.BoolOp .Or (a :: b :: rest) pos) (cOrV fa fb) := by
  obtain ⟨t, h1, h2⟩ := ha
  obtain ⟨u, h3, h4⟩ := hb
  have h2 := den_tOf h2
  refine ⟨_, pe_or h1 h3, fun {M G σ ρ H c ρ'} r0 e Q q => ?_, fun {M G σ ρ H c d} r0 e x Q => ?_⟩
  · obtain ⟨⟨z, ρ1⟩, e1, e⟩ := R.bind_eq_ok e
    refine h2.ok r0 e1 _ fun H1 a1 => ?_
    cases z with
    | false =>
      rw [if_neg Bool.false_ne_true] at e ⊢
      exact h4.ok a1.rel e Q fun v H2 a2 => q v H2 (a1.trans a2)
    | true =>
      rw [if_pos rfl] at e ⊢
      cases e
      exact q _ H1 a1 (.bl _)
  · rcases R.bind_eq_exc e with e | ⟨⟨z, ρ1⟩, e1, e⟩
    · exact h2.exc r0 e x _
    · refine h2.ok r0 e1 _ fun H1 a1 => ?_
      cases z with
      | false =>
        rw [if_neg Bool.false_ne_true] at e ⊢
        exact h4.exc a1.rel e x _
      | true => rw [if_pos rfl] at e; cases e
theorem pd_not (ha : PD X K W a fa) : PD X K W (.UnaryOp .Not a pos) (cNotV fa) := by
  obtain ⟨t, h1, h2⟩ := ha
  have h2 := den_tOf h2
  refine ⟨_, pe_not h1, fun {M G σ ρ H c ρ'} r0 e Q q => ?_, fun {M G σ ρ H c d} r0 e x Q => ?_⟩
  · obtain ⟨⟨z, ρ1⟩, e1, e⟩ := R.bind_eq_ok e
    cases e
    exact h2.ok r0 e1 _ fun H1 a1 => q _ H1 a1 (.bl _)
  · rcases R.bind_eq_exc e with e | ⟨⟨z, ρ1⟩, e1, e⟩
    · exact h2.exc r0 e x _
    · cases e
def cIf (t : Tv) (f g : Ev) : Ev := fun ρ => (t ρ).bind fun x => if x.1 = true then f x.2 else g x.2
theorem pd_if {t : Tv} (hc : TD X K W c t) (ha : PD X K W a fa) (hb : PD X K W b fb) : PD X K W (.IfExp c a b pos) (cIf t fa fb) := by
  obtain ⟨t, h1, h2⟩ := hc
  obtain ⟨ta, h3, h4⟩ := ha
  obtain ⟨tb, h5, h6⟩ := hb
  refine ⟨_, pe_ifExp h1 h3 h5, fun {M G σ ρ H c ρ'} r0 e Q q => ?_, fun {M G σ ρ H c d} r0 e x Q => ?_⟩
  · obtain ⟨⟨z, ρ1⟩, e1, e⟩ := R.bind_eq_ok e
    refine h2.ok r0 e1 _ fun H1 a1 => ?_
    cases z with
    | true =>
      rw [if_pos rfl] at e ⊢
      exact h4.ok a1.rel e Q fun v H2 a2 => q v H2 (a1.trans a2)
    | false =>
      rw [if_neg Bool.false_ne_true] at e ⊢
      exact h6.ok a1.rel e Q fun v H2 a2 => q v H2 (a1.trans a2)
  · rcases R.bind_eq_exc e with e | ⟨⟨z, ρ1⟩, e1, e⟩
    · exact h2.exc r0 e x _
    · refine h2.ok r0 e1 _ fun H1 a1 => ?_
      cases z with
      | true =>
        rw [if_pos rfl] at e ⊢
        exact h4.exc a1.rel e x _
      | false =>
        rw [if_neg Bool.false_ne_true] at e ⊢
        exact h6.exc a1.rel e x _
end
end PyD

set_option Elab.async false
set_option linter.all false
set_option maxRecDepth 100000
namespace PyD
open PySem PySem.Spec L2
open PyProof.Rows hiding St
section
variable {X : Cx} {K : KX} {W : WX} {pos : Pos} {a b c e : Expr} {fa fb fc : Ev} {es : List Expr} {fs : Av}
/-! ### argument lists and displays -/
def cNil : Av := fun ρ => .ok ([], ρ)
def cCons (f : Ev) (g : Av) : Av := fun ρ => (f ρ).bind fun x => (g x.2).map fun y => (x.1 :: y.1, y.2)
theorem ad_nil : AD X K W [] cNil := ⟨_, pa_nil, fun r e Q q => by cases e; exact q _ _ (.refl r) .nil, fun r e => by cases e⟩
theorem ad_cons (ha : PD X K W e fa) (hs : AD X K W es fs) (hst : starEach (e :: es) X.env = (false, eval e X.env) :: starEach es X.env := by rfl) : AD X K W (e :: es) (cCons fa fs) := by
  obtain ⟨t, h1, h2⟩ := ha
  obtain ⟨u, h3, h4⟩ := hs
  refine ⟨_, pa_cons h1 h3 hst, fun {M G σ ρ H d ρ'} r0 e Q q => ?_, fun {M G σ ρ H c d} r0 e x Q => ?_⟩
  · obtain ⟨⟨z, ρ1⟩, e1, e⟩ := R.bind_eq_ok e
    obtain ⟨⟨zs, ρ2⟩, e2, e⟩ := map_ok e
    cases e
    refine h2.ok r0 e1 _ fun v H1 a1 r1 => h4.ok a1.rel e2 _ fun vs H2 a2 r2 => ?_
    exact q _ _ (a1.trans a2) (.cons (r1.keep a2.same) r2)
  · rcases R.bind_eq_exc e with e | ⟨⟨z, ρ1⟩, e1, e⟩
    · exact h2.exc r0 e x _
    · exact h2.ok r0 e1 _ fun v H1 a1 r1 => h4.exc a1.rel (map_exc e) x _
/-- a tuple -/
def cTup (f : Av) : Ev := fun ρ => (f ρ).bind fun x => if x.1.length ≤ sizeLine then .ok (.tup x.1, x.2) else .bad
theorem pd_tup {x1} (h : AD X K W es fs) : PD X K W (.Tuple es x1 pos) (cTup fs) := by
  obtain ⟨t, h1, h2⟩ := h
  refine ⟨_, pe_tup h1, fun {M G σ ρ H d ρ'} r0 e Q q => ?_, fun {M G σ ρ H c d} r0 e x Q => ?_⟩
  · obtain ⟨⟨ds, ρ1⟩, e1, e⟩ := R.bind_eq_ok e
    by_cases hl : ds.length ≤ sizeLine
    · rw [if_pos hl] at e
      cases e
      refine h2.ok r0 e1 _ fun vs H1 a1 r1 => ⟨by rw [r1.length]; exact hl, fun p n => ?_⟩
      have A := After.new (o := .tup vs) a1.rel n
      exact q _ _ (a1.trans A) (.tup (.inl (.inl (cut_mk (a1.rel.fresh_hv n) upd_same))) (r1.keep A.same))
    · rw [if_neg hl] at e; cases e
  · rcases R.bind_eq_exc e with e | ⟨⟨z, ρ1⟩, e1, e⟩
    · exact h2.exc r0 e x _
    · simp only at e
      split at e <;> cases e
/-- a new list -/
def cLst (f : Av) : Av := fun ρ => (f ρ).bind fun x => if x.1.length ≤ sizeLine then .ok x else .bad
theorem fd_lst (h : AD X K W es fs) : PDF X K W (.List es pos) (cLst fs) := by
  obtain ⟨t, h1, h2⟩ := h
  refine ⟨_, pe_lst h1, fun {M G σ ρ H d ρ'} r0 e Q q => ?_, fun {M G σ ρ H c d} r0 e x Q => ?_⟩
  · obtain ⟨⟨ds, ρ1⟩, e1, e⟩ := R.bind_eq_ok e
    by_cases hl : ds.length ≤ sizeLine
    · rw [if_pos hl] at e
      cases e
      refine h2.ok r0 e1 _ fun vs H1 a1 r1 => ⟨by rw [r1.length]; exact hl, fun p n => ?_⟩
      have A := After.protect (o := .lst vs) a1.rel n
      obtain ⟨g, m, _⟩ := a1.rel.fresh n
      exact q p vs _ g m (a1.trans A) (r1.keep A.same)
    · rw [if_neg hl] at e; cases e
  · rcases R.bind_eq_exc e with e | ⟨⟨z, ρ1⟩, e1, e⟩
    · exact h2.exc r0 e x _
    · simp only at e
      split at e <;> cases e
/-! ### list operators that give a new list -/
def cCat (fa fb : Ev) : Av := fun ρ => (fa ρ).bind fun x => (fb x.2).bind fun y => match x.1, y.1 with
  | .lst xs, .lst ys => if xs.length + ys.length ≤ sizeLine then .ok (xs ++ ys, y.2) else .bad
  | _, _ => .bad
theorem fd_cat (ha : PD X K W a fa) (hb : PD X K W b fb) : PDF X K W (.BinOp a .Add b pos) (cCat fa fb) := by
  obtain ⟨ta, a1, a2⟩ := ha
  obtain ⟨tb, b1, b2⟩ := hb
  refine ⟨_, pe_op op_cat a1 b1, fun {M G σ ρ H d ρ'} r0 e Q q => ?_, fun {M G σ ρ H c d} r0 e x Q => ?_⟩
  · obtain ⟨⟨x, ρ1⟩, e1, e⟩ := R.bind_eq_ok e
    obtain ⟨⟨y, ρ2⟩, e2, e⟩ := R.bind_eq_ok e
    obtain ⟨xs, rfl⟩ : ∃ xs, x = .lst xs := by cases x <;> simp only at e <;> first | exact ⟨_, rfl⟩ | cases e
    obtain ⟨ys, rfl⟩ : ∃ ys, y = .lst ys := by cases y <;> simp only at e <;> first | exact ⟨_, rfl⟩ | cases e
    simp only at e
    by_cases hl : xs.length + ys.length ≤ sizeLine
    · rw [if_pos hl] at e
      cases e
      refine a2.ok r0 e1 _ fun v H1 A1 r1 => b2.ok A1.rel e2 _ fun u H2 A2 r2 => ?_
      cases r1 with
      | @lst p1 vs _ h1 r1 =>
        cases r2 with
        | @lst p2 ws _ h2 r2 =>
          refine ⟨_, _, vs, ws, rfl, rfl, cut_same _ _ _ _ (A2.same _ _ h1), cut_same _ _ _ _ h2, by rw [r1.length, r2.length]; exact hl, fun p n => ?_⟩
          have A := After.protect (o := .lst (vs ++ ws)) A2.rel n
          obtain ⟨g, m, _⟩ := A2.rel.fresh n
          exact q p _ _ g m ((A1.trans A2).trans A) (((r1.keep A2.same).append r2).keep A.same)
    · rw [if_neg hl] at e; cases e
  · rcases R.bind_eq_exc e with e | ⟨⟨x', ρ1⟩, e1, e⟩
    · exact a2.exc r0 e x _
    · refine a2.ok r0 e1 _ fun v H1 A1 r1 => ?_
      rcases R.bind_eq_exc e with e | ⟨⟨y, ρ2⟩, e2, e⟩
      · exact b2.exc A1.rel e x _
      · exfalso
        cases x' <;> simp only at e <;> try cases e
        cases y <;> simp only at e <;> try cases e
        split at e <;> cases e
def cRep (fa fb : Ev) : Av := fun ρ => (fa ρ).bind fun x => (fb x.2).bind fun y => match x.1, y.1 with
  | .lst xs, .int k => if -(2 ^ 63) ≤ k ∧ k < 2 ^ 63 ∧ xs.length * k.toNat ≤ sizeLine then .ok ((List.replicate k.toNat xs).flatten, y.2) else .bad
  | _, _ => .bad
theorem fd_rep (ha : PD X K W a fa) (hb : PD X K W b fb) : PDF X K W (.BinOp a .Mult b pos) (cRep fa fb) := by
  obtain ⟨ta, a1, a2⟩ := ha
  obtain ⟨tb, b1, b2⟩ := hb
  refine ⟨_, pe_op op_rep a1 b1, fun {M G σ ρ H d ρ'} r0 e Q q => ?_, fun {M G σ ρ H c d} r0 e x Q => ?_⟩
  · obtain ⟨⟨x, ρ1⟩, e1, e⟩ := R.bind_eq_ok e
    obtain ⟨⟨y, ρ2⟩, e2, e⟩ := R.bind_eq_ok e
    obtain ⟨xs, rfl⟩ : ∃ xs, x = .lst xs := by cases x <;> simp only at e <;> first | exact ⟨_, rfl⟩ | cases e
    obtain ⟨k, rfl⟩ : ∃ k, y = .int k := by cases y <;> simp only at e <;> first | exact ⟨_, rfl⟩ | cases e
    simp only at e
    by_cases hl : -(2 ^ 63) ≤ k ∧ k < 2 ^ 63 ∧ xs.length * k.toNat ≤ sizeLine
    · rw [if_pos hl] at e
      cases e
      refine a2.ok r0 e1 _ fun v H1 A1 r1 => b2.ok A1.rel e2 _ fun u H2 A2 r2 => ?_
      cases r1 with
      | @lst p1 vs _ h1 r1 =>
        rw [rp_int r2]
        refine ⟨_, _, vs, rfl, rfl, cut_same _ _ _ _ (A2.same _ _ h1), hl.1, hl.2.1, by rw [r1.length]; exact hl.2.2, fun p n => ?_⟩
        have A := After.protect (o := .lst (List.replicate k.toNat vs).flatten) A2.rel n
        obtain ⟨g, m, _⟩ := A2.rel.fresh n
        exact q p _ _ g m ((A1.trans A2).trans A) (((r1.keep A2.same).rep _).keep A.same)
    · rw [if_neg hl] at e; cases e
  · rcases R.bind_eq_exc e with e | ⟨⟨x', ρ1⟩, e1, e⟩
    · exact a2.exc r0 e x _
    · refine a2.ok r0 e1 _ fun v H1 A1 r1 => ?_
      rcases R.bind_eq_exc e with e | ⟨⟨y, ρ2⟩, e2, e⟩
      · exact b2.exc A1.rel e x _
      · exfalso
        cases x' <;> simp only at e <;> try cases e
        cases y <;> simp only at e <;> try cases e
        split at e <;> cases e
/-! ### items and slices -/
theorem RpP.lst {M : Addr → Prop} {G : Hp} {σ : St} {ρ : Rho} {H : Hp} {v : V} {ds : List D} (r : Rel K M G σ ρ H) (h : RpP K M σ ρ H v (.lst ds)) : ∃ p xs, v = .ref p ∧ H p = some (.lst xs) ∧ RpAll K (hv M σ ρ H) xs ds := by
  rcases h with h | ⟨i, h, e⟩
  · cases h with
    | lst a ra => exact ⟨_, _, rfl, cut_same _ _ _ _ a, ra⟩
  · obtain ⟨p, e', o⟩ := r.ow i _ h
    rw [e] at e'
    cases e'
    cases o with
    | lst a ra => exact ⟨_, _, rfl, a, ra⟩
theorem RpP.notL {M : Addr → Prop} {G : Hp} {σ : St} {ρ : Rho} {H : Hp} {v : V} {d : D} (r : Rel K M G σ ρ H) (h : RpP K M σ ρ H v d) (hn : ∀ ds, d ≠ .lst ds) : Rp K (hv M σ ρ H) v d := by
  rcases h with h | ⟨i, h, e⟩
  · exact h
  · obtain ⟨p, e', o⟩ := r.ow i _ h
    cases o with
    | lst a ra => exact absurd rfl (hn _)
theorem RpP.keepP {M : Addr → Prop} {σ : St} {ρ : Rho} {H H' : Hp} {v : V} {d : D} (h : RpP K M σ ρ H v d) (s : Same (hv M σ ρ H) (hv M σ ρ H')) : RpP K M σ ρ H' v d := h.imp (fun q => q.keep s) id
def atD {α : Type} (xs : List α) (i : Int) : Option α := atI xs i
def gIx : D → D → Option D
  | .lst xs, .int i => atI xs i
  | .tup xs, .int i => atI xs i
  | .str x, .int i => if x.length ≤ sizeLine then (atI x.cps.toList i).map fun c => .str ⟨#[c]⟩ else none
  | .scr ns, .int i => (atI ns i).map .int
  | _, _ => none
theorem atI_rp {H : Hp} {vs : List V} {ds : List D} {i : Int} {d : D} (r : RpAll K H vs ds) (h : atI ds i = some d) : ∃ v, atI vs i = some v ∧ Rp K H v d := by
  unfold atI at h ⊢
  rw [r.length]
  cases e : ixN ds.length i with
  | none => rw [e] at h; cases h
  | some j =>
    rw [e] at h
    obtain ⟨v, h1, h2⟩ := r.get (i := j) (d := d) h
    exact ⟨v, h1, h2⟩
theorem atI_map {α β : Type} (f : α → β) (xs : List α) (i : Int) : atI (xs.map f) i = (atI xs i).map f := by
  unfold atI
  rw [List.length_map]
  cases ixN xs.length i with
  | none => rfl
  | some j => simp
theorem den_ix {ta tb : TE} (hK : X.K = K.K) (ha : DenP K W ta fa) (hb : Den K W tb fb) (hp : Pure fb) : Den K W (tOp (rIx X.K) ta tb) (c2 gIx fa fb) := by
  refine ⟨fun {M G σ ρ H d ρ'} r0 e Q q => ?_, fun {M G σ ρ H c d} r0 e x Q => ?_⟩
  · obtain ⟨⟨x, ρ1⟩, e1, e⟩ := R.bind_eq_ok e
    obtain ⟨⟨y, ρ2⟩, e2, e⟩ := R.bind_eq_ok e
    obtain ⟨z, e3, e⟩ := map_ok e
    cases e
    obtain rfl := hp _ _ _ e2
    have e3 := R.ofOpt_eq_ok e3
    refine ha.ok r0 e1 _ fun v H1 a1 r1 => hb.ok a1.rel e2 _ fun u H2 a2 r2 => ?_
    have r1 := r1.keepP a2.same
    have A := a1.trans a2
    simp only at e3
    obtain ⟨i, rfl⟩ : ∃ i, y = .int i := by cases y <;> first | exact ⟨_, rfl⟩ | (cases x <;> simp [gIx] at e3)
    rw [rp_int r2]
    clear e1 e2
    cases x with
    | str x =>
      have r1 := r1.notL a2.rel (fun _ z => by cases z)
      rw [rp_str r1]
      simp only [gIx] at e3
      by_cases hl : x.length ≤ sizeLine
      · rw [if_pos hl] at e3
        obtain ⟨ch, h1, rfl⟩ := Option.map_eq_some_iff.mp e3
        exact .inr (.inr ⟨x, i, ch, rfl, rfl, hl, h1, q _ _ A (.str _)⟩)
      · rw [if_neg hl] at e3; cases e3
    | lst xs =>
      obtain ⟨p, vs, rfl, h1, h2⟩ := r1.lst a2.rel
      obtain ⟨w, h3, h4⟩ := atI_rp h2 e3
      exact .inl ⟨p, vs, i, w, rfl, rfl, .inl (.inl h1), h3, q _ _ A h4⟩
    | tup xs =>
      have r1 := r1.notL a2.rel (fun _ z => by cases z)
      cases r1 with
      | tup h1 h2 =>
        obtain ⟨w, h3, h4⟩ := atI_rp h2 e3
        exact .inr (.inl ⟨_, _, i, w, rfl, rfl, by rw [hK]; exact SqT.keep (cut_same _ _) h1, h3, q _ _ A h4⟩)
    | scr ns =>
      have r1 := r1.notL a2.rel (fun _ z => by cases z)
      cases r1 with
      | scr h1 =>
        simp only [gIx] at e3
        obtain ⟨n, h3, rfl⟩ := Option.map_eq_some_iff.mp e3
        exact .inl ⟨_, _, i, .int n, rfl, rfl, by rw [hK]; exact (cut_same _ _).seq h1, by rw [atI_map, h3]; rfl, q _ _ A (.int n)⟩
    | _ => simp [gIx] at e3
  · rcases R.bind_eq_exc e with e | ⟨⟨x', ρ1⟩, e1, e⟩
    · exact ha.exc r0 e x _
    · refine ha.ok r0 e1 _ fun v H1 a1 r1 => ?_
      rcases R.bind_eq_exc e with e | ⟨⟨y, ρ2⟩, e2, e⟩
      · exact hb.exc a1.rel e x _
      · exact (R.ofOpt_ne_exc (map_exc e)).elim
theorem pd_ix (ha : PDP X K W a fa) (hb : PD X K W b fb) (hp : Pure fb) (hs : PlainIx b := by exact fun _ _ => rfl) (hK : X.K = K.K := by rfl) : PD X K W (.Subscript a b pos) (c2 gIx fa fb) := by
  obtain ⟨ta, a1, a2⟩ := ha
  obtain ⟨tb, b1, b2⟩ := hb
  exact ⟨_, pe_ix ix_seq a1 b1 hs, den_ix hK a2 b2 hp⟩
/-- .. where the index may draw: what is indexed is shared -/
theorem den_ixE {ta tb : TE} (hK : X.K = K.K) (ha : Den K W ta fa) (hb : Den K W tb fb) : Den K W (tOp (rIx X.K) ta tb) (c2 gIx fa fb) := by
  refine den_2 (g := gIx) ?_ ha hb
  intro M G σ ρ H x y d e z r0 hx hy hz Q q
  obtain ⟨i, rfl⟩ : ∃ i, e = .int i := by cases e <;> first | exact ⟨_, rfl⟩ | (cases d <;> simp [gIx] at hz)
  rw [rp_int hy]
  cases d with
  | str x =>
    rw [rp_str hx]
    simp only [gIx] at hz
    by_cases hl : x.length ≤ sizeLine
    · rw [if_pos hl] at hz
      obtain ⟨ch, h1, rfl⟩ := Option.map_eq_some_iff.mp hz
      exact .inr (.inr ⟨x, i, ch, rfl, rfl, hl, h1, q _ _ (.refl r0) (.str _)⟩)
    · rw [if_neg hl] at hz; cases hz
  | lst xs =>
    cases hx with
    | lst h1 h2 =>
      obtain ⟨w, h3, h4⟩ := atI_rp h2 hz
      exact .inl ⟨_, _, i, w, rfl, rfl, .inl (.inl (cut_same _ _ _ _ h1)), h3, q _ _ (.refl r0) h4⟩
  | tup xs =>
    cases hx with
    | tup h1 h2 =>
      obtain ⟨w, h3, h4⟩ := atI_rp h2 hz
      exact .inr (.inl ⟨_, _, i, w, rfl, rfl, by rw [hK]; exact SqT.keep (cut_same _ _) h1, h3, q _ _ (.refl r0) h4⟩)
  | scr ns =>
    cases hx with
    | scr h1 =>
      simp only [gIx] at hz
      obtain ⟨n, h3, rfl⟩ := Option.map_eq_some_iff.mp hz
      exact .inl ⟨_, _, i, .int n, rfl, rfl, by rw [hK]; exact (cut_same _ _).seq h1, by rw [atI_map, h3]; rfl, q _ _ (.refl r0) (.int n)⟩
  | _ => simp [gIx] at hz
theorem pd_ixE (ha : PD X K W a fa) (hb : PD X K W b fb) (hs : PlainIx b := by exact fun _ _ => rfl) (hK : X.K = K.K := by rfl) : PD X K W (.Subscript a b pos) (c2 gIx fa fb) := by
  obtain ⟨ta, a1, a2⟩ := ha
  obtain ⟨tb, b1, b2⟩ := hb
  exact ⟨_, pe_ix ix_seq a1 b1 hs, den_ixE hK a2 b2⟩
/-! slices: bounds that leave the slots as they are -/
abbrev Bv := Rho → R (Option Int)
structure DenO (K : KX) (W : WX) (te : TO) (f : Bv) : Prop where
  ok : ∀ {M G σ ρ H o}, Rel K M G σ ρ H → f ρ = .ok o → ∀ Q : Option Int → Hp → Prop, (∀ H', After K M σ ρ H M G σ ρ H' → Q o H') → te σ H Q
  exc : ∀ {M G σ ρ H c d}, Rel K M G σ ρ H → f ρ = .exc c d → ExcPost K W M G σ c d → ∀ Q, te σ H Q
def OD (X : Cx) (K : KX) (W : WX) (e : Option Expr) (f : Bv) : Prop := ∃ t, PO X e t ∧ DenO K W t f
def cNo : Bv := fun _ => .ok none
def cSome (f : Ev) : Bv := fun ρ => (f ρ).bind fun x => match x.1 with
  | .int i => .ok (some i)
  | _ => .bad
theorem od_none : OD X K W none cNo := ⟨_, po_none, fun r e Q q => by cases e; exact q _ (.refl r), fun r e => by cases e⟩
theorem od_some (h : PD X K W e fa) (hp : Pure fa) : OD X K W (some e) (cSome fa) := by
  obtain ⟨t, h1, h2⟩ := h
  refine ⟨_, po_some h1, fun {M G σ ρ H o} r0 e Q q => ?_, fun {M G σ ρ H c d} r0 e x Q => ?_⟩
  · obtain ⟨⟨z, ρ1⟩, e1, e⟩ := R.bind_eq_ok e
    obtain rfl := hp _ _ _ e1
    cases z <;> simp only at e <;> cases e
    exact h2.ok r0 e1 _ fun v H1 a1 r1 => ⟨_, rp_int r1, q H1 a1⟩
  · rcases R.bind_eq_exc e with e | ⟨⟨z, ρ1⟩, e1, e⟩
    · exact h2.exc r0 e x _
    · cases z <;> simp only at e <;> cases e
def cutD (xs : List D) (lo hi : Option Int) : List D := (xs.drop (HT.sIx xs.length 0 lo)).take (HT.sIx xs.length xs.length hi - HT.sIx xs.length 0 lo)
theorem RpAll.cut {H : Hp} {vs : List V} {ds : List D} (lo hi : Option Int) (h : RpAll K H vs ds) : RpAll K H (cutV vs lo hi) (cutD ds lo hi) := by
  unfold cutV cutD
  rw [h.length]
  exact (h.drop _).take _
def gSl (lo hi : Option Int) : D → Option D
  | .str x => if x.length ≤ sizeLine then some (.str (cutS x lo hi)) else none
  | .tup xs => if ¬ (HT.sIx xs.length 0 lo = 0 ∧ HT.sIx xs.length xs.length hi = xs.length) then some (.tup (cutD xs lo hi)) else none
  | .lst xs => some (.lst (cutD xs lo hi))
  | .scr ns => some (.lst (cutD (ns.map .int) lo hi))
  | _ => none
def cSl (f : Ev) (l h : Bv) : Ev := fun ρ => (f ρ).bind fun x => (l x.2).bind fun lo => (h x.2).bind fun hi => (R.ofOpt (gSl lo hi x.1)).map fun z => (z, x.2)
variable {lo hi : Option Expr} {fl fh : Bv}
theorem pd_sl {p2 : Pos} (ha : PDP X K W a fa) (hl : OD X K W lo fl) (hh : OD X K W hi fh) (hK : X.K = K.K := by rfl) : PD X K W (.Subscript a (.Slice lo hi none p2) pos) (cSl fa fl fh) := by
  obtain ⟨t, a1, a2⟩ := ha
  obtain ⟨u, b1, b2⟩ := hl
  obtain ⟨w, c1, c2⟩ := hh
  refine ⟨_, pe_slice (sl_list.or (sl_tup.or sl_str)) a1 b1 c1, fun {M G σ ρ H d ρ'} r0 e Q q => ?_, fun {M G σ ρ H c d} r0 e x Q => ?_⟩
  · obtain ⟨⟨x, ρ1⟩, e1, e⟩ := R.bind_eq_ok e
    obtain ⟨l, e2, e⟩ := R.bind_eq_ok e
    obtain ⟨h, e3, e⟩ := R.bind_eq_ok e
    obtain ⟨z, e4, e⟩ := map_ok e
    cases e
    have e4 := R.ofOpt_eq_ok e4
    refine a2.ok r0 e1 _ fun v H1 A1 r1 => b2.ok A1.rel e2 _ fun H2 A2 => c2.ok A2.rel e3 _ fun H3 A3 => ?_
    have A := (A1.trans A2).trans A3
    have r1 := r1.keepP (A2.same.trans A3.same)
    clear e1 e2 e3
    simp only at e4
    cases x with
    | str x =>
      simp only [gSl] at e4
      by_cases hz : x.length ≤ sizeLine
      · rw [if_pos hz] at e4
        cases e4
        have r1 := r1.notL A3.rel (fun _ z => by cases z)
        rw [rp_str r1]
        exact .inr (.inr ⟨_, rfl, hz, q _ _ A (.str _)⟩)
      · rw [if_neg hz] at e4; cases e4
    | lst xs =>
      simp only [gSl] at e4
      cases e4
      obtain ⟨p, vs, rfl, h1, h2⟩ := r1.lst A3.rel
      refine .inl ⟨p, vs, rfl, .inl (.inl h1), fun p n => ?_⟩
      have B := After.new (o := .lst (cutV vs l h)) A3.rel n
      exact q _ _ (A.trans B) (.lst (cut_mk (A3.rel.fresh_hv n) upd_same) ((h2.cut l h).keep B.same))
    | tup xs =>
      simp only [gSl] at e4
      by_cases hz : ¬ (HT.sIx xs.length 0 l = 0 ∧ HT.sIx xs.length xs.length h = xs.length)
      · rw [if_pos hz] at e4
        cases e4
        have r1 := r1.notL A3.rel (fun _ z => by cases z)
        cases r1 with
        | @tup a vs ds h1 h2 =>
          refine .inr (.inl ⟨a, vs, rfl, by rw [hK]; exact SqT.keep (cut_same _ _) h1, by rw [h2.length]; exact hz, fun p n => ?_⟩)
          have B := After.new (o := .tup (cutV vs l h)) A3.rel n
          exact q _ _ (A.trans B) (.tup (.inl (.inl (cut_mk (A3.rel.fresh_hv n) upd_same))) ((h2.cut l h).keep B.same))
      · rw [if_neg hz] at e4; cases e4
    | scr ns =>
      simp only [gSl] at e4
      cases e4
      have r1 := r1.notL A3.rel (fun _ z => by cases z)
      cases r1 with
      | @scr a _ h1 =>
        refine .inl ⟨a, ns.map V.int, rfl, by rw [hK]; exact (cut_same _ _).seq h1, fun p n => ?_⟩
        have B := After.new (o := .lst (cutV (ns.map V.int) l h)) A3.rel n
        exact q _ _ (A.trans B) (.lst (cut_mk (A3.rel.fresh_hv n) upd_same) ((RpAll.of_ints ns).cut l h))
    | _ => simp [gSl] at e4
  · rcases R.bind_eq_exc e with e | ⟨⟨z, ρ1⟩, e1, e⟩
    · exact a2.exc r0 e x _
    · refine a2.ok r0 e1 _ fun v H1 A1 r1 => ?_
      rcases R.bind_eq_exc e with e | ⟨l, e2, e⟩
      · exact b2.exc A1.rel e x _
      · refine b2.ok A1.rel e2 _ fun H2 A2 => ?_
        rcases R.bind_eq_exc e with e | ⟨h, e3, e⟩
        · exact c2.exc A2.rel e x _
        · exact (R.ofOpt_ne_exc (map_exc e)).elim
/-- a slice of a list, as a new list -/
def cSlF (f : Ev) (l h : Bv) : Av := fun ρ => (f ρ).bind fun x => (l x.2).bind fun lo => (h x.2).bind fun hi => match x.1 with
  | .lst xs => .ok (cutD xs lo hi, x.2)
  | _ => .bad
theorem fd_sl {p2 : Pos} (ha : PDP X K W a fa) (hl : OD X K W lo fl) (hh : OD X K W hi fh) : PDF X K W (.Subscript a (.Slice lo hi none p2) pos) (cSlF fa fl fh) := by
  obtain ⟨t, a1, a2⟩ := ha
  obtain ⟨u, b1, b2⟩ := hl
  obtain ⟨w, c1, c2⟩ := hh
  refine ⟨_, pe_slice sl_list a1 b1 c1, fun {M G σ ρ H d ρ'} r0 e Q q => ?_, fun {M G σ ρ H c d} r0 e x Q => ?_⟩
  · obtain ⟨⟨x, ρ1⟩, e1, e⟩ := R.bind_eq_ok e
    obtain ⟨l, e2, e⟩ := R.bind_eq_ok e
    obtain ⟨h, e3, e⟩ := R.bind_eq_ok e
    cases x <;> simp only at e <;> cases e
    refine a2.ok r0 e1 _ fun v H1 A1 r1 => b2.ok A1.rel e2 _ fun H2 A2 => c2.ok A2.rel e3 _ fun H3 A3 => ?_
    have A := (A1.trans A2).trans A3
    have r1 := r1.keepP (A2.same.trans A3.same)
    obtain ⟨p, vs, rfl, h1, h2⟩ := r1.lst A3.rel
    refine ⟨p, vs, rfl, .inl (.inl h1), fun p n => ?_⟩
    have B := After.protect (o := .lst (cutV vs l h)) A3.rel n
    obtain ⟨g, m, _⟩ := A3.rel.fresh n
    exact q p _ _ g m (A.trans B) ((h2.cut l h).keep B.same)
  · rcases R.bind_eq_exc e with e | ⟨⟨z, ρ1⟩, e1, e⟩
    · exact a2.exc r0 e x _
    · refine a2.ok r0 e1 _ fun v H1 A1 r1 => ?_
      rcases R.bind_eq_exc e with e | ⟨l, e2, e⟩
      · exact b2.exc A1.rel e x _
      · refine b2.ok A1.rel e2 _ fun H2 A2 => ?_
        rcases R.bind_eq_exc e with e | ⟨h, e3, e⟩
        · exact c2.exc A2.rel e x _
        · cases z <;> simp only at e <;> cases e
end
end PyD

set_option Elab.async false
set_option linter.all false
set_option maxRecDepth 100000
namespace PyD
open PySem PySem.Spec L2
open PyProof.Rows hiding St
section
variable {X : Cx} {K : KX} {W : WX} {pos : Pos} {a b e : Expr} {fa fb : Ev} {es : List Expr} {fs : Av}
/-! ### built-in calls -/
def OpC (K : KX) (r : List V → Hp → VK → Prop) (g : List D → Option D) : Prop := ∀ {M : Addr → Prop} {G : Hp} {σ : St} {ρ : Rho} {H : Hp} {vs : List V} {ds : List D} {z : D}, Rel K M G σ ρ H → RpAll K (hv M σ ρ H) vs ds → g ds = some z →
  ∀ Q : VK, (∀ v H', After K M σ ρ H M G σ ρ H' → Rp K (hv M σ ρ H') v z → Q v H') → r vs H Q
/-- .. whose answer is a new list -/
def OpCF (K : KX) (r : List V → Hp → VK → Prop) (g : List D → Option (List D)) : Prop := ∀ {M : Addr → Prop} {G : Hp} {σ : St} {ρ : Rho} {H : Hp} {vs ds zs}, Rel K M G σ ρ H → RpAll K (hv M σ ρ H) vs ds → g ds = some zs →
  ∀ Q : VK, (∀ p xs H', G p = none → ¬ M p → After K M σ ρ H (Mp M p) (upd G p (.lst xs)) σ ρ H' → RpAll K (hv (Mp M p) σ ρ H') xs zs → Q (.ref p) H') → r vs H Q
theorem OpCF.c {r : List V → Hp → VK → Prop} {g : List D → Option (List D)} (h : OpCF K r g) : OpC K r (fun ds => (g ds).map .lst) := by
  intro M G σ ρ H vs ds z r0 ra hz Q q
  obtain ⟨zs, h1, rfl⟩ := Option.map_eq_some_iff.mp hz
  refine h r0 ra h1 Q fun p xs H' g m A rb => ?_
  have u := After.unprotect A.rel g m
  exact q _ _ (A.trans u) (.lst (A.rel.unprotect g m).2.2 (rb.keep u.same))
theorem OpC.or {r r' : List V → Hp → VK → Prop} {g g' : List D → Option D} (h : OpC K r g) (h' : OpC K r' g') : OpC K (fun x H Q => r x H Q ∨ r' x H Q) (fun ds => (g ds).or (g' ds)) := by
  intro M G σ ρ H vs ds z r0 ra hz Q q
  replace hz : (g ds).or (g' ds) = some z := hz
  cases e1 : g ds with
  | some w =>
    rw [e1] at hz
    obtain rfl : w = z := Option.some.inj hz
    exact .inl (h r0 ra e1 Q q)
  | none =>
    rw [e1] at hz
    exact .inr (h' r0 ra hz Q q)
def cC1 (g : List D → Option D) (fs : Av) : Ev := fun ρ => (fs ρ).bind fun x => (R.ofOpt (g x.1)).map fun z => (z, x.2)
def cCF (g : List D → Option (List D)) (fs : Av) : Av := fun ρ => (fs ρ).bind fun x => (R.ofOpt (g x.1)).map fun z => (z, x.2)
theorem den_C {r : List V → Hp → VK → Prop} {g : List D → Option D} {t : TA} (hr : OpC K r g) (ha : DenA K W t fs) : Den K W (tCB r t) (cC1 g fs) := by
  refine ⟨fun {M G σ ρ H d ρ'} r0 e Q q => ?_, fun {M G σ ρ H c d} r0 e x Q => ?_⟩
  · obtain ⟨⟨ds, ρ1⟩, e1, e⟩ := R.bind_eq_ok e
    obtain ⟨z, e2, e⟩ := map_ok e
    cases e
    exact ha.ok r0 e1 _ fun vs H1 A1 r1 => hr A1.rel r1 (R.ofOpt_eq_ok e2) Q fun v H2 A2 r2 => q v H2 (A1.trans A2) r2
  · rcases R.bind_eq_exc e with e | ⟨⟨ds, ρ1⟩, e1, e⟩
    · exact ha.exc r0 e x _
    · exact (R.ofOpt_ne_exc (map_exc e)).elim
theorem den_CF {r : List V → Hp → VK → Prop} {g : List D → Option (List D)} {t : TA} (hr : OpCF K r g) (ha : DenA K W t fs) : DenF K W (tCB r t) (cCF g fs) := by
  refine ⟨fun {M G σ ρ H d ρ'} r0 e Q q => ?_, fun {M G σ ρ H c d} r0 e x Q => ?_⟩
  · obtain ⟨⟨ds, ρ1⟩, e1, e⟩ := R.bind_eq_ok e
    obtain ⟨z, e2, e⟩ := map_ok e
    cases e
    exact ha.ok r0 e1 _ fun vs H1 A1 r1 => hr A1.rel r1 (R.ofOpt_eq_ok e2) Q fun p xs H2 g m A2 r2 => q p xs H2 g m (A1.trans A2) r2
  · rcases R.bind_eq_exc e with e | ⟨⟨ds, ρ1⟩, e1, e⟩
    · exact ha.exc r0 e x _
    · exact (R.ofOpt_ne_exc (map_exc e)).elim
/-- one operand that is looked at, a plain answer -/
def OpC1 (K : KX) (r : List V → Hp → VK → Prop) (g : D → Option D) : Prop := ∀ {H : Hp} {v : V} {d z : D}, Rp K H v d → g d = some z → ∃ u, (∀ H', Rp K H' u z) ∧ ∀ Q : VK, Q u H → r [v] H Q
theorem den_C1 {r : List V → Hp → VK → Prop} {g : D → Option D} {ta : TE} (hr : OpC1 K r g) (ha : DenP K W ta fa) : Den K W (tCB r (tCons ta tNil)) (c1 g fa) := by
  refine ⟨fun {M G σ ρ H d ρ'} r0 e Q q => ?_, fun {M G σ ρ H c d} r0 e x Q => ?_⟩
  · obtain ⟨⟨z, ρ1⟩, e1, e⟩ := R.bind_eq_ok e
    obtain ⟨w, e2, e⟩ := map_ok e
    cases e
    refine ha.ok r0 e1 _ fun v H1 A1 r1 => ?_
    obtain ⟨u, h1, h2⟩ := hr (r1.all A1.rel) (R.ofOpt_eq_ok e2)
    exact h2 Q (q u H1 A1 (h1 _))
  · rcases R.bind_eq_exc e with e | ⟨⟨z, ρ1⟩, e1, e⟩
    · exact ha.exc r0 e x _
    · exact (R.ofOpt_ne_exc (map_exc e)).elim
theorem OpC1.c {r : List V → Hp → VK → Prop} {g : D → Option D} (h : OpC1 K r g) : OpC K r (fun ds => match ds with | [d] => g d | _ => none) := by
  intro M G σ ρ H vs ds z r0 ra hz Q q
  cases ra with
  | nil => cases hz
  | cons r1 r2 =>
    cases r2 with
    | nil =>
      obtain ⟨u, h1, h2⟩ := h (r1.keep (cut_same _ _)) hz
      exact h2 Q (q u H (.refl r0) (h1 _))
    | cons _ _ => cases hz
variable {x : Str} {p : Pos} {bid T : String} {r : List V → Hp → VK → Prop} {g : List D → Option D} {g1 : D → Option D} {gF : List D → Option (List D)}
theorem pd_B (hc : CallR X (.builtin bid) r) (ho : OpC K r g) (hm : X.mg x = none) (ha : AD X K W (e :: es) fs) (hg : Gl X x := by rfl) (hv : bootBuiltins x = some (.builtin bid) := by decide +kernel) (hn : x ≠ "__name__" := by decide) (hdb : (x == ("__debug__" : Str)) = false := by decide)
    (he : starEach (e :: es) X.env = (false, eval e X.env) :: starEach es X.env := by rfl) (hpl : (backTo pos (starEach es X.env)).any (·.1) = false := by rfl) : PD X K W (.Call (.Name x p) (e :: es) [] pos) (cC1 g fs) := by
  obtain ⟨t, h1, h2⟩ := ha
  exact ⟨_, pe_callB hc hg hm hv h1 hn hdb he hpl, den_C ho h2⟩
theorem fd_B (hc : CallR X (.builtin bid) r) (ho : OpCF K r gF) (hm : X.mg x = none) (ha : AD X K W (e :: es) fs) (hg : Gl X x := by rfl) (hv : bootBuiltins x = some (.builtin bid) := by decide +kernel) (hn : x ≠ "__name__" := by decide) (hdb : (x == ("__debug__" : Str)) = false := by decide)
    (he : starEach (e :: es) X.env = (false, eval e X.env) :: starEach es X.env := by rfl) (hpl : (backTo pos (starEach es X.env)).any (·.1) = false := by rfl) : PDF X K W (.Call (.Name x p) (e :: es) [] pos) (cCF gF fs) := by
  obtain ⟨t, h1, h2⟩ := ha
  exact ⟨_, pe_callB hc hg hm hv h1 hn hdb he hpl, den_CF ho h2⟩
theorem pd_T (hc : CallR X (.type T) r) (ho : OpC K r g) (hm : X.mg x = none) (ha : AD X K W (e :: es) fs) (hg : Gl X x := by rfl) (hv : bootBuiltins x = some (.type T) := by decide +kernel) (hn : x ≠ "__name__" := by decide) (hdb : (x == ("__debug__" : Str)) = false := by decide)
    (he : starEach (e :: es) X.env = (false, eval e X.env) :: starEach es X.env := by rfl) (hpl : (backTo pos (starEach es X.env)).any (·.1) = false := by rfl) : PD X K W (.Call (.Name x p) (e :: es) [] pos) (cC1 g fs) := by
  obtain ⟨t, h1, h2⟩ := ha
  exact ⟨_, pe_callTy hc hg hm hv h1 hn hdb he hpl, den_C ho h2⟩
theorem fd_T (hc : CallR X (.type T) r) (ho : OpCF K r gF) (hm : X.mg x = none) (ha : AD X K W (e :: es) fs) (hg : Gl X x := by rfl) (hv : bootBuiltins x = some (.type T) := by decide +kernel) (hn : x ≠ "__name__" := by decide) (hdb : (x == ("__debug__" : Str)) = false := by decide)
    (he : starEach (e :: es) X.env = (false, eval e X.env) :: starEach es X.env := by rfl) (hpl : (backTo pos (starEach es X.env)).any (·.1) = false := by rfl) : PDF X K W (.Call (.Name x p) (e :: es) [] pos) (cCF gF fs) := by
  obtain ⟨t, h1, h2⟩ := ha
  exact ⟨_, pe_callTy hc hg hm hv h1 hn hdb he hpl, den_CF ho h2⟩
theorem pd_B1 (hc : CallR X (.builtin bid) r) (ho : OpC1 K r g1) (hm : X.mg x = none) (ha : PDP X K W e fa) (hg : Gl X x := by rfl) (hv : bootBuiltins x = some (.builtin bid) := by decide +kernel) (hn : x ≠ "__name__" := by decide) (hdb : (x == ("__debug__" : Str)) = false := by decide)
    (he : starEach [e] X.env = (false, eval e X.env) :: starEach [] X.env := by rfl) (hpl : (backTo pos (starEach [] X.env)).any (·.1) = false := by rfl) : PD X K W (.Call (.Name x p) [e] [] pos) (c1 g1 fa) := by
  obtain ⟨t, h1, h2⟩ := ha
  exact ⟨_, pe_callB hc hg hm hv (pa_cons h1 pa_nil he) hn hdb he hpl, den_C1 ho h2⟩
/-! len -/
def gLen : D → Option D
  | .str x => if x.length ≤ sizeLine then some (.int x.length) else none
  | .lst xs => some (.int xs.length)
  | .tup xs => some (.int xs.length)
  | .scr ns => some (.int ns.length)
  | _ => none
theorem opc_len (hK : X.K = K.K) : OpC1 K (fun xs H Q => ∃ x n, xs = [x] ∧ LenV X.K x H n ∧ Q (.int n) H) gLen := by
  intro H v d z hx hz
  cases d with
  | str x =>
    simp only [gLen] at hz
    by_cases hl : x.length ≤ sizeLine
    · rw [if_pos hl] at hz
      cases hz
      rw [rp_str hx]
      exact ⟨_, fun _ => .int _, fun Q q => ⟨_, x.length, rfl, ⟨hl, rfl⟩, q⟩⟩
    · rw [if_neg hl] at hz; cases hz
  | lst xs =>
    cases hz
    cases hx with
    | lst h1 h2 => exact ⟨_, fun _ => .int _, fun Q q => ⟨_, xs.length, rfl, .inl ⟨_, .inl (.inl h1), h2.length.symm⟩, q⟩⟩
  | tup xs =>
    cases hz
    cases hx with
    | tup h1 h2 => exact ⟨_, fun _ => .int _, fun Q q => ⟨_, xs.length, rfl, .inr ⟨_, by rw [hK]; exact h1, h2.length.symm⟩, q⟩⟩
  | scr ns =>
    cases hz
    cases hx with
    | scr h1 => exact ⟨_, fun _ => .int _, fun Q q => ⟨_, ns.length, rfl, .inl ⟨_, by rw [hK]; exact h1, by simp⟩, q⟩⟩
  | _ => cases hz
theorem pd_len (hm : X.mg "len" = none) (ha : PDP X K W e fa) (hg : Gl X "len" := by rfl) (hK : X.K = K.K := by rfl) (he : starEach [e] X.env = (false, eval e X.env) :: starEach [] X.env := by rfl) : PD X K W (.Call (.Name "len" p) [e] [] pos) (c1 gLen fa) :=
  pd_B1 call_len (opc_len hK) hm ha hg (by decide +kernel) (by decide) (by decide) he rfl
/-! lists of numbers, of truth values -/
def intsOf : List D → Option (List Int)
  | [] => some []
  | .int i :: ds => (intsOf ds).map (i :: ·)
  | _ => none
theorem intsOf_some : ∀ {ds : List D} {ns : List Int}, intsOf ds = some ns → ds = ns.map .int
  | [], ns, h => by cases h; rfl
  | .int i :: ds, ns, h => by
    simp only [intsOf] at h
    obtain ⟨ms, h1, rfl⟩ := Option.map_eq_some_iff.mp h
    rw [intsOf_some h1]; rfl
  | .non :: ds, ns, h => by simp [intsOf] at h
  | .bl _ :: ds, ns, h => by simp [intsOf] at h
  | .str _ :: ds, ns, h => by simp [intsOf] at h
  | .lst _ :: ds, ns, h => by simp [intsOf] at h
  | .tup _ :: ds, ns, h => by simp [intsOf] at h
  | .dct _ :: ds, ns, h => by simp [intsOf] at h
  | .scr _ :: ds, ns, h => by simp [intsOf] at h
  | .exc _ _ :: ds, ns, h => by simp [intsOf] at h
  | .fn _ :: ds, ns, h => by simp [intsOf] at h
@[simp] theorem intsOf_map : ∀ ns : List Int, intsOf (ns.map .int) = some ns
  | [] => rfl
  | n :: ns => by simp [intsOf, intsOf_map ns]
def blsOf : List D → Option (List Bool)
  | [] => some []
  | .bl i :: ds => (blsOf ds).map (i :: ·)
  | _ => none
theorem blsOf_some : ∀ {ds : List D} {ns : List Bool}, blsOf ds = some ns → ds = ns.map .bl
  | [], ns, h => by cases h; rfl
  | .bl i :: ds, ns, h => by
    simp only [blsOf] at h
    obtain ⟨ms, h1, rfl⟩ := Option.map_eq_some_iff.mp h
    rw [blsOf_some h1]; rfl
  | .non :: ds, ns, h => by simp [blsOf] at h
  | .int _ :: ds, ns, h => by simp [blsOf] at h
  | .str _ :: ds, ns, h => by simp [blsOf] at h
  | .lst _ :: ds, ns, h => by simp [blsOf] at h
  | .tup _ :: ds, ns, h => by simp [blsOf] at h
  | .dct _ :: ds, ns, h => by simp [blsOf] at h
  | .scr _ :: ds, ns, h => by simp [blsOf] at h
  | .exc _ _ :: ds, ns, h => by simp [blsOf] at h
  | .fn _ :: ds, ns, h => by simp [blsOf] at h
@[simp] theorem blsOf_map : ∀ ns : List Bool, blsOf (ns.map .bl) = some ns
  | [] => rfl
  | n :: ns => by simp [blsOf, blsOf_map ns]
def gSum : D → Option D
  | .lst ds => (intsOf ds).map fun ns => .int ns.sum
  | _ => none
theorem rp_ints {H : Hp} {v : V} {ns : List Int} (h : Rp K H v (.lst (ns.map .int))) : ∃ p, v = .ref p ∧ H p = some (.lst (ns.map V.int)) := by
  cases h with
  | lst h1 h2 =>
    have e := h2.ints
    subst e
    exact ⟨_, rfl, h1⟩
theorem opc_sum : OpC1 K (rSum X.K) gSum := by
  intro H v d z hx hz
  cases d with
  | lst ds =>
    simp only [gSum] at hz
    obtain ⟨ns, h1, rfl⟩ := Option.map_eq_some_iff.mp hz
    have e := intsOf_some h1
    subst e
    obtain ⟨p, rfl, h2⟩ := rp_ints hx
    exact ⟨_, fun _ => .int _, fun Q q => ⟨p, ns, rfl, .inl (.inl h2), q⟩⟩
  | _ => cases hz
theorem pd_sum (hm : X.mg "sum" = none) (ha : PDP X K W e fa) (hg : Gl X "sum" := by rfl) (hc : X.calm = true := by rfl) (he : starEach [e] X.env = (false, eval e X.env) :: starEach [] X.env := by rfl) : PD X K W (.Call (.Name "sum" p) [e] [] pos) (c1 gSum fa) :=
  pd_B1 (cr_sum hc) opc_sum hm ha hg (by decide +kernel) (by decide) (by decide) he rfl
def gAll : D → Option D
  | .lst ds => (blsOf ds).map fun ns => .bl (ns.all id)
  | _ => none
def gAny : D → Option D
  | .lst ds => (blsOf ds).map fun ns => .bl (ns.any id)
  | _ => none
theorem opc_all : OpC1 K (rAll X.K) gAll := by
  intro H v d z hx hz
  cases d with
  | lst ds =>
    simp only [gAll] at hz
    obtain ⟨ns, h1, rfl⟩ := Option.map_eq_some_iff.mp hz
    have e := blsOf_some h1
    subst e
    cases hx with
    | lst h1 h2 =>
      have e := h2.bls
      subst e
      exact ⟨_, fun _ => .bl _, fun Q q => ⟨_, ns, rfl, .inl (.inl h1), q⟩⟩
  | _ => cases hz
theorem opc_any : OpC1 K (rAny X.K) gAny := by
  intro H v d z hx hz
  cases d with
  | lst ds =>
    simp only [gAny] at hz
    obtain ⟨ns, h1, rfl⟩ := Option.map_eq_some_iff.mp hz
    have e := blsOf_some h1
    subst e
    cases hx with
    | lst h1 h2 =>
      have e := h2.bls
      subst e
      exact ⟨_, fun _ => .bl _, fun Q q => ⟨_, ns, rfl, .inl (.inl h1), q⟩⟩
  | _ => cases hz
theorem pd_all (hm : X.mg "all" = none) (ha : PDP X K W e fa) (hg : Gl X "all" := by rfl) (hc : X.calm = true := by rfl) (he : starEach [e] X.env = (false, eval e X.env) :: starEach [] X.env := by rfl) : PD X K W (.Call (.Name "all" p) [e] [] pos) (c1 gAll fa) :=
  pd_B1 (cr_all hc) opc_all hm ha hg (by decide +kernel) (by decide) (by decide) he rfl
theorem pd_any (hm : X.mg "any" = none) (ha : PDP X K W e fa) (hg : Gl X "any" := by rfl) (hc : X.calm = true := by rfl) (he : starEach [e] X.env = (false, eval e X.env) :: starEach [] X.env := by rfl) : PD X K W (.Call (.Name "any" p) [e] [] pos) (c1 gAny fa) :=
  pd_B1 (cr_any hc) opc_any hm ha hg (by decide +kernel) (by decide) (by decide) he rfl
/-- the least and the greatest of numbers -/
def minL : List Int → Option Int
  | [] => none
  | n :: ns => some (ns.foldl min n)
def maxL : List Int → Option Int
  | [] => none
  | n :: ns => some (ns.foldl max n)
theorem foldl_min_le : ∀ (ns : List Int) (n : Int), ns.foldl min n ≤ n ∧ ∀ m ∈ ns, ns.foldl min n ≤ m
  | [], n => ⟨Int.le_refl _, fun _ h => by cases h⟩
  | k :: ns, n => by
    obtain ⟨h1, h2⟩ := foldl_min_le ns (min n k)
    refine ⟨by simp only [List.foldl_cons]; omega, fun m hm => ?_⟩
    simp only [List.foldl_cons]
    rcases List.mem_cons.mp hm with rfl | hm
    · omega
    · exact h2 m hm
theorem foldl_min_mem : ∀ (ns : List Int) (n : Int), ns.foldl min n ∈ n :: ns
  | [], n => by simp
  | k :: ns, n => by
    have h := foldl_min_mem ns (min n k)
    simp only [List.foldl_cons]
    rcases List.mem_cons.mp h with h | h
    · rw [h]
      by_cases hk : n ≤ k
      · rw [show min n k = n by omega]; simp
      · rw [show min n k = k by omega]; simp
    · exact List.mem_cons_of_mem _ (List.mem_cons_of_mem _ h)
theorem foldl_max_ge : ∀ (ns : List Int) (n : Int), n ≤ ns.foldl max n ∧ ∀ m ∈ ns, m ≤ ns.foldl max n
  | [], n => ⟨Int.le_refl _, fun _ h => by cases h⟩
  | k :: ns, n => by
    obtain ⟨h1, h2⟩ := foldl_max_ge ns (max n k)
    refine ⟨by simp only [List.foldl_cons]; omega, fun m hm => ?_⟩
    simp only [List.foldl_cons]
    rcases List.mem_cons.mp hm with rfl | hm
    · omega
    · exact h2 m hm
theorem foldl_max_mem : ∀ (ns : List Int) (n : Int), ns.foldl max n ∈ n :: ns
  | [], n => by simp
  | k :: ns, n => by
    have h := foldl_max_mem ns (max n k)
    simp only [List.foldl_cons]
    rcases List.mem_cons.mp h with h | h
    · rw [h]
      by_cases hk : n ≤ k
      · rw [show max n k = k by omega]; simp
      · rw [show max n k = n by omega]; simp
    · exact List.mem_cons_of_mem _ (List.mem_cons_of_mem _ h)
def gMin : List D → Option D
  | [.lst ds] => (intsOf ds).bind fun ns => (minL ns).map .int
  | [.int i, .int j] => some (.int (if j < i then j else i))
  | _ => none
def gMax : List D → Option D
  | [.lst ds] => (intsOf ds).bind fun ns => (maxL ns).map .int
  | [.int i, .int j] => some (.int (if j > i then j else i))
  | _ => none
theorem opc_min : OpC K (fun xs H Q => rMin X.K xs H Q ∨ ∃ i j, xs = [.int i, .int j] ∧ Q (.int (if j < i then j else i)) H) gMin := by
  intro M G σ ρ H vs ds z r0 ra hz Q q
  unfold gMin at hz
  split at hz
  · obtain ⟨ns, h1, h2⟩ := Option.bind_eq_some_iff.mp hz
    obtain ⟨m, h3, rfl⟩ := Option.map_eq_some_iff.mp h2
    have e := intsOf_some h1
    subst e
    cases ra with
    | cons rx rr =>
      cases rr
      obtain ⟨p, rfl, h4⟩ := rp_ints rx
      cases ns with
      | nil => cases h3
      | cons n ns =>
        cases h3
        refine .inl ⟨p, n :: ns, rfl, .inl (.inl (cut_same _ _ _ _ h4)), by simp, fun m hm hle => ?_⟩
        have u : m = ns.foldl min n := by
          have a1 := hle _ (foldl_min_mem ns n)
          have a2 := foldl_min_le ns n
          rcases List.mem_cons.mp hm with rfl | hm
          · have := a2.1; omega
          · have := a2.2 m hm; omega
        rw [u]
        exact q _ _ (.refl r0) (.int _)
  · cases hz
    cases ra with
    | cons rx rr =>
      cases rr with
      | cons ry rr =>
        cases rr
        rw [rp_int rx, rp_int ry]
        exact .inr ⟨_, _, rfl, q _ _ (.refl r0) (.int _)⟩
  · cases hz
theorem opc_max : OpC K (fun xs H Q => rMax X.K xs H Q ∨ ∃ i j, xs = [.int i, .int j] ∧ Q (.int (if j > i then j else i)) H) gMax := by
  intro M G σ ρ H vs ds z r0 ra hz Q q
  unfold gMax at hz
  split at hz
  · obtain ⟨ns, h1, h2⟩ := Option.bind_eq_some_iff.mp hz
    obtain ⟨m, h3, rfl⟩ := Option.map_eq_some_iff.mp h2
    have e := intsOf_some h1
    subst e
    cases ra with
    | cons rx rr =>
      cases rr
      obtain ⟨p, rfl, h4⟩ := rp_ints rx
      cases ns with
      | nil => cases h3
      | cons n ns =>
        cases h3
        refine .inl ⟨p, n :: ns, rfl, .inl (.inl (cut_same _ _ _ _ h4)), by simp, fun m hm hle => ?_⟩
        have u : m = ns.foldl max n := by
          have a1 := hle _ (foldl_max_mem ns n)
          have a2 := foldl_max_ge ns n
          rcases List.mem_cons.mp hm with rfl | hm
          · have := a2.1; omega
          · have := a2.2 m hm; omega
        rw [u]
        exact q _ _ (.refl r0) (.int _)
  · cases hz
    cases ra with
    | cons rx rr =>
      cases rr with
      | cons ry rr =>
        cases rr
        rw [rp_int rx, rp_int ry]
        exact .inr ⟨_, _, rfl, q _ _ (.refl r0) (.int _)⟩
  · cases hz
theorem pd_min (hm : X.mg "min" = none) (ha : AD X K W (e :: es) fs) (hg : Gl X "min" := by rfl) (hc : X.calm = true := by rfl) (he : starEach (e :: es) X.env = (false, eval e X.env) :: starEach es X.env := by rfl) (hpl : (backTo pos (starEach es X.env)).any (·.1) = false := by rfl) :
    PD X K W (.Call (.Name "min" p) (e :: es) [] pos) (cC1 gMin fs) := pd_B ((cr_min hc).or (call_min2 hc)) opc_min hm ha hg (by decide +kernel) (by decide) (by decide) he hpl
theorem pd_max (hm : X.mg "max" = none) (ha : AD X K W (e :: es) fs) (hg : Gl X "max" := by rfl) (hc : X.calm = true := by rfl) (he : starEach (e :: es) X.env = (false, eval e X.env) :: starEach es X.env := by rfl) (hpl : (backTo pos (starEach es X.env)).any (·.1) = false := by rfl) :
    PD X K W (.Call (.Name "max" p) (e :: es) [] pos) (cC1 gMax fs) := pd_B ((cr_max hc).or (call_max2 hc)) opc_max hm ha hg (by decide +kernel) (by decide) (by decide) he hpl
/-! int, str, abs, ord -/
def gAbs : List D → Option D
  | [.int i] => some (.int (if i < 0 then -i else i))
  | _ => none
theorem opc_abs : OpC K (fun xs H Q => ∃ i, xs = [.int i] ∧ Q (.int (if i < 0 then -i else i)) H) gAbs := by
  intro M G σ ρ H vs ds z r0 ra hz Q q
  unfold gAbs at hz
  split at hz
  · cases hz
    cases ra with
    | cons rx rr =>
      cases rr
      rw [rp_int rx]
      exact ⟨_, rfl, q _ _ (.refl r0) (.int _)⟩
  · cases hz
theorem pd_abs (hm : X.mg "abs" = none) (ha : AD X K W [e] fs) (hg : Gl X "abs" := by rfl) (he : starEach [e] X.env = (false, eval e X.env) :: starEach [] X.env := by rfl) : PD X K W (.Call (.Name "abs" p) [e] [] pos) (cC1 gAbs fs) :=
  pd_B call_abs opc_abs hm ha hg (by decide +kernel) (by decide) (by decide) he rfl
def gInt : List D → Option D
  | [.int i] => some (.int i)
  | [.bl k] => some (.int (if k then 1 else 0))
  | [.str a] => if a.length ≤ 640 then (PySem.intText? a).map .int else none
  | _ => none
theorem opc_int : OpC K (fun xs H Q => ((∃ i, xs = [.int i] ∧ Q (.int i) H) ∨ ∃ k, xs = [.bl k] ∧ Q (.int (if k then 1 else 0)) H) ∨ ∃ a n, xs = [.str a] ∧ PySem.intText? a = some n ∧ a.length ≤ 640 ∧ Q (.int n) H) gInt := by
  intro M G σ ρ H vs ds z r0 ra hz Q q
  unfold gInt at hz
  split at hz
  · cases hz
    cases ra with
    | cons rx rr =>
      cases rr
      rw [rp_int rx]
      exact .inl (.inl ⟨_, rfl, q _ _ (.refl r0) (.int _)⟩)
  · cases hz
    cases ra with
    | cons rx rr =>
      cases rr
      rw [rp_bl rx]
      exact .inl (.inr ⟨_, rfl, q _ _ (.refl r0) (.int _)⟩)
  · rename_i a
    by_cases hl : a.length ≤ 640
    · rw [if_pos hl] at hz
      obtain ⟨n, h1, rfl⟩ := Option.map_eq_some_iff.mp hz
      cases ra with
      | cons rx rr =>
        cases rr
        rw [rp_str rx]
        exact .inr ⟨a, n, rfl, h1, hl, q _ _ (.refl r0) (.int _)⟩
    · rw [if_neg hl] at hz; cases hz
  · cases hz
theorem pd_toInt (hm : X.mg "int" = none) (ha : AD X K W [e] fs) (hg : Gl X "int" := by rfl) (he : starEach [e] X.env = (false, eval e X.env) :: starEach [] X.env := by rfl) : PD X K W (.Call (.Name "int" p) [e] [] pos) (cC1 gInt fs) :=
  pd_T (call_int1.or call_int_str) opc_int hm ha hg (by decide +kernel) (by decide) (by decide) he rfl
def gStr : List D → Option D
  | [.int i] => if i.natAbs.log2 < 1920 then some (.str (toString i)) else none
  | [.str a] => some (.str a)
  | _ => none
theorem opc_str : OpC K (fun xs H Q => (∃ i, xs = [.int i] ∧ i.natAbs.log2 < 1920 ∧ Q (.str (toString i)) H) ∨ ∃ a, xs = [.str a] ∧ Q (.str a) H) gStr := by
  intro M G σ ρ H vs ds z r0 ra hz Q q
  unfold gStr at hz
  split at hz
  · rename_i i
    by_cases hl : i.natAbs.log2 < 1920
    · rw [if_pos hl] at hz
      cases hz
      cases ra with
      | cons rx rr =>
        cases rr
        rw [rp_int rx]
        exact .inl ⟨_, rfl, hl, q _ _ (.refl r0) (.str _)⟩
    · rw [if_neg hl] at hz; cases hz
  · cases hz
    cases ra with
    | cons rx rr =>
      cases rr
      rw [rp_str rx]
      exact .inr ⟨_, rfl, q _ _ (.refl r0) (.str _)⟩
  · cases hz
theorem pd_toStr (hm : X.mg "str" = none) (ha : AD X K W [e] fs) (hg : Gl X "str" := by rfl) (he : starEach [e] X.env = (false, eval e X.env) :: starEach [] X.env := by rfl) : PD X K W (.Call (.Name "str" p) [e] [] pos) (cC1 gStr fs) :=
  pd_T (call_str_int.or SkE.call_str_str) opc_str hm ha hg (by decide +kernel) (by decide) (by decide) he rfl
/-! list(x), of a list or tuple that is looked at -/
def cListOf (f : Ev) : Av := fun ρ => (f ρ).bind fun x => match itemsD x.1 with
  | some ds => .ok (ds, x.2)
  | none => .bad
theorem fd_list (hm : X.mg "list" = none) (ha : PDP X K W e fa) (hg : Gl X "list" := by rfl) (hK : X.K = K.K := by rfl) (he : starEach [e] X.env = (false, eval e X.env) :: starEach [] X.env := by rfl) : PDF X K W (.Call (.Name "list" p) [e] [] pos) (cListOf fa) := by
  obtain ⟨t, h1, h2⟩ := ha
  refine ⟨_, pe_callTy call_list_of hg hm (by decide +kernel) (pa_cons h1 pa_nil he) (by decide) (by decide) he rfl, fun {M G σ ρ H d ρ'} r0 e Q q => ?_, fun {M G σ ρ H c d} r0 e x Q => ?_⟩
  · obtain ⟨⟨x, ρ1⟩, e1, e⟩ := R.bind_eq_ok e
    cases hi : itemsD x with
    | none => simp only [hi] at e; cases e
    | some ds =>
      simp only [hi] at e
      cases e
      refine h2.ok r0 e1 _ fun v H1 A1 r1 => ?_
      cases x <;> simp only [itemsD] at hi <;> cases hi
      · obtain ⟨p, vs, rfl, a1, a2⟩ := r1.lst A1.rel
        refine ⟨p, vs, rfl, .inl (.inl (.inl a1)), fun l n => ?_⟩
        have B := After.protect (o := .lst vs) A1.rel n
        obtain ⟨g, m, _⟩ := A1.rel.fresh n
        exact q l _ _ g m (A1.trans B) (a2.keep B.same)
      · have r1 := r1.notL A1.rel (fun _ z => by cases z)
        cases r1 with
        | @tup p vs _ a1 a2 =>
          refine ⟨p, vs, rfl, .inr (by rw [hK]; exact SqT.keep (cut_same _ _) a1), fun l n => ?_⟩
          have B := After.protect (o := .lst vs) A1.rel n
          obtain ⟨g, m, _⟩ := A1.rel.fresh n
          exact q l _ _ g m (A1.trans B) (a2.keep B.same)
  · rcases R.bind_eq_exc e with e | ⟨⟨z, ρ1⟩, e1, e⟩
    · exact h2.exc r0 e x _
    · simp only at e
      split at e <;> cases e
/-! sorted -/
def leD (d e : D) : Bool := PySem.W.dataLe false toPy d e
def isNeTup : D → Bool
  | .tup (_ :: _) => true
  | _ => false
def notTup : D → Bool
  | .tup _ => false
  | .non => false
  | _ => true
def sortOk (ds : List D) : Bool := decide (ds.length ≤ sizeLine) && ds.all cmpD && (ds.all isNeTup || ds.all notTup) && ds.all fun d => ds.all fun e => PySem.W.alike (toPy d) (toPy e)
def gSort : List D → Option (List D)
  | [.lst ds] => if sortOk ds = true then some (ds.mergeSort leD) else none
  | _ => none
def rSortD (K : KX) : List V → Hp → VK → Prop := fun vs H Q => ∃ (a : Addr) (xs : List V) (ds : List D) (Hc : Hp), vs = [.ref a] ∧ H a = some (.lst xs) ∧ RpAll K Hc xs ds ∧ Same Hc H ∧ sortOk ds = true ∧
  ∀ p ys, H p = none → ys.length ≤ sizeLine → RpAll K Hc ys (ds.mergeSort leD) → Q (.ref p) (upd H p (.lst ys))
theorem each_of {K : KX} {Hc : Hp} : ∀ {xs : List V} {us : List Value} {ds : List D}, RpAll K Hc xs ds → Vals xs us → PySem.W.EachIs (fun u d => ∃ v, RelV v u ∧ Rp K Hc v d) us ds
  | _, _, _, .nil, .nil => .nil
  | _, _, _, .cons r t, .cons q u => .cons ⟨_, q, r⟩ (each_of t u)
theorem of_each {K : KX} {Hc : Hp} : ∀ {us : List Value} {ds : List D}, PySem.W.EachIs (fun u d => ∃ v, RelV v u ∧ Rp K Hc v d) us ds → ∃ xs, Vals xs us ∧ RpAll K Hc xs ds
  | _, _, .nil => ⟨[], .nil, .nil⟩
  | _, _, .cons ⟨v, q, r⟩ t => by
    obtain ⟨xs, h1, h2⟩ := of_each t
    exact ⟨v :: xs, .cons q h1, .cons r h2⟩
theorem EachIs.imp2 {R R' : Value → D → Prop} : ∀ {us : List Value} {ds : List D}, PySem.W.EachIs R us ds → (∀ u d, d ∈ ds → R u d → R' u d) → PySem.W.EachIs R' us ds
  | _, _, .nil, _ => .nil
  | _, _, .cons r t, f => .cons (f _ _ List.mem_cons_self r) (EachIs.imp2 t fun u d hd => f u d (List.mem_cons_of_mem _ hd))
theorem call_sortD (hK : X.K = K.K) (hu : X.A.units + 64 < cLine) : CallR X (.builtin "sorted") (rSortD K) := by
  intro pins s σ H vs us Q I r h
  obtain ⟨a, xs, ds, Hc, rfl, ha, rp, sm, ok, q⟩ := h
  obtain ⟨its, rv, hl, _⟩ := I.list (.inl (.inl ha))
  rw [Vals.ref1 r]
  simp only [sortOk, Bool.and_eq_true, Bool.or_eq_true, decide_eq_true_eq] at ok
  obtain ⟨⟨⟨h1, h2⟩, h3⟩, h4⟩ := ok
  have e := each_of rp rv
  have er : PySem.W.EachIs (fun v b => ∃ as, Reads s.heap v (toPy b) as) its ds := EachIs.imp2 e fun u d hd ⟨v, rv, rd⟩ =>
    reads_of I hK (rd.keep sm) rv (plN_plain _ _ (List.all_eq_true.mp h2 d hd)).1
  refine PySem.W.sorted_data (enc := toPy) hl.isList e er (fun x hx y hy => ?_) ?_ h1 (fun b hb => ?_) (fun out ho eo => ?_)
  · obtain ⟨d, hd, rfl⟩ := List.mem_map.mp hx
    obtain ⟨d', hd', rfl⟩ := List.mem_map.mp hy
    exact List.all_eq_true.mp (List.all_eq_true.mp h4 d hd) d' hd'
  · rcases h3 with h3 | h3
    · refine .inl fun x hx => ?_
      obtain ⟨d, hd, rfl⟩ := List.mem_map.mp hx
      have := List.all_eq_true.mp h3 d hd
      cases d <;> simp [isNeTup] at this
      rename_i zs
      cases zs with
      | nil => simp [isNeTup] at this
      | cons z zs => exact ⟨toPy z, toPyAll zs, by rw [toPy, toPyAll]⟩
    · refine .inr fun x hx => ?_
      obtain ⟨d, hd, rfl⟩ := List.mem_map.mp hx
      have t1 := List.all_eq_true.mp h3 d hd
      have t2 := List.all_eq_true.mp h2 d hd
      cases d <;> first | (simp [notTup] at t1; done) | (simp [cmpD, plN] at t2; done) | (simp [toPy])
  · have := (plN_plain _ _ (List.all_eq_true.mp h2 b hb)).2.2
    omega
  · obtain ⟨ys, g1, g2⟩ := of_each eo
    obtain ⟨ep, he'⟩ := PyProof.Rows.sortedAll_at s.heap its out.toArray
    have hlen : ys.length ≤ sizeLine := by rw [g1.length, ho]; exact h1
    exact ⟨.ref _, upd H (s.heap.objs.size + 1) (.lst ys), I.laid (t' := s.toks) (fun _ _ => PyProof.Rows.sortedAll_old) (Nat.le_succ _) ⟨hlen, out, ep, g1, he'⟩, rfl, q _ ys (I.hok.fresh (Nat.le_succ _)) hlen g2⟩
theorem opc_sort : OpCF K (rSortD K) gSort := by
  intro M G σ ρ H vs ds zs r0 ra hz Q q
  unfold gSort at hz
  split at hz
  · rename_i es
    by_cases ok : sortOk es = true
    · rw [if_pos ok] at hz
      cases hz
      cases ra with
      | cons rx rr =>
        cases rr
        cases rx with
        | lst h1 h2 =>
          refine ⟨_, _, _, _, rfl, cut_same _ _ _ _ h1, h2, cut_same _ _, ok, fun p ys n _ h3 => ?_⟩
          have B := After.protect (o := .lst ys) r0 n
          obtain ⟨g, m, _⟩ := r0.fresh n
          exact q p _ _ g m B (h3.keep B.same)
    · rw [if_neg ok] at hz; cases hz
  · cases hz
theorem fd_sorted (hm : X.mg "sorted" = none) (hu : X.A.units + 64 < cLine) (ha : AD X K W [e] fs) (hg : Gl X "sorted" := by rfl) (hK : X.K = K.K := by rfl) (he : starEach [e] X.env = (false, eval e X.env) :: starEach [] X.env := by rfl) : PDF X K W (.Call (.Name "sorted" p) [e] [] pos) (cCF gSort fs) :=
  fd_B (call_sortD hK hu) opc_sort hm ha hg (by decide +kernel) (by decide) (by decide) he rfl
/-! isinstance -/
/-- the built-in type of data -/
def tyD : D → Option String
  | .non => some "NoneType"
  | .bl _ => some "bool"
  | .int _ => some "int"
  | .str _ => some "str"
  | .lst _ => some "list"
  | .tup _ => some "tuple"
  | .dct _ => some "dict"
  | _ => none
theorem tyx_of {H : Hp} {v : V} {d : D} {T : String} (hK : X.K = K.K) (r : Rp K H v d) (h : tyD d = some T) : TyX X.K H v (.type T) := by
  cases r <;> simp only [tyD] at h <;> cases h
  · exact .base .non
  · exact .base (.bl _)
  · exact .base (.int _)
  · exact .base (.str _)
  · rename_i h1 _; exact .base (.lst h1)
  · rename_i h1 _
    rcases h1 with (h1 | ⟨o, h1⟩) | h1
    · exact .base (.tup h1)
    · exact .fTuple h1
    · obtain ⟨o, its, n, e, c, _⟩ := h1
      exact .kTuple (by rw [hK]; exact e) c
  · rename_i h1 _; exact .base (.dK h1)
/-- isinstance(x, T) of a built-in type -/
def isaD (T : String) (d : D) : Option D := (tyD d).bind fun t => (kitB t T).map .bl
theorem pe_ty {xT : Str} {pT : Pos} (hm : X.mg xT = none) (hg : Gl X xT) (hv : bootBuiltins xT = some (.type T)) (hn : xT ≠ "__name__" := by decide) (hd : (xT == ("__debug__" : Str)) = false := by decide) : PE X (.Name xT pT) (tC (.ty T)) := pe_bltn hg hm hv rfl hn hd
theorem pd_isa (T : String) {xT : Str} {pT : Pos} (hm : X.mg "isinstance" = none) (hmT : X.mg xT = none) (ha : PDP X K W e fa) (hg : Gl X "isinstance" := by rfl) (hgT : Gl X xT := by rfl) (hvT : bootBuiltins xT = some (.type T) := by decide +kernel) (hK : X.K = K.K := by rfl)
    (hn : xT ≠ "__name__" := by decide) (hd : (xT == ("__debug__" : Str)) = false := by decide) (he : starEach [e, .Name xT pT] X.env = (false, eval e X.env) :: starEach [.Name xT pT] X.env := by rfl) (he2 : starEach [.Name xT pT] X.env = (false, eval (.Name xT pT) X.env) :: starEach [] X.env := by rfl)
    (hpl : (backTo pos (starEach [.Name xT pT] X.env)).any (·.1) = false := by rfl) : PD X K W (.Call (.Name "isinstance" p) [e, .Name xT pT] [] pos) (c1 (isaD T) fa) := by
  obtain ⟨t, h1, h2⟩ := ha
  refine ⟨_, pe_callB call_isi hg hm (by decide +kernel) (pa_cons h1 (pa_cons (pe_ty hmT hgT hvT hn hd) pa_nil he2) he) (by decide) (by decide) he hpl, fun {M G σ ρ H d ρ'} r0 e Q q => ?_, fun {M G σ ρ H c d} r0 e x Q => ?_⟩
  · obtain ⟨⟨z, ρ1⟩, e1, e⟩ := R.bind_eq_ok e
    obtain ⟨w, e2, e⟩ := map_ok e
    cases e
    refine h2.ok r0 e1 _ fun v H1 A1 r1 => ?_
    obtain ⟨ty, t1, t2⟩ := Option.bind_eq_some_iff.mp (R.ofOpt_eq_ok e2)
    obtain ⟨b, t3, rfl⟩ := Option.map_eq_some_iff.mp t2
    exact ⟨v, .ty T, .type ty, .type T, b, rfl, .ty T, tyx_of hK (r1.all A1.rel) t1, kit_ty t3, q _ H1 A1 (.bl _)⟩
  · rcases R.bind_eq_exc e with e | ⟨⟨z, ρ1⟩, e1, e⟩
    · exact h2.exc r0 e x _
    · exact (R.ofOpt_ne_exc (map_exc e)).elim
/-- isinstance(x, (T1, T2)) -/
def isaD2 (T U : String) (d : D) : Option D := (tyD d).bind fun t => (kitB t T).bind fun b => (kitB t U).map fun c => .bl (b || c)
theorem pd_isa2 (T U : String) {xT xU : Str} {pT pU pt : Pos} {k : Nat} (hm : X.mg "isinstance" = none) (hmT : X.mg xT = none) (hmU : X.mg xU = none) (ha : PDP X K W e fa) (hg : Gl X "isinstance" := by rfl) (hgT : Gl X xT := by rfl) (hgU : Gl X xU := by rfl)
    (hvT : bootBuiltins xT = some (.type T) := by decide +kernel) (hvU : bootBuiltins xU = some (.type U) := by decide +kernel) (hK : X.K = K.K := by rfl)
    (hn : xT ≠ "__name__" := by decide) (hd : (xT == ("__debug__" : Str)) = false := by decide) (hn2 : xU ≠ "__name__" := by decide) (hd2 : (xU == ("__debug__" : Str)) = false := by decide)
    (he : starEach [e, .Tuple [.Name xT pT, .Name xU pU] k pt] X.env = (false, eval e X.env) :: starEach [.Tuple [.Name xT pT, .Name xU pU] k pt] X.env := by rfl) : PD X K W (.Call (.Name "isinstance" p) [e, .Tuple [.Name xT pT, .Name xU pU] k pt] [] pos) (c1 (isaD2 T U) fa) := by
  obtain ⟨t, h1, h2⟩ := ha
  refine ⟨_, pe_callB call_isiT hg hm (by decide +kernel) (pa_cons h1 (pa_cons (pe_tup (pa_cons (pe_ty hmT hgT hvT hn hd) (pa_cons (pe_ty hmU hgU hvU hn2 hd2) pa_nil))) pa_nil) he) (by decide) (by decide) he rfl, fun {M G σ ρ H d ρ'} r0 e Q q => ?_, fun {M G σ ρ H c d} r0 e x Q => ?_⟩
  · obtain ⟨⟨z, ρ1⟩, e1, e⟩ := R.bind_eq_ok e
    obtain ⟨w, e2, e⟩ := map_ok e
    cases e
    refine h2.ok r0 e1 _ fun v H1 A1 r1 => ?_
    obtain ⟨ty, t1, t2⟩ := Option.bind_eq_some_iff.mp (R.ofOpt_eq_ok e2)
    obtain ⟨b, t3, t4⟩ := Option.bind_eq_some_iff.mp t2
    obtain ⟨c, t5, rfl⟩ := Option.map_eq_some_iff.mp t4
    refine ⟨by show 2 ≤ sizeLine; decide, fun tp n => ⟨v, tp, [.ty T, .ty U], .type ty, [.type T, .type U], b || c, rfl, upd_same, .cons (.ty T) (.cons (.ty U) .nil), tyx_of hK ((r1.all A1.rel).keep (same_upd n)) t1, ?_, ?_⟩⟩
    · exact kitAny_cons (kit_ty t3) (fun hb => kitAny_cons (kit_ty t5) (fun hc => by rw [hb, hc]; exact kitAny_nil) fun hc => by rw [hc]; simp) fun hb => by rw [hb]; rfl
    · exact q _ _ (A1.trans (.new A1.rel n)) (.bl _)
  · rcases R.bind_eq_exc e with e | ⟨⟨z, ρ1⟩, e1, e⟩
    · exact h2.exc r0 e x _
    · exact (R.ofOpt_ne_exc (map_exc e)).elim
end
end PyD

set_option Elab.async false
set_option linter.all false
set_option maxRecDepth 100000
namespace PyD
open PySem PySem.Spec L2
open PyProof.Rows hiding St
section
variable {X : Cx} {K : KX} {W : WX} {pos : Pos} {a b e : Expr} {fa fb : Ev} {es : List Expr} {fs : Av} {st : Stmt} {sts : List Stmt} {f g : Sv}
theorem SPost.pre {M : Addr → Prop} {G : Hp} {σ σ1 : St} {ρ ρ1 ρ' : Rho} {H H1 : Hp} {Dn : Ends} {fl : Fl} (A : After K M σ ρ H M G σ1 ρ1 H1) (h : SPost K M G σ ρ H ρ' Dn fl) : SPost K M G σ1 ρ1 H1 ρ' Dn fl := by
  cases fl with
  | nx => exact fun σ' H' B => h σ' H' (A.trans B)
  | bk => exact fun σ' H' B => h σ' H' (A.trans B)
  | ct => exact fun σ' H' B => h σ' H' (A.trans B)
  | rt d => exact fun v σ' H' B => h v σ' H' (A.trans B)
  | rtF ds => exact fun p xs σ' H' g m B => h p xs σ' H' g m (A.trans B)
/-! ### blocks -/
def cSkip : Sv := fun ρ => .ok (.nx, ρ)
def cSeq (f g : Sv) : Sv := fun ρ => (f ρ).bind fun x => match x.1 with
  | .nx => g x.2
  | _ => .ok x
theorem ss_nil : SsD X K W [] cSkip := ⟨_, pss_nil, fun r e Dn h => by cases e; exact h _ _ (.refl r), fun r e => by cases e⟩
theorem ss_one (h : SD X K W st f) : SsD X K W [st] f := by obtain ⟨t, h1, h2⟩ := h; exact ⟨t, pss_one h1, h2⟩
theorem ss_cons (h : SD X K W st f) (h' : SsD X K W sts g) : SsD X K W (st :: sts) (cSeq f g) := by
  obtain ⟨t, h1, h2⟩ := h
  obtain ⟨u, h3, h4⟩ := h'
  refine ⟨_, pss_cons h1 h3, fun {M G σ ρ H fl ρ'} r0 e Dn q => ?_, fun {M G σ ρ H c d} r0 e x Dn => ?_⟩
  · obtain ⟨⟨fl1, ρ1⟩, e1, e⟩ := R.bind_eq_ok e
    cases fl1 with
    | nx => exact h2.ok r0 e1 _ fun σ' H' A => h4.ok A.rel e _ (q.pre A)
    | bk => cases e; exact h2.ok r0 e1 _ fun σ' H' A => q σ' H' A
    | ct => cases e; exact h2.ok r0 e1 _ fun σ' H' A => q σ' H' A
    | rt d => cases e; exact h2.ok r0 e1 _ fun v σ' H' A => q v σ' H' A
    | rtF ds => cases e; exact h2.ok r0 e1 _ fun p xs σ' H' g m A => q p xs σ' H' g m A
  · rcases R.bind_eq_exc e with e | ⟨⟨fl1, ρ1⟩, e1, e⟩
    · exact h2.exc r0 e x _
    · cases fl1 with
      | nx => exact h2.ok r0 e1 _ fun σ' H' A => h4.exc A.rel e x _
      | bk => cases e
      | ct => cases e
      | rt d => cases e
      | rtF ds => cases e
/-! ### simple statements -/
def cExpr (f : Ev) : Sv := fun ρ => (f ρ).map fun x => (.nx, x.2)
theorem sd_expr (h : PD X K W e fa) (hs : swapsWith e none pos.line X.env = pure false := by rfl) : SD X K W (.Expr e pos) (cExpr fa) := by
  obtain ⟨t, h1, h2⟩ := h
  refine ⟨_, ps_expr h1 hs, fun {M G σ ρ H fl ρ'} r0 e Dn q => ?_, fun {M G σ ρ H c d} r0 e x Dn => ?_⟩
  · obtain ⟨⟨d, ρ1⟩, e1, e⟩ := map_ok e
    cases e
    exact h2.ok r0 e1 _ fun v H' A _ => q _ _ A
  · exact h2.exc r0 (map_exc e) (x _) _
def cRet (f : Ev) : Sv := fun ρ => (f ρ).map fun x => (.rt x.1, x.2)
theorem sd_ret (h : PD X K W e fa) : SD X K W (.Return (some e) pos) (cRet fa) := by
  obtain ⟨t, h1, h2⟩ := h
  refine ⟨_, ps_ret h1, fun {M G σ ρ H fl ρ'} r0 e Dn q => ?_, fun {M G σ ρ H c d} r0 e x Dn => ?_⟩
  · obtain ⟨⟨d, ρ1⟩, e1, e⟩ := map_ok e
    cases e
    exact h2.ok r0 e1 _ fun v H' A r => q v _ _ A r
  · exact h2.exc r0 (map_exc e) (x _) _
def cRetF (f : Av) : Sv := fun ρ => (f ρ).map fun x => (.rtF x.1, x.2)
theorem sd_retF (h : PDF X K W e fs) : SD X K W (.Return (some e) pos) (cRetF fs) := by
  obtain ⟨t, h1, h2⟩ := h
  refine ⟨_, ps_ret h1, fun {M G σ ρ H fl ρ'} r0 e Dn q => ?_, fun {M G σ ρ H c d} r0 e x Dn => ?_⟩
  · obtain ⟨⟨d, ρ1⟩, e1, e⟩ := map_ok e
    cases e
    exact h2.ok r0 e1 _ fun p xs H' g m A r => q p xs _ _ g m A r
  · exact h2.exc r0 (map_exc e) (x _) _
def cRetN : Sv := fun ρ => .ok (.rt .non, ρ)
theorem sd_retN : SD X K W (.Return none pos) cRetN := ⟨_, ps_retN, fun r e Dn q => by cases e; exact q _ _ _ (.refl r) .non, fun r e => by cases e⟩
theorem sd_pass : SD X K W (.Pass pos) cSkip := ⟨_, ps_pass, fun r e Dn q => by cases e; exact q _ _ (.refl r), fun r e => by cases e⟩
def cBrk : Sv := fun ρ => .ok (.bk, ρ)
def cCnt : Sv := fun ρ => .ok (.ct, ρ)
theorem sd_brk : SD X K W (.Break pos) cBrk := ⟨_, ps_break, fun r e Dn q => by cases e; exact q _ _ (.refl r), fun r e => by cases e⟩
theorem sd_cnt : SD X K W (.Continue pos) cCnt := ⟨_, ps_continue, fun r e Dn q => by cases e; exact q _ _ (.refl r), fun r e => by cases e⟩
def cIfS (t : Tv) (f g : Sv) : Sv := fun ρ => (t ρ).bind fun x => if x.1 = true then f x.2 else g x.2
theorem sd_if {c : Expr} {t : Tv} {as bs : List Stmt} (hc : TD X K W c t) (ha : SsD X K W as f) (hb : SsD X K W bs g) : SD X K W (.If c as bs pos) (cIfS t f g) := by
  obtain ⟨t, h1, h2⟩ := hc
  obtain ⟨u, h3, h4⟩ := ha
  obtain ⟨w, h5, h6⟩ := hb
  refine ⟨_, ps_if h1 h3 h5, fun {M G σ ρ H fl ρ'} r0 e Dn q => ?_, fun {M G σ ρ H c d} r0 e x Dn => ?_⟩
  · obtain ⟨⟨z, ρ1⟩, e1, e⟩ := R.bind_eq_ok e
    refine h2.ok r0 e1 _ fun H1 A => ?_
    cases z with
    | true =>
      rw [if_pos rfl] at e ⊢
      exact h4.ok A.rel e Dn (q.pre A)
    | false =>
      rw [if_neg Bool.false_ne_true] at e ⊢
      exact h6.ok A.rel e Dn (q.pre A)
  · rcases R.bind_eq_exc e with e | ⟨⟨z, ρ1⟩, e1, e⟩
    · exact h2.exc r0 e (x _) _
    · refine h2.ok r0 e1 _ fun H1 A => ?_
      cases z with
      | true =>
        rw [if_pos rfl] at e ⊢
        exact h4.exc A.rel e x _
      | false =>
        rw [if_neg Bool.false_ne_true] at e ⊢
        exact h6.exc A.rel e x _
/-! ### targets -/
abbrev Gv := D → Rho → R Rho
/-- outside of the slots sl nothing changes -/
def Only1 (sl : List Nat) (σ σ' : St) : Prop := σ'.length = σ.length ∧ ∀ j, j ∉ sl → σ'[j]? = σ[j]?
structure DenG (K : KX) (sl : List Nat) (tg : TG) (f : Gv) : Prop where
  ok : ∀ {M G σ ρ H v d ρ'}, Rel K M G σ ρ H → Rp K (hv M σ ρ H) v d → f d ρ = .ok ρ' → ∀ Q : St → Hp → Prop, (∀ σ' H', After K M σ ρ H M G σ' ρ' H' → Only1 sl σ σ' → Q σ' H') → tg v σ H Q
  exc : ∀ {d ρ c z}, f d ρ = .exc c z → False
def GD (X : Cx) (K : KX) (sl : List Nat) (tg : Expr) (f : Gv) : Prop := ∃ t, PG X tg t ∧ DenG K sl t f
theorem Only1.refl {sl : List Nat} {σ : St} : Only1 sl σ σ := ⟨rfl, fun _ _ => rfl⟩
theorem Only1.trans {s1 s2 : List Nat} {σ σ1 σ2 : St} (a : Only1 s1 σ σ1) (b : Only1 s2 σ1 σ2) : Only1 (s1 ++ s2) σ σ2 :=
  ⟨b.1.trans a.1, fun j h => by
    simp only [List.mem_append, not_or] at h
    exact (b.2 j h.2).trans (a.2 j h.1)⟩
def putSh (ρ : Rho) (i : Nat) (d : D) : R Rho := match ρ[i]? with
  | some (.rf _) => .bad
  | some _ => .ok (ρ.set i (.sh d))
  | none => .bad
def gN (i : Nat) : Gv := fun d ρ => putSh ρ i d
theorem putSh_ok {ρ ρ' : Rho} {i : Nat} {d : D} (h : putSh ρ i d = .ok ρ') : ∃ c, ρ[i]? = some c ∧ isRf c = false ∧ ρ' = ρ.set i (.sh d) := by
  unfold putSh at h
  split at h
  · cases h
  · rename_i c hn hc
    cases h
    refine ⟨c, hc, ?_, rfl⟩
    cases c <;> first | rfl | exact absurd rfl (hn _)
  · cases h
theorem putSh_exc {ρ : Rho} {i : Nat} {d z : D} {c : Nat} (h : putSh ρ i d = .exc c z) : False := by
  unfold putSh at h
  split at h <;> cases h
theorem keep_slot {ρ : Rho} {σ : St} {i : Nat} {c c' : Cell} {x : Option V} (h : ρ[i]? = some c) (hc : isRf c = false) (j : Nat) (e : D) (q : ρ[j]? = some (.rf e)) : ((σ.set i x)[j]? = σ[j]?) ∧ ∃ d', (ρ.set i c')[j]? = some (.rf d') := by
  have hj : j ≠ i := fun z => by
    subst z; rw [h] at q; cases q; cases hc
  exact ⟨set_ne hj, e, by rw [set_ne hj]; exact q⟩
theorem after_sh {M : Addr → Prop} {G : Hp} {σ : St} {ρ ρ' : Rho} {H : Hp} {v : V} {d : D} {i : Nat} (r0 : Rel K M G σ ρ H) (r : Rp K (hv M σ ρ H) v d) (e : putSh ρ i d = .ok ρ') : After K M σ ρ H M G (σ.set i (some v)) ρ' H := by
  obtain ⟨c, h1, h2, rfl⟩ := putSh_ok e
  obtain ⟨r1, s1⟩ := r0.set_sh h1 r
  exact ⟨r1, s1, fun j e q => keep_slot h1 h2 j e q, by simp⟩
theorem gd_name (i : Nat) {x : Str} (hN : X.N.Nodup) (hi : X.N[i]? = some x := by rfl) (hx : Loc X.env.scope x := by first | exact .inl rfl | exact .inr rfl) (hf : X.fn x = true ∨ X.env.scope.names.lookup x = some .local := by first | exact .inl rfl | exact .inr rfl) : GD X K [i] (.Name x pos) (gN i) :=
  ⟨_, pg_name hN hi hx hf, fun r0 r e Q q => q _ _ (after_sh r0 r e) ⟨by simp, fun j h => set_ne (by simpa using h)⟩, fun e => putSh_exc e⟩
structure DenGs (K : KX) (sl : List Nat) (tg : TGs) (f : List D → Rho → R Rho) : Prop where
  ok : ∀ {M G σ ρ H vs ds ρ'}, Rel K M G σ ρ H → RpAll K (hv M σ ρ H) vs ds → f ds ρ = .ok ρ' → ∀ Q : St → Hp → Prop, (∀ σ' H', After K M σ ρ H M G σ' ρ' H' → Only1 sl σ σ' → Q σ' H') → tg vs σ H Q
  exc : ∀ {d ρ c z}, f d ρ = .exc c z → False
def GsD (X : Cx) (K : KX) (sl : List Nat) (tg : List Expr) (f : List D → Rho → R Rho) : Prop := ∃ t, PGs X tg t ∧ DenGs K sl t f
def gNilD : List D → Rho → R Rho := fun ds ρ => match ds with
  | [] => .ok ρ
  | _ => .bad
def gConsD (f : Gv) (g : List D → Rho → R Rho) : List D → Rho → R Rho := fun ds ρ => match ds with
  | d :: ds => (f d ρ).bind fun ρ1 => g ds ρ1
  | [] => .bad
def gT (n : Nat) (f : List D → Rho → R Rho) : Gv := fun d ρ => match d with
  | .tup ds => if ds.length = n then f ds ρ else .bad
  | _ => .bad
theorem gs_nil : GsD X K [] [] gNilD := by
  refine ⟨_, pgs_nil, fun {M G σ ρ H vs ds ρ'} r0 r e Q q => ?_, fun {d ρ c z} e => ?_⟩
  · cases ds with
    | nil => cases e; cases r; exact ⟨rfl, q _ _ (.refl r0) .refl⟩
    | cons d ds => cases e
  · cases d <;> cases e
variable {tg : Expr} {tgs : List Expr} {fg : Gv} {fgs : List D → Rho → R Rho}
theorem gs_cons {s1 s2 : List Nat} (h1 : GD X K s1 tg fg) (h2 : GsD X K s2 tgs fgs) (hs : (assignEach (tg :: tgs) X.env).map (·.2) = assign tg X.env :: (assignEach tgs X.env).map (·.2) := by rfl) : GsD X K (s1 ++ s2) (tg :: tgs) (gConsD fg fgs) := by
  obtain ⟨t, a1, a2⟩ := h1
  obtain ⟨u, b1, b2⟩ := h2
  refine ⟨_, pgs_cons a1 b1 hs, fun {M G σ ρ H vs ds ρ'} r0 r e Q q => ?_, fun {d ρ c z} e => ?_⟩
  · cases r with
    | nil => cases e
    | cons rx rr =>
      obtain ⟨ρ1, e1, e⟩ := R.bind_eq_ok e
      exact ⟨_, _, rfl, a2.ok r0 rx e1 _ fun σ' H' A o1 => b2.ok A.rel (rr.keep A.same) e Q fun σ2 H2 B o2 => q σ2 H2 (A.trans B) (o1.trans o2)⟩
  · cases d with
    | nil => cases e
    | cons d ds =>
      rcases R.bind_eq_exc e with e | ⟨ρ1, _, e⟩
      · exact a2.exc e
      · exact b2.exc e
theorem gd_tup {k n : Nat} {sl : List Nat} (h : GsD X K sl tgs fgs) (hc : X.calm = true := by rfl) (hK : X.K = K.K := by rfl) (hn : (assignEach tgs X.env).length = n := by rfl) (hst : (assignEach tgs X.env).findIdx? (·.1) = none := by rfl) : GD X K sl (.Tuple tgs k pos) (gT n fgs) := by
  obtain ⟨t, a1, a2⟩ := h
  refine ⟨_, pg_tup (n := n) hc a1 hn hst, fun {M G σ ρ H v d ρ'} r0 r e Q q => ?_, fun {d ρ c z} e => ?_⟩
  · cases d <;> simp only [gT] at e <;> try cases e
    split at e
    · rename_i ds hl
      cases r with
      | tup h1 h2 => exact ⟨_, _, rfl, by rw [hK]; exact SqT.keep (cut_same _ _) h1, by rw [h2.length]; exact hl, a2.ok r0 h2 e Q q⟩
    · cases e
  · cases d <;> simp only [gT] at e <;> try cases e
    split at e
    · exact a2.exc e
    · cases e
/-! ### assignments -/
def cAsg (f : Ev) (g : Gv) : Sv := fun ρ => (f ρ).bind fun x => (g x.1 x.2).map fun ρ1 => (.nx, ρ1)
theorem sd_asg {sl : List Nat} (he : PD X K W e fa) (hg : GD X K sl tg fg) (hs : swapsWithSole [tg] e pos.line X.env = pure false := by rfl) (hw : swappedStores [tg] e X.env = pure none := by rfl) (h1' : (assignEach [tg] X.env).map (·.2) = [assign tg X.env] := by rfl) : SD X K W (.Assign [tg] e pos) (cAsg fa fg) := by
  obtain ⟨t, h1, h2⟩ := he
  obtain ⟨u, h3, h4⟩ := hg
  refine ⟨_, ps_asg h1 h3 hs hw h1', fun {M G σ ρ H fl ρ'} r0 e Dn q => ?_, fun {M G σ ρ H c d} r0 e x Dn => ?_⟩
  · obtain ⟨⟨d, ρ1⟩, e1, e⟩ := R.bind_eq_ok e
    obtain ⟨ρ2, e2, e⟩ := map_ok e
    cases e
    exact h2.ok r0 e1 _ fun v H1 A r1 => h4.ok A.rel r1 e2 _ fun σ' H' B _ => q _ _ (A.trans B)
  · rcases R.bind_eq_exc e with e | ⟨⟨d, ρ1⟩, e1, e⟩
    · exact h2.exc r0 e (x _) _
    · exact (h4.exc (map_exc e)).elim
/-- x = e, the slot's list its own from now on -/
def putOw (ρ : Rho) (i : Nat) (ds : List D) : R Rho := match ρ[i]? with
  | some (.rf _) => .bad
  | some _ => .ok (ρ.set i (.ow (.lst ds)))
  | none => .bad
theorem putOw_ok {ρ ρ' : Rho} {i : Nat} {d : List D} (h : putOw ρ i d = .ok ρ') : ∃ c, ρ[i]? = some c ∧ isRf c = false ∧ ρ' = ρ.set i (.ow (.lst d)) := by
  unfold putOw at h
  split at h
  · cases h
  · rename_i c hn hc
    cases h
    refine ⟨c, hc, ?_, rfl⟩
    cases c <;> first | rfl | exact absurd rfl (hn _)
  · cases h
theorem putOw_exc {ρ : Rho} {i : Nat} {ds : List D} {z : D} {c : Nat} (h : putOw ρ i ds = .exc c z) : False := by
  unfold putOw at h
  split at h <;> cases h
theorem after_ow {M : Addr → Prop} {G : Hp} {σ : St} {ρ ρ' : Rho} {H : Hp} {p : Addr} {xs : List V} {ds : List D} {i : Nat} (r0 : Rel K (Mp M p) (upd G p (.lst xs)) σ ρ H) (g : G p = none) (m : ¬ M p) (r : RpAll K (hv (Mp M p) σ ρ H) xs ds) (e : putOw ρ i ds = .ok ρ') :
    After K (Mp M p) σ ρ H M G (σ.set i (some (.ref p))) ρ' H := by
  obtain ⟨c, h1, h2, rfl⟩ := putOw_ok e
  obtain ⟨r1, s1⟩ := r0.set_ow h1 g m r
  exact ⟨r1, s1, fun j e q => keep_slot h1 h2 j e q, by simp⟩
def cSetO (i : Nat) (f : Av) : Sv := fun ρ => (f ρ).bind fun x => (putOw x.2 i x.1).map fun ρ1 => (.nx, ρ1)
theorem den_setO {te : TE} {i : Nat} (h2 : DenF K W te fs) : DenS K W (tAsg te (gName i)) (cSetO i fs) := by
  refine ⟨fun {M G σ ρ H fl ρ'} r0 e Dn q => ?_, fun {M G σ ρ H c d} r0 e x Dn => ?_⟩
  · obtain ⟨⟨d, ρ1⟩, e1, e⟩ := R.bind_eq_ok e
    obtain ⟨ρ2, e2, e⟩ := map_ok e
    cases e
    exact h2.ok r0 e1 _ fun p xs H1 g m A r1 => q _ _ (A.trans (after_ow A.rel g m r1 e2))
  · rcases R.bind_eq_exc e with e | ⟨⟨d, ρ1⟩, e1, e⟩
    · exact h2.exc r0 e (x _) _
    · exact (putOw_exc (map_exc e)).elim
theorem sd_setO (i : Nat) {x : Str} {pos' : Pos} (hN : X.N.Nodup) (h : PDF X K W e fs) (hi : X.N[i]? = some x := by rfl) (hx : Loc X.env.scope x := by first | exact .inl rfl | exact .inr rfl) (hs : swapsWith e (some (.Name x pos')) pos.line X.env = pure false := by rfl)
    (hf : X.fn x = true ∨ X.env.scope.names.lookup x = some .local := by first | exact .inl rfl | exact .inr rfl) : SD X K W (.Assign [.Name x pos'] e pos) (cSetO i fs) := by
  obtain ⟨t, h1, h2⟩ := h
  exact ⟨_, ps_set hN hi hx h1 hs hf, den_setO h2⟩
/-- x = e -/
theorem sd_set (i : Nat) {x : Str} {pos' : Pos} (hN : X.N.Nodup) (h : PD X K W e fa) (hi : X.N[i]? = some x := by rfl) (hx : Loc X.env.scope x := by first | exact .inl rfl | exact .inr rfl) (hs : swapsWith e (some (.Name x pos')) pos.line X.env = pure false := by rfl)
    (hf : X.fn x = true ∨ X.env.scope.names.lookup x = some .local := by first | exact .inl rfl | exact .inr rfl) : SD X K W (.Assign [.Name x pos'] e pos) (cAsg fa (gN i)) := by
  obtain ⟨t, h1, h2⟩ := h
  refine ⟨_, ps_set hN hi hx h1 hs hf, fun {M G σ ρ H fl ρ'} r0 e Dn q => ?_, fun {M G σ ρ H c d} r0 e x Dn => ?_⟩
  · obtain ⟨⟨d, ρ1⟩, e1, e⟩ := R.bind_eq_ok e
    obtain ⟨ρ2, e2, e⟩ := map_ok e
    cases e
    exact h2.ok r0 e1 _ fun v H1 A r1 => q _ _ (A.trans (after_sh A.rel r1 e2))
  · rcases R.bind_eq_exc e with e | ⟨⟨d, ρ1⟩, e1, e⟩
    · exact h2.exc r0 e (x _) _
    · exact (putSh_exc (map_exc e)).elim
/-- a, b = e1, e2 -/
def cPar (i j : Nat) (f g : Ev) : Sv := fun ρ => (f ρ).bind fun x => (g x.2).bind fun y => (putSh y.2 i x.1).bind fun ρ1 => (putSh ρ1 j y.1).map fun ρ2 => (.nx, ρ2)
theorem sd_par (i j : Nat) {x y : Str} {px py pt : Pos} {kt k2 : Nat} {pt2 : Pos} (hN : X.N.Nodup) (ha : PD X K W a fa) (hb : PD X K W b fb) (hw : swappedStores [.Tuple [.Name x px, .Name y py] kt pt] (.Tuple [a, b] k2 pt2) X.env = pure (some [x, y]) := by rfl)
    (hij : i ≠ j := by decide) (hc : X.calm = true := by rfl) (hi : X.N[i]? = some x := by rfl) (hj : X.N[j]? = some y := by rfl)
    (h1 : X.env.scope.names.lookup x = some .local := by rfl) (h2 : X.env.scope.names.lookup y = some .local := by rfl)
    (hs1 : starEach [a, b] X.env = (false, eval a X.env) :: starEach [b] X.env := by rfl) (hs2 : starEach [b] X.env = (false, eval b X.env) :: starEach [] X.env := by rfl)
    (hs : swapsWithSole [.Tuple [.Name x px, .Name y py] kt pt] (.Tuple [a, b] k2 pt2) pos.line X.env = pure false := by rfl) : SD X K W (.Assign [.Tuple [.Name x px, .Name y py] kt pt] (.Tuple [a, b] k2 pt2) pos) (cPar i j fa fb) := by
  obtain ⟨t, a1, a2⟩ := ha
  obtain ⟨u, b1, b2⟩ := hb
  refine ⟨_, ps_par hc hN hi hj hij h1 h2 (pa_cons a1 (pa_cons b1 pa_nil hs2) hs1) hw hs, fun {M G σ ρ H fl ρ'} r0 e Dn q => ?_, fun {M G σ ρ H c d} r0 e x Dn => ?_⟩
  · obtain ⟨⟨d, ρ1⟩, e1, e⟩ := R.bind_eq_ok e
    obtain ⟨⟨d2, ρ2⟩, e2, e⟩ := R.bind_eq_ok e
    obtain ⟨ρ3, e3, e⟩ := R.bind_eq_ok e
    obtain ⟨ρ4, e4, e⟩ := map_ok e
    cases e
    refine a2.ok r0 e1 _ fun v H1 A1 r1 => b2.ok A1.rel e2 _ fun w H2 A2 r2 => ⟨v, w, rfl, ?_⟩
    have B1 := after_sh A2.rel (r1.keep A2.same) e3
    have B2 := after_sh B1.rel (r2.keep B1.same) e4
    exact q _ _ (((A1.trans A2).trans B1).trans B2)
  · rcases R.bind_eq_exc e with e | ⟨⟨d, ρ1⟩, e1, e⟩
    · exact a2.exc r0 e (x _) _
    · refine a2.ok r0 e1 _ fun v H1 A1 r1 => ?_
      rcases R.bind_eq_exc e with e | ⟨⟨d2, ρ2⟩, e2, e⟩
      · exact b2.exc A1.rel e (x _) _
      · rcases R.bind_eq_exc e with e | ⟨ρ3, e3, e⟩
        · exact (putSh_exc e).elim
        · exact (putSh_exc (map_exc e)).elim
/-! ### an own list is changed -/
/-- the list that slot i alone holds -/
def ownL (ρ : Rho) (i : Nat) : Option (List D) := match ρ[i]? with
  | some (.ow (.lst ds)) => some ds
  | some (.rf (.lst ds)) => some ds
  | _ => none
def putL (ρ : Rho) (i : Nat) (ds : List D) : Rho := match ρ[i]? with
  | some c => ρ.set i (sameKind c (.lst ds))
  | none => ρ
theorem ownL_some {ρ : Rho} {i : Nat} {ds : List D} (h : ownL ρ i = some ds) : ∃ c, ρ[i]? = some c ∧ (c = .ow (.lst ds) ∨ c = .rf (.lst ds)) := by
  unfold ownL at h
  split at h
  · cases h; rename_i hc; exact ⟨_, hc, .inl rfl⟩
  · cases h; rename_i hc; exact ⟨_, hc, .inr rfl⟩
  · cases h
theorem own_at {M : Addr → Prop} {G : Hp} {σ : St} {ρ : Rho} {H : Hp} {i : Nat} {ds : List D} (r0 : Rel K M G σ ρ H) (h : ownL ρ i = some ds) : ∃ p xs, σ[i]? = some (some (.ref p)) ∧ H p = some (.lst xs) ∧ RpAll K (hv M σ ρ H) xs ds := by
  obtain ⟨c, h1, h2⟩ := ownL_some h
  obtain ⟨p, h3, h4⟩ := r0.ow i (.lst ds) (h2.imp (fun z => by rw [h1, z]) fun z => by rw [h1, z])
  cases h4 with
  | lst a b => exact ⟨p, _, h3, a, b⟩
theorem after_write {M : Addr → Prop} {G : Hp} {σ : St} {ρ : Rho} {H : Hp} {i : Nat} {ds es : List D} {p : Addr} {ys : List V} (r0 : Rel K M G σ ρ H) (h : ownL ρ i = some ds) (hp : σ[i]? = some (some (.ref p))) (ra : RpAll K (hv M σ ρ H) ys es) :
    After K M σ ρ H M G σ (putL ρ i es) (upd H p (.lst ys)) := by
  obtain ⟨c, h1, h2⟩ := ownL_some h
  obtain ⟨r1, s1⟩ := r0.write h1 h2 hp ra
  have e : putL ρ i es = ρ.set i (sameKind c (.lst es)) := by unfold putL; rw [h1]
  rw [e]
  refine ⟨r1, s1, fun j d q => ⟨rfl, ?_⟩, by simp⟩
  by_cases hj : j = i
  · subst hj
    rw [h1] at q
    cases q
    exact ⟨.lst es, by rw [set_eq h1]; rfl⟩
  · exact ⟨d, by rw [set_ne hj]; exact q⟩
theorem own_list {M : Addr → Prop} {G : Hp} {σ : St} {ρ : Rho} {H : Hp} {i : Nat} {ds : List D} (r0 : Rel K M G σ ρ H) (h : ownL ρ i = some ds) : ∃ p, σ[i]? = some (some (.ref p)) ∧ tyV X.K "list" (.ref p) H := by
  obtain ⟨p, xs, h1, h2, _⟩ := own_at r0 h
  exact ⟨p, h1, .inl ⟨rfl, xs, .inl (.inl h2)⟩⟩
def cApp (i : Nat) (f : Ev) : Ev := fun ρ => match ownL ρ i with
  | none => .bad
  | some _ => (f ρ).bind fun x => match ownL x.2 i with
    | some ds => if ds.length < sizeLine then .ok (.non, putL x.2 i (ds ++ [x.1])) else .bad
    | none => .bad
section
variable {x : Str} {px apos : Pos}
theorem pd_append (i : Nat) (ha : PD X K W e fa) (hN : X.N[i]? = some x := by rfl) (hv' : Vis X.env.scope x := by first | exact Or.inl rfl | exact Or.inr (Or.inl rfl) | exact Or.inr (Or.inr rfl)) (hd : (x == ("__debug__" : Str)) = false := by decide)
    (hcd : (x == ("__classdict__" : Str)) = false := by decide) (hbase : attributeBase (.Name x px) "append" X.env (eval (.Name x px) X.env) = eval (.Name x px) X.env := by rfl)
    (hfew : ((backTo pos (starEach [e] X.env)).all (fun x => !x.1) && (backToKw pos (keywordEach [] X.env)).all (fun x => x.1.isSome) && decide (([e] : List Expr).length + ([] : List Keyword).length + (if ([] : List Keyword).isEmpty then 0 else 1) < 30)) = true := by rfl)
    (hline : (apos.endLine == pos.line) = true := by rfl) (hs : starEach [e] X.env = (false, eval e X.env) :: starEach [] X.env := by rfl) : PD X K W (.Call (.Attribute (.Name x px) "append" apos) [e] [] pos) (cApp i fa) := by
  obtain ⟨t, h1, h2⟩ := ha
  refine ⟨_, pe_bm PySem.F.plainAttrs_list PySem.F.slot_list_append PySem.F.type_list_append mt_append (pv i hN hv' hd hcd) (pa_cons h1 pa_nil hs) hbase hfew hline hs rfl, fun {M G σ ρ H d ρ'} r0 e Q q => ?_, fun {M G σ ρ H c d} r0 e x Q => ?_⟩
  · unfold cApp at e
    cases ho : ownL ρ i with
    | none => rw [ho] at e; cases e
    | some ds0 =>
      rw [ho] at e
      obtain ⟨⟨z, ρ1⟩, e1, e⟩ := R.bind_eq_ok e
      obtain ⟨p, hp, hty⟩ := own_list (X := X) r0 ho
      refine ⟨.ref p, hp, hty, h2.ok r0 e1 _ fun v H1 A r1 => ?_⟩
      cases ho1 : ownL ρ1 i with
      | none => simp only [ho1] at e; cases e
      | some ds =>
        simp only [ho1] at e
        by_cases hl : ds.length < sizeLine
        · rw [if_pos hl] at e
          cases e
          obtain ⟨p', ys, hp', hy, ra⟩ := own_at A.rel ho1
          rw [hp] at hp'
          cases hp'
          have B := after_write A.rel ho1 hp (ra.append (.cons r1 .nil))
          exact ⟨p, ys, v, rfl, rfl, hy, by rw [ra.length]; exact hl, q _ _ (A.trans B) .non⟩
        · rw [if_neg hl] at e; cases e
  · unfold cApp at e
    cases ho : ownL ρ i with
    | none => rw [ho] at e; cases e
    | some ds0 =>
      rw [ho] at e
      obtain ⟨p, hp, hty⟩ := own_list (X := X) r0 ho
      rcases R.bind_eq_exc e with e | ⟨⟨z, ρ1⟩, e1, e⟩
      · exact ⟨.ref p, hp, hty, h2.exc r0 e x _⟩
      · simp only at e
        split at e
        · split at e <;> cases e
        · cases e
/-- x.pop() -/
def cPop (i : Nat) : Ev := fun ρ => match ownL ρ i with
  | none => .bad
  | some ds => match ds[ds.length - 1]? with
    | some d => .ok (d, putL ρ i ds.dropLast)
    | none => .bad
theorem pd_pop (i : Nat) (hN : X.N[i]? = some x := by rfl) (hv' : Vis X.env.scope x := by first | exact Or.inl rfl | exact Or.inr (Or.inl rfl) | exact Or.inr (Or.inr rfl)) (hd : (x == ("__debug__" : Str)) = false := by decide)
    (hcd : (x == ("__classdict__" : Str)) = false := by decide) (hbase : attributeBase (.Name x px) "pop" X.env (eval (.Name x px) X.env) = eval (.Name x px) X.env := by rfl) (hline : (apos.endLine == pos.line) = true := by rfl) :
    PD X K W (.Call (.Attribute (.Name x px) "pop" apos) [] [] pos) (cPop i) := by
  refine ⟨_, pe_bm0 PySem.F.plainAttrs_list PySem.F.slot_list_pop PySem.F.type_list_pop mt_pop (pv i hN hv' hd hcd) hbase hline, fun {M G σ ρ H d ρ'} r0 e Q q => ?_, fun {M G σ ρ H c d} r0 e x Q => ?_⟩
  · unfold cPop at e
    cases ho : ownL ρ i with
    | none => rw [ho] at e; cases e
    | some ds =>
      rw [ho] at e
      obtain ⟨p, xs, hp, hx, ra⟩ := own_at r0 ho
      cases hz : ds[ds.length - 1]? with
      | none => simp only [hz] at e; cases e
      | some z =>
        simp only [hz] at e
        cases e
        obtain ⟨w, hw, rw'⟩ := ra.get hz
        have B := after_write r0 ho hp ra.dropLast
        refine ⟨.ref p, hp, .inl ⟨rfl, xs, .inl (.inl hx)⟩, p, xs, w, rfl, rfl, hx, by rw [ra.length]; exact hw, q _ _ B (rw'.keep B.same)⟩
  · unfold cPop at e
    split at e
    · cases e
    · split at e <;> cases e
def cPopAt (i : Nat) (f : Ev) : Ev := fun ρ => match ownL ρ i with
  | none => .bad
  | some _ => (f ρ).bind fun y => match y.1, ownL y.2 i with
    | .int k, some ds => if -(2 ^ 63) ≤ k ∧ k < 2 ^ 63 then match ixN ds.length k with
        | some j => match ds[j]? with
          | some d => .ok (d, putL y.2 i (ds.eraseIdx j))
          | none => .bad
        | none => .bad
      else .bad
    | _, _ => .bad
theorem pd_popAt (i : Nat) (ha : PD X K W e fa) (hN : X.N[i]? = some x := by rfl) (hv' : Vis X.env.scope x := by first | exact Or.inl rfl | exact Or.inr (Or.inl rfl) | exact Or.inr (Or.inr rfl)) (hd : (x == ("__debug__" : Str)) = false := by decide)
    (hcd : (x == ("__classdict__" : Str)) = false := by decide) (hbase : attributeBase (.Name x px) "pop" X.env (eval (.Name x px) X.env) = eval (.Name x px) X.env := by rfl)
    (hfew : ((backTo pos (starEach [e] X.env)).all (fun x => !x.1) && (backToKw pos (keywordEach [] X.env)).all (fun x => x.1.isSome) && decide (([e] : List Expr).length + ([] : List Keyword).length + (if ([] : List Keyword).isEmpty then 0 else 1) < 30)) = true := by rfl)
    (hline : (apos.endLine == pos.line) = true := by rfl) (hs : starEach [e] X.env = (false, eval e X.env) :: starEach [] X.env := by rfl) : PD X K W (.Call (.Attribute (.Name x px) "pop" apos) [e] [] pos) (cPopAt i fa) := by
  obtain ⟨t, h1, h2⟩ := ha
  refine ⟨_, pe_bm PySem.F.plainAttrs_list PySem.F.slot_list_pop PySem.F.type_list_pop mt_popAt (pv i hN hv' hd hcd) (pa_cons h1 pa_nil hs) hbase hfew hline hs rfl, fun {M G σ ρ H d ρ'} r0 e Q q => ?_, fun {M G σ ρ H c d} r0 e x Q => ?_⟩
  · unfold cPopAt at e
    cases ho : ownL ρ i with
    | none => rw [ho] at e; cases e
    | some ds0 =>
      rw [ho] at e
      obtain ⟨⟨z, ρ1⟩, e1, e⟩ := R.bind_eq_ok e
      obtain ⟨p, hp, hty⟩ := own_list (X := X) r0 ho
      refine ⟨.ref p, hp, hty, h2.ok r0 e1 _ fun v H1 A r1 => ?_⟩
      cases ho1 : ownL ρ1 i with
      | none => simp only [ho1] at e; cases z <;> cases e
      | some ds =>
        simp only [ho1] at e
        cases z <;> try (cases e; done)
        rename_i k
        simp only at e
        by_cases hl : -(2 ^ 63) ≤ k ∧ k < 2 ^ 63
        · rw [if_pos hl] at e
          cases hk : ixN ds.length k with
          | none => simp only [hk] at e; cases e
          | some j =>
            simp only [hk] at e
            cases hj : ds[j]? with
            | none => simp only [hj] at e; cases e
            | some y =>
              simp only [hj] at e
              cases e
              obtain ⟨p', ys, hp', hy, ra⟩ := own_at A.rel ho1
              rw [hp] at hp'
              cases hp'
              obtain ⟨w, hw, rw'⟩ := ra.get hj
              have B := after_write A.rel ho1 hp (ra.eraseIdx j)
              exact ⟨p, ys, k, j, w, rfl, by rw [rp_int r1], hy, hl.1, hl.2, by rw [ra.length]; exact (ixN_seq hk).1, hw, q _ _ (A.trans B) (rw'.keep B.same)⟩
        · rw [if_neg hl] at e; cases e
  · unfold cPopAt at e
    cases ho : ownL ρ i with
    | none => rw [ho] at e; cases e
    | some ds0 =>
      rw [ho] at e
      obtain ⟨p, hp, hty⟩ := own_list (X := X) r0 ho
      rcases R.bind_eq_exc e with e | ⟨⟨z, ρ1⟩, e1, e⟩
      · exact ⟨.ref p, hp, hty, h2.exc r0 e x _⟩
      · exfalso
        simp only at e
        cases z <;> cases ho1 : ownL ρ1 i <;> simp only [ho1] at e <;> try (cases e; done)
        split at e
        · split at e
          · split at e <;> cases e
          · cases e
        · cases e
end
/-- x[k] = v -/
def gS (i : Nat) (fk : Ev) : Gv := fun d ρ => match ownL ρ i with
  | none => .bad
  | some _ => match fk ρ with
    | .ok (.int k, ρ1) => match ownL ρ1 i with
      | some ds => match ixN ds.length k with
        | some j => .ok (putL ρ1 i (ds.set j d))
        | none => .bad
      | none => .bad
    | _ => .bad
theorem gd_sub (i : Nat) {x : Str} {px : Pos} {k : Expr} {fk : Ev} {W : WX} (hk : PD X K W k fk) (hN : X.N[i]? = some x := by rfl) (hv' : Vis X.env.scope x := by first | exact Or.inl rfl | exact Or.inr (Or.inl rfl) | exact Or.inr (Or.inr rfl)) (hd : (x == ("__debug__" : Str)) = false := by decide)
    (hcd : (x == ("__classdict__" : Str)) = false := by decide)
    (ha : ∀ v, assign (.Subscript (.Name x px) k pos) X.env v = (do
      let ov ← holding [v] (eval (.Name x px) X.env)
      let iv ← holding [v, ov] (eval k X.env)
      standAt pos
      holding [v, ov, iv] (setItem ov iv v)
      release [v, ov, iv] []) := by intro _; rfl) : GD X K [] (.Subscript (.Name x px) k pos) (gS i fk) := by
  obtain ⟨t, h1, h2⟩ := hk
  refine ⟨_, pg_sub (pv i hN hv' hd hcd) h1 set_list ha, fun {M G σ ρ H v d ρ'} r0 r e Q q => ?_, fun {d ρ c z} e => ?_⟩
  · unfold gS at e
    cases ho : ownL ρ i with
    | none => rw [ho] at e; cases e
    | some ds0 =>
      rw [ho] at e
      simp only at e
      cases ek : fk ρ with
      | bad => rw [ek] at e; cases e
      | exc c z => rw [ek] at e; cases e
      | ok y =>
        obtain ⟨y, ρ1⟩ := y
        rw [ek] at e
        cases y <;> try (cases e; done)
        rename_i k
        simp only at e
        cases ho1 : ownL ρ1 i with
        | none => simp only [ho1] at e; cases e
        | some ds =>
          simp only [ho1] at e
          cases hk : ixN ds.length k with
          | none => simp only [hk] at e; cases e
          | some j =>
            simp only [hk] at e
            cases e
            obtain ⟨p, xs, hp, hx, _⟩ := own_at r0 ho
            refine ⟨.ref p, hp, h2.ok r0 ek _ fun w H1 A r1 => ?_⟩
            obtain ⟨p', ys, hp', hy, ra⟩ := own_at A.rel ho1
            rw [hp] at hp'
            cases hp'
            have B := after_write A.rel ho1 hp (ra.set j (r.keep A.same))
            exact ⟨p, ys, k, j, rfl, rp_int r1, hy, by rw [ra.length]; exact hk, q _ _ (A.trans B) .refl⟩
  · unfold gS at e
    split at e
    · cases e
    · split at e
      · split at e
        · split at e <;> cases e
        · cases e
      · cases e
end
end PyD

set_option Elab.async false
set_option linter.all false
set_option maxRecDepth 100000
namespace PyD
open PySem PySem.Spec L2
open PyProof.Rows hiding St
section
variable {X : Cx} {K : KX} {W : WX} {pos : Pos} {a b e tg : Expr} {fa fb : Ev} {es : List Expr} {fs : Av} {st : Stmt} {sts : List Stmt} {f g : Sv}
/-! ### what is walked -/
/-- the iterator yields the data, however the frame goes on -/
def ItOk (K : KX) (M : Addr → Prop) (G : Hp) (σ : St) (ρ : Rho) (H : Hp) (J : It) (ds : List D) : Prop := ∀ (M' : Addr → Prop) (G' : Hp) (σ' : St) (ρ' : Rho) (H' : Hp), Rel K M' G' σ' ρ' H' → Same (hv M σ ρ H) (hv M' σ' ρ' H') → Same G G' →
  ∀ i, (∀ d, ds[i]? = some d → J.go i H' ∧ ∀ x H'', J.yld i H' x H'' → Same H' H'' ∧ Rp K (hv M' σ' ρ' H'') x d) ∧ (ds.length ≤ i → J.stop i H')
structure DenI (K : KX) (W : WX) (wi : TI) (f : Av) : Prop where
  ok : ∀ {M G σ ρ H ds ρ'}, Rel K M G σ ρ H → f ρ = .ok (ds, ρ') → ∀ R : It → Hp → Prop, (∀ J H', After K M σ ρ H M G σ ρ' H' → ItOk K M G σ ρ' H' J ds → R J H') → wi σ H R
  exc : ∀ {M G σ ρ H c d}, Rel K M G σ ρ H → f ρ = .exc c d → ExcPost K W M G σ c d → ∀ R, wi σ H R
def ID (X : Cx) (K : KX) (W : WX) (tg e : Expr) (f : Av) : Prop := ∃ w, PI X tg e w ∧ DenI K W w f
/-- a list, a tuple, a text's signs -/
def signsD (x : Str) : List D := x.cps.toList.map fun c => .str ⟨#[c]⟩
def walkD : D → Option (List D)
  | .lst ds => some ds
  | .tup ds => some ds
  | .str x => some (signsD x)
  | _ => none
def cW (f : Ev) : Av := fun ρ => (f ρ).bind fun x => match walkD x.1 with
  | some ds => .ok (ds, x.2)
  | none => .bad
theorem pi_or {w1 w2 : TI} (h1 : PI X tg e w1) (h2 : PI X tg e w2) : PI X tg e (fun σ H R => w1 σ H R ∨ w2 σ H R) := ⟨fun pins s σ H R I h => h.elim (h1.run pins s σ H R I) (h2.run pins s σ H R I)⟩
theorem itok_list {M : Addr → Prop} {G : Hp} {σ : St} {ρ : Rho} {H : Hp} {p : Addr} {vs : List V} {ds : List D} (h1 : hv M σ ρ H p = some (.lst vs)) (h2 : RpAll K (hv M σ ρ H) vs ds) : ItOk K M G σ ρ H (Itl X.K p) ds := by
  intro M' G' σ' ρ' H' r s _ i
  have h3 : H' p = some (.lst vs) := cut_same _ _ _ _ (s _ _ h1)
  have h4 := h2.keep s
  refine ⟨fun d hd => ?_, fun hi => ⟨vs, .inl (.inl h3), by rw [h4.length]; exact hi⟩⟩
  obtain ⟨v, e1, e2⟩ := h4.get hd
  refine ⟨⟨vs, v, .inl (.inl h3), e1⟩, fun x H'' y => ?_⟩
  obtain ⟨rfl, y⟩ := y
  have := y vs (.inl (.inl h3))
  rw [e1] at this
  cases this
  exact ⟨Same.refl _, e2⟩
theorem itok_tup {M : Addr → Prop} {G : Hp} {σ : St} {ρ : Rho} {H : Hp} {p : Addr} {vs : List V} {ds : List D} (h1 : SqT X.K (hv M σ ρ H) p vs) (h2 : RpAll K (hv M σ ρ H) vs ds) : ItOk K M G σ ρ H (Itt X.K p) ds := by
  intro M' G' σ' ρ' H' r s _ i
  have h3 : SqT X.K H' p vs := SqT.keep (cut_same _ _) (SqT.keep s h1)
  have h4 := h2.keep s
  refine ⟨fun d hd => ?_, fun hi => ⟨vs, h3, by rw [h4.length]; exact hi⟩⟩
  obtain ⟨v, e1, e2⟩ := h4.get hd
  refine ⟨⟨vs, v, h3, e1⟩, fun x H'' y => ?_⟩
  obtain ⟨rfl, y⟩ := y
  have := y vs h3
  rw [e1] at this
  cases this
  exact ⟨Same.refl _, e2⟩
theorem itok_str {M : Addr → Prop} {G : Hp} {σ : St} {ρ : Rho} {H : Hp} {x : Str} : ItOk K M G σ ρ H (Its x) (signsD x) := by
  intro M' G' σ' ρ' H' r s _ i
  refine ⟨fun d hd => ?_, fun hi => ?_⟩
  · unfold signsD at hd
    rw [List.getElem?_map] at hd
    obtain ⟨c, hc, rfl⟩ := Option.map_eq_some_iff.mp hd
    have hc' : x.cps[i]? = some c := by rw [← Array.getElem?_toList]; exact hc
    refine ⟨(Array.getElem?_eq_some_iff.mp hc').1, fun v H'' y => ?_⟩
    obtain ⟨rfl, c', h1, rfl⟩ := y
    rw [hc'] at h1
    cases h1
    exact ⟨Same.refl _, .str _⟩
  · unfold signsD at hi
    rw [List.length_map, Array.length_toList] at hi
    exact hi
theorem den_seq {X : Cx} {t : TE} (hK : X.K = K.K) (h2 : Den K W t fa) : DenI K W (fun σ H R => iList X.K t σ H R ∨ (fun σ H R => iTup X.K t σ H R ∨ iStr t σ H R) σ H R) (cW fa) := by
  refine ⟨fun {M G σ ρ H ds ρ'} r0 e Rq q => ?_, fun {M G σ ρ H c d} r0 e x Rq => ?_⟩
  · obtain ⟨⟨x, ρ1⟩, e1, e⟩ := R.bind_eq_ok e
    cases x with
    | lst xs =>
      cases e
      refine .inl (h2.ok r0 e1 _ fun v H' A r1 => ?_)
      cases r1 with
      | lst a b => exact ⟨_, rfl, ⟨_, .inl (.inl (cut_same _ _ _ _ a))⟩, q _ _ A (itok_list a b)⟩
    | tup xs =>
      cases e
      refine .inr (.inl (h2.ok r0 e1 _ fun v H' A r1 => ?_))
      cases r1 with
      | tup a b =>
        rw [← hK] at a
        exact ⟨_, rfl, ⟨_, SqT.keep (cut_same _ _) a⟩, q _ _ A (itok_tup a b)⟩
    | str x =>
      cases e
      refine .inr (.inr (h2.ok r0 e1 _ fun v H' A r1 => ⟨x, rp_str r1, q _ _ A itok_str⟩))
    | _ => cases e
  · rcases R.bind_eq_exc e with e | ⟨⟨z, ρ1⟩, e1, e⟩
    · exact .inl (h2.exc r0 e x _)
    · simp only at e
      split at e <;> cases e
theorem id_seq (ha : PD X K W e fa) (hK : X.K = K.K := by rfl) : ID X K W tg e (cW fa) := by
  obtain ⟨t, h1, h2⟩ := ha
  exact ⟨_, pi_or (pi_list h1) (pi_or (pi_tup h1) (pi_str h1)), den_seq hK h2⟩
/-- range(n), range(m, n) -/
def rangeD (lo : Int) (n : Nat) : List D := (List.range n).map fun (i : Nat) => D.int (lo + i)
def inR (i : Int) : Bool := decide (-(2 ^ 62) ≤ i) && decide (i < 2 ^ 62)
def cRng1 (fs : Av) : Av := fun ρ => (fs ρ).bind fun x => match x.1 with
  | [.int j] => if inR j = true then .ok (rangeD 0 j.toNat, x.2) else .bad
  | _ => .bad
def cRng2 (fs : Av) : Av := fun ρ => (fs ρ).bind fun x => match x.1 with
  | [.int i, .int j] => if inR i = true ∧ inR j = true then .ok (rangeD i (j - i).toNat, x.2) else .bad
  | _ => .bad
theorem itok_rng {M : Addr → Prop} {G : Hp} {σ : St} {ρ : Rho} {H : Hp} {lo : Int} {n : Nat} : ItOk K M G σ ρ H (Itr lo n) (rangeD lo n) := by
  intro M' G' σ' ρ' H' r s _ i
  unfold rangeD
  refine ⟨fun d hd => ?_, fun hi => by simp only [List.length_map, List.length_range] at hi; exact hi⟩
  rw [List.getElem?_map] at hd
  obtain ⟨k, hk, rfl⟩ := Option.map_eq_some_iff.mp hd
  obtain ⟨h1, h2⟩ := List.getElem?_eq_some_iff.mp hk
  rw [List.getElem_range] at h2
  subst h2
  rw [List.length_range] at h1
  refine ⟨h1, fun x H'' y => ?_⟩
  obtain ⟨rfl, rfl⟩ := y
  exact ⟨Same.refl _, .int _⟩
theorem id_rng1 {p : Pos} (hm : X.mg "range" = none) (ha : AD X K W [a] fs) (hg : Gl X "range" := by rfl) (hs : starEach [a] X.env = [(false, eval a X.env)] := by rfl) : ID X K W tg (.Call (.Name "range" p) [a] [] pos) (cRng1 fs) := by
  obtain ⟨t, h1, h2⟩ := ha
  refine ⟨_, pi_range1 hg hm h1 hs, fun {M G σ ρ H ds ρ'} r0 e Rq q => ?_, fun {M G σ ρ H c d} r0 e x Rq => ?_⟩
  · obtain ⟨⟨xs, ρ1⟩, e1, e⟩ := R.bind_eq_ok e
    simp only at e
    split at e
    · rename_i j
      by_cases hj : inR j = true
      · rw [if_pos hj] at e
        cases e
        refine h2.ok r0 e1 _ fun vs H' A r1 => ?_
        cases r1 with
        | cons rx rr =>
          cases rr
          rw [rp_int rx]
          simp only [inR, Bool.and_eq_true, decide_eq_true_eq] at hj
          exact ⟨j, rfl, hj.1, hj.2, q _ _ A itok_rng⟩
      · rw [if_neg hj] at e; cases e
    · cases e
  · rcases R.bind_eq_exc e with e | ⟨⟨z, ρ1⟩, e1, e⟩
    · exact h2.exc r0 e x _
    · simp only at e
      split at e
      · split at e <;> cases e
      · cases e
theorem id_rng2 {p : Pos} (hm : X.mg "range" = none) (ha : AD X K W [a, b] fs) (hg : Gl X "range" := by rfl) (hs : starEach [a, b] X.env = [(false, eval a X.env), (false, eval b X.env)] := by rfl) (hs2 : starEach [b] X.env = [(false, eval b X.env)] := by rfl) : ID X K W tg (.Call (.Name "range" p) [a, b] [] pos) (cRng2 fs) := by
  obtain ⟨t, h1, h2⟩ := ha
  refine ⟨_, pi_range2 hg hm h1 hs hs2, fun {M G σ ρ H ds ρ'} r0 e Rq q => ?_, fun {M G σ ρ H c d} r0 e x Rq => ?_⟩
  · obtain ⟨⟨xs, ρ1⟩, e1, e⟩ := R.bind_eq_ok e
    simp only at e
    split at e
    · rename_i i j
      by_cases hj : inR i = true ∧ inR j = true
      · rw [if_pos hj] at e
        cases e
        refine h2.ok r0 e1 _ fun vs H' A r1 => ?_
        cases r1 with
        | cons rx rr =>
          cases rr with
          | cons ry rr =>
            cases rr
            rw [rp_int rx, rp_int ry]
            simp only [inR, Bool.and_eq_true, decide_eq_true_eq] at hj
            exact ⟨i, j, rfl, ⟨hj.1.1, hj.1.2, hj.2.1, hj.2.2⟩, q _ _ A itok_rng⟩
      · rw [if_neg hj] at e; cases e
    · cases e
  · rcases R.bind_eq_exc e with e | ⟨⟨z, ρ1⟩, e1, e⟩
    · exact h2.exc r0 e x _
    · simp only at e
      split at e
      · split at e <;> cases e
      · cases e
/-- enumerate(xs) -/
def enumD : Nat → List D → List D
  | _, [] => []
  | i, d :: ds => .tup [.int i, d] :: enumD (i + 1) ds
theorem enumD_length : ∀ (i : Nat) (ds : List D), (enumD i ds).length = ds.length
  | _, [] => rfl
  | i, d :: ds => by simp [enumD, enumD_length (i + 1) ds]
theorem enumD_get : ∀ (k : Nat) (ds : List D) (i : Nat) (d : D), (enumD k ds)[i]? = some d → ∃ z, ds[i]? = some z ∧ d = .tup [.int ((k + i : Nat) : Int), z]
  | _, [], _, _, h => by simp [enumD] at h
  | k, z :: ds, 0, d, h => by
    simp only [enumD, List.getElem?_cons_zero, Option.some.injEq] at h
    exact ⟨z, rfl, h.symm⟩
  | k, z :: ds, i + 1, d, h => by
    simp only [enumD, List.getElem?_cons_succ] at h
    obtain ⟨w, h1, h2⟩ := enumD_get (k + 1) ds i d h
    exact ⟨w, by simpa using h1, by rw [h2, show k + 1 + i = k + (i + 1) by omega]⟩
def cEnum (fs : Av) : Av := fun ρ => (fs ρ).bind fun x => match x.1 with
  | [.lst ds] => .ok (enumD 0 ds, x.2)
  | _ => .bad
theorem rp_newtup {M : Addr → Prop} {G : Hp} {σ : St} {ρ : Rho} {H : Hp} {T : Addr} {vs : List V} {ds : List D} (r : Rel K M G σ ρ H) (n : H T = none) (ra : RpAll K (hv M σ ρ H) vs ds) : Same H (upd H T (.tup vs)) ∧ Rp K (hv M σ ρ (upd H T (.tup vs))) (.ref T) (.tup ds) := by
  have A := After.new (o := .tup vs) r n
  exact ⟨same_upd n, .tup (.inl (.inl (cut_mk (r.fresh_hv n) upd_same))) (ra.keep A.same)⟩
theorem id_enum {elts : List Expr} {kk : Nat} {tpos p : Pos} (hm : X.mg "enumerate" = none) (ha : AD X K W [a] fs) (hg : Gl X "enumerate" := by rfl) (hs : starEach [a] X.env = [(false, eval a X.env)] := by rfl) : ID X K W (.Tuple elts kk tpos) (.Call (.Name "enumerate" p) [a] [] pos) (cEnum fs) := by
  obtain ⟨t, h1, h2⟩ := ha
  refine ⟨_, pi_enum hg hm h1 hs, fun {M G σ ρ H ds ρ'} r0 e Rq q => ?_, fun {M G σ ρ H c d} r0 e x Rq => ?_⟩
  · obtain ⟨⟨xs, ρ1⟩, e1, e⟩ := R.bind_eq_ok e
    simp only at e
    split at e
    · rename_i zs
      cases e
      refine h2.ok r0 e1 _ fun vs H1 A r1 => ?_
      cases r1 with
      | cons rx rr =>
        cases rr
        cases rx with
        | @lst p vs _ h3 h4 =>
          refine ⟨p, vs, rfl, .inl (.inl (cut_same _ _ _ _ h3)), q _ _ A fun M' G' σ' ρ2 H2 r s _ i => ?_⟩
          have h5 : H2 p = some (.lst vs) := cut_same _ _ _ _ (s _ _ h3)
          have h6 := h4.keep s
          refine ⟨fun d hd => ?_, fun hi => ⟨vs, .inl (.inl h5), by rw [enumD_length] at hi; rw [h6.length]; exact hi⟩⟩
          obtain ⟨z, hz, rfl⟩ := enumD_get 0 zs i d hd
          obtain ⟨v, e3, e4⟩ := h6.get hz
          refine ⟨⟨vs, v, .inl (.inl h5), e3⟩, fun x H3 y => ?_⟩
          obtain ⟨T, x', rfl, nT, rfl, y⟩ := y
          have := y vs (.inl (.inl h5))
          rw [e3] at this
          cases this
          rw [Nat.zero_add]
          exact rp_newtup r nT (.cons (.int _) (.cons e4 .nil))
    · cases e
  · rcases R.bind_eq_exc e with e | ⟨⟨z, ρ1⟩, e1, e⟩
    · exact h2.exc r0 e x _
    · simp only at e
      split at e <;> cases e
/-! ### for -/
def forL (tg : Gv) (body : Sv) : List D → Rho → R (Fl × Rho)
  | [], ρ => .ok (.nx, ρ)
  | d :: ds, ρ => (tg d ρ).bind fun ρ1 => (body ρ1).bind fun x => match x.1 with
    | .nx => forL tg body ds x.2
    | .ct => forL tg body ds x.2
    | .bk => .ok (.nx, x.2)
    | .rt d => .ok (.rt d, x.2)
    | .rtF xs => .ok (.rtF xs, x.2)
def cFor (fi : Av) (tg : Gv) (body : Sv) : Sv := fun ρ => (fi ρ).bind fun x => forL tg body x.1 x.2
theorem sd_for {body : List Stmt} {fi : Av} {ft : Gv} {sl : List Nat} (hi : ID X K W tg e fi) (hg : GD X K sl tg ft) (hb : SsD X K W body f) (hp : PassesOwn (model X.prog X.w) X.A X.env X.xe) (hc : X.calm = true := by rfl) (hs : ∀ x, foldedSetIterable e X.env x = pure x := by intro _; rfl) : SD X K W (.For tg e body [] pos) (cFor fi ft f) := by
  obtain ⟨w, i1, i2⟩ := hi
  obtain ⟨t, g1, g2⟩ := hg
  obtain ⟨u, b1, b2⟩ := hb
  refine ⟨_, ps_for hp hc i1 g1 b1 hs, fun {M G σ ρ H fl ρ'} r0 e Dn q => ?_, fun {M G σ ρ H c d} r0 e x Dn => ?_⟩
  · obtain ⟨⟨ds, ρ1⟩, e1, e⟩ := R.bind_eq_ok e
    refine i2.ok r0 e1 _ fun J H1 A hJ => ⟨fun i m σ' H' => m = ds.length - i ∧ i ≤ ds.length ∧ ∃ ρ2, After K M σ ρ H M G σ' ρ2 H' ∧ Same (hv M σ ρ1 H1) (hv M σ' ρ2 H') ∧ forL ft f (ds.drop i) ρ2 = .ok (fl, ρ'), ⟨ds.length, by simp, Nat.zero_le _, ρ1, A, Same.refl _, by simpa using e⟩, ?_⟩
    rintro i m σ' H' ⟨rfl, hi, ρ2, B, sB, e2⟩
    obtain ⟨hgo, hst⟩ := hJ M G σ' ρ2 H' B.rel sB (Same.refl _) i
    by_cases hlt : i < ds.length
    · have hd : ds[i]? = some ds[i] := List.getElem?_eq_getElem hlt
      obtain ⟨go, yld⟩ := hgo _ hd
      refine .inr ⟨go, fun σ3 H3 => ∃ ρ3, After K M σ ρ H M G σ3 ρ3 H3 ∧ Same (hv M σ ρ1 H1) (hv M σ3 ρ3 H3) ∧ forL ft f (ds.drop (i + 1)) ρ3 = .ok (fl, ρ'), fun σ3 H3 ⟨ρ3, n1, n2, n3⟩ => ⟨ds.length - (i + 1), by omega, rfl, hlt, ρ3, n1, n2, n3⟩, fun x H3 y => ?_⟩
      obtain ⟨sy, ry⟩ := yld x H3 y
      have C := After.grow B.rel sy
      rw [List.drop_eq_getElem_cons hlt] at e2
      obtain ⟨ρ4, e4, e2⟩ := R.bind_eq_ok (show (ft ds[i] ρ2).bind _ = .ok (fl, ρ') from e2)
      refine g2.ok C.rel ry e4 _ fun σ4 H4 A4 _ => ?_
      obtain ⟨⟨fl5, ρ5⟩, e5, e2⟩ := R.bind_eq_ok e2
      have T := (B.trans C).trans A4
      have sT := (sB.trans C.same).trans A4.same
      cases fl5 with
      | nx => exact b2.ok A4.rel e5 _ fun σ5 H5 A5 => ⟨ρ5, T.trans A5, sT.trans A5.same, e2⟩
      | ct => exact b2.ok A4.rel e5 _ fun σ5 H5 A5 => ⟨ρ5, T.trans A5, sT.trans A5.same, e2⟩
      | bk => cases e2; exact b2.ok A4.rel e5 _ fun σ5 H5 A5 => q _ _ (T.trans A5)
      | rt d => cases e2; exact b2.ok A4.rel e5 _ fun v σ5 H5 A5 r5 => q v _ _ (T.trans A5) r5
      | rtF xs => cases e2; exact b2.ok A4.rel e5 _ fun p xs σ5 H5 g m A5 r5 => q p xs _ _ g m (T.trans A5) r5
    · have hi' : i = ds.length := by omega
      subst hi'
      refine .inl ⟨hst (Nat.le_refl _), ?_⟩
      rw [List.drop_length] at e2
      cases e2
      exact q _ _ B
  · rcases R.bind_eq_exc e with e | ⟨⟨ds, ρ1⟩, e1, e⟩
    · exact i2.exc r0 e (x _) _
    · refine i2.ok r0 e1 _ fun J H1 A hJ => ⟨fun i m σ' H' => m = ds.length - i ∧ i ≤ ds.length ∧ ∃ ρ2, After K M σ ρ H M G σ' ρ2 H' ∧ Same (hv M σ ρ1 H1) (hv M σ' ρ2 H') ∧ forL ft f (ds.drop i) ρ2 = .exc c d, ⟨ds.length, by simp, Nat.zero_le _, ρ1, A, Same.refl _, by simpa using e⟩, ?_⟩
      rintro i m σ' H' ⟨rfl, hi, ρ2, B, sB, e2⟩
      obtain ⟨hgo, hst⟩ := hJ M G σ' ρ2 H' B.rel sB (Same.refl _) i
      by_cases hlt : i < ds.length
      · have hd : ds[i]? = some ds[i] := List.getElem?_eq_getElem hlt
        obtain ⟨go, yld⟩ := hgo _ hd
        refine .inr ⟨go, fun σ3 H3 => ∃ ρ3, After K M σ ρ H M G σ3 ρ3 H3 ∧ Same (hv M σ ρ1 H1) (hv M σ3 ρ3 H3) ∧ forL ft f (ds.drop (i + 1)) ρ3 = .exc c d, fun σ3 H3 ⟨ρ3, n1, n2, n3⟩ => ⟨ds.length - (i + 1), by omega, rfl, hlt, ρ3, n1, n2, n3⟩, fun x' H3 y => ?_⟩
        obtain ⟨sy, ry⟩ := yld x' H3 y
        have C := After.grow B.rel sy
        rw [List.drop_eq_getElem_cons hlt] at e2
        rcases R.bind_eq_exc (show (ft ds[i] ρ2).bind _ = .exc c d from e2) with e4 | ⟨ρ4, e4, e2⟩
        · exact (g2.exc e4).elim
        · refine g2.ok C.rel ry e4 _ fun σ4 H4 A4 _ => ?_
          have T := (B.trans C).trans A4
          have sT := (sB.trans C.same).trans A4.same
          rcases R.bind_eq_exc e2 with e5 | ⟨⟨fl5, ρ5⟩, e5, e2⟩
          · exact b2.exc A4.rel e5 x _
          · cases fl5 with
            | nx => exact b2.ok A4.rel e5 _ fun σ5 H5 A5 => ⟨ρ5, T.trans A5, sT.trans A5.same, e2⟩
            | ct => exact b2.ok A4.rel e5 _ fun σ5 H5 A5 => ⟨ρ5, T.trans A5, sT.trans A5.same, e2⟩
            | bk => cases e2
            | rt d => cases e2
            | rtF xs => cases e2
      · have hi' : i = ds.length := by omega
        subst hi'
        rw [List.drop_length] at e2
        cases e2
/-! ### while -/
def whileN (c : Tv) (body : Sv) : Nat → Rho → R (Fl × Rho)
  | 0, _ => .bad
  | n + 1, ρ => (c ρ).bind fun b => if b.1 = true then (body b.2).bind fun x => match x.1 with
      | .nx => whileN c body n x.2
      | .ct => whileN c body n x.2
      | .bk => .ok (.nx, x.2)
      | .rt d => .ok (.rt d, x.2)
      | .rtF xs => .ok (.rtF xs, x.2)
    else .ok (.nx, b.2)
def cWhile (fuel : Rho → Nat) (c : Tv) (body : Sv) : Sv := fun ρ => whileN c body (fuel ρ) ρ
theorem sd_while {c : Expr} {t : Tv} {body : List Stmt} (fuel : Rho → Nat) (hc : TD X K W c t) (hb : SsD X K W body f) (hp : PassesOwn (model X.prog X.w) X.A X.env X.xe) : SD X K W (.While c body [] pos) (cWhile fuel t f) := by
  obtain ⟨u, c1, c2⟩ := hc
  obtain ⟨v, b1, b2⟩ := hb
  refine ⟨_, ps_while hp c1 b1, fun {M G σ ρ H fl ρ'} r0 e Dn q => ?_, fun {M G σ ρ H c d} r0 e x Dn => ?_⟩
  · refine ⟨fun n σ' H' => ∃ ρ2, After K M σ ρ H M G σ' ρ2 H' ∧ whileN t f n ρ2 = .ok (fl, ρ'), ⟨fuel ρ, ρ, .refl r0, e⟩, ?_⟩
    rintro n σ' H' ⟨ρ2, A, e2⟩
    cases n with
    | zero => cases e2
    | succ n =>
      obtain ⟨⟨b, ρ3⟩, e3, e2⟩ := R.bind_eq_ok (show (t ρ2).bind _ = .ok (fl, ρ') from e2)
      refine c2.ok A.rel e3 _ fun H3 A3 => ?_
      have T := A.trans A3
      cases b with
      | false =>
        rw [if_neg Bool.false_ne_true] at e2 ⊢
        cases e2
        exact q _ _ T
      | true =>
        rw [if_pos rfl] at e2 ⊢
        refine ⟨fun σ4 H4 => ∃ ρ4, After K M σ ρ H M G σ4 ρ4 H4 ∧ whileN t f n ρ4 = .ok (fl, ρ'), fun σ4 H4 z => ⟨n, Nat.lt_succ_self n, z⟩, ?_⟩
        obtain ⟨⟨fl5, ρ5⟩, e5, e2⟩ := R.bind_eq_ok e2
        cases fl5 with
        | nx => exact b2.ok A3.rel e5 _ fun σ5 H5 A5 => ⟨ρ5, T.trans A5, e2⟩
        | ct => exact b2.ok A3.rel e5 _ fun σ5 H5 A5 => ⟨ρ5, T.trans A5, e2⟩
        | bk => cases e2; exact b2.ok A3.rel e5 _ fun σ5 H5 A5 => q _ _ (T.trans A5)
        | rt d => cases e2; exact b2.ok A3.rel e5 _ fun v σ5 H5 A5 r5 => q v _ _ (T.trans A5) r5
        | rtF xs => cases e2; exact b2.ok A3.rel e5 _ fun p xs σ5 H5 g m A5 r5 => q p xs _ _ g m (T.trans A5) r5
  · refine ⟨fun n σ' H' => ∃ ρ2, After K M σ ρ H M G σ' ρ2 H' ∧ whileN t f n ρ2 = .exc c d, ⟨fuel ρ, ρ, .refl r0, e⟩, ?_⟩
    rintro n σ' H' ⟨ρ2, A, e2⟩
    cases n with
    | zero => cases e2
    | succ n =>
      rcases R.bind_eq_exc (show (t ρ2).bind _ = .exc c d from e2) with e3 | ⟨⟨b, ρ3⟩, e3, e2⟩
      · exact c2.exc A.rel e3 (x _) _
      · refine c2.ok A.rel e3 _ fun H3 A3 => ?_
        have T := A.trans A3
        cases b with
        | false => rw [if_neg Bool.false_ne_true] at e2; cases e2
        | true =>
          rw [if_pos rfl] at e2 ⊢
          refine ⟨fun σ4 H4 => ∃ ρ4, After K M σ ρ H M G σ4 ρ4 H4 ∧ whileN t f n ρ4 = .exc c d, fun σ4 H4 z => ⟨n, Nat.lt_succ_self n, z⟩, ?_⟩
          rcases R.bind_eq_exc e2 with e5 | ⟨⟨fl5, ρ5⟩, e5, e2⟩
          · exact b2.exc A3.rel e5 x _
          · cases fl5 with
            | nx => exact b2.ok A3.rel e5 _ fun σ5 H5 A5 => ⟨ρ5, T.trans A5, e2⟩
            | ct => exact b2.ok A3.rel e5 _ fun σ5 H5 A5 => ⟨ρ5, T.trans A5, e2⟩
            | bk => cases e2
            | rt d => cases e2
            | rtF xs => cases e2
/-! ### list comprehensions -/
def wipeR (ρ : Rho) : List Nat → Rho
  | [] => ρ
  | v :: vs => (wipeR ρ vs).set v .no
/-- the slots at vs as they were -/
def restR (ρ0 ρ : Rho) : List Nat → Rho
  | [] => ρ
  | v :: vs => (restR ρ0 ρ vs).set v (ρ0.getD v .no)
def noOw (ρ : Rho) (vs : List Nat) : Bool := vs.all fun v => match ρ[v]? with
  | some (.sh _) => true
  | some .no => true
  | _ => false
def compL (vs : List Nat) (tg : Gv) (tt : Tv) (elt : Ev) : List D → List D → Rho → R (List D × Rho)
  | [], acc, ρ => .ok (acc, ρ)
  | d :: ds, acc, ρ => (tg d (wipeR ρ vs)).bind fun ρ1 => (tt ρ1).bind fun b => if b.1 = true then (elt b.2).bind fun y => if acc.length < sizeLine then compL vs tg tt elt ds (acc ++ [y.1]) y.2 else .bad else compL vs tg tt elt ds acc b.2
def noExc {α : Type} : R α → R α
  | .exc _ _ => .bad
  | r => r
def cComp (vs : List Nat) (fi : Av) (tg : Gv) (tt : Tv) (elt : Ev) : Av := fun ρ => (fi ρ).bind fun x => if noOw x.2 vs = true then noExc ((compL vs tg tt elt x.1 [] x.2).map fun y => (y.1, restR x.2 y.2 vs)) else .bad
/-! the pieces of a comprehension's block, by what they compute alone -/
abbrev wF : WX := fun _ _ _ _ => False
def gC (K : KX) (sl : List Nat) (f : Gv) : TG := fun v σ H Q => ∃ M G ρ d ρ', Rel K M G σ ρ H ∧ Rp K (hv M σ ρ H) v d ∧ f d ρ = .ok ρ' ∧ ∀ σ' H', After K M σ ρ H M G σ' ρ' H' → Only1 sl σ σ' → Q σ' H'
def tC' (K : KX) (f : Tv) : TT := fun σ H Q => ∃ M G ρ b ρ', Rel K M G σ ρ H ∧ f ρ = .ok (b, ρ') ∧ ∀ H', After K M σ ρ H M G σ ρ' H' → Q b H'
def eC (K : KX) (f : Ev) : TE := fun σ H Q => ∃ M G ρ d ρ', Rel K M G σ ρ H ∧ f ρ = .ok (d, ρ') ∧ ∀ v H', After K M σ ρ H M G σ ρ' H' → Rp K (hv M σ ρ' H') v d → Q v H'
theorem GD.canon {X : Cx} {sl : List Nat} {f : Gv} (h : GD X K sl tg f) : PG X tg (gC K sl f) := by
  obtain ⟨t, h1, h2⟩ := h
  exact ⟨fun pins s σ H v u Q I r ⟨M, G, ρ, d, ρ', r0, rd, e, q⟩ => h1.run pins s σ H v u Q I r (h2.ok r0 rd e Q q)⟩
theorem PD.canon {X : Cx} {f : Ev} (h : PD X K W e f) : PE X e (eC K f) := by
  obtain ⟨t, h1, h2⟩ := h
  exact ⟨fun pins s σ H Q I ⟨M, G, ρ, d, ρ', r0, e, q⟩ => h1.run pins s σ H Q I (h2.ok r0 e Q q)⟩
/-- a clause's tests -/
def FsD (X : Cx) (K : KX) (W : WX) (ifs : List Expr) (f : Tv) : Prop := ∃ t, PTs X ifs t ∧ DenT K W t f
def cYes : Tv := fun ρ => .ok (true, ρ)
theorem fs_nil : FsD X K W [] cYes := ⟨_, pts_nil, fun r e Q q => by cases e; exact q _ (.refl r), fun r e => by cases e⟩
theorem fs_one {c : Expr} {t : Tv} (h : TD X K W c t) : FsD X K W [c] t := by obtain ⟨u, h1, h2⟩ := h; exact ⟨_, pts_one h1, h2⟩
theorem FsD.canon {X : Cx} {ifs : List Expr} {f : Tv} (h : FsD X K W ifs f) : PTs X ifs (tC' K f) := by
  obtain ⟨t, h1, h2⟩ := h
  exact ⟨fun pins s σ H Q I ⟨M, G, ρ, d, ρ', r0, e, q⟩ => h1.run pins s σ H Q I (h2.ok r0 e Q q)⟩
/-! slots wiped and brought back -/
theorem wipeR_length (ρ : Rho) : ∀ vs : List Nat, (wipeR ρ vs).length = ρ.length
  | [] => rfl
  | v :: vs => by unfold wipeR; rw [List.length_set, wipeR_length ρ vs]
theorem restR_length (ρ0 ρ : Rho) : ∀ vs : List Nat, (restR ρ0 ρ vs).length = ρ.length
  | [] => rfl
  | v :: vs => by unfold restR; rw [List.length_set, restR_length ρ0 ρ vs]
theorem wipe_in {σ : St} {j : Nat} : ∀ {vs : List Nat}, j ∈ vs → j < σ.length → (wipe σ vs)[j]? = some none
  | v :: vs, h, hl => by
    unfold wipe
    by_cases hj : j = v
    · subst hj
      rw [List.getElem?_set_self (by rw [wipe_length]; exact hl)]
    · rw [set_ne hj]
      exact wipe_in ((List.mem_cons.mp h).resolve_left hj) hl
theorem wipeR_in {ρ : Rho} {j : Nat} : ∀ {vs : List Nat}, j ∈ vs → j < ρ.length → (wipeR ρ vs)[j]? = some .no
  | v :: vs, h, hl => by
    unfold wipeR
    by_cases hj : j = v
    · subst hj
      rw [List.getElem?_set_self (by rw [wipeR_length]; exact hl)]
    · rw [set_ne hj]
      exact wipeR_in ((List.mem_cons.mp h).resolve_left hj) hl
theorem wipeR_out {ρ : Rho} {j : Nat} : ∀ {vs : List Nat}, j ∉ vs → (wipeR ρ vs)[j]? = ρ[j]?
  | [], _ => rfl
  | v :: vs, h => by
    simp only [List.mem_cons, not_or] at h
    unfold wipeR
    rw [set_ne h.1]
    exact wipeR_out h.2
theorem restR_in {ρ0 ρ : Rho} {j : Nat} (h0 : ρ0.length = ρ.length) : ∀ {vs : List Nat}, j ∈ vs → j < ρ.length → (restR ρ0 ρ vs)[j]? = ρ0[j]?
  | v :: vs, h, hl => by
    unfold restR
    by_cases hj : j = v
    · subst hj
      rw [List.getElem?_set_self (by rw [restR_length]; exact hl), List.getD_eq_getElem?_getD, List.getElem?_eq_getElem (by omega)]
      rfl
    · rw [set_ne hj]
      exact restR_in h0 ((List.mem_cons.mp h).resolve_left hj) hl
theorem restR_out {ρ0 ρ : Rho} {j : Nat} : ∀ {vs : List Nat}, j ∉ vs → (restR ρ0 ρ vs)[j]? = ρ[j]?
  | [], _ => rfl
  | v :: vs, h => by
    simp only [List.mem_cons, not_or] at h
    unfold restR
    rw [set_ne h.1]
    exact restR_out h.2
theorem wipe_only {σ σ' : St} {sl vs : List Nat} (h : Only1 sl (wipe σ vs) σ') (hs : ∀ j ∈ sl, j ∈ vs) : wipe σ' vs = wipe σ vs := by
  apply List.ext_getElem?
  intro j
  by_cases hj : j ∈ vs
  · by_cases hl : j < σ.length
    · rw [wipe_in hj (by rw [h.1, wipe_length]; exact hl), wipe_in hj hl]
    · rw [List.getElem?_eq_none (by rw [wipe_length, h.1, wipe_length]; omega), List.getElem?_eq_none (by rw [wipe_length]; omega)]
  · rw [wipe_out hj]
    exact h.2 j fun z => hj (hs j z)
theorem Rel.wipe {M : Addr → Prop} {G : Hp} {σ : St} {ρ : Rho} {H : Hp} (r0 : Rel K M G σ ρ H) : ∀ {vs : List Nat}, (∀ v ∈ vs, v < ρ.length) → Rel K M G (L2.wipe σ vs) (wipeR ρ vs) H ∧ Same (hv M σ ρ H) (hv M (L2.wipe σ vs) (wipeR ρ vs) H)
  | [], _ => ⟨r0, Same.refl _⟩
  | v :: vs, h => by
    obtain ⟨r1, s1⟩ := Rel.wipe r0 (vs := vs) fun u hu => h u (List.mem_cons_of_mem _ hu)
    have hl : v < (wipeR ρ vs).length := by rw [wipeR_length]; exact h v List.mem_cons_self
    obtain ⟨r2, s2⟩ := r1.set_no (x := none) (List.getElem?_eq_getElem hl)
    exact ⟨r2, s1.trans s2⟩
theorem Rel.reput {M : Addr → Prop} {G : Hp} {σ : St} {ρ : Rho} {H : Hp} {p : Addr} {o o' : HO} (r : Rel K (Mp M p) (upd G p o) σ ρ H) (g : G p = none) : Rel K (Mp M p) (upd G p o') σ ρ (upd H p o') ∧ Same (hv (Mp M p) σ ρ H) (hv (Mp M p) σ ρ (upd H p o')) := by
  have np : ¬ Ows σ ρ p := fun z => (r.dis p z).2 (.inr rfl)
  have s : Same (hv (Mp M p) σ ρ H) (hv (Mp M p) σ ρ (upd H p o')) := cut_mono fun a u z h => ⟨z, by rw [upd_ne (fun e => z (.inl (.inr e)))]; exact h⟩
  refine ⟨⟨r.len, fun i d h => ?_, fun i d h => ?_, r.inj, fun a h => ?_, fun a h => ?_, fun a u h => ?_⟩, s⟩
  · obtain ⟨v, h1, h2⟩ := r.sh i d h
    exact ⟨v, h1, h2.keep s⟩
  · obtain ⟨q, h1, h2⟩ := r.ow i d h
    exact ⟨q, h1, h2.keep s (upd_ne fun e => np ⟨i, d, h, by rw [← e]; exact h1⟩)⟩
  · obtain ⟨h1, h2⟩ := r.dis a h
    have ne : a ≠ p := fun z => h2 (.inr z)
    rw [upd_ne ne] at h1
    exact ⟨by rw [upd_ne ne]; exact h1, h2⟩
  · by_cases e : a = p
    · rw [e, upd_same]; exact fun z => by cases z
    · have := r.mdom a h
      rw [upd_ne e] at this ⊢
      exact this
  · by_cases e : a = p
    · subst e; rw [upd_same] at h ⊢; exact h
    · rw [upd_ne e] at h ⊢
      exact r.same a u (by rw [upd_ne e]; exact h)
theorem noOw_at {ρ : Rho} {vs : List Nat} (h : noOw ρ vs = true) {v : Nat} (hv : v ∈ vs) : ρ[v]? = some .no ∨ ∃ d, ρ[v]? = some (.sh d) := by
  have := List.all_eq_true.mp h v hv
  split at this
  · rename_i d e; exact .inr ⟨d, e⟩
  · rename_i e; exact .inl e
  · cases this
theorem noExc_ok {α : Type} {r : R α} {a : α} (h : noExc r = .ok a) : r = .ok a := by
  cases r with
  | ok b => exact h
  | exc c d => cases h
  | bad => cases h
theorem noExc_exc {α : Type} {r : R α} {c : Nat} {d : D} (h : noExc r = .exc c d) : False := by cases r <;> cases h
/-- the state behind the last turn, with the slots brought back -/
theorem rest_rel {M M' : Addr → Prop} {G G' : Hp} {σ : St} {ρ1 ρi : Rho} {H1 H : Hp} {vs : List Nat} (hno : noOw ρ1 vs = true) (r1 : Rel K M G σ ρ1 H1) (T : After K M σ ρ1 H1 M' G' (wipe σ vs) (wipeR ρi vs) H) (hl : ρi.length = ρ1.length) :
    After K M σ ρ1 H1 M' G' σ (restR ρ1 ρi vs) H ∧ Same (hv M' (wipe σ vs) (wipeR ρi vs) H) (hv M' σ (restR ρ1 ρi vs) H) := by
  have hb : ∀ v ∈ vs, v < ρ1.length := fun v hv => by
    rcases noOw_at hno hv with h | ⟨d, h⟩ <;> exact (List.getElem?_eq_some_iff.mp h).1
  have kow : ∀ (j : Nat) d, IsOw (restR ρ1 ρi vs) j d → j ∉ vs ∧ IsOw (wipeR ρi vs) j d := fun j d h => by
    unfold IsOw at h
    by_cases hj : j ∈ vs
    · rw [restR_in hl.symm hj (by rw [hl]; exact hb j hj)] at h
      rcases noOw_at hno hj with e | ⟨d', e⟩ <;> rw [e] at h <;> rcases h with h | h <;> cases h
    · rw [restR_out hj] at h
      refine ⟨hj, ?_⟩
      unfold IsOw
      rw [wipeR_out hj]
      exact h
  have kows : ∀ a, Ows σ (restR ρ1 ρi vs) a → Ows (wipe σ vs) (wipeR ρi vs) a := fun a ⟨j, d, h1, h2⟩ => by
    obtain ⟨hj, h3⟩ := kow j d h1
    exact ⟨j, d, h3, by rw [wipe_out hj]; exact h2⟩
  have s : Same (hv M' (wipe σ vs) (wipeR ρi vs) H) (hv M' σ (restR ρ1 ρi vs) H) := cut_mono fun a o z h => ⟨fun q => z (q.imp id (kows a)), h⟩
  refine ⟨⟨⟨?_, fun j d h => ?_, fun j d h => ?_, fun j k d e p h1 h2 h3 h4 => ?_, fun a h => T.rel.dis a (kows a h), T.rel.mdom, T.rel.same⟩, T.same.trans s, fun j d h => ?_, by rw [restR_length, hl]⟩, s⟩
  · rw [restR_length, hl]; exact r1.len
  · by_cases hj : j ∈ vs
    · rw [restR_in hl.symm hj (by rw [hl]; exact hb j hj)] at h
      obtain ⟨v, h1, h2⟩ := r1.sh j d h
      exact ⟨v, h1, h2.keep (T.same.trans s)⟩
    · rw [restR_out hj] at h
      obtain ⟨v, h1, h2⟩ := T.rel.sh j d (by rw [wipeR_out hj]; exact h)
      exact ⟨v, by rw [wipe_out hj] at h1; exact h1, h2.keep s⟩
  · obtain ⟨hj, h3⟩ := kow j d h
    obtain ⟨p, h1, h2⟩ := T.rel.ow j d h3
    exact ⟨p, by rw [wipe_out hj] at h1; exact h1, h2.keep s rfl⟩
  · obtain ⟨hj, g1⟩ := kow j d h1
    obtain ⟨hk, g2⟩ := kow k e h2
    exact T.rel.inj j k d e p g1 g2 (by rw [wipe_out hj]; exact h3) (by rw [wipe_out hk]; exact h4)
  · have hj : j ∉ vs := fun hj => by rcases noOw_at hno hj with e | ⟨d', e⟩ <;> rw [e] at h <;> cases h
    obtain ⟨_, d', h2⟩ := T.keep j d h
    rw [wipeR_out hj] at h2
    exact ⟨rfl, d', by rw [restR_out hj]; exact h2⟩
theorem comp_core {M : Addr → Prop} {G : Hp} {σ : St} {ρ ρ1 ρ2 : Rho} {H : Hp} {items out' : List D} {Q : VK} {w : TI} {ft : Gv} {tt : Tv} {fe : Ev} {sl vs : List Nat} (hsl : ∀ j ∈ sl, j ∈ vs)
    (hI : ∀ R : It → Hp → Prop, (∀ J H1, After K M σ ρ H M G σ ρ1 H1 → ItOk K M G σ ρ1 H1 J items → R J H1) → w σ H R) (hno : noOw ρ1 vs = true) (e2 : compL vs ft tt fe items [] ρ1 = .ok (out', ρ2))
    (q : ∀ D accV H', G D = none → ¬ M D → After K M σ ρ H (Mp M D) (upd G D (.lst accV)) σ (restR ρ1 ρ2 vs) H' → RpAll K (hv (Mp M D) σ (restR ρ1 ρ2 vs) H') accV out' → Q (.ref D) H') : tLc w (gC K sl ft) (tC' K tt) (eC K fe) vs σ H Q := by
  have hb : ∀ v ∈ vs, v < ρ1.length := fun v hv => by
    rcases noOw_at hno hv with h | ⟨d, h⟩ <;> exact (List.getElem?_eq_some_iff.mp h).1
  refine hI _ fun J H1 A hJ D nD => ?_
  obtain ⟨gD, mD, _⟩ := A.rel.fresh nD
  have P0 := After.protect (o := .lst []) A.rel nD
  obtain ⟨w1, w2⟩ := P0.rel.wipe hb
  have kp : ∀ (ρi : Rho) (j : Nat) d, ρ1[j]? = some (.rf d) → (∃ d', ρi[j]? = some (.rf d')) → (wipe σ vs)[j]? = σ[j]? ∧ ∃ d', (wipeR ρi vs)[j]? = some (.rf d') := fun ρi j d h ⟨d', h'⟩ => by
    have hj : j ∉ vs := fun hj => by rcases noOw_at hno hj with e | ⟨d', e⟩ <;> rw [e] at h <;> cases h
    exact ⟨wipe_out hj, d', by rw [wipeR_out hj]; exact h'⟩
  refine ⟨fun i m H' => m = items.length - i ∧ i ≤ items.length ∧ ∃ acc accV ρi, ρi.length = ρ1.length ∧ After K M σ ρ1 H1 (Mp M D) (upd G D (.lst accV)) (wipe σ vs) (wipeR ρi vs) H' ∧ RpAll K (hv (Mp M D) (wipe σ vs) (wipeR ρi vs) H') accV acc ∧ compL vs ft tt fe (items.drop i) acc ρi = .ok (out', ρ2),
    ⟨items.length, by simp, Nat.zero_le _, [], [], ρ1, rfl, ⟨w1, P0.same.trans w2, fun j d h => kp ρ1 j d h ⟨d, h⟩, by rw [wipeR_length]⟩, .nil, by simpa using e2⟩, ?_⟩
  rintro i m H' ⟨rfl, hi, acc, accV, ρi, hlen, T, ra, e3⟩
  obtain ⟨hgo, hst⟩ := hJ _ _ _ _ _ T.rel T.same (same_upd gD) i
  by_cases hlt : i < items.length
  · have hd : items[i]? = some items[i] := List.getElem?_eq_getElem hlt
    obtain ⟨go, yld⟩ := hgo _ hd
    rw [List.drop_eq_getElem_cons hlt] at e3
    refine .inr ⟨go, fun H6 => ∃ acc accV ρi, ρi.length = ρ1.length ∧ After K M σ ρ1 H1 (Mp M D) (upd G D (.lst accV)) (wipe σ vs) (wipeR ρi vs) H6 ∧ RpAll K (hv (Mp M D) (wipe σ vs) (wipeR ρi vs) H6) accV acc ∧ compL vs ft tt fe (items.drop (i + 1)) acc ρi = .ok (out', ρ2), fun H6 z => ⟨items.length - (i + 1), by omega, rfl, hlt, z⟩, fun x H2 y => ?_⟩
    obtain ⟨sy, ry⟩ := yld x H2 y
    have C := After.grow T.rel sy
    obtain ⟨ρ3, e4, e3⟩ := R.bind_eq_ok (show (ft items[i] (wipeR ρi vs)).bind _ = .ok (out', ρ2) from e3)
    obtain ⟨⟨b, ρ4⟩, e5, e3⟩ := R.bind_eq_ok e3
    refine ⟨_, _, _, _, _, C.rel, ry, e4, fun σ3 H3 A3 o3 => ?_⟩
    have ws : wipe σ3 vs = wipe σ vs := wipe_only o3 hsl
    refine ⟨ws, _, _, _, _, _, A3.rel, e5, fun H4 A4 => ?_⟩
    -- a turn's end: the slots are wiped again
    have fin : ∀ (accV' : List V) (ρ6 : Rho) (H6 : Hp), After K (Mp M D) (wipe σ vs) (wipeR ρi vs) H' (Mp M D) (upd G D (.lst accV')) σ3 ρ6 H6 → ρ6.length = ρ1.length ∧ After K M σ ρ1 H1 (Mp M D) (upd G D (.lst accV')) (wipe σ vs) (wipeR ρ6 vs) H6 ∧ Same (hv (Mp M D) σ3 ρ6 H6) (hv (Mp M D) (wipe σ vs) (wipeR ρ6 vs) H6) := fun accV' ρ6 H6 B => by
      have l6 : ρ6.length = ρ1.length := by rw [B.len, wipeR_length, hlen]
      obtain ⟨v1, v2⟩ := B.rel.wipe (vs := vs) (fun v hv => by rw [l6]; exact hb v hv)
      rw [ws] at v1 v2
      refine ⟨l6, ⟨v1, (T.same.trans B.same).trans v2, fun j d h => ?_, by rw [wipeR_length, l6]⟩, v2⟩
      obtain ⟨_, d1, h1⟩ := T.keep j d h
      obtain ⟨_, d2, h2⟩ := B.keep j d1 h1
      exact kp ρ6 j d h ⟨d2, h2⟩
    have B4 := (C.trans A3).trans A4
    cases b with
    | false =>
      rw [if_neg Bool.false_ne_true] at e3
      obtain ⟨l6, B6, s6⟩ := fin accV ρ4 H4 B4
      exact iteF ⟨acc, accV, ρ4, l6, B6, ra.keep (B4.same.trans s6), e3⟩
    | true =>
      rw [if_pos rfl] at e3
      obtain ⟨⟨y', ρ5⟩, e6, e3⟩ := R.bind_eq_ok e3
      refine iteT ⟨_, _, _, _, _, A4.rel, e6, fun v H5 A5 r5 => ?_⟩
      have B5 := B4.trans A5
      simp only at e3
      by_cases hz : acc.length < sizeLine
      · rw [if_pos hz] at e3
        have hD5 : H5 D = some (.lst accV) := B5.rel.same D _ upd_same
        refine ⟨accV, hD5, by rw [ra.length]; exact hz, ?_⟩
        obtain ⟨u1, u2⟩ := B5.rel.reput (o' := .lst (accV ++ [v])) gD
        have B7 : After K (Mp M D) (wipe σ vs) (wipeR ρi vs) H' (Mp M D) (upd G D (.lst (accV ++ [v]))) σ3 ρ5 (upd H5 D (.lst (accV ++ [v]))) := ⟨u1, B5.same.trans u2, B5.keep, B5.len⟩
        obtain ⟨l6, B6, s6⟩ := fin (accV ++ [v]) ρ5 _ B7
        exact ⟨acc ++ [y'], accV ++ [v], ρ5, l6, B6, (ra.keep (B7.same.trans s6)).append (.cons (r5.keep (u2.trans s6)) .nil), e3⟩
      · rw [if_neg hz] at e3; cases e3
  · have hi' : i = items.length := by omega
    subst hi'
    refine .inl ⟨hst (Nat.le_refl _), ?_⟩
    rw [List.drop_length] at e3
    cases e3
    obtain ⟨Z, sZ⟩ := rest_rel hno A.rel T hlen
    exact q D accV H' gD mD (A.trans Z) (ra.keep sZ)
theorem den_comp {w : TI} {fi : Av} {ft : Gv} {tt : Tv} {fe : Ev} {sl vs : List Nat} (i2 : DenI K W w fi) (hsl : ∀ j ∈ sl, j ∈ vs) : DenF K W (tLc w (gC K sl ft) (tC' K tt) (eC K fe) vs) (cComp vs fi ft tt fe) := by
  refine ⟨fun {M G σ ρ H out ρ'} r0 e Q q => ?_, fun {M G σ ρ H c d} r0 e x Q => ?_⟩
  · obtain ⟨⟨items, ρ1⟩, e1, e⟩ := R.bind_eq_ok e
    by_cases hno : noOw ρ1 vs = true
    · simp only [hno, if_true] at e
      obtain ⟨⟨out', ρ2⟩, e2, e⟩ := map_ok (noExc_ok e)
      cases e
      exact comp_core hsl (fun R k => i2.ok r0 e1 _ k) hno e2 q
    · simp only [hno] at e
      cases e
  · rcases R.bind_eq_exc e with e | ⟨⟨items, ρ1⟩, e1, e⟩
    · exact i2.exc r0 e x _
    · simp only at e
      split at e
      · exact (noExc_exc e).elim
      · cases e
section
variable {elt iter : Expr} {ifs : List Expr} {scope : Scope} {own : List (Str × Nat)} {fi : Av} {ft : Gv} {tt : Tv} {fe : Ev} {sl : List Nat}
/-- [elt for tg in iter if ..] -/
theorem fd_comp (own : List (Str × Nat)) (hN : X.N.Nodup) (hi : ID X K W tg iter fi) (hg : ∀ (s : Shared) (H : Hp) (C : Addr) (cl : List (Str × Addr)) (fp : List Addr), GD (X.blk s H scope (compEnvC scope cl C X.env) fp) K sl tg ft)
    (ht : ∀ (s : Shared) (H : Hp) (C : Addr) (cl : List (Str × Addr)) (fp : List Addr), FsD (X.blk s H scope (compEnvC scope cl C X.env) fp) K wF ifs tt) (he : ∀ (s : Shared) (H : Hp) (C : Addr) (cl : List (Str × Addr)) (fp : List Addr), PD (X.blk s H scope (compEnvC scope cl C X.env) fp) K wF elt fe)
    (ok : blkC X.N X.env.scope scope own = true) (hsl : ∀ j ∈ sl, j ∈ own.map (·.2) := by decide) (hc : X.calm = true := by rfl) (hs : ∀ x, foldedSetIterable iter X.env x = pure x := by intro _; rfl) : PDF X K W (.ListComp elt [⟨tg, iter, ifs, 0⟩] scope pos) (cComp (own.map (·.2)) fi ft tt fe) := by
  obtain ⟨w, i1, i2⟩ := hi
  exact ⟨_, pe_lc hc hN i1 (blkOk_by ok) (fun s H C cl fp => (hg s H C cl fp).canon) (fun s H C cl fp => (ht s H C cl fp).canon) (fun s H C cl fp => (he s H C cl fp).canon) hs, den_comp i2 hsl⟩
/-- y = [..], y a local, as an own list -/
theorem sd_setLcO (i : Nat) {y : Str} {py spos : Pos} (own : List (Str × Nat)) (hN : X.N.Nodup) (hi : ID X K W tg iter fi) (hg : ∀ (s : Shared) (H : Hp) (C : Addr) (cl : List (Str × Addr)) (fp : List Addr), GD (X.blk s H scope (compEnvC scope cl C X.env) fp) K sl tg ft)
    (ht : ∀ (s : Shared) (H : Hp) (C : Addr) (cl : List (Str × Addr)) (fp : List Addr), FsD (X.blk s H scope (compEnvC scope cl C X.env) fp) K wF ifs tt) (he : ∀ (s : Shared) (H : Hp) (C : Addr) (cl : List (Str × Addr)) (fp : List Addr), PD (X.blk s H scope (compEnvC scope cl C X.env) fp) K wF elt fe)
    (ok : blkC X.N X.env.scope scope own = true) (hsw : swapsWith (.ListComp elt [⟨tg, iter, ifs, 0⟩] scope pos) (some (.Name y py)) spos.line X.env = pure true) (hy : X.N[i]? = some y := by rfl) (hyl : X.env.scope.names.lookup y = some .local := by rfl)
    (hsl : ∀ j ∈ sl, j ∈ own.map (·.2) := by decide) (hc : X.calm = true := by rfl) (hs : ∀ x, foldedSetIterable iter X.env x = pure x := by intro _; rfl) : SD X K W (.Assign [.Name y py] (.ListComp elt [⟨tg, iter, ifs, 0⟩] scope pos) spos) (cSetO i (cComp (own.map (·.2)) fi ft tt fe)) := by
  obtain ⟨w, i1, i2⟩ := hi
  exact ⟨_, ps_setLc hc hN hy hyl hsw i1 (blkOk_by ok) (fun s H C cl fp => (hg s H C cl fp).canon) (fun s H C cl fp => (ht s H C cl fp).canon) (fun s H C cl fp => (he s H C cl fp).canon) hs, den_setO (den_comp i2 hsl)⟩
theorem den_setS {te : TE} {i : Nat} (h2 : DenF K W te fs) : DenS K W (tAsg te (gName i)) (cAsg (cL fs) (gN i)) := by
  have h3 := h2.den
  refine ⟨fun {M G σ ρ H fl ρ'} r0 e Dn q => ?_, fun {M G σ ρ H c d} r0 e x Dn => ?_⟩
  · obtain ⟨⟨d, ρ1⟩, e1, e⟩ := R.bind_eq_ok e
    obtain ⟨ρ2, e2, e⟩ := map_ok e
    cases e
    exact h3.ok r0 e1 _ fun v H1 A r1 => q _ _ (A.trans (after_sh A.rel r1 e2))
  · rcases R.bind_eq_exc e with e | ⟨⟨d, ρ1⟩, e1, e⟩
    · exact h3.exc r0 e (x _) _
    · exact (putSh_exc (map_exc e)).elim
/-- .. as shared data -/
theorem sd_setLc (i : Nat) {y : Str} {py spos : Pos} (own : List (Str × Nat)) (hN : X.N.Nodup) (hi : ID X K W tg iter fi) (hg : ∀ (s : Shared) (H : Hp) (C : Addr) (cl : List (Str × Addr)) (fp : List Addr), GD (X.blk s H scope (compEnvC scope cl C X.env) fp) K sl tg ft)
    (ht : ∀ (s : Shared) (H : Hp) (C : Addr) (cl : List (Str × Addr)) (fp : List Addr), FsD (X.blk s H scope (compEnvC scope cl C X.env) fp) K wF ifs tt) (he : ∀ (s : Shared) (H : Hp) (C : Addr) (cl : List (Str × Addr)) (fp : List Addr), PD (X.blk s H scope (compEnvC scope cl C X.env) fp) K wF elt fe)
    (ok : blkC X.N X.env.scope scope own = true) (hsw : swapsWith (.ListComp elt [⟨tg, iter, ifs, 0⟩] scope pos) (some (.Name y py)) spos.line X.env = pure true) (hy : X.N[i]? = some y := by rfl) (hyl : X.env.scope.names.lookup y = some .local := by rfl)
    (hsl : ∀ j ∈ sl, j ∈ own.map (·.2) := by decide) (hc : X.calm = true := by rfl) (hs : ∀ x, foldedSetIterable iter X.env x = pure x := by intro _; rfl) : SD X K W (.Assign [.Name y py] (.ListComp elt [⟨tg, iter, ifs, 0⟩] scope pos) spos) (cAsg (cL (cComp (own.map (·.2)) fi ft tt fe)) (gN i)) := by
  obtain ⟨w, i1, i2⟩ := hi
  exact ⟨_, ps_setLc hc hN hy hyl hsw i1 (blkOk_by ok) (fun s H C cl fp => (hg s H C cl fp).canon) (fun s H C cl fp => (ht s H C cl fp).canon) (fun s H C cl fp => (he s H C cl fp).canon) hs, den_setS (den_comp i2 hsl)⟩
end
end
end PyD

set_option Elab.async false
set_option linter.all false
set_option maxRecDepth 100000
namespace PyD
open PySem PySem.Spec L2
open PyProof.Rows hiding St
section
variable {K : KX} {M : Addr → Prop} {G : Hp} {σ : St} {ρ : Rho} {H H' : Hp} {i : Nat} {c : Cell} {d d' : D}
/-- an own root is changed by whoever was lent it -/
theorem Rel.write' {p : Addr} (r : Rel K M G σ ρ H) (h : ρ[i]? = some c) (hc : c = .ow d ∨ c = .rf d) (hp : σ[i]? = some (some (.ref p))) (hs : ∀ a o, a ≠ p → H a = some o → H' a = some o) (ho : Own K (cut (fun a => M a ∨ Ows σ ρ a) H') H' p d') :
    After K M σ ρ H M G σ (ρ.set i (sameKind c d')) H' := by
  have how : IsOw ρ i d := by rcases hc with z | z <;> subst z; exact .inl h; exact .inr h
  have hop : Ows σ ρ p := ⟨i, d, how, hp⟩
  have kk : sameKind c d' = .ow d' ∨ sameKind c d' = .rf d' := by rcases hc with z | z <;> subst z <;> simp [sameKind]
  have k1 : ∀ j e, IsOw (ρ.set i (sameKind c d')) j e → ∃ e', IsOw ρ j e' := fun j e q => by
    by_cases hj : j = i
    · subst hj; exact ⟨d, how⟩
    · exact ⟨e, (isOw_ne hj).mp q⟩
  have o1 : ∀ a, Ows σ (ρ.set i (sameKind c d')) a → Ows σ ρ a := fun a ⟨j, e, h1, h2⟩ => by
    obtain ⟨e', q⟩ := k1 j e h1
    exact ⟨j, e', q, h2⟩
  have o2 : Same (cut (fun a => M a ∨ Ows σ ρ a) H') (hv M σ (ρ.set i (sameKind c d')) H') := cut_mono fun a o z e => ⟨fun q => z (q.imp id (o1 a)), e⟩
  have ki : ∀ e, IsOw (ρ.set i (sameKind c d')) i e → e = d' := fun e q => by
    unfold IsOw at q
    rw [set_eq h] at q
    rcases kk with z | z <;> rw [z] at q <;> rcases q with q | q <;> cases q <;> rfl
  have s : Same (hv M σ ρ H) (hv M σ (ρ.set i (sameKind c d')) H') := cut_mono fun a o z e => by
    have ne : a ≠ p := fun q => z (.inr (q ▸ hop))
    exact ⟨fun q => z (q.imp id (o1 a)), hs a o ne e⟩
  refine ⟨⟨by simpa using r.len, fun j e q => ?_, fun j e q => ?_, fun j k e f b q1 q2 q3 q4 => ?_, fun a z => r.dis a (o1 a z), r.mdom, fun a o e => ?_⟩, s, fun j e q => ⟨rfl, ?_⟩, by simp⟩
  · by_cases hj : j = i
    · subst hj
      rw [set_eq h] at q
      rcases kk with z | z <;> rw [z] at q <;> cases q
    · rw [set_ne hj] at q
      obtain ⟨u, h1, h2⟩ := r.sh j e q
      exact ⟨u, h1, h2.keep s⟩
  · by_cases hj : j = i
    · subst hj
      rw [ki e q]
      exact ⟨p, hp, ho.keep o2 rfl⟩
    · have q' := (isOw_ne hj).mp q
      obtain ⟨b, h1, h2⟩ := r.ow j e q'
      have hb : b ≠ p := fun z => hj (r.inj j i e d b q' how h1 (by rw [z]; exact hp))
      refine ⟨b, h1, ?_⟩
      cases h2 with
      | lst a ra => exact .lst (hs b _ hb a) (ra.keep s)
  · obtain ⟨e', z1⟩ := k1 j e q1
    obtain ⟨f', z2⟩ := k1 k f q2
    exact r.inj j k e' f' b z1 z2 q3 q4
  · have ne : a ≠ p := fun z => by
      have := (r.dis p hop).1
      rw [← z, e] at this
      cases this
    exact hs a o ne (r.same a o e)
  · by_cases hj : j = i
    · subst hj
      rw [h] at q
      cases q
      exact ⟨d', by rw [set_eq h]; rfl⟩
    · exact ⟨e, by rw [set_ne hj]; exact q⟩
theorem ows_shs {vs : List V} {ds : List D} (a : Addr) : ¬ Ows (vs.map some) (shs ds) a := fun ⟨j, e, h, _⟩ => by
  unfold shs at h
  rw [List.getElem?_map] at h
  cases q : ds[j]? <;> rw [q] at h <;> rcases h with h | h <;> cases h
/-- what the caller protects in a call -/
def Mc (M : Addr → Prop) (σ : St) (ρ : Rho) : Addr → Prop := fun a => M a ∨ Ows σ ρ a
theorem hv_shs {vs : List V} {ds : List D} : hv (Mc M σ ρ) (vs.map some) (shs ds) H = hv M σ ρ H := by
  unfold hv
  congr 1
  funext a
  exact propext ⟨fun z => z.elim id fun z => (ows_shs a z).elim, .inl⟩
theorem Mc_dom (r : Rel K M G σ ρ H) (a : Addr) (h : Mc M σ ρ a) : H a ≠ none := by
  rcases h with h | ⟨j, e, h1, h2⟩
  · intro z
    exact r.mdom a h (r.same.free z)
  · obtain ⟨p, h3, h4⟩ := r.ow j e h1
    rw [h2] at h3
    cases h3
    exact h4.dom
theorem rel_args {vs : List V} {ds : List D} (r : Rel K M G σ ρ H) (ra : RpAll K (hv M σ ρ H) vs ds) : Rel K (Mc M σ ρ) H (vs.map some) (shs ds) H := by
  refine ⟨by unfold shs; simp [ra.length], fun j e h => ?_, fun j e h => ?_, fun j k e f p h => ?_, fun a h => (ows_shs a h).elim, Mc_dom r, Same.refl _⟩
  · unfold shs at h
    rw [List.getElem?_map] at h
    cases q : ds[j]? with
    | none => rw [q] at h; cases h
    | some z =>
      rw [q] at h
      cases h
      obtain ⟨v, h1, h2⟩ := ra.get q
      exact ⟨v, by rw [List.getElem?_map, h1]; rfl, by rw [hv_shs]; exact h2⟩
  · unfold shs at h
    rw [List.getElem?_map] at h
    cases q : ds[j]? <;> rw [q] at h <;> rcases h with h | h <;> cases h
  · unfold IsOw shs at h
    rw [List.getElem?_map] at h
    cases q : ds[j]? <;> rw [q] at h <;> rcases h with h | h <;> cases h
theorem shs_ok (ds : List D) : (shs ds).all okArg = true := by
  unfold shs
  rw [List.all_map]
  exact List.all_eq_true.mpr fun _ _ => rfl
theorem shs_isSh (ds : List D) : (shs ds).all isSh = true := by
  unfold shs
  rw [List.all_map]
  exact List.all_eq_true.mpr fun _ _ => rfl
end
section
variable {X : Cx} {K : KX} {W : WX} {pos p : Pos} {e : Expr} {es : List Expr} {fs : Av} {k n : Nat} {f : Addr} {fd : FuncData} {ps : List Str} {x : Str}
/-! ### calls of defs -/
def cCall (n : Nat) (F : Ev) (fs : Av) : Ev := fun ρ => (fs ρ).bind fun x => if x.1.length = n then (F (shs x.1)).bind fun y => .ok (y.1, x.2) else .bad
theorem den_call {n : Nat} {F : Ev} {t : TA} (h2 : DenA K W t fs) : Den K W (tCallSD (spD K n F) [] (WE W) t) (cCall n F fs) := by
  refine ⟨fun {M G σ ρ H d ρ'} r0 e Q q => ?_, fun {M G σ ρ H c d} r0 e x Q => ?_⟩
  · obtain ⟨⟨ds, ρ1⟩, e1, e⟩ := R.bind_eq_ok e
    by_cases hn : ds.length = n
    · simp only [hn, if_true] at e
      obtain ⟨⟨z, as'⟩, e2, e⟩ := R.bind_eq_ok e
      cases e
      refine h2.ok r0 e1 _ fun vs H1 A ra => ?_
      rw [List.append_nil]
      refine ⟨by rw [ra.length]; exact hn, _, _, shs ds, shs_ok ds, rel_args A.rel ra, ?_⟩
      rw [e2]
      intro v H' B rv
      have C := After.grow A.rel B.rel.same
      exact q v H' (A.trans C) (rv.keep (cut_mono fun a o m h => ⟨fun z => m (.inl z), h⟩))
    · simp only [hn, if_false] at e; cases e
  · rcases R.bind_eq_exc e with e | ⟨⟨ds, ρ1⟩, e1, e⟩
    · exact h2.exc r0 e x _
    · by_cases hn : ds.length = n
      · simp only [hn, if_true] at e
        rcases R.bind_eq_exc e with e | ⟨y, _, e⟩
        · refine h2.ok r0 e1 _ fun vs H1 A ra => ?_
          rw [List.append_nil]
          refine ⟨by rw [ra.length]; exact hn, _, _, shs ds, shs_ok ds, rel_args A.rel ra, ?_⟩
          rw [e]
          refine ⟨shs_isSh ds, fun dx v H' s g hd rv => x dx v H' (A.rel.same.trans s) (A.rel.same.free g) hd (rv.keep (cut_mono fun a o m h => ⟨fun z => m (.inl z), h⟩))⟩
        · cases e
      · simp only [hn, if_false] at e; cases e
def cCallF (n : Nat) (F : Av) (fs : Av) : Av := fun ρ => (fs ρ).bind fun x => if x.1.length = n then (F (shs x.1)).bind fun y => .ok (y.1, x.2) else .bad
theorem den_callF {n : Nat} {F : Av} {t : TA} (h2 : DenA K W t fs) : DenF K W (tCallSD (spF K n F) [] (WE W) t) (cCallF n F fs) := by
  refine ⟨fun {M G σ ρ H d ρ'} r0 e Q q => ?_, fun {M G σ ρ H c d} r0 e x Q => ?_⟩
  · obtain ⟨⟨ds, ρ1⟩, e1, e⟩ := R.bind_eq_ok e
    by_cases hn : ds.length = n
    · simp only [hn, if_true] at e
      obtain ⟨⟨z, as'⟩, e2, e⟩ := R.bind_eq_ok e
      cases e
      refine h2.ok r0 e1 _ fun vs H1 A ra => ?_
      rw [List.append_nil]
      refine ⟨by rw [ra.length]; exact hn, _, _, shs ds, shs_ok ds, rel_args A.rel ra, ?_⟩
      rw [e2]
      intro p xs H' g m B rv
      have P := After.protect (o := .lst xs) A.rel g
      have C := After.grow P.rel B.rel.same
      obtain ⟨g', m', _⟩ := A.rel.fresh g
      refine q p xs H' g' m' ((A.trans P).trans C) (rv.keep (cut_mono fun a o z h => ⟨fun y => z (.inl ?_), h⟩))
      exact y.elim (fun y => y.elim (fun y => .inl (.inl y)) .inr) (fun y => .inl (.inr y))
    · simp only [hn, if_false] at e; cases e
  · rcases R.bind_eq_exc e with e | ⟨⟨ds, ρ1⟩, e1, e⟩
    · exact h2.exc r0 e x _
    · by_cases hn : ds.length = n
      · simp only [hn, if_true] at e
        rcases R.bind_eq_exc e with e | ⟨y, _, e⟩
        · refine h2.ok r0 e1 _ fun vs H1 A ra => ?_
          rw [List.append_nil]
          refine ⟨by rw [ra.length]; exact hn, _, _, shs ds, shs_ok ds, rel_args A.rel ra, ?_⟩
          rw [e]
          refine ⟨shs_isSh ds, fun dx v H' s g hd rv => x dx v H' (A.rel.same.trans s) (A.rel.same.free g) hd (rv.keep (cut_mono fun a o m h => ⟨fun z => m (.inl z), h⟩))⟩
        · cases e
      · simp only [hn, if_false] at e; cases e
theorem pd_call {F : Ev} (FN : FnG X.prog X.w X.K X.mg X.base k f fd ps (spD K n F)) (hr : Room k X.A) (hgd : X.A.guards = some []) (hm : X.mg x = some (.ref f)) (hk : PySem.W.keepIn X.K (.ref f) = true) (hb : Binds X.K fd ps []) (tk : Takes X W) (ha : AD X K W (e :: es) fs) (hg : Gl X x := by rfl)
    (hdb : (x == ("__debug__" : Str)) = false := by decide) (he : starEach (e :: es) X.env = (false, eval e X.env) :: starEach es X.env := by rfl) (hpl : (backTo pos (starEach es X.env)).any (·.1) = false := by rfl) : PD X K W (.Call (.Name x p) (e :: es) [] pos) (cCall n F fs) := by
  obtain ⟨t, h1, h2⟩ := ha
  exact ⟨_, pe_callG FN hr hgd hg hm hk hb .nil tk h1 hdb he hpl, den_call h2⟩
theorem fd_call {F : Av} (FN : FnG X.prog X.w X.K X.mg X.base k f fd ps (spF K n F)) (hr : Room k X.A) (hgd : X.A.guards = some []) (hm : X.mg x = some (.ref f)) (hk : PySem.W.keepIn X.K (.ref f) = true) (hb : Binds X.K fd ps []) (tk : Takes X W) (ha : AD X K W (e :: es) fs) (hg : Gl X x := by rfl)
    (hdb : (x == ("__debug__" : Str)) = false := by decide) (he : starEach (e :: es) X.env = (false, eval e X.env) :: starEach es X.env := by rfl) (hpl : (backTo pos (starEach es X.env)).any (·.1) = false := by rfl) : PDF X K W (.Call (.Name x p) (e :: es) [] pos) (cCallF n F fs) := by
  obtain ⟨t, h1, h2⟩ := ha
  exact ⟨_, pe_callG FN hr hgd hg hm hk hb .nil tk h1 hdb he hpl, den_callF h2⟩
/-! .. whose first argument is an own list that is lent -/
def lent1 (ρ : Rho) (i : Nat) : Option D := match ρ[i]? with
  | some (.ow d) => some d
  | some (.rf d) => some d
  | _ => none
theorem lent1_some {ρ : Rho} {i : Nat} {d : D} (h : lent1 ρ i = some d) : ∃ c, ρ[i]? = some c ∧ (c = .ow d ∨ c = .rf d) := by
  unfold lent1 at h
  split at h
  · cases h; rename_i hc; exact ⟨_, hc, .inl rfl⟩
  · cases h; rename_i hc; exact ⟨_, hc, .inr rfl⟩
  · cases h
def setK (ρ : Rho) (i : Nat) (d : D) : Rho := match ρ[i]? with
  | some c => ρ.set i (sameKind c d)
  | none => ρ
def cCallR (i n : Nat) (F : Ev) (fs : Av) : Ev := fun ρ => match lent1 ρ i with
  | none => .bad
  | some _ => (noExc (fs ρ)).bind fun x => match lent1 x.2 i with
    | none => .bad
    | some c => if x.1.length + 1 = n then match F (.rf c :: shs x.1) with
        | .ok (d, .rf c' :: _) => .ok (d, setK x.2 i c')
        | _ => .bad
      else .bad
theorem rel_argsR {M : Addr → Prop} {G : Hp} {σ : St} {ρ : Rho} {H : Hp} {i : Nat} {c : D} {q : Addr} {vs : List V} {ds : List D} (r : Rel K M G σ ρ H) (hi : IsOw ρ i c) (hq : σ[i]? = some (some (.ref q))) (ra : RpAll K (hv M σ ρ H) vs ds) :
    Rel K (fun a => Mc M σ ρ a ∧ a ≠ q) (cut (fun a => a = q) H) ((V.ref q :: vs).map some) (.rf c :: shs ds) H ∧ ∀ H', hv (fun a => Mc M σ ρ a ∧ a ≠ q) ((V.ref q :: vs).map some) (.rf c :: shs ds) H' = hv M σ ρ H' := by
  have hop : Ows σ ρ q := ⟨i, c, hi, hq⟩
  have ows : ∀ a, Ows ((V.ref q :: vs).map some) (.rf c :: shs ds) a ↔ a = q := fun a => ⟨fun ⟨j, e, h1, h2⟩ => by
    cases j with
    | zero => simp at h2; exact h2.symm
    | succ j =>
      refine (ows_shs (vs := vs) (ds := ds) a ⟨j, e, ?_, ?_⟩).elim
      · simpa using h1
      · simpa using h2, fun h => ⟨0, c, .inr rfl, by rw [h]; rfl⟩⟩
  have hh : ∀ H', hv (fun a => Mc M σ ρ a ∧ a ≠ q) ((V.ref q :: vs).map some) (.rf c :: shs ds) H' = hv M σ ρ H' := fun H' => by
    unfold hv
    congr 1
    funext a
    refine propext ⟨fun z => z.elim (fun z => z.1) fun z => .inr (((ows a).mp z) ▸ hop), fun z => ?_⟩
    by_cases h : a = q
    · exact .inr ((ows a).mpr h)
    · exact .inl ⟨z, h⟩
  refine ⟨⟨by unfold shs; simp [ra.length], fun j e h => ?_, fun j e h => ?_, fun j k e f b h1 h2 h3 h4 => ?_, fun a h => ?_, fun a h => ?_, cut_same _ _⟩, hh⟩
  · cases j with
    | zero => simp at h
    | succ j =>
      have h : (shs ds)[j]? = some (.sh e) := by simpa using h
      unfold shs at h
      rw [List.getElem?_map] at h
      cases z : ds[j]? with
      | none => rw [z] at h; cases h
      | some y =>
        rw [z] at h
        cases h
        obtain ⟨v, h1, h2⟩ := ra.get z
        exact ⟨v, by simp [h1], by rw [hh]; exact h2⟩
  · cases j with
    | zero =>
      have : e = c := by rcases h with h | h <;> simp at h; exact h.symm
      subst this
      obtain ⟨q', h1, h2⟩ := r.ow i e hi
      rw [hq] at h1
      cases h1
      exact ⟨q, rfl, by rw [hh]; exact h2⟩
    | succ j =>
      have h : IsOw (shs ds) j e := by unfold IsOw; simpa using h
      unfold shs IsOw at h
      rw [List.getElem?_map] at h
      cases z : ds[j]? <;> rw [z] at h <;> rcases h with h | h <;> cases h
  · have hz : ∀ (j : Nat) e, IsOw (.rf c :: shs ds) j e → j = 0 := fun j e h => by
      cases j with
      | zero => rfl
      | succ j =>
        have h : IsOw (shs ds) j e := by unfold IsOw at h ⊢; simpa using h
        unfold shs IsOw at h
        rw [List.getElem?_map] at h
        cases z : ds[j]? <;> rw [z] at h <;> rcases h with h | h <;> cases h
    rw [hz j e h1, hz k f h2]
  · have := (ows a).mp h
    exact ⟨cut_in this, fun z => z.2 this⟩
  · rw [cut_out (M := fun a => a = q) h.2]
    exact Mc_dom r a h.1
theorem den_callR {i n : Nat} {F : Ev} {t : TA} (h2 : DenA K W t fs) : Den K W (tCallSD (spD K n F) [] (WE W) (tCons (tVar i) t)) (cCallR i n F fs) := by
  refine ⟨fun {M G σ ρ H d ρ'} r0 e Q q => ?_, fun {M G σ ρ H c d} r0 e x Q => ?_⟩
  · unfold cCallR at e
    cases ho : lent1 ρ i with
    | none => rw [ho] at e; cases e
    | some c0 =>
      rw [ho] at e
      simp only at e
      obtain ⟨⟨ds, ρ1⟩, e1, e⟩ := R.bind_eq_ok e
      have e1 := noExc_ok e1
      obtain ⟨k0, g1, g2⟩ := lent1_some ho
      obtain ⟨p, hp, _⟩ := r0.ow i c0 (g2.imp (fun z => by rw [g1, z]) fun z => by rw [g1, z])
      cases ho1 : lent1 ρ1 i with
      | none => simp only [ho1] at e; cases e
      | some c =>
        simp only [ho1] at e
        by_cases hn : ds.length + 1 = n
        · rw [if_pos hn] at e
          cases eF : F (.rf c :: shs ds) with
          | bad => rw [eF] at e; cases e
          | exc a b => rw [eF] at e; cases e
          | ok y =>
            obtain ⟨z, as'⟩ := y
            rw [eF] at e
            cases as' with
            | nil => cases e
            | cons c' as' =>
              cases c' <;> try (cases e; done)
              rename_i c'
              cases e
              obtain ⟨k1, g3, g4⟩ := lent1_some ho1
              have hi : IsOw ρ1 i c := g4.imp (fun z => by rw [g3, z]) fun z => by rw [g3, z]
              refine ⟨.ref p, hp, h2.ok r0 e1 _ fun vs H1 A ra => ?_⟩
              show spD K n F ((V.ref p :: vs) ++ []) H1 Q (WE W σ)
              rw [List.append_nil]
              obtain ⟨rR, hh⟩ := rel_argsR A.rel hi hp ra
              refine ⟨by simp [ra.length]; exact hn, _, _, .rf c :: shs ds, by simp only [List.all_cons, okArg, shs_ok, Bool.and_self], rR, ?_⟩
              rw [eF]
              intro v H' B rv
              have hs : ∀ a o, a ≠ p → H1 a = some o → H' a = some o := fun a o ne h => B.rel.same a o (cut_mk ne h)
              have ow0 : Own K (hv (fun a => Mc M σ ρ1 a ∧ a ≠ p) ((V.ref p :: vs).map some) (.rf c' :: as') H') H' p c' := by
                obtain ⟨p', h1, h3⟩ := B.rel.ow 0 c' (.inr rfl)
                cases h1
                exact h3
              have vw : Same (hv (fun a => Mc M σ ρ1 a ∧ a ≠ p) ((V.ref p :: vs).map some) (.rf c' :: as') H') (cut (fun a => M a ∨ Ows σ ρ1 a) H') := cut_mono fun a o m h => ⟨fun z => m (by
                by_cases ha : a = p
                · exact .inr ⟨0, c', .inr rfl, by rw [ha]; rfl⟩
                · exact .inl ⟨z, ha⟩), h⟩
              have Z := Rel.write' A.rel g3 g4 hp hs (ow0.keep vw rfl)
              have eK : setK ρ1 i c' = ρ1.set i (sameKind k1 c') := by unfold setK; rw [g3]
              rw [eK] at q
              refine q v H' (A.trans Z) (rv.keep (vw.trans ?_))
              refine cut_mono fun a o m h => ⟨fun z => m (z.imp id fun ⟨j, e, h1, h3⟩ => ?_), h⟩
              by_cases hj : j = i
              · subst hj; exact ⟨j, c, hi, h3⟩
              · exact ⟨j, e, (isOw_ne hj).mp h1, h3⟩
        · rw [if_neg hn] at e; cases e
  · exfalso
    unfold cCallR at e
    split at e
    · cases e
    · rcases R.bind_eq_exc e with e | ⟨⟨ds, ρ1⟩, e1, e⟩
      · exact noExc_exc e
      · simp only at e
        split at e
        · cases e
        · split at e
          · split at e <;> cases e
          · cases e
theorem pd_callR (i : Nat) {g : Str} {pg : Pos} {F : Ev} (FN : FnG X.prog X.w X.K X.mg X.base k f fd ps (spD K n F)) (hr : Room k X.A) (hgd : X.A.guards = some []) (hm : X.mg x = some (.ref f)) (hk : PySem.W.keepIn X.K (.ref f) = true) (hb : Binds X.K fd ps []) (tk : Takes X W) (ha : AD X K W es fs)
    (hN : X.N[i]? = some g := by rfl) (hv' : Vis X.env.scope g := by first | exact Or.inl rfl | exact Or.inr (Or.inl rfl) | exact Or.inr (Or.inr rfl)) (hd : (g == ("__debug__" : Str)) = false := by decide) (hcd : (g == ("__classdict__" : Str)) = false := by decide) (hg : Gl X x := by rfl)
    (hdb : (x == ("__debug__" : Str)) = false := by decide) (he : starEach (.Name g pg :: es) X.env = (false, eval (.Name g pg) X.env) :: starEach es X.env := by rfl) (hpl : (backTo pos (starEach es X.env)).any (·.1) = false := by rfl) : PD X K W (.Call (.Name x p) (.Name g pg :: es) [] pos) (cCallR i n F fs) := by
  obtain ⟨t, h1, h2⟩ := ha
  exact ⟨_, pe_callG FN hr hgd hg hm hk hb .nil tk (pa_cons (pv i hN hv' hd hcd) h1 he) hdb he hpl, den_callR h2⟩
/-! ### an own list leaves its slot -/
theorem Rel.take {M : Addr → Prop} {G : Hp} {σ : St} {ρ : Rho} {H : Hp} {i : Nat} {ds : List D} (r : Rel K M G σ ρ H) (h : ρ[i]? = some (.ow (.lst ds))) : ∃ q xs, σ[i]? = some (some (.ref q)) ∧ G q = none ∧ ¬ M q ∧
    After K M σ ρ H (Mp M q) (upd G q (.lst xs)) σ (ρ.set i .no) H ∧ RpAll K (hv (Mp M q) σ (ρ.set i .no) H) xs ds := by
  obtain ⟨q, hq, o⟩ := r.ow i _ (.inl h)
  cases o with
  | @lst xs _ a ra =>
    obtain ⟨g, m⟩ := r.dis q ⟨i, _, .inl h, hq⟩
    obtain ⟨r0, s0⟩ := r.forget h
    have np : ¬ Ows σ (ρ.set i .no) q := fun ⟨j, e, h1, h2⟩ => by
      by_cases hj : j = i
      · subst hj; exact absurd h1 (not_isOw_no h)
      · exact hj (r.inj j i e _ q ((isOw_ne hj).mp h1) (.inl h) h2 hq)
    have s : Same (hv M σ ρ H) (hv (Mp M q) σ (ρ.set i .no) H) := cut_mono fun b o z e => ⟨fun y => by
      rcases y with (y | y) | y
      · exact z (.inl y)
      · exact z (.inr (y ▸ ⟨i, _, .inl h, hq⟩))
      · exact z (.inr (by
          obtain ⟨j, e', h1, h2⟩ := y
          by_cases hj : j = i
          · subst hj; exact absurd h1 (not_isOw_no h)
          · exact ⟨j, e', (isOw_ne hj).mp h1, h2⟩)), e⟩
    refine ⟨q, xs, hq, g, m, ⟨⟨r0.len, fun j d hj => ?_, fun j d hj => ?_, r0.inj, fun b hb => ?_, fun b hb => ?_, fun b o hb => ?_⟩, s, fun j d hj => keep_set h rfl j d hj, by simp⟩, ra.keep s⟩
    · by_cases e : j = i
      · subst e; rw [set_eq h] at hj; cases hj
      · rw [set_ne e] at hj
        obtain ⟨v, h1, h2⟩ := r.sh j d hj
        exact ⟨v, h1, h2.keep s⟩
    · by_cases e : j = i
      · subst e; exact absurd hj (not_isOw_no h)
      · obtain ⟨b, h1, h2⟩ := r.ow j d ((isOw_ne e).mp hj)
        exact ⟨b, h1, h2.keep s rfl⟩
    · obtain ⟨h1, h2⟩ := r0.dis b hb
      have ne : b ≠ q := fun z => np (z ▸ hb)
      exact ⟨by rw [upd_ne ne]; exact h1, fun z => z.elim h2 ne⟩
    · by_cases e : b = q
      · rw [e, upd_same]; exact fun z => by cases z
      · rw [upd_ne e]; exact r.mdom b (hb.elim id fun z => absurd z e)
    · by_cases e : b = q
      · subst e; rw [upd_same] at hb; cases hb; exact a
      · rw [upd_ne e] at hb; exact r.same b o hb
def cM (i : Nat) : Av := fun ρ => match ρ[i]? with
  | some (.ow (.lst ds)) => .ok (ds, ρ.set i .no)
  | _ => .bad
theorem fd_move (i : Nat) {x : Str} (hN : X.N[i]? = some x := by rfl) (hv : Vis X.env.scope x := by first | exact Or.inl rfl | exact Or.inr (Or.inl rfl) | exact Or.inr (Or.inr rfl)) (hd : (x == ("__debug__" : Str)) = false := by decide)
    (hcd : (x == ("__classdict__" : Str)) = false := by decide) : PDF X K W (.Name x pos) (cM i) := by
  refine ⟨_, pv i hN hv hd hcd, fun {M G σ ρ H d ρ'} r0 e Q q => ?_, fun {M G σ ρ H c d} r0 e x Q => ?_⟩
  · unfold cM at e
    split at e
    · rename_i ds h
      cases e
      obtain ⟨b, xs, h1, h2, h3, h4, h5⟩ := r0.take h
      exact ⟨_, h1, q b xs H h2 h3 h4 h5⟩
    · cases e
  · unfold cM at e
    split at e <;> cases e
end
end PyD

set_option Elab.async false
set_option linter.all false
set_option maxRecDepth 100000
namespace PyD
open PySem PySem.Spec L2
open PyProof.Rows hiding St
section
variable {X : Cx} {K : KX} {W : WX} {pos : Pos} {a b e e2 : Expr} {fa fb fo : Ev} {es : List Expr} {fs : Av}
/-! ### chains of comparisons -/
/-- what stands behind a chain's first value: reading, as a value and as a test -/
structure ChJ (X : Cx) (ops : List CmpOp) (es : List Expr) (t : V → TE) : Prop where
  val : ∀ (cp : Pos) (pins : List (Addr × Obj)) (s : Shared) (σ : L2.St) (H : Hp) (v : V) (u : Value) (Q : VK), Inv X pins σ H s → RelV v u → t v σ H Q → wpAny (model X.prog X.w) X.A (compareChain cp u ops (evalEach es X.env)) (EP X pins σ Q) X.xe s
  tst : ∀ (cp : Pos) (pins : List (Addr × Obj)) (s : Shared) (σ : L2.St) (H : Hp) (v : V) (u : Value) (Q : Bool → Hp → Prop), Inv X pins σ H s → RelV v u → t v σ H (fun x H' => ∃ b, x = .bl b ∧ Q b H') → wpAny (model X.prog X.w) X.A (testChain cp u ops (evalEach es X.env)) (TP X pins σ Q) X.xe s
def tChL (r : R2) (tb : TE) : V → TE := fun x σ H Q => tb σ H fun y H1 => r x y H1 fun z H2 => ∃ c, z = .bl c ∧ Q z H2
def tChK (r : R2) (tb : TE) (rest : V → TE) : V → TE := fun x σ H Q => tb σ H fun y H1 => r x y H1 fun z H2 => ∃ c, z = .bl c ∧ if c = true then rest y σ H2 Q else Q (.bl false) H2
theorem chj_last {op : CmpOp} {r : R2} {tb : TE} (ho : OpR X (compareOp op) r) (hb : PE X b tb) : ChJ X [op] [b] (tChL r tb) := by
  refine ⟨fun cp pins s σ H v u Q I rv h => ?_, fun cp pins s σ H v u Q I rv h => ?_⟩
  · exact chain_last (thn (hb.run pins s σ H _ I h) fun u2 s2 ⟨y, H2, I2, r2, q⟩ => thn (ho pins s2 σ H2 v y u u2 _ I2 rv r2 q) fun _ _ ⟨z, H3, I3, r3, c, hc, q3⟩ => ⟨z, H3, I3, r3, q3⟩)
  · refine test_last (thn (hb.run pins s σ H _ I h) fun u2 s2 ⟨y, H2, I2, r2, q⟩ => thn (ho pins s2 σ H2 v y u u2 _ I2 rv r2 q) fun u3 s3 ⟨z, H3, I3, r3, c, hc, b', hb', q3⟩ => ?_)
    subst hb'
    cases r3
    exact wpAny_truthy_bool ⟨H3, I3, q3⟩
theorem chj_link {op op' : CmpOp} {ops : List CmpOp} {r : R2} {tb : TE} {t : V → TE} (ho : OpR X (compareOp op) r) (hb : PE X b tb) (hr : ChJ X (op' :: ops) (e :: es) t) : ChJ X (op :: op' :: ops) (b :: e :: es) (tChK r tb t) := by
  refine ⟨fun cp pins s σ H v u Q I rv h => ?_, fun cp pins s σ H v u Q I rv h => ?_⟩
  · refine chain_link (thn (hb.run pins s σ H _ I h) fun u2 s2 ⟨y, H2, I2, r2, q⟩ => thn (ho pins s2 σ H2 v y u u2 _ I2 rv r2 q) fun u3 s3 ⟨z, H3, I3, r3, c, hc, q3⟩ => ?_)
    subst hc
    cases r3
    refine wpAny_truthy_bool ?_
    cases c with
    | true => exact hr.val cp pins s3 σ H3 y u2 Q I3 r2 q3
    | false => exact ⟨.bl false, H3, I3, rfl, q3⟩
  · refine test_link (thn (hb.run pins s σ H _ I h) fun u2 s2 ⟨y, H2, I2, r2, q⟩ => thn (ho pins s2 σ H2 v y u u2 _ I2 rv r2 q) fun u3 s3 ⟨z, H3, I3, r3, c, hc, q3⟩ => ?_)
    subst hc
    cases r3
    refine wpAny_truthy_bool ?_
    cases c with
    | true => exact hr.tst cp pins s3 σ H3 y u2 Q I3 r2 q3
    | false =>
      obtain ⟨b', hb', q4⟩ := q3
      cases hb'
      exact ⟨H3, I3, q4⟩
/-- .. on data -/
abbrev Chv := D → Ev
structure DenCh (K : KX) (W : WX) (t : V → TE) (f : Chv) : Prop where
  ok : ∀ {M G σ ρ H x dx d ρ'}, Rel K M G σ ρ H → Rp K (hv M σ ρ H) x dx → f dx ρ = .ok (d, ρ') → ∀ Q : VK, (∀ v H', After K M σ ρ H M G σ ρ' H' → Rp K (hv M σ ρ' H') v d → (∃ c, v = .bl c) → Q v H') → t x σ H Q
  exc : ∀ {M G σ ρ H x dx c d}, Rel K M G σ ρ H → Rp K (hv M σ ρ H) x dx → f dx ρ = .exc c d → ExcPost K W M G σ c d → ∀ Q : VK, t x σ H Q
def ChD (X : Cx) (K : KX) (W : WX) (ops : List CmpOp) (es : List Expr) (f : Chv) : Prop := ∃ t, ChJ X ops es t ∧ DenCh K W t f
def chL (g : D → D → Option D) (fb : Ev) : Chv := fun x ρ => (fb ρ).bind fun y => (R.ofOpt ((g x y.1).bind asB)).map fun z => (.bl z, y.2)
def chK (g : D → D → Option D) (fb : Ev) (r : Chv) : Chv := fun x ρ => (fb ρ).bind fun y => (R.ofOpt ((g x y.1).bind asB)).bind fun z => if z = true then r y.1 y.2 else .ok (.bl false, y.2)
theorem asB_some {o : Option D} {z : Bool} (h : o.bind asB = some z) : o = some (.bl z) := by
  cases o with
  | none => cases h
  | some d => cases d <;> simp [asB] at h; rw [h]
theorem ch_last {op : CmpOp} {g : D → D → Option D} (hc : Cmp X K op g) (hb : PD X K W b fb) : ChD X K W [op] [b] (chL g fb) := by
  obtain ⟨r, h1, h2⟩ := hc.ex
  obtain ⟨tb, b1, b2⟩ := hb
  refine ⟨_, chj_last h1 b1, fun {M G σ ρ H x dx d ρ'} r0 rx e Q q => ?_, fun {M G σ ρ H x dx c d} r0 rx e xp Q => ?_⟩
  · obtain ⟨⟨y, ρ1⟩, e1, e⟩ := R.bind_eq_ok e
    obtain ⟨z, e2, e⟩ := map_ok e
    cases e
    have e2 := asB_some (R.ofOpt_eq_ok e2)
    refine b2.ok r0 e1 _ fun v H1 A r1 => ?_
    obtain ⟨w, h3, h4⟩ := h2 ((rx.keep A.same).keep (cut_same _ _)) (r1.keep (cut_same _ _)) e2
    have hw := rp_bl (h3 H1)
    subst hw
    exact h4 _ ⟨_, rfl, q _ H1 A (.bl _) ⟨_, rfl⟩⟩
  · rcases R.bind_eq_exc e with e | ⟨⟨z, ρ1⟩, e1, e⟩
    · exact b2.exc r0 e xp _
    · exact (R.ofOpt_ne_exc (map_exc e)).elim
theorem ch_link {op op' : CmpOp} {ops : List CmpOp} {g : D → D → Option D} {r : Chv} (hc : Cmp X K op g) (hb : PD X K W b fb) (hr : ChD X K W (op' :: ops) (e :: es) r) : ChD X K W (op :: op' :: ops) (b :: e :: es) (chK g fb r) := by
  obtain ⟨rr, h1, h2⟩ := hc.ex
  obtain ⟨tb, b1, b2⟩ := hb
  obtain ⟨t, t1, t2⟩ := hr
  refine ⟨_, chj_link h1 b1 t1, fun {M G σ ρ H x dx d ρ'} r0 rx e Q q => ?_, fun {M G σ ρ H x dx c d} r0 rx e xp Q => ?_⟩
  · obtain ⟨⟨y, ρ1⟩, e1, e⟩ := R.bind_eq_ok e
    obtain ⟨z, e2, e⟩ := R.bind_eq_ok e
    have e2 := asB_some (R.ofOpt_eq_ok e2)
    refine b2.ok r0 e1 _ fun v H1 A r1 => ?_
    obtain ⟨w, h3, h4⟩ := h2 ((rx.keep A.same).keep (cut_same _ _)) (r1.keep (cut_same _ _)) e2
    have hw := rp_bl (h3 H1)
    subst hw
    refine h4 _ ⟨_, rfl, ?_⟩
    cases z with
    | true => exact t2.ok A.rel r1 e Q fun v' H' B rv hb' => q v' H' (A.trans B) rv hb'
    | false =>
      cases e
      exact q _ H1 A (.bl _) ⟨_, rfl⟩
  · rcases R.bind_eq_exc e with e | ⟨⟨y, ρ1⟩, e1, e⟩
    · exact b2.exc r0 e xp _
    · rcases R.bind_eq_exc e with e | ⟨z, e2, e⟩
      · exact (R.ofOpt_ne_exc e).elim
      · have e2 := asB_some (R.ofOpt_eq_ok e2)
        refine b2.ok r0 e1 _ fun v H1 A r1 => ?_
        obtain ⟨w, h3, h4⟩ := h2 ((rx.keep A.same).keep (cut_same _ _)) (r1.keep (cut_same _ _)) e2
        have hw := rp_bl (h3 H1)
        subst hw
        refine h4 _ ⟨_, rfl, ?_⟩
        cases z with
        | true => exact t2.exc A.rel r1 e xp Q
        | false => cases e
def cCh (fa : Ev) (r : Chv) : Ev := fun ρ => (fa ρ).bind fun x => r x.1 x.2
def tCh (ta : TE) (t : V → TE) : TE := fun σ H Q => ta σ H fun x H1 => t x σ H1 Q
theorem den_ch {ta : TE} {t : V → TE} {r : Chv} (ha : Den K W ta fa) (hr : DenCh K W t r) : Den K W (tCh ta t) (cCh fa r) := by
  refine ⟨fun {M G σ ρ H d ρ'} r0 e Q q => ?_, fun {M G σ ρ H c d} r0 e x Q => ?_⟩
  · obtain ⟨⟨y, ρ1⟩, e1, e⟩ := R.bind_eq_ok e
    exact ha.ok r0 e1 _ fun v H1 A r1 => hr.ok A.rel r1 e Q fun v' H' B rv _ => q v' H' (A.trans B) rv
  · rcases R.bind_eq_exc e with e | ⟨⟨y, ρ1⟩, e1, e⟩
    · exact ha.exc r0 e x _
    · exact ha.ok r0 e1 _ fun v H1 A r1 => hr.exc A.rel r1 e x Q
theorem den_chT {ta : TE} {t : V → TE} {r : Chv} (ha : Den K W ta fa) (hr : DenCh K W t r) : DenT K W (fun σ H Q => tCh ta t σ H fun x H' => ∃ b, x = .bl b ∧ Q b H') (tOf (cCh fa r)) := by
  refine ⟨fun {M G σ ρ H d ρ'} r0 e Q q => ?_, fun {M G σ ρ H c d} r0 e x Q => ?_⟩
  · obtain ⟨⟨y, ρ1⟩, e1, e⟩ := R.bind_eq_ok e
    obtain ⟨z, e2, e⟩ := map_ok e
    cases e
    have e2 := R.ofOpt_eq_ok e2
    refine (den_ch ha hr).ok r0 e1 _ fun v H1 A r1 => ?_
    cases y <;> simp [asB] at e2
    subst e2
    exact ⟨_, rp_bl r1, q H1 A⟩
  · rcases R.bind_eq_exc e with e | ⟨⟨y, ρ1⟩, e1, e⟩
    · exact (den_ch ha hr).exc r0 e x _
    · exact (R.ofOpt_ne_exc (map_exc e)).elim
theorem pd_ch {op₁ op₂ : CmpOp} {ops : List CmpOp} {r₁ r₂ : Expr} {rs : List Expr} {r : Chv} (ha : PD X K W a fa) (hr : ChD X K W (op₁ :: op₂ :: ops) (r₁ :: r₂ :: rs) r) (hm : lastMarks (op₁ :: op₂ :: ops) (r₁ :: r₂ :: rs) = false := by with_unfolding_all rfl) :
    PD X K W (.Compare a (op₁ :: op₂ :: ops) (r₁ :: r₂ :: rs) pos) (cCh fa r) := by
  obtain ⟨ta, a1, a2⟩ := ha
  obtain ⟨t, t1, t2⟩ := hr
  exact ⟨_, ⟨fun pins s σ H Q I h => Compare_chain (thn (a1.run pins s σ H _ I h) fun u s1 ⟨v, H1, I1, r1, q⟩ => t1.val pos pins s1 σ H1 v u Q I1 r1 q) hm⟩, den_ch a2 t2⟩
theorem td_ch {op₁ op₂ : CmpOp} {ops : List CmpOp} {r₁ r₂ : Expr} {rs : List Expr} {r : Chv} (ha : PD X K W a fa) (hr : ChD X K W (op₁ :: op₂ :: ops) (r₁ :: r₂ :: rs) r) (hm : lastMarks (op₁ :: op₂ :: ops) (r₁ :: r₂ :: rs) = false := by with_unfolding_all rfl) :
    TD X K W (.Compare a (op₁ :: op₂ :: ops) (r₁ :: r₂ :: rs) pos) (tOf (cCh fa r)) := by
  obtain ⟨ta, a1, a2⟩ := ha
  obtain ⟨t, t1, t2⟩ := hr
  exact ⟨_, ⟨fun pins s σ H Q I h => isTrue_chain (thn (a1.run pins s σ H _ I h) fun u s1 ⟨v, H1, I1, r1, q⟩ => t1.tst pos pins s1 σ H1 v u Q I1 r1 q) hm⟩, den_chT a2 t2⟩
/-! ### starred items -/
def cStar (f : Ev) (g : Av) : Av := fun ρ => (f ρ).bind fun x => match itemsD x.1 with
  | some ds => (g x.2).map fun y => (ds ++ y.1, y.2)
  | none => .bad
theorem ad_star {p : Pos} (ha : PDP X K W e fa) (hs : AD X K W es fs) (hK : X.K = K.K := by rfl) (hst : starEach (.Starred e p :: es) X.env = (true, eval e X.env) :: starEach es X.env := by rfl) : AD X K W (.Starred e p :: es) (cStar fa fs) := by
  obtain ⟨t, h1, h2⟩ := ha
  obtain ⟨u, h3, h4⟩ := hs
  have key : ∀ {M : Addr → Prop} {G : Hp} {σ : L2.St} {ρ1 : Rho} {H1 : Hp} {v : V} {z : D} {ds : List D}, Rel K M G σ ρ1 H1 → RpP K M σ ρ1 H1 v z → itemsD z = some ds → ∃ p xs, v = V.ref p ∧ (SqT X.K H1 p xs ∨ SqL X.K H1 p xs) ∧ RpAll K (hv M σ ρ1 H1) xs ds := fun {M G σ ρ1 H1 v z ds} r0 r1 hd => by
    cases z <;> simp only [itemsD] at hd <;> cases hd
    · obtain ⟨p, vs, rfl, a1, a2⟩ := r1.lst r0
      exact ⟨p, vs, rfl, .inr (.inl (.inl a1)), a2⟩
    · have r1 := r1.notL r0 (fun _ z => by cases z)
      cases r1 with
      | @tup p vs _ a1 a2 => exact ⟨p, vs, rfl, .inl (by rw [hK]; exact SqT.keep (cut_same _ _) a1), a2⟩
  refine ⟨_, StX.pa_star h1 h3 hst, fun {M G σ ρ H d ρ'} r0 e Q q => ?_, fun {M G σ ρ H c d} r0 e x Q => ?_⟩
  · obtain ⟨⟨z, ρ1⟩, e1, e⟩ := R.bind_eq_ok e
    simp only at e
    split at e
    · rename_i ds hd
      obtain ⟨⟨zs, ρ2⟩, e2, e⟩ := map_ok e
      cases e
      refine h2.ok r0 e1 _ fun v H1 a1 r1 => ?_
      obtain ⟨p, xs, rfl, hsq, ra⟩ := key a1.rel r1 hd
      exact ⟨p, xs, rfl, hsq, h4.ok a1.rel e2 _ fun vs H2 a2 r2 => q _ _ (a1.trans a2) ((ra.keep a2.same).append r2)⟩
    · cases e
  · rcases R.bind_eq_exc e with e | ⟨⟨z, ρ1⟩, e1, e⟩
    · exact h2.exc r0 e x _
    · simp only at e
      split at e
      · rename_i ds hd
        refine h2.ok r0 e1 _ fun v H1 a1 r1 => ?_
        obtain ⟨p, xs, rfl, hsq, ra⟩ := key a1.rel r1 hd
        exact ⟨p, xs, rfl, hsq, h4.exc a1.rel (map_exc e) x _⟩
      · cases e
end
end PyD

set_option Elab.async false
set_option linter.all false
set_option maxRecDepth 100000
namespace PyD
open PySem PySem.Spec L2
open PyProof.Rows hiding St
section
variable {X : Cx} {K : KX} {W : WX} {pos apos cpos : Pos} {a b e o : Expr} {fa fb fo : Ev} {es : List Expr} {fs : Av} {name : Str} {id : String} {r : V → List V → Hp → VK → Prop}
/-! ### a text's methods -/
def tyStr (x : V) (_ : Hp) : Prop := ∃ a, x = .str a
theorem ty_str : TyOk X "str" tyStr := by
  intro pins σ H s x v I r ty
  obtain ⟨a, rfl⟩ := ty
  obtain ⟨t, rfl⟩ := _root_.id r
  exact ⟨typeIs_str _ _ _, fun _ e => nomatch e⟩
def OpM (K : KX) (r : V → List V → Hp → VK → Prop) (g : Str → List D → Option D) : Prop := ∀ {M : Addr → Prop} {G : Hp} {σ : St} {ρ : Rho} {H : Hp} {x : Str} {vs : List V} {ds : List D} {z : D}, Rel K M G σ ρ H → RpAll K (hv M σ ρ H) vs ds → g x ds = some z →
  ∀ Q : VK, (∀ v H', After K M σ ρ H M G σ ρ H' → Rp K (hv M σ ρ H') v z → Q v H') → r (.str x) vs H Q
def cMt (g : Str → List D → Option D) (fo : Ev) (fs : Av) : Ev := fun ρ => (fo ρ).bind fun x => match x.1 with
  | .str t => (fs x.2).bind fun y => (R.ofOpt (g t y.1)).map fun z => (z, y.2)
  | _ => .bad
theorem den_M {g : Str → List D → Option D} {ta : TE} {t : TA} (hr : OpM K r g) (ha : Den K W ta fo) (hs : DenA K W t fs) : Den K W (tMG tyStr r ta t) (cMt g fo fs) := by
  refine ⟨fun {M G σ ρ H d ρ'} r0 e Q q => ?_, fun {M G σ ρ H c d} r0 e x Q => ?_⟩
  · obtain ⟨⟨z, ρ1⟩, e1, e⟩ := R.bind_eq_ok e
    refine ha.ok r0 e1 _ fun v H1 A1 r1 => ?_
    cases z <;> simp only at e <;> try (cases e; done)
    obtain ⟨⟨ds, ρ2⟩, e2, e⟩ := R.bind_eq_ok e
    obtain ⟨w, e3, e⟩ := map_ok e
    cases e
    rw [rp_str r1]
    exact ⟨⟨_, rfl⟩, hs.ok A1.rel e2 _ fun vs H2 A2 r2 => hr A2.rel r2 (R.ofOpt_eq_ok e3) Q fun v H3 A3 r3 => q v H3 ((A1.trans A2).trans A3) r3⟩
  · rcases R.bind_eq_exc e with e | ⟨⟨z, ρ1⟩, e1, e⟩
    · exact ha.exc r0 e x _
    · refine ha.ok r0 e1 _ fun v H1 A1 r1 => ?_
      cases z <;> simp only at e <;> try (cases e; done)
      rw [rp_str r1]
      refine ⟨⟨_, rfl⟩, ?_⟩
      rcases R.bind_eq_exc e with e | ⟨⟨ds, ρ2⟩, e2, e⟩
      · exact hs.exc A1.rel e x _
      · exact (R.ofOpt_ne_exc (map_exc e)).elim
def OpMF (K : KX) (r : V → List V → Hp → VK → Prop) (g : Str → List D → Option (List D)) : Prop := ∀ {M : Addr → Prop} {G : Hp} {σ : St} {ρ : Rho} {H : Hp} {x : Str} {vs : List V} {ds zs : List D}, Rel K M G σ ρ H → RpAll K (hv M σ ρ H) vs ds → g x ds = some zs →
  ∀ Q : VK, (∀ p xs H', G p = none → ¬ M p → After K M σ ρ H (Mp M p) (upd G p (.lst xs)) σ ρ H' → RpAll K (hv (Mp M p) σ ρ H') xs zs → Q (.ref p) H') → r (.str x) vs H Q
def cMtF (g : Str → List D → Option (List D)) (fo : Ev) (fs : Av) : Av := fun ρ => (fo ρ).bind fun x => match x.1 with
  | .str t => (fs x.2).bind fun y => (R.ofOpt (g t y.1)).map fun z => (z, y.2)
  | _ => .bad
theorem den_MF {g : Str → List D → Option (List D)} {ta : TE} {t : TA} (hr : OpMF K r g) (ha : Den K W ta fo) (hs : DenA K W t fs) : DenF K W (tMG tyStr r ta t) (cMtF g fo fs) := by
  refine ⟨fun {M G σ ρ H d ρ'} r0 e Q q => ?_, fun {M G σ ρ H c d} r0 e x Q => ?_⟩
  · obtain ⟨⟨z, ρ1⟩, e1, e⟩ := R.bind_eq_ok e
    refine ha.ok r0 e1 _ fun v H1 A1 r1 => ?_
    cases z <;> simp only at e <;> try (cases e; done)
    obtain ⟨⟨ds, ρ2⟩, e2, e⟩ := R.bind_eq_ok e
    obtain ⟨w, e3, e⟩ := map_ok e
    cases e
    rw [rp_str r1]
    exact ⟨⟨_, rfl⟩, hs.ok A1.rel e2 _ fun vs H2 A2 r2 => hr A2.rel r2 (R.ofOpt_eq_ok e3) Q fun p xs H3 g m A3 r3 => q p xs H3 g m ((A1.trans A2).trans A3) r3⟩
  · rcases R.bind_eq_exc e with e | ⟨⟨z, ρ1⟩, e1, e⟩
    · exact ha.exc r0 e x _
    · refine ha.ok r0 e1 _ fun v H1 A1 r1 => ?_
      cases z <;> simp only at e <;> try (cases e; done)
      rw [rp_str r1]
      refine ⟨⟨_, rfl⟩, ?_⟩
      rcases R.bind_eq_exc e with e | ⟨⟨ds, ρ2⟩, e2, e⟩
      · exact hs.exc A1.rel e x _
      · exact (R.ofOpt_ne_exc (map_exc e)).elim
theorem pd_M {g : Str → List D → Option D} (slot : Slot "str" name id) (hty : typeOf (.builtin id) = pure (.type "method_descriptor")) (hm : MtR X id r) (hr : OpM K r g) (ho : PD X K W o fo) (ha : AD X K W (e :: es) fs)
    (hbase : attributeBase o name X.env (eval o X.env) = eval o X.env := by rfl)
    (hfew : ((backTo cpos (starEach (e :: es) X.env)).all (fun x => !x.1) && (backToKw cpos (keywordEach [] X.env)).all (fun x => x.1.isSome)
      && decide ((e :: es).length + ([] : List Keyword).length + (if ([] : List Keyword).isEmpty then 0 else 1) < 30)) = true := by rfl)
    (hline : (apos.endLine == cpos.line) = true := by rfl) (hs : starEach (e :: es) X.env = (false, eval e X.env) :: starEach es X.env := by rfl) (hplain : (backTo cpos (starEach es X.env)).any (·.1) = false := by rfl) :
    PD X K W (.Call (.Attribute o name apos) (e :: es) [] cpos) (cMt g fo fs) := by
  obtain ⟨t, h1, h2⟩ := ho
  obtain ⟨u, h3, h4⟩ := ha
  exact ⟨_, pe_mG ty_str F.plainAttrs_str slot hty hm h1 h3 hbase hfew hline hs hplain, den_M hr h2 h4⟩
theorem fd_M {g : Str → List D → Option (List D)} (slot : Slot "str" name id) (hty : typeOf (.builtin id) = pure (.type "method_descriptor")) (hm : MtR X id r) (hr : OpMF K r g) (ho : PD X K W o fo) (ha : AD X K W (e :: es) fs)
    (hbase : attributeBase o name X.env (eval o X.env) = eval o X.env := by rfl)
    (hfew : ((backTo cpos (starEach (e :: es) X.env)).all (fun x => !x.1) && (backToKw cpos (keywordEach [] X.env)).all (fun x => x.1.isSome)
      && decide ((e :: es).length + ([] : List Keyword).length + (if ([] : List Keyword).isEmpty then 0 else 1) < 30)) = true := by rfl)
    (hline : (apos.endLine == cpos.line) = true := by rfl) (hs : starEach (e :: es) X.env = (false, eval e X.env) :: starEach es X.env := by rfl) (hplain : (backTo cpos (starEach es X.env)).any (·.1) = false := by rfl) :
    PDF X K W (.Call (.Attribute o name apos) (e :: es) [] cpos) (cMtF g fo fs) := by
  obtain ⟨t, h1, h2⟩ := ho
  obtain ⟨u, h3, h4⟩ := ha
  exact ⟨_, pe_mG ty_str F.plainAttrs_str slot hty hm h1 h3 hbase hfew hline hs hplain, den_MF hr h2 h4⟩
/-! split, join -/
def gSplit (a : Str) : List D → Option (List D)
  | [.str b] => if b.length ≠ 0 ∧ a.length + 2 ≤ sizeLine then some ((Txt.split a b).map .str) else none
  | _ => none
theorem opm_split : OpMF K (fun x xs H Q => ∃ a b, x = .str a ∧ xs = [.str b] ∧ (b.length == 0) = false ∧ a.length + 2 ≤ sizeLine ∧ rNewStrs (Txt.split a b) H Q) gSplit := by
  intro M G σ ρ H x vs ds zs r0 ra hz Q q
  unfold gSplit at hz
  split at hz
  · rename_i b
    cases ra with
    | cons r1 r2 =>
      cases r2
      rw [rp_str r1]
      split at hz
      · rename_i hc
        cases hz
        refine ⟨_, _, rfl, rfl, by simpa using hc.1, hc.2, fun p n => ?_⟩
        have A := After.protect (o := .lst ((Txt.split x b).map V.str)) r0 n
        obtain ⟨g, m, _⟩ := r0.fresh n
        exact q p _ _ g m A (.of_strs _)
      · cases hz
  · cases hz
theorem fd_split (ho : PD X K W o fo) (ha : AD X K W [e] fs)
    (hbase : attributeBase o "split" X.env (eval o X.env) = eval o X.env := by rfl)
    (hfew : ((backTo cpos (starEach [e] X.env)).all (fun x => !x.1) && (backToKw cpos (keywordEach [] X.env)).all (fun x => x.1.isSome)
      && decide ([e].length + ([] : List Keyword).length + (if ([] : List Keyword).isEmpty then 0 else 1) < 30)) = true := by rfl)
    (hline : (apos.endLine == cpos.line) = true := by rfl) (hs : starEach [e] X.env = (false, eval e X.env) :: starEach [] X.env := by rfl) :
    PDF X K W (.Call (.Attribute o "split" apos) [e] [] cpos) (cMtF gSplit fo fs) := fd_M F.slot_str_split F.type_str_split mt_split opm_split ho ha hbase hfew hline hs rfl
def strsOf : List D → Option (List Str)
  | [] => some []
  | .str i :: ds => (strsOf ds).map (i :: ·)
  | _ => none
theorem strsOf_some : ∀ {ds : List D} {ns : List Str}, strsOf ds = some ns → ds = ns.map .str
  | [], ns, h => by cases h; rfl
  | d :: ds, ns, h => by
    cases d <;> simp only [strsOf] at h <;> try (cases h; done)
    obtain ⟨ms, h1, rfl⟩ := Option.map_eq_some_iff.mp h
    rw [strsOf_some h1]; rfl
@[simp] theorem strsOf_map : ∀ ns : List Str, strsOf (ns.map .str) = some ns
  | [] => rfl
  | n :: ns => by simp [strsOf, strsOf_map ns]
def gJoin (a : Str) : List D → Option D
  | [.lst ds] => (strsOf ds).bind fun ys => if (ys.map (·.length)).sum + ys.length * a.length ≤ 16777216 then some (.str (Txt.join a ys)) else none
  | _ => none
theorem opm_join (hK : X.K = K.K) : OpM K (fun x xs H Q => ∃ a p, ∃ ys : List Str, x = .str a ∧ xs = [.ref p] ∧ (SqL X.K H p (ys.map V.str) ∨ SqT X.K H p (ys.map V.str)) ∧ (ys.map (·.length)).sum + ys.length * a.length ≤ 16777216 ∧ Q (.str (Txt.join a ys)) H) gJoin := by
  intro M G σ ρ H x vs ds z r0 ra hz Q q
  unfold gJoin at hz
  split at hz
  · rename_i ds
    obtain ⟨ys, h1, h2⟩ := Option.bind_eq_some_iff.mp hz
    obtain rfl := strsOf_some h1
    split at h2
    · rename_i hc
      cases h2
      cases ra with
      | cons r1 r2 =>
        cases r2
        cases r1 with
        | lst g1 g2 =>
          rw [g2.strs] at g1
          exact ⟨_, _, ys, rfl, rfl, .inl (.inl (.inl (cut_some g1).2)), hc, q _ H (.refl r0) (.str _)⟩
    · cases h2
  · cases hz
theorem pd_join (ho : PD X K W o fo) (ha : AD X K W [e] fs) (hK : X.K = K.K := by rfl)
    (hbase : attributeBase o "join" X.env (eval o X.env) = eval o X.env := by rfl)
    (hfew : ((backTo cpos (starEach [e] X.env)).all (fun x => !x.1) && (backToKw cpos (keywordEach [] X.env)).all (fun x => x.1.isSome)
      && decide ([e].length + ([] : List Keyword).length + (if ([] : List Keyword).isEmpty then 0 else 1) < 30)) = true := by rfl)
    (hline : (apos.endLine == cpos.line) = true := by rfl) (hs : starEach [e] X.env = (false, eval e X.env) :: starEach [] X.env := by rfl) :
    PD X K W (.Call (.Attribute o "join" apos) [e] [] cpos) (cMt gJoin fo fs) := pd_M F.slot_str_join F.type_str_join mt_join (opm_join hK) ho ha hbase hfew hline hs rfl
def gIndex (a : Str) : List D → Option D
  | [.str b] => match Builtin.Str.occurrences a b 0 a.length 1 with
    | i :: _ => some (.int (i : Nat))
    | [] => none
  | _ => none
theorem opm_index : OpM K (fun x xs H Q => ∃ a b i rest, x = .str a ∧ xs = [.str b] ∧ Builtin.Str.occurrences a b 0 a.length 1 = i :: rest ∧ Q (.int (i : Nat)) H) gIndex := by
  intro M G σ ρ H x vs ds z r0 ra hz Q q
  unfold gIndex at hz
  split at hz
  · rename_i b
    cases ra with
    | cons r1 r2 =>
      cases r2
      rw [rp_str r1]
      split at hz
      · rename_i i rest hc
        cases hz
        exact ⟨_, _, _, _, rfl, rfl, hc, q _ H (.refl r0) (.int _)⟩
      · cases hz
  · cases hz
theorem pd_sindex (ho : PD X K W o fo) (ha : AD X K W [e] fs)
    (hbase : attributeBase o "index" X.env (eval o X.env) = eval o X.env := by rfl)
    (hfew : ((backTo cpos (starEach [e] X.env)).all (fun x => !x.1) && (backToKw cpos (keywordEach [] X.env)).all (fun x => x.1.isSome)
      && decide ([e].length + ([] : List Keyword).length + (if ([] : List Keyword).isEmpty then 0 else 1) < 30)) = true := by rfl)
    (hline : (apos.endLine == cpos.line) = true := by rfl) (hs : starEach [e] X.env = (false, eval e X.env) :: starEach [] X.env := by rfl) :
    PD X K W (.Call (.Attribute o "index" apos) [e] [] cpos) (cMt gIndex fo fs) := pd_M F.slot_str_index F.type_str_index mt_sindex opm_index ho ha hbase hfew hline hs rfl
theorem mt_scount : MtR X "str.count" (fun x xs H Q => ∃ a b, x = .str a ∧ xs = [.str b] ∧ Q (.int (Txt.count a b)) H) := by
  intro pins s σ H x xs v us Q I rx rs h
  obtain ⟨a, b, rfl, rfl, q⟩ := h
  obtain ⟨t, rfl⟩ := rx
  cases rs with
  | cons r1 rs =>
    cases rs
    obtain ⟨u, rfl⟩ := r1
    exact PySem.SC.count ⟨.int _, H, I.tok _, ⟨_, rfl⟩, q⟩
def gCount (a : Str) : List D → Option D
  | [.str b] => some (.int (Txt.count a b))
  | _ => none
theorem opm_count : OpM K (fun x xs H Q => ∃ a b, x = .str a ∧ xs = [.str b] ∧ Q (.int (Txt.count a b)) H) gCount := by
  intro M G σ ρ H x vs ds z r0 ra hz Q q
  unfold gCount at hz
  split at hz
  · rename_i b
    cases ra with
    | cons r1 r2 =>
      cases r2
      rw [rp_str r1]
      cases hz
      exact ⟨_, _, rfl, rfl, q _ H (.refl r0) (.int _)⟩
  · cases hz
theorem pd_scount (ho : PD X K W o fo) (ha : AD X K W [e] fs)
    (hbase : attributeBase o "count" X.env (eval o X.env) = eval o X.env := by rfl)
    (hfew : ((backTo cpos (starEach [e] X.env)).all (fun x => !x.1) && (backToKw cpos (keywordEach [] X.env)).all (fun x => x.1.isSome)
      && decide ([e].length + ([] : List Keyword).length + (if ([] : List Keyword).isEmpty then 0 else 1) < 30)) = true := by rfl)
    (hline : (apos.endLine == cpos.line) = true := by rfl) (hs : starEach [e] X.env = (false, eval e X.env) :: starEach [] X.env := by rfl) :
    PD X K W (.Call (.Attribute o "count" apos) [e] [] cpos) (cMt gCount fo fs) := pd_M F.slot_str_count F.type_str_count mt_scount opm_count ho ha hbase hfew hline hs rfl
/-! bit_length, upper -/
def gBits : D → Option D
  | .int i => some (.int (Builtin.Int.intBits i : Nat))
  | _ => none
theorem pd_bits (ho : PD X K W o fo) (hbase : attributeBase o "bit_length" X.env (eval o X.env) = eval o X.env := by rfl) (hline : (apos.endLine == cpos.line) = true := by rfl) : PD X K W (.Call (.Attribute o "bit_length" apos) [] [] cpos) (c1 gBits fo) := by
  obtain ⟨t, h1, h2⟩ := ho
  refine ⟨_, pe_bits h1 hbase hline, fun {M G σ ρ H d ρ'} r0 e Q q => ?_, fun {M G σ ρ H c d} r0 e x Q => ?_⟩
  · obtain ⟨⟨y, ρ1⟩, e1, e⟩ := R.bind_eq_ok e
    obtain ⟨z, e2, e⟩ := map_ok e
    cases e
    have e2 := R.ofOpt_eq_ok e2
    cases y <;> simp only [gBits] at e2 <;> cases e2
    exact h2.ok r0 e1 _ fun v H1 A r1 => ⟨_, rp_int r1, q _ H1 A (.int _)⟩
  · rcases R.bind_eq_exc e with e | ⟨⟨y, ρ1⟩, e1, e⟩
    · exact h2.exc r0 e x _
    · exact (R.ofOpt_ne_exc (map_exc e)).elim
def gUpper : D → Option D
  | .str a => if a.length ≤ 5592405 then some (.str (Txt.upper a)) else none
  | _ => none
theorem pd_upper (ho : PD X K W o fo) (hbase : attributeBase o "upper" X.env (eval o X.env) = eval o X.env := by rfl) (hline : (apos.endLine == cpos.line) = true := by rfl) : PD X K W (.Call (.Attribute o "upper" apos) [] [] cpos) (c1 gUpper fo) := by
  obtain ⟨t, h1, h2⟩ := ho
  refine ⟨_, pe_upper h1 hbase hline, fun {M G σ ρ H d ρ'} r0 e Q q => ?_, fun {M G σ ρ H c d} r0 e x Q => ?_⟩
  · obtain ⟨⟨y, ρ1⟩, e1, e⟩ := R.bind_eq_ok e
    obtain ⟨z, e2, e⟩ := map_ok e
    cases e
    have e2 := R.ofOpt_eq_ok e2
    cases y <;> simp only [gUpper] at e2 <;> try (cases e2; done)
    split at e2
    · rename_i hc
      cases e2
      refine h2.ok r0 e1 _ fun v H1 A r1 => ?_
      rw [rp_str r1]
      exact ⟨⟨_, rfl⟩, _, rfl, rfl, hc, q _ H1 A (.str _)⟩
    · cases e2
  · rcases R.bind_eq_exc e with e | ⟨⟨y, ρ1⟩, e1, e⟩
    · exact h2.exc r0 e x _
    · exact (R.ofOpt_ne_exc (map_exc e)).elim
end
end PyD

set_option Elab.async false
set_option linter.all false
set_option maxRecDepth 100000
namespace PyD
open PySem PySem.Spec L2
open PyProof.Rows hiding St
/-! ### repr -/
mutual
/-- what repr may show: dicts only empty -/
def shS : D → Bool
  | .non => true
  | .bl _ => true
  | .int i => decide (i.natAbs.log2 < 1920)
  | .str _ => true
  | .lst ds => shSs ds
  | .tup ds => shSs ds
  | .dct es => es.isEmpty
  | .scr _ => false
  | .exc _ _ => false
  | .fn _ => false
def shSs : List D → Bool
  | [] => true
  | d :: ds => shS d && shSs ds
end
section
variable {X : Cx} {K : KX} {W : WX} {pos : Pos} {pins : List (Addr × Obj)} {σ : L2.St} {H : Hp} {s : Shared} {e : Expr} {fa : Ev} {es : List Expr} {fs : Av}
theorem empty_dict {a : Addr} (I : Inv X pins σ H s) (h : H a = some (.dK [])) : (a == sysModules) = false ∧ ∃ o n, s.heap.get? a = some o ∧ o.cls = .type "dict" ∧ o.data = .dict #[] n := by
  obtain ⟨_, lo, vs, kv, o, es, ep, h1, h2, h3, _, h5, _⟩ := dk_of I.hok h
  cases kv
  cases hes : es.toList with
  | nil =>
    have : es = #[] := by
      obtain ⟨l⟩ := es
      simp only at hes
      rw [hes]
    subst this
    exact ⟨lo, o, ep, h1, h2.1, h3⟩
  | cons x l => rw [hes] at h5; cases h5
theorem dictText_nil : dictText [] = ("{}" : Str) := by decide +kernel
mutual
theorem reprD (I : Inv X pins σ H s) (hK : X.K = K.K) : ∀ {v : V} (d : D) {u : Value}, Rp K H v d → RelV v u → shS d = true → (toPy d).shown.length ≤ sizeLine →
    ∃ as bs, Reads s.heap u (toPy d) as ∧ ReadAtMost s.heap (toPy d).depth bs ∧ ReprK X.prog X.w bs s.heap (toPy d).depth u (toPy d).shown
  | _, .non, _, r, rv, hs, hz => by
    cases r; cases rv
    refine ⟨[], [], by simp only [toPy]; exact .none, (fun _ h => nomatch h), ?_⟩
    simp only [toPy, PyData.shown]; exact .of_is ReprIs.none _ _ _
  | _, .bl b, _, r, rv, hs, hz => by
    cases r; cases rv
    refine ⟨[], [], by simp only [toPy]; exact .bool b, (fun _ h => nomatch h), ?_⟩
    simp only [toPy, PyData.shown]; exact .of_is (ReprIs.bool b) _ _ _
  | _, .int i, _, r, rv, hs, hz => by
    cases r; obtain ⟨t, rfl⟩ := rv
    refine ⟨[], [], by simp only [toPy]; exact .int i t, (fun _ h => nomatch h), ?_⟩
    simp only [toPy, PyData.shown]; exact .of_is (ReprIs.int t (by simpa [shS] using hs)) _ _ _
  | _, .str x, _, r, rv, hs, hz => by
    cases r; obtain ⟨t, rfl⟩ := rv
    refine ⟨[], [], by simp only [toPy]; exact .str x t, (fun _ h => nomatch h), ?_⟩
    simp only [toPy, PyData.shown]; exact .of_is (ReprIs.str x t (by simpa only [toPy, PyData.shown] using hz)) _ _ _
  | _, .lst ds, u, r, rv, hs, hz => by
    cases r with
    | @lst a xs _ h1 h2 =>
      cases rv
      obtain ⟨its, rr, ⟨o, k, ho, hc, _, hd⟩, _⟩ := I.list (.inl (.inl h1))
      have hz' : (listText (PyData.shownAll (toPyAll ds))).length ≤ sizeLine := by simpa only [toPy, PyData.shown] using hz
      obtain ⟨as, bs, q1, q2, q3⟩ := reprDs I hK _ h2 rr (by simpa [shS] using hs) (fun t ht => Nat.le_trans (listText_mem_le ht) hz')
      have R : Reads s.heap (.ref a) (.list (toPyAll ds)) _ := .list ho hc hd q1
      have hna : a ∉ bs := not_mem_of_deeper R (by simp only [PyData.depth]; omega) q2
      refine ⟨_, a :: bs, by simp only [toPy]; exact R, ?_, ?_⟩
      · simp only [toPy]
        exact ReadAtMost.cons R (by simp only [PyData.depth]; omega) q2
      · simp only [toPy, PyData.depth, PyData.shown]
        cases its with
        | nil =>
          cases rr; cases h2
          simp only [toPyAll, PyData.shownAll, listText_nil]
          exact ReprK.listEmpty ho hc hd
        | cons x l => exact ReprK.list ho hc hd hna (by simpa using q3.length_eq) (fun i y e => q3.item i y (by simpa using e))
  | _, .tup ds, u, r, rv, hs, hz => by
    cases r with
    | @tup a xs _ h1 h2 =>
      cases rv
      obtain ⟨its, rr, ⟨o, ho, hc, k, hd⟩, _⟩ := I.tuple (by rw [hK]; exact h1)
      have hz' : (tupleText (PyData.shownAll (toPyAll ds))).length ≤ sizeLine := by simpa only [toPy, PyData.shown] using hz
      obtain ⟨as, bs, q1, q2, q3⟩ := reprDs I hK _ h2 rr (by simpa [shS] using hs) (fun t ht => Nat.le_trans (tupleText_mem_le ht) hz')
      have R : Reads s.heap (.ref a) (.tuple (toPyAll ds)) _ := .tuple ho hc hd q1
      have hna : a ∉ bs := not_mem_of_deeper R (by simp only [PyData.depth]; omega) q2
      refine ⟨_, a :: bs, by simp only [toPy]; exact R, ?_, ?_⟩
      · simp only [toPy]
        exact ReadAtMost.cons R (by simp only [PyData.depth]; omega) q2
      · simp only [toPy, PyData.depth, PyData.shown]
        exact ReprK.tuple ho hc hd hna q3
  | _, .dct [], u, r, rv, hs, hz => by
    cases r with
    | @dct a kvs _ h1 h2 =>
      cases h2
      cases rv
      obtain ⟨lo, o, k, ho, hc, hd⟩ := empty_dict I h1
      have R : Reads s.heap (.ref a) (.dict []) _ := .dict ho hc hd .nil .nil
      refine ⟨_, [a], by simp only [toPy, toPyKV]; exact R, ?_, ?_⟩
      · simp only [toPy, toPyKV]
        exact ReadAtMost.cons (n := 0) R (by simp only [PyData.depth]; omega) (fun _ h => nomatch h)
      · simp only [toPy, toPyKV, PyData.depth, PyData.depthKv, PyData.shown, PyData.shownKv]
        exact ReprK.dict ho hc hd lo (fun h => nomatch h) .nil
  | _, .dct (_ :: _), _, _, _, hs, _ => by simp [shS] at hs
  | _, .scr ns, _, _, _, hs, _ => by simp [shS] at hs
  | _, .exc c z, _, _, _, hs, _ => by simp [shS] at hs
  | _, .fn k, _, _, _, hs, _ => by simp [shS] at hs
theorem reprDs (I : Inv X pins σ H s) (hK : X.K = K.K) : ∀ {vs : List V} (ds : List D) {us : List Value}, RpAll K H vs ds → Vals vs us → shSs ds = true → (∀ t ∈ PyData.shownAll (toPyAll ds), t.length ≤ sizeLine) →
    ∃ as bs, ReadsAll s.heap us (toPyAll ds) as ∧ ReadAtMost s.heap (PyData.depthAll (toPyAll ds)) bs ∧ ReprAllK X.prog X.w bs s.heap (PyData.depthAll (toPyAll ds)) us (PyData.shownAll (toPyAll ds))
  | _, [], _, r, rv, _, _ => by
    cases r; cases rv
    refine ⟨[], [], by simp only [toPyAll]; exact .nil, (fun _ h => nomatch h), ?_⟩
    simp only [toPyAll, PyData.shownAll]; exact .nil
  | _, d :: ds, _, r, rv, hs, hz => by
    cases r with
    | cons r1 r2 =>
      cases rv with
      | cons v1 v2 =>
        have hs' : shS d = true ∧ shSs ds = true := by simpa [shSs] using hs
        obtain ⟨a1, b1, q1, q2, q3⟩ := reprD I hK _ r1 v1 hs'.1 (hz _ (by simp only [toPyAll, PyData.shownAll]; exact List.mem_cons_self ..))
        obtain ⟨a2, b2, p1, p2, p3⟩ := reprDs I hK _ r2 v2 hs'.2 (fun t ht => hz t (by simp only [toPyAll, PyData.shownAll]; exact List.mem_cons_of_mem _ ht))
        refine ⟨_, b1 ++ b2, by simp only [toPyAll]; exact .cons q1 p1, ?_, ?_⟩
        · simp only [toPyAll, PyData.depthAll]
          exact (q2.mono (Nat.le_max_left _ _)).append (p2.mono (Nat.le_max_right _ _))
        · simp only [toPyAll, PyData.depthAll, PyData.shownAll]
          exact .cons ((q3.more fun b hb => List.mem_append_left _ hb).level_le (Nat.le_max_left _ _)) (p3.more_le (fun b hb => List.mem_append_right _ hb) (Nat.le_max_right _ _))
end
def shD (d : D) : Bool := shS d && decide ((toPy d).depth ≤ 20) && decide ((toPy d).shown.length ≤ sizeLine)
def gRepr (d : D) : Option D := if shD d = true then some (.str (toPy d).shown) else none
def rRepr (K : KX) : List V → Hp → VK → Prop := fun xs H Q => ∃ v d, xs = [v] ∧ Rp K H v d ∧ shD d = true ∧ Q (.str (toPy d).shown) H
theorem call_reprD (hK : X.K = K.K) (hgd : X.A.guards = some []) (hu : X.A.units + 64 < cLine) : CallR X (.builtin "repr") (rRepr K) := by
  intro pins s σ H xs us Q I rv h
  obtain ⟨v, d, rfl, r, hs, q⟩ := h
  cases rv with
  | cons v1 v2 =>
    cases v2
    have hs' : (shS d = true ∧ (toPy d).depth ≤ 20) ∧ (toPy d).shown.length ≤ sizeLine := by simpa [shD] using hs
    have hn := hs'.1.2
    have hz := hs'.2
    have fin : ∀ (h' : Heap) (u tk : Nat), (∀ b o, s.heap.get? b = some o → h'.get? b = some o) → EP X pins σ Q (.str (toPy d).shown u) { s with heap := h', toks := tk } := fun h' u tk hk => ⟨.str _, H, I.kept (t' := tk) hk, ⟨_, rfl⟩, q⟩
    cases d with
    | non => cases r; cases v1; exact P.repr_of_none (fin s.heap _ _ fun _ _ e => e)
    | bl b => cases r; cases v1; exact P.repr_of_bool (fin s.heap _ _ fun _ _ e => e)
    | int i =>
      cases r; obtain ⟨t, rfl⟩ := v1
      exact P.repr_of_int (by simpa [shS] using hs'.1.1) (fin s.heap _ _ fun _ _ e => e)
    | str x =>
      cases r; obtain ⟨t, rfl⟩ := v1
      exact P.repr_of_str (fin s.heap _ _ fun _ _ e => e) (by simpa only [toPy, PyData.shown] using hz)
    | lst ds =>
      cases r with
      | @lst a xs _ h1 h2 =>
        cases v1
        obtain ⟨its, rr, ⟨o, k, ho, hc, _, hd⟩, _⟩ := I.list (.inl (.inl h1))
        simp only [toPy, PyData.shown, PyData.depth] at hz fin hn
        obtain ⟨as, bs, p1, p2, p3⟩ := reprDs I hK _ h2 rr (by simpa [shS] using hs'.1.1) (fun t ht => Nat.le_trans (listText_mem_le ht) hz)
        have hna : a ∉ bs := not_mem_of_deeper (Reads.list ho hc hd p1) (by simp only [PyData.depth]; omega) p2
        refine call_repr_slot (by omega) ⟨o, ho, hc⟩ F.slot_list_repr.toG ?_
        cases its with
        | nil =>
          cases rr; cases h2
          simp only [toPyAll] at fin
          refine call_list_repr_empty ⟨o, ho, hc⟩ ho hd ⟨_, _, rfl, ?_⟩
          have := fin s.heap s.toks (s.toks + 1) fun _ _ e => e
          simpa only [PyData.shownAll, listText_nil] using this
        | cons x l => exact call_list_reprK (A := X.A.in1) ho hc hd hna (by simpa using p3.length_eq) (fun i y e => p3.item i y (by simpa using e)) hgd (fun b _ => Clear.nil b) (by show X.A.units + 1 + _ < cLine; omega) (fun _ _ e => e) (fun h' u tk hk => ⟨_, _, rfl, fin h' u tk hk⟩) hz
    | tup ds =>
      cases r with
      | @tup a xs _ h1 h2 =>
        cases v1
        obtain ⟨its, rr, ⟨o, ho, hc, k, hd⟩, _⟩ := I.tuple (by rw [hK]; exact h1)
        simp only [toPy, PyData.shown, PyData.depth] at hz fin hn
        obtain ⟨as, bs, p1, p2, p3⟩ := reprDs I hK _ h2 rr (by simpa [shS] using hs'.1.1) (fun t ht => Nat.le_trans (tupleText_mem_le ht) hz)
        have hna : a ∉ bs := not_mem_of_deeper (Reads.tuple ho hc hd p1) (by simp only [PyData.depth]; omega) p2
        refine call_repr_slot (by omega) ⟨o, ho, hc⟩ F.slot_tuple_repr ?_
        exact call_tuple_reprK (A := X.A.in1) ho hc hd hna p3 hgd (fun b _ => Clear.nil b) (by show X.A.units + 1 + _ < cLine; omega) (fun _ _ e => e) (fun h' u tk hk => ⟨_, _, rfl, fin h' u tk hk⟩) hz
    | dct es =>
      cases r with
      | @dct a kvs _ h1 h2 =>
        cases es with
        | cons _ _ => simp [shS] at hs'
        | nil =>
          cases h2
          cases v1
          obtain ⟨lo, o, k, ho, hc, hd⟩ := empty_dict I h1
          simp only [toPy, toPyKV, PyData.shown, PyData.shownKv, PyData.depth] at hz fin hn
          refine call_repr_slot (by omega) ⟨o, ho, hc⟩ F.slot_dict_repr ?_
          exact call_dict_reprK (A := X.A.in1) (as := []) (d := 0) ho hc hd lo (fun h => nomatch h) .nil hgd (fun b _ => Clear.nil b) (by show X.A.units + 1 + _ < cLine; omega) (fun _ _ e => e) (fun h' u tk hk => ⟨_, _, rfl, fin h' u tk hk⟩) hz
    | scr ns => simp [shS] at hs'
    | exc c z => simp [shS] at hs'
    | fn k => simp [shS] at hs'
theorem opc_repr : OpC1 K (rRepr K) gRepr := by
  intro H v d z r hz
  unfold gRepr at hz
  split at hz
  · rename_i h
    cases hz
    exact ⟨_, fun _ => .str _, fun Q q => ⟨v, d, rfl, r, h, q⟩⟩
  · cases hz
end
section
variable {X : Cx} {K : KX} {W : WX} {pos p : Pos} {e : Expr} {fa : Ev}
theorem pd_repr (hm : X.mg "repr" = none) (hgd : X.A.guards = some []) (hu : X.A.units + 64 < cLine) (ha : PDP X K W e fa) (hK : X.K = K.K := by rfl) (hg : Gl X "repr" := by rfl) (he : starEach [e] X.env = (false, eval e X.env) :: starEach [] X.env := by rfl) (hpl : (backTo pos (starEach [] X.env)).any (·.1) = false := by rfl) :
    PD X K W (.Call (.Name "repr" p) [e] [] pos) (c1 gRepr fa) := pd_B1 (call_reprD hK hgd hu) opc_repr hm ha hg PyProof.Rows.bootS_repr (by decide) (by decide) he hpl
end
end PyD

set_option Elab.async false
set_option linter.all false
set_option maxRecDepth 100000
/-! own errors over ValueError: DebtError.__init__(self, value=None) says super().__init__(value) and keeps value -/
namespace PyD
open PySem PySem.W PySem.Calls PyProof.Rows PySem.HandSPX
def iA : Arguments := { posonlyargs := [], args := [{ arg := "self", annotation := none, pos := ⟨4, 17, 4, 21⟩ }, { arg := "value", annotation := none, pos := ⟨4, 23, 4, 28⟩ }], vararg := none, kwonlyargs := [], kw_defaults := [], kwarg := none, defaults := [.Constant .none 0 ⟨4, 29, 4, 33⟩] }
def iB : List Stmt := [.Expr (.Call (.Attribute (.Call (.Name "super" ⟨5, 8, 5, 13⟩) [] [] ⟨5, 8, 5, 15⟩) "__init__" ⟨5, 8, 5, 24⟩) [.Name "value" ⟨5, 25, 5, 30⟩] [] ⟨5, 8, 5, 31⟩) ⟨5, 8, 5, 31⟩, .Assign [.Attribute (.Name "self" ⟨6, 8, 6, 12⟩) "value" ⟨6, 8, 6, 18⟩] (.Name "value" ⟨6, 21, 6, 26⟩) ⟨6, 8, 6, 26⟩]
def iS : Scope := { kind := .function, names := [(PySem.Str.ofString "self", .local), (PySem.Str.ofString "value", .local), (PySem.Str.ofString "__class__", .free), (PySem.Str.ofString "super", .globalImplicit)], isGenerator := false, isCoroutine := false, more := [] }
/-- what the written part says of DebtError (at D), its __init__ (at fI) -/
structure ErrD (prog : Program) (K : Frag) (D fI : Addr) : Prop where
  fn : ∃ (oc : Value) (od : Option Addr) (dV kV doc pm : Value) (an : Option Addr) (cda cc : Addr) (ct : Value) (osl : Array (Option Value)) (T : Addr) (oT : Obj) (n : Nat),
    K.lookup fI = some ⟨oc, od, .func (ksFn "__init__" "DebtError.__init__" iA iB iS (.ref T) kV doc pm an (.ref cda) ct cc), osl⟩ ∧ codeIn K (.ref cda) "DebtError.__init__" = true ∧
    K.lookup T = some oT ∧ oT.data = .seq #[.none] n ∧
    (∃ ccl cdd vs ccs file tf, K.lookup cda = some ⟨ccl, cdd, .fields vs, ccs⟩ ∧ vs[2]? = some (.str file tf) ∧ ((prog.main.file : Str) == file) = true) ∧
    (∃ cl cld csl, K.lookup cc = some ⟨cl, cld, .cell (some (.ref D)), csl⟩)
  clsD : (clsIn K D).isSome = true
  sup : nsIn K mainGlobals "super" = some none
  top : (prog.main.scope.names.lookup ("super" : Str)).isSome = false
  tC : typeIn K (.ref fI) = some (.type "function")
  op : nsIn K cStatics "thirdparty.any" = some none
/-- .. of a class at C, called x, that has this __init__ -/
structure ErrC (K : Frag) (mg : Str → Option Value) (D fI C : Addr) (x : Str) : Prop where
  gC : mg x = some (.ref C)
  cls : ∃ nm q N bs bm sn sub ab col dd k0 k1 k2 k3 k5, K.lookup C = some (excClassObj nm q C N bs bm true sn sub ab col dd k0 k1 k2 k3 k5 "ValueError.__new__") ∧ refsVE bm = true
  sa : findIn K (.ref C) "__setattr__" = some (some (.builtin "object.__setattr__"))
  ga : findIn K (.ref C) "__getattribute__" = some (some (.builtin "BaseException.__getattribute__"))
  gg : findIn K (.ref C) "__getattr__" = some none
  noN : findIn K (.ref C) "value" = some none
  iC : findIn K (.ref C) "__init__" = some (some (.ref fI))
  kC : keepIn K (.ref C) = true
  exC : subIn K (.ref C) (.type "BaseException") = some true
  tyC : typeIn K (.ref C) = some (.type "type")
  hdC : hasDictIn K C = true
  hsub : mroIn K C (.ref D) = some true
  hsup : ks_superIn K C D "__init__" = some (some (.builtin "ValueError.__init__"))
  hVE : subIn K (.ref C) (.type "ValueError") = some true
theorem one_size (v : Value) : [v].length ≤ sizeLine := by
  rw [sizeLine_eq]
  exact (by decide : 1 ≤ 16777216)
/-- what __init__ leaves of a fresh exception at x -/
structure InitEnd (h h' : Heap) (x C dx : Addr) (v : Value) : Prop where
  keep : ∀ b o, b ≠ x → h.get? b = some o → h'.get? b = some o
  obj : ∃ t1, h'.get? x = some { cls := .ref C, dict := some dx, data := .fields #[.ref t1, .none, .none, .none, .bool false, .none] }
  dbig : h.objs.size ≤ dx
  dne : dx ≠ x
  ns : h'.Ns1 dx (fun y => if y = "value" then some v else none)
structure OwnMade (h h' : Heap) (e C d : Addr) (v : Value) : Prop where
  keep : ∀ b o, h.get? b = some o → h'.get? b = some o
  new : h.objs.size ≤ e
  obj : ∃ oe vs, h'.get? e = some oe ∧ oe.cls = .ref C ∧ oe.dict = some d ∧ oe.data = .fields vs ∧ vs[1]? = some .none
  dbig : h.objs.size ≤ d
  dne : d ≠ e
  ns : h'.Ns1 d (fun y => if y = "value" then some v else none)
section
variable {prog : Program} {w : World} {A : Around} {E : Value → Shared → Prop} {R : Result → Shared → Prop} {s : Shared} {K : Frag} {mg : Str → Option Value} {D fI C : Addr} {xn : Str}
/-- the bound __init__ of ValueError, called -/
theorem call_mw {u x t0 : Addr} {rest : List Value} {Q : Value → Shared → Prop} {nm q : Str} {N : Addr} {bs bm : List Value} {hdct : Bool} {sn : List Str} {sub : List Value} {ab : Bool} {col : Option Bool} {dd : Option Addr} {k0 k1 k2 k3 k5 : Option Value}
    (hC : s.heap.get? C = some (excClassObj nm q C N bs bm hdct sn sub ab col dd k0 k1 k2 k3 k5 "ValueError.__new__")) (he : s.heap.get? x = some (excO C t0)) (hu : s.heap.get? u = some (kxs_mw "ValueError.__init__" x)) (hz : rest.length ≤ sizeLine)
    (h : ∀ h' t1, (∀ b o, b ≠ x → s.heap.get? b = some o → h'.get? b = some o) → h'.get? x = some (excO C t1) → Q .none { s with heap := h' }) :
    wpAny (model prog w) A (call (.ref u) rest) Q E s := by
  obtain ⟨hh, g, d, tk, os⟩ := s
  refine wpAny_call (codeAny_of_tree ?_)
  show wpAny _ A.in1 (callAny (.ref u) ⟨rest, []⟩) _ _ _
  simp only [callAny]
  refine wpAny_bind (wpAny_load hu ?_)
  simp only [kxs_mw, show (Value.type "method-wrapper" == Value.type "method" || Value.type "method-wrapper" == Value.type "builtin_function_or_method" || Value.type "method-wrapper" == Value.type "method-wrapper") = true by decide, if_true]
  refine KFB.if_so (by decide) ?_
  refine wpAny_bind (check_bound_init F.excBase_ValueError.toExcCallFacts hC he rfl ?_)
  refine wpAny_bind (wpAny_pure (wpAny_pure ?_))
  refine ⟨plainId_quiet F.excBase_ValueError.init.plain _, codeAny_builtin F.excBase_ValueError.initEntry ?_⟩
  exact exc_init_tree (cls := .ref C) (t0 := t0) (dv := none) (c2 := .none) (c3 := .none) (b4 := .bool false) he hz fun h' k hx _ => h h' _ k hx
theorem err_init (T : ErrD prog K D fI) (TC : ErrC K mg D fI C xn) {x t0 : Addr} {v : Value} {args : List Value} (X : K.In s.heap) (G : s.heap.Ns mainGlobals mg) (B : ∃ mb, s.heap.Ns builtinsNs mb ∧ ∀ y : Str, y ≠ "__name__" → mb y = bootBuiltins y) (hlim : s.heap.NoLimit)
    (hx : s.heap.get? x = some (excO C t0)) (hnx : K.lookup x = none) (hms : mg "super" = none) (hroom : A.depth < recursionLimit) (ha : args = [v] ∨ (args = [] ∧ v = .none))
    (hq : ∀ h' tk dx, InitEnd s.heap h' x C dx v → R (.ok (.ret .none)) { s with heap := h', toks := tk }) :
    codeAny (model prog w) A (.call (.ref fI) ⟨.ref x :: args, []⟩) R s := by
  obtain ⟨oc, od, dV, kV, doc, pm, an, cda, cc, ct, osl, Td, oT, nT, lk, hcd, lT, dT, ⟨ccl, cdd, vs, ccs, file, tf, lc, hvs, hfile⟩, cl, cld, csl, lcc⟩ := T.fn
  obtain ⟨nm, q, N, bs, bm, sn, sub, ab, col, dd, k0, k1, k2, k3, k5, hC, hbm⟩ := TC.cls
  have hcl : clsIn K C = some { name := nm, bases := bs, mro := .ref C :: bm, ns := N, qualname := q, hasDict := true, slotNames := sn, subclasses := sub, abstract := ab, collection := col, hasDel := false } := by unfold clsIn; rw [hC] <;> rfl
  have hbind : BindsTo s (ksFn "__init__" "DebtError.__init__" iA iB iS (.ref Td) kV doc pm an (.ref cda) ct cc) ⟨.ref x :: args, []⟩ [("self", .ref x), ("value", v)] := by
    rcases ha with rfl | ⟨rfl, rfl⟩
    · exact binds_K X rfl lT dT rfl rfl
    · exact binds_K X rfl lT dT rfl rfl
  have hl1 : ∀ {A : Around} {E : Value → Shared → Prop} {s1 : Shared} {m : Str → Option Value} {y : Str} {pos : Pos} {u : Value} {Q : Value → Shared → Prop} (_ : s1.heap.Ns s.heap.objs.size m) (_ : m y = some u) (_ : Q u s1) (_ : (callEnv (ksFn "__init__" "DebtError.__init__" iA iB iS (.ref Td) kV doc pm an (.ref cda) ct cc) s.heap.objs.size fI).kindOf y = some .local) (_ : (y == ("__debug__" : Str)) = false),
      wpAny (model prog w) A (eval (.Name y pos) (callEnv (ksFn "__init__" "DebtError.__init__" iA iB iS (.ref Td) kV doc pm an (.ref cda) ct cc) s.heap.objs.size fI)) Q E s1 := fun {A E s1 m y pos u Q} hn hv h hk hd => wpAny_Name (wpAny_loadName_local rfl hk hn hv h) hd
  refine ks_codeAny_call_defAt hroom (X _ _ lk) rfl hlim (codeRec_of X hcd) rfl hbind (show ∀ y ∈ iS.names, y.2 ≠ .cell by decide +kernel) (by intro y hy; rcases List.mem_cons.mp hy with rfl | hy; rfl; rcases List.mem_cons.mp hy with rfl | hy; rfl; cases hy) (fun h₁ hns k => ?_) rfl rfl rfl
  have X₁ : K.In h₁ := X.keeps k
  have hx₁ := k _ _ hx
  have hxL : s.heap.objs.size ≠ x := Nat.ne_of_gt (Heap.lt_size hx)
  obtain ⟨mb, hb1, hb2⟩ := B
  show PySem.wpAt _ _ _ (execs iB _) _ _ _
  refine ks_wpAt_execs_cons (ks_wpAt_Expr_any (ks_wpAt_MethodCall ?_ rfl) rfl rfl)
  have I : InstAt h₁ x (excO C t0) C none := ⟨hx₁, rfl, rfl, trivial⟩
  obtain ⟨cdD, hcdD⟩ := Option.isSome_iff_exists.mp T.clsD
  obtain ⟨oD, hD1, hD2⟩ : ∃ oD, h₁.get? D = some oD ∧ oD.data = .cls cdD := by
    unfold clsIn at hcdD
    split at hcdD
    · rename_i c d cd' sl ho
      cases hcdD
      exact ⟨_, X₁ _ _ ho, rfl⟩
    · cases hcdD
  refine ks_wpAt_super_base (f := fI) (cc := cda) rfl rfl (by decide) rfl (X₁ _ _ lk) rfl (ar := { arg := "self", annotation := none, pos := ⟨4, 17, 4, 21⟩ }) rfl rfl (X₁ _ _ lc) rfl hvs hfile T.top ?_
  refine ks_loadName_global rfl rfl (loadGlobal_builtin (mg := mg) (mb := mb) (v := .type "super") (G.keeps k) hms (hb1.keeps k) ((hb2 "super" (by decide)).trans (by decide +kernel)) ⟨rfl, ?_⟩)
  refine wpAny_loadName_free (c := cc) rfl rfl rfl ⟨_, X₁ _ _ lcc, rfl⟩ ?_
  refine wpAny_loadName_local (v := .ref x) rfl rfl hns rfl ?_
  refine ks_wpAny_isType_cls hD1 hD2 ⟨rfl, ?_⟩
  refine ks_wpAny_call_super hD1 hD2 hx₁ rfl (fun c e => by cases e) (looks_mroIn X₁ TC.hsub) (fun h2 hso k2 => ?_)
  have hsup := TC.hsup
  unfold ks_superIn at hsup
  rw [hcl] at hsup
  have k02 : ∀ b o, s.heap.get? b = some o → h2.get? b = some o := fun b o e => k2 b o (k b o e)
  have X₂ : K.In h2 := X.keeps k02
  have I2 : InstAt h2 x (excO C t0) C none := ⟨k2 _ _ hx₁, rfl, rfl, trivial⟩
  refine kxs_getMethod kxs_ValueError hso (looks_opaque X₂ T.op) (l₀ := .ref C :: bm) (fun A Q E s k q => wpAny_bind ((looks_clsIn X₂ hcl) A _ E s k (wpAny_pure q))) rfl X₂ hsup (I2.type.andThen (looks_subIn X₂ TC.hVE)) (ks_ne X₂ I2 hcl) (by decide) ?_
  have hn3 : (h2.push (kxs_mw "ValueError.__init__" x)).Ns s.heap.objs.size (fun y => [(("self" : Str), Value.ref x), ("value", v)].reverse.lookup y) := hns.keeps fun b o e => Heap.get?_push_of_some _ (k2 b o e)
  rw [show backTo ⟨5, 8, 5, 31⟩ (starEach [Expr.Name "value" ⟨5, 25, 5, 30⟩] (callEnv (ksFn "__init__" "DebtError.__init__" iA iB iS (.ref Td) kV doc pm an (.ref cda) ct cc) s.heap.objs.size fI)) = [(false, eval (.Name "value" ⟨5, 25, 5, 30⟩) (callEnv (ksFn "__init__" "DebtError.__init__" iA iB iS (.ref Td) kV doc pm an (.ref cda) ct cc) s.heap.objs.size fI))] from rfl]
  refine kxs_callWith (i := "ValueError.__init__") (x := x) rfl (evalArgs_plain (spliced_cons (hl1 (u := v) hn3 rfl (spliced_nil ?_) rfl (by decide))))
  have k3 : ∀ b o, s.heap.get? b = some o → (h2.push (kxs_mw "ValueError.__init__" x)).get? b = some o := fun b o e => Heap.get?_push_of_some _ (k02 b o e)
  refine ⟨Heap.get?_push_size _ rfl, ?_⟩
  refine call_mw (x := x) (t0 := t0) (X.keeps k3 _ _ hC) (Heap.get?_push_of_some _ (k2 _ _ hx₁)) (Heap.get?_push_size _ rfl) (one_size v) (fun h4 t1 k4 hx4 => ?_)
  have k5 : ∀ b o, b ≠ x → s.heap.get? b = some o → h4.get? b = some o := fun b o hb e => k4 b o hb (k3 b o e)
  have X₄ : K.In h4 := fun a o e => k5 a o (fun z => by rw [z, hnx] at e; cases e) (X a o e)
  have hn4 : h4.Ns s.heap.objs.size (fun y => [(("self" : Str), Value.ref x), ("value", v)].reverse.lookup y) := by
    obtain ⟨oL, es, ep, hL, r⟩ := hn3
    exact ⟨oL, es, ep, k4 _ _ hxL hL, r⟩
  refine wpAt_of_wpAny (wpAny_execs_cons (plainObj_wpAny_Assign_Attribute ?_))
  refine hl1 (u := v) hn4 rfl (hl1 (u := .ref x) hn4 rfl ?_ rfl (by decide)) rfl (by decide)
  refine set_plain X₄ (ox := excO C t1) (od := none) ⟨hx4, rfl, rfl, trivial⟩ TC.sa ?_
  refine exc_osa X₄ hx4 hcl (show refsVE (.ref C :: bm) = true from hbm) rfl TC.noN (fun h6 tk6 dx k6 dn dne hx6 hn6 => ?_)
  show wpAny _ _ (execs [] _) _ _ _
  exact wpAny_execs_nil (hq h6 tk6 dx ⟨fun b o hb e => k6 b o hb (k5 b o hb e), ⟨t1, hx6⟩, Nat.le_of_lt (Nat.lt_of_lt_of_le hn4.lt dn), dne, hn6⟩)
/-- C(v), C() -/
theorem err_made (T : ErrD prog K D fI) (TC : ErrC K mg D fI C xn) {v : Value} {args : List Value} (X : K.In s.heap) (G : s.heap.Ns mainGlobals mg) (B : ∃ mb, s.heap.Ns builtinsNs mb ∧ ∀ y : Str, y ≠ "__name__" → mb y = bootBuiltins y) (hlim : s.heap.NoLimit)
    (hms : mg "super" = none) (hroom : A.depth + 1 < recursionLimit) (ha : args = [v] ∨ (args = [] ∧ v = .none))
    (hq : ∀ h' tk e d, OwnMade s.heap h' e C d v → R (.ok (.ret (.ref e))) { s with heap := h', toks := tk }) :
    codeAny (model prog w) A (.call (.ref C) ⟨args, []⟩) R s := by
  obtain ⟨nm, q, N, bs, bm, sn, sub, ab, col, dd, k0, k1, k2, k3, k5, hC, hbm⟩ := TC.cls
  obtain ⟨hp, g, dr, tk, os⟩ := s
  have k : ∀ b o, hp.get? b = some o → ((hp.push (kdv_tup args)).push (excO C hp.objs.size)).get? b = some o := fun b o e => Heap.get?_push_of_some _ (Heap.get?_push_of_some _ e)
  have hget : ((hp.push (kdv_tup args)).push (excO C hp.objs.size)).get? (hp.objs.size + 1) = some (excO C hp.objs.size) := by heap_get
  have hnx : K.lookup (hp.objs.size + 1) = none := by
    cases e : K.lookup (hp.objs.size + 1) with
    | none => rfl
    | some o =>
      have z : hp.get? (hp.objs.size + 1) = some o := X _ _ e
      exact absurd (Nat.lt_of_succ_lt (Heap.lt_size z)) (Nat.lt_irrefl _)
  have hz : args.length ≤ sizeLine := by
    rcases ha with rfl | ⟨rfl, _⟩
    · exact one_size v
    · exact Nat.zero_le _
  obtain ⟨mb, hb1, hb2⟩ := B
  refine call_own F.excBase_ValueError (fun X => refsVE_contains X bm hbm) (X _ _ hC) (looks_findIn X TC.iC) (fun self => bind_fn X self T.tC) hz ?_
  refine err_init (s := ⟨(hp.push (kdv_tup args)).push (excO C hp.objs.size), g, dr, tk, os⟩) T TC (X.keeps k) (G.keeps k) ⟨mb, hb1.keeps k, hb2⟩ (hlim.keeps k) hget hnx hms ?_ ha fun h' tk' dx ⟨k', ⟨t1, hx⟩, dn, dne, hns⟩ => ?_
  · show A.depth + 1 < recursionLimit
    exact hroom
  · have old : ∀ b o, hp.get? b = some o → h'.get? b = some o := fun b o e => k' b o (Nat.ne_of_lt (Nat.lt_succ_of_lt (Heap.lt_size e))) (k b o e)
    have z : hp.objs.size + 1 + 1 ≤ dx := by
      first
        | (simpa only [Heap.size_push] using dn)
        | exact dn
        | (have q := dn; rw [Heap.size_push, Heap.size_push] at q; exact q)
    exact ⟨rfl, hq h' tk' (hp.objs.size + 1) dx ⟨old, Nat.le_succ _, ⟨_, _, hx, rfl, rfl, rfl, rfl⟩, Nat.le_trans (Nat.le_trans (Nat.le_succ _) (Nat.le_succ _)) z, dne, hns⟩⟩
end
end PyD
namespace PyD
open PySem PySem.Spec L2
open PyProof.Rows hiding St
theorem relO_val {v : V} {v' : Value} (r : RelV v v') (f : Str) : RelO (List.lookup f [(("value" : Str), v)]) (if f = "value" then some v' else none) := by
  by_cases hw : f = "value"
  · subst hw
    rw [if_pos rfl, show List.lookup ("value" : Str) [(("value" : Str), v)] = some v by simp [List.lookup]]
    exact r
  · have qw : (f == ("value" : Str)) = false := by simpa using hw
    rw [if_neg hw, show List.lookup f [(("value" : Str), v)] = none by simp [List.lookup, qw]]
    trivial
section
variable {X : Cx} {K : KX} {W : WX} {D fI C : Addr} {xn : Str} {e : Expr} {p pos pos2 : Pos} {fa : Ev}
/-- the made object behind a call of the class -/
theorem made_mk {pins : List (Addr × Obj)} {σ : L2.St} {H1 : Hp} {Q : XK} {hp h' : Heap} {g : Array GenState} {dr : Drawn} {tk tk' : Nat} {os : OsState} {a d : Addr} {v : V} {v' : Value} (TC : ErrC X.K X.mg D fI C xn) (I1 : Inv X pins σ H1 ⟨hp, g, dr, tk, os⟩) (M : OwnMade hp h' a C d v') (rv : RelV v v')
    (q1 : ∀ d, H1 d = none → Q (.ref C) (some d) (upd H1 d (.xd [(("value" : Str), v)]))) : MkP X pins σ Q (.ref a) ⟨h', g, dr, tk', os⟩ := by
  obtain ⟨oe, fv, hoe, hc, hd, hdat, h1⟩ := M.obj
  have hns := M.ns
  obtain ⟨G', g1, g2⟩ := restrict h' fun b => decide (b ≠ a)
  have gk : ∀ b, b ≠ a → G'.get? b = h'.get? b := fun b hb => g1 b (decide_eq_true hb)
  have ge : G'.get? a = none := g2 a (by simp)
  have old : ∀ b o, hp.get? b = some o → G'.get? b = some o := fun b o q => (gk b (Nat.ne_of_lt (Nat.lt_of_lt_of_le (Heap.lt_size q) M.new))).trans (M.keep b o q)
  have ob : ObjOk X.prog X.w (upd H1 d (.xd [(("value" : Str), v)])) G' d (.xd [(("value" : Str), v)]) := ⟨_, hns.at (fun o q => (gk d M.dne).trans q), fun f => relO_val rv f⟩
  have J : Inv X pins σ (upd H1 d (.xd [(("value" : Str), v)])) ⟨G', g, dr, tk', os⟩ := I1.laid (t' := tk') old M.dbig ob
  refine ⟨a, oe, fv, ⟨G', g, dr, tk', os⟩, _, .ref C, some d, rfl, J, fun b o q => ?_, ge, hoe, ⟨hc, hd⟩, hdat, h1, ?_, rfl, I1.bare, raises_own TC.exC TC.tyC, q1 d (I1.hok.fresh M.dbig)⟩
  · by_cases hb : b = a
    · have q' : G'.get? b = some o := q
      rw [hb, ge] at q'; cases q'
    · exact (gk b hb).symm.trans q
  · rw [upd_ne (Ne.symm M.dne)]
    exact I1.hok.fresh M.new
def tMk1 (C : Addr) (ta : TA) : L2.St → Hp → XK → Prop := fun σ H Q => ta σ H fun vs H1 => ∃ v, vs = [v] ∧ ∀ d, H1 d = none → Q (.ref C) (some d) (upd H1 d (.xd [(("value" : Str), v)]))
theorem inv_blt {pins : List (Addr × Obj)} {σ : L2.St} {H : Hp} {s : Shared} (I : Inv X pins σ H s) : ∃ mb, s.heap.Ns builtinsNs mb ∧ ∀ y : Str, y ≠ "__name__" → mb y = bootBuiltins y := by
  obtain ⟨mb, h1, h2⟩ := I.mod.blt
  exact ⟨mb, h1.keeps I.bk, h2⟩
theorem pmk_err {ta : TA} {k : Nat} (T : ErrD X.prog X.K D fI) (TC : ErrC X.K X.mg D fI C xn) (hms : X.mg "super" = none) (hr : Room k X.A) (ha : PA X [e] ta) (hg : Gl X xn := by rfl) (hdb : (xn == ("__debug__" : Str)) = false := by decide)
    (he : starEach (e :: []) X.env = (false, eval e X.env) :: starEach [] X.env := by rfl) (hpl : (backTo pos (starEach [] X.env)).any (·.1) = false := by rfl) :
    PMk X (.Call (.Name xn p) [e] [] pos) (tMk1 C ta) := by
  intro pins s σ H Q I h
  refine wpAny_Call_Name_kw (ld_glob I hg TC.gC ?_ hdb)
  refine PySem.W.callWith_K (h₀ := X.base) I.ok.mod.kin TC.kC (thn (ha.run pos pins s σ H _ I h) fun us s1 hh => ?_) he hpl
  obtain ⟨vs, H1, I1, r1, v, ev, q1⟩ := hh
  subst ev
  refine ⟨I1.kIn, ?_⟩
  cases r1 with
  | cons rv rn =>
    rename_i v' us'
    cases rn
    show wpAny _ _ (call (.ref C) [v']) _ _ _
    have hlim := I1.nolimit
    have hB := inv_blt I1
    have hG := I1.mod.glob.keeps I1.bk
    obtain ⟨hp, g, dr, tk, os⟩ := s1
    exact wpAny_call (err_made T TC I1.kIn hG hB hlim hms (by have := hr.dp; omega) (.inl rfl) fun h' tk' a d M => made_mk TC I1 M rv q1)
/-- raise X(e) -/
def cRaise (c : Nat) (f : Ev) : Sv := fun ρ => (f ρ).bind fun x => .exc c x.1
theorem sd_raise (c : Nat) {k : Nat} (hc : X.calm = true) (T : ErrD X.prog X.K D fI) (TC : ErrC X.K X.mg D fI (K.CA c) xn) (hms : X.mg "super" = none) (hr : Room k X.A) (tk : Takes X W) (ha : PD X K W e fa) (hg : Gl X xn := by rfl) (hdb : (xn == ("__debug__" : Str)) = false := by decide)
    (he : starEach (e :: []) X.env = (false, eval e X.env) :: starEach [] X.env := by rfl) (hpl : (backTo pos (starEach [] X.env)).any (·.1) = false := by rfl) :
    SD X K W (.Raise (some (.Call (.Name xn p) [e] [] pos)) none pos2) (cRaise c fa) := by
  obtain ⟨ta, h1, h2⟩ := ha
  refine ⟨_, ps_raise hc tk (pmk_err T TC hms hr (pa_cons h1 pa_nil he) hg hdb he hpl), fun {M G σ ρ H fl ρ'} r0 e Dn q => ?_, fun {M G σ ρ H c' d} r0 e x Dn => ?_⟩
  · unfold cRaise at e
    obtain ⟨⟨y, ρ1⟩, e1, e⟩ := R.bind_eq_ok e
    cases e
  · unfold cRaise at e
    rcases R.bind_eq_exc e with e | ⟨⟨y, ρ1⟩, e1, e⟩
    · exact h2.exc r0 e (x σ) _
    · cases e
      refine h2.ok r0 e1 _ fun v H1 A r1 => ?_
      refine ⟨v, rfl, fun d hd => ?_⟩
      refine x σ d v _ (A.rel.same.trans (same_upd hd)) (A.rel.same.free hd) upd_same ?_
      exact r1.keep (cut_mono fun a o m h => ⟨fun z => m (.inl z), same_upd hd a o h⟩)
end
end PyD

set_option Elab.async false
set_option linter.all false
set_option maxRecDepth 100000
namespace PyD
open PySem PySem.Spec L2
open PyProof.Rows hiding St
/-! ### calls with keywords -/
def permL {α : Type} (pm : List Nat) (xs : List α) : List α := pm.filterMap (xs[·]?)
theorem permL_vals {vs : List V} {us : List Value} (r : Vals vs us) : ∀ pm : List Nat, Vals (permL pm vs) (permL pm us)
  | [] => .nil
  | i :: pm => by
    have ih := permL_vals r pm
    unfold permL at ih ⊢
    have hl := r.length
    cases hv : vs[i]? with
    | none =>
      have hu : us[i]? = none := by
        rw [List.getElem?_eq_none_iff] at hv ⊢
        omega
      simp only [List.filterMap_cons, hv, hu]
      exact ih
    | some v =>
      obtain ⟨u, hu, ru⟩ := r.get hv
      simp only [List.filterMap_cons, hv, hu]
      exact .cons ru ih
theorem permL_rp {K : KX} {H : Hp} {vs : List V} {ds : List D} (r : RpAll K H vs ds) : ∀ pm : List Nat, RpAll K H (permL pm vs) (permL pm ds)
  | [] => .nil
  | i :: pm => by
    have ih := permL_rp r pm
    unfold permL at ih ⊢
    have hl := r.length
    cases hd : ds[i]? with
    | none =>
      have hu : vs[i]? = none := by
        rw [List.getElem?_eq_none_iff] at hd ⊢
        omega
      simp only [List.filterMap_cons, hd, hu]
      exact ih
    | some d =>
      obtain ⟨v, hv, rv⟩ := r.get hd
      simp only [List.filterMap_cons, hd, hv]
      exact .cons rv ih
/-- how a call with n positional values and keywords ks binds: the keywords' values stand behind, in the order pm -/
def KwB (K : PySem.W.Frag) (fd : FuncData) (ps ks : List Str) (n : Nat) (pm : List Nat) : Prop :=
  ∀ (s : Shared) (us ws : List Value), K.In s.heap → us.length = n → ws.length = ks.length → BindsTo s fd ⟨us, ks.zip ws⟩ (ps.zip (us ++ permL pm ws))
theorem _root_.L2.Fun.kwb {x qual : Str} {st : Stmt} {f : Addr} {fd : FuncData} {ps : List Str} {K : PySem.W.Frag} (F : L2.Fun K x qual st f fd) (ks : List Str) (n : Nat) (pm : List Nat)
    (h : ∀ (kV doc pm' : Value) (an : Option Addr) (cdv ct : Value) (us ws : List Value), us.length = n → ws.length = ks.length → bindArgs (PySem.W.fnOf x qual (defArgs st) (defBody st) (defScope st) .none kV doc pm' an cdv ct) ⟨us, ks.zip ws⟩ = pure (ps.zip (us ++ permL pm ws))) : KwB K fd ps ks n pm := by
  obtain ⟨oc, od, kV, doc, pm', an, cdv, ct, osl, rfl, lk, hcd⟩ := F.ex
  exact fun s us ws _ h1 h2 => .of_eq (h kV doc pm' an cdv ct us ws h1 h2)
section
variable {X : Cx} {K : KX} {W : WX} {k n n0 : Nat} {f : Addr} {fd : FuncData} {ps ks : List Str} {sp : Sp} {x : Str} {p pos kpos : Pos} {e : Expr} {es : List Expr} {kws : List Keyword} {t tk : TA} {pm : List Nat} {nm : Option Str} {fa : Ev} {fs fk : Av}
theorem run_fnGk {pins : List (Addr × Obj)} {σ : L2.St} {H : Hp} {s : Shared} {Q : VK} {us ws : List Value} {vs zs : List V} (F : FnG X.prog X.w X.K X.mg X.base k f fd ps sp) (hr : Room k X.A) (hgd : X.A.guards = some []) (hb : KwB X.K fd ps ks n pm) (tk : Takes X W)
    (I : Inv X pins σ H s) (r : Vals vs us) (rz : Vals zs ws) (l1 : vs.length = n) (l2 : zs.length = ks.length) (h : sp (vs ++ permL pm zs) H Q (WE W σ)) : wpAny (model X.prog X.w) X.A (call (.ref f) us (ks.zip ws)) (EP X pins σ Q) X.xe s := by
  refine wpAny_call (codeAny_mono (F.run X.A X.stack s H _ _ _ Q (WE W σ) hr hgd I.env0 (hb s us ws I.kIn (r.length.symm.trans l1) (rz.length.symm.trans l2)) (r.append (permL_vals rz pm)) h) fun res s' hq => ?_)
  match res, hq with
  | .error e, hq => exact passAt tk σ pins H s e s' I hq
  | .ok (.ret u), hq => exact I.after hq
  | .ok .next, hq => exact hq.elim
  | .ok .brk, hq => exact hq.elim
  | .ok .cont, hq => exact hq.elim
/-- the values of a call, positional and by keyword, in the parameters' order -/
def tKw (n m : Nat) (pm : List Nat) (t tk : TA) : TA := fun σ H Q => t σ H fun vs H1 => tk σ H1 fun zs H2 => vs.length = n ∧ zs.length = m ∧ Q (vs ++ permL pm zs) H2
def aKw (n m : Nat) (pm : List Nat) (f g : Av) : Av := fun ρ => (f ρ).bind fun x => (g x.2).bind fun y => if x.1.length = n ∧ y.1.length = m then .ok (x.1 ++ permL pm y.1, y.2) else .bad
theorem den_kw {m : Nat} (h1 : DenA K W t fs) (h2 : DenA K W tk fk) : DenA K W (tKw n m pm t tk) (aKw n m pm fs fk) := by
  refine ⟨fun {M G σ ρ H d ρ'} r0 e Q q => ?_, fun {M G σ ρ H c d} r0 e x Q => ?_⟩
  · obtain ⟨⟨xs, ρ1⟩, e1, e⟩ := R.bind_eq_ok e
    obtain ⟨⟨ys, ρ2⟩, e2, e⟩ := R.bind_eq_ok e
    by_cases hc : xs.length = n ∧ ys.length = m
    · simp only [if_pos hc] at e
      cases e
      exact h1.ok r0 e1 _ fun vs H1 A ra => h2.ok A.rel e2 _ fun zs H2 B rb => ⟨ra.length.trans hc.1, rb.length.trans hc.2, q _ H2 (A.trans B) ((ra.keep B.same).append (permL_rp rb pm))⟩
    · simp only [if_neg hc] at e; cases e
  · rcases R.bind_eq_exc e with e | ⟨⟨xs, ρ1⟩, e1, e⟩
    · exact h1.exc r0 e x _
    · refine h1.ok r0 e1 _ fun vs H1 A ra => ?_
      rcases R.bind_eq_exc e with e | ⟨⟨ys, ρ2⟩, e2, e⟩
      · exact h2.exc A.rel e x _
      · simp only at e
        split at e <;> cases e
def KD (X : Cx) (K : KX) (W : WX) (kws : List Keyword) (f : Av) : Prop := ∃ t, PK X kws t ∧ DenA K W t f
theorem kd_nil : KD X K W [] cNil := ⟨_, pk_nil, fun r e Q q => by cases e; exact q _ _ (.refl r) .nil, fun r e => by cases e⟩
theorem kd_cons (ha : PD X K W e fa) (hs : KD X K W kws fs) : KD X K W (⟨nm, e, kpos⟩ :: kws) (cCons fa fs) := by
  obtain ⟨t, h1, h2⟩ := ha
  obtain ⟨u, h3, h4⟩ := hs
  refine ⟨_, pk_cons h1 h3, fun {M G σ ρ H d ρ'} r0 e Q q => ?_, fun {M G σ ρ H c d} r0 e x Q => ?_⟩
  · obtain ⟨⟨z, ρ1⟩, e1, e⟩ := R.bind_eq_ok e
    obtain ⟨⟨zs, ρ2⟩, e2, e⟩ := map_ok e
    cases e
    refine h2.ok r0 e1 _ fun v H1 a1 r1 => h4.ok a1.rel e2 _ fun vs H2 a2 r2 => ?_
    exact q _ _ (a1.trans a2) (.cons (r1.keep a2.same) r2)
  · rcases R.bind_eq_exc e with e | ⟨⟨z, ρ1⟩, e1, e⟩
    · exact h2.exc r0 e x _
    · exact h2.ok r0 e1 _ fun v H1 a1 r1 => h4.exc a1.rel (map_exc e) x _
theorem pe_callGk (F : FnG X.prog X.w X.K X.mg X.base k f fd ps sp) (hr : Room k X.A) (hgd : X.A.guards = some []) (hg : Gl X x) (hm : X.mg x = some (.ref f)) (hk : PySem.W.keepIn X.K (.ref f) = true) (hb : KwB X.K fd ps ks n pm) (tkk : Takes X W)
    (ha : PA X (e :: es) t) (hkw : PK X kws tk) (hall : (backToKw pos (keywordEach kws X.env)).all (·.1.isSome) = true := by rfl) (hks : (backToKw pos (keywordEach kws X.env)).filterMap (·.1) = ks := by rfl) (hdb : (x == ("__debug__" : Str)) = false := by decide)
    (he : starEach (e :: es) X.env = (false, eval e X.env) :: starEach es X.env := by rfl) (hpl : ((backTo pos (starEach (e :: es) X.env)).any (·.1) || (backToKw pos (keywordEach kws X.env)).any (·.1.isNone)) = false := by rfl) :
    PE X (.Call (.Name x p) (e :: es) kws pos) (tCallSD sp [] (WE W) (tKw n ks.length pm t tk)) := by
  refine ⟨fun pins s σ H Q I h => wpAny_Call_Name_kw (ld_glob I hg hm ?_ hdb)⟩
  refine PySem.W.callWith_KW (h₀ := X.base) I.ok.mod.kin hk hall (thn (ha.run pos pins s σ H _ I h) fun us s1 ⟨vs, H1, I1, r, q⟩ => ?_) hpl he
  refine thn (hkw.run pos pins s1 σ H1 _ I1 q) fun ws s2 ⟨zs, H2, I2, rz, l1, l2, q2⟩ => ⟨I2.kIn, ?_⟩
  rw [hks]
  exact run_fnGk F hr hgd hb tkk I2 r rz l1 l2 (by have q3 : sp ((vs ++ permL pm zs) ++ []) H2 Q (WE W σ) := q2; rw [List.append_nil] at q3; exact q3)
theorem pe_callGk0 (F : FnG X.prog X.w X.K X.mg X.base k f fd ps sp) (hr : Room k X.A) (hgd : X.A.guards = some []) (hg : Gl X x) (hm : X.mg x = some (.ref f)) (hk : PySem.W.keepIn X.K (.ref f) = true) (hb : KwB X.K fd ps ks 0 pm) (tkk : Takes X W)
    (hkw : PK X kws tk) (hall : (backToKw pos (keywordEach kws X.env)).all (·.1.isSome) = true := by rfl) (hks : (backToKw pos (keywordEach kws X.env)).filterMap (·.1) = ks := by rfl) (hdb : (x == ("__debug__" : Str)) = false := by decide)
    (hpl : ((backTo pos (starEach [] X.env)).any (·.1) || (backToKw pos (keywordEach kws X.env)).any (·.1.isNone)) = false := by rfl) :
    PE X (.Call (.Name x p) [] kws pos) (tCallSD sp [] (WE W) (tKw 0 ks.length pm tNil tk)) := by
  refine ⟨fun pins s σ H Q I h => wpAny_Call_Name_kw (ld_glob I hg hm ?_ hdb)⟩
  refine PySem.W.callWith_KW0 (h₀ := X.base) I.ok.mod.kin hk hall ?_ hpl
  refine thn (hkw.run pos pins s σ H _ I h) fun ws s2 ⟨zs, H2, I2, rz, l1, l2, q2⟩ => ⟨I2.kIn, ?_⟩
  rw [hks]
  have q3 : sp (([] ++ permL pm zs) ++ []) H2 Q (WE W σ) := q2
  rw [List.append_nil] at q3
  exact run_fnGk (us := []) (vs := []) (Q := Q) F hr hgd hb tkk I2 .nil rz rfl l2 q3
variable {F : Ev} {FA : Av}
theorem den_nil : DenA K W tNil cNil := ⟨fun r e Q q => by cases e; exact q _ _ (.refl r) .nil, fun r e => by cases e⟩
theorem pd_callK (FN : FnG X.prog X.w X.K X.mg X.base k f fd ps (spD K n F)) (hr : Room k X.A) (hgd : X.A.guards = some []) (hm : X.mg x = some (.ref f)) (hk : PySem.W.keepIn X.K (.ref f) = true) (hb : KwB X.K fd ps ks n0 pm) (tk : Takes X W) (ha : AD X K W (e :: es) fs) (hkw : KD X K W kws fk) (hg : Gl X x := by rfl)
    (hall : (backToKw pos (keywordEach kws X.env)).all (·.1.isSome) = true := by rfl) (hks : (backToKw pos (keywordEach kws X.env)).filterMap (·.1) = ks := by rfl) (hdb : (x == ("__debug__" : Str)) = false := by decide)
    (he : starEach (e :: es) X.env = (false, eval e X.env) :: starEach es X.env := by rfl) (hpl : ((backTo pos (starEach (e :: es) X.env)).any (·.1) || (backToKw pos (keywordEach kws X.env)).any (·.1.isNone)) = false := by rfl) :
    PD X K W (.Call (.Name x p) (e :: es) kws pos) (cCall n F (aKw n0 ks.length pm fs fk)) := by
  obtain ⟨t, h1, h2⟩ := ha
  obtain ⟨u, h3, h4⟩ := hkw
  exact ⟨_, pe_callGk FN hr hgd hg hm hk hb tk h1 h3 hall hks hdb he hpl, den_call (den_kw h2 h4)⟩
theorem pd_callK0 (FN : FnG X.prog X.w X.K X.mg X.base k f fd ps (spD K n F)) (hr : Room k X.A) (hgd : X.A.guards = some []) (hm : X.mg x = some (.ref f)) (hk : PySem.W.keepIn X.K (.ref f) = true) (hb : KwB X.K fd ps ks 0 pm) (tk : Takes X W) (hkw : KD X K W kws fk) (hg : Gl X x := by rfl)
    (hall : (backToKw pos (keywordEach kws X.env)).all (·.1.isSome) = true := by rfl) (hks : (backToKw pos (keywordEach kws X.env)).filterMap (·.1) = ks := by rfl) (hdb : (x == ("__debug__" : Str)) = false := by decide)
    (hpl : ((backTo pos (starEach [] X.env)).any (·.1) || (backToKw pos (keywordEach kws X.env)).any (·.1.isNone)) = false := by rfl) :
    PD X K W (.Call (.Name x p) [] kws pos) (cCall n F (aKw 0 ks.length pm cNil fk)) := by
  obtain ⟨u, h3, h4⟩ := hkw
  exact ⟨_, pe_callGk0 FN hr hgd hg hm hk hb tk h3 hall hks hdb hpl, den_call (den_kw den_nil h4)⟩
theorem fd_callK (FN : FnG X.prog X.w X.K X.mg X.base k f fd ps (spF K n FA)) (hr : Room k X.A) (hgd : X.A.guards = some []) (hm : X.mg x = some (.ref f)) (hk : PySem.W.keepIn X.K (.ref f) = true) (hb : KwB X.K fd ps ks n0 pm) (tk : Takes X W) (ha : AD X K W (e :: es) fs) (hkw : KD X K W kws fk) (hg : Gl X x := by rfl)
    (hall : (backToKw pos (keywordEach kws X.env)).all (·.1.isSome) = true := by rfl) (hks : (backToKw pos (keywordEach kws X.env)).filterMap (·.1) = ks := by rfl) (hdb : (x == ("__debug__" : Str)) = false := by decide)
    (he : starEach (e :: es) X.env = (false, eval e X.env) :: starEach es X.env := by rfl) (hpl : ((backTo pos (starEach (e :: es) X.env)).any (·.1) || (backToKw pos (keywordEach kws X.env)).any (·.1.isNone)) = false := by rfl) :
    PDF X K W (.Call (.Name x p) (e :: es) kws pos) (cCallF n FA (aKw n0 ks.length pm fs fk)) := by
  obtain ⟨t, h1, h2⟩ := ha
  obtain ⟨u, h3, h4⟩ := hkw
  exact ⟨_, pe_callGk FN hr hgd hg hm hk hb tk h1 h3 hall hks hdb he hpl, den_callF (den_kw h2 h4)⟩
theorem fd_callK0 (FN : FnG X.prog X.w X.K X.mg X.base k f fd ps (spF K n FA)) (hr : Room k X.A) (hgd : X.A.guards = some []) (hm : X.mg x = some (.ref f)) (hk : PySem.W.keepIn X.K (.ref f) = true) (hb : KwB X.K fd ps ks 0 pm) (tk : Takes X W) (hkw : KD X K W kws fk) (hg : Gl X x := by rfl)
    (hall : (backToKw pos (keywordEach kws X.env)).all (·.1.isSome) = true := by rfl) (hks : (backToKw pos (keywordEach kws X.env)).filterMap (·.1) = ks := by rfl) (hdb : (x == ("__debug__" : Str)) = false := by decide)
    (hpl : ((backTo pos (starEach [] X.env)).any (·.1) || (backToKw pos (keywordEach kws X.env)).any (·.1.isNone)) = false := by rfl) :
    PDF X K W (.Call (.Name x p) [] kws pos) (cCallF n FA (aKw 0 ks.length pm cNil fk)) := by
  obtain ⟨u, h3, h4⟩ := hkw
  exact ⟨_, pe_callGk0 FN hr hgd hg hm hk hb tk h3 hall hks hdb hpl, den_callF (den_kw den_nil h4)⟩
/-- no exception is wanted -/
theorem takes_F : Takes X wF := fun _ _ ⟨_, _, _, _, _, _, _, _, _, _, _, _, _, _, _, _, w⟩ => w.elim
end
end PyD

set_option Elab.async false
set_option linter.all false
set_option maxRecDepth 100000
set_option maxHeartbeats 1000000
namespace PyD
open PySem PySem.Spec L2
open PyProof.Rows hiding St
/-! ### an exception that is kept behind its clause -/
section
variable {X : Cx} {pins : List (Addr × Obj)} {σ : L2.St} {H : Hp} {s : Shared}
theorem excHold_ok {P : Program} {w : World} {H : Hp} {h : Heap} {a C dx : Addr} {oe : Obj} {vs : Array Value} (e : h.get? a = some oe) (z : oe.cls = .ref C) (z2 : oe.dict = some dx) (d : oe.data = .fields vs) : ObjOk P w H h a (ExcHold a C dx) :=
  ⟨⟨oe, e, z, z2, vs, d⟩, ⟨oe, e⟩, fun _ _ ⟨o, q, r⟩ k => ⟨o, k o q, r⟩⟩
/-- a pinned object that is new is tracked -/
theorem Inv.track {a : Addr} {oe : Obj} {o : HO} (I : Inv X ((a, oe) :: pins) σ H s) (hx : X.ex = []) (n0 : X.s_0.heap.get? a = none) (np : ∀ p ∈ X.pn ++ pins, p.1 ≠ a) (new : ObjOk X.prog X.w (upd H a o) s.heap a o) : Inv X pins σ (upd H a o) s := by
  obtain ⟨e, n, ne, nf, d⟩ := I.pin (a, oe) (List.mem_append_right _ List.mem_cons_self)
  have ne0 : ∀ b u, X.s_0.heap.get? b = some u → b ≠ a := fun b u q z => by rw [z, n0] at q; cases q
  refine ⟨I.ok, I.os, I.bare, ⟨I.base.keep, I.base.slot, fun b u q m hb => ?_, I.base.there, fun b xs q => ?_, fun b u v q => ?_, fun b ps q => ?_⟩, I.loc, I.cell, ?_, fun x c q => ?_, fun p hp => ?_, ?_, I.len⟩
  · rw [upd_ne (ne0 b u q)]; exact I.base.free b u q m hb
  · have z := I.base.tups b xs q
    rw [upd_ne (ne_of_none z n)]; exact z
  · have z := I.base.frzs b u v q
    rw [upd_ne (ne_of_none z n)]; exact z
  · obtain ⟨m, z⟩ := I.base.tbls b ps q
    exact ⟨m, by rw [upd_ne (ne_of_none z n)]; exact z⟩
  · rw [upd_ne (Ne.symm ne)]; exact I.free
  · rw [upd_ne (fun z => ?_)]
    · exact I.freeC x c q
    · obtain ⟨v, oc, ho, hd⟩ := I.cell x c q
      have e' : s.heap.get? a = some oe := e
      rw [z, e'] at ho
      cases ho
      exact d v hd
  · obtain ⟨e1, n1, r1⟩ := I.pin p (by
      rcases List.mem_append.mp hp with h | h
      · exact List.mem_append_left _ h
      · exact List.mem_append_right _ (List.mem_cons_of_mem _ h))
    exact ⟨e1, by rw [upd_ne (np p hp)]; exact n1, r1⟩
  · exact L2.HOk.laidN I.hok (fun _ _ q => q) n new
theorem Inv.unsuiteP {a : Addr} {q : Addr × Obj} {pn' : List (Addr × Obj)} (I : Inv (X.suite a (q :: (X.pn ++ pins))) pn' σ H s) (ok : X.Ok) : Inv X (q :: pins) σ H s :=
  ⟨ok, I.os, I.bare, I.base, I.loc, I.cell, I.free, I.freeC, fun p hp => I.pin p (List.mem_append_left _ (by
    rcases List.mem_append.mp hp with h | h
    · exact List.mem_cons_of_mem _ (List.mem_append_left _ h)
    · rcases List.mem_cons.mp h with h | h
      · rw [h]; exact List.mem_cons_self
      · exact List.mem_cons_of_mem _ (List.mem_append_right _ h))), I.hok, I.len⟩
/-- what 'except x as n: y = n' wishes: slot i is n's, j is y's -/
def wKeep (K : PySem.W.Frag) (c : Value) (i j : Nat) (Wout : WX) (Dn : Ends) : WX := fun cls d σ H => ∃ b, PySem.W.exmOne K cls c = some b ∧
  (b = true → ∃ C dx, cls = .ref C ∧ d = some dx ∧ ∀ a, H a = none → Dn.nx (((σ.set i (some (.ref a))).set j (some (.ref a))).set i none) (upd H a (ExcHold a C dx))) ∧ (b = false → Wout cls d σ H)
variable {x n y : Str} {c : Value} {i j : Nat} {body : List Stmt} {np np2 py ps pos pos' : Pos} {tb : WX → TS} {Wout : WX}
theorem ps_try_keep (hs : X.stack = X.env :: X.outer) (hf : X.env.frame = some X.env.locals) (hx : X.ex = []) (hN : X.N.Nodup) (hi : X.N[i]? = some n) (hj : X.N[j]? = some y) (hij : i ≠ j) (hln : X.env.kindOf n = some .local) (hly : X.env.kindOf y = some .local) (hc : Names X x c) (tk : Takes X Wout)
    (hdn : (n == ("__debug__" : Str)) = false) (hcn : (n == ("__classdict__" : Str)) = false) (hsw : ∀ A pn, swapsWith (.Name n np2) (some (.Name y py)) ps.line ({ X with A := A, calm := false, pn := pn, xe := fun _ _ => False } : Cx).env = pure false)
    (hb : ∀ (W : WX) (pn : List (Addr × Obj)) (xe : Value → Shared → Prop), Takes (X.tr pn xe) W → PassesOwn (model X.prog X.w) X.A X.env xe → PSs (X.tr pn xe) body (tb W)) :
    PS X (.Try body [.ExceptHandler (some (.Name x np)) (some n) [.Assign [.Name y py] (.Name n np2) ps] pos'] [] [] pos) (fun Dn σ H => tb (wKeep X.K c i j Wout Dn) Dn σ H) := by
  refine ⟨fun pins s σ H Dn I h => ?_⟩
  have ok := I.ok
  have hfr : X.A.frames = some (X.env :: X.outer) := by rw [ok.frames, hs]
  have hloc : Loc X.env.scope n := .inl hln
  refine wpAny_Try_except ?_
  refine wpAny_mono ((hb (wKeep X.K c i j Wout Dn) (X.pn ++ pins) (fun e s₁ => wpAny (model X.prog X.w) X.A (noteFrame e X.env) (fun _ s₂ => wpAny (model X.prog X.w) X.A (setFlight e none) (fun _ s₃ =>
    wpAny (model X.prog X.w) X.A (handleBy e X.env [.ExceptHandler (some (.Name x np)) (some n) [.Assign [.Name y py] (.Name n np2) ps] pos']) (SP X pins Dn) X.xe s₃) X.xe s₂) X.xe s₁) (fun u s' xx => ?_) PassesOwn.looking).run [] s σ H Dn (I.toTry _) h) (fun f s1 hsp => ?_) (fun e s1 he => he)
  · obtain ⟨a, B, sI, pins', σ', H', cls, d, rfl, J', nb, up, sky, na, os, ag, b, hb1, hyes, hno⟩ := xx
    have J : Inv X pins σ' H' sI := J'.ofTry ok
    have sky' : Sky B (X.env :: X.outer) a (Zc cls d) X.env.locals s'.heap := by rw [← hs]; exact sky
    show wpAny (model X.prog X.w) X.A (noteFrame (.ref a) X.env) _ _ _
    refine Sky.land Zc.steady hfr hf sky' fun h3 fl3 up3 => ?_
    have J3 : Inv X pins σ' H' { s' with heap := h3 } := J.landed nb fl3.1 (up.trans up3) os ag
    obtain ⟨oe3, vs3, he3, hz3, hd3⟩ := fl3.there
    have notFr : ∀ {h : Heap} {o : Obj} {vs : Array Value}, h.FunFrames B (X.env :: X.outer) → h.get? a = some o → o.data = .fields vs → a ∉ frs (X.env :: X.outer) := fun {h o vs} ff e dd hm => by
      obtain ⟨_, o', e', hnf⟩ := ff.mem hm
      rw [e] at e'; cases e'
      exact hnf _ dd
    have nfr := notFr fl3.2.2.1 he3 hd3
    have nL : a ≠ X.env.locals := fun z => nfr (List.mem_filterMap.mpr ⟨X.env, List.mem_cons_self, by rw [hf, z]⟩)
    have nF : a ∉ X.fs := fun hm => by
      obtain ⟨e, he, q⟩ := List.mem_filterMap.mp hm
      exact nfr (List.mem_filterMap.mpr ⟨e, List.mem_cons_of_mem _ he, q⟩)
    have nI : sI.heap.get? a = none := by
      cases z : sI.heap.get? a with
      | none => rfl
      | some o =>
        have z2 := nb a o z (by rw [hs]; exact nfr)
        rw [fl3.2.1] at z2; cases z2
    have n0 : X.s_0.heap.get? a = none := by
      cases z : X.s_0.heap.get? a with
      | none => rfl
      | some o =>
        obtain ⟨o', z2⟩ := J.base.there a o z (by rw [hx]; exact fun z => nomatch z)
        rw [nI] at z2; cases z2
    have npn : ∀ p ∈ X.pn ++ pins, p.1 ≠ a := fun p hp z => by
      obtain ⟨e, _⟩ := J.pin p hp
      rw [z, nI] at e; cases e
    have S3 := J3.suite he3 hd3 na nL nF
    refine wpAny_handleBy_cons (codeAny_handlers_test ?_) (by intro q; cases q)
    have LT : PySem.W.Looks (model X.prog X.w) h3 (typeOf (.ref a)) cls := fun A Q E s k q => wpAny_typeOf_ref (k _ _ he3) (by rw [hz3.1]; exact q)
    have LM := PySem.W.exm_one (M := model X.prog X.w) (J3.kIn) LT hb1
    have test : ∀ {Q : Value → Shared → Prop} {E : Value → Shared → Prop}, Q c { s' with heap := h3 } → wpAny (model X.prog X.w) (X.A.mark (some (.ref a))) (eval (.Name x np) X.env) Q E { s' with heap := h3 } := fun {Q E} q => by
      obtain ⟨hg, hdbg, hm | ⟨hm, hv, hnn⟩⟩ := hc
      · exact ld_glob (X := X.suite a ((a, oe3) :: (X.pn ++ pins))) S3 hg hm q hdbg
      · exact ld_blt (X := X.suite a ((a, oe3) :: (X.pn ++ pins))) S3 hg hm hv q hnn hdbg
    refine test (LM.here ?_)
    cases b with
    | true =>
      obtain ⟨C, dx, rfl, rfl, hk⟩ := hyes rfl
      refine codeAny_handlers_suite_as ?_
      refine HandSPX.lands_againZ fl3 fun h4 fl4 up4 => ?_
      have J4 : Inv X pins σ' H' { s' with heap := h4 } := J.landed nb fl4.1 ((up.trans up3).trans up4) os ag
      obtain ⟨oe4, vs4, he4, hz4, hd4⟩ := fl4.there
      have S4 := J4.suite he4 hd4 na nL nF
      refine store_ok (X := X.suite a ((a, oe4) :: (X.pn ++ pins))) (v := .ref a) S4 hN hi hloc rfl (fun s5 S5 => ?_) (.inr hln)
      have ilt : i < σ'.length := by
        have z : i < X.N.length := (List.getElem?_eq_some_iff.mp hi).1
        have z2 : σ'.length = X.N.length := J4.len
        omega
      have suite : PSs (X.suite a ((a, oe4) :: (X.pn ++ pins))) [.Assign [.Name y py] (.Name n np2) ps] (tAsg (tVar i) (gName j)) :=
        pss_one (ps_set (X := X.suite a ((a, oe4) :: (X.pn ++ pins))) hN hj (.inl hly) (pe_var (X := X.suite a ((a, oe4) :: (X.pn ++ pins))) hi (.inl hln) hdn hcn) (hsw _ _) (.inr hly))
      refine wpAny_mono (suite.run [] s5 _ H' { nx := fun σ2 H2 => σ2 = (σ'.set i (some (.ref a))).set j (some (.ref a)) ∧ H2 = H' , rt := fun _ _ => False } S5 ⟨.ref a, List.getElem?_set_self ilt, rfl, rfl⟩) (fun f s6 hsp => ?_) (fun _ _ z => False.elim z)
      cases f with
      | next =>
        obtain ⟨σ6, H6, S6, rfl, rfl⟩ := hsp
        refine gone_ok (Inv.unsuiteP S6 ok) hN hi hln fun s7 J7 => ?_
        obtain ⟨e7, _⟩ := J7.pin (a, oe4) (List.mem_append_right _ List.mem_cons_self)
        exact ⟨_, _, Inv.track J7 hx n0 npn (excHold_ok e7 hz4.1 hz4.2 hd4), hk a na⟩
      | brk => obtain ⟨_, _, _, z⟩ := hsp; exact z.elim
      | cont => obtain ⟨_, _, _, z⟩ := hsp; exact z.elim
      | ret u => obtain ⟨_, _, _, _, _, z⟩ := hsp; exact z.elim
    | false =>
      show wpAny _ X.A (handleBy (.ref a) X.env []) _ _ _
      refine wpAny_handleBy_nil ?_
      obtain ⟨k1, k2, k3, oe, vs, T, oT, ts', he, hz, hd, h1, hr⟩ := id fl3
      unfold PySem.passOn
      refine wpAny_bind (wpAny_field he hd h1 ?_)
      rw [if_neg (show ¬ ((Value.ref T == Value.none) = true) from by simp)]
      have fin : wpAny (model X.prog X.w) X.A (setFlight (.ref a) X.env.frame) (fun _ s4 => wpAny (model X.prog X.w) X.A (throw (.ref a) : Sem Flow) (SP X pins Dn) X.xe s4) X.xe { s' with heap := h3 } := by
        rw [hf]
        refine HandSPX.setFlight_upZ fl3 fun h4 hh4 up4 => wpAny_throw (tk _ _ ?_)
        exact ⟨a, B, sI, pins, σ', H', cls, d, rfl, J, nb, (up.trans up3).trans up4, .inr (.inr (by rw [hs]; exact hh4)), na, os, ag, hno rfl⟩
      first
        | exact wpAny_bind (wpAny_pure (wpAny_bind fin))
        | exact wpAny_bind fin
  · cases f with
    | next =>
      obtain ⟨σ', H', J', q⟩ := hsp
      exact wpAny_execs_nil ⟨σ', H', J'.ofTry ok, q⟩
    | brk =>
      obtain ⟨σ', H', J', q⟩ := hsp
      exact ⟨σ', H', J'.ofTry ok, q⟩
    | cont =>
      obtain ⟨σ', H', J', q⟩ := hsp
      exact ⟨σ', H', J'.ofTry ok, q⟩
    | ret u =>
      obtain ⟨v, σ', H', J', r, q⟩ := hsp
      exact ⟨v, σ', H', J'.ofTry ok, r, q⟩
end
section
variable {X : Cx} {K : KX} {W : WX} {x n y : Str} {C : Addr} {i j : Nat} {np np2 py ps pos pos' p5 : Pos} {e : Expr} {fa : Ev}
/-- no own lists -/
def allSh (ρ : Rho) : Bool := ρ.all fun c => match c with
  | .sh _ => true
  | .no => true
  | _ => false
theorem allSh_ow {ρ : Rho} (h : allSh ρ = true) {k : Nat} {d : D} (q : IsOw ρ k d) : False := by
  have z := List.all_eq_true.mp h
  rcases q with q | q
  · have := z _ (List.mem_of_getElem? q); cases this
  · have := z _ (List.mem_of_getElem? q); cases this
/-- try: e / except X as n: y = n; hit: the classes that the clause names -/
def cTry (hit : Nat → Option Bool) (i j : Nat) (f : Ev) : Sv := fun ρ => match f ρ with
  | .ok (_, ρ') => .ok (.nx, ρ')
  | .exc c d => if allSh ρ = true ∧ i < ρ.length ∧ j < ρ.length ∧ i ≠ j then match hit c with
      | some true => .ok (.nx, (ρ.set j (.sh (.exc c d))).set i .no)
      | some false => .exc c d
      | none => .bad
    else .bad
  | .bad => .bad
theorem Rel.rebase {M : Addr → Prop} {G : Hp} {σ : L2.St} {ρ : Rho} {H : Hp} (r : Rel K M G σ ρ H) (h : allSh ρ = true) : Rel K M H σ ρ H :=
  ⟨r.len, r.sh, fun k d q => (allSh_ow h q).elim, fun _ _ _ _ _ q => (allSh_ow h q).elim, fun a ⟨k, d, q, _⟩ => (allSh_ow h q).elim, fun a m z => r.mdom a m (r.same.free z), Same.refl _⟩
/-- an expression's reading by what it computes, exceptions told -/
def eCW (K : KX) (W : WX) (f : Ev) : TE := fun σ H Q => ∃ M G ρ, Rel K M G σ ρ H ∧ ((∃ d ρ', f ρ = .ok (d, ρ') ∧ ∀ v H', After K M σ ρ H M G σ ρ' H' → Rp K (hv M σ ρ' H') v d → Q v H') ∨ ∃ c d, f ρ = .exc c d ∧ ExcPost K W M G σ c d)
theorem PD.canonW {f : Ev} (h : PD X K W e f) : PE X e (eCW K W f) := by
  obtain ⟨t, h1, h2⟩ := h
  refine ⟨fun pins s σ H Q I hq => h1.run pins s σ H Q I ?_⟩
  obtain ⟨M, G, ρ, r, ⟨d, ρ', e, q⟩ | ⟨c, d, e, q⟩⟩ := hq
  · exact h2.ok r e Q q
  · exact h2.exc r e q Q
theorem sd_try (hit : Nat → Option Bool) (hs : X.stack = X.env :: X.outer) (hf : X.env.frame = some X.env.locals) (hx : X.ex = []) (hN : X.N.Nodup) (hi : X.N[i]? = some n) (hj : X.N[j]? = some y) (hln : X.env.kindOf n = some .local) (hly : X.env.kindOf y = some .local) (hc : Names X x (.ref C)) (tk : Takes X W)
    (hh : ∀ c b, hit c = some b → PySem.W.exmOne X.K (.ref (K.CA c)) (.ref C) = some b)
    (he : ∀ (W : WX) (pn : List (Addr × Obj)) (xe : Value → Shared → Prop), Takes (X.tr pn xe) W → PD (X.tr pn xe) K W e fa) (hij : i ≠ j := by decide)
    (hdn : (n == ("__debug__" : Str)) = false := by decide) (hcn : (n == ("__classdict__" : Str)) = false := by decide) (hsw : ∀ A pn, swapsWith (.Name n np2) (some (.Name y py)) ps.line ({ X with A := A, calm := false, pn := pn, xe := fun _ _ => False } : Cx).env = pure false := by intro _ _; rfl)
    (hsx : ∀ pn xe, swapsWith e none p5.line (X.tr pn xe).env = pure false := by intro _ _; rfl) :
    SD X K W (.Try [.Expr e p5] [.ExceptHandler (some (.Name x np)) (some n) [.Assign [.Name y py] (.Name n np2) ps] pos'] [] [] pos) (cTry hit i j fa) := by
  refine ⟨_, ps_try_keep (tb := fun W => tDrop (eCW K W fa)) hs hf hx hN hi hj hij hln hly hc tk hdn hcn hsw (fun W pn xe tk' _ => pss_one (ps_expr (he W pn xe tk').canonW (hsx pn xe))), fun {M G σ ρ H fl ρ'} r0 e Dn q => ?_, fun {M G σ ρ H c d} r0 e xp Dn => ?_⟩
  · unfold cTry at e
    cases ef : fa ρ with
    | bad => rw [ef] at e; cases e
    | ok z =>
      rw [ef] at e
      obtain ⟨d, ρ1⟩ := z
      cases e
      exact ⟨M, G, ρ, r0, .inl ⟨d, ρ', ef, fun v H' A _ => q _ _ A⟩⟩
    | exc c d =>
      rw [ef] at e
      simp only at e
      split at e
      · rename_i hc2
        obtain ⟨a1, a2, a3, a4⟩ := hc2
        split at e
        · rename_i hhit
          cases e
          refine ⟨M, H, ρ, r0.rebase a1, .inr ⟨c, d, ef, fun dx v H' sm hdx hx' rp => ?_⟩⟩
          refine ⟨true, hh c true hhit, fun _ => ⟨_, dx, rfl, rfl, fun a ha => ?_⟩, fun z => by cases z⟩
          have A1 := After.grow r0 sm
          have A2 := A1.trans (After.new (o := ExcHold a (K.CA c) dx) A1.rel ha)
          have nm : ∀ b, H' b = none → ¬ M b := fun b hb hm => by
            have z1 := r0.mdom b hm
            cases z : G b with
            | none => exact z1 z
            | some o => rw [sm b o (r0.same b o z)] at hb; cases hb
          have nmx : ¬ M dx := fun hm => by
            have z1 := r0.mdom dx hm
            cases z : G dx with
            | none => exact z1 z
            | some o => rw [r0.same dx o z] at hdx; cases hdx
          have no : ∀ b, ¬ Ows σ ρ b := fun b ⟨k, d', q', _⟩ => allSh_ow a1 q'
          have hne : dx ≠ a := fun z => by rw [← z, hx'] at ha; cases ha
          have rp1 : Rp K (hv M σ ρ (upd H' a (ExcHold a (K.CA c) dx))) (.ref a) (.exc c d) := by
            refine .exc (dx := dx) (v := v) (cut_mk (fun z => z.elim (nm a ha) (no a)) upd_same) (cut_mk (fun z => z.elim nmx (no dx)) (by rw [upd_ne hne]; exact hx')) (rp.keep (cut_mono fun b o m h => ⟨fun z => z.elim m (no b), ?_⟩))
            rw [upd_ne (fun z => by rw [z, ha] at h; cases h)]; exact h
          obtain ⟨cj, hcj⟩ : ∃ cj, ρ[j]? = some cj := ⟨_, List.getElem?_eq_getElem a3⟩
          obtain ⟨rs, ss⟩ := A2.rel.set_sh hcj rp1
          obtain ⟨ci, hci⟩ : ∃ ci, (ρ.set j (.sh (.exc c d)))[i]? = some ci := ⟨_, List.getElem?_eq_getElem (by simpa using a2)⟩
          obtain ⟨rn, sn⟩ := rs.set_no (x := none) hci
          have es : (σ.set j (some (V.ref a))).set i none = ((σ.set i (some (.ref a))).set j (some (.ref a))).set i none := by
            apply List.ext_getElem?
            intro k
            simp only [List.getElem?_set, List.length_set]
            by_cases k1 : i = k
            · simp [k1]
            · by_cases k2 : j = k
              · simp [k1, k2]
              · simp [k1, k2]
          rw [← es]
          refine q _ _ ⟨rn, (A2.same.trans ss).trans sn, fun k d' hk => ?_, by simp⟩
          exact (allSh_ow a1 (.inr hk)).elim
        · cases e
        · cases e
      · cases e
  · unfold cTry at e
    cases ef : fa ρ with
    | bad => rw [ef] at e; cases e
    | ok z => rw [ef] at e; cases e
    | exc c' d' =>
      rw [ef] at e
      simp only at e
      split at e
      · rename_i hc2
        obtain ⟨a1, a2, a3, a4⟩ := hc2
        split at e
        · cases e
        · rename_i hhit
          cases e
          refine ⟨M, H, ρ, r0.rebase a1, .inr ⟨c, d, ef, fun dx v H' sm hdx hx' rp => ⟨false, hh c false hhit, (fun z => by cases z), fun _ => xp σ dx v H' (r0.same.trans sm) ?_ hx' rp⟩⟩⟩
          cases z : G dx with
          | none => rfl
          | some o => rw [r0.same dx o z] at hdx; cases hdx
        · cases e
      · cases e
end
/-! ### what is asked of a kept exception -/
structure ErrI (K : PySem.W.Frag) (C : Addr) : Prop where
  ga : PySem.W.findIn K (.ref C) "__getattribute__" = some (some (.builtin "BaseException.__getattribute__"))
  gg : PySem.W.findIn K (.ref C) "__getattr__" = some none
  noN : PySem.W.findIn K (.ref C) "value" = some none
  exC : PySem.W.subIn K (.ref C) (.type "BaseException") = some true
  hdC : PySem.W.hasDictIn K C = true
  ha : PySem.W.findIn K (.ref C) "__class__" = some (some (.builtin "object.__class__"))
  hn : PySem.W.specialIn K (.builtin "object.__class__") "__get__" = some (some (.builtin "getset_descriptor.__get__"))
  ht : PySem.W.takesIn K (.builtin "object.__class__") = some true
  hm : PySem.W.mroIn K C (.type "object") = some true
section
variable {X : Cx} {K : KX} {W : WX} {pos : Pos} {e : Expr} {fa : Ev}
theorem hold_at {pins : List (Addr × Obj)} {σ : L2.St} {H : Hp} {s : Shared} {a C dx : Addr} {v : V} (I : Inv X pins σ H s) (h : H a = some (ExcHold a C dx)) (hd : H dx = some (.xd [(("value" : Str), v)])) :
    ∃ oe od u, PySem.W.InstAt s.heap a oe C (some od) ∧ RelV v u ∧ PySem.W.lookIn "value" od = some (some u) := by
  have x1 : ObjOk X.prog X.w H s.heap a (.ext fun h => ∃ o, h.get? a = some o ∧ o.cls = .ref C ∧ o.dict = some dx ∧ ∃ vs, o.data = .fields vs) := I.hok a _ h
  obtain ⟨⟨oe, ho, hc, hdx, vs, hv⟩, _⟩ := x1
  have hx : ObjOk X.prog X.w H s.heap dx (.xd [(("value" : Str), v)]) := I.hok dx _ hd
  obtain ⟨mA, hns, hr⟩ := hx
  obtain ⟨od, hod, hl⟩ := lookIn_ns hns
  obtain ⟨u, hu, ru⟩ := RelO.some_of (v := v) (o := mA "value") (by
    have z := hr "value"
    rw [show List.lookup ("value" : Str) [(("value" : Str), v)] = some v by simp [List.lookup]] at z
    exact z)
  exact ⟨oe, od, u, ⟨ho, hc, by unfold PySem.W.notCls; rw [hv] <;> rfl, by rw [hdx]; exact hod⟩, ru, (hl "value").trans (congrArg some hu)⟩
/-- x.value; m: so many classes stand -/
def gVal (m : Nat) : D → Option D
  | .exc c d => if c < m then some d else none
  | _ => none
theorem pd_value (m : Nat) (hT : ∀ c, c < m → ErrI X.K (K.CA c)) (ha : PD X K W e fa) (hb : attributeBase e "value" X.env (eval e X.env) = eval e X.env := by rfl) : PD X K W (.Attribute e "value" pos) (c1 (gVal m) fa) := by
  obtain ⟨t, h1, h2⟩ := ha
  refine ⟨fun σ H Q => t σ H fun x H1 => ∃ a c dx v, c < m ∧ x = .ref a ∧ H1 a = some (ExcHold a (K.CA c) dx) ∧ H1 dx = some (.xd [(("value" : Str), v)]) ∧ Q v H1, ⟨fun pins s σ H Q I h => ?_⟩, fun {M G σ ρ H d ρ'} r0 e Q q => ?_, fun {M G σ ρ H c d} r0 e x Q => ?_⟩
  · refine attr_of hb (thn (h1.run pins s σ H _ I h) fun u s1 hh => ?_)
    obtain ⟨x, H1, I1, rx, a, c, dx, v, hc, rfl, e1, e2, q⟩ := hh
    obtain rfl : u = Value.ref a := rx
    obtain ⟨oe, od, u, J, ru, hl⟩ := hold_at I1 e1 e2
    have T := hT c hc
    exact HandSPX.exc_get I1.kIn J T.ga T.gg T.exC (PySem.W.findObj_own T.hdC T.noN rfl hl) (handed_of ru) ⟨v, H1, I1.tok _, ru, q⟩
  · obtain ⟨⟨y, ρ1⟩, e1, e⟩ := R.bind_eq_ok e
    obtain ⟨z, e2, e⟩ := map_ok e
    cases e
    have e2 := R.ofOpt_eq_ok e2
    cases y <;> simp only [gVal] at e2 <;> try (cases e2; done)
    split at e2
    · rename_i hc
      cases e2
      refine h2.ok r0 e1 _ fun v H1 A r1 => ?_
      cases r1 with
      | exc g1 g2 g3 => exact ⟨_, _, _, _, hc, rfl, (cut_some g1).2, (cut_some g2).2, q _ H1 A g3⟩
    · cases e2
  · rcases R.bind_eq_exc e with e | ⟨⟨y, ρ1⟩, e1, e⟩
    · exact h2.exc r0 e x _
    · exact (R.ofOpt_ne_exc (map_exc e)).elim
/-! isinstance(x, X), X a class -/
theorem findObj_dataA {KF : PySem.W.Frag} {C : Addr} {od : Option Obj} {name : Str} {a g : Value} (hc : (PySem.W.clsIn KF C).isSome = true) (ha : PySem.W.findIn KF (.ref C) name = some (some a)) (hg : PySem.W.specialIn KF a "__get__" = some (some g)) (ht : PySem.W.takesIn KF a = some true) : PySem.W.findObj KF C od name = some (.bind g a) := by
  obtain ⟨cd, hc⟩ := Option.isSome_iff_exists.mp hc
  unfold PySem.W.findObj
  rw [hc, Option.bind_some, ha, Option.bind_some]
  simp [hg, ht]
end
end PyD
namespace PyD
open PySem PySem.W PySem.Calls PyProof.Rows
theorem class_of {prog : Program} {w : World} {A : Around} {E : Value → Shared → Prop} {s : Shared} {K : Frag} {x D : Addr} {ox od : Obj} {Q : Option Value → Shared → Prop} (T : ErrI K D) (X : K.In s.heap) (I : InstAt s.heap x ox D (some od)) (h : Q (some (.ref D)) { s with toks := s.toks + 1 }) :
    wpAny (model prog w) A (getAttr? (.ref x) "__class__") Q E s := by
  have hf : findObj K D (some od) "__class__" = some (.bind (.builtin "getset_descriptor.__get__") (.builtin "object.__class__")) := findObj_dataA (by obtain ⟨cd, hc, _⟩ := any_some T.hdC; rw [hc]; rfl) T.ha T.hn T.ht
  obtain ⟨hp, g, d, t, os⟩ := s
  have L0 := I.type (M := model prog w)
  have L1 := looks_findIn (M := model prog w) X T.ga
  have L2 := looks_findIn (M := model prog w) X T.gg
  have L3 := looks_find (M := model prog w) X I hf
  have sub : Looks (model prog w) hp (isInstance (.ref x) (.type "BaseException")) true := L0.andThen (looks_subIn X T.exC)
  have hx0 : (false && onTheHeap (Value.builtin "BaseException.__getattribute__")) = false := rfl
  have hx2 : (Value.builtin "BaseException.__getattribute__" == Value.builtin "object.__getattribute__") = false := by decide +kernel
  have hx1 : (onTheHeap (Value.ref D) && Value.builtin "BaseException.__getattribute__" == Value.builtin "object.__getattribute__") = false := by rw [hx2]; rfl
  unfold getAttr? getAttrBy? getAttrBy
  refine wpAny_bind (wpAny_mkText (wpAny_bind (wpAny_attempt (wpAny_holding (wpAny_bind (L0.at (wpAny_bind (L1.at ?_))))))))
  show wpAny _ _ (if (onTheHeap (Value.ref D) && Value.builtin "BaseException.__getattribute__" == Value.builtin "object.__getattribute__") = true then _ else _) _ _ _
  rw [hx1, if_neg Bool.false_ne_true]
  unfold getAttrByItsOwn hookBefore
  refine wpAny_bind ?_
  rw [if_pos (show onTheHeap (Value.ref D) = true from rfl)]
  refine L2.at ?_
  refine wpAny_bind (wpAny_attempt (wpAny_holding ?_))
  unfold callGetattribute
  rw [hx0, if_neg Bool.false_ne_true]
  unfold boundAndCalled
  rw [PySem.F.excAttr_ValueError.ga.bind (.ref x)]
  refine wpAny_bind (wpAny_pure ?_)
  show wpAny _ _ (call (.builtin "BaseException.__getattribute__") [.ref x, .str "__class__" t]) _ _ _
  refine wpAny_call (codeAny_call_builtin PySem.F.excAttr_ValueError.ga.plain PySem.F.entry_bexc_ga ?_)
  refine @check_slot (model prog w) _ _ ⟨hp, g, d, t + 1, os⟩ "BaseException.__getattribute__" "BaseException" "__getattribute__" (.ref x) [.str "__class__" t] [] _ (by decide +kernel) (by decide +kernel) sub (PySem.F.args_bexc_ga (.ref x) (.str "__class__" t)) ?_
  unfold Builtin.«object.__getattribute__»
  refine wpAny_bind (wpAny_of_eq (a := ((Value.ref x : Value), [Value.str "__class__" t])) (by first | rfl | (simp only [slotArgs]; rfl)) ?_)
  refine wpAny_bind (wpAny_pure (wpAny_bind (L0.at (wpAny_bind (L3.at ?_)))))
  show wpAny _ _ (holding [Value.builtin "object.__class__"] (call (.builtin "getset_descriptor.__get__") [.builtin "object.__class__", .ref x, .ref D]) >>= ret) _ _ _
  refine wpAny_bind (wpAny_holding (wpAny_call (class_get (s := ⟨hp, g, d, t + 1, os⟩) (ox := ox) (od := some od) X I T.hm ?_)))
  refine wpAny_pure ?_
  show wpAny _ _ (handedOut (.ref D)) _ _ _
  rw [handedOut_of (v := .ref D) rfl]
  first
    | exact wpAny_pure (wpAny_pure h)
    | exact wpAny_pure h
    | exact wpAny_pure (wpAny_bind (wpAny_pure (wpAny_pure h)))
theorem kitx_err {K : Frag} {x D : Addr} {ox od : Obj} (T : ErrI K D) : KitX K (.ref x) (.ref D) (fun h => InstAt h x ox D (some od)) where
  ty := fun _ _ _ I => I.type
  it := fun _ _ X _ => by
    obtain ⟨cdD, hcD, _⟩ := any_some T.hdC
    unfold clsIn at hcD
    split at hcD
    · rename_i c' d' cd' sl' ho
      intro A' Q' E' s' k q
      unfold isType loadHead
      exact wpAny_bind (wpAny_loadPart (k _ _ (X _ _ ho)) (wpAny_pure q))
    · cases hcD
  ne := fun h tp dd its n sl X htp => by
    obtain ⟨cdD, hcD, _⟩ := any_some T.hdC
    refine Bool.eq_false_iff.mpr fun q => ?_
    have e : D = tp := Value.ref.inj (beq_iff_eq.mp q)
    subst e
    unfold clsIn at hcD
    split at hcD
    · rename_i c' d' cd' sl' ho
      have z := (X _ _ ho).symm.trans htp
      cases z
    · cases hcD
  ca := fun X I k => class_of T X I k
end PyD
namespace PyD
open PySem PySem.Spec L2
open PyProof.Rows hiding St
section
variable {X : Cx} {K : KX} {W : WX} {pos p p2 : Pos} {e e2 : Expr} {fa : Ev} {xC : Str} {cv : V} {cu : Value}
/-- isinstance of a kept exception: tab tells the answers, class by class -/
def gIsX (tab : List Bool) : D → Option D
  | .exc c _ => (tab[c]?).map .bl
  | _ => none
def rIsX (X : Cx) (K : KX) (tab : List Bool) (cv : V) : List V → Hp → VK → Prop := fun xs H Q => ∃ a c dx v b, xs = [.ref a, cv] ∧ tab[c]? = some b ∧ H a = some (ExcHold a (K.CA c) dx) ∧ H dx = some (.xd [(("value" : Str), v)]) ∧ Q (.bl b) H
theorem call_isX (tab : List Bool) (hT : ∀ c b, tab[c]? = some b → ErrI X.K (K.CA c) ∧ PySem.W.kitOne X.K (.ref (K.CA c)) cu = some b) (hcv : ∀ u, RelV cv u → u = cu) : CallR X (.builtin "isinstance") (rIsX X K tab cv) := by
  intro pins s σ H xs us Q I r h
  obtain ⟨a, c, dx, v, b, rfl, ht, e1, e2, q⟩ := h
  cases r with
  | cons rx rr =>
    cases rr with
    | cons rt rr =>
      cases rr
      cases rx
      have ec := hcv _ rt
      subst ec
      obtain ⟨oe, od, u, J, ru, hl⟩ := hold_at I e1 e2
      obtain ⟨T, hk⟩ := hT c b ht
      exact PySem.W.kia_one (kitx_err T) I.kIn J hk (fun z => nomatch z) fun tk => ⟨.bl b, H, I.kept (t' := tk) fun _ _ z => z, rfl, q⟩
theorem den_isX {tab : List Bool} {ta : TE} (ha : Den K W ta fa) : Den K W (tCB (rIsX X K tab cv) (tCons ta (tCons (tC cv) tNil))) (c1 (gIsX tab) fa) := by
  refine ⟨fun {M G σ ρ H d ρ'} r0 e Q q => ?_, fun {M G σ ρ H c d} r0 e x Q => ?_⟩
  · obtain ⟨⟨y, ρ1⟩, e1, e⟩ := R.bind_eq_ok e
    obtain ⟨z, e2, e⟩ := map_ok e
    cases e
    have e2 := R.ofOpt_eq_ok e2
    cases y <;> simp only [gIsX] at e2 <;> try (cases e2; done)
    obtain ⟨b, hb, rfl⟩ := Option.map_eq_some_iff.mp e2
    refine ha.ok r0 e1 _ fun v H1 A r1 => ?_
    cases r1 with
    | exc g1 g2 g3 => exact ⟨_, _, _, _, b, rfl, hb, (cut_some g1).2, (cut_some g2).2, q _ H1 A (.bl b)⟩
  · rcases R.bind_eq_exc e with e | ⟨⟨y, ρ1⟩, e1, e⟩
    · exact ha.exc r0 e x _
    · exact (R.ofOpt_ne_exc (map_exc e)).elim
/-- .. an own class -/
theorem pd_isX (tab : List Bool) {C : Addr} (hT : ∀ c b, tab[c]? = some b → ErrI X.K (K.CA c) ∧ PySem.W.kitOne X.K (.ref (K.CA c)) (.ref C) = some b) (hm : X.mg "isinstance" = none) (hC : X.mg xC = some (.ref C)) (ha : PD X K W e fa) (hg : Gl X "isinstance" := by rfl) (hgC : Gl X xC := by rfl) (hdC : (xC == ("__debug__" : Str)) = false := by decide)
    (he : starEach [e, .Name xC p2] X.env = (false, eval e X.env) :: starEach [.Name xC p2] X.env := by rfl) (he2 : starEach [.Name xC p2] X.env = (false, eval (.Name xC p2) X.env) :: starEach [] X.env := by rfl) (hpl : (backTo pos (starEach [.Name xC p2] X.env)).any (·.1) = false := by rfl) :
    PD X K W (.Call (.Name "isinstance" p) [e, .Name xC p2] [] pos) (c1 (gIsX tab) fa) := by
  obtain ⟨t, h1, h2⟩ := ha
  exact ⟨_, pe_callB (call_isX (cv := .ref C) tab hT fun u r => r) hg hm (by decide +kernel) (pa_cons h1 (pa_cons (pe_glob (v := .ref C) hgC hC rfl hdC) pa_nil he2) he) (by decide) (by decide) he hpl, den_isX h2⟩
/-- .. a built-in class -/
theorem pd_isXB (tab : List Bool) {T : String} (hT : ∀ c b, tab[c]? = some b → ErrI X.K (K.CA c) ∧ PySem.W.kitOne X.K (.ref (K.CA c)) (.type T) = some b) (hm : X.mg "isinstance" = none) (hC : X.mg xC = none) (hv : bootBuiltins xC = some (.type T)) (ha : PD X K W e fa) (hg : Gl X "isinstance" := by rfl) (hgC : Gl X xC := by rfl) (hnC : xC ≠ "__name__" := by decide) (hdC : (xC == ("__debug__" : Str)) = false := by decide)
    (he : starEach [e, .Name xC p2] X.env = (false, eval e X.env) :: starEach [.Name xC p2] X.env := by rfl) (he2 : starEach [.Name xC p2] X.env = (false, eval (.Name xC p2) X.env) :: starEach [] X.env := by rfl) (hpl : (backTo pos (starEach [.Name xC p2] X.env)).any (·.1) = false := by rfl) :
    PD X K W (.Call (.Name "isinstance" p) [e, .Name xC p2] [] pos) (c1 (gIsX tab) fa) := by
  obtain ⟨t, h1, h2⟩ := ha
  exact ⟨_, pe_callB (call_isX (cv := .ty T) tab hT fun u r => r) hg hm (by decide +kernel) (pa_cons h1 (pa_cons (pe_bltn (v := .ty T) hgC hC hv rfl hnC hdC) pa_nil he2) he) (by decide) (by decide) he hpl, den_isX h2⟩
end
end PyD

set_option Elab.async false
set_option linter.all false
set_option maxRecDepth 100000
namespace PyD
open PySem PySem.Spec L2
open PyProof.Rows hiding St
section
variable {X : Cx} {K : KX} {W : WX} {pos p : Pos} {a b e : Expr} {fa fb : Ev} {es : List Expr} {fs ga gb : Av}
/-! ### {}, tuple(x), list(text) -/
def cDct0 : Ev := fun ρ => .ok (.dct [], ρ)
theorem pd_dct0 : PD X K W (.Dict [] [] pos) cDct0 := by
  refine ⟨_, pe_dnewK, fun {M G σ ρ H d ρ'} r0 e Q q => ?_, fun r e => by cases e⟩
  cases e
  exact fun p n => q _ _ (.new r0 n) (.dct (cut_mk (r0.fresh_hv n) upd_same) .nil)
def cTupOf (f : Ev) : Ev := fun ρ => (f ρ).bind fun x => match itemsD x.1 with
  | some ds => .ok (.tup ds, x.2)
  | none => .bad
theorem pd_tupOf (hm : X.mg "tuple" = none) (ha : PDP X K W e fa) (hg : Gl X "tuple" := by rfl) (hK : X.K = K.K := by rfl) (he : starEach [e] X.env = (false, eval e X.env) :: starEach [] X.env := by rfl) : PD X K W (.Call (.Name "tuple" p) [e] [] pos) (cTupOf fa) := by
  obtain ⟨t, h1, h2⟩ := ha
  refine ⟨_, pe_callTy call_tuple_of hg hm (by decide +kernel) (pa_cons h1 pa_nil he) (by decide) (by decide) he rfl, fun {M G σ ρ H d ρ'} r0 e Q q => ?_, fun {M G σ ρ H c d} r0 e x Q => ?_⟩
  · obtain ⟨⟨x, ρ1⟩, e1, e⟩ := R.bind_eq_ok e
    cases hi : itemsD x with
    | none => simp only [hi] at e; cases e
    | some ds =>
      simp only [hi] at e
      cases e
      refine h2.ok r0 e1 _ fun v H1 A1 r1 => ?_
      cases x <;> simp only [itemsD] at hi <;> cases hi
      · obtain ⟨p, vs, rfl, a1, a2⟩ := r1.lst A1.rel
        refine ⟨p, vs, rfl, .inl ⟨.inl (.inl a1), fun l n => ?_⟩⟩
        have B := After.new (o := .tup vs) A1.rel n
        exact q _ _ (A1.trans B) (.tup (.inl (.inl (cut_mk (A1.rel.fresh_hv n) upd_same))) (a2.keep B.same))
      · have r1 := r1.notL A1.rel (fun _ z => by cases z)
        cases r1 with
        | @tup p vs _ a1 a2 => exact ⟨p, vs, rfl, .inr ⟨by rw [hK]; exact SqT.keep (cut_same _ _) a1, q _ _ A1 (.tup a1 a2)⟩⟩
  · rcases R.bind_eq_exc e with e | ⟨⟨z, ρ1⟩, e1, e⟩
    · exact h2.exc r0 e x _
    · simp only at e
      split at e <;> cases e
theorem vals_of_get : ∀ {vs : List V} {us : List Value}, vs.length = us.length → (∀ (j : Nat) (v : V) (u : Value), vs[j]? = some v → us[j]? = some u → RelV v u) → Vals vs us
  | [], [], _, _ => .nil
  | [], _ :: _, h, _ => by cases h
  | _ :: _, [], h, _ => by cases h
  | v :: vs, u :: us, h, f => .cons (f 0 v u rfl rfl) (vals_of_get (by simpa using h) fun j x y hx hy => f (j + 1) x y hx hy)
def rListS : List V → Hp → VK → Prop := fun xs H Q => ∃ x : Str, xs = [.str x] ∧ x.length ≤ sizeLine ∧ ∀ l, H l = none → Q (.ref l) (upd H l (.lst (x.cps.toList.map fun c => V.str ⟨#[c]⟩)))
theorem call_listS (hc : X.calm = true) : CallR X (.type "list") rListS := by
  intro pins s σ H xs us Q I r h
  obtain ⟨x, rfl, hz, q⟩ := h
  cases r with
  | cons r1 r2 =>
    cases r2
    obtain ⟨t, rfl⟩ := r1
    refine call_list_str (I.ok.hd hc) x t (fun h' tk acc' c' hk hS hacc => ?_) hz
    have hn : H s.heap.objs.size = none := I.hok.fresh (Nat.le_refl _)
    refine ⟨.ref s.heap.objs.size, _, I.laid (a := s.heap.objs.size) (o := .lst (x.cps.toList.map fun c => V.str ⟨#[c]⟩)) (t' := tk) hk (Nat.le_refl _) ⟨by rw [List.length_map]; exact hz, acc'.toList, c', ?_, by simpa using hS⟩, rfl, q _ hn⟩
    refine vals_of_get ?_ fun j v u hv hu => ?_
    · simpa using hacc.1.symm
    · obtain ⟨c, t2, hcx, rfl⟩ := hacc.2 j u (by simpa using hu)
      rw [List.getElem?_map] at hv
      have : x.cps.toList[j]? = some c := by simpa using hcx
      rw [this] at hv
      cases hv
      exact ⟨t2, rfl⟩
def gListS : List D → Option (List D)
  | [.str x] => if x.length ≤ sizeLine then some (signsD x) else none
  | _ => none
theorem opc_listS : OpCF K rListS gListS := by
  intro M G σ ρ H vs ds zs r0 ra hz Q q
  unfold gListS at hz
  split at hz
  · rename_i x
    split at hz
    · rename_i hl
      cases hz
      cases ra with
      | cons r1 r2 =>
        cases r2
        rw [rp_str r1]
        refine ⟨x, rfl, hl, fun l n => ?_⟩
        have B := After.protect (o := .lst (x.cps.toList.map fun c => V.str ⟨#[c]⟩)) r0 n
        obtain ⟨g, m, _⟩ := r0.fresh n
        refine q l _ _ g m B ?_
        have z := RpAll.of_strs (K := K) (H := hv (Mp M l) σ ρ (upd H l (.lst (x.cps.toList.map fun c => V.str ⟨#[c]⟩)))) (x.cps.toList.map fun c => (⟨#[c]⟩ : Str))
        rw [List.map_map, List.map_map] at z
        exact z
    · cases hz
  · cases hz
theorem fd_listS (hm : X.mg "list" = none) (ha : AD X K W [e] fs) (hc : X.calm = true := by rfl) (hg : Gl X "list" := by rfl) (he : starEach [e] X.env = (false, eval e X.env) :: starEach [] X.env := by rfl) : PDF X K W (.Call (.Name "list" p) [e] [] pos) (cCF gListS fs) :=
  fd_T (call_listS hc) opc_listS hm ha hg (by decide +kernel) (by decide) (by decide) he rfl
/-! ### a, b = e1, e2 with new lists as own ones -/
section
variable {i j : Nat} {x y : Str} {px py pt : Pos} {kt k2 : Nat} {pt2 : Pos}
/-- both own -/
def cParFF (i j : Nat) (f g : Av) : Sv := fun ρ => (f ρ).bind fun x => (g x.2).bind fun y => (putOw y.2 j y.1).bind fun ρ1 => (putOw ρ1 i x.1).map fun ρ2 => (.nx, ρ2)
def cParEF (i j : Nat) (f : Ev) (g : Av) : Sv := fun ρ => (f ρ).bind fun x => (g x.2).bind fun y => (putOw y.2 j y.1).bind fun ρ1 => (putSh ρ1 i x.1).map fun ρ2 => (.nx, ρ2)
def cParFE (i j : Nat) (f : Av) (g : Ev) : Sv := fun ρ => (f ρ).bind fun x => (g x.2).bind fun y => (putSh y.2 j y.1).bind fun ρ1 => (putOw ρ1 i x.1).map fun ρ2 => (.nx, ρ2)
theorem set_comm {α : Type} {l : List α} {i j : Nat} {u v : α} (h : i ≠ j) : (l.set i u).set j v = (l.set j v).set i u := List.set_comm _ _ h
theorem sd_parEF (i j : Nat) (hN : X.N.Nodup) (ha : PD X K W a fa) (hb : PDF X K W b gb) (hw : swappedStores [.Tuple [.Name x px, .Name y py] kt pt] (.Tuple [a, b] k2 pt2) X.env = pure (some [x, y]) := by rfl)
    (hij : i ≠ j := by decide) (hc : X.calm = true := by rfl) (hi : X.N[i]? = some x := by rfl) (hj : X.N[j]? = some y := by rfl)
    (h1 : X.env.scope.names.lookup x = some .local := by rfl) (h2 : X.env.scope.names.lookup y = some .local := by rfl)
    (hs1 : starEach [a, b] X.env = (false, eval a X.env) :: starEach [b] X.env := by rfl) (hs2 : starEach [b] X.env = (false, eval b X.env) :: starEach [] X.env := by rfl)
    (hs : swapsWithSole [.Tuple [.Name x px, .Name y py] kt pt] (.Tuple [a, b] k2 pt2) pos.line X.env = pure false := by rfl) : SD X K W (.Assign [.Tuple [.Name x px, .Name y py] kt pt] (.Tuple [a, b] k2 pt2) pos) (cParEF i j fa gb) := by
  obtain ⟨t, a1, a2⟩ := ha
  obtain ⟨u, b1, b2⟩ := hb
  refine ⟨_, ps_par hc hN hi hj hij h1 h2 (pa_cons a1 (pa_cons b1 pa_nil hs2) hs1) hw hs, fun {M G σ ρ H fl ρ'} r0 e Dn q => ?_, fun {M G σ ρ H c d} r0 e x Dn => ?_⟩
  · obtain ⟨⟨d, ρ1⟩, e1, e⟩ := R.bind_eq_ok e
    obtain ⟨⟨d2, ρ2⟩, e2, e⟩ := R.bind_eq_ok e
    obtain ⟨ρ3, e3, e⟩ := R.bind_eq_ok e
    obtain ⟨ρ4, e4, e⟩ := map_ok e
    cases e
    refine a2.ok r0 e1 _ fun v H1 A1 r1 => b2.ok A1.rel e2 _ fun p xs H2 g m A2 r2 => ⟨v, _, rfl, ?_⟩
    have B1 := after_ow A2.rel g m r2 e3
    have B2 := after_sh B1.rel ((r1.keep A2.same).keep B1.same) e4
    rw [set_comm hij]
    exact q _ _ (((A1.trans A2).trans B1).trans B2)
  · rcases R.bind_eq_exc e with e | ⟨⟨d, ρ1⟩, e1, e⟩
    · exact a2.exc r0 e (x _) _
    · refine a2.ok r0 e1 _ fun v H1 A1 r1 => ?_
      rcases R.bind_eq_exc e with e | ⟨⟨d2, ρ2⟩, e2, e⟩
      · exact b2.exc A1.rel e (x _) _
      · rcases R.bind_eq_exc e with e | ⟨ρ3, e3, e⟩
        · exact (putOw_exc e).elim
        · exact (putSh_exc (map_exc e)).elim
theorem ExcPost.up {M M' : Addr → Prop} {G G' : Hp} {σ : L2.St} {c : Nat} {d : D} (x : ExcPost K W M G σ c d) (sm : Same G G') (hm : ∀ b, M b → M' b) (gn : ∀ b, G' b = none → G b = none) : ExcPost K W M' G' σ c d := fun dx v H' s g hx rp => x dx v H' (sm.trans s) (gn dx g) hx (rp.keep (cut_mono fun b o z h => ⟨fun y => z (hm b y), h⟩))
theorem ExcPost.prot {M : Addr → Prop} {G : Hp} {σ : L2.St} {c : Nat} {d : D} {p : Addr} {o : HO} (x : ExcPost K W M G σ c d) (g : G p = none) : ExcPost K W (Mp M p) (upd G p o) σ c d := x.up (same_upd g) (fun _ => .inl) fun b hb => by
  by_cases e : b = p
  · rw [e, upd_same] at hb; cases hb
  · rw [upd_ne e] at hb; exact hb
theorem sd_parFE (i j : Nat) (hN : X.N.Nodup) (ha : PDF X K W a ga) (hb : PD X K W b fb) (hw : swappedStores [.Tuple [.Name x px, .Name y py] kt pt] (.Tuple [a, b] k2 pt2) X.env = pure (some [x, y]) := by rfl)
    (hij : i ≠ j := by decide) (hc : X.calm = true := by rfl) (hi : X.N[i]? = some x := by rfl) (hj : X.N[j]? = some y := by rfl)
    (h1 : X.env.scope.names.lookup x = some .local := by rfl) (h2 : X.env.scope.names.lookup y = some .local := by rfl)
    (hs1 : starEach [a, b] X.env = (false, eval a X.env) :: starEach [b] X.env := by rfl) (hs2 : starEach [b] X.env = (false, eval b X.env) :: starEach [] X.env := by rfl)
    (hs : swapsWithSole [.Tuple [.Name x px, .Name y py] kt pt] (.Tuple [a, b] k2 pt2) pos.line X.env = pure false := by rfl) : SD X K W (.Assign [.Tuple [.Name x px, .Name y py] kt pt] (.Tuple [a, b] k2 pt2) pos) (cParFE i j ga fb) := by
  obtain ⟨t, a1, a2⟩ := ha
  obtain ⟨u, b1, b2⟩ := hb
  refine ⟨_, ps_par hc hN hi hj hij h1 h2 (pa_cons a1 (pa_cons b1 pa_nil hs2) hs1) hw hs, fun {M G σ ρ H fl ρ'} r0 e Dn q => ?_, fun {M G σ ρ H c d} r0 e x Dn => ?_⟩
  · obtain ⟨⟨d, ρ1⟩, e1, e⟩ := R.bind_eq_ok e
    obtain ⟨⟨d2, ρ2⟩, e2, e⟩ := R.bind_eq_ok e
    obtain ⟨ρ3, e3, e⟩ := R.bind_eq_ok e
    obtain ⟨ρ4, e4, e⟩ := map_ok e
    cases e
    refine a2.ok r0 e1 _ fun p xs H1 g m A1 r1 => b2.ok A1.rel e2 _ fun w H2 A2 r2 => ⟨_, w, rfl, ?_⟩
    have B1 := after_sh A2.rel r2 e3
    have B2 := after_ow B1.rel g m ((r1.keep A2.same).keep B1.same) e4
    rw [set_comm hij]
    exact q _ _ (((A1.trans A2).trans B1).trans B2)
  · rcases R.bind_eq_exc e with e | ⟨⟨d, ρ1⟩, e1, e⟩
    · exact a2.exc r0 e (x _) _
    · refine a2.ok r0 e1 _ fun p xs H1 g m A1 r1 => ?_
      rcases R.bind_eq_exc e with e | ⟨⟨d2, ρ2⟩, e2, e⟩
      · exact b2.exc A1.rel e ((x _).prot g) _
      · rcases R.bind_eq_exc e with e | ⟨ρ3, e3, e⟩
        · exact (putSh_exc e).elim
        · exact (putOw_exc (map_exc e)).elim
theorem sd_parFF (i j : Nat) (hN : X.N.Nodup) (ha : PDF X K W a ga) (hb : PDF X K W b gb) (hw : swappedStores [.Tuple [.Name x px, .Name y py] kt pt] (.Tuple [a, b] k2 pt2) X.env = pure (some [x, y]) := by rfl)
    (hij : i ≠ j := by decide) (hc : X.calm = true := by rfl) (hi : X.N[i]? = some x := by rfl) (hj : X.N[j]? = some y := by rfl)
    (h1 : X.env.scope.names.lookup x = some .local := by rfl) (h2 : X.env.scope.names.lookup y = some .local := by rfl)
    (hs1 : starEach [a, b] X.env = (false, eval a X.env) :: starEach [b] X.env := by rfl) (hs2 : starEach [b] X.env = (false, eval b X.env) :: starEach [] X.env := by rfl)
    (hs : swapsWithSole [.Tuple [.Name x px, .Name y py] kt pt] (.Tuple [a, b] k2 pt2) pos.line X.env = pure false := by rfl) : SD X K W (.Assign [.Tuple [.Name x px, .Name y py] kt pt] (.Tuple [a, b] k2 pt2) pos) (cParFF i j ga gb) := by
  obtain ⟨t, a1, a2⟩ := ha
  obtain ⟨u, b1, b2⟩ := hb
  refine ⟨_, ps_par hc hN hi hj hij h1 h2 (pa_cons a1 (pa_cons b1 pa_nil hs2) hs1) hw hs, fun {M G σ ρ H fl ρ'} r0 e Dn q => ?_, fun {M G σ ρ H c d} r0 e x Dn => ?_⟩
  · obtain ⟨⟨d, ρ1⟩, e1, e⟩ := R.bind_eq_ok e
    obtain ⟨⟨d2, ρ2⟩, e2, e⟩ := R.bind_eq_ok e
    obtain ⟨ρ3, e3, e⟩ := R.bind_eq_ok e
    obtain ⟨ρ4, e4, e⟩ := map_ok e
    cases e
    refine a2.ok r0 e1 _ fun p xs H1 g m A1 r1 => b2.ok A1.rel e2 _ fun p2 ys H2 g2 m2 A2 r2 => ⟨_, _, rfl, ?_⟩
    have B1 := after_ow A2.rel g2 m2 r2 e3
    have B2 := after_ow B1.rel g m ((r1.keep A2.same).keep B1.same) e4
    rw [set_comm hij]
    exact q _ _ (((A1.trans A2).trans B1).trans B2)
  · rcases R.bind_eq_exc e with e | ⟨⟨d, ρ1⟩, e1, e⟩
    · exact a2.exc r0 e (x _) _
    · refine a2.ok r0 e1 _ fun p xs H1 g m A1 r1 => ?_
      rcases R.bind_eq_exc e with e | ⟨⟨d2, ρ2⟩, e2, e⟩
      · exact b2.exc A1.rel e ((x _).prot g) _
      · rcases R.bind_eq_exc e with e | ⟨ρ3, e3, e⟩
        · exact (putOw_exc e).elim
        · exact (putOw_exc (map_exc e)).elim
end
/-! ### a def as a value, called -/
theorem pd_fn (n : Nat) {x : Str} {p : Pos} (hg : Gl X x) (hm : X.mg x = some (.ref (K.FA n))) (hd : (x == ("__debug__" : Str)) = false := by decide) : PD X K W (.Name x p) (cC (.fn n)) := ⟨_, pe_glob (v := .ref (K.FA n)) hg hm rfl hd, den_c fun _ => .fn n⟩
/-- the defs that may stand there: number of arguments, mirror -/
abbrev FTab := Nat → Option (Nat × Ev)
def cCallV (tab : FTab) (ff : Ev) (fs : Av) : Ev := fun ρ => (ff ρ).bind fun z => match z.1 with
  | .fn n => match tab n with
    | some (m, F) => (fs z.2).bind fun x => if x.1.length = m then (F (shs x.1)).bind fun y => .ok (y.1, x.2) else .bad
    | none => .bad
  | _ => .bad
def tCallV (K : KX) (W : WX) (tab : FTab) (tf : TE) (t : TA) : TE := fun σ H Q => tf σ H fun y H1 => ∃ n m F, tab n = some (m, F) ∧ y = .ref (K.FA n) ∧ t σ H1 fun vs H2 => spD K m F vs H2 Q (WE W σ)
theorem pd_callV (tab : FTab) {k : Nat} {fe : Expr} {ff : Ev} (hT : ∀ n m F, tab n = some (m, F) → PySem.W.keepIn X.K (.ref (K.FA n)) = true ∧ ∃ k' fd ps, k' ≤ k ∧ FnG X.prog X.w X.K X.mg X.base k' (K.FA n) fd ps (spD K m F) ∧ Binds X.K fd ps []) (hr : Room k X.A) (hgd : X.A.guards = some []) (tk : Takes X W) (hf : PD X K W fe ff) (ha : AD X K W (e :: es) fs)
    (ht : eval (.Call fe (e :: es) [] pos) X.env = (do callWith pos (← eval fe X.env) [] (backTo pos (starEach (e :: es) X.env)) (backToKw pos (keywordEach [] X.env))) := by rfl)
    (he : starEach (e :: es) X.env = (false, eval e X.env) :: starEach es X.env := by rfl) (hpl : (backTo pos (starEach es X.env)).any (·.1) = false := by rfl) : PD X K W (.Call fe (e :: es) [] pos) (cCallV tab ff fs) := by
  obtain ⟨tf, f1, f2⟩ := hf
  obtain ⟨t, a1, a2⟩ := ha
  refine ⟨tCallV K W tab tf t, ⟨fun pins s σ H Q I h => ?_⟩, fun {M G σ ρ H d ρ'} r0 e Q q => ?_, fun {M G σ ρ H c d} r0 e x Q => ?_⟩
  · refine Call_ (thn (f1.run pins s σ H _ I h) fun u s1 ⟨y, H1, I1, ry, n, m, F, hn, ey, q⟩ => ?_) ht
    subst ey
    obtain rfl : u = Value.ref (K.FA n) := ry
    obtain ⟨hk, k', fd, ps, hkk, FN, hb⟩ := hT n m F hn
    exact PySem.W.callWith_K (h₀ := X.base) I1.ok.mod.kin hk (thn (a1.run pos pins s1 σ H1 _ I1 q) fun us s2 ⟨vs, H2, I2, r, q2⟩ => ⟨I2.kIn, run_fnG (dvs := []) FN (hr.mono hkk) hgd hb .nil tk I2 r (by rw [List.append_nil]; exact q2)⟩) he hpl
  · obtain ⟨⟨z, ρ1⟩, e1, e⟩ := R.bind_eq_ok e
    simp only at e
    split at e
    · rename_i n
      split at e
      · rename_i m F hn
        refine f2.ok r0 e1 _ fun v H1 A1 r1 => ?_
        cases r1 with
        | fn =>
          refine ⟨n, m, F, hn, rfl, ?_⟩
          have z := (den_call (F := F) (n := m) a2).ok A1.rel (d := d) (ρ' := ρ') e Q fun v H' A2 r2 => q v H' (A1.trans A2) r2
          have z2 : t σ H1 fun vs H2 => spD K m F (vs ++ []) H2 Q (WE W σ) := z
          simpa only [List.append_nil] using z2
      · cases e
    · cases e
  · rcases R.bind_eq_exc e with e | ⟨⟨z, ρ1⟩, e1, e⟩
    · exact f2.exc r0 e x _
    · simp only at e
      split at e
      · rename_i n
        split at e
        · rename_i m F hn
          refine f2.ok r0 e1 _ fun v H1 A1 r1 => ?_
          cases r1 with
          | fn =>
            refine ⟨n, m, F, hn, rfl, ?_⟩
            have z := (den_call (F := F) (n := m) a2).exc A1.rel e x Q
            have z2 : t σ H1 fun vs H2 => spD K m F (vs ++ []) H2 Q (WE W σ) := z
            simpa only [List.append_nil] using z2
        · cases e
      · cases e
end
end PyD

set_option Elab.async false
set_option linter.all false
set_option maxRecDepth 100000
namespace PyD
open PySem PySem.Spec L2
open PyProof.Rows hiding St
section
variable {X : Cx} {K : KX} {W : WX} {pos p apos : Pos} {a b e o e2 : Expr} {fa fb fo : Ev} {es : List Expr} {fs : Av} {y z : Str} {j k : Nat} {c0 c1' : Pos}
/-! ### items behind which a token is out: text.replace of written texts -/
def ADT (X : Cx) (K : KX) (W : WX) (es : List Expr) (f : Av) : Prop := ∃ t, PAT X es t ∧ DenA K W t f
theorem den_cons {ta : TE} {t : TA} (h2 : Den K W ta fa) (h4 : DenA K W t fs) : DenA K W (tCons ta t) (cCons fa fs) := by
  refine ⟨fun {M G σ ρ H d ρ'} r0 e Q q => ?_, fun {M G σ ρ H c d} r0 e x Q => ?_⟩
  · obtain ⟨⟨z, ρ1⟩, e1, e⟩ := R.bind_eq_ok e
    obtain ⟨⟨zs, ρ2⟩, e2, e⟩ := map_ok e
    cases e
    refine h2.ok r0 e1 _ fun v H1 a1 r1 => h4.ok a1.rel e2 _ fun vs H2 a2 r2 => ?_
    exact q _ _ (a1.trans a2) (.cons (r1.keep a2.same) r2)
  · rcases R.bind_eq_exc e with e | ⟨⟨z, ρ1⟩, e1, e⟩
    · exact h2.exc r0 e x _
    · exact h2.ok r0 e1 _ fun v H1 a1 r1 => h4.exc a1.rel (map_exc e) x _
theorem adt_nil : ADT X K W [] cNil := ⟨_, pat_nil, den_nil⟩
theorem adt_cons (ha : PD X K W e fa) (hs : ADT X K W es fs) (hst : starEach (e :: es) X.env = (false, eval e X.env) :: starEach es X.env := by rfl) : ADT X K W (e :: es) (cCons fa fs) := by
  obtain ⟨t, h1, h2⟩ := ha
  obtain ⟨u, h3, h4⟩ := hs
  exact ⟨_, pat_cons (CwR.PET.of h1) h3 hst, den_cons h2 h4⟩
def gRepl (y z : Str) : D → Option D
  | .str x => if x.length + (x.length + 1) * z.length ≤ 16777216 then some (.str (Txt.replace x y z)) else none
  | _ => none
theorem den_repl {to : TE} (h2 : Den K W to fo) : Den K W (CwR.tReplC to y z) (c1 (gRepl y z) fo) := by
  refine ⟨fun {M G σ ρ H d ρ'} r0 e Q q => ?_, fun {M G σ ρ H c d} r0 e x Q => ?_⟩
  · obtain ⟨⟨x, ρ1⟩, e1, e⟩ := R.bind_eq_ok e
    obtain ⟨w, e2, e⟩ := map_ok e
    cases e
    have e2 := R.ofOpt_eq_ok e2
    cases x <;> simp only [gRepl] at e2 <;> try (cases e2; done)
    split at e2
    · rename_i hc
      cases e2
      exact h2.ok r0 e1 _ fun v H1 A r1 => ⟨_, rp_str r1, hc, q _ H1 A (.str _)⟩
    · cases e2
  · rcases R.bind_eq_exc e with e | ⟨⟨y, ρ1⟩, e1, e⟩
    · exact h2.exc r0 e x _
    · exact (R.ofOpt_ne_exc (map_exc e)).elim
theorem adt_repl (ho : PD X K W o fo) (hs : ADT X K W es fs) (hyz : (y == z) = false := by decide)
    (hst : starEach [.Constant (.str y) j c0, .Constant (.str z) k c1'] X.env = [(false, eval (.Constant (.str y) j c0) X.env), (false, eval (.Constant (.str z) k c1') X.env)] := by rfl)
    (hbase : attributeBase o "replace" X.env (eval o X.env) = eval o X.env := by rfl) (hline : (apos.endLine == pos.line) = true := by rfl)
    (hs' : starEach (.Call (.Attribute o "replace" apos) [.Constant (.str y) j c0, .Constant (.str z) k c1'] [] pos :: es) X.env = (false, eval (.Call (.Attribute o "replace" apos) [.Constant (.str y) j c0, .Constant (.str z) k c1'] [] pos) X.env) :: starEach es X.env := by rfl) :
    ADT X K W (.Call (.Attribute o "replace" apos) [.Constant (.str y) j c0, .Constant (.str z) k c1'] [] pos :: es) (cCons (c1 (gRepl y z) fo) fs) := by
  obtain ⟨t, h1, h2⟩ := ho
  obtain ⟨u, h3, h4⟩ := hs
  exact ⟨_, pat_cons (CwR.pet_replC h1 hyz hst hbase hline) h3 hs', den_cons (den_repl h2) h4⟩
/-- 'text' + e gives out a token -/
theorem ad_tok {i : Nat} {pc : Pos} (hb : PD X K W e fb) (hs : ADT X K W es fs) (hst : starEach (.BinOp (.Constant (.str y) i pc) .Add e pos :: es) X.env = (false, eval (.BinOp (.Constant (.str y) i pc) .Add e pos) X.env) :: starEach es X.env := by rfl) :
    AD X K W (.BinOp (.Constant (.str y) i pc) .Add e pos :: es) (cCons (c2 gAdd (cC (.str y)) fb) fs) := by
  obtain ⟨tb, b1, b2⟩ := hb
  obtain ⟨u, h3, h4⟩ := hs
  refine ⟨tCons (tOp _ (tC (.str y)) tb) u, ⟨fun pos' pins s σ H Q I h => ?_⟩, den_cons (den_2 opd_add (den_c fun _ => .str y) b2) h4⟩
  rw [hst]
  show wpAny _ _ (spliced ((false, eval (.BinOp (.Constant (.str y) i pc) .Add e pos) X.env) :: backTo pos' (starEach es X.env))) _ _ s
  refine Calls.spliced_cons (wpAny_BinOp (Calls.Constant_str ?_))
  have I1 : Inv X pins σ H { s with toks := s.toks + 1 } := I.tok _
  refine wpAny_mono (PySem.wpAny_toks_of (n := 1) (by show 1 ≤ s.toks + 1; omega) (b1.run pins _ σ H _ I1 h)) (fun v s1 q => ?_) fun _ _ z => z.2
  obtain ⟨hk, w, H1, I2, r2, q1⟩ := q
  refine wpAny_mono (PySem.wpAny_toks_of (n := 1) hk (op_addR pins s1 σ H1 (.str y) w _ _ _ I2 ⟨_, rfl⟩ r2 q1)) (fun v2 s2 q2 => ?_) fun _ _ z => z.2
  obtain ⟨hk2, w2, H2, I3, r3, q3⟩ := q2
  exact thn (h3 pos' pins s2 σ H2 _ hk2 I3 q3) fun us s3 ⟨vs, H3, I4, r4, q4⟩ => ⟨w2 :: vs, H3, I4, .cons r3 r4, q4⟩
end
end PyD

set_option Elab.async false
set_option linter.all false
set_option maxRecDepth 100000
namespace PyD
open PySem PySem.Spec L2
open PyProof.Rows hiding St
/-! ### expressions that leave the slots as they are -/
section
variable {f g h : Ev}
theorem pu_c {d : D} : Pure (cC d) := fun ρ _ _ e => by cases e; rfl
theorem pu_v {i : Nat} : Pure (cV i) := fun ρ _ _ e => by
  unfold cV at e
  split at e <;> cases e <;> rfl
theorem pu_p {i : Nat} : Pure (cP i) := fun ρ _ _ e => by
  unfold cP at e
  split at e <;> cases e <;> rfl
theorem pu_1 {r : D → Option D} (hf : Pure f) : Pure (c1 r f) := fun ρ _ _ e => by
  obtain ⟨⟨a, ρ1⟩, e1, e⟩ := R.bind_eq_ok e
  obtain ⟨z, _, e⟩ := map_ok e
  cases e
  exact hf _ _ _ e1
theorem pu_2 {r : D → D → Option D} (hf : Pure f) (hg : Pure g) : Pure (c2 r f g) := fun ρ _ _ e => by
  obtain ⟨⟨a, ρ1⟩, e1, e⟩ := R.bind_eq_ok e
  obtain ⟨⟨b, ρ2⟩, e2, e⟩ := R.bind_eq_ok e
  obtain ⟨z, _, e⟩ := map_ok e
  cases e
  exact (hg _ _ _ e2).trans (hf _ _ _ e1)
theorem pu_sl {l u : Bv} (hf : Pure f) : Pure (cSl f l u) := fun ρ _ _ e => by
  obtain ⟨⟨a, ρ1⟩, e1, e⟩ := R.bind_eq_ok e
  obtain ⟨b, e2, e⟩ := R.bind_eq_ok e
  obtain ⟨c, e3, e⟩ := R.bind_eq_ok e
  obtain ⟨z, _, e⟩ := map_ok e
  cases e
  exact hf _ _ _ e1
def PureA (f : Av) : Prop := ∀ ρ d ρ', f ρ = .ok (d, ρ') → ρ' = ρ
theorem pu_nil : PureA cNil := fun ρ _ _ e => by cases e; rfl
theorem pu_cons {fs : Av} (hf : Pure f) (hg : PureA fs) : PureA (cCons f fs) := fun ρ _ _ e => by
  obtain ⟨⟨a, ρ1⟩, e1, e⟩ := R.bind_eq_ok e
  obtain ⟨⟨b, ρ2⟩, e2, e⟩ := map_ok e
  cases e
  exact (hg _ _ _ e2).trans (hf _ _ _ e1)
theorem pu_C {r : List D → Option D} {fs : Av} (hf : PureA fs) : Pure (cC1 r fs) := fun ρ _ _ e => by
  obtain ⟨⟨a, ρ1⟩, e1, e⟩ := R.bind_eq_ok e
  obtain ⟨z, _, e⟩ := map_ok e
  cases e
  exact hf _ _ _ e1
theorem pu_tup {fs : Av} (hf : PureA fs) : Pure (cTup fs) := fun ρ _ _ e => by
  obtain ⟨⟨a, ρ1⟩, e1, e⟩ := R.bind_eq_ok e
  simp only at e
  split at e <;> cases e
  exact hf _ _ _ e1
theorem pu_L {fs : Av} (hf : PureA fs) : Pure (cL fs) := fun ρ _ _ e => by
  obtain ⟨⟨a, ρ1⟩, e1, e⟩ := map_ok e
  cases e
  exact hf _ _ _ e1
theorem pu_lst {fs : Av} (hf : PureA fs) : PureA (cLst fs) := fun ρ _ _ e => by
  obtain ⟨⟨a, ρ1⟩, e1, e⟩ := R.bind_eq_ok e
  simp only at e
  split at e <;> cases e
  exact hf _ _ _ e1
end
/-! ### a def by its name -/
def CalD (P : Program) (w : World) (KK : KX) (mg : Str → Option Value) (base : Heap) (k : Nat) (x : Str) (st : Stmt) (ps : List Str) (sp : Sp) : Prop :=
  ∃ f fd, L2.Fun KK.K x x st f fd ∧ mg x = some (.ref f) ∧ Binds KK.K fd ps [] ∧ FnG P w KK.K mg base k f fd ps sp
theorem CalD.mk {P : Program} {w : World} {KK : KX} {mg : Str → Option Value} {base : Heap} {k : Nat} {x : Str} {st : Stmt} {ps : List Str} {sp : Sp} {f : Addr} {fd : FuncData} (F : L2.Fun KK.K x x st f fd) (hm : mg x = some (.ref f)) (hb : Binds KK.K fd ps []) (FN : FnG P w KK.K mg base k f fd ps sp) : CalD P w KK mg base k x st ps sp := ⟨f, fd, F, hm, hb, FN⟩
/-- what the top has made of a def -/
structure DefX (KK : KX) (mg : Str → Option Value) (x : Str) (st : Stmt) (ps : List Str) : Prop where
  ex : ∃ f fd, L2.Fun KK.K x x st f fd ∧ mg x = some (.ref f) ∧ Binds KK.K fd ps []
section
variable {X : Cx} {K : KX} {W : WX} {k n n0 : Nat} {ps ks : List Str} {x : Str} {st : Stmt} {p pos : Pos} {e : Expr} {es : List Expr} {kws : List Keyword} {fs fk : Av} {F : Ev} {FA : Av}
theorem pd_calC (C : CalD X.prog X.w K X.mg X.base k x st ps (spD K n F)) (hr : Room k X.A) (hgd : X.A.guards = some []) (tk : Takes X W) (ha : AD X K W (e :: es) fs) (hK : X.K = K.K := by rfl) (hg : Gl X x := by rfl)
    (hdb : (x == ("__debug__" : Str)) = false := by decide) (he : starEach (e :: es) X.env = (false, eval e X.env) :: starEach es X.env := by rfl) (hpl : (backTo pos (starEach es X.env)).any (·.1) = false := by rfl) : PD X K W (.Call (.Name x p) (e :: es) [] pos) (cCall n F fs) := by
  obtain ⟨f, fd, F0, hm, hb, FN⟩ := C
  rw [← hK] at F0 hb FN
  exact pd_call FN hr hgd hm F0.kp hb tk ha hg hdb he hpl
theorem fd_calC (C : CalD X.prog X.w K X.mg X.base k x st ps (spF K n FA)) (hr : Room k X.A) (hgd : X.A.guards = some []) (tk : Takes X W) (ha : AD X K W (e :: es) fs) (hK : X.K = K.K := by rfl) (hg : Gl X x := by rfl)
    (hdb : (x == ("__debug__" : Str)) = false := by decide) (he : starEach (e :: es) X.env = (false, eval e X.env) :: starEach es X.env := by rfl) (hpl : (backTo pos (starEach es X.env)).any (·.1) = false := by rfl) : PDF X K W (.Call (.Name x p) (e :: es) [] pos) (cCallF n FA fs) := by
  obtain ⟨f, fd, F0, hm, hb, FN⟩ := C
  rw [← hK] at F0 hb FN
  exact fd_call FN hr hgd hm F0.kp hb tk ha hg hdb he hpl
theorem pd_calR (i : Nat) {g : Str} {pg : Pos} (C : CalD X.prog X.w K X.mg X.base k x st ps (spD K n F)) (hr : Room k X.A) (hgd : X.A.guards = some []) (tk : Takes X W) (ha : AD X K W es fs) (hK : X.K = K.K := by rfl)
    (hN : X.N[i]? = some g := by rfl) (hv' : Vis X.env.scope g := by first | exact Or.inl rfl | exact Or.inr (Or.inl rfl) | exact Or.inr (Or.inr rfl)) (hd : (g == ("__debug__" : Str)) = false := by decide) (hcd : (g == ("__classdict__" : Str)) = false := by decide) (hg : Gl X x := by rfl)
    (hdb : (x == ("__debug__" : Str)) = false := by decide) (he : starEach (.Name g pg :: es) X.env = (false, eval (.Name g pg) X.env) :: starEach es X.env := by rfl) (hpl : (backTo pos (starEach es X.env)).any (·.1) = false := by rfl) : PD X K W (.Call (.Name x p) (.Name g pg :: es) [] pos) (cCallR i n F fs) := by
  obtain ⟨f, fd, F0, hm, hb, FN⟩ := C
  rw [← hK] at F0 hb FN
  exact pd_callR i FN hr hgd hm F0.kp hb tk ha hN hv' hd hcd hg hdb he hpl
/-- how a def binds keywords, of all that it may be made of -/
def KwOk (x : Str) (st : Stmt) (ps ks : List Str) (n : Nat) (pm : List Nat) : Prop := ∀ (kV doc pm' : Value) (an : Option Addr) (cdv ct : Value) (us ws : List Value), us.length = n → ws.length = ks.length → bindArgs (PySem.W.fnOf x x (defArgs st) (defBody st) (defScope st) .none kV doc pm' an cdv ct) ⟨us, ks.zip ws⟩ = pure (ps.zip (us ++ permL pm ws))
theorem pd_calK0 {pm : List Nat} (ks : List Str) (C : CalD X.prog X.w K X.mg X.base k x st ps (spD K n F)) (kb : KwOk x st ps ks 0 pm) (hr : Room k X.A) (hgd : X.A.guards = some []) (tk : Takes X W) (hkw : KD X K W kws fk) (hK : X.K = K.K := by rfl) (hg : Gl X x := by rfl)
    (hall : (backToKw pos (keywordEach kws X.env)).all (·.1.isSome) = true := by rfl) (hks : (backToKw pos (keywordEach kws X.env)).filterMap (·.1) = ks := by rfl) (hdb : (x == ("__debug__" : Str)) = false := by decide)
    (hpl : ((backTo pos (starEach [] X.env)).any (·.1) || (backToKw pos (keywordEach kws X.env)).any (·.1.isNone)) = false := by rfl) :
    PD X K W (.Call (.Name x p) [] kws pos) (cCall n F (aKw 0 ks.length pm cNil fk)) := by
  obtain ⟨f, fd, F0, hm, hb, FN⟩ := C
  rw [← hK] at F0 hb FN
  exact pd_callK0 FN hr hgd hm F0.kp (F0.kwb ks 0 pm kb) tk hkw hg hall hks hdb hpl
theorem fd_calK0 {pm : List Nat} (ks : List Str) (C : CalD X.prog X.w K X.mg X.base k x st ps (spF K n FA)) (kb : KwOk x st ps ks 0 pm) (hr : Room k X.A) (hgd : X.A.guards = some []) (tk : Takes X W) (hkw : KD X K W kws fk) (hK : X.K = K.K := by rfl) (hg : Gl X x := by rfl)
    (hall : (backToKw pos (keywordEach kws X.env)).all (·.1.isSome) = true := by rfl) (hks : (backToKw pos (keywordEach kws X.env)).filterMap (·.1) = ks := by rfl) (hdb : (x == ("__debug__" : Str)) = false := by decide)
    (hpl : ((backTo pos (starEach [] X.env)).any (·.1) || (backToKw pos (keywordEach kws X.env)).any (·.1.isNone)) = false := by rfl) :
    PDF X K W (.Call (.Name x p) [] kws pos) (cCallF n FA (aKw 0 ks.length pm cNil fk)) := by
  obtain ⟨f, fd, F0, hm, hb, FN⟩ := C
  rw [← hK] at F0 hb FN
  exact fd_callK0 FN hr hgd hm F0.kp (F0.kwb ks 0 pm kb) tk hkw hg hall hks hdb hpl
theorem pd_calK {pm : List Nat} (ks : List Str) (n0 : Nat) (C : CalD X.prog X.w K X.mg X.base k x st ps (spD K n F)) (kb : KwOk x st ps ks n0 pm) (hr : Room k X.A) (hgd : X.A.guards = some []) (tk : Takes X W) (ha : AD X K W (e :: es) fs) (hkw : KD X K W kws fk) (hK : X.K = K.K := by rfl) (hg : Gl X x := by rfl)
    (hall : (backToKw pos (keywordEach kws X.env)).all (·.1.isSome) = true := by rfl) (hks : (backToKw pos (keywordEach kws X.env)).filterMap (·.1) = ks := by rfl) (hdb : (x == ("__debug__" : Str)) = false := by decide)
    (he : starEach (e :: es) X.env = (false, eval e X.env) :: starEach es X.env := by rfl) (hpl : ((backTo pos (starEach (e :: es) X.env)).any (·.1) || (backToKw pos (keywordEach kws X.env)).any (·.1.isNone)) = false := by rfl) :
    PD X K W (.Call (.Name x p) (e :: es) kws pos) (cCall n F (aKw n0 ks.length pm fs fk)) := by
  obtain ⟨f, fd, F0, hm, hb, FN⟩ := C
  rw [← hK] at F0 hb FN
  exact pd_callK FN hr hgd hm F0.kp (F0.kwb ks n0 pm kb) tk ha hkw hg hall hks hdb he hpl
theorem fd_calK {pm : List Nat} (ks : List Str) (n0 : Nat) (C : CalD X.prog X.w K X.mg X.base k x st ps (spF K n FA)) (kb : KwOk x st ps ks n0 pm) (hr : Room k X.A) (hgd : X.A.guards = some []) (tk : Takes X W) (ha : AD X K W (e :: es) fs) (hkw : KD X K W kws fk) (hK : X.K = K.K := by rfl) (hg : Gl X x := by rfl)
    (hall : (backToKw pos (keywordEach kws X.env)).all (·.1.isSome) = true := by rfl) (hks : (backToKw pos (keywordEach kws X.env)).filterMap (·.1) = ks := by rfl) (hdb : (x == ("__debug__" : Str)) = false := by decide)
    (he : starEach (e :: es) X.env = (false, eval e X.env) :: starEach es X.env := by rfl) (hpl : ((backTo pos (starEach (e :: es) X.env)).any (·.1) || (backToKw pos (keywordEach kws X.env)).any (·.1.isNone)) = false := by rfl) :
    PDF X K W (.Call (.Name x p) (e :: es) kws pos) (cCallF n FA (aKw n0 ks.length pm fs fk)) := by
  obtain ⟨f, fd, F0, hm, hb, FN⟩ := C
  rw [← hK] at F0 hb FN
  exact fd_callK FN hr hgd hm F0.kp (F0.kwb ks n0 pm kb) tk ha hkw hg hall hks hdb he hpl
/-- a module's constant -/
def GloC (mg : Str → Option Value) (x : Str) (v : V) : Prop := ∃ u, mg x = some u ∧ RelV v u
theorem pd_gl {v : V} {d : D} (G : GloC X.mg x v) (h : ∀ H, Rp K H v d) (hg : Gl X x := by rfl) (hd : (x == ("__debug__" : Str)) = false := by decide) : PD X K W (.Name x p) (cC d) := by
  obtain ⟨u, hm, r⟩ := G
  exact pd_glob hg hm r h hd
/-- the def behind itself: no room, no promise -/
theorem fnG_bad {P : Program} {w : World} {KF : PySem.W.Frag} {mg : Str → Option Value} {base : Heap} {f : Addr} {fd : FuncData} : FnG P w KF mg base k f fd ps (spD K ps.length fun _ => .bad) :=
  ⟨fun vs H Q E h => h.1, fun A outer s H args us vs Q E hr hg e0 hb r h => by obtain ⟨_, _, _, _, _, _, z⟩ := h; exact z.elim⟩
theorem fnG_badF {P : Program} {w : World} {KF : PySem.W.Frag} {mg : Str → Option Value} {base : Heap} {f : Addr} {fd : FuncData} : FnG P w KF mg base k f fd ps (spF K ps.length fun _ => .bad) :=
  ⟨fun vs H Q E h => h.1, fun A outer s H args us vs Q E hr hg e0 hb r h => by obtain ⟨_, _, _, _, _, _, z⟩ := h; exact z.elim⟩
end
/-- a def of the table of those that stand as values -/
theorem ft_of {P : Program} {w : World} {KK : KX} {mg : Str → Option Value} {base : Heap} {k j : Nat} {x : Str} {st : Stmt} {ps : List Str} {n i : Nat} {F : Ev} (C : CalD P w KK mg base k x st ps (spD KK n F)) (h : mg x = some (.ref (KK.FA i))) (hk : k ≤ j) :
    PySem.W.keepIn KK.K (.ref (KK.FA i)) = true ∧ ∃ k' fd ps, k' ≤ j ∧ FnG P w KK.K mg base k' (KK.FA i) fd ps (spD KK n F) ∧ Binds KK.K fd ps [] := by
  obtain ⟨f, fd, F0, hm, hb, FN⟩ := C
  rw [h] at hm
  cases hm
  exact ⟨F0.kp, k, fd, ps, hk, FN, hb⟩
theorem CalD.toD {P : Program} {w : World} {KK : KX} {mg : Str → Option Value} {base : Heap} {k : Nat} {x : Str} {st : Stmt} {ps : List Str} {n : Nat} {F : Av} (C : CalD P w KK mg base k x st ps (spF KK n F)) : CalD P w KK mg base k x st ps (spD KK n (cL F)) := by
  obtain ⟨f, fd, F0, hm, hb, FN⟩ := C
  exact ⟨f, fd, F0, hm, hb, FN.imp fun vs H Q E h => spF_D h⟩
/-! ### the built-in names that the top leaves alone -/
structure Blt (mg : Str → Option Value) : Prop where
  len : mg "len" = none
  sum : mg "sum" = none
  all : mg "all" = none
  any : mg "any" = none
  min : mg "min" = none
  max : mg "max" = none
  abs : mg "abs" = none
  int : mg "int" = none
  str : mg "str" = none
  list : mg "list" = none
  tuple : mg "tuple" = none
  dict : mg "dict" = none
  set : mg "set" = none
  bool : mg "bool" = none
  range : mg "range" = none
  enumerate : mg "enumerate" = none
  zip : mg "zip" = none
  sorted : mg "sorted" = none
  isinstance : mg "isinstance" = none
  repr : mg "repr" = none
  ord : mg "ord" = none
  super : mg "super" = none
  valueError : mg "ValueError" = none
end PyD

set_option Elab.async false
set_option linter.all false
set_option maxRecDepth 100000
namespace PyD
open PySem PySem.Spec L2
open PyProof.Rows hiding St
section
variable {K : KX} {M : Addr → Prop} {G : Hp} {σ : L2.St} {ρ : Rho} {H H' : Hp} {i : Nat} {c : Cell} {d d' : D}
/-- an own root is changed by whoever was lent it, and a new list is given back -/
theorem Rel.writeP {p q : Addr} {xs : List V} (r : Rel K M G σ ρ H) (h : ρ[i]? = some c) (hc : c = .ow d ∨ c = .rf d) (hp : σ[i]? = some (some (.ref p))) (hs : ∀ a o, a ≠ p → H a = some o → H' a = some o) (hq : H q = none) (hq' : H' q = some (.lst xs)) (ho : Own K (cut (fun a => (M a ∨ Ows σ ρ a) ∨ a = q) H') H' p d') :
    After K M σ ρ H (Mp M q) (upd G q (.lst xs)) σ (ρ.set i (sameKind c d')) H' := by
  have how : IsOw ρ i d := by rcases hc with z | z <;> subst z; exact .inl h; exact .inr h
  have hop : Ows σ ρ p := ⟨i, d, how, hp⟩
  have kk : sameKind c d' = .ow d' ∨ sameKind c d' = .rf d' := by rcases hc with z | z <;> subst z <;> simp [sameKind]
  have k1 : ∀ j e, IsOw (ρ.set i (sameKind c d')) j e → ∃ e', IsOw ρ j e' := fun j e q => by
    by_cases hj : j = i
    · subst hj; exact ⟨d, how⟩
    · exact ⟨e, (isOw_ne hj).mp q⟩
  have o1 : ∀ a, Ows σ (ρ.set i (sameKind c d')) a → Ows σ ρ a := fun a ⟨j, e, h1, h2⟩ => by
    obtain ⟨e', q⟩ := k1 j e h1
    exact ⟨j, e', q, h2⟩
  have nq : ¬ Ows σ ρ q := fun ⟨j, e, h1, h2⟩ => by
    obtain ⟨b, h3, h4⟩ := r.ow j e h1
    rw [h2] at h3; cases h3
    exact h4.dom hq
  have o2 : Same (cut (fun a => (M a ∨ Ows σ ρ a) ∨ a = q) H') (hv (Mp M q) σ (ρ.set i (sameKind c d')) H') := cut_mono fun a o z e => ⟨fun y => z (y.elim (fun y => y.elim (fun y => .inl (.inl y)) .inr) fun y => .inl (.inr (o1 a y))), e⟩
  have ki : ∀ e, IsOw (ρ.set i (sameKind c d')) i e → e = d' := fun e q => by
    unfold IsOw at q
    rw [set_eq h] at q
    rcases kk with z | z <;> rw [z] at q <;> rcases q with q | q <;> cases q <;> rfl
  have s : Same (hv M σ ρ H) (hv (Mp M q) σ (ρ.set i (sameKind c d')) H') := cut_mono fun a o z e => by
    have ne : a ≠ p := fun q => z (.inr (q ▸ hop))
    have neq : a ≠ q := fun y => by rw [y, hq] at e; cases e
    exact ⟨fun y => y.elim (fun y => y.elim (fun y => z (.inl y)) neq) fun y => z (.inr (o1 a y)), hs a o ne e⟩
  refine ⟨⟨by simpa using r.len, fun j e q => ?_, fun j e q => ?_, fun j k e f b q1 q2 q3 q4 => ?_, fun a z => ?_, fun a z => ?_, fun a o e => ?_⟩, s, fun j e q => ⟨rfl, ?_⟩, by simp⟩
  · by_cases hj : j = i
    · subst hj
      rw [set_eq h] at q
      rcases kk with z | z <;> rw [z] at q <;> cases q
    · rw [set_ne hj] at q
      obtain ⟨u, h1, h2⟩ := r.sh j e q
      exact ⟨u, h1, h2.keep s⟩
  · by_cases hj : j = i
    · subst hj
      rw [ki e q]
      exact ⟨p, hp, ho.keep o2 rfl⟩
    · have q' := (isOw_ne hj).mp q
      obtain ⟨b, h1, h2⟩ := r.ow j e q'
      have hb : b ≠ p := fun z => hj (r.inj j i e d b q' how h1 (by rw [z]; exact hp))
      refine ⟨b, h1, ?_⟩
      cases h2 with
      | lst a ra => exact .lst (hs b _ hb a) (ra.keep s)
  · obtain ⟨e', z1⟩ := k1 j e q1
    obtain ⟨f', z2⟩ := k1 k f q2
    exact r.inj j k e' f' b z1 z2 q3 q4
  · have z := o1 a z
    have ne : a ≠ q := fun y => nq (y ▸ z)
    obtain ⟨z1, z2⟩ := r.dis a z
    exact ⟨by rw [upd_ne ne]; exact z1, fun y => y.elim z2 ne⟩
  · by_cases e : a = q
    · rw [e, upd_same]; exact fun y => by cases y
    · rw [upd_ne e]; exact r.mdom a (z.elim id fun y => absurd y e)
  · by_cases ea : a = q
    · subst ea; rw [upd_same] at e; cases e; exact hq'
    · rw [upd_ne ea] at e
      have ne : a ≠ p := fun z => by
        have := (r.dis p hop).1
        rw [← z, e] at this
        cases this
      exact hs a o ne (r.same a o e)
  · by_cases hj : j = i
    · subst hj
      rw [h] at q
      cases q
      exact ⟨d', by rw [set_eq h]; rfl⟩
    · exact ⟨e, by rw [set_ne hj]; exact q⟩
end
section
variable {X : Cx} {K : KX} {W : WX} {pos p : Pos} {e : Expr} {es : List Expr} {fs : Av} {k n : Nat} {f : Addr} {fd : FuncData} {ps : List Str} {x : Str} {st : Stmt}
def cCallRF (i n : Nat) (F : Av) (fs : Av) : Av := fun ρ => match lent1 ρ i with
  | none => .bad
  | some _ => (noExc (fs ρ)).bind fun x => match lent1 x.2 i with
    | none => .bad
    | some c => if x.1.length + 1 = n then match F (.rf c :: shs x.1) with
        | .ok (d, .rf c' :: _) => .ok (d, setK x.2 i c')
        | _ => .bad
      else .bad
theorem den_callRF {i n : Nat} {F : Av} {t : TA} (h2 : DenA K W t fs) : DenF K W (tCallSD (spF K n F) [] (WE W) (tCons (tVar i) t)) (cCallRF i n F fs) := by
  refine ⟨fun {M G σ ρ H d ρ'} r0 e Q q => ?_, fun {M G σ ρ H c d} r0 e x Q => ?_⟩
  · unfold cCallRF at e
    cases ho : lent1 ρ i with
    | none => rw [ho] at e; cases e
    | some c0 =>
      rw [ho] at e
      simp only at e
      obtain ⟨⟨ds, ρ1⟩, e1, e⟩ := R.bind_eq_ok e
      have e1 := noExc_ok e1
      obtain ⟨k0, g1, g2⟩ := lent1_some ho
      obtain ⟨p, hp, _⟩ := r0.ow i c0 (g2.imp (fun z => by rw [g1, z]) fun z => by rw [g1, z])
      cases ho1 : lent1 ρ1 i with
      | none => simp only [ho1] at e; cases e
      | some c =>
        simp only [ho1] at e
        by_cases hn : ds.length + 1 = n
        · rw [if_pos hn] at e
          cases eF : F (.rf c :: shs ds) with
          | bad => rw [eF] at e; cases e
          | exc a b => rw [eF] at e; cases e
          | ok y =>
            obtain ⟨z, as'⟩ := y
            rw [eF] at e
            cases as' with
            | nil => cases e
            | cons c' as' =>
              cases c' <;> try (cases e; done)
              rename_i c'
              cases e
              obtain ⟨k1, g3, g4⟩ := lent1_some ho1
              have hi : IsOw ρ1 i c := g4.imp (fun z => by rw [g3, z]) fun z => by rw [g3, z]
              refine ⟨.ref p, hp, h2.ok r0 e1 _ fun vs H1 A ra => ?_⟩
              show spF K n F ((V.ref p :: vs) ++ []) H1 Q (WE W σ)
              rw [List.append_nil]
              obtain ⟨rR, hh⟩ := rel_argsR A.rel hi hp ra
              refine ⟨by simp [ra.length]; exact hn, _, _, .rf c :: shs ds, by simp only [List.all_cons, okArg, shs_ok, Bool.and_self], rR, ?_⟩
              rw [eF]
              intro b xs H' gb mb B rv
              obtain ⟨p', h1, h3⟩ := B.rel.ow 0 c' (.inr rfl)
              cases h1
              have nbp : p ≠ b := fun z => by
                obtain ⟨z1, z2⟩ := B.rel.dis p ⟨0, c', .inr rfl, rfl⟩
                exact z2 (.inr z)
              have hb0 : H1 b = none := by
                have z := gb
                rw [cut_out (M := fun a => a = p) (Ne.symm nbp)] at z
                exact z
              have hb1 : H' b = some (.lst xs) := B.rel.same b _ upd_same
              have hs : ∀ a o, a ≠ p → H1 a = some o → H' a = some o := fun a o ne h => B.rel.same a o (by
                rw [upd_ne (fun z => by rw [z, hb0] at h; cases h)]
                exact cut_mk (M := fun a => a = p) ne h)
              have vw : Same (hv (Mp (fun a => Mc M σ ρ1 a ∧ a ≠ p) b) ((V.ref p :: vs).map some) (.rf c' :: as') H') (cut (fun a => (M a ∨ Ows σ ρ1 a) ∨ a = b) H') := cut_mono fun a o m h => ⟨fun z => m (by
                rcases z with z | z
                · by_cases ha : a = p
                  · exact .inr ⟨0, c', .inr rfl, by rw [ha]; rfl⟩
                  · exact .inl (.inl ⟨z, ha⟩)
                · exact .inl (.inr z)), h⟩
              have Z := Rel.writeP A.rel g3 g4 hp hs hb0 hb1 (h3.keep vw rfl)
              have eK : setK ρ1 i c' = ρ1.set i (sameKind k1 c') := by unfold setK; rw [g3]
              rw [eK] at q
              refine q b xs H' (A.rel.same.free hb0) (fun z => ?_) (A.trans Z) (rv.keep (vw.trans ?_))
              · exact A.rel.mdom b z (A.rel.same.free hb0)
              · refine cut_mono fun a o m h => ⟨fun z => m ?_, h⟩
                rcases z with (z | z) | ⟨j, e, h1, h3⟩
                · exact .inl (.inl z)
                · exact .inr z
                · refine .inl (.inr ?_)
                  by_cases hj : j = i
                  · subst hj; exact ⟨j, c, hi, h3⟩
                  · exact ⟨j, e, (isOw_ne hj).mp h1, h3⟩
        · rw [if_neg hn] at e; cases e
  · exfalso
    unfold cCallRF at e
    split at e
    · cases e
    · rcases R.bind_eq_exc e with e | ⟨⟨ds, ρ1⟩, e1, e⟩
      · exact noExc_exc e
      · simp only at e
        split at e
        · cases e
        · split at e
          · split at e <;> cases e
          · cases e
theorem fd_calR (i : Nat) {g : Str} {pg : Pos} {F : Av} (C : CalD X.prog X.w K X.mg X.base k x st ps (spF K n F)) (hr : Room k X.A) (hgd : X.A.guards = some []) (tk : Takes X W) (ha : AD X K W es fs) (hK : X.K = K.K := by rfl)
    (hN : X.N[i]? = some g := by rfl) (hv' : Vis X.env.scope g := by first | exact Or.inl rfl | exact Or.inr (Or.inl rfl) | exact Or.inr (Or.inr rfl)) (hd : (g == ("__debug__" : Str)) = false := by decide) (hcd : (g == ("__classdict__" : Str)) = false := by decide) (hg : Gl X x := by rfl)
    (hdb : (x == ("__debug__" : Str)) = false := by decide) (he : starEach (.Name g pg :: es) X.env = (false, eval (.Name g pg) X.env) :: starEach es X.env := by rfl) (hpl : (backTo pos (starEach es X.env)).any (·.1) = false := by rfl) : PDF X K W (.Call (.Name x p) (.Name g pg :: es) [] pos) (cCallRF i n F fs) := by
  obtain ⟨f, fd, F0, hm, hb, FN⟩ := C
  rw [← hK] at F0 hb FN
  obtain ⟨t, h1, h2⟩ := ha
  exact ⟨_, pe_callG FN hr hgd hg hm F0.kp hb .nil tk (pa_cons (pv i hN hv' hd hcd) h1 he) hdb he hpl, den_callRF h2⟩
end
end PyD

set_option Elab.async false
set_option linter.all false
set_option maxRecDepth 100000
namespace PyD
open PySem PySem.Spec L2
open PyProof.Rows hiding St
/-! ### the law's end, where the promise knows that no repr runs -/
section
variable {P : Program} {w : World} {K : PySem.W.Frag} {mg mb : Str → Option Value} {k : Nat} {fa a : Addr} {fd : FuncData} {x : Str} {sp : Sp} {s1 : Shared} {vs : List Value} {ns : List Int}
abbrev Ended (s1 : Shared) : Result → Shared → Prop := fun r s' => r = .ok (.ret (.bool true)) ∧ OldK s1.heap s'.heap ∧ s'.os = s1.os ∧ AllBare s'.gens
/-- at an abstract heap in which the script alone may be tracked -/
theorem endAt (KX : K.In s1.heap) (hns : s1.heap.Ns mainGlobals mg) (hb : s1.heap.Ns builtinsNs mb) (hbb : ∀ y : Str, y ≠ "__name__" → mb y = bootBuiltins y) (hlim : s1.heap.NoLimit) (hg : s1.gens = #[])
    (ha : s1.heap.get? a = some { cls := .type "list", data := .seq vs.toArray }) (hr : Room k callerA) (F : ∀ base : Heap, K.In base → base.Ns mainGlobals mg → FnG P w K mg base k fa fd [x] sp) (hbind : ∀ (s : Shared) (u : Value), BindsTo s fd ⟨[u], []⟩ [(x, u)])
    {H : Hp} (hO : Only H) (hok : HOk P w H s1.heap) (hA : ∀ b, H b ≠ none → b = a) (hK : H a ≠ none → K.lookup a = none) (hsp : sp [.ref a] H (fun v _ => v = .bl true) fun _ _ _ => False) :
    codeAny (model P w) callerA (.call (.ref fa) ⟨[.ref a], []⟩) (Ended s1) s1 := by
  have free : ∀ {b : Addr}, b ≠ a → H b = none := fun {b} ne => Classical.byContradiction fun z => ne (hA b z)
  have dictFree : ∀ {b : Addr} {ob : Obj} {es : Array DictEntry} {ep : Nat}, s1.heap.get? b = some ob → ob.data = .dict es ep → H b = none := fun {b ob es ep} g d => free fun z => by
    subst z
    rw [ha] at g
    cases g
    exact absurd d fun y => by cases y
  have nsB : ∀ {b : Addr} {m : Str → Option Value}, s1.heap.Ns b m → (hidT s1.heap H).Ns b m := by
    rintro b m ⟨ob, es, ep, g, d, rest⟩
    exact ⟨ob, es, ep, hidT_get g (dictFree g d), d, rest⟩
  have kB : K.In (hidT s1.heap H) := by
    intro b ob g
    refine hidT_get (KX b ob g) (Classical.byContradiction fun z => ?_)
    have e := hA b z
    subst e
    exact absurd (g.symm.trans (hK z)) fun y => by cases y
  have modB : Mod K mg (hidT s1.heap H) := by
    obtain ⟨mc, c1, c2⟩ := hlim
    exact ⟨kB, nsB hns, ⟨mb, nsB hb, hbb⟩, ⟨mc, nsB c1, c2⟩⟩
  have env : Env0 P w K mg (hidT s1.heap H) callerA [] s1 H := ⟨rfl, modB, fun b ob g => of_hidT g, (Nat.le_of_eq (hidT_size s1.heap H)), trivial, (fun b hb => by cases hb), hok, .of_eq hg⟩
  have run := (F _ kB (nsB hns)).run callerA [] s1 H ⟨[.ref a], []⟩ [.ref a] [.ref a] _ _ hr rfl env (hbind s1 (.ref a)) (.cons rfl .nil) hsp
  refine codeAny_mono run ?_
  rintro (er | fl) s' out
  · obtain ⟨_, _, _, _, _, _, _, _, _, _, _, _, z⟩ := out
    exact z.elim
  · cases fl with
    | ret u =>
      obtain ⟨v, H', eos, bare, un, hok', rv, rfl⟩ := out
      obtain rfl : u = Value.bool true := rv
      refine ⟨rfl, OldK.of_keep ?_, eos, bare⟩
      intro b ob g
      rcases hO b with z | ⟨o2, xs, z⟩
      · exact un.keep b ob g z (fun y => by cases y) (fun y => by cases y)
      · have z2 := un.frzs b o2 _ z
        have g1 := (hok b _ z).1
        have g2 := (hok' b _ z2).1
        rw [g] at g1
        rw [g2, ← g1]
    | _ => exact out.elim
theorem law_G (KX : K.In s1.heap) (hns : s1.heap.Ns mainGlobals mg) (hb : s1.heap.Ns builtinsNs mb) (hbb : ∀ y : Str, y ≠ "__name__" → mb y = bootBuiltins y) (hlim : s1.heap.NoLimit) (hg : s1.gens = #[])
    (ha : s1.heap.get? a = some { cls := .type "list", data := .seq vs.toArray }) (hi : IntsAre vs ns) (hl : ns.length ≤ sizeLine) (hr : Room k callerA) (F : ∀ base : Heap, K.In base → base.Ns mainGlobals mg → FnG P w K mg base k fa fd [x] sp) (hbind : ∀ (s : Shared) (u : Value), BindsTo s fd ⟨[u], []⟩ [(x, u)])
    (hsp : ∀ H : Hp, Only H → SqL K H a (ns.map V.int) → sp [.ref a] H (fun v _ => v = .bl true) fun _ _ _ => False) : codeAny (model P w) callerA (.call (.ref fa) ⟨[.ref a], []⟩) (Ended s1) s1 := by
  have val := vals_ints hi
  have len := hi.length
  by_cases inK : ∃ o, K.lookup a = some o
  · obtain ⟨o, ko⟩ := inK
    have g := KX a o ko
    rw [ha] at g
    cases g
    have sq : SqL K (fun _ => none) a (ns.map V.int) := .inr ⟨_, vs.toArray, _, ko, rfl, rfl, rfl, by rw [List.size_toArray, len]; exact hl, by simpa using val⟩
    have only : Only (fun _ => none) := fun _ => .inl rfl
    exact endAt KX hns hb hbb hlim hg ha hr F hbind only (fun b u z => by cases (show (none : Option HO) = some u from z)) (fun b z => (z rfl).elim) (fun z => (z rfl).elim) (hsp _ only sq)
  · have noK : K.lookup a = none := by
      cases z : K.lookup a with
      | none => rfl
      | some o => exact (inK ⟨o, z⟩).elim
    let Hs : Hp := fun b => if b = a then some (.frz { cls := .type "list", data := .seq vs.toArray } (.lst (ns.map V.int))) else none
    have atA : Hs a = some (.frz { cls := .type "list", data := .seq vs.toArray } (.lst (ns.map V.int))) := if_pos rfl
    have off : ∀ {b : Addr}, b ≠ a → Hs b = none := fun h => if_neg h
    have only : Only Hs := fun b => by
      by_cases e : b = a
      · exact .inr ⟨_, _, e ▸ atA⟩
      · exact .inl (off e)
    have hok : HOk P w Hs s1.heap := fun b u z => by
      by_cases e : b = a
      · subst e
        rw [atA] at z
        cases z
        exact ⟨ha, by rw [List.length_map]; exact hl, vs, _, val, ha⟩
      · rw [off e] at z; cases z
    exact endAt KX hns hb hbb hlim hg ha hr F hbind only hok (fun b z => Classical.byContradiction fun e => z (off e)) (fun _ => noK) (hsp _ only (.inl (.inr ⟨_, atA⟩)))
end
theorem walk_G {l : PySem.W.OpenLaw} {n k : Nat} {q : Program} {loose : List Str} {XP : (Str → Option Value) → Heap → Prop} {YP : World → Heap → Prop} {d : DefRec} {K : Params → PySem.W.Frag} {sp : PySem.W.Frag → Sp} {x : Str}
    (hn : l.most = some n) (hn2 : n ≤ sizeLine) (hdf : d.params.defaults = []) (hr : Room k callerA) (hY : ∀ (w : World) (h : Heap), YP w h → (K w.params).In h)
    (F : ∀ (w : World) (mg : Str → Option Value) (fa : Addr) (h : Heap), (K w.params).In h → h.Ns mainGlobals mg → mg d.name = some (.ref fa) → ∃ (fd : FuncData) (sp : Sp), (∀ (s : Shared) (u : Value), BindsTo s fd ⟨[u], []⟩ [(x, u)]) ∧
      (∀ base : Heap, (K w.params).In base → base.Ns mainGlobals mg → FnG l.prog w (K w.params) mg base k fa fd [x] sp) ∧
      ∀ (H : Hp) (a : Addr) (ns : List Int), ns.length ≤ n → Only H → SqL (K w.params) H a (ns.map V.int) → sp [.ref a] H (fun v _ => v = .bl true) fun _ _ _ => False) :
    PySem.W.WalkO q loose XP YP l.row.toRowW d [] (fun f vs => PySem.call f vs) := by
  refine Att.attach_call hn hdf ?_
  intro w s0 s1 mg mb fa o pm cd doc a vs ns G Y ho hd hcd hmg hobj hints hlen hgen
  obtain ⟨fd, sp, b, f, hs⟩ := F w mg fa _ (hY w _ Y) G.T.g hmg
  exact law_G (hY w _ Y) G.T.g G.T.b G.T.builtins G.T.nolimit hgen hobj hints (Nat.le_trans hlen hn2) hr f b fun H h1 h2 => hs H a ns hlen h1 h2
/-- the law's mirror tells True: its promise at the script -/
theorem spD_law {KK : KX} {F : Ev} {H : Hp} {a : Addr} {ns : List Int} (hO : Only H) (hS : SqL KK.K H a (ns.map V.int)) (h : ∃ ρ, F [.sh (.scr ns)] = .ok (.bl true, ρ)) : spD KK 1 F [.ref a] H (fun v _ => v = .bl true) fun _ _ _ => False := by
  obtain ⟨ρ, e⟩ := h
  refine ⟨rfl, fun _ => False, H, [.sh (.scr ns)], rfl, ⟨rfl, fun i d hi => ?_, fun i d hi => ?_, fun i j d e p hi => ?_, fun b ⟨i, d, hi, _⟩ => ?_, fun b z => z.elim, Same.refl _⟩, ?_⟩
  · cases i with
    | succ i => simp at hi
    | zero =>
      simp at hi
      subst hi
      refine ⟨.ref a, rfl, .scr ?_⟩
      have z : hv (fun _ => False) (List.map some [V.ref a]) [.sh (.scr ns)] H = H := by
        funext b
        refine cut_out fun z => z.elim id fun ⟨j, d, hj, _⟩ => ?_
        cases j <;> rcases hj with hj | hj <;> simp at hj
      rw [z]
      exact hS
  · cases i <;> rcases hi with hi | hi <;> simp at hi
  · cases i <;> rcases hi with hi | hi <;> simp at hi
  · cases i <;> rcases hi with hi | hi <;> simp at hi
  · rw [e]
    intro v H' A rv
    exact rp_bl rv
end PyD

set_option Elab.async false
set_option linter.all false
set_option maxRecDepth 100000
namespace PyD
open PySem PySem.Spec L2
open PyProof.Rows hiding St
/-! ### the lists within a thing: what _law_lists tells, what _law_own does (promises by hand: they speak of which list, not of data alone) -/
mutual
/-- v reads as d; L: the lists in it, in the order of the walk -/
inductive Fo (K : KX) (H : Hp) : V → D → List Addr → Prop
  | non : Fo K H .non .non []
  | bl (b : Bool) : Fo K H (.bl b) (.bl b) []
  | int (i : Int) : Fo K H (.int i) (.int i) []
  | str (x : Str) : Fo K H (.str x) (.str x) []
  | lst {a : Addr} {xs : List V} {ds : List D} {L : List Addr} : H a = some (.lst xs) → FoAll K H xs ds L → Fo K H (.ref a) (.lst ds) (a :: L)
  | tup {a : Addr} {xs : List V} {ds : List D} {L : List Addr} : SqT K.K H a xs → FoAll K H xs ds L → Fo K H (.ref a) (.tup ds) L
inductive FoAll (K : KX) (H : Hp) : List V → List D → List Addr → Prop
  | nil : FoAll K H [] [] []
  | cons {v : V} {vs : List V} {d : D} {ds : List D} {L L' : List Addr} : Fo K H v d L → FoAll K H vs ds L' → FoAll K H (v :: vs) (d :: ds) (L ++ L')
end
section
variable {K : KX} {H H' : Hp}
mutual
theorem Fo.keep (e : Same H H') : ∀ {v : V} {d : D} {L : List Addr}, Fo K H v d L → Fo K H' v d L
  | _, _, _, .non => .non
  | _, _, _, .bl b => .bl b
  | _, _, _, .int i => .int i
  | _, _, _, .str x => .str x
  | _, _, _, .lst h r => .lst (e _ _ h) (r.keep e)
  | _, _, _, .tup h r => .tup (SqT.keep e h) (r.keep e)
theorem FoAll.keep (e : Same H H') : ∀ {vs : List V} {ds : List D} {L : List Addr}, FoAll K H vs ds L → FoAll K H' vs ds L
  | _, _, _, .nil => .nil
  | _, _, _, .cons h r => .cons (h.keep e) (r.keep e)
end
mutual
theorem Fo.rp : ∀ {v : V} {d : D} {L : List Addr}, Fo K H v d L → Rp K H v d
  | _, _, _, .non => .non
  | _, _, _, .bl b => .bl b
  | _, _, _, .int i => .int i
  | _, _, _, .str x => .str x
  | _, _, _, .lst h r => .lst h r.rp
  | _, _, _, .tup h r => .tup h r.rp
theorem FoAll.rp : ∀ {vs : List V} {ds : List D} {L : List Addr}, FoAll K H vs ds L → RpAll K H vs ds
  | _, _, _, .nil => .nil
  | _, _, _, .cons h r => .cons h.rp r.rp
end
theorem FoAll.length : ∀ {vs : List V} {ds : List D} {L : List Addr}, FoAll K H vs ds L → vs.length = ds.length
  | _, _, _, .nil => rfl
  | _, _, _, .cons _ r => by simp [r.length]
theorem FoAll.get : ∀ {vs : List V} {ds : List D} {L : List Addr} {i : Nat} {x : V}, FoAll K H vs ds L → vs[i]? = some x → ∃ d l l1 l2, ds[i]? = some d ∧ Fo K H x d l ∧ L = l1 ++ l ++ l2 ∧ FoAll K H (vs.take i) (ds.take i) l1 ∧ FoAll K H (vs.take (i + 1)) (ds.take (i + 1)) (l1 ++ l)
  | _, _, _, 0, x, .cons (L' := L') h r, e => by
    cases e
    exact ⟨_, _, [], L', rfl, h, rfl, .nil, by simpa using FoAll.cons h .nil⟩
  | _, _, _, i + 1, x, .cons (L := L0) h r, e => by
    obtain ⟨d, l, l1, l2, h1, h2, h3, h4, h5⟩ := r.get e
    refine ⟨d, l, L0 ++ l1, l2, h1, h2, by rw [h3]; simp, .cons h h4, ?_⟩
    rw [List.append_assoc]
    exact .cons h h5
theorem FoAll.inj : ∀ {vs : List V} {ds ds' : List D} {L L' : List Addr}, FoAll K H vs ds L → FoAll K H vs ds' L' → (∀ {v d d' l l'}, v ∈ vs → Fo K H v d l → Fo K H v d' l' → l = l') → L = L'
  | _, _, _, _, _, .nil, .nil, _ => rfl
  | _, _, _, _, _, .cons h r, .cons h' r', f => by rw [f List.mem_cons_self h h', r.inj r' fun m a b => f (List.mem_cons_of_mem _ m) a b]
end
mutual
def dpD : D → Nat
  | .lst ds => dpDs ds + 1
  | .tup ds => dpDs ds + 1
  | _ => 0
def dpDs : List D → Nat
  | [] => 0
  | d :: ds => max (dpD d) (dpDs ds)
end
theorem dpDs_get : ∀ {ds : List D} {i : Nat} {d : D}, ds[i]? = some d → dpD d ≤ dpDs ds
  | d :: ds, 0, _, h => by cases h; simp only [dpDs]; omega
  | d :: ds, i + 1, _, h => by
    have := dpDs_get (ds := ds) (i := i) (by simpa using h)
    simp only [dpDs]; omega
/-- the list of the lists within -/
def spLists (K : KX) (n : Nat) : Sp := fun vs H Q _ => ∃ v d L, vs = [v] ∧ Fo K H v d L ∧ dpD d < n ∧ L.length ≤ sizeLine ∧ ∀ q H', Same H H' → H q = none → H' q = some (.lst (L.map V.ref)) → Q (.ref q) H'
section
variable {K : KX} {n : Nat} {WW : L2.St → XK}
def tLists (K : KX) (n : Nat) (WW : L2.St → XK) : TS :=
  tSeq (tAsg (tIf (tC' K (tOf (c1 (isaD "list") (cV 0)))) (tLst (tCons (tVar 0) tNil)) (tLst tNil)) (gName 1))
    (tSeq (tFor (fun σ H R => iList K.K (tIf (tC' K (tOf (c1 (isaD2 "list" "tuple") (cV 0)))) (tVar 0) (tLst tNil)) σ H R ∨ iTup K.K (tIf (tC' K (tOf (c1 (isaD2 "list" "tuple") (cV 0)))) (tVar 0) (tLst tNil)) σ H R) (gName 2) (tAsg (tOp rCat (tVar 1) (tCallSD (spLists K n) [] WW (tCons (tVar 2) tNil))) (gName 1)))
      (tRet (tVar 1)))
theorem rel_plain {K : KX} {H : Hp} {σ : L2.St} {ρ : Rho} (hl : σ.length = ρ.length) (ha : allSh ρ = true) (h : ∀ (i : Nat) d, ρ[i]? = some (.sh d) → ∃ v, σ[i]? = some (some v) ∧ Rp K H v d) : Rel K (fun _ => False) H σ ρ H := by
  have z : hv (fun _ => False) σ ρ H = H := by
    funext b
    exact cut_out fun z => z.elim id fun ⟨j, d, hj, _⟩ => allSh_ow ha hj
  refine ⟨hl, fun i d hi => by rw [z]; exact h i d hi, fun i d hi => (allSh_ow ha hi).elim, fun _ _ _ _ _ hi => (allSh_ow ha hi).elim, fun a ⟨j, d, hj, _⟩ => (allSh_ow ha hj).elim, fun _ z => z.elim, Same.refl _⟩
theorem hv_plain {H : Hp} {σ : L2.St} {ρ : Rho} (ha : allSh ρ = true) : hv (fun _ => False) σ ρ H = H := by
  funext b
  exact cut_out fun z => z.elim id fun ⟨j, d, hj, _⟩ => allSh_ow ha hj
theorem after_plain {K : KX} {H H' : Hp} {σ : L2.St} {ρ ρ' : Rho} (ha : allSh ρ = true) (hb : allSh ρ' = true) (A : After K (fun _ => False) σ ρ H (fun _ => False) H σ ρ' H') : Same H H' := by
  have z := A.same
  rw [hv_plain ha, hv_plain hb] at z
  exact z
theorem isa_test {K : KX} {H : Hp} {v : V} {d : D} {b : Bool} {Q : Bool → Hp → Prop} {σ : L2.St} (g : D → Option D) (r : Rp K H v d) (hσ : σ[0]? = some (some v)) (hlen : σ.length = 3) (hb : g d = some (.bl b)) (q : ∀ H', Same H H' → Q b H') : tC' K (tOf (c1 g (cV 0))) σ H Q := by
  refine ⟨fun _ => False, H, [.sh d, .no, .no], b, [.sh d, .no, .no], rel_plain (by simpa using hlen) rfl fun i e h => ?_, ?_, fun H' A => q H' (after_plain rfl rfl A)⟩
  · match i, h with
    | 0, h => simp at h; subst h; exact ⟨v, hσ, r⟩
    | 1, h => simp at h
    | 2, h => simp at h
    | _ + 3, h => simp at h
  · unfold tOf c1 cV
    simp [R.bind, hb, R.map, R.ofOpt, asB]
theorem for_any {KF : PySem.W.Frag} {a : Addr} {xs : List V} {g : TG} {tb : TS} {Dn : Ends} {σ : L2.St} {H : Hp} {te : TE} (Pv : Nat → L2.St → Hp → Prop) (hsq : SqL KF H a xs ∨ SqT KF H a xs) (ht : ∀ Q : VK, (∀ H', Same H H' → Q (.ref a) H') → te σ H Q) (h0 : ∀ H', Same H H' → Pv 0 σ H') (hl : ∀ i σ H2, i ≤ xs.length → Pv i σ H2 → Same H H2)
    (hs : ∀ i x σ H, xs[i]? = some x → Pv i σ H → g x σ H fun σ2 H2 => tb { Dn with nx := Pv (i + 1), ct := Pv (i + 1), bk := Dn.nx } σ2 H2) (hd : ∀ σ H, Pv xs.length σ H → Dn.nx σ H) :
    tFor (fun σ H R => iList KF te σ H R ∨ iTup KF te σ H R) g tb Dn σ H := by
  rcases hsq with q | q
  · exact .inl (ht _ fun H' s' => ⟨a, rfl, ⟨xs, s'.seq q⟩, for_list (K := KF) (a := a) (xs := xs) Pv (h0 H' s') (fun i σ H2 hi p => (hl i σ H2 hi p).seq q) hs hd⟩)
  · exact .inr (ht _ fun H' s' => ⟨a, rfl, ⟨xs, SqT.keep s' q⟩, for_tup (K := KF) (a := a) (xs := xs) Pv (h0 H' s') (fun i σ H2 hi p => SqT.keep (hl i σ H2 hi p) q) hs hd⟩)
/-- the walk over the parts, from what is found so far -/
theorem lists_walk {v : V} {a q : Addr} {xs : List V} {ds : List D} {pre Lx : List Addr} {H H1 H2 : Hp} {Q : VK} (hsq : SqL K.K H2 a xs ∨ SqT K.K H2 a xs) (fo : FoAll K H2 xs ds Lx) (hd : dpDs ds < n) (hz : (pre ++ Lx).length ≤ sizeLine) (s0 : Same H H2) (hq : H q = none) (hq2 : H2 q = some (.lst (pre.map V.ref)))
    {te : TE} (hv : v = .ref a) (ht : ∀ Q : VK, (∀ H', Same H2 H' → Q (.ref a) H') → te [some v, some (.ref q), none] H2 Q) (k : ∀ q' H', Same H H' → H q' = none → H' q' = some (.lst ((pre ++ Lx).map V.ref)) → Q (.ref q') H') :
    tSeq (tFor (fun σ H R => iList K.K te σ H R ∨ iTup K.K te σ H R) (gName 2) (tAsg (tOp rCat (tVar 1) (tCallSD (spLists K n) [] WW (tCons (tVar 2) tNil))) (gName 1))) (tRet (tVar 1)) { nx := fun _ H' => Q .non H', rt := Q } [some v, some (.ref q), none] H2 := by
  refine for_any (a := a) (xs := xs) (fun i σ H3 => ∃ q' part l rest, σ = [some v, some (V.ref q'), part] ∧ Same H2 H3 ∧ H q' = none ∧ FoAll K H2 (xs.drop i) (ds.drop i) rest ∧ Lx = l ++ rest ∧ H3 q' = some (.lst ((pre ++ l).map V.ref)))
    hsq ht (fun H' s' => ⟨q, none, [], Lx, rfl, s', hq, by simpa using fo, rfl, by simpa using s' _ _ hq2⟩) (fun i σ H3 _ ⟨_, _, _, _, _, z, _⟩ => z) ?_ ?_
  · rintro i x σ H3 hx ⟨q', part, l, rest, rfl, s3, hq', fo', rfl, h3⟩
    have hlt : i < xs.length := (List.getElem?_eq_some_iff.mp hx).1
    have hlt2 : i < ds.length := by rw [← fo.length]; exact hlt
    rw [List.drop_eq_getElem_cons hlt, List.drop_eq_getElem_cons hlt2] at fo'
    rw [List.getElem?_eq_getElem hlt] at hx
    cases hx
    cases fo' with
    | @cons _ _ _ _ l' rest' f1 f2 =>
      have hdi : dpD ds[i] < n := Nat.lt_of_le_of_lt (dpDs_get (List.getElem?_eq_getElem hlt2)) hd
      simp only [List.length_append] at hz
      refine ⟨.ref q', rfl, xs[i], rfl, xs[i], ds[i], l', rfl, f1.keep s3, hdi, by omega, fun q2 H4 s4 n4 h4 => ?_⟩
      refine ⟨q', q2, _, _, rfl, rfl, s4 _ _ h3, h4, by simp; omega, fun p np => ?_⟩
      refine ⟨p, some xs[i], l ++ l', rest', rfl, (s3.trans s4).trans (same_upd np), ((s0.trans s3).trans s4).free np, f2, by simp, ?_⟩
      rw [upd_same]
      simp
  · rintro σ H3 ⟨q', part, l, rest, rfl, s3, hq', fo', rfl, h3⟩
    rw [List.drop_length] at fo'
    have : rest = [] := by
      cases e : ds.drop xs.length with
      | nil => rw [e] at fo'; cases fo'; rfl
      | cons d ds' => rw [e] at fo'; cases fo'
    subst this
    rw [List.append_nil] at k
    exact ⟨_, rfl, k q' H3 (s0.trans s3) hq' h3⟩
theorem lists_pure {vs : List V} {H : Hp} {Q : VK} {E : XK} (h : spLists K (n + 1) vs H Q E) : tLists K n WW { nx := fun _ H' => Q .non H', rt := Q } (L2.start ["thing", "found", "part"] vs) H := by
  obtain ⟨v, d, L, rfl, fo, hd, hz, k⟩ := h
  show tLists K n WW _ [some v, none, none] H
  have nilcase : L = [] → isaD "list" d = some (.bl false) → isaD2 "list" "tuple" d = some (.bl false) → tLists K n WW { nx := fun _ H' => Q .non H', rt := Q } [some v, none, none] H := fun hL h1 h2 => by
    subst hL
    refine isa_test _ fo.rp rfl rfl h1 fun H1 s1 => ?_
    refine ⟨Nat.zero_le _, fun q hq => ?_⟩
    have r1 : Rp K (upd H1 q (.lst [])) v d := (fo.rp.keep s1).keep (same_upd hq)
    refine .inl (isa_test _ r1 rfl rfl h2 fun H2 s2 => ⟨Nat.zero_le _, fun p hp => ?_⟩)
    refine ⟨p, rfl, ⟨[], .inl (.inl upd_same)⟩, for_list (K := K.K) (a := p) (xs := []) (fun i σ H3 => σ = [some v, some (.ref q), none] ∧ H3 = upd H2 p (.lst [])) ⟨rfl, rfl⟩ (fun i σ H3 _ hh => by rw [hh.2]; exact .inl (.inl upd_same)) (fun i x σ H3 hx => by simp at hx) fun σ H3 hh => ?_⟩
    obtain ⟨rfl, rfl⟩ := hh
    refine ⟨_, rfl, k q _ ((s1.trans (same_upd hq)).trans (s2.trans (same_upd hp))) (s1.free hq) ?_⟩
    have := s2 q _ (show upd H1 q (HO.lst []) q = some (HO.lst []) from upd_same)
    rw [upd_ne (fun z => by rw [z, hp] at this; cases this)]
    exact this
  cases fo with
  | non => exact nilcase rfl rfl rfl
  | bl b => exact nilcase rfl rfl rfl
  | int i => exact nilcase rfl rfl rfl
  | str x => exact nilcase rfl rfl rfl
  | @lst a xs ds Lx h1 h2 =>
    refine isa_test _ (Rp.lst h1 h2.rp) rfl rfl (by rfl : isaD "list" (.lst ds) = some (.bl true)) fun H1 s1 => ?_
    refine ⟨_, rfl, by show 1 ≤ sizeLine; decide, fun q hq => ?_⟩
    have s2 : Same H (upd H1 q (.lst [V.ref a])) := s1.trans (same_upd hq)
    refine lists_walk (a := a) (pre := [a]) (H1 := H1) (H := H) (.inl (.inl (.inl (s2 _ _ h1)))) (h2.keep s2) (by simp only [dpD] at hd; omega) (by simpa using hz) s2 (s1.free hq) upd_same rfl (fun Q q => ?_) k
    exact isa_test _ (Rp.lst (s2 _ _ h1) (h2.rp.keep s2)) rfl rfl (by rfl : isaD2 "list" "tuple" (.lst ds) = some (.bl true)) fun H2 s3 => ⟨_, rfl, q H2 s3⟩
  | @tup a xs ds Lx h1 h2 =>
    refine isa_test _ (Rp.tup h1 h2.rp) rfl rfl (by rfl : isaD "list" (.tup ds) = some (.bl false)) fun H1 s1 => ?_
    refine ⟨Nat.zero_le _, fun q hq => ?_⟩
    have s2 : Same H (upd H1 q (.lst [])) := s1.trans (same_upd hq)
    refine lists_walk (a := a) (pre := []) (H1 := H1) (H := H) (.inr (SqT.keep s2 h1)) (h2.keep s2) (by simp only [dpD] at hd; omega) (by simpa using hz) s2 (s1.free hq) upd_same rfl (fun Q q => ?_) k
    exact isa_test _ (Rp.tup (SqT.keep s2 h1) (h2.rp.keep s2)) rfl rfl (by rfl : isaD2 "list" "tuple" (.tup ds) = some (.bl true)) fun H2 s3 => ⟨_, rfl, q H2 s3⟩
end
end PyD

set_option Elab.async false
set_option linter.all false
set_option maxRecDepth 100000
namespace PyD
open PySem PySem.Spec L2
open PyProof.Rows hiding St
mutual
/-- how many lists are in a thing -/
def nlD : D → Nat
  | .lst ds => nlDs ds + 1
  | .tup ds => nlDs ds
  | _ => 0
def nlDs : List D → Nat
  | [] => 0
  | d :: ds => nlD d + nlDs ds
end
mutual
/-- the j-th list gets a mark -/
def markD : D → Nat → D
  | .lst ds, 0 => .lst (ds ++ [.str "mark"])
  | .lst ds, j + 1 => .lst (markDs ds j)
  | .tup ds, j => .tup (markDs ds j)
  | .non, _ => .non
  | .bl b, _ => .bl b
  | .int i, _ => .int i
  | .str x, _ => .str x
  | .dct es, _ => .dct es
  | .scr ns, _ => .scr ns
  | .exc c d, _ => .exc c d
  | .fn n, _ => .fn n
def markDs : List D → Nat → List D
  | [], _ => []
  | d :: ds, j => if j < nlD d then markD d j :: ds else d :: markDs ds (j - nlD d)
end
section
variable {K : KX} {H : Hp}
mutual
theorem Fo.nl : ∀ {v : V} {d : D} {L : List Addr}, Fo K H v d L → L.length = nlD d
  | _, _, _, .non => rfl
  | _, _, _, .bl b => rfl
  | _, _, _, .int i => rfl
  | _, _, _, .str x => rfl
  | _, _, _, .lst h r => by simp only [List.length_cons, nlD, r.nl]
  | _, _, _, .tup h r => by simp only [nlD, r.nl]
theorem FoAll.nl : ∀ {vs : List V} {ds : List D} {L : List Addr}, FoAll K H vs ds L → L.length = nlDs ds
  | _, _, _, .nil => rfl
  | _, _, _, .cons h r => by simp only [List.length_append, nlDs, h.nl, r.nl]
end
theorem sqT_upd {a b : Addr} {xs ys : List V} {o : HO} (h : SqT K.K H b xs) (ha : H a = some (.lst ys)) : SqT K.K (upd H a o) b xs := by
  rcases h with h | h
  · refine .inl ?_
    rcases h with h | ⟨o', h⟩
    · exact .inl (by rw [upd_ne (fun z => by rw [z, ha] at h; cases h)]; exact h)
    · exact .inr ⟨o', by rw [upd_ne (fun z => by rw [z, ha] at h; cases h)]; exact h⟩
  · exact .inr h
mutual
theorem Fo.off {a : Addr} {ys : List V} {o : HO} (ha : H a = some (.lst ys)) : ∀ {v : V} {d : D} {L : List Addr}, Fo K H v d L → a ∉ L → Fo K (upd H a o) v d L
  | _, _, _, .non, _ => .non
  | _, _, _, .bl b, _ => .bl b
  | _, _, _, .int i, _ => .int i
  | _, _, _, .str x, _ => .str x
  | _, _, _, .lst h r, n => .lst (by rw [upd_ne (fun z => n (by rw [z]; exact List.mem_cons_self))]; exact h) (r.off ha fun m => n (List.mem_cons_of_mem _ m))
  | _, _, _, .tup h r, n => .tup (sqT_upd h ha) (r.off ha n)
theorem FoAll.off {a : Addr} {ys : List V} {o : HO} (ha : H a = some (.lst ys)) : ∀ {vs : List V} {ds : List D} {L : List Addr}, FoAll K H vs ds L → a ∉ L → FoAll K (upd H a o) vs ds L
  | _, _, _, .nil, _ => .nil
  | _, _, _, .cons h r, n => .cons (h.off ha fun m => n (List.mem_append_left _ m)) (r.off ha fun m => n (List.mem_append_right _ m))
end
theorem FoAll.app : ∀ {vs ws : List V} {ds es : List D} {L L' : List Addr}, FoAll K H vs ds L → FoAll K H ws es L' → FoAll K H (vs ++ ws) (ds ++ es) (L ++ L')
  | _, _, _, _, _, _, .nil, g => g
  | _, _, _, _, _, _, .cons h r, g => by
    rw [List.append_assoc]
    exact .cons h (r.app g)
mutual
theorem Fo.mark {a : Addr} {ys : List V} (ha : H a = some (.lst ys)) : ∀ {v : V} {d : D} {L : List Addr} {j : Nat}, Fo K H v d L → L[j]? = some a → L.Nodup → Fo K (upd H a (.lst (ys ++ [.str "mark"]))) v (markD d j) L
  | _, _, _, _, .non, h, _ => by simp at h
  | _, _, _, _, .bl b, h, _ => by simp at h
  | _, _, _, _, .int b, h, _ => by simp at h
  | _, _, _, _, .str b, h, _ => by simp at h
  | _, _, _, 0, .lst h r, e, nd => by
    simp at e
    subst e
    rw [h] at ha
    cases ha
    obtain ⟨n1, n2⟩ := List.nodup_cons.mp nd
    refine .lst upd_same ?_
    have z := (r.off (o := .lst (ys ++ [.str "mark"])) h n1).app (.cons (.str "mark") .nil)
    simpa using z
  | _, _, _, j + 1, .lst h r, e, nd => by
    simp at e
    obtain ⟨n1, n2⟩ := List.nodup_cons.mp nd
    have m : a ∈ _ := List.mem_of_getElem? e
    refine .lst (by rw [upd_ne (fun z => n1 (by rw [z]; exact m))]; exact h) (r.mark ha e n2)
  | _, _, _, j, .tup h r, e, nd => .tup (sqT_upd h ha) (r.mark ha e nd)
theorem FoAll.mark {a : Addr} {ys : List V} (ha : H a = some (.lst ys)) : ∀ {vs : List V} {ds : List D} {L : List Addr} {j : Nat}, FoAll K H vs ds L → L[j]? = some a → L.Nodup → FoAll K (upd H a (.lst (ys ++ [.str "mark"]))) vs (markDs ds j) L
  | _, _, _, _, .nil, h, _ => by simp at h
  | _, _, _, j, .cons (d := d0) (L := L1) (L' := L2) h r, e, nd => by
    have hl := h.nl
    obtain ⟨n1, n2, n3⟩ := List.nodup_append.mp nd
    unfold markDs
    by_cases hj : j < nlD d0
    · rw [if_pos hj]
      rw [List.getElem?_append_left (by omega)] at e
      exact .cons (h.mark ha e n1) (r.off ha fun m => n3 a (List.mem_of_getElem? e) a m rfl)
    · rw [if_neg hj]
      rw [List.getElem?_append_right (by omega), hl] at e
      exact .cons (h.off ha fun m => n3 a m a (List.mem_of_getElem? e) rfl) (r.mark ha e n2)
end
section
variable {K : KX} {H : Hp}
theorem sqT_cut {g b : Addr} {xs ys : List V} (h : SqT K.K H b xs) (ha : H g = some (.lst ys)) : SqT K.K (cut (fun a => a = g) H) b xs := by
  rcases h with h | h
  · refine .inl ?_
    rcases h with h | ⟨o', h⟩
    · exact .inl (cut_mk (fun z => by rw [z, ha] at h; cases h) h)
    · exact .inr ⟨o', cut_mk (fun z => by rw [z, ha] at h; cases h) h⟩
  · exact .inr h
mutual
theorem Fo.cut {g : Addr} {ys : List V} (ha : H g = some (.lst ys)) : ∀ {v : V} {d : D} {L : List Addr}, Fo K H v d L → g ∉ L → Fo K (PyD.cut (fun a => a = g) H) v d L
  | _, _, _, .non, _ => .non
  | _, _, _, .bl b, _ => .bl b
  | _, _, _, .int i, _ => .int i
  | _, _, _, .str x, _ => .str x
  | _, _, _, .lst h r, n => .lst (cut_mk (fun z => n (by rw [← z]; exact List.mem_cons_self)) h) (r.cut ha fun m => n (List.mem_cons_of_mem _ m))
  | _, _, _, .tup h r, n => .tup (sqT_cut h ha) (r.cut ha n)
theorem FoAll.cut {g : Addr} {ys : List V} (ha : H g = some (.lst ys)) : ∀ {vs : List V} {ds : List D} {L : List Addr}, FoAll K H vs ds L → g ∉ L → FoAll K (PyD.cut (fun a => a = g) H) vs ds L
  | _, _, _, .nil, _ => .nil
  | _, _, _, .cons h r, n => .cons (h.cut ha fun m => n (List.mem_append_left _ m)) (r.cut ha fun m => n (List.mem_append_right _ m))
end
mutual
/-- each list of a thing is data -/
theorem Fo.mem {a : Addr} : ∀ {v : V} {d : D} {L : List Addr}, Fo K H v d L → a ∈ L → ∃ xs ds, H a = some (.lst xs) ∧ RpAll K H xs ds
  | _, _, _, .non, h => by cases h
  | _, _, _, .bl b, h => by cases h
  | _, _, _, .int b, h => by cases h
  | _, _, _, .str b, h => by cases h
  | _, _, _, .lst h r, m => by
    rcases List.mem_cons.mp m with rfl | m
    · exact ⟨_, _, h, r.rp⟩
    · exact r.mem m
  | _, _, _, .tup h r, m => r.mem m
theorem FoAll.mem {a : Addr} : ∀ {vs : List V} {ds : List D} {L : List Addr}, FoAll K H vs ds L → a ∈ L → ∃ xs ds, H a = some (.lst xs) ∧ RpAll K H xs ds
  | _, _, _, .nil, h => by cases h
  | _, _, _, .cons h r, m => (List.mem_append.mp m).elim h.mem r.mem
end
theorem refs_data : ∀ {L : List Addr}, (∀ a, a ∈ L → ∃ xs ds, H a = some (.lst xs) ∧ RpAll K H xs ds) → ∃ es, RpAll K H (L.map V.ref) es ∧ es.length = L.length
  | [], _ => ⟨[], .nil, rfl⟩
  | a :: L, h => by
    obtain ⟨xs, ds, h1, h2⟩ := h a List.mem_cons_self
    obtain ⟨es, h3, h4⟩ := refs_data (L := L) fun b m => h b (List.mem_cons_of_mem _ m)
    exact ⟨.lst ds :: es, .cons (.lst h1 h2) h3, by simp [h4]⟩
end
/-- the draws of _law_own -/
def ownN (rnd : Ev) (len : Nat) : Nat → D → Option D
  | 0, g => some g
  | k + 1, g => match rnd [.rf g, .sh (.int len)] with
    | .ok (.int j, .rf g' :: _) => if 0 ≤ j ∧ j < (len : Int) then ownN rnd len k g' else none
    | _ => none
/-- what is asked of the data: shown with a mark in any of its lists, the mark stands there once -/
def ownOk (d : D) : Prop := ∀ j, j < nlD d → shD (markD d j) = true ∧ Txt.count (toPy (markD d j)).shown "'mark'" = 1
def spOwn (K : KX) (rnd : Ev) (n : Nat) : Sp := fun vs H Q _ => ∃ g v gv gd dt dg L gd', ∃ Hd : Addr → Prop, vs = [.ref g, v, gv] ∧ (∀ a, a ∈ L → Hd a) ∧ Hd g ∧ (∀ a, Hd a → H a ≠ none) ∧ Fo K H v dt L ∧ L.Nodup ∧ g ∉ L ∧ Own K (cut (Hd) H) H g gd ∧ Rp K (cut (Hd) H) gv dg ∧ dpD dt < n ∧ L.length ≤ 1000 ∧
  (∀ a xs, a ∈ L → H a = some (.lst xs) → xs.length < sizeLine) ∧ shD dg = true ∧ ownOk dt ∧ ownN rnd L.length (min 6 L.length) gd = some gd' ∧
  ∀ H', (∀ b o, b ≠ g → H b = some o → H' b = some o) → Own K (cut (Hd) H') H' g gd' → Q (.bl true) H'
section
variable {K : KX} {rnd : Ev} {n : Nat} {WW : L2.St → XK}
def tstOwn : Tv := cOr (tOf (c2 gNe (cMt gCount (c1 gRepr (cV 1)) (cCons (cC (.str "'mark'")) cNil)) (cC (.int 1)))) (tOf (c2 gNe (c1 gRepr (cV 2)) (cV 3)))
def tOwnB (K : KX) (rnd : Ev) (WW : L2.St → XK) : TS :=
  tSeq (tAsg (tOp (rIx K.K) (tVar 4) (tCallSD (spD K 2 rnd) [] WW (tCons (tVar 0) (tCons (eC K (c1 gLen (cV 4))) tNil)))) (gName 6))
    (tSeq (tDrop (tBM K.K "list" rAppend (tVar 6) (tCons (tC (.str "mark")) tNil)))
    (tSeq (tIfS (tC' K tstOwn) (tRet (tC (.bl false))) tNext) (tDrop (tBM0 K.K "list" rPop (tVar 6)))))
def tOwn (K : KX) (rnd : Ev) (n : Nat) (WW : L2.St → XK) : TS :=
  tSeq (tPar 3 4 (tCons (eC K (c1 gRepr (cV 2))) (tCons (tCallSD (spLists K n) [] WW (tCons (tVar 1) tNil)) tNil)))
    (tSeq (tFor (iRng1 (tCons (eC K (cC1 gMin (cCons (cC (.int 6)) (cCons (c1 gLen (cV 4)) cNil)))) tNil)) (gName 5) (tOwnB K rnd WW)) (tRet (tC (.bl true))))
/-- data of an expression that leaves the slots alone, read where every slot is plain -/
theorem eC_plain {f : Ev} {σ : L2.St} {ρ : Rho} {H : Hp} {d : D} {Q : VK} (hl : σ.length = ρ.length) (ha : allSh ρ = true) (h : ∀ (i : Nat) d, ρ[i]? = some (.sh d) → ∃ v, σ[i]? = some (some v) ∧ Rp K H v d) (hf : f ρ = .ok (d, ρ)) (q : ∀ v H', Same H H' → Rp K H' v d → Q v H') : eC K f σ H Q :=
  ⟨fun _ => False, H, ρ, d, ρ, rel_plain hl ha h, hf, fun v H' A r => q v H' (after_plain ha ha A) (by rw [hv_plain ha] at r; exact r)⟩
theorem tC_plain {f : Tv} {σ : L2.St} {ρ : Rho} {H : Hp} {b : Bool} {Q : Bool → Hp → Prop} (hl : σ.length = ρ.length) (ha : allSh ρ = true) (h : ∀ (i : Nat) d, ρ[i]? = some (.sh d) → ∃ v, σ[i]? = some (some v) ∧ Rp K H v d) (hf : f ρ = .ok (b, ρ)) (q : ∀ H', Same H H' → Q b H') : tC' K f σ H Q :=
  ⟨fun _ => False, H, ρ, b, ρ, rel_plain hl ha h, hf, fun H' A => q H' (after_plain ha ha A)⟩
/-- one cell alone -/
theorem slots_one {σ : L2.St} {k : Nat} {H : Hp} {v : V} {d : D} {ρ : Rho} (hρ : ∀ (i : Nat) e, ρ[i]? = some (.sh e) → i = k ∧ e = d) (hσ : σ[k]? = some (some v)) (r : Rp K H v d) : ∀ (i : Nat) e, ρ[i]? = some (.sh e) → ∃ v, σ[i]? = some (some v) ∧ Rp K H v e := fun i e h => by
  obtain ⟨rfl, rfl⟩ := hρ i e h
  exact ⟨v, hσ, r⟩
theorem own_pure {vs : List V} {H : Hp} {Q : VK} {E : XK} (h : spOwn K rnd n vs H Q E) : tOwn K rnd n WW { nx := fun _ H' => Q .non H', rt := Q } (L2.start ["generator", "told", "given", "kept", "some", "turn", "one"] vs) H := by
  obtain ⟨g, v, gv, gd, dt, dg, L, gd', Hd, rfl, hdL, hdg, hdm, fo, nd, ngL, own, rg, hd, hL, hxs, hsh, hok, hN, k⟩ := h
  show tOwn K rnd n WW _ [some (.ref g), some v, some gv, none, none, none, none] H
  have rgH : Rp K H gv dg := rg.keep (cut_same _ _)
  -- kept, some
  refine eC_plain (d := .str (toPy dg).shown) (ρ := [.no, .no, .sh dg, .no, .no, .no, .no]) rfl rfl (slots_one (k := 2) (d := dg) (fun i e h => ?_) rfl rgH) ?_ fun w H1 s1 rw1 => ?_
  · match i, h with
    | 2, h => simp at h; exact ⟨rfl, h.symm⟩
    | 0, h => simp at h
    | 1, h => simp at h
    | 3, h => simp at h
    | 4, h => simp at h
    | 5, h => simp at h
    | 6, h => simp at h
    | _ + 7, h => simp at h
  · simp [c1, cV, R.bind, gRepr, hsh, R.ofOpt, R.map]
  obtain rfl := rp_str rw1
  refine ⟨v, rfl, v, dt, L, rfl, fo.keep s1, hd, by rw [sizeLine_eq]; omega, fun q H2 s2 nq hq => ⟨_, _, rfl, ?_⟩⟩
  show tSeq _ _ _ [some (.ref g), some v, some gv, some (.str (toPy dg).shown), some (.ref q), none, none] H2
  have s12 : Same H H2 := s1.trans s2
  have nqH : H q = none := s1.free nq
  obtain ⟨ys, hgl⟩ : ∃ ys, H g = some (.lst ys) := by
    cases own with
    | lst a _ => exact ⟨_, a⟩
  have foK : ∀ {H3 : Hp}, (∀ b o, b ≠ g → H b = some o → H3 b = some o) → Fo K H3 v dt L := fun {H3} kp => (fo.cut hgl ngL).keep fun b o e => by
    obtain ⟨e1, e2⟩ := cut_some e
    exact kp b o e1 e2
  have data : ∀ {H3 : Hp}, (∀ b o, b ≠ g → H b = some o → H3 b = some o) → H3 q = some (.lst (L.map V.ref)) → ∃ es, Rp K H3 (.ref q) (.lst es) ∧ es.length = L.length := fun {H3} kp h3 => by
    obtain ⟨es, h1, h2⟩ := refs_data (K := K) (H := H3) (L := L) fun a m => (foK kp).mem m
    exact ⟨es, .lst h3 h1, h2⟩
  have kp2 : ∀ b o, b ≠ g → H b = some o → H2 b = some o := fun b o _ h => s12 b o h
  obtain ⟨es2, d1, d2⟩ := data kp2 hq
  have nqL : q ∉ L := fun m => by
    obtain ⟨xs, ds, h1, _⟩ := fo.mem m
    rw [nqH] at h1; cases h1
  have nqg : q ≠ g := fun z => by rw [z, hgl] at nqH; cases nqH
  -- the turns
  refine eC_plain (d := .int (min 6 L.length : Nat)) (ρ := [.no, .no, .no, .no, .sh (.lst es2), .no, .no]) rfl rfl (slots_one (k := 4) (d := .lst es2) (fun i e h => ?_) rfl d1) ?_ fun w H3 s3 rw3 => ?_
  · match i, h with
    | 4, h => simp at h; exact ⟨rfl, h.symm⟩
    | 0, h => simp at h
    | 1, h => simp at h
    | 2, h => simp at h
    | 3, h => simp at h
    | 5, h => simp at h
    | 6, h => simp at h
    | _ + 7, h => simp at h
  · simp only [cC1, cCons, cNil, c1, cV, cC, R.bind, R.map, gLen, gMin, R.ofOpt, List.getElem?_cons_succ, List.getElem?_cons_zero]
    rw [d2]
    congr 4
    split <;> omega
  obtain rfl := rp_int rw3
  refine ⟨_, rfl, by omega, by omega, ?_⟩
  rw [show ((min 6 L.length : Nat) : Int).toNat = min 6 L.length from by simp]
  refine for_range (fun i σ H4 => ∃ t o gdi, σ = [some (V.ref g), some v, some gv, some (.str (toPy dg).shown), some (.ref q), t, o] ∧ (∀ b o, b ≠ g → H b = some o → H4 b = some o) ∧ H4 q = some (.lst (L.map V.ref)) ∧ Own K (cut (Hd) H4) H4 g gdi ∧ ownN rnd L.length (min 6 L.length - i) gdi = some gd')
    ⟨none, none, gd, rfl, fun b o hb h => s3 b o (kp2 b o hb h), s3 q _ hq, own.keep (cut_mono fun a o m h => ⟨m, s3 a o (s12 a o h)⟩) (by rw [s3 g _ (s12 g _ hgl), hgl]), by simpa using hN⟩ ?_ ?_
  · rintro i σ H4 hi ⟨t, o, gdi, rfl, kp4, hq4, own4, hN4⟩
    obtain ⟨m, hm⟩ : ∃ m, min 6 L.length - i = m + 1 := ⟨min 6 L.length - i - 1, by omega⟩
    rw [hm] at hN4
    unfold ownN at hN4
    split at hN4
    · rename_i j g' rest er
      split at hN4
      · rename_i hj
        obtain ⟨j', rfl⟩ : ∃ j' : Nat, j = (j' : Int) := ⟨j.toNat, by omega⟩
        have hjl : j' < L.length := by omega
        obtain ⟨es4, e1, e2⟩ := data kp4 hq4
        -- one = some[..]
        show tOwnB K rnd WW _ ([some (.ref g), some v, some gv, some (.str (toPy dg).shown), some (.ref q), t, o].set 5 (some (.int (0 + (i : Int))))) H4
        refine ⟨.ref q, rfl, .ref g, rfl, ?_⟩
        refine eC_plain (d := .int L.length) (ρ := [.no, .no, .no, .no, .sh (.lst es4), .no, .no]) rfl rfl (slots_one (k := 4) (d := .lst es4) (fun i e h => ?_) rfl e1) ?_ fun w H5 s5 rw5 => ?_
        · match i, h with
          | 4, h => simp at h; exact ⟨rfl, h.symm⟩
          | 0, h => simp at h
          | 1, h => simp at h
          | 2, h => simp at h
          | 3, h => simp at h
          | 5, h => simp at h
          | 6, h => simp at h
          | _ + 7, h => simp at h
        · simp [c1, cV, R.bind, gLen, R.ofOpt, R.map, e2]
        obtain rfl := rp_int rw5
        have kp5 : ∀ b o, b ≠ g → H b = some o → H5 b = some o := fun b o hb h => s5 b o (kp4 b o hb h)
        have hgl5 : ∃ ys, H5 g = some (.lst ys) := by
          cases own4 with
          | lst a _ => exact ⟨_, s5 _ _ a⟩
        have inL : ∀ {H : Hp} (a : Addr), Ows [some (V.ref g), some (V.int L.length)] [.rf gdi, .sh (.int L.length)] a ↔ a = g := fun {H} a => by
          constructor
          · rintro ⟨k, d, h1, h2⟩
            match k, h1, h2 with
            | 0, h1, h2 => simp at h2; exact h2.symm
            | 1, h1, h2 => rcases h1 with h1 | h1 <;> simp at h1
            | _ + 2, h1, h2 => simp at h2
          · rintro rfl
            exact ⟨0, gdi, .inr rfl, rfl⟩
        have hvE : ∀ (Hx : Hp), hv (fun a => Hd a ∧ a ≠ g) [some (V.ref g), some (V.int L.length)] [.rf gdi, .sh (.int L.length)] Hx = cut Hd Hx := fun Hx => by
          unfold hv
          congr 1
          funext a
          rw [inL (H := Hx) a]
          refine propext ⟨fun z => z.elim (fun z => z.1) fun z => z ▸ hdg, fun z => ?_⟩
          by_cases e : a = g
          · exact .inr e
          · exact .inl ⟨z, e⟩
        have rel5 : Rel K (fun a => Hd a ∧ a ≠ g) (cut (fun a => a = g) H5) [some (V.ref g), some (V.int L.length)] [.rf gdi, .sh (.int L.length)] H5 := by
          refine ⟨rfl, fun i d h => ?_, fun i d h => ?_, fun i j d e p h1 h2 h3 h4 => ?_, fun a h => ?_, fun a h => ?_, cut_same _ _⟩
          · match i, h with
            | 0, h => simp at h
            | 1, h => simp at h; subst h; exact ⟨_, rfl, .int _⟩
            | _ + 2, h => simp at h
          · match i, h with
            | 0, h =>
              have : d = gdi := by rcases h with h | h <;> simp at h; exact h.symm
              subst this
              refine ⟨g, rfl, ?_⟩
              rw [hvE]
              exact own4.keep (cut_mono fun a o m h => ⟨m, s5 a o h⟩) (by
                cases own4 with
                | lst a _ => rw [a, s5 _ _ a])
            | 1, h => rcases h with h | h <;> simp at h
            | _ + 2, h => rcases h with h | h <;> simp at h
          · have hz : ∀ (k : Nat) e, IsOw [.rf gdi, .sh (.int L.length)] k e → k = 0 := fun k e h => by
              match k, h with
              | 0, _ => rfl
              | 1, h => rcases h with h | h <;> simp at h
              | _ + 2, h => rcases h with h | h <;> simp at h
            rw [hz i d h1, hz j e h2]
          · rw [inL (H := H5) a] at h
            subst h
            exact ⟨cut_in rfl, fun z => z.2 rfl⟩
          · have ne : a ≠ g := h.2
            rw [cut_out (M := fun a => a = g) ne]
            cases z : H a with
            | none => exact absurd z (hdm a h.1)
            | some o =>
              rw [kp5 a _ ne z]
              exact fun z => by cases z
        refine ⟨rfl, fun a => Hd a ∧ a ≠ g, cut (fun a => a = g) H5, [.rf gdi, .sh (.int L.length)], rfl, rel5, ?_⟩
        rw [er]
        intro w H6 A6 rv6
        obtain rfl := rp_int rv6
        have s6 : ∀ b o, b ≠ g → H5 b = some o → H6 b = some o := fun b o hb h => A6.rel.same b o (cut_mk (M := fun a => a = g) hb h)
        have kp6 : ∀ b o, b ≠ g → H b = some o → H6 b = some o := fun b o hb h => s6 b o hb (kp5 b o hb h)
        have hq6 : H6 q = some (.lst (L.map V.ref)) := s6 q _ nqg (s5 q _ hq4)
        have own6 : Own K (cut (Hd) H6) H6 g g' := by
          obtain ⟨p, h1, h2⟩ := A6.rel.ow 0 g' (.inr rfl)
          cases h1
          refine h2.keep (cut_mono fun a o m h => ⟨fun z => m ?_, h⟩) rfl
          by_cases e : a = g
          · subst e; exact .inr ⟨0, g', .inr rfl, rfl⟩
          · exact .inl ⟨z, e⟩
        obtain ⟨aj, haj⟩ : ∃ aj, L[j']? = some aj := ⟨_, List.getElem?_eq_getElem hjl⟩
        have maj : aj ∈ L := List.mem_of_getElem? haj
        have najg : aj ≠ g := fun z => ngL (z ▸ maj)
        have najq : aj ≠ q := fun z => nqL (z ▸ maj)
        obtain ⟨xs, dsx, hx0, _⟩ := fo.mem maj
        have hxl := hxs aj xs maj hx0
        have hx6 := kp6 aj _ najg hx0
        have fo6 := foK kp6
        refine .inl ⟨q, L.map V.ref, (j' : Int), .ref aj, rfl, rfl, .inl (.inl hq6), ?_, ?_⟩
        · unfold atI ixN
          obtain ⟨_, z⟩ := List.getElem?_eq_some_iff.mp haj
          simp [hjl, z]
        show tSeq (tDrop (tBM K.K "list" rAppend (tVar 6) (tCons (tC (.str "mark")) tNil))) _ _ [some (.ref g), some v, some gv, some (.str (toPy dg).shown), some (.ref q), some (.int (0 + (i : Int))), some (.ref aj)] H6
        refine ⟨.ref aj, rfl, .inl ⟨rfl, xs, .inl (.inl hx6)⟩, aj, xs, .str "mark", rfl, rfl, hx6, hxl, ?_⟩
        have fo7 := fo6.mark hx6 haj nd
        obtain ⟨k1, k2⟩ := hok j' (by rw [← fo.nl]; exact hjl)
        have rg7 : Rp K (upd H6 aj (.lst (xs ++ [.str "mark"]))) gv dg := rg.keep fun b o e => by
          obtain ⟨m1, m2⟩ := cut_some e
          have n1 : b ≠ aj := fun z => m1 (z ▸ hdL aj maj)
          have n2 : b ≠ g := fun z => m1 (z ▸ hdg)
          rw [upd_ne n1]
          exact kp6 b o n2 m2
        -- the mark stands once, what was given is as it was
        refine tC_plain (b := false) (ρ := [.no, .sh (markD dt j'), .sh dg, .sh (.str (toPy dg).shown), .no, .no, .no]) rfl rfl (fun i e h => ?_) ?_ fun H7 s7 => ?_
        · match i, h with
          | 1, h => simp at h; subst h; exact ⟨v, rfl, fo7.rp⟩
          | 2, h => simp at h; subst h; exact ⟨gv, rfl, rg7⟩
          | 3, h => simp at h; subst h; exact ⟨_, rfl, .str _⟩
          | 0, h => simp at h
          | 4, h => simp at h
          | 5, h => simp at h
          | 6, h => simp at h
          | _ + 7, h => simp at h
        · have c1' : gNe (.int 1) (.int 1) = some (.bl false) := rfl
          have c2' : gNe (.str (toPy dg).shown) (.str (toPy dg).shown) = some (.bl false) := by
            have z : eqD (.str (toPy dg).shown) (.str (toPy dg).shown) = true := by
              show ((toPy dg).shown == (toPy dg).shown) = true
              exact beq_self_eq_true _
            show (if True ∧ True then some (D.bl (!eqD (.str (toPy dg).shown) (.str (toPy dg).shown))) else none) = some (.bl false)
            rw [z]
            simp
          simp [tstOwn, cOr, tOf, c2, cMt, c1, cV, cC, cCons, cNil, R.bind, R.map, R.ofOpt, gRepr, k1, hsh, gCount, k2, c1', c2', asB]
        rw [if_neg Bool.false_ne_true]
        show tDrop (tBM0 K.K "list" rPop (tVar 6)) _ _ H7
        have hx7 := s7 aj _ (show upd H6 aj (.lst (xs ++ [.str "mark"])) aj = some (.lst (xs ++ [.str "mark"])) from upd_same)
        refine ⟨.ref aj, rfl, .inl ⟨rfl, _, .inl (.inl hx7)⟩, aj, _, .str "mark", rfl, rfl, hx7, by simp, ?_⟩
        rw [List.dropLast_concat]
        have up : ∀ b o, b ≠ aj → H6 b = some o → upd H7 aj (.lst xs) b = some o := fun b o hb h => by
          rw [upd_ne hb]
          exact s7 b o (by rw [upd_ne hb]; exact h)
        refine ⟨_, _, g', rfl, fun b o hb h => ?_, up q _ (Ne.symm najq) hq6, own6.keep (cut_mono fun a o m h => ⟨m, up a o (fun z => m (z ▸ hdL aj maj)) h⟩) ?_, ?_⟩
        · by_cases hba : b = aj
          · subst hba
            rw [hx0] at h
            rw [upd_same, h]
          · exact up b o hba (kp6 b o hb h)
        · cases own6 with
          | lst a _ => rw [a, up g _ (Ne.symm najg) a]
        · rw [show min 6 L.length - (i + 1) = m by omega]
          exact hN4
      · cases hN4
    · cases hN4
  · rintro σ H4 ⟨t, o, gdi, rfl, kp4, hq4, own4, hN4⟩
    simp only [Nat.sub_self, ownN] at hN4
    cases hN4
    exact k H4 kp4 own4
end
end
end PyD

set_option Elab.async false
set_option linter.all false
set_option maxRecDepth 100000
namespace PyD
open PySem PySem.Spec L2
open PyProof.Rows hiding St
theorem TD.canonT {X : Cx} {K : KX} {W : WX} {e : Expr} {f : Tv} (h : TD X K W e f) : PT X e (tC' K f) := by
  obtain ⟨t, h1, h2⟩ := h
  refine ⟨fun pins s σ H Q I hq => h1.run pins s σ H Q I ?_⟩
  obtain ⟨M, G, ρ, b, ρ', r, e, q⟩ := hq
  exact h2.ok r e Q q
def flatD (ds : List D) : Bool := plainAllD ds && decide (nlDs ds = 0)
theorem flat_one : ∀ {d : D}, plainD d = true → nlD d = 0 → True := fun _ _ => trivial
section
variable {K : KX} {H H' : Hp}
mutual
theorem fo_flat (s : Same H H') : ∀ {v : V} {d : D}, Rp K H v d → plainD d = true → nlD d = 0 → Fo K H' v d []
  | _, _, .non, _, _ => .non
  | _, _, .bl b, _, _ => .bl b
  | _, _, .int i, _, _ => .int i
  | _, _, .str x, _, _ => .str x
  | _, _, .lst h r, _, n => by simp [nlD] at n
  | _, _, .tup h r, p, n => .tup (SqT.keep s h) (foAll_flat s r (by simpa [plainD] using p) (by simpa [nlD] using n))
  | _, _, .dct h r, p, _ => by simp [plainD] at p
  | _, _, .scr h, p, _ => by simp [plainD] at p
  | _, _, .exc _ _ _, p, _ => by simp [plainD] at p
  | _, _, .fn n, p, _ => by simp [plainD] at p
theorem foAll_flat (s : Same H H') : ∀ {vs : List V} {ds : List D}, RpAll K H vs ds → plainAllD ds = true → nlDs ds = 0 → FoAll K H' vs ds []
  | _, _, .nil, _, _ => .nil
  | _, _, .cons h r, p, n => by
    have p' := Bool.and_eq_true_iff.mp (by simpa [plainAllD] using p)
    simp only [nlDs] at n
    exact FoAll.cons (L := []) (L' := []) (fo_flat s h p'.1 (by omega)) (foAll_flat s r p'.2 (by omega))
end
end
def ownOkB (d : D) : Bool := (List.range (nlD d)).all fun j => shD (markD d j) && decide (Txt.count (toPy (markD d j)).shown "'mark'" = 1)
theorem ownOkB_ok {d : D} (h : ownOkB d = true) : ownOk d := fun j hj => by
  have z := List.all_eq_true.mp h j (List.mem_range.mpr hj)
  obtain ⟨a, b⟩ := Bool.and_eq_true_iff.mp z
  exact ⟨a, of_decide_eq_true b⟩
section
variable {X : Cx} {K : KX} {W : WX} {pos p : Pos} {e e1 e2 : Expr} {ft : Av} {fg : Ev} {rnd : Ev} {k n : Nat} {ps : List Str} {x : Str} {st : Stmt}
/-- _law_own(generator, a new list that holds no lists, what was given) -/
def cOwn (i : Nat) (rnd : Ev) (n : Nat) (ft : Av) (fg : Ev) : Ev := fun ρ => match lent1 ρ i with
  | none => .bad
  | some _ => (noExc (ft ρ)).bind fun x => (noExc (fg x.2)).bind fun y => match lent1 y.2 i with
    | none => .bad
    | some gd => if (flatD x.1 && decide (dpDs x.1 + 1 < n) && decide (x.1.length < sizeLine) && shD y.1 && ownOkB (.lst x.1)) = true then match gd with
        | .lst _ => match ownN rnd 1 1 gd with
          | some g' => .ok (.bl true, setK y.2 i g')
          | none => .bad
        | _ => .bad
      else .bad
theorem den_own {i : Nat} {tt tg : TE} (h1 : DenF K W tt ft) (h2 : Den K W tg fg) : Den K W (tCallSD (spOwn K rnd n) [] (WE W) (tCons (tVar i) (tCons tt (tCons tg tNil)))) (cOwn i rnd n ft fg) := by
  refine ⟨fun {M G σ ρ H d ρ'} r0 e Q q => ?_, fun {M G σ ρ H c d} r0 e x Q => ?_⟩
  · unfold cOwn at e
    cases ho : lent1 ρ i with
    | none => rw [ho] at e; cases e
    | some c0 =>
      rw [ho] at e
      simp only at e
      obtain ⟨⟨ds, ρ1⟩, e1, e⟩ := R.bind_eq_ok e
      obtain ⟨⟨dg, ρ2⟩, e2, e⟩ := R.bind_eq_ok e
      have e1 := noExc_ok e1
      have e2 := noExc_ok e2
      obtain ⟨k0, g1, g2⟩ := lent1_some ho
      obtain ⟨g, hg, _⟩ := r0.ow i c0 (g2.imp (fun z => by rw [g1, z]) fun z => by rw [g1, z])
      cases ho2 : lent1 ρ2 i with
      | none => simp only [ho2] at e; cases e
      | some gd =>
        simp only [ho2] at e
        split at e
        · rename_i hc
          split at e
          · rename_i gds
            split at e
            · rename_i g' hN
              cases e
              simp only [Bool.and_eq_true, decide_eq_true_eq] at hc
              obtain ⟨⟨⟨⟨c1, c2⟩, c3⟩, c4⟩, c5⟩ := hc
              obtain ⟨f1, f2⟩ := Bool.and_eq_true_iff.mp c1
              have f2 := of_decide_eq_true f2
              refine ⟨.ref g, hg, h1.ok r0 e1 _ fun b xs H1 gb mb A ra => h2.ok A.rel e2 _ fun gv H2 B rg => ?_⟩
              show spOwn K rnd n [.ref g, .ref b, gv] H2 Q (WE W σ)
              obtain ⟨k1, g3, g4⟩ := lent1_some ho2
              have hi : IsOw ρ2 i (.lst gds) := g4.imp (fun z => by rw [g3, z]) fun z => by rw [g3, z]
              have hog : Ows σ ρ2 g := ⟨i, _, hi, hg⟩
              have ngb : g ≠ b := fun z => (B.rel.dis g hog).2 (.inr z)
              have hb : H2 b = some (.lst xs) := B.rel.same b _ upd_same
              obtain ⟨g'', hg', own⟩ := B.rel.ow i _ hi
              rw [hg] at hg'
              cases hg'
              refine ⟨g, .ref b, gv, .lst gds, .lst ds, dg, [b], g', fun a => (M a ∨ a = b) ∨ Ows σ ρ2 a, rfl, fun a ha => .inl (.inr (by simpa using ha)), .inr hog, fun a ha => ?_, .lst hb (foAll_flat (B.same.trans (cut_same _ _)) ra f1 f2), by simp, by simpa using ngb, own, rg, by simp only [dpD]; omega, by simp, ?_, c4, ownOkB_ok c5, hN, ?_⟩
              · rcases ha with (ha | rfl) | ⟨j, dj, h3, h4⟩
                · intro z
                  exact B.rel.mdom a (.inl ha) (B.rel.same.free z)
                · rw [hb]; exact fun z => by cases z
                · obtain ⟨p', h5, h6⟩ := B.rel.ow j dj h3
                  rw [h4] at h5; cases h5
                  exact h6.dom
              · intro a ys ha h
                simp at ha
                subst ha
                rw [hb] at h
                cases h
                rw [ra.length]; exact c3
              · intro H' kp own'
                have U := After.unprotect B.rel gb mb
                have Z := Rel.write' U.rel g3 g4 hg (fun a o ne h => kp a o ne h) (own'.keep (cut_mono fun a o m h => ⟨fun z => m (z.elim (fun z => .inl (.inl z)) .inr), h⟩) rfl)
                have qq : setK ρ2 i g' = ρ2.set i (sameKind k1 g') := by unfold setK; rw [g3]
                have q' := q (.bl true) H'
                rw [qq] at q'
                exact q' (((A.trans B).trans U).trans Z) (.bl true)
            · cases e
          · cases e
        · cases e
  · exfalso
    unfold cOwn at e
    split at e
    · cases e
    · rcases R.bind_eq_exc e with e | ⟨⟨ds, ρ1⟩, e1, e⟩
      · exact noExc_exc e
      · rcases R.bind_eq_exc e with e | ⟨⟨dg, ρ2⟩, e2, e⟩
        · exact noExc_exc e
        · simp only at e
          split at e
          · cases e
          · split at e
            · split at e
              · split at e <;> cases e
              · cases e
            · cases e
end
end PyD

set_option Elab.async false
set_option linter.all false
set_option maxRecDepth 100000
namespace PyD
open PySem PySem.Spec L2
open PyProof.Rows hiding St
section
variable {X : Cx} {K : KX} {W : WX} {pos p : Pos} {e1 e2 : Expr} {ft : Av} {fg : Ev} {rnd : Ev} {k n : Nat} {ps : List Str} {x : Str} {st : Stmt}
theorem pd_own (i : Nat) {g : Str} {pg : Pos} (C : CalD X.prog X.w K X.mg X.base k x st ps (spOwn K rnd n)) (hr : Room k X.A) (hgd : X.A.guards = some []) (tk : Takes X W) (ha : PDF X K W e1 ft) (hb : PD X K W e2 fg) (hK : X.K = K.K := by rfl)
    (hN : X.N[i]? = some g := by rfl) (hv' : Vis X.env.scope g := by first | exact Or.inl rfl | exact Or.inr (Or.inl rfl) | exact Or.inr (Or.inr rfl)) (hd : (g == ("__debug__" : Str)) = false := by decide) (hcd : (g == ("__classdict__" : Str)) = false := by decide) (hg : Gl X x := by rfl)
    (hdb : (x == ("__debug__" : Str)) = false := by decide) (he : starEach [.Name g pg, e1, e2] X.env = (false, eval (.Name g pg) X.env) :: starEach [e1, e2] X.env := by rfl) (he1 : starEach [e1, e2] X.env = (false, eval e1 X.env) :: starEach [e2] X.env := by rfl)
    (he2 : starEach [e2] X.env = (false, eval e2 X.env) :: starEach [] X.env := by rfl) (hpl : (backTo pos (starEach [e1, e2] X.env)).any (·.1) = false := by rfl) : PD X K W (.Call (.Name x p) [.Name g pg, e1, e2] [] pos) (cOwn i rnd n ft fg) := by
  obtain ⟨f, fd, F0, hm, hb', FN⟩ := C
  rw [← hK] at F0 hb' FN
  obtain ⟨t, h1, h2⟩ := ha
  obtain ⟨u, h3, h4⟩ := hb
  exact ⟨_, pe_callG FN hr hgd hg hm F0.kp hb' .nil tk (pa_cons (pv i hN hv' hd hcd) (pa_cons h1 (pa_cons h3 pa_nil he2) he1) he) hdb he hpl, den_own h2 h4⟩
end
end PyD

set_option Elab.async false
set_option linter.all false
set_option maxRecDepth 100000
namespace PyD
open PySem PySem.Spec L2
open PyProof.Rows hiding St
/-! ### an own list is walked where it is not changed -/
theorem Rel.retake {K : KX} {M : Addr → Prop} {G : Hp} {σ : St} {ρ : Rho} {H : Hp} {i : Nat} {q : Addr} {xs : List V} {ds : List D} (r : Rel K (Mp M q) (upd G q (.lst xs)) σ ρ H) (g : G q = none) (m : ¬ M q) (ra : RpAll K (hv (Mp M q) σ ρ H) xs ds)
    (h : ρ[i]? = some .no) (hσ : σ[i]? = some (some (.ref q))) : After K (Mp M q) σ ρ H M G σ (ρ.set i (.ow (.lst ds))) H ∧ hv M σ (ρ.set i (.ow (.lst ds))) H = hv (Mp M q) σ ρ H := by
  have np : ¬ Ows σ ρ q := fun z => (r.dis q z).2 (.inr rfl)
  have ni : ∀ {j : Nat} {e : D}, IsOw ρ j e → j ≠ i := fun {j e} z y => by
    subst y
    rcases z with z | z <;> rw [h] at z <;> cases z
  have eo : ∀ a, Ows σ (ρ.set i (.ow (.lst ds))) a ↔ (Ows σ ρ a ∨ a = q) := fun a => by
    constructor
    · rintro ⟨j, e, h1, h2⟩
      by_cases hj : j = i
      · subst hj
        rw [hσ] at h2
        cases h2
        exact .inr rfl
      · exact .inl ⟨j, e, (isOw_ne hj).mp h1, h2⟩
    · rintro (⟨j, e, h1, h2⟩ | rfl)
      · exact ⟨j, e, (isOw_ne (ni h1)).mpr h1, h2⟩
      · exact ⟨i, _, .inl (set_eq h), hσ⟩
  have ev : hv M σ (ρ.set i (.ow (.lst ds))) H = hv (Mp M q) σ ρ H := by
    unfold hv
    congr 1
    funext a
    rw [eo a]
    refine propext ⟨fun z => ?_, fun z => ?_⟩
    · rcases z with z | z | z
      · exact .inl (.inl z)
      · exact .inr z
      · exact .inl (.inr z)
    · rcases z with (z | z) | z
      · exact .inl z
      · exact .inr (.inr z)
      · exact .inr (.inl z)
  refine ⟨⟨⟨by rw [List.length_set]; exact r.len, fun j d hj => ?_, fun j d hj => ?_, fun j k d e p h1 h2 h3 h4 => ?_, fun a ha => ?_, fun a ha => ?_, fun a o ha => ?_⟩, ?_, fun j d hj => keep_set h rfl j d hj, by simp⟩, ev⟩
  · rw [ev]
    by_cases e : j = i
    · subst e; rw [set_eq h] at hj; cases hj
    · rw [set_ne e] at hj
      exact r.sh j d hj
  · rw [ev]
    by_cases e : j = i
    · subst e
      rw [set_eq h] at hj
      rcases hj with hj | hj <;> cases hj
      exact ⟨q, hσ, .lst (r.same q _ upd_same) ra⟩
    · exact r.ow j d ((isOw_ne e).mp hj)
  · by_cases hj : j = i
    · by_cases hk : k = i
      · rw [hj, hk]
      · subst hj
        rw [hσ] at h3
        cases h3
        exact absurd ⟨k, e, (isOw_ne hk).mp h2, h4⟩ np
    · by_cases hk : k = i
      · subst hk
        rw [hσ] at h4
        cases h4
        exact absurd ⟨j, d, (isOw_ne hj).mp h1, h3⟩ np
      · exact r.inj j k d e p ((isOw_ne hj).mp h1) ((isOw_ne hk).mp h2) h3 h4
  · rcases (eo a).mp ha with z | rfl
    · obtain ⟨h1, h2⟩ := r.dis a z
      have ne : a ≠ q := fun z => h2 (.inr z)
      rw [upd_ne ne] at h1
      exact ⟨h1, fun z => h2 (.inl z)⟩
    · exact ⟨g, m⟩
  · have := r.mdom a (.inl ha)
    rwa [upd_ne (fun z => m (by rw [z] at ha; exact ha))] at this
  · refine r.same a o ?_
    rw [upd_ne (fun z => by rw [z, g] at ha; cases ha)]
    exact ha
  · rw [ev]; exact Same.refl _
theorem itok_own {X : Cx} {K : KX} {M : Addr → Prop} {G : Hp} {σ : St} {ρ : Rho} {H : Hp} {q : Addr} {xs : List V} {ds : List D} (h1 : G q = some (.lst xs)) (h2 : RpAll K (hv M σ ρ H) xs ds) : ItOk K M G σ ρ H (Itl X.K q) ds := by
  intro M' G' σ' ρ' H' r s sg i
  have h3 : H' q = some (.lst xs) := r.same _ _ (sg _ _ h1)
  have h4 := h2.keep s
  refine ⟨fun d hd => ?_, fun hi => ⟨xs, .inl (.inl h3), by rw [h4.length]; exact hi⟩⟩
  obtain ⟨v, e1, e2⟩ := h4.get hd
  refine ⟨⟨xs, v, .inl (.inl h3), e1⟩, fun x H'' y => ?_⟩
  obtain ⟨rfl, y⟩ := y
  have := y xs (.inl (.inl h3))
  rw [e1] at this
  cases this
  exact ⟨Same.refl _, e2⟩
/-- [elt for tg in x if ..], x an own list that the block leaves alone (or a shared one) -/
def cCompP (i : Nat) (vs : List Nat) (tg : Gv) (tt : Tv) (elt : Ev) : Av := fun ρ => match ρ[i]? with
  | some (.ow (.lst ds)) => if noOw (ρ.set i .no) vs = true then match compL vs tg tt elt ds [] (ρ.set i .no) with
      | .ok (out, ρ2) => match (restR (ρ.set i .no) ρ2 vs)[i]? with
        | some .no => .ok (out, (restR (ρ.set i .no) ρ2 vs).set i (.ow (.lst ds)))
        | _ => .bad
      | _ => .bad
    else .bad
  | _ => cComp vs (cW (cV i)) tg tt elt ρ
theorem den_compP {X : Cx} {K : KX} {W : WX} (i : Nat) {w2 : TI} {ft : Gv} {tt : Tv} {fe : Ev} {sl vs : List Nat} (hK : X.K = K.K) (i2 : DenI K W (fun σ H R => iList X.K (tVar i) σ H R ∨ w2 σ H R) (cW (cV i))) (hsl : ∀ j ∈ sl, j ∈ vs) :
    DenF K W (tLc (fun σ H R => iList X.K (tVar i) σ H R ∨ w2 σ H R) (gC K sl ft) (tC' K tt) (eC K fe) vs) (cCompP i vs ft tt fe) := by
  refine ⟨fun {M G σ ρ H out ρ'} r0 e Q k => ?_, fun {M G σ ρ H c d} r0 e x Q => ?_⟩
  · unfold cCompP at e
    split at e
    · rename_i ds ho
      split at e
      · rename_i hno
        split at e
        · rename_i out1 ρ2 e2
          split at e
          · rename_i hn
            cases e
            obtain ⟨q, xs, hσ, gq, mq, A, ra⟩ := r0.take ho
            refine comp_core (M := Mp M q) (G := upd G q (.lst xs)) hsl (fun R kk => .inl ⟨.ref q, hσ, q, rfl, ⟨xs, .inl (.inl (A.rel.same q _ upd_same))⟩, kk _ _ (After.refl A.rel) (itok_own upd_same ra)⟩) hno e2 fun D accV H' gD mD B rv => ?_
            have nD : D ≠ q := fun z => by rw [z, upd_same] at gD; cases gD
            have gD' : G D = none := by rw [upd_ne nD] at gD; exact gD
            have mD' : ¬ M D := fun z => mD (.inl z)
            -- the protections change places
            have eM : Mp (Mp M q) D = Mp (Mp M D) q := by
              funext a
              refine propext ⟨fun z => ?_, fun z => ?_⟩
              · rcases z with (z | z) | z
                · exact .inl (.inl z)
                · exact .inr z
                · exact .inl (.inr z)
              · rcases z with (z | z) | z
                · exact .inl (.inl z)
                · exact .inr z
                · exact .inl (.inr z)
            have eG : upd (upd G q (.lst xs)) D (.lst accV) = upd (upd G D (.lst accV)) q (.lst xs) := by
              funext a
              by_cases h1 : a = D
              · subst h1
                rw [upd_same, upd_ne nD, upd_same]
              · by_cases h2 : a = q
                · subst h2
                  rw [upd_ne h1, upd_same, upd_same]
                · rw [upd_ne h1, upd_ne h2, upd_ne h2, upd_ne h1]
            have BR := B.rel
            have BS := B.same
            have rv' := rv
            rw [eM, eG] at BR
            rw [eM] at BS rv'
            have gq' : upd G D (.lst accV) q = none := by rw [upd_ne (Ne.symm nD)]; exact gq
            have mq' : ¬ Mp M D q := fun z => z.elim mq fun z => nD z.symm
            have raB : RpAll K (hv (Mp (Mp M D) q) σ (restR (ρ.set i .no) ρ2 vs) H') xs ds := ra.keep BS
            obtain ⟨Z, ez⟩ := BR.retake gq' mq' raB hn hσ
            have T : After K (Mp M q) σ (ρ.set i .no) H (Mp (Mp M D) q) (upd (upd G D (.lst accV)) q (.lst xs)) σ (restR (ρ.set i .no) ρ2 vs) H' := ⟨BR, BS, B.keep, B.len⟩
            refine k D accV H' gD' mD' ((A.trans T).trans Z) ?_
            rw [ez]
            exact rv'
          · cases e
        · cases e
      · cases e
    · exact (den_comp i2 hsl).ok r0 e Q k
  · unfold cCompP at e
    split at e
    · split at e
      · split at e
        · split at e <;> cases e
        · cases e
      · cases e
    · exact (den_comp i2 hsl).exc r0 e x Q
section
variable {X : Cx} {K : KX} {W : WX} {pos : Pos} {tg elt : Expr} {ifs : List Expr} {scope : Scope} {own : List (Str × Nat)} {ft : Gv} {tt : Tv} {fe : Ev} {sl : List Nat} {x : Str} {px : Pos}
theorem fd_compP (n : Nat) (own : List (Str × Nat)) (hN : X.N.Nodup) (hg : ∀ (s : Shared) (H : Hp) (C : Addr) (cl : List (Str × Addr)) (fp : List Addr), GD (X.blk s H scope (compEnvC scope cl C X.env) fp) K sl tg ft)
    (ht : ∀ (s : Shared) (H : Hp) (C : Addr) (cl : List (Str × Addr)) (fp : List Addr), FsD (X.blk s H scope (compEnvC scope cl C X.env) fp) K wF ifs tt) (he : ∀ (s : Shared) (H : Hp) (C : Addr) (cl : List (Str × Addr)) (fp : List Addr), PD (X.blk s H scope (compEnvC scope cl C X.env) fp) K wF elt fe)
    (ok : blkC X.N X.env.scope scope own = true) (hx : X.N[n]? = some x := by rfl) (hv' : Vis X.env.scope x := by first | exact Or.inl rfl | exact Or.inr (Or.inl rfl) | exact Or.inr (Or.inr rfl)) (hd : (x == ("__debug__" : Str)) = false := by decide) (hcd : (x == ("__classdict__" : Str)) = false := by decide)
    (hsl : ∀ j ∈ sl, j ∈ own.map (·.2) := by decide) (hc : X.calm = true := by rfl) (hK : X.K = K.K := by rfl) (hs : ∀ y, foldedSetIterable (.Name x px) X.env y = pure y := by intro _; rfl) : PDF X K W (.ListComp elt [⟨tg, .Name x px, ifs, 0⟩] scope pos) (cCompP n (own.map (·.2)) ft tt fe) := by
  have h1 := pv (X := X) (pos := px) n hx hv' hd hcd
  exact ⟨_, pe_lc hc hN (pi_or (pi_list h1) (pi_or (pi_tup h1) (pi_str h1))) (blkOk_by ok) (fun s H C cl fp => (hg s H C cl fp).canon) (fun s H C cl fp => (ht s H C cl fp).canon) (fun s H C cl fp => (he s H C cl fp).canon) hs, den_compP n hK (den_seq hK den_v) hsl⟩
theorem sd_setLcOP (n i : Nat) {y : Str} {py spos : Pos} (own : List (Str × Nat)) (hN : X.N.Nodup) (hg : ∀ (s : Shared) (H : Hp) (C : Addr) (cl : List (Str × Addr)) (fp : List Addr), GD (X.blk s H scope (compEnvC scope cl C X.env) fp) K sl tg ft)
    (ht : ∀ (s : Shared) (H : Hp) (C : Addr) (cl : List (Str × Addr)) (fp : List Addr), FsD (X.blk s H scope (compEnvC scope cl C X.env) fp) K wF ifs tt) (he : ∀ (s : Shared) (H : Hp) (C : Addr) (cl : List (Str × Addr)) (fp : List Addr), PD (X.blk s H scope (compEnvC scope cl C X.env) fp) K wF elt fe)
    (ok : blkC X.N X.env.scope scope own = true) (hsw : swapsWith (.ListComp elt [⟨tg, .Name x px, ifs, 0⟩] scope pos) (some (.Name y py)) spos.line X.env = pure true) (hy : X.N[i]? = some y := by rfl) (hyl : X.env.scope.names.lookup y = some .local := by rfl)
    (hx : X.N[n]? = some x := by rfl) (hv' : Vis X.env.scope x := by first | exact Or.inl rfl | exact Or.inr (Or.inl rfl) | exact Or.inr (Or.inr rfl)) (hd : (x == ("__debug__" : Str)) = false := by decide) (hcd : (x == ("__classdict__" : Str)) = false := by decide)
    (hsl : ∀ j ∈ sl, j ∈ own.map (·.2) := by decide) (hc : X.calm = true := by rfl) (hK : X.K = K.K := by rfl) (hs : ∀ y, foldedSetIterable (.Name x px) X.env y = pure y := by intro _; rfl) : SD X K W (.Assign [.Name y py] (.ListComp elt [⟨tg, .Name x px, ifs, 0⟩] scope pos) spos) (cSetO i (cCompP n (own.map (·.2)) ft tt fe)) := by
  have h1 := pv (X := X) (pos := px) n hx hv' hd hcd
  exact ⟨_, ps_setLc hc hN hy hyl hsw (pi_or (pi_list h1) (pi_or (pi_tup h1) (pi_str h1))) (blkOk_by ok) (fun s H C cl fp => (hg s H C cl fp).canon) (fun s H C cl fp => (ht s H C cl fp).canon) (fun s H C cl fp => (he s H C cl fp).canon) hs, den_setO (den_compP n hK (den_seq hK den_v) hsl)⟩
theorem sd_setLcP (n i : Nat) {y : Str} {py spos : Pos} (own : List (Str × Nat)) (hN : X.N.Nodup) (hg : ∀ (s : Shared) (H : Hp) (C : Addr) (cl : List (Str × Addr)) (fp : List Addr), GD (X.blk s H scope (compEnvC scope cl C X.env) fp) K sl tg ft)
    (ht : ∀ (s : Shared) (H : Hp) (C : Addr) (cl : List (Str × Addr)) (fp : List Addr), FsD (X.blk s H scope (compEnvC scope cl C X.env) fp) K wF ifs tt) (he : ∀ (s : Shared) (H : Hp) (C : Addr) (cl : List (Str × Addr)) (fp : List Addr), PD (X.blk s H scope (compEnvC scope cl C X.env) fp) K wF elt fe)
    (ok : blkC X.N X.env.scope scope own = true) (hsw : swapsWith (.ListComp elt [⟨tg, .Name x px, ifs, 0⟩] scope pos) (some (.Name y py)) spos.line X.env = pure true) (hy : X.N[i]? = some y := by rfl) (hyl : X.env.scope.names.lookup y = some .local := by rfl)
    (hx : X.N[n]? = some x := by rfl) (hv' : Vis X.env.scope x := by first | exact Or.inl rfl | exact Or.inr (Or.inl rfl) | exact Or.inr (Or.inr rfl)) (hd : (x == ("__debug__" : Str)) = false := by decide) (hcd : (x == ("__classdict__" : Str)) = false := by decide)
    (hsl : ∀ j ∈ sl, j ∈ own.map (·.2) := by decide) (hc : X.calm = true := by rfl) (hK : X.K = K.K := by rfl) (hs : ∀ y, foldedSetIterable (.Name x px) X.env y = pure y := by intro _; rfl) : SD X K W (.Assign [.Name y py] (.ListComp elt [⟨tg, .Name x px, ifs, 0⟩] scope pos) spos) (cAsg (cL (cCompP n (own.map (·.2)) ft tt fe)) (gN i)) := by
  have h1 := pv (X := X) (pos := px) n hx hv' hd hcd
  exact ⟨_, ps_setLc hc hN hy hyl hsw (pi_or (pi_list h1) (pi_or (pi_tup h1) (pi_str h1))) (blkOk_by ok) (fun s H C cl fp => (hg s H C cl fp).canon) (fun s H C cl fp => (ht s H C cl fp).canon) (fun s H C cl fp => (he s H C cl fp).canon) hs, den_setS (den_compP n hK (den_seq hK den_v) hsl)⟩
end
end PyD

set_option Elab.async false
set_option linter.all false
set_option maxRecDepth 100000
namespace PyD
open PySem PySem.Spec L2
open PyProof.Rows hiding St
/-! ### what the written part tells of the top -/
def DefF (K : PySem.W.Frag) (x : Str) (st : Stmt) : Prop := ∃ (f : Addr) (oc : Value) (od : Option Addr) (kV doc pm : Value) (an : Option Addr) (cdv ct : Value) (osl : Array (Option Value)),
  PySem.W.nsIn K mainGlobals x = some (some (.ref f)) ∧ K.lookup f = some ⟨oc, od, .func (PySem.W.fnOf x x (defArgs st) (defBody st) (defScope st) .none kV doc pm an cdv ct), osl⟩ ∧ PySem.W.codeIn K cdv x = true ∧ PySem.W.keepIn K (.ref f) = true
def BindsAs (x : Str) (st : Stmt) (ps : List Str) : Prop := ∀ (kV doc pm : Value) (an : Option Addr) (cdv ct : Value) (us : List Value), us.length = ps.length → bindArgs (PySem.W.fnOf x x (defArgs st) (defBody st) (defScope st) .none kV doc pm an cdv ct) ⟨us, []⟩ = pure (ps.zip us)
section
variable {K : PySem.W.Frag} {h : Heap} {mg : Str → Option Value} {x : Str} {st : Stmt} {ps : List Str}
theorem DefF.defX {CA FA : Nat → Addr} (X : K.In h) (G : h.Ns mainGlobals mg) (d : DefF K x st) (b : BindsAs x st ps) : DefX ⟨K, CA, FA⟩ mg x st ps := by
  obtain ⟨f, oc, od, kV, doc, pm, an, cdv, ct, osl, h1, h2, h3, h4⟩ := d
  have F := fun_mk (st := st) h2 h3 h4
  exact ⟨_, _, F, PySem.W.mg_of X G h1, F.binds b⟩
def GlF (K : PySem.W.Frag) (x : Str) (v : V) : Prop := ∃ u, PySem.W.nsIn K mainGlobals x = some (some u) ∧ RelV v u
theorem GlF.gl {v : V} (X : K.In h) (G : h.Ns mainGlobals mg) (d : GlF K x v) : GloC mg x v := by
  obtain ⟨u, h1, r⟩ := d
  exact ⟨u, PySem.W.mg_of X G h1, r⟩
/-- no name of the top is a builtin's -/
structure BltF (K : PySem.W.Frag) : Prop where
  all : ∀ y ∈ (["len", "sum", "all", "any", "min", "max", "abs", "int", "str", "list", "tuple", "dict", "set", "bool", "range", "enumerate", "zip", "sorted", "isinstance", "repr", "ord", "super", "ValueError"] : List Str), PySem.W.nsIn K mainGlobals y = some none
theorem BltF.blt (X : K.In h) (G : h.Ns mainGlobals mg) (b : BltF K) : Blt mg := by
  have z := fun y m => PySem.W.mg_none_of X G (b.all y m)
  constructor <;> exact z _ (by decide)
theorem kit_of {t : Value} {C : Addr} {b : Bool} (h1 : PySem.W.isClsIn K C = true) (h2 : PySem.W.typeIn K (.ref C) = some (.type "type")) (h3 : PySem.W.subIn K t (.ref C) = some b) : PySem.W.kitCls K t (.ref C) = some b := by
  have h1' : (PySem.W.clsIn K C).isSome = true := h1
  show (if ((PySem.W.clsIn K C).isSome && PySem.W.typeIn K (.ref C) == some (.type "type")) = true then PySem.W.subIn K t (.ref C) else none) = some b
  rw [h1', h2]
  exact h3
theorem kit_ty {t : Value} {T : String} {b : Bool} (h1 : PySem.W.kitMeta T = true) (h3 : PySem.W.subIn K t (.type T) = some b) : PySem.W.kitCls K t (.type T) = some b := by
  show (if PySem.W.kitMeta T = true then PySem.W.subIn K t (.type T) else none) = some b
  rw [if_pos h1]
  exact h3
theorem kitOne_of {t c : Value} {b : Bool} (h : PySem.W.kitCls K t c = some b) (h2 : (t == c) = true → b = true) : PySem.W.kitOne K t c = some b := by
  unfold PySem.W.kitOne
  split
  · rename_i e; rw [h2 e]
  · exact h
theorem exm_of {t c : Value} {b : Bool} (h : PySem.W.kitCls K t c = some b) (h2 : PySem.W.subIn K c (.type "BaseException") = some true) : PySem.W.exmOne K t c = some b := by
  unfold PySem.W.exmOne
  rw [h2]
  exact h
/-- an exception's class, of the written part alone -/
structure ErrCF (K : PySem.W.Frag) (D fI C : Addr) (x : Str) : Prop where
  nsC : PySem.W.nsIn K mainGlobals x = some (some (.ref C))
  cls : ∃ nm q N bs bm sn sub ab col dd k0 k1 k2 k3 k5, K.lookup C = some (PySem.excClassObj nm q C N bs bm true sn sub ab col dd k0 k1 k2 k3 k5 "ValueError.__new__") ∧ PySem.HandSPX.refsVE bm = true
  sa : PySem.W.findIn K (.ref C) "__setattr__" = some (some (.builtin "object.__setattr__"))
  ga : PySem.W.findIn K (.ref C) "__getattribute__" = some (some (.builtin "BaseException.__getattribute__"))
  gg : PySem.W.findIn K (.ref C) "__getattr__" = some none
  noN : PySem.W.findIn K (.ref C) "value" = some none
  iC : PySem.W.findIn K (.ref C) "__init__" = some (some (.ref fI))
  kC : PySem.W.keepIn K (.ref C) = true
  exC : PySem.W.subIn K (.ref C) (.type "BaseException") = some true
  tyC : PySem.W.typeIn K (.ref C) = some (.type "type")
  hdC : PySem.W.hasDictIn K C = true
  hsub : PySem.W.mroIn K C (.ref D) = some true
  hsup : PySem.W.ks_superIn K C D "__init__" = some (some (.builtin "ValueError.__init__"))
  hVE : PySem.W.subIn K (.ref C) (.type "ValueError") = some true
theorem ErrCF.errC {D fI C : Addr} (X : K.In h) (G : h.Ns mainGlobals mg) (e : ErrCF K D fI C x) : ErrC K mg D fI C x :=
  ⟨PySem.W.mg_of X G e.nsC, e.cls, e.sa, e.ga, e.gg, e.noN, e.iC, e.kC, e.exC, e.tyC, e.hdC, e.hsub, e.hsup, e.hVE⟩
/-- the law's def: what the end asks of it -/
theorem end_mk {P : Program} {w : World} {KK : KX} {k n : Nat} {x : Str} {st : Stmt} {y : Str} {fa : Addr} {F : Ev} (hfa : mg x = some (.ref fa)) (d : DefX KK mg x st [y]) (C : ∀ base : Heap, CalD P w KK mg base k x st [y] (spD KK 1 F))
    (hp : ∀ ns : List Int, ns.length ≤ n → ∃ ρ, F [.sh (.scr ns)] = .ok (.bl true, ρ)) (hb : BindsAs x st [y]) :
    ∃ (fd : FuncData) (sp : Sp), (∀ (s : Shared) (u : Value), BindsTo s fd ⟨[u], []⟩ [(y, u)]) ∧ (∀ base : Heap, KK.K.In base → base.Ns mainGlobals mg → FnG P w KK.K mg base k fa fd [y] sp) ∧
      ∀ (H : Hp) (a : Addr) (ns : List Int), ns.length ≤ n → Only H → SqL KK.K H a (ns.map V.int) → sp [.ref a] H (fun v _ => v = .bl true) fun _ _ _ => False := by
  obtain ⟨f, fd, F0, hm, _⟩ := d
  have e := hfa.symm.trans hm
  cases e
  obtain ⟨oc, od, kV, doc, pm, an, cdv, ct, osl, rfl, lk, hcd⟩ := F0.ex
  refine ⟨PySem.W.fnOf x x (defArgs st) (defBody st) (defScope st) .none kV doc pm an cdv ct, spD KK 1 F, fun s u => .of_eq (hb kV doc pm an cdv ct [u] rfl), fun base _ _ => ?_, fun H a ns hn hO hS => spD_law hO hS (hp ns hn)⟩
  obtain ⟨f', fd', F', hm', hb', FN⟩ := C base
  have e := hm.symm.trans hm'
  cases e
  obtain ⟨oc', od', kV', doc', pm', an', cdv', ct', osl', rfl, lk', _⟩ := F'.ex
  have e := lk.symm.trans lk'
  cases e
  exact FN
end
end PyD

set_option Elab.async false
set_option linter.all false
set_option maxRecDepth 100000
namespace PyD
open PySem
/-! ### what a mirror ends with: an answer and the slots, or an exception -/
def Wp {α : Type} (r : R (α × Rho)) (Q : α → Rho → Prop) (E : Nat → D → Prop) : Prop := match r with
  | .ok x => Q x.1 x.2
  | .exc c d => E c d
  | .bad => False
def NoE : Nat → D → Prop := fun _ _ => False
section
variable {α β : Type} {Q : α → Rho → Prop} {S : β → Rho → Prop} {E : Nat → D → Prop}
theorem wp_ok {x : α × Rho} : Wp (.ok x) Q E ↔ Q x.1 x.2 := Iff.rfl
theorem wp_bad : Wp (.bad : R (α × Rho)) Q E ↔ False := Iff.rfl
theorem wp_exc {c : Nat} {d : D} : Wp (.exc c d : R (α × Rho)) Q E ↔ E c d := Iff.rfl
theorem wp_bind {r : R (α × Rho)} {g : α × Rho → R (β × Rho)} : Wp (r.bind g) S E ↔ Wp r (fun a ρ => Wp (g (a, ρ)) S E) E := by
  cases r <;> exact Iff.rfl
theorem wp_map {r : R (α × Rho)} {g : α × Rho → β × Rho} : Wp (r.map g) S E ↔ Wp r (fun a ρ => S (g (a, ρ)).1 (g (a, ρ)).2) E := by
  cases r <;> exact Iff.rfl
theorem wp_opt {β : Type} {o : Option β} {ρ : Rho} {Q : β → Rho → Prop} : Wp ((R.ofOpt o).map fun z => (z, ρ)) Q E ↔ ∃ z, o = some z ∧ Q z ρ := by
  cases o with
  | none => simp [R.ofOpt, R.map, Wp]
  | some z => simp [R.ofOpt, R.map, Wp]
theorem wp_noExc {r : R (α × Rho)} : Wp (noExc r) Q E ↔ Wp r Q NoE := by
  cases r <;> exact Iff.rfl
theorem wp_if {c : Prop} [Decidable c] {r s : R (α × Rho)} : Wp (if c then r else s) Q E ↔ (c → Wp r Q E) ∧ (¬ c → Wp s Q E) := by
  by_cases h : c <;> simp [h]
theorem wp_ite_bad {c : Prop} [Decidable c] {r : R (α × Rho)} : Wp (if c then r else .bad) Q E ↔ c ∧ Wp r Q E := by
  by_cases h : c <;> simp [h, wp_bad]
theorem Wp.imp {r : R (α × Rho)} {Q' : α → Rho → Prop} {E' : Nat → D → Prop} (h : Wp r Q E) (f : ∀ a ρ, Q a ρ → Q' a ρ) (g : ∀ c d, E c d → E' c d) : Wp r Q' E' := by
  cases r with
  | ok x => exact f _ _ h
  | exc c d => exact g _ _ h
  | bad => exact h
theorem Wp.out {r : R (α × Rho)} (h : Wp r Q NoE) : ∃ a ρ, r = .ok (a, ρ) ∧ Q a ρ := by
  cases r with
  | ok x => exact ⟨x.1, x.2, rfl, h⟩
  | exc c d => exact h.elim
  | bad => exact h.elim
theorem Wp.of {r : R (α × Rho)} {a : α} {ρ : Rho} (h : r = .ok (a, ρ)) (q : Q a ρ) : Wp r Q E := by subst h; exact q
end
section
variable {Q : D → Rho → Prop} {QL : List D → Rho → Prop} {QB : Bool → Rho → Prop} {QF : Fl → Rho → Prop} {E : Nat → D → Prop} {ρ : Rho} {fa fb : Ev} {fs gs : Av} {t u : Tv} {f g : Sv}
@[simp] theorem wp_cC {d : D} : Wp (cC d ρ) Q E ↔ Q d ρ := Iff.rfl
@[simp] theorem wp_cV {i : Nat} : Wp (cV i ρ) Q E ↔ ∃ d, ρ[i]? = some (.sh d) ∧ Q d ρ := by
  unfold cV
  split
  · rename_i d h; rw [h]; simp [Wp]
  · rename_i h; simp only [Wp, false_iff]; rintro ⟨d, e, _⟩; exact h d e
@[simp] theorem isRf_no : isRf .no = false := rfl
@[simp] theorem isRf_sh {d : D} : isRf (.sh d) = false := rfl
@[simp] theorem isRf_ow {d : D} : isRf (.ow d) = false := rfl
def cellD : Cell → Option D
  | .sh d => some d
  | .ow d => some d
  | .rf d => some d
  | .no => none
@[simp] theorem wp_cP {i : Nat} : Wp (cP i ρ) Q E ↔ ∃ d, (ρ[i]?.bind cellD) = some d ∧ Q d ρ := by
  unfold cP
  cases h : ρ[i]? with
  | none => simp [Wp]
  | some c => cases c <;> simp [Wp, cellD]
@[simp] theorem wp_c1 {r : D → Option D} : Wp (c1 r fa ρ) Q E ↔ Wp (fa ρ) (fun a ρ1 => ∃ z, r a = some z ∧ Q z ρ1) E := by
  unfold c1; rw [wp_bind]; simp only [wp_opt]
@[simp] theorem wp_c2 {r : D → D → Option D} : Wp (c2 r fa fb ρ) Q E ↔ Wp (fa ρ) (fun a ρ1 => Wp (fb ρ1) (fun b ρ2 => ∃ z, r a b = some z ∧ Q z ρ2) E) E := by
  unfold c2; rw [wp_bind]; simp only [wp_bind, wp_opt]
@[simp] theorem wp_cC1 {r : List D → Option D} : Wp (cC1 r fs ρ) Q E ↔ Wp (fs ρ) (fun a ρ1 => ∃ z, r a = some z ∧ Q z ρ1) E := by
  unfold cC1; rw [wp_bind]; simp only [wp_opt]
@[simp] theorem wp_cNil : Wp (cNil ρ) QL E ↔ QL [] ρ := Iff.rfl
@[simp] theorem wp_cCons : Wp (cCons fa fs ρ) QL E ↔ Wp (fa ρ) (fun a ρ1 => Wp (fs ρ1) (fun as ρ2 => QL (a :: as) ρ2) E) E := by
  unfold cCons; rw [wp_bind]; simp only [wp_map]
@[simp] theorem wp_tOf : Wp (tOf fa ρ) QB E ↔ Wp (fa ρ) (fun a ρ1 => ∃ z, asB a = some z ∧ QB z ρ1) E := by
  unfold tOf; rw [wp_bind]; simp only [wp_opt]
@[simp] theorem wp_cL : Wp (cL fs ρ) Q E ↔ Wp (fs ρ) (fun as ρ1 => Q (.lst as) ρ1) E := by unfold cL; rw [wp_map]
@[simp] theorem wp_cLst : Wp (cLst fs ρ) QL E ↔ Wp (fs ρ) (fun as ρ1 => as.length ≤ sizeLine ∧ QL as ρ1) E := by
  unfold cLst; rw [wp_bind]; simp only [wp_ite_bad, wp_ok]
@[simp] theorem wp_cTup : Wp (cTup fs ρ) Q E ↔ Wp (fs ρ) (fun as ρ1 => as.length ≤ sizeLine ∧ Q (.tup as) ρ1) E := by
  unfold cTup; rw [wp_bind]; simp only [wp_ite_bad, wp_ok]
@[simp] theorem wp_cAnd : Wp (cAnd t u ρ) QB E ↔ Wp (t ρ) (fun b ρ1 => (b = true → Wp (u ρ1) QB E) ∧ (b = false → QB false ρ1)) E := by
  unfold cAnd; rw [wp_bind]; simp only [wp_if, wp_ok, Bool.not_eq_true]
@[simp] theorem wp_cOr : Wp (cOr t u ρ) QB E ↔ Wp (t ρ) (fun b ρ1 => (b = true → QB true ρ1) ∧ (b = false → Wp (u ρ1) QB E)) E := by
  unfold cOr; rw [wp_bind]; simp only [wp_if, wp_ok, Bool.not_eq_true]
@[simp] theorem wp_cNot : Wp (cNot t ρ) QB E ↔ Wp (t ρ) (fun b ρ1 => QB (!b) ρ1) E := by
  unfold cNot; rw [wp_bind]; simp only [wp_ok]
@[simp] theorem wp_cIf : Wp (cIf t fa fb ρ) Q E ↔ Wp (t ρ) (fun b ρ1 => (b = true → Wp (fa ρ1) Q E) ∧ (b = false → Wp (fb ρ1) Q E)) E := by
  unfold cIf; rw [wp_bind]; simp only [wp_if, Bool.not_eq_true]
@[simp] theorem wp_cSkip : Wp (cSkip ρ) QF E ↔ QF .nx ρ := Iff.rfl
theorem wp_cSeq : Wp (cSeq f g ρ) QF E ↔ Wp (f ρ) (fun fl ρ1 => (fl = .nx → Wp (g ρ1) QF E) ∧ (fl ≠ .nx → QF fl ρ1)) E := by
  unfold cSeq; rw [wp_bind]
  constructor
  · refine fun h => h.imp (fun a ρ1 h => ?_) fun _ _ h => h
    cases a <;> simp_all [Wp]
  · refine fun h => h.imp (fun a ρ1 h => ?_) fun _ _ h => h
    cases a <;> simp_all [Wp]
@[simp] theorem wp_cIfS : Wp (cIfS t f g ρ) QF E ↔ Wp (t ρ) (fun b ρ1 => (b = true → Wp (f ρ1) QF E) ∧ (b = false → Wp (g ρ1) QF E)) E := by
  unfold cIfS; rw [wp_bind]; simp only [wp_if, Bool.not_eq_true]
@[simp] theorem wp_cRet : Wp (cRet fa ρ) QF E ↔ Wp (fa ρ) (fun d ρ1 => QF (.rt d) ρ1) E := by unfold cRet; rw [wp_map]
@[simp] theorem wp_cRetF : Wp (cRetF fs ρ) QF E ↔ Wp (fs ρ) (fun d ρ1 => QF (.rtF d) ρ1) E := by unfold cRetF; rw [wp_map]
@[simp] theorem wp_cExpr : Wp (cExpr fa ρ) QF E ↔ Wp (fa ρ) (fun d ρ1 => QF .nx ρ1) E := by unfold cExpr; rw [wp_map]
/-- what comes behind a statement, kept closed -/
def Go (g : Sv) (ρ : Rho) (QF : Fl → Rho → Prop) (E : Nat → D → Prop) : Prop := Wp (g ρ) QF E
theorem go_iff {g : Sv} : Go g ρ QF E ↔ Wp (g ρ) QF E := Iff.rfl
def Then (g : Sv) (QF : Fl → Rho → Prop) (E : Nat → D → Prop) (fl : Fl) (ρ : Rho) : Prop := match fl with
  | .nx => Go g ρ QF E
  | fl => QF fl ρ
@[simp] theorem then_nx {g : Sv} : Then g QF E .nx ρ ↔ Go g ρ QF E := Iff.rfl
@[simp] theorem then_rt {g : Sv} {d : D} : Then g QF E (.rt d) ρ ↔ QF (.rt d) ρ := Iff.rfl
@[simp] theorem then_rtF {g : Sv} {d : List D} : Then g QF E (.rtF d) ρ ↔ QF (.rtF d) ρ := Iff.rfl
@[simp] theorem then_bk {g : Sv} : Then g QF E .bk ρ ↔ QF .bk ρ := Iff.rfl
@[simp] theorem then_ct {g : Sv} : Then g QF E .ct ρ ↔ QF .ct ρ := Iff.rfl
theorem wp_seq : Wp (cSeq f g ρ) QF E ↔ Wp (f ρ) (Then g QF E) E := by
  rw [wp_cSeq]
  have e : ∀ fl ρ1, ((fl = .nx → Wp (g ρ1) QF E) ∧ (fl ≠ .nx → QF fl ρ1)) ↔ Then g QF E fl ρ1 := fun fl ρ1 => by
    cases fl <;> simp [Then, Go]
  exact ⟨fun h => h.imp (fun a ρ h => (e a ρ).mp h) fun _ _ h => h, fun h => h.imp (fun a ρ h => (e a ρ).mpr h) fun _ _ h => h⟩
theorem go_seq : Go (cSeq f g) ρ QF E ↔ Wp (f ρ) (Then g QF E) E := wp_seq
@[simp] theorem cellD_sh {d : D} : cellD (.sh d) = some d := rfl
@[simp] theorem cellD_ow {d : D} : cellD (.ow d) = some d := rfl
@[simp] theorem cellD_rf {d : D} : cellD (.rf d) = some d := rfl
/-- a target -/
def Wg (r : R Rho) (Q : Rho → Prop) (E : Nat → D → Prop) : Prop := match r with
  | .ok ρ => Q ρ
  | .exc c d => E c d
  | .bad => False
@[simp] theorem wp_cAsg {G : Gv} : Wp (cAsg fa G ρ) QF E ↔ Wp (fa ρ) (fun d ρ1 => Wg (G d ρ1) (fun ρ2 => QF .nx ρ2) E) E := by
  unfold cAsg; rw [wp_bind]
  have : ∀ (r : R Rho), Wp (r.map fun ρ1 => (Fl.nx, ρ1)) QF E ↔ Wg r (fun ρ2 => QF .nx ρ2) E := fun r => by cases r <;> exact Iff.rfl
  simp only [this]
@[simp] theorem wg_gN {i : Nat} {d : D} {QR : Rho → Prop} : Wg (gN i d ρ) QR E ↔ ∃ c, ρ[i]? = some c ∧ isRf c = false ∧ QR (ρ.set i (.sh d)) := by
  unfold gN putSh
  cases h : ρ[i]? with
  | none => simp [Wg]
  | some c => cases c <;> simp [Wg, isRf]
@[simp] theorem wp_runD {n : Nat} {as : Rho} : Wp (runD n f as) Q E ↔ Wp (f (full n as)) (fun fl ρ' => match fl with | .rt d => Q d (outCells as ρ') | .rtF ds => Q (.lst ds) (outCells as ρ') | .nx => Q .non (outCells as ρ') | _ => False) (fun c d => as.all isSh = true ∧ E c d) := by
  unfold runD
  cases h : f (full n as) with
  | ok x => obtain ⟨fl, ρ'⟩ := x; cases fl <;> simp [Wp]
  | exc c d => by_cases z : as.all isSh = true <;> simp [Wp, z]
  | bad => simp [Wp]
end
end PyD

set_option Elab.async false
set_option linter.all false
set_option maxRecDepth 100000
namespace PyD
open PySem PySem.Spec L2
open PyProof.Rows hiding St
section
variable {X : Cx} {K : KX} {W : WX} {pos p : Pos} {e : Expr} {es : List Expr} {fa : Ev} {fs : Av} {k n : Nat} {f : Addr} {fd : FuncData} {ps : List Str} {x : Str}
/-! ### xs[::-1] -/
def cRevF (f : Ev) : Av := fun ρ => (f ρ).bind fun x => match x.1 with
  | .lst xs => .ok (xs.reverse, x.2)
  | _ => .bad
theorem RpAll.rev {H : Hp} : ∀ {vs : List V} {ds : List D}, RpAll K H vs ds → RpAll K H vs.reverse ds.reverse
  | _, _, .nil => .nil
  | _, _, .cons r t => by
    rw [List.reverse_cons, List.reverse_cons]
    exact (RpAll.rev t).append (.cons r .nil)
theorem fd_rev {kk : Nat} {p1 p2 p3 : Pos} (ha : PDP X K W e fa) (hK : X.K = K.K := by rfl) : PDF X K W (.Subscript e (.Slice none none (some (.UnaryOp .USub (.Constant (.int 1) kk p1) p2)) p3) pos) (cRevF fa) := by
  obtain ⟨t, a1, a2⟩ := ha
  refine ⟨_, pe_revL a1, fun {M G σ ρ H ds ρ'} r0 e Q q => ?_, fun {M G σ ρ H c d} r0 e x Q => ?_⟩
  · obtain ⟨⟨x, ρ1⟩, e1, e⟩ := R.bind_eq_ok e
    refine a2.ok r0 e1 _ fun v H1 A1 r1 => ?_
    cases x <;> simp only at e <;> try (cases e; done)
    cases e
    obtain ⟨a, vs, rfl, h1, h2⟩ := r1.lst A1.rel
    refine ⟨a, vs, rfl, .inl (.inl h1), fun p n => ?_⟩
    have B := After.protect (o := .lst vs.reverse) A1.rel n
    obtain ⟨g, m, _⟩ := A1.rel.fresh n
    exact q p _ _ g m (A1.trans B) (h2.rev.keep B.same)
  · rcases R.bind_eq_exc e with e | ⟨⟨z, ρ1⟩, e1, e⟩
    · exact a2.exc r0 e x _
    · cases z <;> simp only at e <;> cases e
/-! ### a new list out of a call's answer: f(text)[k], where what is handed in holds no lists -/
def scalD : D → Bool
  | .non => true
  | .bl _ => true
  | .int _ => true
  | .str _ => true
  | _ => false
theorem rp_scal {H H' : Hp} : ∀ {v : V} {d : D}, scalD d = true → Rp K H v d → Rp K H' v d
  | _, .non, _, .non => .non
  | _, .bl _, _, .bl b => .bl b
  | _, .int _, _, .int i => .int i
  | _, .str _, _, .str x => .str x
theorem rpAll_scal {H H' : Hp} : ∀ {vs : List V} {ds : List D}, ds.all scalD = true → RpAll K H vs ds → RpAll K H' vs ds
  | _, [], _, .nil => .nil
  | _, d :: ds, h, .cons r t => by
    simp only [List.all_cons, Bool.and_eq_true] at h
    exact .cons (rp_scal h.1 r) (rpAll_scal h.2 t)
def cCallN (n : Nat) (k : Int) (F : Ev) (fs : Av) : Av := fun ρ => (fs ρ).bind fun x => if x.1.length = n ∧ x.1.all scalD = true then (noExc (F (shs x.1))).bind fun y => match y.1 with
    | .tup ds => match atI ds k with
      | some (.lst es) => if flatD es = true then .ok (es, x.2) else .bad
      | _ => .bad
    | _ => .bad
  else .bad
theorem rel_hid {σ : L2.St} {H : Hp} {vs : List V} {ds : List D} (h : ds.all scalD = true) (ra : RpAll K H vs ds) : Rel K (fun a => H a ≠ none) H (vs.map some) (shs ds) H := by
  refine ⟨by unfold shs; simp [ra.length], fun j e h' => ?_, fun j e h => ?_, fun j k e f p h => ?_, fun a h => (ows_shs a h).elim, fun a h => h, Same.refl _⟩
  · unfold shs at h'
    rw [List.getElem?_map] at h'
    cases q : ds[j]? with
    | none => rw [q] at h'; cases h'
    | some z =>
      rw [q] at h'
      cases h'
      obtain ⟨v, h1, h2⟩ := ra.get q
      have hz : scalD e = true := List.all_eq_true.mp h e (List.mem_of_getElem? q)
      exact ⟨v, by rw [List.getElem?_map, h1]; rfl, rp_scal hz h2⟩
  · unfold shs at h
    rw [List.getElem?_map] at h
    cases q : ds[j]? <;> rw [q] at h <;> rcases h with h | h <;> cases h
  · unfold IsOw shs at h
    rw [List.getElem?_map] at h
    cases q : ds[j]? <;> rw [q] at h <;> rcases h with h | h <;> cases h
theorem den_callN {n : Nat} {k : Int} {F : Ev} {t : TA} (hK : X.K = K.K) (h2 : DenA K W t fs) : DenF K W (tOp (rIx X.K) (tCallSD (spD K n F) [] (WE W) t) (tC (.int k))) (cCallN n k F fs) := by
  refine ⟨fun {M G σ ρ H ds ρ'} r0 e Q q => ?_, fun {M G σ ρ H c d} r0 e x Q => ?_⟩
  · obtain ⟨⟨as, ρ1⟩, e1, e⟩ := R.bind_eq_ok e
    by_cases hn : as.length = n ∧ as.all scalD = true
    · simp only [hn, and_self, if_true] at e
      obtain ⟨⟨z, as'⟩, e2, e⟩ := R.bind_eq_ok e
      replace e2 := noExc_ok e2
      cases z <;> simp only at e <;> try (cases e; done)
      rename_i ts
      cases hat : atI ts k with
      | none => simp only [hat] at e; cases e
      | some y =>
        simp only [hat] at e
        cases y <;> simp only at e <;> try (cases e; done)
        rename_i xs
        by_cases hf : flatD xs = true
        · rw [if_pos hf] at e
          cases e
          obtain ⟨f1, f2⟩ := Bool.and_eq_true_iff.mp hf
          have f2 := of_decide_eq_true f2
          refine h2.ok r0 e1 _ fun vs H1 A ra => ?_
          rw [List.append_nil]
          refine ⟨by rw [ra.length]; exact hn.1, _, _, shs as, shs_ok as, rel_hid (σ := σ) hn.2 (rpAll_scal hn.2 ra), ?_⟩
          rw [e2]
          intro v H' B rv
          show rIx X.K v (.int k) H' Q
          cases rv with
          | @tup a us _ g1 g2 =>
            obtain ⟨w, g3, g4⟩ := atI_rp g2 hat
            cases g4 with
            | @lst p ys _ g5 g6 =>
              obtain ⟨m1, g7⟩ := cut_some g5
              have hp1 : H1 p = none := Classical.byContradiction fun z => m1 (.inl z)
              obtain ⟨gp, mp, op⟩ := A.rel.fresh hp1
              have P := After.protect (o := .lst ys) A.rel hp1
              have sm : Same (upd H1 p (.lst ys)) H' := fun b o hb => by
                by_cases eb : b = p
                · subst eb; rw [upd_same] at hb; cases hb; exact g7
                · rw [upd_ne eb] at hb; exact B.rel.same b o hb
              have C := After.grow P.rel sm
              have fo := foAll_flat (Same.refl _) g6 f1 f2
              have fc := (FoAll.cut (g := p) g5 fo (by simp)).rp
              refine .inr (.inl ⟨a, us, k, .ref p, rfl, rfl, by rw [hK]; exact SqT.keep (cut_same _ _) g1, g3, ?_⟩)
              refine q p ys H' gp mp ((A.trans P).trans C) (fc.keep fun b o hb => ?_)
              obtain ⟨nb, hb⟩ := cut_some hb
              obtain ⟨mb, hb⟩ := cut_some hb
              have hb1 : H1 b = none := Classical.byContradiction fun z => mb (.inl z)
              refine cut_mk (fun z => ?_) hb
              rcases z with (z | z) | ⟨j, dj, z1, z2⟩
              · exact A.rel.mdom b z (A.rel.same.free hb1)
              · exact nb z
              · obtain ⟨p', h5, h6⟩ := A.rel.ow j dj z1
                rw [z2] at h5; cases h5
                exact h6.dom hb1
        · rw [if_neg hf] at e; cases e
    · simp only [if_neg hn] at e; cases e
  · rcases R.bind_eq_exc e with e | ⟨⟨as, ρ1⟩, e1, e⟩
    · exact h2.exc r0 e x _
    · exfalso
      by_cases hn : as.length = n ∧ as.all scalD = true
      · simp only [hn, and_self, if_true] at e
        rcases R.bind_eq_exc e with e | ⟨⟨z, as'⟩, e2, e⟩
        · exact noExc_exc e
        · cases z <;> simp only at e <;> try (cases e; done)
          split at e
          · split at e <;> cases e
          · cases e
      · simp only [if_neg hn] at e; cases e
theorem fd_calN {F : Ev} {st : Stmt} {kk : Int} {jj : Nat} {p2 pos2 : Pos} (C : CalD X.prog X.w K X.mg X.base k x st ps (spD K n F)) (hr : Room k X.A) (hgd : X.A.guards = some []) (tk : Takes X W) (ha : AD X K W (e :: es) fs) (hK : X.K = K.K := by rfl) (hg : Gl X x := by rfl)
    (hdb : (x == ("__debug__" : Str)) = false := by decide) (he : starEach (e :: es) X.env = (false, eval e X.env) :: starEach es X.env := by rfl) (hpl : (backTo pos (starEach es X.env)).any (·.1) = false := by rfl) :
    PDF X K W (.Subscript (.Call (.Name x p) (e :: es) [] pos) (.Constant (.int kk) jj p2) pos2) (cCallN n kk F fs) := by
  obtain ⟨f, fd, F0, hm, hb, FN⟩ := C
  rw [← hK] at F0 hb FN
  obtain ⟨t, h1, h2⟩ := ha
  exact ⟨_, pe_ix ix_seq (pe_callG FN hr hgd hg hm F0.kp hb .nil tk h1 hdb he hpl) pe_int (fun _ _ => rfl), den_callN hK h2⟩
end
end PyD

set_option Elab.async false
set_option linter.all false
set_option maxRecDepth 100000
set_option maxHeartbeats 1000000
namespace PyD
open PySem PySem.Spec L2
open PyProof.Rows hiding St
/-! ### zip(list, list, strict=True), at the library's level -/
abbrev IsZipS (h : Heap) (z TI TO : Addr) (f0 : Value) : Prop :=
  h.get? z = some { cls := .type "zip", dict := none, data := .fields #[f0, .bool false, .bool true, .ref TI, .ref TO], slots := #[] }
section
variable {prog : Program} {w : World} {A : Around} {E : Value → Shared → Prop} {s : Shared}
theorem nextOrEnd_item {it l : Addr} {i : Nat} {items} {x : Value} {Q : Option Value → Shared → Prop} (hit : s.heap.IsListIter it l i)
    (hl : s.heap.IsList l items) (hx : items[i]? = some x)
    (hQ : ∀ h', h'.IsListIter it l (i + 1) → Heap.SameBut it s.heap h' → Q (some x) { s with heap := h' }) :
    wpAny (model prog w) A (Builtin.SmallTypes.nextOrEnd (.ref it)) Q E s := by
  unfold Builtin.SmallTypes.nextOrEnd
  exact wpAny_bind (wpAny_attempt (wpAny_nextOf_list_item hit hl hx fun h' a b => wpAny_pure (hQ h' a b)))
theorem nextOrEnd_end {it l : Addr} {i : Nat} {items} {Q : Option Value → Shared → Prop} (hh : A.handled = none)
    (hit : s.heap.IsListIter it l i) (hl : s.heap.IsList l items) (hx : items[i]? = none)
    (hQ : ∀ h', Heap.ExtBut it s.heap h' → Q none { s with heap := h' }) :
    wpAny (model prog w) A (Builtin.SmallTypes.nextOrEnd (.ref it)) Q E s := by
  unfold Builtin.SmallTypes.nextOrEnd
  refine wpAny_bind (wpAny_attempt (wpAny_nextOf_list_end hh hit hl hx fun h' e a b => ?_))
  refine wpAny_bind (wpAny_isInstance (T := "StopIteration") (b := true) b isSubtype_stop ?_)
  exact wpAny_pure (hQ _ a)
theorem stopIt {α : Type} {Q : α → Shared → Prop} (hh : A.handled = none)
    (hE : ∀ h' e, (∀ c o, s.heap.get? c = some o → h'.get? c = some o) → (∃ o, h'.get? e = some o ∧ o.cls = .type "StopIteration") → E (.ref e) { s with heap := h' }) :
    wpAny (model prog w) A (Builtin.SmallTypes.stopIteration : Sem α) Q E s := by
  show wpAny _ _ (newExc (.type "StopIteration") [] >>= _) _ _ _
  refine wpAny_bind ?_
  simp only [newExc, newTuple]
  refine wpAny_bind (wpAny_newObj_type ?_ (by size_fits))
  refine wpAny_bind (m := firstArgMember _ _) (wpAny_of_eq (a := Value.none) (by first | rfl | (simp only [firstArgMember]; rfl)) ?_)
  refine wpAny_newObj_type ?_ (by size_fits)
  simp only [raiseNew]
  refine wpAny_bind (wpAny_handled ?_)
  first | rw [show A.in1.handled = none from hh] | rw [hh]
  refine wpAny_bind (wpAny_pure (wpAny_throw ?_))
  exact hE _ _ (fun c o e => Heap.get?_push_of_some _ (Heap.get?_push_of_some _ e)) ⟨_, Heap.get?_push_size _ rfl, rfl⟩
theorem zipS_next_item {z TI TO i1 i2 l1 l2 : Addr} {k1 k2 : Nat} {xs ys : Array Value} {x y a b : Value} {Q : Value → Shared → Prop} (D : ZipApart z TI TO i1 i2 l1 l2)
    (hz : IsZipS s.heap z TI TO .none) (hTI : IsPair s.heap TI (.ref i1) (.ref i2)) (hTO : IsPair s.heap TO a b)
    (h1 : s.heap.IsListIter i1 l1 k1) (h2 : s.heap.IsListIter i2 l2 k2) (hl1 : s.heap.IsList l1 xs) (hl2 : s.heap.IsList l2 ys) (hx : xs[k1]? = some x) (hy : ys[k2]? = some y)
    (hQ : ∀ h', IsZipS h' z TI TO (rawInt s.heap.objs.size) → IsPair h' TO x y → h'.IsListIter i1 l1 (k1 + 1) → h'.IsListIter i2 l2 (k2 + 1) → IsPair h' s.heap.objs.size x y → h'.objs.size = s.heap.objs.size + 1 →
      (∀ c o, c ≠ z → c ≠ TO → c ≠ i1 → c ≠ i2 → s.heap.get? c = some o → h'.get? c = some o) → Q (.ref s.heap.objs.size) { s with heap := h' }) :
    wpAny (model prog w) A (Builtin.«zip.__next__» ⟨[.ref z], []⟩) (fun fin s' => ∃ v, fin = .done (.ret v) ∧ Q v s') E s := by
  show wpAny _ _ (field (.ref z) 2 >>= _) _ _ _
  refine wpAny_bind (wpAny_field hz rfl (x := .bool true) rfl ?_)
  show wpAny _ _ (field (.ref z) 3 >>= _) _ _ _
  refine wpAny_bind (wpAny_field hz rfl (x := .ref TI) rfl ?_)
  refine wpAny_bind (wpAny_seqItems hTI rfl ?_)
  show wpAny _ _ (Builtin.SmallTypes.ownedTupleIsFree (.ref z) >>= _) _ _ _
  refine wpAny_bind ?_
  unfold Builtin.SmallTypes.ownedTupleIsFree
  refine wpAny_bind (wpAny_field hz rfl (x := .none) rfl (wpAny_pure ?_))
  simp only [if_true]
  refine wpAny_bind (wpAny_rule ?_)
  refine wpAny_bind (wpAny_field hz rfl (x := .ref TO) rfl ?_)
  refine wpAny_bind (wpAny_setField_rec hz (by simp) fun h₁ hz₁ hs₁ => ?_)
  replace hz₁ : IsZipS h₁ z TI TO .ellipsis := hz₁
  refine wpAny_bind ?_
  simp only [List.zipIdx_cons, List.zipIdx_nil, List.forIn_cons, List.forIn_nil]
  refine wpAny_bind (wpAny_bind (wpAny_onRaise ?_))
  show wpAny _ _ (Builtin.SmallTypes.nextOrEnd (.ref i1)) _ _ _
  refine nextOrEnd_item (h1.extBut hs₁.extBut D.i1z) (hl1.extBut hs₁.extBut D.l1z) hx fun h₂ h1₂ hs₂ => ?_
  have hTO₂ : IsPair h₂ TO a b := hs₂.extBut _ _ D.TOi1 (hs₁.extBut _ _ D.TOz hTO)
  refine wpAny_bind (wpAny_seqItems hTO₂ rfl ?_)
  refine wpAny_bind (wpAny_updateSeq_pair hTO₂ fun h₃ hTO₃ hs₃ => ?_)
  replace hTO₃ : IsPair h₃ TO x b := hTO₃
  refine wpAny_bind (wpAny_letGo (wpAny_pure ?_))
  refine wpAny_bind (wpAny_bind (wpAny_onRaise ?_))
  show wpAny _ _ (Builtin.SmallTypes.nextOrEnd (.ref i2)) _ _ _
  refine nextOrEnd_item (((h2.extBut hs₁.extBut D.i2z).extBut hs₂.extBut D.i12.symm).extBut hs₃.extBut D.TOi2.symm)
    (((hl2.extBut hs₁.extBut D.l2z).extBut hs₂.extBut D.l2i1).extBut hs₃.extBut D.l2TO) hy fun h₄ h2₄ hs₄ => ?_
  have hTO₄ : IsPair h₄ TO x b := hs₄.extBut _ _ D.TOi2 hTO₃
  refine wpAny_bind (wpAny_seqItems hTO₄ rfl ?_)
  refine wpAny_bind (wpAny_updateSeq_pair hTO₄ fun h₅ hTO₅ hs₅ => ?_)
  replace hTO₅ : IsPair h₅ TO x y := hTO₅
  refine wpAny_bind (wpAny_letGo (wpAny_pure (wpAny_pure ?_)))
  refine wpAny_bind (wpAny_seqItems hTO₅ rfl ?_)
  refine wpAny_bind (wpAny_newTuple ?_)
  have hsz : h₅.objs.size = s.heap.objs.size := by rw [hs₅.1, hs₄.1, hs₃.1, hs₂.1, hs₁.1]
  have hz₅ : IsZipS h₅ z TI TO .ellipsis := hs₅.extBut _ _ D.TOz.symm (hs₄.extBut _ _ D.i2z.symm (hs₃.extBut _ _ D.TOz.symm (hs₂.extBut _ _ D.i1z.symm hz₁)))
  have hk₅ : ∀ c o, c ≠ z → c ≠ TO → c ≠ i1 → c ≠ i2 → s.heap.get? c = some o → h₅.get? c = some o := fun c o c1 c2 c3 c4 e =>
    hs₅.extBut _ _ c2 (hs₄.extBut _ _ c4 (hs₃.extBut _ _ c2 (hs₂.extBut _ _ c3 (hs₁.extBut _ _ c1 e))))
  have h1₅ : h₅.IsListIter i1 l1 (k1 + 1) := ((h1₂.extBut hs₃.extBut D.TOi1.symm).extBut hs₄.extBut D.i12).extBut hs₅.extBut D.TOi1.symm
  have h2₅ : h₅.IsListIter i2 l2 (k2 + 1) := h2₄.extBut hs₅.extBut D.TOi2.symm
  have hzlt : z < h₅.objs.size := Heap.lt_size hz₅
  show wpAny _ _ (Builtin.SmallTypes.ownedTupleHandOut (.ref z) (.ref h₅.objs.size) >>= _) _ _ _
  refine wpAny_bind ?_
  unfold Builtin.SmallTypes.ownedTupleHandOut
  have hz₆ : IsZipS (h₅.push { cls := .type "tuple", data := .seq #[x, y] }) z TI TO .ellipsis := Heap.get?_push_of_some _ hz₅
  refine wpAny_bind (wpAny_setField_rec hz₆ (by simp) fun h₇ hz₇ hs₇ => ?_)
  replace hz₇ : IsZipS h₇ z TI TO (rawInt h₅.objs.size) := hz₇
  refine wpAny_setField_rec hz₇ (by simp) fun h₈ hz₈ hs₈ => ?_
  replace hz₈ : IsZipS h₈ z TI TO (rawInt h₅.objs.size) := hz₈
  have up : ∀ c o, c ≠ z → h₅.get? c = some o → h₈.get? c = some o := fun c o c1 e => hs₈.extBut _ _ c1 (hs₇.extBut _ _ c1 (Heap.get?_push_of_some _ e))
  have hT₈ : IsPair h₈ h₅.objs.size x y := hs₈.extBut _ _ (Nat.ne_of_gt hzlt) (hs₇.extBut _ _ (Nat.ne_of_gt hzlt) (Heap.get?_push_size _ rfl))
  have hz8 : h₈.objs.size = h₅.objs.size + 1 := by rw [hs₈.1, hs₇.1, Heap.size_push]
  rw [hsz] at hz₈ hT₈ hz8
  refine wpAny_pure ⟨_, rfl, ?_⟩
  show Q (.ref h₅.objs.size) _
  rw [hsz]
  exact hQ h₈ hz₈ (up _ _ D.TOz hTO₅) (h1₅.at fun o e => up _ o D.i1z e) (h2₅.at fun o e => up _ o D.i2z e) hT₈ hz8 fun c o c1 c2 c3 c4 e => up c o c1 (hk₅ c o c1 c2 c3 c4 e)
theorem zipS_next_end {z TI TO i1 i2 l1 l2 : Addr} {k1 k2 : Nat} {xs ys : Array Value} {a b : Value} {Q : Fin → Shared → Prop} (hh : A.handled = none) (D : ZipApart z TI TO i1 i2 l1 l2)
    (hz : IsZipS s.heap z TI TO .none) (hTI : IsPair s.heap TI (.ref i1) (.ref i2)) (hTO : IsPair s.heap TO a b)
    (h1 : s.heap.IsListIter i1 l1 k1) (h2 : s.heap.IsListIter i2 l2 k2) (hl1 : s.heap.IsList l1 xs) (hl2 : s.heap.IsList l2 ys) (hx : xs[k1]? = none) (hy : ys[k2]? = none)
    (hE : ∀ h' e, (∀ c o, c ≠ z → c ≠ TO → c ≠ i1 → c ≠ i2 → s.heap.get? c = some o → h'.get? c = some o) → (∃ o, h'.get? e = some o ∧ o.cls = .type "StopIteration") → E (.ref e) { s with heap := h' }) :
    wpAny (model prog w) A (Builtin.«zip.__next__» ⟨[.ref z], []⟩) Q E s := by
  show wpAny _ _ (field (.ref z) 2 >>= _) _ _ _
  refine wpAny_bind (wpAny_field hz rfl (x := .bool true) rfl ?_)
  show wpAny _ _ (field (.ref z) 3 >>= _) _ _ _
  refine wpAny_bind (wpAny_field hz rfl (x := .ref TI) rfl ?_)
  refine wpAny_bind (wpAny_seqItems hTI rfl ?_)
  show wpAny _ _ (Builtin.SmallTypes.ownedTupleIsFree (.ref z) >>= _) _ _ _
  refine wpAny_bind ?_
  unfold Builtin.SmallTypes.ownedTupleIsFree
  refine wpAny_bind (wpAny_field hz rfl (x := .none) rfl (wpAny_pure ?_))
  simp only [if_true]
  refine wpAny_bind (wpAny_rule ?_)
  refine wpAny_bind (wpAny_field hz rfl (x := .ref TO) rfl ?_)
  refine wpAny_bind (wpAny_setField_rec hz (by simp) fun h₁ hz₁ hs₁ => ?_)
  replace hz₁ : IsZipS h₁ z TI TO .ellipsis := hz₁
  refine wpAny_bind ?_
  simp only [List.zipIdx_cons, List.zipIdx_nil, List.forIn_cons, List.forIn_nil]
  refine wpAny_bind (wpAny_bind (wpAny_onRaise ?_))
  show wpAny _ _ (Builtin.SmallTypes.nextOrEnd (.ref i1)) _ _ _
  refine nextOrEnd_end hh (h1.extBut hs₁.extBut D.i1z) (hl1.extBut hs₁.extBut D.l1z) hx fun h₂ hs₂ => ?_
  have hz₂ : IsZipS h₂ z TI TO .ellipsis := hs₂ _ _ D.i1z.symm hz₁
  refine wpAny_bind (wpAny_setField_rec hz₂ (by simp) fun h₃ hz₃ hs₃ => ?_)
  have h2₃ : h₃.IsListIter i2 l2 k2 := ((h2.extBut hs₁.extBut D.i2z).extBut hs₂ D.i12.symm).extBut hs₃.extBut D.i2z
  have hl2₃ : h₃.IsList l2 ys := ((hl2.extBut hs₁.extBut D.l2z).extBut hs₂ D.l2i1).extBut hs₃.extBut D.l2z
  refine wpAny_bind (wpAny_bind ?_)
  refine wpAny_ite (c := (0 : Nat) > 0) (a := pure PUnit.unit >>= fun _ => throw .none) ?_
  rw [if_neg (by decide)]
  simp only [List.drop_succ_cons, List.drop_zero, List.zipIdx_cons, List.zipIdx_nil, List.forIn_cons, List.forIn_nil]
  refine wpAny_bind (wpAny_bind ?_)
  refine nextOrEnd_end hh h2₃ hl2₃ hy fun h₄ hs₄ => ?_
  show wpAny _ _ (pure _) _ _ _
  refine wpAny_pure (wpAny_pure ?_)
  refine wpAny_bind (wpAny_rule ?_)
  refine stopIt hh fun h₅ e hs₅ he => ?_
  exact hE h₅ e (fun c o c1 c2 c3 c4 x => hs₅ _ _ (hs₄ _ _ c4 (hs₃.extBut _ _ c1 (hs₂ _ _ c3 (hs₁.extBut _ _ c1 x))))) he
theorem pyNext_zipS_item {z TI TO i1 i2 l1 l2 : Addr} {k1 k2 : Nat} {xs ys : Array Value} {x y a b : Value} {Q : Option Value → Shared → Prop} (D : ZipApart z TI TO i1 i2 l1 l2)
    (hz : IsZipS s.heap z TI TO .none) (hTI : IsPair s.heap TI (.ref i1) (.ref i2)) (hTO : IsPair s.heap TO a b)
    (h1 : s.heap.IsListIter i1 l1 k1) (h2 : s.heap.IsListIter i2 l2 k2) (hl1 : s.heap.IsList l1 xs) (hl2 : s.heap.IsList l2 ys) (hx : xs[k1]? = some x) (hy : ys[k2]? = some y)
    (hQ : ∀ h', IsZipS h' z TI TO (rawInt s.heap.objs.size) → IsPair h' TO x y → h'.IsListIter i1 l1 (k1 + 1) → h'.IsListIter i2 l2 (k2 + 1) → IsPair h' s.heap.objs.size x y → h'.objs.size = s.heap.objs.size + 1 →
      (∀ c o, c ≠ z → c ≠ TO → c ≠ i1 → c ≠ i2 → s.heap.get? c = some o → h'.get? c = some o) → Q (some (.ref s.heap.objs.size)) { s with heap := h' }) :
    wpAny (model prog w) A (pyNext (.ref z)) Q E s := by
  have hT : s.TypeIs (.ref z) "zip" := ⟨_, hz, rfl⟩
  unfold pyNext
  exact wpAny_bind (wpAny_attempt (wpAny_callSpecial?_slot (name := Str.ofString "__next__") hT F.slot_zip_next
    (wpAny_call_entry F.slot_zip_next hT F.entry_zip_next
      (zipS_next_item D hz hTI hTO h1 h2 hl1 hl2 hx hy fun h' a1 a2 a3 a4 a5 a6 a7 => wpAny_pure (hQ h' a1 a2 a3 a4 a5 a6 a7)) (F.args_zip_next_1 _))))
theorem pyNext_zipS_end {z TI TO i1 i2 l1 l2 : Addr} {k1 k2 : Nat} {xs ys : Array Value} {a b : Value} {Q : Option Value → Shared → Prop} (hh : A.handled = none) (D : ZipApart z TI TO i1 i2 l1 l2)
    (hz : IsZipS s.heap z TI TO .none) (hTI : IsPair s.heap TI (.ref i1) (.ref i2)) (hTO : IsPair s.heap TO a b)
    (h1 : s.heap.IsListIter i1 l1 k1) (h2 : s.heap.IsListIter i2 l2 k2) (hl1 : s.heap.IsList l1 xs) (hl2 : s.heap.IsList l2 ys) (hx : xs[k1]? = none) (hy : ys[k2]? = none)
    (hQ : ∀ h', (∀ c o, c ≠ z → c ≠ TO → c ≠ i1 → c ≠ i2 → s.heap.get? c = some o → h'.get? c = some o) → Q none { s with heap := h' }) : wpAny (model prog w) A (pyNext (.ref z)) Q E s := by
  have hT : s.TypeIs (.ref z) "zip" := ⟨_, hz, rfl⟩
  unfold pyNext
  refine wpAny_bind (wpAny_attempt (wpAny_callSpecial?_slot (name := Str.ofString "__next__") hT F.slot_zip_next
    (wpAny_call_entry F.slot_zip_next hT F.entry_zip_next (zipS_next_end hh D hz hTI hTO h1 h2 hl1 hl2 hx hy fun h' e hk he => ?_) (F.args_zip_next_1 _))))
  obtain ⟨o, ho, hc⟩ := he
  refine wpAny_bind (wpAny_isInstance (T := "StopIteration") (b := true) ⟨o, ho, hc⟩ isSubtype_stop ?_)
  exact wpAny_pure (hQ _ hk)
theorem letGo_zipS {elts : List Expr} {x1} {pos : Pos} {z TI TO T : Addr} {Q : Unit → Shared → Prop} (hz : IsZipS s.heap z TI TO (rawInt T))
    (hQ : ∀ h', IsZipS h' z TI TO .none → Heap.SameBut z s.heap h' → Q () { s with heap := h' }) :
    wpAny (model prog w) A (letOwnedTupleGo (.Tuple elts x1 pos) (.ref z) (.ref T)) Q E s := by
  unfold letOwnedTupleGo
  refine wpAny_bind (wpAny_load hz ?_)
  show wpAny _ _ (if (["enumerate", "zip", "dict_itemiterator", "dict_reverseitemiterator", "odict_iterator", "itertools.zip_longest", "itertools.pairwise"].contains "zip" &&
      (#[rawInt T, .bool false, .bool true, .ref TI, .ref TO] : Array Value)[0]? == some (rawInt T)) = true then _ else _) Q E s
  rw [if_pos (by simp)]
  refine wpAny_bind (wpAny_rule ?_)
  show wpAny _ _ (setField (.ref z) 0 .none) Q E s
  exact wpAny_setField_rec hz (by simp) fun h' hz' hs' => hQ h' hz' hs'
theorem pyIter_zipS {z TI TO : Addr} {f0 : Value} {Q : Value → Shared → Prop} (hz : IsZipS s.heap z TI TO f0) (h : Q (.ref z) s) : wpAny (model prog w) A (pyIter (.ref z)) Q E s := by
  have hT : s.TypeIs (.ref z) "zip" := ⟨_, hz, rfl⟩
  refine wpAny_pyIter_slot hT F.slot_zip_iter (wpAny_call_entry F.slot_zip_iter hT F.entry_zip_iter ?_ (F.args_zip_iter_1 _))
  show wpAny _ _ (ret (.ref z)) _ _ s
  exact wpAny_pure ⟨_, rfl, "zip", _, hT, F.slot_zip_next.lookup, h⟩
end
theorem typeCall_zip_strict (a b c : Value) : checkTypeCall "zip" ⟨[a, b], [("strict", c)]⟩ = pure () := by kernel_rfl
theorem newCall_zip_strict (a b c : Value) : checkBuiltinCall "zip.__new__" ⟨[.type "zip", a, b], [("strict", c)]⟩ = pure () := by kernel_rfl
theorem args_object_init_strict (obj a b c : Value) : argsOk "object.__init__" ⟨[obj, a, b], [("strict", c)]⟩ := by unfold argsOk; kernel_rfl
abbrev zipS5 (h : Heap) (l1 l2 : Addr) : Heap := (zipH4 h l1 l2).push { cls := .type "zip", data := .fields #[.none, .bool false, .bool true, .ref (zipH2 h l1 l2).objs.size, .ref (zipH3 h l1 l2).objs.size] }
theorem meets_zipS_new (l1 l2 : Addr) (xs ys : Array Value) :
    Meets (Builtin.«zip.__new__» ⟨[.type "zip", .ref l1, .ref l2], [("strict", .bool true)]⟩) (fun _ R s => s.heap.IsList l1 xs ∧ s.heap.IsList l2 ys ∧
      R (.ok (.ret (.ref (zipH4 s.heap l1 l2).objs.size))) { s with heap := zipS5 s.heap l1 l2 }) :=
  .of_wp fun prog w A R s h => by
    obtain ⟨hp, g, d, tk, os⟩ := s; obtain ⟨hl1, hl2, h⟩ := h
    have hsub := sub_zip
    have hL1 : Heap.IsList (Shared.heap ⟨hp, g, d, tk, os⟩) l1 xs := hl1
    have hL2 : Heap.IsList (Shared.heap ⟨hp.push { cls := .type "list_iterator", data := .fields #[.ref l1, .int 0 0] }, g, d, tk, os⟩) l2 ys := Heap.IsList.push hl2 _
    have e1 : (("strict" : Str) != ("strict" : Str)) = false := by decide +kernel
    wp_walk using wpAny_pyIter_list hL1, wpAny_pyIter_list hL2
    exact ⟨_, rfl, h⟩
section
variable {prog : Program} {w : World} {A : Around} {E : Value → Shared → Prop} {s : Shared}
theorem call_zipS {l1 l2 : Addr} {xs ys : Array Value} {Q : Value → Shared → Prop} (hl1 : s.heap.IsList l1 xs) (hl2 : s.heap.IsList l2 ys)
    (h : ∀ h', IsZipS h' (s.heap.objs.size + 4) (s.heap.objs.size + 2) (s.heap.objs.size + 3) .none → IsPair h' (s.heap.objs.size + 2) (.ref s.heap.objs.size) (.ref (s.heap.objs.size + 1)) →
      IsPair h' (s.heap.objs.size + 3) .none .none → h'.IsListIter s.heap.objs.size l1 0 → h'.IsListIter (s.heap.objs.size + 1) l2 0 → h'.objs.size = s.heap.objs.size + 5 →
      (∀ c o, s.heap.get? c = some o → h'.get? c = some o) → Q (.ref (s.heap.objs.size + 4)) { s with heap := h' }) :
    wpAny (model prog w) A (call (.type "zip") [.ref l1, .ref l2] [("strict", .bool true)]) Q E s := by
  refine callType_newKw F.called_zip (by decide) (typeCall_zip_strict _ _ _) (newCall_zip_strict _ _ _) (fun obj => args_object_init_strict obj _ _ _) F.entry_zip_new
    (meets_zipS_new l1 l2 xs ys) ⟨hl1, hl2, ?_⟩
  have z1 : (zipH1 s.heap l1).objs.size = s.heap.objs.size + 1 := Heap.size_push ..
  have z2 : (zipH2 s.heap l1 l2).objs.size = s.heap.objs.size + 2 := by rw [Heap.size_push, z1]
  have z3 : (zipH3 s.heap l1 l2).objs.size = s.heap.objs.size + 3 := by rw [Heap.size_push, z2]
  have z4 : (zipH4 s.heap l1 l2).objs.size = s.heap.objs.size + 4 := by rw [Heap.size_push, z3]
  have z5 : (zipS5 s.heap l1 l2).objs.size = s.heap.objs.size + 5 := by rw [Heap.size_push, z4]
  have g5 : (zipS5 s.heap l1 l2).get? (zipH4 s.heap l1 l2).objs.size = some _ := Heap.get?_push_size _ rfl
  have g4 : (zipS5 s.heap l1 l2).get? (zipH3 s.heap l1 l2).objs.size = some _ := Heap.get?_push_of_some _ (Heap.get?_push_size _ rfl)
  have g3 : (zipS5 s.heap l1 l2).get? (zipH2 s.heap l1 l2).objs.size = some _ := Heap.get?_push_of_some _ (Heap.get?_push_of_some _ (Heap.get?_push_size _ rfl))
  have g2 : (zipS5 s.heap l1 l2).get? (zipH1 s.heap l1).objs.size = some _ := Heap.get?_push_of_some _ (Heap.get?_push_of_some _ (Heap.get?_push_of_some _ (Heap.get?_push_size _ rfl)))
  have g1 : (zipS5 s.heap l1 l2).get? s.heap.objs.size = some _ := Heap.get?_push_of_some _ (Heap.get?_push_of_some _ (Heap.get?_push_of_some _ (Heap.get?_push_of_some _ (Heap.get?_push_size _ rfl))))
  show _ ∧ _
  rw [z2, z3, z4] at g5
  rw [z1, z2] at g3
  rw [z3] at g4
  rw [z1] at g2
  rw [z4]
  exact ⟨⟨_, g5, rfl⟩, h _ g5 g3 g4 ⟨_, g1, rfl, rfl⟩ ⟨_, g2, rfl, rfl⟩ z5 fun c o x =>
    Heap.get?_push_of_some _ (Heap.get?_push_of_some _ (Heap.get?_push_of_some _ (Heap.get?_push_of_some _ (Heap.get?_push_of_some _ x))))⟩
end
/-! ### the iterator, and what is walked -/
def ItzS (K : PySem.W.Frag) (a b : Addr) : It :=
  ⟨fun i H => ∃ (xs ys : List V) (x y : V), SqL K H a xs ∧ SqL K H b ys ∧ xs[i]? = some x ∧ ys[i]? = some y,
    fun i H v H' => ∃ T x y, v = .ref T ∧ H T = none ∧ H' = upd H T (.tup [x, y]) ∧ (∀ xs, SqL K H a xs → xs[i]? = some x) ∧ ∀ ys, SqL K H b ys → ys[i]? = some y,
    fun i H => ∃ xs ys : List V, SqL K H a xs ∧ SqL K H b ys ∧ xs.length ≤ i ∧ ys.length ≤ i⟩
theorem turn_zipS {P : Program} {w : World} {K : PySem.W.Frag} {elts : List Expr} {kk : Nat} {tpos : Pos} {a b z TI TO i1 i2 : Addr} (D : ZipApart z TI TO i1 i2 a b) :
    Turn P w K (.Tuple elts kk tpos) (ItzS K a b) [z, TI, TO, i1, i2] z (fun i h => IsZipS h z TI TO .none ∧ IsPair h TI (.ref i1) (.ref i2) ∧ (∃ x y, IsPair h TO x y) ∧ h.IsListIter i1 a i ∧ h.IsListIter i2 b i) where
  mem := by simp
  obj := fun i h st c hc => by
    obtain ⟨hz, hTI, ⟨x, y, hTO⟩, ⟨o1, e1, _, d1⟩, ⟨o2, e2, _, d2⟩⟩ := st
    have e' : c = z ∨ c = TI ∨ c = TO ∨ c = i1 ∨ c = i2 := by simpa using hc
    rcases e' with q | q | q | q | q
    · rw [q]; exact ⟨_, hz, fun v q => nomatch q⟩
    · rw [q]; exact ⟨_, hTI, fun v q => nomatch q⟩
    · rw [q]; exact ⟨_, hTO, fun v q => nomatch q⟩
    · rw [q]; exact ⟨o1, e1, fun v q => by rw [d1] at q; cases q⟩
    · rw [q]; exact ⟨o2, e2, fun v q => by rw [d2] at q; cases q⟩
  keep := fun i h h' st k => by
    obtain ⟨hz, hTI, ⟨x, y, hTO⟩, h1, h2⟩ := st
    exact ⟨k z (by simp) _ hz, k TI (by simp) _ hTI, ⟨x, y, k TO (by simp) _ hTO⟩, h1.at fun o q => k i1 (by simp) o q, h2.at fun o q => k i2 (by simp) o q⟩
  item := by
    intro X hP hw hK hc i pins s σ H E I hf st hg
    subst hP hw hK
    obtain ⟨hz, hTI, ⟨x0, y0, hTO⟩, h1, h2⟩ := st
    obtain ⟨xs, ys, x, y, hqx, hqy, hx, hy⟩ := hg
    obtain ⟨its, rv, p, _⟩ := I.list hqx
    obtain ⟨its2, rv2, p2, _⟩ := I.list hqy
    obtain ⟨u, hu, ru⟩ := rv.get hx
    obtain ⟨u2, hu2, ru2⟩ := rv2.get hy
    have hzl : z < s.heap.objs.size := Heap.lt_size hz
    refine pyNext_zipS_item D hz hTI hTO h1 h2 p.isList p2.isList (x := u) (y := u2) (by simpa using hu) (by simpa using hu2) fun h' z' TO' h1' h2' hT hsz hk => ?_
    refine ⟨_, rfl, letGo_zipS (s := { s with heap := h' }) z' fun h'' z'' sb => ?_⟩
    have hT2 : h''.get? s.heap.objs.size = some { cls := .type "tuple", data := .seq #[u, u2] } := (sb.2 _ (Nat.ne_of_gt hzl)).trans hT
    have new : ObjOk X.prog X.w (upd H s.heap.objs.size (.tup [x, y])) h'' s.heap.objs.size (.tup [x, y]) :=
      ⟨by show 2 ≤ sizeLine; decide, [u, u2], .cons ru (.cons ru2 .nil), ⟨_, hT2, rfl, _, rfl⟩⟩
    have I1 : Inv X pins σ (upd H s.heap.objs.size (.tup [x, y])) { s with heap := h'' } :=
      I.turnedNew (t' := s.toks) (ch := [z, TI, TO, i1, i2]) (fun c o hb q => (sb.2 c (fun q' => hb (by simp [q']))).trans (hk c o (fun q' => hb (by simp [q'])) (fun q' => hb (by simp [q'])) (fun q' => hb (by simp [q'])) (fun q' => hb (by simp [q'])) q)) hf (Nat.le_refl _) new
    refine ⟨.ref s.heap.objs.size, _, I1, rfl, ⟨_, x, y, rfl, I.hok.fresh (Nat.le_refl _), rfl, fun l hl => by rw [I.list_inj hl hqx]; exact hx, fun l hl => by rw [I.list_inj hl hqy]; exact hy⟩, ⟨z'', ?_, ⟨u, u2, ?_⟩, ?_, ?_⟩, fun c hcm => ?_⟩
    · exact (sb.2 _ D.TIz).trans (hk _ _ D.TIz D.TITO D.TIi1 D.TIi2 hTI)
    · exact (sb.2 _ D.TOz).trans TO'
    · exact h1'.at fun o q => (sb.2 _ D.i1z).trans q
    · exact h2'.at fun o q => (sb.2 _ D.i2z).trans q
    · have hlt : c < s.heap.objs.size := by
        have e' : c = z ∨ c = TI ∨ c = TO ∨ c = i1 ∨ c = i2 := by simpa using hcm
        rcases e' with q | q | q | q | q
        · rw [q]; exact hzl
        · rw [q]; exact Heap.lt_size hTI
        · rw [q]; exact Heap.lt_size hTO
        · rw [q]; obtain ⟨_, e1, _⟩ := h1; exact Heap.lt_size e1
        · rw [q]; obtain ⟨_, e2, _⟩ := h2; exact Heap.lt_size e2
      rw [upd_ne (Nat.ne_of_lt hlt)]
      exact (hf c hcm).1
  done := by
    intro X hP hw hK hc i pins s σ H E I hf st hg
    subst hP hw hK
    obtain ⟨hz, hTI, ⟨x0, y0, hTO⟩, h1, h2⟩ := st
    obtain ⟨xs, ys, hqx, hqy, e1, e2⟩ := hg
    obtain ⟨its, rv, p, _⟩ := I.list hqx
    obtain ⟨its2, rv2, p2, _⟩ := I.list hqy
    have l1 := rv.length
    have l2 := rv2.length
    exact pyNext_zipS_end (I.ok.hd hc) D hz hTI hTO h1 h2 p.isList p2.isList (by simp; omega) (by simp; omega) fun h' hk => ⟨rfl, I.turnedL (t' := s.toks) (ch := [z, TI, TO, i1, i2]) (fun c o hb q =>
      hk c o (fun q' => hb (by simp [q'])) (fun q' => hb (by simp [q'])) (fun q' => hb (by simp [q'])) (fun q' => hb (by simp [q'])) q) hf⟩
  self := fun A i s Q E st h => pyIter_zipS st.1 h
theorem callWith_typeKw {M : Model} {A : Around} {E : Value → Shared → Prop} {s : Shared} {pos : Pos} {T : String} {first : List Value} {args : List (Bool × Sem Value)} {kws : List (Option Str × Sem Value)} {Q : Value → Shared → Prop} (hplain : args.any (·.1) = false) (hkw : kws.any (·.1.isNone) = false)
    (h : wpAny M A (evalArgs (.type T) true args kws) (fun a s₁ => wpAny M A (call (.type T) (first ++ a.pos) a.kw) Q E s₁) E s) :
    wpAny M A (callWith pos (.type T) first args kws) Q E s := by
  unfold callWith
  refine wpAny_bind (wpAny_holding (wpAny_mono h (fun a s₁ h₁ => wpAny_bind (wpAny_standAt ?_)) fun _ _ x => x))
  simp only [hplain, hkw, Bool.or_false]
  refine wpAny_bind (wpAny_pure ?_)
  exact wpAny_bind (wpAny_mono h₁ (fun r s₂ hr => wpAny_bind (wpAny_holding (wpAny_point (wpAny_pure hr)))) fun _ _ x => x)
def iZipS (K : PySem.W.Frag) (ta : TA) : TI := fun σ H R => ta σ H fun vs H1 => ∃ a b xs ys, vs = [.ref a, .ref b] ∧ SqL K H1 a xs ∧ SqL K H1 b ys ∧ R (ItzS K a b) H1
theorem pi_zipS {X : Cx} {e e2 : Expr} {ta : TA} {p pos tpos kp cp : Pos} {j : Nat} {elts : List Expr} {kk : Nat} (hg : Gl X "zip") (hm : X.mg "zip" = none) (ha : PA X [e, e2] ta)
    (hs : starEach [e, e2] X.env = (false, eval e X.env) :: starEach [e2] X.env := by rfl) (hpl : (backTo pos (starEach [e, e2] X.env)).any (·.1) = false := by rfl) :
    PI X (.Tuple elts kk tpos) (.Call (.Name "zip" p) [e, e2] [⟨some "strict", .Constant (.bool true) j cp, kp⟩] pos) (iZipS X.K ta) := by
  refine ⟨fun pins s σ H R I h => wpAny_Call_Name_kw (ld_blt I hg hm PyProof.Rows.boot_zip ?_)⟩
  refine callWith_typeKw hpl rfl ?_
  rw [show backTo pos (starEach [e, e2] X.env) = (false, eval e X.env) :: backTo pos (starEach [e2] X.env) from by rw [hs]; rfl]
  refine evalArgs_kwB rfl ?_
  have ha2 := ha.run pos pins s σ H _ I h
  rw [show backTo pos (starEach [e, e2] X.env) = (false, eval e X.env) :: backTo pos (starEach [e2] X.env) from by rw [hs]; rfl] at ha2
  refine thn ha2 fun us s1 ⟨vs, H1, I1, r1, q1⟩ => ?_
  refine kws_cons (Constant_bool (kws_nil ?_))
  obtain ⟨a, b, xs, ys, ex, hqx, hqy, q⟩ := q1
  subst ex
  cases r1 with
  | cons r rr =>
    cases rr with
    | cons r' rr =>
      cases rr
      cases r
      cases r'
      obtain ⟨its, rv, p1, _⟩ := I1.list hqx
      obtain ⟨its2, rv2, p2, _⟩ := I1.list hqy
      have la : a < s1.heap.objs.size := p1.lt
      have lb : b < s1.heap.objs.size := p2.lt
      refine call_zipS p1.isList p2.isList fun h' hz hTI hTO h1 h2 hsz hk => pyIter_zipS hz ?_
      have I2 : Inv X pins σ H1 { s1 with heap := h' } := I1.kept (t' := s1.toks) hk
      refine ⟨s1.heap.objs.size + 4, [s1.heap.objs.size + 4, s1.heap.objs.size + 2, s1.heap.objs.size + 3, s1.heap.objs.size, s1.heap.objs.size + 1], _, _, H1, rfl, I2, turn_zipS (PySem.W.ktu_apart s1.heap.objs.size a b la lb), ⟨hz, hTI, ⟨_, _, hTO⟩, h1, h2⟩, fun c hcm => ?_, q⟩
      have e' : c = s1.heap.objs.size + 4 ∨ c = s1.heap.objs.size + 2 ∨ c = s1.heap.objs.size + 3 ∨ c = s1.heap.objs.size ∨ c = s1.heap.objs.size + 1 := by simpa using hcm
      have hle : s1.heap.objs.size ≤ c := by
        rcases e' with z | z | z | z | z
        · rw [z]; exact Nat.le_add_right _ _
        · rw [z]; exact Nat.le_add_right _ _
        · rw [z]; exact Nat.le_add_right _ _
        · rw [z]; exact Nat.le_refl _
        · rw [z]; exact Nat.le_add_right _ _
      exact I1.fpOk hle (I1.hok.fresh hle)
section
variable {X : Cx} {K : KX} {W : WX} {pos : Pos} {a b e tg : Expr} {fa fb : Ev} {fs : Av}
def zipD : List D → List D → List D
  | x :: xs, y :: ys => .tup [x, y] :: zipD xs ys
  | _, _ => []
theorem zipD_length : ∀ (xs ys : List D), (zipD xs ys).length = min xs.length ys.length
  | [], _ => by simp [zipD]
  | _ :: _, [] => by simp [zipD]
  | x :: xs, y :: ys => by simp [zipD, zipD_length xs ys]
theorem zipD_get : ∀ (xs ys : List D) (i : Nat) (d : D), (zipD xs ys)[i]? = some d → ∃ x y, xs[i]? = some x ∧ ys[i]? = some y ∧ d = .tup [x, y]
  | [], _, _, _, h => by simp [zipD] at h
  | _ :: _, [], _, _, h => by simp [zipD] at h
  | x :: xs, y :: ys, 0, d, h => by
    simp only [zipD, List.getElem?_cons_zero, Option.some.injEq] at h
    exact ⟨x, y, rfl, rfl, h.symm⟩
  | x :: xs, y :: ys, i + 1, d, h => by
    simp only [zipD, List.getElem?_cons_succ] at h
    obtain ⟨u, v, h1, h2, h3⟩ := zipD_get xs ys i d h
    exact ⟨u, v, by simpa using h1, by simpa using h2, h3⟩
/-- zip of two lists; unlike lengths are not covered where strict -/
def cZip (fs : Av) : Av := fun ρ => (fs ρ).bind fun x => match x.1 with
  | [.lst xs, .lst ys] => .ok (zipD xs ys, x.2)
  | _ => .bad
def cZipS (fs : Av) : Av := fun ρ => (fs ρ).bind fun x => match x.1 with
  | [.lst xs, .lst ys] => if xs.length = ys.length then .ok (zipD xs ys, x.2) else .bad
  | _ => .bad
theorem id_zip {elts : List Expr} {kk : Nat} {tpos p : Pos} (hm : X.mg "zip" = none) (ha : AD X K W [a, b] fs) (hg : Gl X "zip" := by rfl) (hs : starEach [a, b] X.env = (false, eval a X.env) :: starEach [b] X.env := by rfl) (hpl : (backTo pos (starEach [b] X.env)).any (·.1) = false := by rfl) :
    ID X K W (.Tuple elts kk tpos) (.Call (.Name "zip" p) [a, b] [] pos) (cZip fs) := by
  obtain ⟨t, h1, h2⟩ := ha
  refine ⟨_, pi_zip hg hm h1 hs hpl, fun {M G σ ρ H ds ρ'} r0 e Rq q => ?_, fun {M G σ ρ H c d} r0 e x Rq => ?_⟩
  · obtain ⟨⟨xs, ρ1⟩, e1, e⟩ := R.bind_eq_ok e
    simp only at e
    split at e
    · rename_i zs zs2
      cases e
      refine h2.ok r0 e1 _ fun vs H1 A r1 => ?_
      cases r1 with
      | cons rx rr =>
        cases rr with
        | cons ry rr =>
        cases rr
        cases rx with
        | @lst p vs _ h3 h4 =>
        cases ry with
        | @lst p2 vs2 _ h5 h6 =>
          refine ⟨p, p2, vs, vs2, rfl, .inl (.inl (cut_same _ _ _ _ h3)), .inl (.inl (cut_same _ _ _ _ h5)), q _ _ A fun M' G' σ' ρ2 H2 r s _ i => ?_⟩
          have k3 : H2 p = some (.lst vs) := cut_same _ _ _ _ (s _ _ h3)
          have k5 : H2 p2 = some (.lst vs2) := cut_same _ _ _ _ (s _ _ h5)
          have k4 := h4.keep s
          have k6 := h6.keep s
          refine ⟨fun d hd => ?_, fun hi => ⟨vs, vs2, .inl (.inl k3), .inl (.inl k5), by rw [zipD_length] at hi; rw [k4.length, k6.length]; omega⟩⟩
          obtain ⟨x, y, hx, hy, rfl⟩ := zipD_get _ _ _ _ hd
          obtain ⟨v, e3, e4⟩ := k4.get hx
          obtain ⟨v2, e5, e6⟩ := k6.get hy
          refine ⟨⟨vs, vs2, v, v2, .inl (.inl k3), .inl (.inl k5), e3, e5⟩, fun x H3 y => ?_⟩
          obtain ⟨T, x', y', rfl, nT, rfl, y1, y2⟩ := y
          have z1 := y1 vs (.inl (.inl k3))
          have z2 := y2 vs2 (.inl (.inl k5))
          rw [e3] at z1
          rw [e5] at z2
          cases z1
          cases z2
          exact rp_newtup r nT (.cons e4 (.cons e6 .nil))
    · cases e
  · rcases R.bind_eq_exc e with e | ⟨⟨z, ρ1⟩, e1, e⟩
    · exact h2.exc r0 e x _
    · simp only at e
      split at e <;> cases e
theorem id_zipS {elts : List Expr} {kk j : Nat} {tpos p kp cp : Pos} (hm : X.mg "zip" = none) (ha : AD X K W [a, b] fs) (hg : Gl X "zip" := by rfl) (hs : starEach [a, b] X.env = (false, eval a X.env) :: starEach [b] X.env := by rfl) (hpl : (backTo pos (starEach [a, b] X.env)).any (·.1) = false := by rfl) :
    ID X K W (.Tuple elts kk tpos) (.Call (.Name "zip" p) [a, b] [⟨some "strict", .Constant (.bool true) j cp, kp⟩] pos) (cZipS fs) := by
  obtain ⟨t, h1, h2⟩ := ha
  refine ⟨_, pi_zipS hg hm h1 hs hpl, fun {M G σ ρ H ds ρ'} r0 e Rq q => ?_, fun {M G σ ρ H c d} r0 e x Rq => ?_⟩
  · obtain ⟨⟨xs, ρ1⟩, e1, e⟩ := R.bind_eq_ok e
    simp only at e
    split at e
    · rename_i zs zs2
      split at e
      · rename_i hl
        cases e
        refine h2.ok r0 e1 _ fun vs H1 A r1 => ?_
        cases r1 with
        | cons rx rr =>
          cases rr with
          | cons ry rr =>
          cases rr
          cases rx with
          | @lst p vs _ h3 h4 =>
          cases ry with
          | @lst p2 vs2 _ h5 h6 =>
            refine ⟨p, p2, vs, vs2, rfl, .inl (.inl (cut_same _ _ _ _ h3)), .inl (.inl (cut_same _ _ _ _ h5)), q _ _ A fun M' G' σ' ρ2 H2 r s _ i => ?_⟩
            have k3 : H2 p = some (.lst vs) := cut_same _ _ _ _ (s _ _ h3)
            have k5 : H2 p2 = some (.lst vs2) := cut_same _ _ _ _ (s _ _ h5)
            have k4 := h4.keep s
            have k6 := h6.keep s
            refine ⟨fun d hd => ?_, fun hi => ⟨vs, vs2, .inl (.inl k3), .inl (.inl k5), by rw [zipD_length] at hi; rw [k4.length]; omega, by rw [zipD_length] at hi; rw [k6.length]; omega⟩⟩
            obtain ⟨x, y, hx, hy, rfl⟩ := zipD_get _ _ _ _ hd
            obtain ⟨v, e3, e4⟩ := k4.get hx
            obtain ⟨v2, e5, e6⟩ := k6.get hy
            refine ⟨⟨vs, vs2, v, v2, .inl (.inl k3), .inl (.inl k5), e3, e5⟩, fun x H3 y => ?_⟩
            obtain ⟨T, x', y', rfl, nT, rfl, y1, y2⟩ := y
            have z1 := y1 vs (.inl (.inl k3))
            have z2 := y2 vs2 (.inl (.inl k5))
            rw [e3] at z1
            rw [e5] at z2
            cases z1
            cases z2
            exact rp_newtup r nT (.cons e4 (.cons e6 .nil))
      · cases e
    · cases e
  · rcases R.bind_eq_exc e with e | ⟨⟨z, ρ1⟩, e1, e⟩
    · exact h2.exc r0 e x _
    · simp only at e
      split at e
      · split at e <;> cases e
      · cases e
end
end PyD

set_option Elab.async false
set_option linter.all false
set_option maxRecDepth 100000
set_option maxHeartbeats 1000000
namespace PyD
open PySem PySem.Spec L2
open PyProof.Rows hiding St
/-! ### a comprehension with two fors -/
section
variable {X : Cx} {K : KX} {W : WX} {pos : Pos} {a b e tg : Expr} {fa fb : Ev} {fs : Av}
/-- what the second for walks: the iterator yields the data whatever is protected -/
def iC (K : KX) (f : Av) : TI := fun σ H R => ∃ M G ρ ds ρ', Rel K M G σ ρ H ∧ f ρ = .ok (ds, ρ') ∧ ∀ J H', After K M σ ρ H M G σ ρ' H' → (∀ G2, ItOk K M G2 σ ρ' H' J ds) → R J H'
def JD (X : Cx) (K : KX) (tg e : Expr) (f : Av) : Prop := PI X tg e (iC K f)
theorem jd_seq (ha : PD X K W e fa) (hK : X.K = K.K := by rfl) : JD X K tg e (cW fa) := by
  obtain ⟨t, h1, h2⟩ := ha
  refine ⟨fun pins s σ H Rq I ⟨M, G, ρ, ds, ρ', r0, e, q⟩ => ?_⟩
  refine (pi_or (pi_list h1) (pi_or (pi_tup h1) (pi_str h1))).run pins s σ H Rq I ?_
  obtain ⟨⟨x, ρ1⟩, e1, e⟩ := R.bind_eq_ok e
  cases x with
  | lst xs =>
    cases e
    refine .inl (h2.ok r0 e1 _ fun v H' A r1 => ?_)
    cases r1 with
    | lst a b => exact ⟨_, rfl, ⟨_, .inl (.inl (cut_same _ _ _ _ a))⟩, q _ _ A fun G2 => itok_list a b⟩
  | tup xs =>
    cases e
    refine .inr (.inl (h2.ok r0 e1 _ fun v H' A r1 => ?_))
    cases r1 with
    | tup a b =>
      rw [← hK] at a
      exact ⟨_, rfl, ⟨_, SqT.keep (cut_same _ _) a⟩, q _ _ A fun G2 => itok_tup a b⟩
  | str x =>
    cases e
    refine .inr (.inr (h2.ok r0 e1 _ fun v H' A r1 => ⟨x, rp_str r1, q _ _ A fun G2 => itok_str⟩))
  | _ => cases e
theorem jd_rng1 {p : Pos} (hm : X.mg "range" = none) (ha : AD X K W [a] fs) (hg : Gl X "range" := by rfl) (hs : starEach [a] X.env = [(false, eval a X.env)] := by rfl) : JD X K tg (.Call (.Name "range" p) [a] [] pos) (cRng1 fs) := by
  obtain ⟨t, h1, h2⟩ := ha
  refine ⟨fun pins s σ H Rq I ⟨M, G, ρ, ds, ρ', r0, e, q⟩ => (pi_range1 hg hm h1 hs).run pins s σ H Rq I ?_⟩
  obtain ⟨⟨xs, ρ1⟩, e1, e⟩ := R.bind_eq_ok e
  simp only at e
  split at e
  · rename_i j
    by_cases hj : inR j = true
    · rw [if_pos hj] at e
      cases e
      refine h2.ok r0 e1 _ fun vs H' A r1 => ?_
      cases r1 with
      | cons rx rr =>
        cases rr
        rw [rp_int rx]
        simp only [inR, Bool.and_eq_true, decide_eq_true_eq] at hj
        exact ⟨j, rfl, hj.1, hj.2, q _ _ A fun G2 => itok_rng⟩
    · rw [if_neg hj] at e; cases e
  · cases e
theorem jd_rng2 {p : Pos} (hm : X.mg "range" = none) (ha : AD X K W [a, b] fs) (hg : Gl X "range" := by rfl) (hs : starEach [a, b] X.env = [(false, eval a X.env), (false, eval b X.env)] := by rfl) (hs2 : starEach [b] X.env = [(false, eval b X.env)] := by rfl) : JD X K tg (.Call (.Name "range" p) [a, b] [] pos) (cRng2 fs) := by
  obtain ⟨t, h1, h2⟩ := ha
  refine ⟨fun pins s σ H Rq I ⟨M, G, ρ, ds, ρ', r0, e, q⟩ => (pi_range2 hg hm h1 hs hs2).run pins s σ H Rq I ?_⟩
  obtain ⟨⟨xs, ρ1⟩, e1, e⟩ := R.bind_eq_ok e
  simp only at e
  split at e
  · rename_i i j
    by_cases hj : inR i = true ∧ inR j = true
    · rw [if_pos hj] at e
      cases e
      refine h2.ok r0 e1 _ fun vs H' A r1 => ?_
      cases r1 with
      | cons rx rr =>
        cases rr with
        | cons ry rr =>
          cases rr
          rw [rp_int rx, rp_int ry]
          simp only [inR, Bool.and_eq_true, decide_eq_true_eq] at hj
          exact ⟨i, j, rfl, ⟨hj.1.1, hj.1.2, hj.2.1, hj.2.2⟩, q _ _ A fun G2 => itok_rng⟩
    · rw [if_neg hj] at e; cases e
  · cases e
end
theorem wipe_sub {σ : St} {vs1 vs : List Nat} (h : ∀ v ∈ vs1, v ∈ vs) : wipe (wipe σ vs1) vs = wipe σ vs := by
  apply List.ext_getElem?
  intro i
  by_cases hi : i ∈ vs
  · by_cases hl : i < σ.length
    · rw [wipe_in hi (by rw [wipe_length]; exact hl), wipe_in hi hl]
    · rw [List.getElem?_eq_none (by rw [wipe_length, wipe_length]; omega), List.getElem?_eq_none (by rw [wipe_length]; omega)]
  · rw [wipe_out hi, wipe_out hi, wipe_out fun z => hi (h i z)]
theorem wipeR_sub {ρ : Rho} {vs1 vs : List Nat} (h : ∀ v ∈ vs1, v ∈ vs) : wipeR (wipeR ρ vs1) vs = wipeR ρ vs := by
  apply List.ext_getElem?
  intro i
  by_cases hi : i ∈ vs
  · by_cases hl : i < ρ.length
    · rw [wipeR_in hi (by rw [wipeR_length]; exact hl), wipeR_in hi hl]
    · rw [List.getElem?_eq_none (by rw [wipeR_length, wipeR_length]; omega), List.getElem?_eq_none (by rw [wipeR_length]; omega)]
  · rw [wipeR_out hi, wipeR_out hi, wipeR_out fun z => hi (h i z)]
/-- two fors: vs the names of both, vs1 those of the second -/
def compL2 (vs vs1 : List Nat) (tg : Gv) (tt : Tv) (fi1 : Av) (tg1 : Gv) (tt1 : Tv) (elt : Ev) : List D → List D → Rho → R (List D × Rho)
  | [], acc, ρ => .ok (acc, ρ)
  | d :: ds, acc, ρ => (tg d (wipeR ρ vs)).bind fun ρ1 => (tt ρ1).bind fun b => if b.1 = true then (fi1 b.2).bind fun y => (compL vs1 tg1 tt1 elt y.1 acc y.2).bind fun z => compL2 vs vs1 tg tt fi1 tg1 tt1 elt ds z.1 z.2 else compL2 vs vs1 tg tt fi1 tg1 tt1 elt ds acc b.2
def cComp2 (vs vs1 : List Nat) (fi : Av) (tg : Gv) (tt : Tv) (fi1 : Av) (tg1 : Gv) (tt1 : Tv) (elt : Ev) : Av := fun ρ => (fi ρ).bind fun x => if noOw x.2 vs = true then noExc ((compL2 vs vs1 tg tt fi1 tg1 tt1 elt x.1 [] x.2).map fun y => (y.1, restR x.2 y.2 vs)) else .bad
section
variable {K : KX}
theorem comp2_core {M : Addr → Prop} {G : Hp} {σ : St} {ρ ρ1 ρ2 : Rho} {H : Hp} {items out' : List D} {Q : VK} {w : TI} {ft ft1 : Gv} {tt tt1 : Tv} {fi1 : Av} {fe : Ev} {sl sl1 vs vs1 : List Nat} (hsl : ∀ j ∈ sl, j ∈ vs) (hsl1 : ∀ j ∈ sl1, j ∈ vs1) (hv1 : ∀ j ∈ vs1, j ∈ vs)
    (hI : ∀ R : It → Hp → Prop, (∀ J H1, After K M σ ρ H M G σ ρ1 H1 → ItOk K M G σ ρ1 H1 J items → R J H1) → w σ H R) (hno : noOw ρ1 vs = true) (e2 : compL2 vs vs1 ft tt fi1 ft1 tt1 fe items [] ρ1 = .ok (out', ρ2))
    (q : ∀ D accV H', G D = none → ¬ M D → After K M σ ρ H (Mp M D) (upd G D (.lst accV)) σ (restR ρ1 ρ2 vs) H' → RpAll K (hv (Mp M D) σ (restR ρ1 ρ2 vs) H') accV out' → Q (.ref D) H') : tLc2 w (gC K sl ft) (tC' K tt) (iC K fi1) (gC K sl1 ft1) (tC' K tt1) (eC K fe) vs vs1 σ H Q := by
  have hb : ∀ v ∈ vs, v < ρ1.length := fun v hv => by
    rcases noOw_at hno hv with h | ⟨d, h⟩ <;> exact (List.getElem?_eq_some_iff.mp h).1
  refine hI _ fun J H1 A hJ D nD => ?_
  obtain ⟨gD, mD, _⟩ := A.rel.fresh nD
  have P0 := After.protect (o := .lst []) A.rel nD
  obtain ⟨w1, w2⟩ := P0.rel.wipe hb
  have nrf : ∀ (j : Nat) d, ρ1[j]? = some (.rf d) → j ∉ vs := fun j d h hj => by rcases noOw_at hno hj with e | ⟨d', e⟩ <;> rw [e] at h <;> cases h
  have kp : ∀ (ρi : Rho) (j : Nat) d, ρ1[j]? = some (.rf d) → (∃ d', ρi[j]? = some (.rf d')) → (wipe σ vs)[j]? = σ[j]? ∧ ∃ d', (wipeR ρi vs)[j]? = some (.rf d') := fun ρi j d h ⟨d', h'⟩ => by
    have hj := nrf j d h
    exact ⟨wipe_out hj, d', by rw [wipeR_out hj]; exact h'⟩
  refine ⟨fun i m H' => m = items.length - i ∧ i ≤ items.length ∧ ∃ acc accV ρi, ρi.length = ρ1.length ∧ After K M σ ρ1 H1 (Mp M D) (upd G D (.lst accV)) (wipe σ vs) (wipeR ρi vs) H' ∧ RpAll K (hv (Mp M D) (wipe σ vs) (wipeR ρi vs) H') accV acc ∧ compL2 vs vs1 ft tt fi1 ft1 tt1 fe (items.drop i) acc ρi = .ok (out', ρ2),
    ⟨items.length, by simp, Nat.zero_le _, [], [], ρ1, rfl, ⟨w1, P0.same.trans w2, fun j d h => kp ρ1 j d h ⟨d, h⟩, by rw [wipeR_length]⟩, .nil, by simpa using e2⟩, ?_⟩
  rintro i m H' ⟨rfl, hi, acc, accV, ρi, hlen, T, ra, e3⟩
  obtain ⟨hgo, hst⟩ := hJ _ _ _ _ _ T.rel T.same (same_upd gD) i
  by_cases hlt : i < items.length
  · have hd : items[i]? = some items[i] := List.getElem?_eq_getElem hlt
    obtain ⟨go, yld⟩ := hgo _ hd
    rw [List.drop_eq_getElem_cons hlt] at e3
    refine .inr ⟨go, fun H6 => ∃ acc accV ρi, ρi.length = ρ1.length ∧ After K M σ ρ1 H1 (Mp M D) (upd G D (.lst accV)) (wipe σ vs) (wipeR ρi vs) H6 ∧ RpAll K (hv (Mp M D) (wipe σ vs) (wipeR ρi vs) H6) accV acc ∧ compL2 vs vs1 ft tt fi1 ft1 tt1 fe (items.drop (i + 1)) acc ρi = .ok (out', ρ2), fun H6 z => ⟨items.length - (i + 1), by omega, rfl, hlt, z⟩, fun x H2 y => ?_⟩
    obtain ⟨sy, ry⟩ := yld x H2 y
    have C := After.grow T.rel sy
    obtain ⟨ρ3, e4, e3⟩ := R.bind_eq_ok (show (ft items[i] (wipeR ρi vs)).bind _ = .ok (out', ρ2) from e3)
    obtain ⟨⟨b, ρ4⟩, e5, e3⟩ := R.bind_eq_ok e3
    refine ⟨_, _, _, _, _, C.rel, ry, e4, fun σ3 H3 A3 o3 => ?_⟩
    have ws : wipe σ3 vs = wipe σ vs := wipe_only o3 hsl
    refine ⟨ws, _, _, _, _, _, A3.rel, e5, fun H4 A4 => ?_⟩
    -- a turn's end: the slots are wiped again
    have fin : ∀ (accV' : List V) (σ6 : St) (ρ6 : Rho) (H6 : Hp), wipe σ6 vs = wipe σ vs → ρ6.length = ρ1.length → After K M σ ρ1 H1 (Mp M D) (upd G D (.lst accV')) σ6 ρ6 H6 → After K M σ ρ1 H1 (Mp M D) (upd G D (.lst accV')) (wipe σ vs) (wipeR ρ6 vs) H6 ∧ Same (hv (Mp M D) σ6 ρ6 H6) (hv (Mp M D) (wipe σ vs) (wipeR ρ6 vs) H6) := fun accV' σ6 ρ6 H6 ws6 l6 B => by
      obtain ⟨v1, v2⟩ := B.rel.wipe (vs := vs) (fun v hv => by rw [l6]; exact hb v hv)
      rw [ws6] at v1 v2
      refine ⟨⟨v1, B.same.trans v2, fun j d h => ?_, by rw [wipeR_length, l6]⟩, v2⟩
      obtain ⟨_, d1, h1⟩ := B.keep j d h
      exact kp ρ6 j d h ⟨d1, h1⟩
    have B4 := T.trans ((C.trans A3).trans A4)
    have l4 : ρ4.length = ρ1.length := B4.len
    cases b with
    | false =>
      rw [if_neg Bool.false_ne_true] at e3
      obtain ⟨B6, s6⟩ := fin accV σ3 ρ4 H4 ws l4 B4
      exact iteF ⟨acc, accV, ρ4, l4, B6, ra.keep (((C.trans A3).trans A4).same.trans s6), e3⟩
    | true =>
      rw [if_pos rfl] at e3
      obtain ⟨⟨items1, ρ5⟩, e6, e3⟩ := R.bind_eq_ok e3
      simp only at e3
      refine iteT ⟨_, _, _, _, _, A4.rel, e6, fun J1 H5 A5 hJ1 => ?_⟩
      have B5 := B4.trans A5
      have l5 : ρ5.length = ρ1.length := B5.len
      have hb1 : ∀ v ∈ vs1, v < ρ5.length := fun v hv => by rw [l5]; exact hb v (hv1 v hv)
      -- a turn's end of the second
      have fin1 : ∀ (accV' : List V) (σ6 : St) (ρ6 : Rho) (H6 : Hp), wipe σ6 vs1 = wipe σ3 vs1 → ρ6.length = ρ1.length → After K M σ ρ1 H1 (Mp M D) (upd G D (.lst accV')) σ6 ρ6 H6 → After K M σ ρ1 H1 (Mp M D) (upd G D (.lst accV')) (wipe σ3 vs1) (wipeR ρ6 vs1) H6 ∧ Same (hv (Mp M D) σ6 ρ6 H6) (hv (Mp M D) (wipe σ3 vs1) (wipeR ρ6 vs1) H6) := fun accV' σ6 ρ6 H6 ws6 l6 B => by
        obtain ⟨v1, v2⟩ := B.rel.wipe (vs := vs1) (fun v hv => by rw [l6]; exact hb v (hv1 v hv))
        rw [ws6] at v1 v2
        refine ⟨⟨v1, B.same.trans v2, fun j d h => ?_, by rw [wipeR_length, l6]⟩, v2⟩
        have hj : j ∉ vs1 := fun z => nrf j d h (hv1 j z)
        obtain ⟨_, d1, h1⟩ := B.keep j d h
        obtain ⟨k5, _⟩ := B5.keep j d h
        exact ⟨by rw [wipe_out hj]; exact k5, d1, by rw [wipeR_out hj]; exact h1⟩
      have ra5 := ra.keep (((C.trans A3).trans A4).trans A5).same
      obtain ⟨W0, sW0⟩ := fin1 accV σ3 ρ5 H5 rfl l5 B5
      refine ⟨fun j k H' => k = items1.length - j ∧ j ≤ items1.length ∧ ∃ acc accV ρj, ρj.length = ρ1.length ∧ After K M σ ρ1 H1 (Mp M D) (upd G D (.lst accV)) (wipe σ3 vs1) (wipeR ρj vs1) H' ∧ Same (hv (Mp M D) σ3 ρ5 H5) (hv (Mp M D) (wipe σ3 vs1) (wipeR ρj vs1) H') ∧ RpAll K (hv (Mp M D) (wipe σ3 vs1) (wipeR ρj vs1) H') accV acc ∧ (compL vs1 ft1 tt1 fe (items1.drop j) acc ρj).bind (fun z => compL2 vs vs1 ft tt fi1 ft1 tt1 fe (items.drop (i + 1)) z.1 z.2) = .ok (out', ρ2),
        ⟨items1.length, by simp, Nat.zero_le _, acc, accV, ρ5, l5, W0, sW0, ra5.keep sW0, by simpa using e3⟩, ?_⟩
      rintro j k H7 ⟨rfl, hj, acc7, accV7, ρ7, hlen7, T7, s7, ra7, e7⟩
      obtain ⟨hgo1, hst1⟩ := hJ1 (upd G D (.lst accV7)) _ _ _ _ _ T7.rel s7 (Same.refl _) j
      by_cases hlt1 : j < items1.length
      · have hd1 : items1[j]? = some items1[j] := List.getElem?_eq_getElem hlt1
        obtain ⟨go1, yld1⟩ := hgo1 _ hd1
        rw [List.drop_eq_getElem_cons hlt1] at e7
        refine .inr ⟨go1, fun H' => ∃ acc accV ρj, ρj.length = ρ1.length ∧ After K M σ ρ1 H1 (Mp M D) (upd G D (.lst accV)) (wipe σ3 vs1) (wipeR ρj vs1) H' ∧ Same (hv (Mp M D) σ3 ρ5 H5) (hv (Mp M D) (wipe σ3 vs1) (wipeR ρj vs1) H') ∧ RpAll K (hv (Mp M D) (wipe σ3 vs1) (wipeR ρj vs1) H') accV acc ∧ (compL vs1 ft1 tt1 fe (items1.drop (j + 1)) acc ρj).bind (fun z => compL2 vs vs1 ft tt fi1 ft1 tt1 fe (items.drop (i + 1)) z.1 z.2) = .ok (out', ρ2), fun H6 z => ⟨items1.length - (j + 1), by omega, rfl, hlt1, z⟩, fun x H8 y => ?_⟩
        obtain ⟨sy8, ry8⟩ := yld1 x H8 y
        have C8 := After.grow T7.rel sy8
        obtain ⟨⟨o9, ρ9'⟩, e7a, e7b⟩ := R.bind_eq_ok e7
        obtain ⟨ρ9, e9, e7a⟩ := R.bind_eq_ok (show (ft1 items1[j] (wipeR ρ7 vs1)).bind _ = .ok (o9, ρ9') from e7a)
        obtain ⟨⟨b1, ρ10⟩, e10, e7a⟩ := R.bind_eq_ok e7a
        refine ⟨_, _, _, _, _, C8.rel, ry8, e9, fun σ9 H9 A9 o9' => ?_⟩
        have ws9 : wipe σ9 vs1 = wipe σ3 vs1 := wipe_only o9' hsl1
        refine ⟨ws9, _, _, _, _, _, A9.rel, e10, fun H10 A10 => ?_⟩
        have S10 := (C8.trans A9).trans A10
        have B10 := T7.trans S10
        have l10 : ρ10.length = ρ1.length := B10.len
        cases b1 with
        | false =>
          rw [if_neg Bool.false_ne_true] at e7a
          obtain ⟨B6, s6⟩ := fin1 accV7 σ9 ρ10 H10 ws9 l10 B10
          exact iteF ⟨acc7, accV7, ρ10, l10, B6, (s7.trans S10.same).trans s6, ra7.keep (S10.same.trans s6), by rw [e7a]; exact e7b⟩
        | true =>
          rw [if_pos rfl] at e7a
          obtain ⟨⟨y', ρ11⟩, e11, e7a⟩ := R.bind_eq_ok e7a
          refine iteT ⟨_, _, _, _, _, A10.rel, e11, fun v H11 A11 r11 => ?_⟩
          have S11 := S10.trans A11
          have B11 := T7.trans S11
          simp only at e7a
          by_cases hz : acc7.length < sizeLine
          · rw [if_pos hz] at e7a
            have hD : H11 D = some (.lst accV7) := B11.rel.same D _ upd_same
            refine ⟨accV7, hD, by rw [ra7.length]; exact hz, ?_⟩
            obtain ⟨u1, u2⟩ := B11.rel.reput (o' := .lst (accV7 ++ [v])) gD
            have B12 : After K M σ ρ1 H1 (Mp M D) (upd G D (.lst (accV7 ++ [v]))) σ9 ρ11 (upd H11 D (.lst (accV7 ++ [v]))) := ⟨u1, B11.same.trans u2, B11.keep, B11.len⟩
            obtain ⟨B6, s6⟩ := fin1 (accV7 ++ [v]) σ9 ρ11 _ ws9 B11.len B12
            exact ⟨acc7 ++ [y'], accV7 ++ [v], ρ11, B11.len, B6, ((s7.trans S11.same).trans u2).trans s6, (ra7.keep ((S11.same.trans u2).trans s6)).append (.cons (r11.keep (u2.trans s6)) .nil), by rw [e7a]; exact e7b⟩
          · rw [if_neg hz] at e7a; cases e7a
      · have hj' : j = items1.length := by omega
        subst hj'
        refine .inl ⟨hst1 (Nat.le_refl _), ?_⟩
        rw [List.drop_length] at e7
        have e8 : compL2 vs vs1 ft tt fi1 ft1 tt1 fe (items.drop (i + 1)) acc7 ρ7 = .ok (out', ρ2) := e7
        obtain ⟨B6, s6⟩ := fin accV7 (wipe σ3 vs1) (wipeR ρ7 vs1) H7 (by rw [wipe_sub hv1, ws]) (by rw [wipeR_length, hlen7]) T7
        rw [wipeR_sub hv1] at B6 s6
        exact ⟨acc7, accV7, ρ7, hlen7, B6, ra7.keep s6, e8⟩
  · have hi' : i = items.length := by omega
    subst hi'
    refine .inl ⟨hst (Nat.le_refl _), ?_⟩
    rw [List.drop_length] at e3
    cases e3
    obtain ⟨Z, sZ⟩ := rest_rel hno A.rel T hlen
    exact q D accV H' gD mD (A.trans Z) (ra.keep sZ)
theorem den_comp2 {W : WX} {w : TI} {fi fi1 : Av} {ft ft1 : Gv} {tt tt1 : Tv} {fe : Ev} {sl sl1 vs vs1 : List Nat} (i2 : DenI K W w fi) (hsl : ∀ j ∈ sl, j ∈ vs) (hsl1 : ∀ j ∈ sl1, j ∈ vs1) (hv1 : ∀ j ∈ vs1, j ∈ vs) :
    DenF K W (tLc2 w (gC K sl ft) (tC' K tt) (iC K fi1) (gC K sl1 ft1) (tC' K tt1) (eC K fe) vs vs1) (cComp2 vs vs1 fi ft tt fi1 ft1 tt1 fe) := by
  refine ⟨fun {M G σ ρ H out ρ'} r0 e Q q => ?_, fun {M G σ ρ H c d} r0 e x Q => ?_⟩
  · obtain ⟨⟨items, ρ1⟩, e1, e⟩ := R.bind_eq_ok e
    by_cases hno : noOw ρ1 vs = true
    · simp only [hno, if_true] at e
      obtain ⟨⟨out', ρ2⟩, e2, e⟩ := map_ok (noExc_ok e)
      cases e
      exact comp2_core hsl hsl1 hv1 (fun R k => i2.ok r0 e1 _ k) hno e2 q
    · simp only [hno] at e
      cases e
  · rcases R.bind_eq_exc e with e | ⟨⟨items, ρ1⟩, e1, e⟩
    · exact i2.exc r0 e x _
    · simp only at e
      split at e
      · exact (noExc_exc e).elim
      · cases e
end
section
variable {X : Cx} {K : KX} {W : WX} {pos : Pos} {elt tg iter tg1 iter1 : Expr} {ifs ifs1 : List Expr} {scope : Scope} {fi fi1 : Av} {ft ft1 : Gv} {tt tt1 : Tv} {fe : Ev} {sl sl1 : List Nat}
theorem fd_comp2 (own : List (Str × Nat)) (vs1 : List Nat) (hN : X.N.Nodup) (hi : ID X K W tg iter fi) (hg : ∀ (s : Shared) (H : Hp) (C : Addr) (cl : List (Str × Addr)) (fp : List Addr), GD (X.blk s H scope (compEnvC scope cl C X.env) fp) K sl tg ft)
    (ht : ∀ (s : Shared) (H : Hp) (C : Addr) (cl : List (Str × Addr)) (fp : List Addr), FsD (X.blk s H scope (compEnvC scope cl C X.env) fp) K wF ifs tt)
    (hi1 : ∀ (s : Shared) (H : Hp) (C : Addr) (cl : List (Str × Addr)) (fp : List Addr), JD (X.blk s H scope (compEnvC scope cl C X.env) fp) K tg1 iter1 fi1)
    (hg1 : ∀ (s : Shared) (H : Hp) (C : Addr) (cl : List (Str × Addr)) (fp : List Addr), GD (X.blk s H scope (compEnvC scope cl C X.env) fp) K sl1 tg1 ft1)
    (ht1 : ∀ (s : Shared) (H : Hp) (C : Addr) (cl : List (Str × Addr)) (fp : List Addr), FsD (X.blk s H scope (compEnvC scope cl C X.env) fp) K wF ifs1 tt1)
    (he : ∀ (s : Shared) (H : Hp) (C : Addr) (cl : List (Str × Addr)) (fp : List Addr), PD (X.blk s H scope (compEnvC scope cl C X.env) fp) K wF elt fe)
    (ok : blkC X.N X.env.scope scope own = true) (hsl : ∀ j ∈ sl, j ∈ own.map (·.2) := by decide) (hsl1 : ∀ j ∈ sl1, j ∈ vs1 := by decide) (hv1 : ∀ j ∈ vs1, j ∈ own.map (·.2) := by decide) (hc : X.calm = true := by rfl) (hs : ∀ x, foldedSetIterable iter X.env x = pure x := by intro _; rfl) (hs1 : ∀ env x, foldedSetIterable iter1 env x = pure x := by intro _ _; rfl) :
    PDF X K W (.ListComp elt [⟨tg, iter, ifs, 0⟩, ⟨tg1, iter1, ifs1, 0⟩] scope pos) (cComp2 (own.map (·.2)) vs1 fi ft tt fi1 ft1 tt1 fe) := by
  obtain ⟨w, i1, i2⟩ := hi
  exact ⟨_, pe_lc2 hc hN i1 (blkOk_by ok) hv1 (fun s H C cl fp => (hg s H C cl fp).canon) (fun s H C cl fp => (ht s H C cl fp).canon) hi1 (fun s H C cl fp => (hg1 s H C cl fp).canon) (fun s H C cl fp => (ht1 s H C cl fp).canon) (fun s H C cl fp => (he s H C cl fp).canon) hs hs1, den_comp2 i2 hsl hsl1 hv1⟩
theorem sd_setLc2 (i : Nat) {y : Str} {py spos : Pos} (own : List (Str × Nat)) (vs1 : List Nat) (hN : X.N.Nodup) (hi : ID X K W tg iter fi) (hg : ∀ (s : Shared) (H : Hp) (C : Addr) (cl : List (Str × Addr)) (fp : List Addr), GD (X.blk s H scope (compEnvC scope cl C X.env) fp) K sl tg ft)
    (ht : ∀ (s : Shared) (H : Hp) (C : Addr) (cl : List (Str × Addr)) (fp : List Addr), FsD (X.blk s H scope (compEnvC scope cl C X.env) fp) K wF ifs tt)
    (hi1 : ∀ (s : Shared) (H : Hp) (C : Addr) (cl : List (Str × Addr)) (fp : List Addr), JD (X.blk s H scope (compEnvC scope cl C X.env) fp) K tg1 iter1 fi1)
    (hg1 : ∀ (s : Shared) (H : Hp) (C : Addr) (cl : List (Str × Addr)) (fp : List Addr), GD (X.blk s H scope (compEnvC scope cl C X.env) fp) K sl1 tg1 ft1)
    (ht1 : ∀ (s : Shared) (H : Hp) (C : Addr) (cl : List (Str × Addr)) (fp : List Addr), FsD (X.blk s H scope (compEnvC scope cl C X.env) fp) K wF ifs1 tt1)
    (he : ∀ (s : Shared) (H : Hp) (C : Addr) (cl : List (Str × Addr)) (fp : List Addr), PD (X.blk s H scope (compEnvC scope cl C X.env) fp) K wF elt fe)
    (ok : blkC X.N X.env.scope scope own = true) (hsw : swapsWith (.ListComp elt [⟨tg, iter, ifs, 0⟩, ⟨tg1, iter1, ifs1, 0⟩] scope pos) (some (.Name y py)) spos.line X.env = pure true) (hy : X.N[i]? = some y := by rfl) (hyl : X.env.scope.names.lookup y = some .local := by rfl)
    (hsl : ∀ j ∈ sl, j ∈ own.map (·.2) := by decide) (hsl1 : ∀ j ∈ sl1, j ∈ vs1 := by decide) (hv1 : ∀ j ∈ vs1, j ∈ own.map (·.2) := by decide) (hc : X.calm = true := by rfl) (hs : ∀ x, foldedSetIterable iter X.env x = pure x := by intro _; rfl) (hs1 : ∀ env x, foldedSetIterable iter1 env x = pure x := by intro _ _; rfl) :
    SD X K W (.Assign [.Name y py] (.ListComp elt [⟨tg, iter, ifs, 0⟩, ⟨tg1, iter1, ifs1, 0⟩] scope pos) spos) (cAsg (cL (cComp2 (own.map (·.2)) vs1 fi ft tt fi1 ft1 tt1 fe)) (gN i)) := by
  obtain ⟨w, i1, i2⟩ := hi
  exact ⟨_, ps_setLc2 hc hN hy hyl hsw i1 (blkOk_by ok) hv1 (fun s H C cl fp => (hg s H C cl fp).canon) (fun s H C cl fp => (ht s H C cl fp).canon) hi1 (fun s H C cl fp => (hg1 s H C cl fp).canon) (fun s H C cl fp => (ht1 s H C cl fp).canon) (fun s H C cl fp => (he s H C cl fp).canon) hs hs1, den_setS (den_comp2 i2 hsl hsl1 hv1)⟩
end
end PyD

set_option Elab.async false
set_option linter.all false
set_option maxRecDepth 100000
set_option maxHeartbeats 1000000
namespace PyD
open PySem PySem.Spec L2
open PyProof.Rows hiding St
/-! ### sum(lists, list), at the library's level -/
section
variable {prog : Program} {w : World} {A : Around} {E : Value → Shared → Prop} {s : Shared}
theorem add_two {l b : Addr} {vs ws : List Value} {Q : Value → Shared → Prop} (hl : s.heap.IsList l vs.toArray) (hb : s.heap.IsList b ws.toArray)
    (h : Q (.ref s.heap.objs.size) { s with heap := s.heap.push { cls := .type "list", data := .seq (vs ++ ws).toArray } }) (hsz : vs.length + ws.length ≤ sizeLine) :
    wpAny (model prog w) A (binaryOp .Add (.ref l) (.ref b)) Q E s := by
  obtain ⟨⟨cls, dd, data, sl⟩, ho, hc, n, hd⟩ := id hl
  obtain ⟨⟨cls2, dd2, data2, sl2⟩, ho2, hc2, n2, hd2⟩ := id hb
  simp only at hc hd hc2 hd2
  subst hc hd hc2 hd2
  have e : vs.toArray ++ ws.toArray = (vs ++ ws).toArray := by simp
  refine concat_meets ⟨_, ho, rfl⟩ ⟨_, ho2, rfl⟩ noFill_list_add seq_list_add PySem.F.slot_list_add PySem.F.entry_list_add (PySem.F.args_list_add_2 _ _) (list_addW l b vs.toArray ws.toArray n n2 dd dd2 sl sl2 (by simpa using hsz)) ⟨ho, ho2, ?_⟩
  rw [e]
  exact h
/-- all that stands apart from two cells stays -/
def But2 (I S : Addr) (h h' : Heap) : Prop := ∀ b o, b ≠ I → b ≠ S → h.get? b = some o → h'.get? b = some o
theorem sumL_loop (hh : A.handled = none) {R : Result → Shared → Prop} {l I S : Addr} (rs : List (Addr × List Value)) (hlI : l ≠ I) (hlS : l ≠ S) (hIS : I ≠ S) (ha : ∀ p ∈ rs, p.1 ≠ I ∧ p.1 ≠ S) :
    ∀ (k i : Nat) (s : Shared) (T : Addr) (acc : List Value) (c : Nat), rs.length - i = k → i ≤ rs.length → s.heap.IsListIter I l i → s.heap.IsList l (rs.map fun p => Value.ref p.1).toArray →
    s.heap.get? S = some { cls := .type "list", dict := none, data := .seq #[.ref T] c, slots := #[] } → s.heap.IsList T acc.toArray → T ≠ I → T ≠ S → (∀ p ∈ rs, s.heap.IsList p.1 p.2.toArray) → acc.length + ((rs.drop i).map (·.2.length)).sum ≤ sizeLine →
    (∀ T' h', But2 I S s.heap h' → h'.IsList T' (acc ++ ((rs.drop i).map (·.2)).flatten).toArray → (T' = T ∨ ∃ o, h'.get? T' = some o ∧ s.heap.objs.size ≤ T' ∧ o.dict = none ∧ o.slots = #[]) → R (.ok (.ret (.ref T'))) { s with heap := h' }) →
    codeAny (model prog w) A (.builtin "sum.loop" ⟨[.ref I, .ref S, rawInt 2, rawInt 0], []⟩) R s := by
  intro k
  induction k with
  | zero =>
    intro i s T acc c hk hi hI hl hS hT hTI hTS hrs hz hR
    have hin : i = rs.length := by omega
    subst hin
    refine codeAny_builtin F.entry_sum_loop ?_
    rw [Around.under_plainId F.plain_sum_loop _]
    show wpAny _ A.in1 (seqItems? (.ref S) >>= _) _ _ s
    refine wpAny_bind (wpAny_seqItems hS rfl ?_)
    show wpAny _ A.in1 (tryCatch (pyNext (.ref I)) _ >>= _) _ _ s
    refine wpAny_bind (wpAny_tryCatch (wpAny_pyNext_list_end hh hI hl (by simp) fun h' hm => ?_))
    refine wpAny_pure (hR T h' (fun b o b1 _ e => hm b o b1 e) ?_ (.inl rfl))
    simp only [List.drop_length, List.map_nil, List.flatten_nil, List.append_nil]
    exact hT.extBut hm hTI
  | succ k ih =>
    intro i s T acc c hk hi hI hl hS hT hTI hTS hrs hz hR
    have hlt : i < rs.length := by omega
    refine codeAny_builtin F.entry_sum_loop ?_
    rw [Around.under_plainId F.plain_sum_loop _]
    show wpAny _ A.in1 (seqItems? (.ref S) >>= _) _ _ s
    refine wpAny_bind (wpAny_seqItems hS rfl ?_)
    show wpAny _ A.in1 (tryCatch (pyNext (.ref I)) _ >>= _) _ _ s
    refine wpAny_bind (wpAny_tryCatch (wpAny_pyNext_list_item hI hl (x := .ref rs[i].1) (by simp [hlt]) fun h1 hI1 hs1 => ?_))
    have hmem : rs[i] ∈ rs := List.getElem_mem hlt
    obtain ⟨aI, aS⟩ := ha _ hmem
    rw [List.drop_eq_getElem_cons hlt] at hz hR
    simp only [List.map_cons, List.sum_cons, List.flatten_cons] at hz hR
    show wpAny _ A.in1 ((holding [.ref rs[i].1] (binaryOp .Add (.ref T) (.ref rs[i].1))).attempt >>= _) _ _ _
    refine wpAny_bind (wpAny_attempt (wpAny_holding ?_))
    have hT1 : h1.IsList T acc.toArray := hT.extBut hs1.extBut hTI
    refine add_two (s := { s with heap := h1 }) hT1 ((hrs _ hmem).extBut hs1.extBut aI) ?_ (by omega)
    have hS2 : (h1.push { cls := .type "list", data := .seq (acc ++ rs[i].2).toArray }).get? S = some { cls := .type "list", dict := none, data := .seq #[.ref T] c, slots := #[] } := Heap.get?_push_of_some _ (hs1.extBut _ _ (Ne.symm hIS) hS)
    refine wpAny_bind (wpAny_updateSeq hS2 rfl ?_)
    refine wpAny_bind (wpAny_letGo ?_)
    have hS3 := Heap.get?_update_self (Obj.mapSeq fun _ => #[.ref h1.objs.size]) hS2 rfl
    refine wpAny_bind (wpAny_updateSeq (s := { s with heap := (h1.push { cls := .type "list", data := .seq (acc ++ rs[i].2).toArray }).update S (Obj.mapSeq fun _ => #[.ref h1.objs.size]) }) hS3 rfl (wpAny_pure ⟨plainId_quiet F.plain_sum_loop _, ?_⟩))
    have hS4 := Heap.get?_update_self (Obj.mapSeq fun _ => #[.ref h1.objs.size]) hS3 rfl
    have sz : h1.objs.size = s.heap.objs.size := hs1.1
    have up : ∀ b o, b ≠ S → h1.get? b = some o → (((h1.push { cls := .type "list", data := .seq (acc ++ rs[i].2).toArray }).update S (Obj.mapSeq fun _ => #[.ref h1.objs.size])).update S (Obj.mapSeq fun _ => #[.ref h1.objs.size])).get? b = some o := fun b o bS e =>
      (Heap.get?_update_other _ _ (fun h : S = b => bS h.symm)).trans ((Heap.get?_update_other _ _ (fun h : S = b => bS h.symm)).trans (Heap.get?_push_of_some _ e))
    have nI : h1.objs.size ≠ I := by
      obtain ⟨o, e, _⟩ := hI1
      exact Nat.ne_of_gt (Heap.lt_size e)
    have nS : h1.objs.size ≠ S := by
      rw [sz]
      exact Nat.ne_of_gt (Heap.lt_size hS)
    have hN : (((h1.push { cls := .type "list", data := .seq (acc ++ rs[i].2).toArray }).update S (Obj.mapSeq fun _ => #[.ref h1.objs.size])).update S (Obj.mapSeq fun _ => #[.ref h1.objs.size])).get? h1.objs.size = some { cls := .type "list", data := .seq (acc ++ rs[i].2).toArray } :=
      (Heap.get?_update_other _ _ (Ne.symm nS)).trans ((Heap.get?_update_other _ _ (Ne.symm nS)).trans (Heap.get?_push_size _ rfl))
    refine ih (i + 1) _ h1.objs.size (acc ++ rs[i].2) _ (by omega) hlt (hI1.at fun o e => up _ o hIS e) ((hl.extBut hs1.extBut hlI).at fun o e => up _ o hlS e) hS4 ⟨_, hN, rfl, _, rfl⟩ nI nS (fun p hp => ((hrs p hp).extBut hs1.extBut (ha p hp).1).at fun o e => up _ o (ha p hp).2 e) (by rw [List.length_append]; omega) fun T' h' hb hl' hor => ?_
    refine hR T' h' (fun b o b1 b2 e => hb b o b1 b2 (up b o b2 (hs1.extBut _ _ b1 e))) (by rw [← List.append_assoc]; exact hl') ?_
    rcases hor with rfl | ⟨o, e1, e2, e3, e4⟩
    · exact .inr ⟨_, hb _ _ nI nS hN, by rw [sz]; exact Nat.le_refl _, rfl, rfl⟩
    · refine .inr ⟨o, e1, Nat.le_trans ?_ e2, e3, e4⟩
      show s.heap.objs.size ≤ (((h1.push _).update S _).update S _).objs.size
      rw [Heap.size_update, Heap.size_update, Heap.size_push, sz]
      exact Nat.le_succ _
theorem args_sum2 (a b : Value) : argsOk "sum" ⟨[a, b], []⟩ := by unfold argsOk; kernel_rfl
theorem call_sumL (hh : A.handled = none) {l e : Addr} (rs : List (Addr × List Value)) (acc : List Value) {Q : Value → Shared → Prop} (hl : s.heap.IsList l (rs.map fun p => Value.ref p.1).toArray) (he : s.heap.IsList e acc.toArray) (hrs : ∀ p ∈ rs, s.heap.IsList p.1 p.2.toArray) (hz : acc.length + (rs.map (·.2.length)).sum ≤ sizeLine)
    (h : ∀ T' h', (∀ b o, s.heap.get? b = some o → h'.get? b = some o) → h'.IsList T' (acc ++ (rs.map (·.2)).flatten).toArray → (T' = e ∨ ∃ o, h'.get? T' = some o ∧ s.heap.objs.size ≤ T' ∧ o.dict = none ∧ o.slots = #[]) → Q (.ref T') { s with heap := h' }) :
    wpAny (model prog w) A (call (.builtin "sum") [.ref l, .ref e]) Q E s := by
  refine call_function_tree F.kind_sum F.plain_sum F.entry_sum (args_sum2 _ _) ?_
  unfold Builtin.«sum»
  simp only [List.length_cons, List.length_nil]
  rw [if_neg (by decide)]
  refine wpAny_bind (wpAny_of_eq (show Builtin.Builtins.bindParams "sum" ["start"] 0 ⟨[.ref e], []⟩ = pure [some (.ref e)] from rfl) ?_)
  refine wpAny_bind (wpAny_pyIter_list hl ?_)
  refine wpAny_bind (wpAny_pure ?_)
  simp only [List.forIn_cons, List.forIn_nil]
  have le : ∀ {a : Addr} {xs : Array Value}, s.heap.IsList a xs → a < s.heap.objs.size := fun h => by obtain ⟨o, e, _⟩ := h; exact Heap.lt_size e
  have he1 : (s.heap.push { cls := .type "list_iterator", data := .fields #[.ref l, .int 0 0] }).IsList e acc.toArray := he.at fun o x => Heap.get?_push_of_some _ x
  have hT : ∀ {X : Shared}, X.heap = (s.heap.push { cls := .type "list_iterator", data := .fields #[.ref l, .int 0 0] }) → X.TypeIs (.ref e) "list" := fun hX => by
    obtain ⟨o, e1, e2, _⟩ := he1
    exact ⟨o, by rw [hX]; exact e1, e2⟩
  refine wpAny_bind (wpAny_bind (wpAny_bind (wpAny_isInstance (T := "list") (b := false) (hT rfl) PySem.F.sub_list_str ?_)))
  simp only [Bool.false_eq_true, if_false]
  refine wpAny_pure (wpAny_bind (wpAny_bind (wpAny_isInstance (T := "list") (b := false) (hT rfl) PySem.F.sub_list_bytes ?_)))
  simp only [Bool.false_eq_true, if_false]
  refine wpAny_pure (wpAny_bind (wpAny_bind (wpAny_isInstance (T := "list") (b := false) (hT rfl) PySem.F.sub_list_bytearray ?_)))
  simp only [Bool.false_eq_true, if_false]
  refine wpAny_pure (wpAny_pure ?_)
  refine wpAny_bind (wpAny_newObj_type ?_)
  have sI : (s.heap.push { cls := .type "list_iterator", data := .fields #[.ref l, .int 0 0] }).objs.size = s.heap.objs.size + 1 := Heap.size_push ..
  have up : ∀ b o, s.heap.get? b = some o → ((s.heap.push { cls := .type "list_iterator", data := .fields #[.ref l, .int 0 0] }).push { cls := .type "list", data := .seq #[.ref e] }).get? b = some o := fun b o x => Heap.get?_push_of_some _ (Heap.get?_push_of_some _ x)
  have hI : ((s.heap.push { cls := .type "list_iterator", data := .fields #[.ref l, .int 0 0] }).push { cls := .type "list", data := .seq #[.ref e] }).IsListIter s.heap.objs.size l 0 := ⟨_, Heap.get?_push_of_some _ (Heap.get?_push_size _ rfl), rfl, rfl⟩
  refine wpAny_pure ⟨plainId_quiet F.plain_sum_loop _, ?_⟩
  refine sumL_loop hh (I := s.heap.objs.size) (S := (s.heap.push { cls := .type "list_iterator", data := .fields #[.ref l, .int 0 0] }).objs.size) rs (Nat.ne_of_lt (le hl)) (by rw [sI]; exact Nat.ne_of_lt (Nat.lt_succ_of_lt (le hl))) (by rw [sI]; exact Nat.ne_of_lt (Nat.lt_succ_self _)) (fun p hp => ⟨Nat.ne_of_lt (le (hrs p hp)), by rw [sI]; exact Nat.ne_of_lt (Nat.lt_succ_of_lt (le (hrs p hp)))⟩)
    rs.length 0 _ e acc _ (by omega) (Nat.zero_le _) hI (hl.at fun o x => up _ o x) (Heap.get?_push_size _ rfl) (he.at fun o x => up _ o x) (Nat.ne_of_lt (le he)) (by rw [sI]; exact Nat.ne_of_lt (Nat.lt_succ_of_lt (le he))) (fun p hp => (hrs p hp).at fun o x => up _ o x) (by simpa using hz) fun T' h' hb hl' hor => ?_
  refine h T' h' (fun b o x => hb b o (Nat.ne_of_lt (Heap.lt_size x)) (by rw [sI]; exact Nat.ne_of_lt (Nat.lt_succ_of_lt (Heap.lt_size x))) (up b o x)) (by simpa using hl') ?_
  rcases hor with rfl | ⟨o, e1, e2, e3, e4⟩
  · exact .inl rfl
  · refine .inr ⟨o, e1, Nat.le_trans ?_ e2, e3, e4⟩
    show s.heap.objs.size ≤ ((s.heap.push _).push _).objs.size
    rw [Heap.size_push, Heap.size_push]
    omega
end
/-! ### as a call -/
def rSumL (K : PySem.W.Frag) : List V → Hp → VK → Prop := fun vs H Q => ∃ (l e : Addr) (rows : List (Addr × List V)) (acc : List V), vs = [.ref l, .ref e] ∧ SqL K H l (rows.map fun p => V.ref p.1) ∧ (∀ p ∈ rows, SqL K H p.1 p.2) ∧ SqL K H e acc ∧ acc.length + (rows.map (·.2.length)).sum ≤ sizeLine ∧
  ((rows.map (·.2)).flatten = [] → Q (.ref e) H) ∧ ∀ p, H p = none → Q (.ref p) (upd H p (.lst (acc ++ (rows.map (·.2)).flatten)))
theorem rows_vals {X : Cx} {pins : List (Addr × Obj)} {σ : St} {H : Hp} {s : Shared} (I : Inv X pins σ H s) : ∀ rows : List (Addr × List V), (∀ p ∈ rows, SqL X.K H p.1 p.2) →
    ∃ rs : List (Addr × List Value), rs.map (·.1) = rows.map (·.1) ∧ (∀ p ∈ rs, s.heap.IsList p.1 p.2.toArray) ∧ Vals (rows.map (·.2)).flatten (rs.map (·.2)).flatten ∧ (rs.map (·.2.length)).sum = (rows.map (·.2.length)).sum
  | [], _ => ⟨[], rfl, fun p h => (List.not_mem_nil h).elim, .nil, rfl⟩
  | p :: rows, h => by
    obtain ⟨rs, e1, e2, e3, e4⟩ := rows_vals I rows fun q hq => h q (List.mem_cons_of_mem _ hq)
    obtain ⟨its, rv, hl, _⟩ := I.list (h p List.mem_cons_self)
    refine ⟨(p.1, its) :: rs, by simp [e1], fun q hq => ?_, rv.append e3, by simp [e4, rv.length]⟩
    rcases List.mem_cons.mp hq with rfl | hq
    · exact hl.isList
    · exact e2 q hq
theorem vals_refs : ∀ {rows : List (Addr × List V)} {us : List Value}, Vals (rows.map fun p => V.ref p.1) us → us = (rows.map (·.1)).map Value.ref
  | [], _, .nil => rfl
  | p :: rows, _, .cons r t => by
    cases r
    rw [vals_refs t]
    rfl
theorem cr_sumL {X : Cx} (hc : X.calm = true) : CallR X (.builtin "sum") (rSumL X.K) := by
  intro pins s σ H vs us Q I r h
  obtain ⟨l, e, rows, acc, rfl, hl, hr, he, hz, q1, q2⟩ := h
  obtain ⟨u1, u2, rfl, r1, r2⟩ : ∃ u1 u2, us = [u1, u2] ∧ RelV (.ref l) u1 ∧ RelV (.ref e) u2 := by
    cases r with
    | cons p q => cases q with
      | cons p' q' => cases q'; exact ⟨_, _, rfl, p, p'⟩
  cases r1
  cases r2
  obtain ⟨itl, rvl, pl, _⟩ := I.list hl
  obtain ⟨ita, rva, pa, _⟩ := I.list he
  obtain ⟨rs, e1, e2, e3, e4⟩ := rows_vals I rows hr
  have el := vals_refs rvl
  rw [← e1, List.map_map] at el
  subst el
  refine call_sumL (I.ok.hd hc) rs ita pl.isList pa.isList e2 (by rw [← rva.length, e4]; exact hz) fun T' h' k hT hor => ?_
  rcases hor with rfl | ⟨o, o1, o2, o3, o4⟩
  · have hk := (pa.isList).at fun o x => k _ o x
    obtain ⟨oa, a1, a2, na, a3⟩ := hk
    obtain ⟨ob, b1, b2, nb, b3⟩ := hT
    rw [a1] at b1
    cases b1
    rw [a3] at b3
    injection b3 with b4 _
    have b5 : (rs.map (·.2)).flatten = [] := by
      have := congrArg (fun z : Array Value => z.toList.length) b4
      simp only [List.length_append] at this
      exact List.eq_nil_of_length_eq_zero (by omega)
    have b6 : (rows.map (·.2)).flatten = [] := List.eq_nil_of_length_eq_zero (by rw [e3.length, b5]; rfl)
    exact ⟨.ref T', H, I.kept (t' := s.toks) k, rfl, q1 b6⟩
  · obtain ⟨ob, b1, b2, nb, b3⟩ := hT
    rw [o1] at b1
    cases b1
    have hlen : (acc ++ (rows.map (·.2)).flatten).length ≤ sizeLine := by
      rw [List.length_append, List.length_flatten, List.map_map]
      exact hz
    have I2 : Inv X pins σ (upd H T' (.lst (acc ++ (rows.map (·.2)).flatten))) { s with heap := h' } := I.laid (t' := s.toks) k o2 ⟨hlen, _, nb, rva.append e3, by
      obtain ⟨c, dd, dt, sl⟩ := o
      simp only at b2 b3 o3 o4
      subst b2 b3 o3 o4
      exact o1⟩
    exact ⟨.ref T', _, I2, rfl, q2 T' (I.hok.fresh o2)⟩
def rowsOf : List D → Option (List (List D))
  | [] => some []
  | .lst xs :: ds => (rowsOf ds).map (xs :: ·)
  | _ :: _ => none
def gSumL : List D → Option D
  | [.lst xss, .lst acc] => (rowsOf xss).bind fun rows => if acc.length + (rows.map List.length).sum ≤ sizeLine then some (.lst (acc ++ rows.flatten)) else none
  | _ => none
theorem rows_rp {K : KX} {Hc : Hp} : ∀ {ds : List D} {vs : List V} {rows : List (List D)}, RpAll K Hc vs ds → rowsOf ds = some rows → ∃ rv : List (Addr × List V), vs = rv.map (fun p => V.ref p.1) ∧ (∀ p ∈ rv, Hc p.1 = some (.lst p.2)) ∧ RpAll K Hc (rv.map (·.2)).flatten rows.flatten ∧ rv.map (·.2.length) = rows.map List.length
  | _, _, _, .nil, h => by
    cases h
    exact ⟨[], rfl, fun p h => (List.not_mem_nil h).elim, .nil, rfl⟩
  | _, _, _, .cons r t, h => by
    cases r with
    | lst a b =>
      simp only [rowsOf] at h
      obtain ⟨rows2, h1, rfl⟩ := Option.map_eq_some_iff.mp h
      obtain ⟨rv, e1, e2, e3, e4⟩ := rows_rp t h1
      refine ⟨(_, _) :: rv, by rw [e1]; rfl, fun p hp => ?_, b.append e3, ?_⟩
      · rcases List.mem_cons.mp hp with rfl | hp
        · exact a
        · exact e2 p hp
      · simp [e4, b.length]
    | _ => simp [rowsOf] at h
theorem opc_sumL {X : Cx} {K : KX} : OpC K (rSumL X.K) gSumL := by
  intro M G σ ρ H vs ds z r0 ra hz Q q
  unfold gSumL at hz
  split at hz
  · rename_i xss acc
    obtain ⟨rows, h1, hz⟩ := Option.bind_eq_some_iff.mp hz
    split at hz
    · rename_i hl
      cases hz
      cases ra with
      | cons r1 rr =>
      cases rr with
      | cons r2 rr =>
      cases rr
      cases r1 with
      | @lst l vs1 _ a1 b1 =>
      cases r2 with
      | @lst e vs2 _ a2 b2 =>
      obtain ⟨rv, e1, e2, e3, e4⟩ := rows_rp b1 h1
      subst e1
      refine ⟨l, e, rv, vs2, rfl, .inl (.inl (cut_same _ _ _ _ a1)), fun p hp => .inl (.inl (cut_same _ _ _ _ (e2 p hp))), .inl (.inl (cut_same _ _ _ _ a2)), ?_, fun h0 => ?_, fun p hp => ?_⟩
      · rw [b2.length, e4]; exact hl
      · have : rows.flatten = [] := by
          rw [h0] at e3
          generalize rows.flatten = fl at e3 ⊢
          cases e3
          rfl
        refine q _ _ (.refl r0) ?_
        rw [this, List.append_nil]
        exact .lst a2 b2
      · have A := After.new (o := .lst (vs2 ++ (rv.map (·.2)).flatten)) r0 hp
        exact q _ _ A (.lst (cut_mk (r0.fresh_hv hp) upd_same) ((b2.append e3).keep A.same))
    · cases hz
  · cases hz
section
variable {X : Cx} {K : KX} {W : WX} {pos p : Pos} {a b : Expr} {fs : Av}
theorem pd_sumL (hm : X.mg "sum" = none) (ha : AD X K W [a, b] fs) (hg : Gl X "sum" := by rfl) (hc : X.calm = true := by rfl) (he : starEach [a, b] X.env = (false, eval a X.env) :: starEach [b] X.env := by rfl) (hpl : (backTo pos (starEach [b] X.env)).any (·.1) = false := by rfl) :
    PD X K W (.Call (.Name "sum" p) [a, b] [] pos) (cC1 gSumL fs) := pd_B (cr_sumL hc) opc_sumL hm ha hg (by decide +kernel) (by decide) (by decide) he hpl
end
/-! ### a tuple of ints that stands at the top -/
def GloD (K : KX) (mg : Str → Option Value) (x : Str) (d : D) : Prop := ∃ u v, mg x = some u ∧ RelV v u ∧ ∀ H, Rp K H v d
theorem pd_glD {X : Cx} {K : KX} {W : WX} {p : Pos} {x : Str} {d : D} (G : GloD K X.mg x d) (hg : Gl X x := by rfl) (hd : (x == ("__debug__" : Str)) = false := by decide) : PD X K W (.Name x p) (cC d) := by
  obtain ⟨u, v, hm, r, h⟩ := G
  exact pd_glob hg hm r h hd
def GlT (K : PySem.W.Frag) (x : Str) (ns : List Int) : Prop := ∃ (a : Addr) (oc : Value) (od : Option Addr) (its : Array Value) (n : Nat) (osl : Array (Option Value)), PySem.W.nsIn K mainGlobals x = some (some (.ref a)) ∧ K.lookup a = some ⟨oc, od, .seq its n, osl⟩ ∧ oc = .type "tuple" ∧ its.size ≤ sizeLine ∧ Vals (ns.map V.int) its.toList
theorem GlT.gl {K : PySem.W.Frag} {h : Heap} {mg : Str → Option Value} {x : Str} {ns : List Int} {CA FA : Nat → Addr} (X : K.In h) (G : h.Ns mainGlobals mg) (d : GlT K x ns) : GloD ⟨K, CA, FA⟩ mg x (.tup (ns.map D.int)) := by
  obtain ⟨a, oc, od, its, n, osl, h1, h2, h3, h4, h5⟩ := d
  refine ⟨_, .ref a, PySem.W.mg_of X G h1, rfl, fun H => .tup (.inr ⟨_, its, n, h2, h3, rfl, h4, h5⟩) ?_⟩
  clear h5
  induction ns with
  | nil => exact .nil
  | cons i ns ih => exact .cons (.int i) ih
end PyD

set_option Elab.async false
set_option linter.all false
set_option maxRecDepth 100000
set_option maxHeartbeats 1000000
namespace PyD
open PySem PySem.Spec L2
open PyProof.Rows hiding St
/-! ### a, b, c = new list, e, new list -/
section
variable {X : Cx} {K : KX} {W : WX} {pos px py pz pt pt2 : Pos} {a b c : Expr} {kt k2 : Nat} {x y z : Str} {ga gc : Av} {fb : Ev}
def cPar3FEF (i j l : Nat) (f : Av) (g : Ev) (h : Av) : Sv := fun ρ => (f ρ).bind fun x => (g x.2).bind fun y => (h y.2).bind fun z => (putOw z.2 l z.1).bind fun ρ1 => (putSh ρ1 j y.1).bind fun ρ2 => (putOw ρ2 i x.1).map fun ρ3 => (.nx, ρ3)
theorem sd_par3FEF (i j l : Nat) (hN : X.N.Nodup) (ha : PDF X K W a ga) (hb : PD X K W b fb) (hcc : PDF X K W c gc) (hw : swappedStores [.Tuple [.Name x px, .Name y py, .Name z pz] kt pt] (.Tuple [a, b, c] k2 pt2) X.env = pure (some [x, y, z]) := by rfl)
    (hij : i ≠ j := by decide) (hil : i ≠ l := by decide) (hjl : j ≠ l := by decide) (hc : X.calm = true := by rfl) (hi : X.N[i]? = some x := by rfl) (hj : X.N[j]? = some y := by rfl) (hl : X.N[l]? = some z := by rfl)
    (h1 : X.env.scope.names.lookup x = some .local := by rfl) (h2 : X.env.scope.names.lookup y = some .local := by rfl) (h3 : X.env.scope.names.lookup z = some .local := by rfl)
    (hs1 : starEach [a, b, c] X.env = (false, eval a X.env) :: starEach [b, c] X.env := by rfl) (hs2 : starEach [b, c] X.env = (false, eval b X.env) :: starEach [c] X.env := by rfl) (hs3 : starEach [c] X.env = (false, eval c X.env) :: starEach [] X.env := by rfl)
    (hs : swapsWithSole [.Tuple [.Name x px, .Name y py, .Name z pz] kt pt] (.Tuple [a, b, c] k2 pt2) pos.line X.env = pure false := by rfl) : SD X K W (.Assign [.Tuple [.Name x px, .Name y py, .Name z pz] kt pt] (.Tuple [a, b, c] k2 pt2) pos) (cPar3FEF i j l ga fb gc) := by
  obtain ⟨t, a1, a2⟩ := ha
  obtain ⟨u, b1, b2⟩ := hb
  obtain ⟨v, c1, c2⟩ := hcc
  refine ⟨_, ps_par3 hc hN hi hj hl hij hil hjl h1 h2 h3 (pa_cons a1 (pa_cons b1 (pa_cons c1 pa_nil hs3) hs2) hs1) hw hs, fun {M G σ ρ H fl ρ'} r0 e Dn q => ?_, fun {M G σ ρ H cc d} r0 e x Dn => ?_⟩
  · obtain ⟨⟨d, ρ1⟩, e1, e⟩ := R.bind_eq_ok e
    obtain ⟨⟨d2, ρ2⟩, e2, e⟩ := R.bind_eq_ok e
    obtain ⟨⟨d3, ρ3⟩, e3, e⟩ := R.bind_eq_ok e
    obtain ⟨ρ4, e4, e⟩ := R.bind_eq_ok e
    obtain ⟨ρ5, e5, e⟩ := R.bind_eq_ok e
    obtain ⟨ρ6, e6, e⟩ := map_ok e
    cases e
    refine a2.ok r0 e1 _ fun p xs H1 g m A1 r1 => b2.ok A1.rel e2 _ fun w H2 A2 r2 => c2.ok A2.rel e3 _ fun p3 zs H3 g3 m3 A3 r3 => ⟨_, w, _, rfl, ?_⟩
    have B1 := after_ow A3.rel g3 m3 r3 e4
    have B2 := after_sh B1.rel ((r2.keep A3.same).keep B1.same) e5
    have B3 := after_ow B2.rel g m ((((r1.keep A2.same).keep A3.same).keep B1.same).keep B2.same) e6
    have es : ((σ.set i (some (V.ref p))).set j (some w)).set l (some (V.ref p3)) = ((σ.set l (some (V.ref p3))).set j (some w)).set i (some (V.ref p)) := by
      rw [set_comm hij, set_comm hil, set_comm hjl]
    rw [es]
    exact q _ _ (((((A1.trans A2).trans A3).trans B1).trans B2).trans B3)
  · rcases R.bind_eq_exc e with e | ⟨⟨d, ρ1⟩, e1, e⟩
    · exact a2.exc r0 e (x _) _
    · refine a2.ok r0 e1 _ fun p xs H1 g m A1 r1 => ?_
      rcases R.bind_eq_exc e with e | ⟨⟨d2, ρ2⟩, e2, e⟩
      · exact b2.exc A1.rel e ((x _).prot g) _
      · refine b2.ok A1.rel e2 _ fun w H2 A2 r2 => ?_
        rcases R.bind_eq_exc e with e | ⟨⟨d3, ρ3⟩, e3, e⟩
        · exact c2.exc A2.rel e ((x _).prot g) _
        · rcases R.bind_eq_exc e with e | ⟨ρ4, e4, e⟩
          · exact (putOw_exc e).elim
          · rcases R.bind_eq_exc e with e | ⟨ρ5, e5, e⟩
            · exact (putSh_exc e).elim
            · exact (putOw_exc (map_exc e)).elim
end
/-! ### [.. for .. in enumerate(x)], x an own list that the block leaves alone -/
theorem itok_ownE {X : Cx} {K : KX} {M : Addr → Prop} {G : Hp} {σ : St} {ρ : Rho} {H : Hp} {q : Addr} {xs : List V} {ds : List D} (h1 : G q = some (.lst xs)) (h2 : RpAll K (hv M σ ρ H) xs ds) : ItOk K M G σ ρ H (Ite X.K q) (enumD 0 ds) := by
  intro M' G' σ' ρ' H' r s sg i
  have h3 : H' q = some (.lst xs) := r.same _ _ (sg _ _ h1)
  have h4 := h2.keep s
  refine ⟨fun d hd => ?_, fun hi => ⟨xs, .inl (.inl h3), by rw [enumD_length] at hi; rw [h4.length]; exact hi⟩⟩
  obtain ⟨z, hz, rfl⟩ := enumD_get 0 ds i d hd
  obtain ⟨v, e1, e2⟩ := h4.get hz
  refine ⟨⟨xs, v, .inl (.inl h3), e1⟩, fun x H3 y => ?_⟩
  obtain ⟨T, x', rfl, nT, rfl, y⟩ := y
  have := y xs (.inl (.inl h3))
  rw [e1] at this
  cases this
  rw [Nat.zero_add]
  exact rp_newtup r nT (.cons (.int _) (.cons e2 .nil))
/-- the walk over what f makes of the list of slot i; the list is kept as it was -/
def cCompG (i : Nat) (f : List D → List D) (fi : Av) (vs : List Nat) (tg : Gv) (tt : Tv) (elt : Ev) : Av := fun ρ => match ρ[i]? with
  | some (.ow (.lst ds)) => if noOw (ρ.set i .no) vs = true then match compL vs tg tt elt (f ds) [] (ρ.set i .no) with
      | .ok (out, ρ2) => match (restR (ρ.set i .no) ρ2 vs)[i]? with
        | some .no => .ok (out, (restR (ρ.set i .no) ρ2 vs).set i (.ow (.lst ds)))
        | _ => .bad
      | _ => .bad
    else .bad
  | _ => cComp vs fi tg tt elt ρ
theorem den_compG {X : Cx} {K : KX} {W : WX} (i : Nat) {w : TI} {f : List D → List D} {fi : Av} {Jf : Addr → It} {ft : Gv} {tt : Tv} {fe : Ev} {sl vs : List Nat}
    (hw : ∀ {σ : St} {H : Hp} {q : Addr} {xs : List V} {R : It → Hp → Prop}, σ[i]? = some (some (.ref q)) → H q = some (.lst xs) → R (Jf q) H → w σ H R)
    (hJ : ∀ {M : Addr → Prop} {G : Hp} {σ : St} {ρ : Rho} {H : Hp} {q : Addr} {xs : List V} {ds : List D}, G q = some (.lst xs) → RpAll K (hv M σ ρ H) xs ds → ItOk K M G σ ρ H (Jf q) (f ds))
    (i2 : DenI K W w fi) (hsl : ∀ j ∈ sl, j ∈ vs) :
    DenF K W (tLc w (gC K sl ft) (tC' K tt) (eC K fe) vs) (cCompG i f fi vs ft tt fe) := by
  refine ⟨fun {M G σ ρ H out ρ'} r0 e Q k => ?_, fun {M G σ ρ H c d} r0 e x Q => ?_⟩
  · unfold cCompG at e
    split at e
    · rename_i ds ho
      split at e
      · rename_i hno
        split at e
        · rename_i out1 ρ2 e2
          split at e
          · rename_i hn
            cases e
            obtain ⟨q, xs, hσ, gq, mq, A, ra⟩ := r0.take ho
            refine comp_core (M := Mp M q) (G := upd G q (.lst xs)) hsl (fun R kk => hw hσ (A.rel.same q _ upd_same) (kk _ _ (After.refl A.rel) (hJ upd_same ra))) hno e2 fun D accV H' gD mD B rv => ?_
            have nD : D ≠ q := fun z => by rw [z, upd_same] at gD; cases gD
            have gD' : G D = none := by rw [upd_ne nD] at gD; exact gD
            have mD' : ¬ M D := fun z => mD (.inl z)
            -- the protections change places
            have eM : Mp (Mp M q) D = Mp (Mp M D) q := by
              funext a
              refine propext ⟨fun z => ?_, fun z => ?_⟩
              · rcases z with (z | z) | z
                · exact .inl (.inl z)
                · exact .inr z
                · exact .inl (.inr z)
              · rcases z with (z | z) | z
                · exact .inl (.inl z)
                · exact .inr z
                · exact .inl (.inr z)
            have eG : upd (upd G q (.lst xs)) D (.lst accV) = upd (upd G D (.lst accV)) q (.lst xs) := by
              funext a
              by_cases h1 : a = D
              · subst h1
                rw [upd_same, upd_ne nD, upd_same]
              · by_cases h2 : a = q
                · subst h2
                  rw [upd_ne h1, upd_same, upd_same]
                · rw [upd_ne h1, upd_ne h2, upd_ne h2, upd_ne h1]
            have BR := B.rel
            have BS := B.same
            have rv' := rv
            rw [eM, eG] at BR
            rw [eM] at BS rv'
            have gq' : upd G D (.lst accV) q = none := by rw [upd_ne (Ne.symm nD)]; exact gq
            have mq' : ¬ Mp M D q := fun z => z.elim mq fun z => nD z.symm
            have raB : RpAll K (hv (Mp (Mp M D) q) σ (restR (ρ.set i .no) ρ2 vs) H') xs ds := ra.keep BS
            obtain ⟨Z, ez⟩ := BR.retake gq' mq' raB hn hσ
            have T : After K (Mp M q) σ (ρ.set i .no) H (Mp (Mp M D) q) (upd (upd G D (.lst accV)) q (.lst xs)) σ (restR (ρ.set i .no) ρ2 vs) H' := ⟨BR, BS, B.keep, B.len⟩
            refine k D accV H' gD' mD' ((A.trans T).trans Z) ?_
            rw [ez]
            exact rv'
          · cases e
        · cases e
      · cases e
    · exact (den_comp i2 hsl).ok r0 e Q k
  · unfold cCompG at e
    split at e
    · split at e
      · split at e
        · split at e <;> cases e
        · cases e
      · cases e
    · exact (den_comp i2 hsl).exc r0 e x Q
section
variable {X : Cx} {K : KX} {W : WX} {pos epos p : Pos} {elt : Expr} {elts : List Expr} {kk : Nat} {tpos : Pos} {ifs : List Expr} {scope : Scope} {own : List (Str × Nat)} {ft : Gv} {tt : Tv} {fe : Ev} {sl : List Nat} {x : Str} {px : Pos}
/-- the walk of enumerate(x) -/
theorem ih_enum (n : Nat) (hm : X.mg "enumerate" = none) (hg : Gl X "enumerate" := by rfl) (hs : starEach [.Name x px] X.env = [(false, eval (.Name x px) X.env)] := by rfl) (hx : X.N[n]? = some x := by rfl) (hv' : Vis X.env.scope x := by first | exact Or.inl rfl | exact Or.inr (Or.inl rfl) | exact Or.inr (Or.inr rfl)) (hd : (x == ("__debug__" : Str)) = false := by decide) (hcd : (x == ("__classdict__" : Str)) = false := by decide) :
    PI X (.Tuple elts kk tpos) (.Call (.Name "enumerate" p) [.Name x px] [] epos) (iEnum X.K (tCons (tVar n) tNil)) :=
  pi_enum hg hm (pa_cons (pv (X := X) (pos := px) n hx hv' hd hcd) pa_nil hs) hs
theorem dena_one {t : TE} {f : Ev} (h2 : Den K W t f) : DenA K W (tCons t tNil) (cCons f cNil) := by
  refine ⟨fun {M G σ ρ H d ρ'} r0 e Q q => ?_, fun {M G σ ρ H c d} r0 e x Q => ?_⟩
  · obtain ⟨⟨z, ρ1⟩, e1, e⟩ := R.bind_eq_ok e
    obtain ⟨⟨zs, ρ2⟩, e2, e⟩ := map_ok e
    cases e
    cases e2
    exact h2.ok r0 e1 _ fun v H1 a1 r1 => q _ _ a1 (.cons r1 .nil)
  · rcases R.bind_eq_exc e with e | ⟨⟨z, ρ1⟩, e1, e⟩
    · exact h2.exc r0 e x _
    · exact (nomatch (map_exc e : cNil _ = _))
theorem deni_enum {t : TA} {fs : Av} (h2 : DenA K W t fs) : DenI K W (iEnum X.K t) (cEnum fs) := by
  refine ⟨fun {M G σ ρ H ds ρ'} r0 e Rq q => ?_, fun {M G σ ρ H c d} r0 e x Rq => ?_⟩
  · obtain ⟨⟨xs, ρ1⟩, e1, e⟩ := R.bind_eq_ok e
    simp only at e
    split at e
    · rename_i zs
      cases e
      refine h2.ok r0 e1 _ fun vs H1 A r1 => ?_
      cases r1 with
      | cons rx rr =>
        cases rr
        cases rx with
        | @lst p vs _ h3 h4 =>
          refine ⟨p, vs, rfl, .inl (.inl (cut_same _ _ _ _ h3)), q _ _ A fun M' G' σ' ρ2 H2 r s _ i => ?_⟩
          have h5 : H2 p = some (.lst vs) := cut_same _ _ _ _ (s _ _ h3)
          have h6 := h4.keep s
          refine ⟨fun d hd => ?_, fun hi => ⟨vs, .inl (.inl h5), by rw [enumD_length] at hi; rw [h6.length]; exact hi⟩⟩
          obtain ⟨z, hz, rfl⟩ := enumD_get 0 zs i d hd
          obtain ⟨v, e3, e4⟩ := h6.get hz
          refine ⟨⟨vs, v, .inl (.inl h5), e3⟩, fun x H3 y => ?_⟩
          obtain ⟨T, x', rfl, nT, rfl, y⟩ := y
          have := y vs (.inl (.inl h5))
          rw [e3] at this
          cases this
          rw [Nat.zero_add]
          exact rp_newtup r nT (.cons (.int _) (.cons e4 .nil))
    · cases e
  · rcases R.bind_eq_exc e with e | ⟨⟨z, ρ1⟩, e1, e⟩
    · exact h2.exc r0 e x _
    · simp only at e
      split at e <;> cases e
def fEnum (ds : List D) : List D := enumD 0 ds
abbrev cCompE (n : Nat) (vs : List Nat) (ft : Gv) (tt : Tv) (fe : Ev) : Av := cCompG n fEnum (cEnum (cCons (cV n) cNil)) vs ft tt fe
theorem den_compE (n : Nat) {vs : List Nat} (hsl : ∀ j ∈ sl, j ∈ vs) : DenF K W (tLc (iEnum X.K (tCons (tVar n) tNil)) (gC K sl ft) (tC' K tt) (eC K fe) vs) (cCompE n vs ft tt fe) :=
  den_compG (X := X) (Jf := Ite X.K) n (fun {σ H q xs R} h1 h2 h3 => ⟨_, h1, q, xs, rfl, .inl (.inl h2), h3⟩) (fun h1 h2 => itok_ownE h1 h2) (deni_enum (dena_one den_v)) hsl
theorem fd_compE (n : Nat) (own : List (Str × Nat)) (hm : X.mg "enumerate" = none) (hN : X.N.Nodup) (hg : ∀ (s : Shared) (H : Hp) (C : Addr) (cl : List (Str × Addr)) (fp : List Addr), GD (X.blk s H scope (compEnvC scope cl C X.env) fp) K sl (.Tuple elts kk tpos) ft)
    (ht : ∀ (s : Shared) (H : Hp) (C : Addr) (cl : List (Str × Addr)) (fp : List Addr), FsD (X.blk s H scope (compEnvC scope cl C X.env) fp) K wF ifs tt) (he : ∀ (s : Shared) (H : Hp) (C : Addr) (cl : List (Str × Addr)) (fp : List Addr), PD (X.blk s H scope (compEnvC scope cl C X.env) fp) K wF elt fe)
    (ok : blkC X.N X.env.scope scope own = true) (hge : Gl X "enumerate" := by rfl) (hse : starEach [.Name x px] X.env = [(false, eval (.Name x px) X.env)] := by rfl) (hx : X.N[n]? = some x := by rfl) (hv' : Vis X.env.scope x := by first | exact Or.inl rfl | exact Or.inr (Or.inl rfl) | exact Or.inr (Or.inr rfl)) (hd : (x == ("__debug__" : Str)) = false := by decide) (hcd : (x == ("__classdict__" : Str)) = false := by decide)
    (hsl : ∀ j ∈ sl, j ∈ own.map (·.2) := by decide) (hc : X.calm = true := by rfl) (hs : ∀ y, foldedSetIterable (.Call (.Name "enumerate" p) [.Name x px] [] epos) X.env y = pure y := by intro _; rfl) : PDF X K W (.ListComp elt [⟨.Tuple elts kk tpos, .Call (.Name "enumerate" p) [.Name x px] [] epos, ifs, 0⟩] scope pos) (cCompE n (own.map (·.2)) ft tt fe) :=
  ⟨_, pe_lc hc hN (ih_enum n hm hge hse hx hv' hd hcd) (blkOk_by ok) (fun s H C cl fp => (hg s H C cl fp).canon) (fun s H C cl fp => (ht s H C cl fp).canon) (fun s H C cl fp => (he s H C cl fp).canon) hs, den_compE (X := X) n hsl⟩
theorem sd_setLcE (n i : Nat) {y : Str} {py spos : Pos} (own : List (Str × Nat)) (hm : X.mg "enumerate" = none) (hN : X.N.Nodup) (hg : ∀ (s : Shared) (H : Hp) (C : Addr) (cl : List (Str × Addr)) (fp : List Addr), GD (X.blk s H scope (compEnvC scope cl C X.env) fp) K sl (.Tuple elts kk tpos) ft)
    (ht : ∀ (s : Shared) (H : Hp) (C : Addr) (cl : List (Str × Addr)) (fp : List Addr), FsD (X.blk s H scope (compEnvC scope cl C X.env) fp) K wF ifs tt) (he : ∀ (s : Shared) (H : Hp) (C : Addr) (cl : List (Str × Addr)) (fp : List Addr), PD (X.blk s H scope (compEnvC scope cl C X.env) fp) K wF elt fe)
    (ok : blkC X.N X.env.scope scope own = true) (hsw : swapsWith (.ListComp elt [⟨.Tuple elts kk tpos, .Call (.Name "enumerate" p) [.Name x px] [] epos, ifs, 0⟩] scope pos) (some (.Name y py)) spos.line X.env = pure true) (hy : X.N[i]? = some y := by rfl) (hyl : X.env.scope.names.lookup y = some .local := by rfl)
    (hge : Gl X "enumerate" := by rfl) (hse : starEach [.Name x px] X.env = [(false, eval (.Name x px) X.env)] := by rfl) (hx : X.N[n]? = some x := by rfl) (hv' : Vis X.env.scope x := by first | exact Or.inl rfl | exact Or.inr (Or.inl rfl) | exact Or.inr (Or.inr rfl)) (hd : (x == ("__debug__" : Str)) = false := by decide) (hcd : (x == ("__classdict__" : Str)) = false := by decide)
    (hsl : ∀ j ∈ sl, j ∈ own.map (·.2) := by decide) (hc : X.calm = true := by rfl) (hs : ∀ y, foldedSetIterable (.Call (.Name "enumerate" p) [.Name x px] [] epos) X.env y = pure y := by intro _; rfl) : SD X K W (.Assign [.Name y py] (.ListComp elt [⟨.Tuple elts kk tpos, .Call (.Name "enumerate" p) [.Name x px] [] epos, ifs, 0⟩] scope pos) spos) (cAsg (cL (cCompE n (own.map (·.2)) ft tt fe)) (gN i)) :=
  ⟨_, ps_setLc hc hN hy hyl hsw (ih_enum n hm hge hse hx hv' hd hcd) (blkOk_by ok) (fun s H C cl fp => (hg s H C cl fp).canon) (fun s H C cl fp => (ht s H C cl fp).canon) (fun s H C cl fp => (he s H C cl fp).canon) hs, den_setS (den_compE (X := X) n hsl)⟩
end
end PyD

set_option Elab.async false
set_option linter.all false
set_option maxRecDepth 100000
set_option maxHeartbeats 4000000
namespace PyD
open PySem PySem.Spec L2
open PyProof.Rows hiding St
def top (i : Nat) : Stmt := PySem.Challenge.pw_debtscleared_k80_whole_shares_of_trees.main.body.getD i (.Pass ⟨0, 0, 0, 0⟩)
/-! is_whole -/
abbrev st_is_whole : Stmt := top 19
/-! reached_from -/
abbrev st_reached_from : Stmt := top 20
/-! hang_together -/
abbrev st_hang_together : Stmt := top 21
/-! is_tie -/
abbrev st_is_tie : Stmt := top 22
/-! is_web_by -/
abbrev st_is_web_by : Stmt := top 23
/-! check_web -/
abbrev st_check_web : Stmt := top 24
/-! many_in -/
abbrev st_many_in : Stmt := top 25
/-! is_point_by -/
abbrev st_is_point_by : Stmt := top 31
/-! check_point -/
abbrev st_check_point : Stmt := top 32
/-! common_divisor -/
abbrev st_common_divisor : Stmt := top 6
/-! lowest -/
abbrev st_lowest : Stmt := top 7
/-! over -/
abbrev st_over : Stmt := top 10
/-! less -/
abbrev st_less : Stmt := top 8
/-! times -/
abbrev st_times : Stmt := top 9
/-! without -/
abbrev st_without : Stmt := top 13
/-! stepped -/
abbrev st_stepped : Stmt := top 14
/-! solved -/
abbrev st_solved : Stmt := top 15
/-! ties_in -/
abbrev st_ties_in : Stmt := top 26
/-! between -/
abbrev st_between : Stmt := top 27
/-! breadth -/
abbrev st_breadth : Stmt := top 28
/-! matrix_of -/
abbrev st_matrix_of : Stmt := top 30
/-! levels_by -/
abbrev st_levels_by : Stmt := top 35
/-! unit_row -/
abbrev st_unit_row : Stmt := top 36
/-! between_levels -/
abbrev st_between_levels : Stmt := top 37
/-! between_by -/
abbrev st_between_by : Stmt := top 38
/-! stands_between -/
abbrev st_stands_between : Stmt := top 39
/-! single_ties -/
abbrev st_single_ties : Stmt := top 29
/-! check_tie -/
abbrev st_check_tie : Stmt := top 41
/-! tie_share -/
abbrev st_tie_share : Stmt := top 42
/-! _law_cell -/
abbrev st_law_cell : Stmt := top 46
/-! _law_generator -/
abbrev st_law_generator : Stmt := top 47
/-! _law_exact -/
abbrev st_law_exact : Stmt := top 49
/-! _law_hang -/
abbrev st_law_hang : Stmt := top 52
/-! _law_is_whole -/
abbrev st_law_is_whole : Stmt := top 51
/-! _law_is_web -/
abbrev st_law_is_web : Stmt := top 53
/-! _law_hash -/
abbrev st_law_hash : Stmt := top 44
/-! _law_random -/
abbrev st_law_random : Stmt := top 45
/-! _law_pick -/
abbrev st_law_pick : Stmt := top 48
/-! _law_bad_web -/
abbrev st_law_bad_web : Stmt := top 56
/-! _law_no_web -/
abbrev st_law_no_web : Stmt := top 57
/-! _law_frac -/
abbrev st_law_frac : Stmt := top 59
/-! _law_add -/
abbrev st_law_add : Stmt := top 60
/-! _law_singles -/
abbrev st_law_singles : Stmt := top 61
/-! _law_made -/
abbrev st_law_made : Stmt := top 54
/-! _law_web -/
abbrev st_law_web : Stmt := top 55
/-! _law_small -/
abbrev st_law_small : Stmt := top 62
/-! _law_lots -/
abbrev st_law_lots : Stmt := top 58
/-! _law_trees -/
abbrev st_law_trees : Stmt := top 63
/-! _law_caught -/
abbrev st_law_caught : Stmt := top 64
/-! law -/
abbrev st_law : Stmt := top 65
def tab_DebtError : List Bool := [true, true, true]
def hit_DebtError (c : Nat) : Option Bool := tab_DebtError[c]?
def tab_InvalidNumber : List Bool := [false, false, true]
def tab_InvalidWeb : List Bool := [true, false, false]
/-- what the top has made -/
structure Top (P : Program) (KK : KX) (mg : Str → Option Value) : Prop where
  B : Blt mg
  g_NOUGHT_linear : GloD KK mg "NOUGHT_linear" (.tup [.int 0, .int 1])
  g_MOST_POINTS : GloC mg "MOST_POINTS" (.int 7)
  g_MOST_TIES : GloC mg "MOST_TIES" (.int 9)
  g_NOUGHT_flows : GloD KK mg "NOUGHT_flows" (.tup [.int 0, .int 1])
  d_is_whole : DefX KK mg "is_whole" st_is_whole ["value"]
  d_reached_from : DefX KK mg "reached_from" st_reached_from ["pairs", "start"]
  d_hang_together : DefX KK mg "hang_together" st_hang_together ["many", "pairs"]
  d_is_tie : DefX KK mg "is_tie" st_is_tie ["value", "many"]
  d_is_web_by : DefX KK mg "is_web_by" st_is_web_by ["value"]
  d_check_web : DefX KK mg "check_web" st_check_web ["web"]
  d_many_in : DefX KK mg "many_in" st_many_in ["web"]
  d_is_point_by : DefX KK mg "is_point_by" st_is_point_by ["web", "value"]
  d_check_point : DefX KK mg "check_point" st_check_point ["web", "point"]
  d_common_divisor : DefX KK mg "common_divisor" st_common_divisor ["one", "other"]
  d_lowest : DefX KK mg "lowest" st_lowest ["top", "under"]
  d_over : DefX KK mg "over" st_over ["one", "other"]
  d_less : DefX KK mg "less" st_less ["one", "other"]
  d_times : DefX KK mg "times" st_times ["one", "other"]
  d_without : DefX KK mg "without" st_without ["row", "other", "place"]
  d_stepped : DefX KK mg "stepped" st_stepped ["rows", "many"]
  d_solved : DefX KK mg "solved" st_solved ["rows", "due", "many"]
  d_ties_in : DefX KK mg "ties_in" st_ties_in ["web"]
  d_between : DefX KK mg "between" st_between ["web", "one", "other"]
  d_breadth : DefX KK mg "breadth" st_breadth ["web", "point"]
  d_matrix_of : DefX KK mg "matrix_of" st_matrix_of ["web"]
  d_levels_by : DefX KK mg "levels_by" st_levels_by ["web", "row", "end"]
  d_unit_row : DefX KK mg "unit_row" st_unit_row ["web", "one", "other"]
  d_between_levels : DefX KK mg "between_levels" st_between_levels ["web", "one", "other"]
  d_between_by : DefX KK mg "between_by" st_between_by ["web", "one", "other"]
  d_stands_between : DefX KK mg "stands_between" st_stands_between ["web", "one", "other"]
  d_single_ties : DefX KK mg "single_ties" st_single_ties ["web"]
  d_check_tie : DefX KK mg "check_tie" st_check_tie ["web", "number"]
  d_tie_share : DefX KK mg "tie_share" st_tie_share ["web", "first"]
  d_law_cell : DefX KK mg "_law_cell" st_law_cell ["script", "index"]
  d_law_generator : DefX KK mg "_law_generator" st_law_generator ["script", "index"]
  d_law_exact : DefX KK mg "_law_exact" st_law_exact ["due", "told"]
  d_law_hang : DefX KK mg "_law_hang" st_law_hang ["many", "pairs"]
  d_law_is_whole : DefX KK mg "_law_is_whole" st_law_is_whole ["value"]
  d_law_is_web : DefX KK mg "_law_is_web" st_law_is_web ["value"]
  d_law_hash : DefX KK mg "_law_hash" st_law_hash ["seed", "index"]
  d_law_random : DefX KK mg "_law_random" st_law_random ["generator", "bound"]
  d_law_pick : DefX KK mg "_law_pick" st_law_pick ["generator", "things"]
  d_law_bad_web : DefX KK mg "_law_bad_web" st_law_bad_web ["generator", "web"]
  d_law_no_web : DefX KK mg "_law_no_web" st_law_no_web ["generator", "web"]
  d_law_frac : DefX KK mg "_law_frac" st_law_frac ["top", "under"]
  d_law_add : DefX KK mg "_law_add" st_law_add ["one", "other"]
  d_law_singles : DefX KK mg "_law_singles" st_law_singles ["web"]
  d_law_made : DefX KK mg "_law_made" st_law_made ["many", "ties"]
  d_law_web : DefX KK mg "_law_web" st_law_web ["generator", "most", "ties"]
  d_law_small : DefX KK mg "_law_small" st_law_small ["generator", "most"]
  d_law_lots : DefX KK mg "_law_lots" st_law_lots ["many"]
  d_law_trees : DefX KK mg "_law_trees" st_law_trees ["web"]
  d_law_caught : DefX KK mg "_law_caught" st_law_caught ["door", "args"]
  d_law : DefX KK mg "law" st_law ["script"]
  e : ∃ D fI, ErrD P KK.K D fI ∧ ErrC KK.K mg D fI (KK.CA 0) "InvalidWeb" ∧ ErrC KK.K mg D fI (KK.CA 1) "InvalidPoint" ∧ ErrC KK.K mg D fI (KK.CA 2) "InvalidNumber"
  eI : ∀ c, c < 3 → ErrI KK.K (KK.CA c)
  c_DebtError : mg "DebtError" = some (.ref (KK.CA 3))
  eH_DebtError : ∀ c b, hit_DebtError c = some b → PySem.W.exmOne KK.K (.ref (KK.CA c)) (.ref (KK.CA 3)) = some b
  c_InvalidNumber : mg "InvalidNumber" = some (.ref (KK.CA 2))
  eX_InvalidNumber : ∀ c b, tab_InvalidNumber[c]? = some b → ErrI KK.K (KK.CA c) ∧ PySem.W.kitOne KK.K (.ref (KK.CA c)) (.ref (KK.CA 2)) = some b
  c_InvalidWeb : mg "InvalidWeb" = some (.ref (KK.CA 0))
  eX_InvalidWeb : ∀ c b, tab_InvalidWeb[c]? = some b → ErrI KK.K (KK.CA c) ∧ PySem.W.kitOne KK.K (.ref (KK.CA c)) (.ref (KK.CA 0)) = some b
section
variable {P : Program} {w : World} {KK : KX} {mg : Str → Option Value} {base : Heap}
/-! ## is_whole -/
abbrev N_is_whole : List Str := ["value"]
theorem sc_is_whole : FnScope N_is_whole ["value"] (defScope st_is_whole) := ⟨rfl, rfl, rfl, by decide +kernel, rfl, by decide +kernel, by decide +kernel⟩
def b_is_whole : Sv :=
    (cRet (cAndV (c1 (isaD "int") (cV 0)) (cNotV (c1 (isaD "bool") (cV 0)))))
def m_is_whole : Ev := runD 1 b_is_whole
theorem C_is_whole (T : Top P KK mg) : CalD P w KK mg base 1 "is_whole" st_is_whole ["value"] (spD KK 1 m_is_whole) := by
  obtain ⟨f, fd, F, hm, hb⟩ := T.d_is_whole.ex
  exact .mk F hm hb (okD F sc_is_whole fun cdv A outer s H E hr hgd => (show SsD _ _ _ _ b_is_whole from
    (ss_one (sd_ret (pd_and (pd_isa "int" T.B.isinstance T.B.int ((pd_v 0)).p) (pd_one (pd_not (pd_isa "bool" T.B.isinstance T.B.bool ((pd_v 0)).p))))))))
/-! ## reached_from -/
abbrev N_reached_from : List Str := ["pairs", "start", "found", "late", "here", "one", "other", "near", "far"]
theorem sc_reached_from : FnScope N_reached_from ["pairs", "start"] (defScope st_reached_from) := ⟨rfl, rfl, rfl, by decide +kernel, rfl, by decide +kernel, by decide +kernel⟩
def b_reached_from : Sv :=
    (cSeq (cParEF 2 3 (cL (cLst (cCons (cV 1) cNil))) (cLst (cCons (cV 1) cNil)))
    (cSeq (cWhile (fun _ => 1000000) (tOf (c2 gNe (cP 3) (cL (cLst cNil))))
    (cSeq (cAsg (cPop 3) (gN 4))
    (cFor (cW (cV 0)) (gT 2 (gConsD (gN 5) (gConsD (gN 6) gNilD)))
    (cFor (cW (cTup (cCons (cTup (cCons (cV 5) (cCons (cV 6) cNil))) (cCons (cTup (cCons (cV 6) (cCons (cV 5) cNil))) cNil)))) (gT 2 (gConsD (gN 7) (gConsD (gN 8) gNilD)))
    (cIfS (cAnd (tOf (c2 gEq (cV 7) (cV 4))) (tOf (c2 (gIn true) (cV 8) (cV 2))))
    (cParEF 2 3 (cL (cLst (cStar (cV 2) (cCons (cV 8) cNil)))) (cLst (cStar (cP 3) (cCons (cV 8) cNil))))
    cSkip)))))
    (cRetF (cCF gSort (cCons (cV 2) cNil)))))
def m_reached_from : Av := runF 9 b_reached_from
theorem C_reached_from (T : Top P KK mg) : CalD P w KK mg base 1 "reached_from" st_reached_from ["pairs", "start"] (spF KK 2 m_reached_from) := by
  obtain ⟨f, fd, F, hm, hb⟩ := T.d_reached_from.ex
  exact .mk F hm hb (okF F sc_reached_from fun cdv A outer s H E hr hgd => (show SsD _ _ _ _ b_reached_from from
    (ss_cons (sd_parEF 2 3 sc_reached_from.nd ((fd_lst (ad_cons (pd_v 1) ad_nil))).d (fd_lst (ad_cons (pd_v 1) ad_nil)))
    (ss_cons (sd_while (fun _ => 1000000) (td_cmp (cm_ne hr.units) (pd_p 3) (((fd_lst ad_nil)).d).p (pu_L (pu_lst pu_nil)) rfl)
    (ss_cons (sd_set 4 sc_reached_from.nd (pd_pop 3))
    (ss_one (sd_for (id_seq (pd_v 0)) (gd_tup (gs_cons (gd_name 5 sc_reached_from.nd) (gs_cons (gd_name 6 sc_reached_from.nd) gs_nil)))
    (ss_one (sd_for (id_seq (pd_tup (ad_cons (pd_tup (ad_cons (pd_v 5) (ad_cons (pd_v 6) ad_nil))) (ad_cons (pd_tup (ad_cons (pd_v 6) (ad_cons (pd_v 5) ad_nil))) ad_nil)))) (gd_tup (gs_cons (gd_name 7 sc_reached_from.nd) (gs_cons (gd_name 8 sc_reached_from.nd) gs_nil)))
    (ss_one (sd_if ((wd_and (td_cmp (cm_eq hr.units) ((pd_v 7)).p ((pd_v 4)).p pu_v rfl) (wd_and1 (td_cmp (cm_notIn hr.units) ((pd_v 8)).p ((pd_v 2)).p pu_v rfl)))).t
    (ss_one (sd_parEF 2 3 sc_reached_from.nd ((fd_lst (ad_star ((pd_v 2)).p (ad_cons (pd_v 8) ad_nil)))).d (fd_lst (ad_star (pd_p 3) (ad_cons (pd_v 8) ad_nil)))))
    ss_nil)) (passes_of rfl))) (passes_of rfl)))) (passes_of rfl))
    (ss_one (sd_retF (fd_sorted T.B.sorted hr.units (ad_cons (pd_v 2) ad_nil))))))))
/-! ## hang_together -/
abbrev N_hang_together : List Str := ["many", "pairs"]
theorem sc_hang_together : FnScope N_hang_together ["many", "pairs"] (defScope st_hang_together) := ⟨rfl, rfl, rfl, by decide +kernel, rfl, by decide +kernel, by decide +kernel⟩
def b_hang_together : Sv :=
    (cRet (c2 gEq (c1 gLen (cL (cCallF 2 m_reached_from (cCons (cV 1) (cCons (cC (.int 0)) cNil))))) (cV 0)))
def m_hang_together : Ev := runD 2 b_hang_together
theorem C_hang_together (T : Top P KK mg) : CalD P w KK mg base 2 "hang_together" st_hang_together ["many", "pairs"] (spD KK 2 m_hang_together) := by
  obtain ⟨f, fd, F, hm, hb⟩ := T.d_hang_together.ex
  exact .mk F hm hb (okD F sc_hang_together fun cdv A outer s H E hr hgd => (show SsD _ _ _ _ b_hang_together from
    (ss_one (sd_ret (pd_cmp (cm_eq hr.units) ((pd_len T.B.len (((fd_calC (C_reached_from T) (hr.mono (by decide)) hgd (takes_of rfl rfl rfl rfl) (ad_cons (pd_v 1) (ad_cons pd_int ad_nil)))).d).p)).p ((pd_v 0)).p pu_v rfl)))))
/-! ## is_tie -/
abbrev N_is_tie : List Str := ["value", "many", "one"]
theorem sc_is_tie : FnScope N_is_tie ["value", "many"] (defScope st_is_tie) := ⟨rfl, rfl, rfl, by decide +kernel, rfl, by decide +kernel, by decide +kernel⟩
def b_is_tie : Sv :=
    (cSeq (cIfS (cOr (cNot (tOf (c1 (isaD "tuple") (cV 0)))) (cOr (tOf (c2 gNe (c1 gLen (cV 0)) (cC (.int 3)))) (cNot (tOf (c1 gAll (cL (cComp [2] (cW (cV 0)) (gN 2) cYes (cCall 1 m_is_whole (cCons (cV 2) cNil)))))))))
    (cRet (cC (.bl false)))
    cSkip)
    (cRet (cAndV (cCh (cC (.int 0)) (chK gLe (c2 gIx (cV 0) (cC (.int 0))) (chK gLt (c2 gIx (cV 0) (cC (.int 1))) (chL gLt (cV 1))))) (cCh (cC (.int 1)) (chK gLe (c2 gIx (cV 0) (cC (.int 2))) (chL gLe (cC (.int 9))))))))
def m_is_tie : Ev := runD 3 b_is_tie
theorem C_is_tie (T : Top P KK mg) : CalD P w KK mg base 2 "is_tie" st_is_tie ["value", "many"] (spD KK 2 m_is_tie) := by
  obtain ⟨f, fd, F, hm, hb⟩ := T.d_is_tie.ex
  exact .mk F hm hb (okD F sc_is_tie fun cdv A outer s H E hr hgd => (show SsD _ _ _ _ b_is_tie from
    (ss_cons (sd_if ((wd_or (td_not (td_val (pd_isa "tuple" T.B.isinstance T.B.tuple ((pd_v 0)).p))) (wd_or (td_cmp (cm_ne hr.units) ((pd_len T.B.len ((pd_v 0)).p)).p (pd_int).p pu_c rfl) (wd_or1 (td_not (td_val (pd_all T.B.all (((fd_comp [("one", 2)] sc_is_tie.nd (id_seq (pd_v 0)) (fun _ _ _ _ _ => (gd_name 2 sc_is_tie.nd)) (fun _ _ _ _ _ => fs_nil) (fun _ _ _ _ _ => (pd_calC (C_is_whole T) (hr.mono (by decide)) hgd takes_F (ad_cons (pd_v 2) ad_nil))) (by kernel_rfl))).d).p))))))).t
    (ss_one (sd_ret pd_bl))
    ss_nil)
    (ss_one (sd_ret (pd_and (pd_ch pd_int (ch_link cm_le (pd_ix ((pd_v 0)).p pd_int pu_c) (ch_link (cm_lt hr.units) (pd_ix ((pd_v 0)).p pd_int pu_c) (ch_last (cm_lt hr.units) (pd_v 1))))) (pd_one (pd_ch pd_int (ch_link cm_le (pd_ix ((pd_v 0)).p pd_int pu_c) (ch_last cm_le (pd_gl T.g_MOST_TIES fun _ => .int _)))))))))))
/-! ## is_web_by -/
abbrev N_is_web_by : List Str := ["value", "ties", "tie", "at"]
theorem sc_is_web_by : FnScope N_is_web_by ["value"] (defScope st_is_web_by) := ⟨rfl, rfl, rfl, by decide +kernel, rfl, by decide +kernel, by decide +kernel⟩
def b_is_web_by : Sv :=
    (cSeq (cIfS (cOr (cNot (tOf (c1 (isaD "tuple") (cV 0)))) (cOr (tOf (c2 gNe (c1 gLen (cV 0)) (cC (.int 3)))) (cOr (cNot (tOf (c1 (isaD "str") (c2 gIx (cV 0) (cC (.int 0)))))) (tOf (c2 gNe (c2 gIx (cV 0) (cC (.int 0))) (cC (.str "web")))))))
    (cRet (cC (.bl false)))
    cSkip)
    (cSeq (cIfS (cOr (cNot (tOf (cCall 1 m_is_whole (cCons (c2 gIx (cV 0) (cC (.int 1))) cNil)))) (cOr (cNot (tOf (cCh (cC (.int 1)) (chK gLe (c2 gIx (cV 0) (cC (.int 1))) (chL gLe (cC (.int 7))))))) (cNot (tOf (c1 (isaD "list") (c2 gIx (cV 0) (cC (.int 2))))))))
    (cRet (cC (.bl false)))
    cSkip)
    (cSeq (cAsg (c2 gIx (cV 0) (cC (.int 2))) (gN 1))
    (cSeq (cIfS (cNot (tOf (c1 gAll (cL (cComp [2] (cW (cV 1)) (gN 2) cYes (cCall 2 m_is_tie (cCons (cV 2) (cCons (c2 gIx (cV 0) (cC (.int 1))) cNil))))))))
    (cRet (cC (.bl false)))
    cSkip)
    (cSeq (cIfS (cNot (tOf (c1 gAll (cL (cComp [3] (cRng2 (cCons (cC (.int 1)) (cCons (c1 gLen (cV 1)) cNil))) (gN 3) cYes (c2 gLt (cSl (c2 gIx (cV 1) (c2 gSub (cV 3) (cC (.int 1)))) cNo (cSome (cC (.int 2)))) (cSl (c2 gIx (cV 1) (cV 3)) cNo (cSome (cC (.int 2))))))))))
    (cRet (cC (.bl false)))
    cSkip)
    (cRet (cCall 2 m_hang_together (cCons (c2 gIx (cV 0) (cC (.int 1))) (cCons (cL (cComp [2] (cW (cV 1)) (gN 2) cYes (cSl (cV 2) cNo (cSome (cC (.int 2)))))) cNil)))))))))
def m_is_web_by : Ev := runD 4 b_is_web_by
theorem C_is_web_by (T : Top P KK mg) : CalD P w KK mg base 3 "is_web_by" st_is_web_by ["value"] (spD KK 1 m_is_web_by) := by
  obtain ⟨f, fd, F, hm, hb⟩ := T.d_is_web_by.ex
  exact .mk F hm hb (okD F sc_is_web_by fun cdv A outer s H E hr hgd => (show SsD _ _ _ _ b_is_web_by from
    (ss_cons (sd_if ((wd_or (td_not (td_val (pd_isa "tuple" T.B.isinstance T.B.tuple ((pd_v 0)).p))) (wd_or (td_cmp (cm_ne hr.units) ((pd_len T.B.len ((pd_v 0)).p)).p (pd_int).p pu_c rfl) (wd_or (td_not (td_val (pd_isa "str" T.B.isinstance T.B.str ((pd_ix ((pd_v 0)).p pd_int pu_c)).p))) (wd_or1 (td_cmp (cm_ne hr.units) ((pd_ix ((pd_v 0)).p pd_int pu_c)).p (pd_str).p pu_c rfl)))))).t
    (ss_one (sd_ret pd_bl))
    ss_nil)
    (ss_cons (sd_if ((wd_or (td_not (td_val (pd_calC (C_is_whole T) (hr.mono (by decide)) hgd (takes_of rfl rfl rfl rfl) (ad_cons (pd_ix ((pd_v 0)).p pd_int pu_c) ad_nil)))) (wd_or (td_not (td_ch pd_int (ch_link cm_le (pd_ix ((pd_v 0)).p pd_int pu_c) (ch_last cm_le (pd_gl T.g_MOST_POINTS fun _ => .int _))))) (wd_or1 (td_not (td_val (pd_isa "list" T.B.isinstance T.B.list ((pd_ix ((pd_v 0)).p pd_int pu_c)).p))))))).t
    (ss_one (sd_ret pd_bl))
    ss_nil)
    (ss_cons (sd_set 1 sc_is_web_by.nd (pd_ix ((pd_v 0)).p pd_int pu_c))
    (ss_cons (sd_if (td_not (td_val (pd_all T.B.all (((fd_comp [("tie", 2)] sc_is_web_by.nd (id_seq (pd_v 1)) (fun _ _ _ _ _ => (gd_name 2 sc_is_web_by.nd)) (fun _ _ _ _ _ => fs_nil) (fun _ _ _ _ _ => (pd_calC (C_is_tie T) (hr.mono (by decide)) hgd takes_F (ad_cons (pd_v 2) (ad_cons (pd_ix ((pd_v 0)).p pd_int pu_c) ad_nil)))) (by kernel_rfl))).d).p)))
    (ss_one (sd_ret pd_bl))
    ss_nil)
    (ss_cons (sd_if (td_not (td_val (pd_all T.B.all (((fd_comp [("at", 3)] sc_is_web_by.nd (id_rng2 T.B.range (ad_cons pd_int (ad_cons (pd_len T.B.len ((pd_v 1)).p) ad_nil))) (fun _ _ _ _ _ => (gd_name 3 sc_is_web_by.nd)) (fun _ _ _ _ _ => fs_nil) (fun _ _ _ _ _ => (pd_cmp (cm_lt hr.units) ((pd_sl ((pd_ix ((pd_v 1)).p (pd_sub (pd_v 3) pd_int) (pu_2 pu_v pu_c))).p od_none (od_some pd_int pu_c))).p ((pd_sl ((pd_ix ((pd_v 1)).p (pd_v 3) pu_v)).p od_none (od_some pd_int pu_c))).p (pu_sl (pu_2 pu_v pu_v)) rfl)) (by kernel_rfl))).d).p)))
    (ss_one (sd_ret pd_bl))
    ss_nil)
    (ss_one (sd_ret (pd_calC (C_hang_together T) (hr.mono (by decide)) hgd (takes_of rfl rfl rfl rfl) (ad_cons (pd_ix ((pd_v 0)).p pd_int pu_c) (ad_cons ((fd_comp [("tie", 2)] sc_is_web_by.nd (id_seq (pd_v 1)) (fun _ _ _ _ _ => (gd_name 2 sc_is_web_by.nd)) (fun _ _ _ _ _ => fs_nil) (fun _ _ _ _ _ => (pd_sl ((pd_v 2)).p od_none (od_some pd_int pu_c))) (by kernel_rfl))).d ad_nil))))))))))))
/-! ## check_web -/
abbrev N_check_web : List Str := ["web"]
theorem sc_check_web : FnScope N_check_web ["web"] (defScope st_check_web) := ⟨rfl, rfl, rfl, by decide +kernel, rfl, by decide +kernel, by decide +kernel⟩
def b_check_web : Sv :=
    (cIfS (cNot (tOf (cCall 1 m_is_web_by (cCons (cV 0) cNil))))
    (cRaise 0 (cV 0))
    cSkip)
def m_check_web : Ev := runD 1 b_check_web
theorem C_check_web (T : Top P KK mg) : CalD P w KK mg base 4 "check_web" st_check_web ["web"] (spD KK 1 m_check_web) := by
  obtain ⟨f, fd, F, hm, hb⟩ := T.d_check_web.ex
  obtain ⟨D, fI, eD, eC_InvalidWeb, eC_InvalidPoint, eC_InvalidNumber⟩ := T.e
  exact .mk F hm hb (okD F sc_check_web fun cdv A outer s H E hr hgd => (show SsD _ _ _ _ b_check_web from
    (ss_one (sd_if (td_not (td_val (pd_calC (C_is_web_by T) (hr.mono (by decide)) hgd (takes_of rfl rfl rfl rfl) (ad_cons (pd_v 0) ad_nil))))
    (ss_one (sd_raise 0 rfl eD eC_InvalidWeb T.B.super hr (takes_of rfl rfl rfl rfl) (pd_v 0)))
    ss_nil))))
/-! ## many_in -/
abbrev N_many_in : List Str := ["web"]
theorem sc_many_in : FnScope N_many_in ["web"] (defScope st_many_in) := ⟨rfl, rfl, rfl, by decide +kernel, rfl, by decide +kernel, by decide +kernel⟩
def b_many_in : Sv :=
    (cRet (c2 gIx (cV 0) (cC (.int 1))))
def m_many_in : Ev := runD 1 b_many_in
theorem C_many_in (T : Top P KK mg) : CalD P w KK mg base 1 "many_in" st_many_in ["web"] (spD KK 1 m_many_in) := by
  obtain ⟨f, fd, F, hm, hb⟩ := T.d_many_in.ex
  exact .mk F hm hb (okD F sc_many_in fun cdv A outer s H E hr hgd => (show SsD _ _ _ _ b_many_in from
    (ss_one (sd_ret (pd_ix ((pd_v 0)).p pd_int pu_c)))))
/-! ## is_point_by -/
abbrev N_is_point_by : List Str := ["web", "value"]
theorem sc_is_point_by : FnScope N_is_point_by ["web", "value"] (defScope st_is_point_by) := ⟨rfl, rfl, rfl, by decide +kernel, rfl, by decide +kernel, by decide +kernel⟩
def b_is_point_by : Sv :=
    (cRet (cAndV (cCall 1 m_is_whole (cCons (cV 1) cNil)) (cCh (cC (.int 0)) (chK gLe (cV 1) (chL gLt (cCall 1 m_many_in (cCons (cV 0) cNil)))))))
def m_is_point_by : Ev := runD 2 b_is_point_by
theorem C_is_point_by (T : Top P KK mg) : CalD P w KK mg base 2 "is_point_by" st_is_point_by ["web", "value"] (spD KK 2 m_is_point_by) := by
  obtain ⟨f, fd, F, hm, hb⟩ := T.d_is_point_by.ex
  exact .mk F hm hb (okD F sc_is_point_by fun cdv A outer s H E hr hgd => (show SsD _ _ _ _ b_is_point_by from
    (ss_one (sd_ret (pd_and (pd_calC (C_is_whole T) (hr.mono (by decide)) hgd (takes_of rfl rfl rfl rfl) (ad_cons (pd_v 1) ad_nil)) (pd_one (pd_ch pd_int (ch_link cm_le (pd_v 1) (ch_last (cm_lt hr.units) (pd_calC (C_many_in T) (hr.mono (by decide)) hgd (takes_of rfl rfl rfl rfl) (ad_cons (pd_v 0) ad_nil)))))))))))
/-! ## check_point -/
abbrev N_check_point : List Str := ["web", "point"]
theorem sc_check_point : FnScope N_check_point ["web", "point"] (defScope st_check_point) := ⟨rfl, rfl, rfl, by decide +kernel, rfl, by decide +kernel, by decide +kernel⟩
def b_check_point : Sv :=
    (cIfS (cNot (tOf (cCall 2 m_is_point_by (cCons (cV 0) (cCons (cV 1) cNil)))))
    (cRaise 1 (cV 1))
    cSkip)
def m_check_point : Ev := runD 2 b_check_point
theorem C_check_point (T : Top P KK mg) : CalD P w KK mg base 3 "check_point" st_check_point ["web", "point"] (spD KK 2 m_check_point) := by
  obtain ⟨f, fd, F, hm, hb⟩ := T.d_check_point.ex
  obtain ⟨D, fI, eD, eC_InvalidWeb, eC_InvalidPoint, eC_InvalidNumber⟩ := T.e
  exact .mk F hm hb (okD F sc_check_point fun cdv A outer s H E hr hgd => (show SsD _ _ _ _ b_check_point from
    (ss_one (sd_if (td_not (td_val (pd_calC (C_is_point_by T) (hr.mono (by decide)) hgd (takes_of rfl rfl rfl rfl) (ad_cons (pd_v 0) (ad_cons (pd_v 1) ad_nil)))))
    (ss_one (sd_raise 1 rfl eD eC_InvalidPoint T.B.super hr (takes_of rfl rfl rfl rfl) (pd_v 1)))
    ss_nil))))
/-! ## common_divisor -/
abbrev N_common_divisor : List Str := ["one", "other"]
theorem sc_common_divisor : FnScope N_common_divisor ["one", "other"] (defScope st_common_divisor) := ⟨rfl, rfl, rfl, by decide +kernel, rfl, by decide +kernel, by decide +kernel⟩
def b_common_divisor : Sv :=
    (cSeq (cPar 0 1 (cC1 gAbs (cCons (cV 0) cNil)) (cC1 gAbs (cCons (cV 1) cNil)))
    (cSeq (cWhile (fun (ρ : Rho) => match ρ[1]? with | some (Cell.sh (D.int i)) => i.natAbs + 2 | _ => 2) (tOf (c2 gGt (cV 1) (cC (.int 0))))
    (cPar 0 1 (cV 1) (c2 gMod (cV 0) (cV 1))))
    (cRet (cV 0))))
def m_common_divisor : Ev := runD 2 b_common_divisor
theorem C_common_divisor (T : Top P KK mg) : CalD P w KK mg base 1 "common_divisor" st_common_divisor ["one", "other"] (spD KK 2 m_common_divisor) := by
  obtain ⟨f, fd, F, hm, hb⟩ := T.d_common_divisor.ex
  exact .mk F hm hb (okD F sc_common_divisor fun cdv A outer s H E hr hgd => (show SsD _ _ _ _ b_common_divisor from
    (ss_cons (sd_par 0 1 sc_common_divisor.nd (pd_abs T.B.abs (ad_cons (pd_v 0) ad_nil)) (pd_abs T.B.abs (ad_cons (pd_v 1) ad_nil)))
    (ss_cons (sd_while (fun (ρ : Rho) => match ρ[1]? with | some (Cell.sh (D.int i)) => i.natAbs + 2 | _ => 2) (td_cmp cm_gt ((pd_v 1)).p (pd_int).p pu_c rfl)
    (ss_one (sd_par 0 1 sc_common_divisor.nd (pd_v 1) (pd_mod (pd_v 0) (pd_v 1)))) (passes_of rfl))
    (ss_one (sd_ret (pd_v 0)))))))
/-! ## lowest -/
abbrev N_lowest : List Str := ["top", "under", "common"]
theorem sc_lowest : FnScope N_lowest ["top", "under"] (defScope st_lowest) := ⟨rfl, rfl, rfl, by decide +kernel, rfl, by decide +kernel, by decide +kernel⟩
def b_lowest : Sv :=
    (cSeq (cIfS (tOf (c2 gLt (cV 1) (cC (.int 0))))
    (cPar 0 1 (c1 gNeg (cV 0)) (c1 gNeg (cV 1)))
    cSkip)
    (cSeq (cAsg (cCall 2 m_common_divisor (cCons (cV 0) (cCons (cV 1) cNil))) (gN 2))
    (cRet (cTup (cCons (c2 gDiv (cV 0) (cV 2)) (cCons (c2 gDiv (cV 1) (cV 2)) cNil))))))
def m_lowest : Ev := runD 3 b_lowest
theorem C_lowest (T : Top P KK mg) : CalD P w KK mg base 2 "lowest" st_lowest ["top", "under"] (spD KK 2 m_lowest) := by
  obtain ⟨f, fd, F, hm, hb⟩ := T.d_lowest.ex
  exact .mk F hm hb (okD F sc_lowest fun cdv A outer s H E hr hgd => (show SsD _ _ _ _ b_lowest from
    (ss_cons (sd_if (td_cmp (cm_lt hr.units) ((pd_v 1)).p (pd_int).p pu_c rfl)
    (ss_one (sd_par 0 1 sc_lowest.nd (pd_neg (pd_v 0)) (pd_neg (pd_v 1))))
    ss_nil)
    (ss_cons (sd_set 2 sc_lowest.nd (pd_calC (C_common_divisor T) (hr.mono (by decide)) hgd (takes_of rfl rfl rfl rfl) (ad_cons (pd_v 0) (ad_cons (pd_v 1) ad_nil))))
    (ss_one (sd_ret (pd_tup (ad_cons (pd_div (pd_v 0) (pd_v 2)) (ad_cons (pd_div (pd_v 1) (pd_v 2)) ad_nil)))))))))
/-! ## over -/
abbrev N_over : List Str := ["one", "other"]
theorem sc_over : FnScope N_over ["one", "other"] (defScope st_over) := ⟨rfl, rfl, rfl, by decide +kernel, rfl, by decide +kernel, by decide +kernel⟩
def b_over : Sv :=
    (cRet (cCall 2 m_lowest (cCons (c2 gMul (c2 gIx (cV 0) (cC (.int 0))) (c2 gIx (cV 1) (cC (.int 1)))) (cCons (c2 gMul (c2 gIx (cV 0) (cC (.int 1))) (c2 gIx (cV 1) (cC (.int 0)))) cNil))))
def m_over : Ev := runD 2 b_over
theorem C_over (T : Top P KK mg) : CalD P w KK mg base 3 "over" st_over ["one", "other"] (spD KK 2 m_over) := by
  obtain ⟨f, fd, F, hm, hb⟩ := T.d_over.ex
  exact .mk F hm hb (okD F sc_over fun cdv A outer s H E hr hgd => (show SsD _ _ _ _ b_over from
    (ss_one (sd_ret (pd_calC (C_lowest T) (hr.mono (by decide)) hgd (takes_of rfl rfl rfl rfl) (ad_cons (pd_mul (pd_ix ((pd_v 0)).p pd_int pu_c) (pd_ix ((pd_v 1)).p pd_int pu_c)) (ad_cons (pd_mul (pd_ix ((pd_v 0)).p pd_int pu_c) (pd_ix ((pd_v 1)).p pd_int pu_c)) ad_nil)))))))
/-! ## less -/
abbrev N_less : List Str := ["one", "other"]
theorem sc_less : FnScope N_less ["one", "other"] (defScope st_less) := ⟨rfl, rfl, rfl, by decide +kernel, rfl, by decide +kernel, by decide +kernel⟩
def b_less : Sv :=
    (cRet (cCall 2 m_lowest (cCons (c2 gSub (c2 gMul (c2 gIx (cV 0) (cC (.int 0))) (c2 gIx (cV 1) (cC (.int 1)))) (c2 gMul (c2 gIx (cV 1) (cC (.int 0))) (c2 gIx (cV 0) (cC (.int 1))))) (cCons (c2 gMul (c2 gIx (cV 0) (cC (.int 1))) (c2 gIx (cV 1) (cC (.int 1)))) cNil))))
def m_less : Ev := runD 2 b_less
theorem C_less (T : Top P KK mg) : CalD P w KK mg base 3 "less" st_less ["one", "other"] (spD KK 2 m_less) := by
  obtain ⟨f, fd, F, hm, hb⟩ := T.d_less.ex
  exact .mk F hm hb (okD F sc_less fun cdv A outer s H E hr hgd => (show SsD _ _ _ _ b_less from
    (ss_one (sd_ret (pd_calC (C_lowest T) (hr.mono (by decide)) hgd (takes_of rfl rfl rfl rfl) (ad_cons (pd_sub (pd_mul (pd_ix ((pd_v 0)).p pd_int pu_c) (pd_ix ((pd_v 1)).p pd_int pu_c)) (pd_mul (pd_ix ((pd_v 1)).p pd_int pu_c) (pd_ix ((pd_v 0)).p pd_int pu_c))) (ad_cons (pd_mul (pd_ix ((pd_v 0)).p pd_int pu_c) (pd_ix ((pd_v 1)).p pd_int pu_c)) ad_nil)))))))
/-! ## times -/
abbrev N_times : List Str := ["one", "other"]
theorem sc_times : FnScope N_times ["one", "other"] (defScope st_times) := ⟨rfl, rfl, rfl, by decide +kernel, rfl, by decide +kernel, by decide +kernel⟩
def b_times : Sv :=
    (cRet (cCall 2 m_lowest (cCons (c2 gMul (c2 gIx (cV 0) (cC (.int 0))) (c2 gIx (cV 1) (cC (.int 0)))) (cCons (c2 gMul (c2 gIx (cV 0) (cC (.int 1))) (c2 gIx (cV 1) (cC (.int 1)))) cNil))))
def m_times : Ev := runD 2 b_times
theorem C_times (T : Top P KK mg) : CalD P w KK mg base 3 "times" st_times ["one", "other"] (spD KK 2 m_times) := by
  obtain ⟨f, fd, F, hm, hb⟩ := T.d_times.ex
  exact .mk F hm hb (okD F sc_times fun cdv A outer s H E hr hgd => (show SsD _ _ _ _ b_times from
    (ss_one (sd_ret (pd_calC (C_lowest T) (hr.mono (by decide)) hgd (takes_of rfl rfl rfl rfl) (ad_cons (pd_mul (pd_ix ((pd_v 0)).p pd_int pu_c) (pd_ix ((pd_v 1)).p pd_int pu_c)) (ad_cons (pd_mul (pd_ix ((pd_v 0)).p pd_int pu_c) (pd_ix ((pd_v 1)).p pd_int pu_c)) ad_nil)))))))
/-! ## without -/
abbrev N_without : List Str := ["row", "other", "place", "factor", "mine", "yours"]
theorem sc_without : FnScope N_without ["row", "other", "place"] (defScope st_without) := ⟨rfl, rfl, rfl, by decide +kernel, rfl, by decide +kernel, by decide +kernel⟩
def b_without : Sv :=
    (cSeq (cAsg (c2 gIx (cV 0) (cV 2)) (gN 3))
    (cRetF (cComp [4, 5] (cZipS (cCons (cV 0) (cCons (cV 1) cNil))) (gT 2 (gConsD (gN 4) (gConsD (gN 5) gNilD))) cYes (cCall 2 m_less (cCons (cV 4) (cCons (cCall 2 m_times (cCons (cV 3) (cCons (cV 5) cNil))) cNil))))))
def m_without : Av := runF 6 b_without
theorem C_without (T : Top P KK mg) : CalD P w KK mg base 4 "without" st_without ["row", "other", "place"] (spF KK 3 m_without) := by
  obtain ⟨f, fd, F, hm, hb⟩ := T.d_without.ex
  exact .mk F hm hb (okF F sc_without fun cdv A outer s H E hr hgd => (show SsD _ _ _ _ b_without from
    (ss_cons (sd_set 3 sc_without.nd (pd_ix ((pd_v 0)).p (pd_v 2) pu_v))
    (ss_one (sd_retF (fd_comp [("mine", 4), ("yours", 5)] sc_without.nd (id_zipS T.B.zip (ad_cons (pd_v 0) (ad_cons (pd_v 1) ad_nil))) (fun _ _ _ _ _ => (gd_tup (gs_cons (gd_name 4 sc_without.nd) (gs_cons (gd_name 5 sc_without.nd) gs_nil)))) (fun _ _ _ _ _ => fs_nil) (fun _ _ _ _ _ => (pd_calC (C_less T) (hr.mono (by decide)) hgd takes_F (ad_cons (pd_v 4) (ad_cons (pd_calC (C_times T) (hr.mono (by decide)) hgd takes_F (ad_cons (pd_v 3) (ad_cons (pd_v 5) ad_nil))) ad_nil)))) (by kernel_rfl)))))))
/-! ## stepped -/
abbrev N_stepped : List Str := ["rows", "many", "left", "found", "leads", "row", "place", "at", "number", "head", "one"]
theorem sc_stepped : FnScope N_stepped ["rows", "many"] (defScope st_stepped) := ⟨rfl, rfl, rfl, by decide +kernel, rfl, by decide +kernel, by decide +kernel⟩
def b_stepped : Sv :=
    (cSeq (cPar3FEF 2 3 4 (cComp [5] (cW (cV 0)) (gN 5) cYes (cL (cListOf (cV 5)))) (cL (cLst cNil)) (cLst cNil))
    (cSeq (cFor (cRng1 (cCons (cV 1) cNil)) (gN 6)
    (cSeq (cAsg (cL (cCompE 2 [8, 5] (gT 2 (gConsD (gN 8) (gConsD (gN 5) gNilD))) (tOf (c2 gNe (c2 gIx (cV 5) (cV 6)) (cC (.tup [.int 0, .int 1])))) (cV 8))) (gN 7))
    (cIfS (tOf (c2 gNe (cV 7) (cL (cLst cNil))))
    (cSeq (cAsg (cPopAt 2 (c2 gIx (cV 7) (cC (.int 0)))) (gN 9))
    (cSeq (cAsg (cL (cComp [10] (cW (cV 9)) (gN 10) cYes (cCall 2 m_over (cCons (cV 10) (cCons (c2 gIx (cV 9) (cV 6)) cNil))))) (gN 9))
    (cSeq (cSetO 2 (cCompP 2 [5] (gN 5) cYes (cL (cCallF 3 m_without (cCons (cV 5) (cCons (cV 9) (cCons (cV 6) cNil)))))))
    (cSeq (cAsg (c2 gAdd (cL (cComp [5] (cW (cV 3)) (gN 5) cYes (cL (cCallF 3 m_without (cCons (cV 5) (cCons (cV 9) (cCons (cV 6) cNil))))))) (cL (cLst (cCons (cV 9) cNil)))) (gN 3))
    (cExpr (cApp 4 (cV 6)))))))
    cSkip)))
    (cRet (cTup (cCons (cV 3) (cCons (cR 2) (cCons (cR 4) cNil)))))))
def m_stepped : Ev := runD 11 b_stepped
theorem C_stepped (T : Top P KK mg) : CalD P w KK mg base 5 "stepped" st_stepped ["rows", "many"] (spD KK 2 m_stepped) := by
  obtain ⟨f, fd, F, hm, hb⟩ := T.d_stepped.ex
  exact .mk F hm hb (okD F sc_stepped fun cdv A outer s H E hr hgd => (show SsD _ _ _ _ b_stepped from
    (ss_cons (sd_par3FEF 2 3 4 sc_stepped.nd (fd_comp [("row", 5)] sc_stepped.nd (id_seq (pd_v 0)) (fun _ _ _ _ _ => (gd_name 5 sc_stepped.nd)) (fun _ _ _ _ _ => fs_nil) (fun _ _ _ _ _ => ((fd_list T.B.list ((pd_v 5)).p)).d) (by kernel_rfl)) ((fd_lst ad_nil)).d (fd_lst ad_nil))
    (ss_cons (sd_for (id_rng1 T.B.range (ad_cons (pd_v 1) ad_nil)) (gd_name 6 sc_stepped.nd)
    (ss_cons (sd_setLcE 2 7 [("number", 8), ("row", 5)] T.B.enumerate sc_stepped.nd (fun _ _ _ _ _ => (gd_tup (gs_cons (gd_name 8 sc_stepped.nd) (gs_cons (gd_name 5 sc_stepped.nd) gs_nil)))) (fun _ _ _ _ _ => (fs_one (td_cmp (cm_ne hr.units) ((pd_ix ((pd_v 5)).p (pd_v 6) pu_v)).p ((pd_glD T.g_NOUGHT_linear)).p pu_c rfl))) (fun _ _ _ _ _ => (pd_v 8)) (by kernel_rfl) rfl)
    (ss_one (sd_if (td_cmp (cm_ne hr.units) ((pd_v 7)).p (((fd_lst ad_nil)).d).p (pu_L (pu_lst pu_nil)) rfl)
    (ss_cons (sd_set 9 sc_stepped.nd (pd_popAt 2 (pd_ix ((pd_v 7)).p pd_int pu_c)))
    (ss_cons (sd_set 9 sc_stepped.nd ((fd_comp [("one", 10)] sc_stepped.nd (id_seq (pd_v 9)) (fun _ _ _ _ _ => (gd_name 10 sc_stepped.nd)) (fun _ _ _ _ _ => fs_nil) (fun _ _ _ _ _ => (pd_calC (C_over T) (hr.mono (by decide)) hgd takes_F (ad_cons (pd_v 10) (ad_cons (pd_ix ((pd_v 9)).p (pd_v 6) pu_v) ad_nil)))) (by kernel_rfl))).d)
    (ss_cons (sd_setLcOP 2 2 [("row", 5)] sc_stepped.nd (fun _ _ _ _ _ => (gd_name 5 sc_stepped.nd)) (fun _ _ _ _ _ => fs_nil) (fun _ _ _ _ _ => ((fd_calC (C_without T) (hr.mono (by decide)) hgd takes_F (ad_cons (pd_v 5) (ad_cons (pd_v 9) (ad_cons (pd_v 6) ad_nil))))).d) (by kernel_rfl) rfl)
    (ss_cons (sd_set 3 sc_stepped.nd (pd_add ((fd_comp [("row", 5)] sc_stepped.nd (id_seq (pd_v 3)) (fun _ _ _ _ _ => (gd_name 5 sc_stepped.nd)) (fun _ _ _ _ _ => fs_nil) (fun _ _ _ _ _ => ((fd_calC (C_without T) (hr.mono (by decide)) hgd takes_F (ad_cons (pd_v 5) (ad_cons (pd_v 9) (ad_cons (pd_v 6) ad_nil))))).d) (by kernel_rfl))).d ((fd_lst (ad_cons (pd_v 9) ad_nil))).d))
    (ss_one (sd_expr (pd_append 4 (pd_v 6))))))))
    ss_nil))) (passes_of rfl))
    (ss_one (sd_ret (pd_tup (ad_cons (pd_v 3) (ad_cons (pd_r 2) (ad_cons (pd_r 4) ad_nil))))))))))
/-! ## solved -/
abbrev N_solved : List Str := ["rows", "due", "many", "found", "left", "leads", "row", "one", "answer", "place"]
theorem sc_solved : FnScope N_solved ["rows", "due", "many"] (defScope st_solved) := ⟨rfl, rfl, rfl, by decide +kernel, rfl, by decide +kernel, by decide +kernel⟩
def b_solved : Sv :=
    (cSeq (cAsg (cCall 2 m_stepped (cCons (cL (cComp [6, 7] (cZipS (cCons (cV 0) (cCons (cV 1) cNil))) (gT 2 (gConsD (gN 6) (gConsD (gN 7) gNilD))) cYes (c2 gAdd (cL (cListOf (cV 6))) (cL (cLst (cCons (cV 7) cNil)))))) (cCons (cV 2) cNil))) (gT 3 (gConsD (gN 3) (gConsD (gN 4) (gConsD (gN 5) gNilD)))))
    (cSeq (cIfS (tOf (c2 gNe (cL (cComp [6] (cW (cV 4)) (gN 6) (tOf (c2 gNe (c2 gIx (cV 6) (c1 gNeg (cC (.int 1)))) (cC (.tup [.int 0, .int 1])))) (cV 6))) (cL (cLst cNil))))
    (cRet (cC .non))
    cSkip)
    (cSeq (cSetO 8 (cRep (cL (cLst (cCons (cC (.tup [.int 0, .int 1])) cNil))) (cV 2)))
    (cSeq (cFor (cZipS (cCons (cV 3) (cCons (cV 5) cNil))) (gT 2 (gConsD (gN 6) (gConsD (gN 9) gNilD)))
    (cAsg (c2 gIx (cV 6) (c1 gNeg (cC (.int 1)))) (gS 8 (cV 9))))
    (cRet (cR 8))))))
def m_solved : Ev := runD 10 b_solved
theorem C_solved (T : Top P KK mg) : CalD P w KK mg base 6 "solved" st_solved ["rows", "due", "many"] (spD KK 3 m_solved) := by
  obtain ⟨f, fd, F, hm, hb⟩ := T.d_solved.ex
  exact .mk F hm hb (okD F sc_solved fun cdv A outer s H E hr hgd => (show SsD _ _ _ _ b_solved from
    (ss_cons (sd_asg (pd_calC (C_stepped T) (hr.mono (by decide)) hgd (takes_of rfl rfl rfl rfl) (ad_cons ((fd_comp [("row", 6), ("one", 7)] sc_solved.nd (id_zipS T.B.zip (ad_cons (pd_v 0) (ad_cons (pd_v 1) ad_nil))) (fun _ _ _ _ _ => (gd_tup (gs_cons (gd_name 6 sc_solved.nd) (gs_cons (gd_name 7 sc_solved.nd) gs_nil)))) (fun _ _ _ _ _ => fs_nil) (fun _ _ _ _ _ => (pd_add ((fd_list T.B.list ((pd_v 6)).p)).d ((fd_lst (ad_cons (pd_v 7) ad_nil))).d)) (by kernel_rfl))).d (ad_cons (pd_v 2) ad_nil))) (gd_tup (gs_cons (gd_name 3 sc_solved.nd) (gs_cons (gd_name 4 sc_solved.nd) (gs_cons (gd_name 5 sc_solved.nd) gs_nil)))))
    (ss_cons (sd_if (td_cmp (cm_ne hr.units) (((fd_comp [("row", 6)] sc_solved.nd (id_seq (pd_v 4)) (fun _ _ _ _ _ => (gd_name 6 sc_solved.nd)) (fun _ _ _ _ _ => (fs_one (td_cmp (cm_ne hr.units) ((pd_ix ((pd_v 6)).p (pd_neg pd_int) (pu_1 pu_c))).p ((pd_glD T.g_NOUGHT_linear)).p pu_c rfl))) (fun _ _ _ _ _ => (pd_v 6)) (by kernel_rfl))).d).p (((fd_lst ad_nil)).d).p (pu_L (pu_lst pu_nil)) rfl)
    (ss_one (sd_ret pd_non))
    ss_nil)
    (ss_cons (sd_setO 8 sc_solved.nd (fd_rep ((fd_lst (ad_cons (pd_glD T.g_NOUGHT_linear) ad_nil))).d (pd_v 2)))
    (ss_cons (sd_for (id_zipS T.B.zip (ad_cons (pd_v 3) (ad_cons (pd_v 5) ad_nil))) (gd_tup (gs_cons (gd_name 6 sc_solved.nd) (gs_cons (gd_name 9 sc_solved.nd) gs_nil)))
    (ss_one (sd_asg (pd_ix ((pd_v 6)).p (pd_neg pd_int) (pu_1 pu_c)) (gd_sub (W := wF) 8 (pd_v 9)))) (passes_of rfl))
    (ss_one (sd_ret (pd_r 8)))))))))
/-! ## ties_in -/
abbrev N_ties_in : List Str := ["web"]
theorem sc_ties_in : FnScope N_ties_in ["web"] (defScope st_ties_in) := ⟨rfl, rfl, rfl, by decide +kernel, rfl, by decide +kernel, by decide +kernel⟩
def b_ties_in : Sv :=
    (cRet (c2 gIx (cV 0) (cC (.int 2))))
def m_ties_in : Ev := runD 1 b_ties_in
theorem C_ties_in (T : Top P KK mg) : CalD P w KK mg base 1 "ties_in" st_ties_in ["web"] (spD KK 1 m_ties_in) := by
  obtain ⟨f, fd, F, hm, hb⟩ := T.d_ties_in.ex
  exact .mk F hm hb (okD F sc_ties_in fun cdv A outer s H E hr hgd => (show SsD _ _ _ _ b_ties_in from
    (ss_one (sd_ret (pd_ix ((pd_v 0)).p pd_int pu_c)))))
/-! ## between -/
abbrev N_between : List Str := ["web", "one", "other", "low", "high", "number"]
theorem sc_between : FnScope N_between ["web", "one", "other"] (defScope st_between) := ⟨rfl, rfl, rfl, by decide +kernel, rfl, by decide +kernel, by decide +kernel⟩
def b_between : Sv :=
    (cRet (c1 gSum (cL (cComp [3, 4, 5] (cW (cCall 1 m_ties_in (cCons (cV 0) cNil))) (gT 3 (gConsD (gN 3) (gConsD (gN 4) (gConsD (gN 5) gNilD)))) (tOf (c2 (gIn false) (cTup (cCons (cV 3) (cCons (cV 4) cNil))) (cTup (cCons (cTup (cCons (cV 1) (cCons (cV 2) cNil))) (cCons (cTup (cCons (cV 2) (cCons (cV 1) cNil))) cNil))))) (cV 5)))))
def m_between : Ev := runD 6 b_between
theorem C_between (T : Top P KK mg) : CalD P w KK mg base 2 "between" st_between ["web", "one", "other"] (spD KK 3 m_between) := by
  obtain ⟨f, fd, F, hm, hb⟩ := T.d_between.ex
  exact .mk F hm hb (okD F sc_between fun cdv A outer s H E hr hgd => (show SsD _ _ _ _ b_between from
    (ss_one (sd_ret (pd_sum T.B.sum (((fd_comp [("low", 3), ("high", 4), ("number", 5)] sc_between.nd (id_seq (pd_calC (C_ties_in T) (hr.mono (by decide)) hgd (takes_of rfl rfl rfl rfl) (ad_cons (pd_v 0) ad_nil))) (fun _ _ _ _ _ => (gd_tup (gs_cons (gd_name 3 sc_between.nd) (gs_cons (gd_name 4 sc_between.nd) (gs_cons (gd_name 5 sc_between.nd) gs_nil))))) (fun _ _ _ _ _ => (fs_one (td_cmp (cm_in hr.units) ((pd_tup (ad_cons (pd_v 3) (ad_cons (pd_v 4) ad_nil)))).p ((pd_tup (ad_cons (pd_tup (ad_cons (pd_v 1) (ad_cons (pd_v 2) ad_nil))) (ad_cons (pd_tup (ad_cons (pd_v 2) (ad_cons (pd_v 1) ad_nil))) ad_nil)))).p (pu_tup (pu_cons (pu_tup (pu_cons pu_v (pu_cons pu_v pu_nil))) (pu_cons (pu_tup (pu_cons pu_v (pu_cons pu_v pu_nil))) pu_nil))) rfl))) (fun _ _ _ _ _ => (pd_v 5)) (by kernel_rfl))).d).p)))))
/-! ## breadth -/
abbrev N_breadth : List Str := ["web", "point", "low", "high", "number"]
theorem sc_breadth : FnScope N_breadth ["web", "point"] (defScope st_breadth) := ⟨rfl, rfl, rfl, by decide +kernel, rfl, by decide +kernel, by decide +kernel⟩
def b_breadth : Sv :=
    (cRet (c1 gSum (cL (cComp [2, 3, 4] (cW (cCall 1 m_ties_in (cCons (cV 0) cNil))) (gT 3 (gConsD (gN 2) (gConsD (gN 3) (gConsD (gN 4) gNilD)))) (tOf (c2 (gIn false) (cV 1) (cTup (cCons (cV 2) (cCons (cV 3) cNil))))) (cV 4)))))
def m_breadth : Ev := runD 5 b_breadth
theorem C_breadth (T : Top P KK mg) : CalD P w KK mg base 2 "breadth" st_breadth ["web", "point"] (spD KK 2 m_breadth) := by
  obtain ⟨f, fd, F, hm, hb⟩ := T.d_breadth.ex
  exact .mk F hm hb (okD F sc_breadth fun cdv A outer s H E hr hgd => (show SsD _ _ _ _ b_breadth from
    (ss_one (sd_ret (pd_sum T.B.sum (((fd_comp [("low", 2), ("high", 3), ("number", 4)] sc_breadth.nd (id_seq (pd_calC (C_ties_in T) (hr.mono (by decide)) hgd (takes_of rfl rfl rfl rfl) (ad_cons (pd_v 0) ad_nil))) (fun _ _ _ _ _ => (gd_tup (gs_cons (gd_name 2 sc_breadth.nd) (gs_cons (gd_name 3 sc_breadth.nd) (gs_cons (gd_name 4 sc_breadth.nd) gs_nil))))) (fun _ _ _ _ _ => (fs_one (td_cmp (cm_in hr.units) ((pd_v 1)).p ((pd_tup (ad_cons (pd_v 2) (ad_cons (pd_v 3) ad_nil)))).p (pu_tup (pu_cons pu_v (pu_cons pu_v pu_nil))) rfl))) (fun _ _ _ _ _ => (pd_v 4)) (by kernel_rfl))).d).p)))))
/-! ## matrix_of -/
abbrev N_matrix_of : List Str := ["web", "found", "one", "row", "other"]
theorem sc_matrix_of : FnScope N_matrix_of ["web"] (defScope st_matrix_of) := ⟨rfl, rfl, rfl, by decide +kernel, rfl, by decide +kernel, by decide +kernel⟩
def b_matrix_of : Sv :=
    (cSeq (cSetO 1 (cLst cNil))
    (cSeq (cFor (cRng1 (cCons (cCall 1 m_many_in (cCons (cV 0) cNil)) cNil)) (gN 2)
    (cSeq (cSetO 3 (cComp [4] (cRng1 (cCons (cCall 1 m_many_in (cCons (cV 0) cNil)) cNil)) (gN 4) cYes (c2 gSub (cC (.int 0)) (cCall 3 m_between (cCons (cV 0) (cCons (cV 2) (cCons (cV 4) cNil)))))))
    (cSeq (cAsg (cCall 2 m_breadth (cCons (cV 0) (cCons (cV 2) cNil))) (gS 3 (cV 2)))
    (cExpr (cApp 1 (cR 3))))))
    (cRetF (cM 1))))
def m_matrix_of : Av := runF 5 b_matrix_of
theorem C_matrix_of (T : Top P KK mg) : CalD P w KK mg base 3 "matrix_of" st_matrix_of ["web"] (spF KK 1 m_matrix_of) := by
  obtain ⟨f, fd, F, hm, hb⟩ := T.d_matrix_of.ex
  exact .mk F hm hb (okF F sc_matrix_of fun cdv A outer s H E hr hgd => (show SsD _ _ _ _ b_matrix_of from
    (ss_cons (sd_setO 1 sc_matrix_of.nd (fd_lst ad_nil))
    (ss_cons (sd_for (id_rng1 T.B.range (ad_cons (pd_calC (C_many_in T) (hr.mono (by decide)) hgd (takes_of rfl rfl rfl rfl) (ad_cons (pd_v 0) ad_nil)) ad_nil)) (gd_name 2 sc_matrix_of.nd)
    (ss_cons (sd_setLcO 3 [("other", 4)] sc_matrix_of.nd (id_rng1 T.B.range (ad_cons (pd_calC (C_many_in T) (hr.mono (by decide)) hgd (takes_of rfl rfl rfl rfl) (ad_cons (pd_v 0) ad_nil)) ad_nil)) (fun _ _ _ _ _ => (gd_name 4 sc_matrix_of.nd)) (fun _ _ _ _ _ => fs_nil) (fun _ _ _ _ _ => (pd_sub pd_int (pd_calC (C_between T) (hr.mono (by decide)) hgd takes_F (ad_cons (pd_v 0) (ad_cons (pd_v 2) (ad_cons (pd_v 4) ad_nil)))))) (by kernel_rfl) rfl)
    (ss_cons (sd_asg (pd_calC (C_breadth T) (hr.mono (by decide)) hgd (takes_of rfl rfl rfl rfl) (ad_cons (pd_v 0) (ad_cons (pd_v 2) ad_nil))) (gd_sub (W := wF) 3 (pd_v 2)))
    (ss_one (sd_expr (pd_append 1 (pd_r 3)))))) (passes_of rfl))
    (ss_one (sd_retF (fd_move 1)))))))
/-! ## levels_by -/
abbrev N_levels_by : List Str := ["web", "row", "end", "others", "point", "table", "rows", "there", "here", "told", "found", "level"]
theorem sc_levels_by : FnScope N_levels_by ["web", "row", "end"] (defScope st_levels_by) := ⟨rfl, rfl, rfl, by decide +kernel, rfl, by decide +kernel, by decide +kernel⟩
def b_levels_by : Sv :=
    (cSeq (cAsg (cL (cComp [4] (cRng1 (cCons (cCall 1 m_many_in (cCons (cV 0) cNil)) cNil)) (gN 4) (tOf (c2 gNe (cV 4) (cV 2))) (cV 4))) (gN 3))
    (cSeq (cAsg (cL (cCallF 1 m_matrix_of (cCons (cV 0) cNil))) (gN 5))
    (cSeq (cAsg (cL (cComp [8] (cW (cV 3)) (gN 8) cYes (cL (cComp [7] (cW (cV 3)) (gN 7) cYes (cTup (cCons (c2 gIx (c2 gIx (cV 5) (cV 8)) (cV 7)) (cCons (cC (.int 1)) cNil))))))) (gN 6))
    (cSeq (cAsg (cCall 3 m_solved (cCons (cV 6) (cCons (cL (cComp [4] (cW (cV 3)) (gN 4) cYes (c2 gIx (cV 1) (cV 4)))) (cCons (c1 gLen (cV 3)) cNil)))) (gN 9))
    (cSeq (cSetO 10 (cRep (cL (cLst (cCons (cC (.tup [.int 0, .int 1])) cNil))) (cCall 1 m_many_in (cCons (cV 0) cNil))))
    (cSeq (cFor (cZipS (cCons (cV 3) (cCons (cV 9) cNil))) (gT 2 (gConsD (gN 4) (gConsD (gN 11) gNilD)))
    (cAsg (cV 11) (gS 10 (cV 4))))
    (cRetF (cM 10))))))))
def m_levels_by : Av := runF 12 b_levels_by
theorem C_levels_by (T : Top P KK mg) : CalD P w KK mg base 7 "levels_by" st_levels_by ["web", "row", "end"] (spF KK 3 m_levels_by) := by
  obtain ⟨f, fd, F, hm, hb⟩ := T.d_levels_by.ex
  exact .mk F hm hb (okF F sc_levels_by fun cdv A outer s H E hr hgd => (show SsD _ _ _ _ b_levels_by from
    (ss_cons (sd_set 3 sc_levels_by.nd ((fd_comp [("point", 4)] sc_levels_by.nd (id_rng1 T.B.range (ad_cons (pd_calC (C_many_in T) (hr.mono (by decide)) hgd (takes_of rfl rfl rfl rfl) (ad_cons (pd_v 0) ad_nil)) ad_nil)) (fun _ _ _ _ _ => (gd_name 4 sc_levels_by.nd)) (fun _ _ _ _ _ => (fs_one (td_cmp (cm_ne hr.units) ((pd_v 4)).p ((pd_v 2)).p pu_v rfl))) (fun _ _ _ _ _ => (pd_v 4)) (by kernel_rfl))).d)
    (ss_cons (sd_set 5 sc_levels_by.nd ((fd_calC (C_matrix_of T) (hr.mono (by decide)) hgd (takes_of rfl rfl rfl rfl) (ad_cons (pd_v 0) ad_nil))).d)
    (ss_cons (sd_setLc 6 [("here", 8)] sc_levels_by.nd (id_seq (pd_v 3)) (fun _ _ _ _ _ => (gd_name 8 sc_levels_by.nd)) (fun _ _ _ _ _ => fs_nil) (fun _ _ _ _ _ => ((fd_comp [("there", 7)] sc_levels_by.nd (id_seq (pd_v 3)) (fun _ _ _ _ _ => (gd_name 7 sc_levels_by.nd)) (fun _ _ _ _ _ => fs_nil) (fun _ _ _ _ _ => (pd_tup (ad_cons (pd_ix ((pd_ix ((pd_v 5)).p (pd_v 8) pu_v)).p (pd_v 7) pu_v) (ad_cons pd_int ad_nil)))) (by kernel_rfl))).d) (by kernel_rfl) rfl)
    (ss_cons (sd_set 9 sc_levels_by.nd (pd_calC (C_solved T) (hr.mono (by decide)) hgd (takes_of rfl rfl rfl rfl) (ad_cons (pd_v 6) (ad_cons ((fd_comp [("point", 4)] sc_levels_by.nd (id_seq (pd_v 3)) (fun _ _ _ _ _ => (gd_name 4 sc_levels_by.nd)) (fun _ _ _ _ _ => fs_nil) (fun _ _ _ _ _ => (pd_ix ((pd_v 1)).p (pd_v 4) pu_v)) (by kernel_rfl))).d (ad_cons (pd_len T.B.len ((pd_v 3)).p) ad_nil)))))
    (ss_cons (sd_setO 10 sc_levels_by.nd (fd_rep ((fd_lst (ad_cons (pd_glD T.g_NOUGHT_flows) ad_nil))).d (pd_calC (C_many_in T) (hr.mono (by decide)) hgd (takes_of rfl rfl rfl rfl) (ad_cons (pd_v 0) ad_nil))))
    (ss_cons (sd_for (id_zipS T.B.zip (ad_cons (pd_v 3) (ad_cons (pd_v 9) ad_nil))) (gd_tup (gs_cons (gd_name 4 sc_levels_by.nd) (gs_cons (gd_name 11 sc_levels_by.nd) gs_nil)))
    (ss_one (sd_asg (pd_v 11) (gd_sub (W := wF) 10 (pd_v 4)))) (passes_of rfl))
    (ss_one (sd_retF (fd_move 10)))))))))))
/-! ## unit_row -/
abbrev N_unit_row : List Str := ["web", "one", "other", "point"]
theorem sc_unit_row : FnScope N_unit_row ["web", "one", "other"] (defScope st_unit_row) := ⟨rfl, rfl, rfl, by decide +kernel, rfl, by decide +kernel, by decide +kernel⟩
def b_unit_row : Sv :=
    (cRetF (cComp [3] (cRng1 (cCons (cCall 1 m_many_in (cCons (cV 0) cNil)) cNil)) (gN 3) cYes (cTup (cCons (c2 gSub (cC1 gInt (cCons (c2 gEq (cV 3) (cV 1)) cNil)) (cC1 gInt (cCons (c2 gEq (cV 3) (cV 2)) cNil))) (cCons (cC (.int 1)) cNil)))))
def m_unit_row : Av := runF 4 b_unit_row
theorem C_unit_row (T : Top P KK mg) : CalD P w KK mg base 2 "unit_row" st_unit_row ["web", "one", "other"] (spF KK 3 m_unit_row) := by
  obtain ⟨f, fd, F, hm, hb⟩ := T.d_unit_row.ex
  exact .mk F hm hb (okF F sc_unit_row fun cdv A outer s H E hr hgd => (show SsD _ _ _ _ b_unit_row from
    (ss_one (sd_retF (fd_comp [("point", 3)] sc_unit_row.nd (id_rng1 T.B.range (ad_cons (pd_calC (C_many_in T) (hr.mono (by decide)) hgd (takes_of rfl rfl rfl rfl) (ad_cons (pd_v 0) ad_nil)) ad_nil)) (fun _ _ _ _ _ => (gd_name 3 sc_unit_row.nd)) (fun _ _ _ _ _ => fs_nil) (fun _ _ _ _ _ => (pd_tup (ad_cons (pd_sub (pd_toInt T.B.int (ad_cons (pd_cmp (cm_eq hr.units) ((pd_v 3)).p ((pd_v 1)).p pu_v rfl) ad_nil)) (pd_toInt T.B.int (ad_cons (pd_cmp (cm_eq hr.units) ((pd_v 3)).p ((pd_v 2)).p pu_v rfl) ad_nil))) (ad_cons pd_int ad_nil)))) (by kernel_rfl))))))
/-! ## between_levels -/
abbrev N_between_levels : List Str := ["web", "one", "other"]
theorem sc_between_levels : FnScope N_between_levels ["web", "one", "other"] (defScope st_between_levels) := ⟨rfl, rfl, rfl, by decide +kernel, rfl, by decide +kernel, by decide +kernel⟩
def b_between_levels : Sv :=
    (cRetF (cCallF 3 m_levels_by (cCons (cV 0) (cCons (cL (cCallF 3 m_unit_row (cCons (cV 0) (cCons (cV 1) (cCons (cV 2) cNil))))) (cCons (cV 2) cNil)))))
def m_between_levels : Av := runF 3 b_between_levels
theorem C_between_levels (T : Top P KK mg) : CalD P w KK mg base 8 "between_levels" st_between_levels ["web", "one", "other"] (spF KK 3 m_between_levels) := by
  obtain ⟨f, fd, F, hm, hb⟩ := T.d_between_levels.ex
  exact .mk F hm hb (okF F sc_between_levels fun cdv A outer s H E hr hgd => (show SsD _ _ _ _ b_between_levels from
    (ss_one (sd_retF (fd_calC (C_levels_by T) (hr.mono (by decide)) hgd (takes_of rfl rfl rfl rfl) (ad_cons (pd_v 0) (ad_cons ((fd_calC (C_unit_row T) (hr.mono (by decide)) hgd (takes_of rfl rfl rfl rfl) (ad_cons (pd_v 0) (ad_cons (pd_v 1) (ad_cons (pd_v 2) ad_nil))))).d (ad_cons (pd_v 2) ad_nil))))))))
/-! ## between_by -/
abbrev N_between_by : List Str := ["web", "one", "other"]
theorem sc_between_by : FnScope N_between_by ["web", "one", "other"] (defScope st_between_by) := ⟨rfl, rfl, rfl, by decide +kernel, rfl, by decide +kernel, by decide +kernel⟩
def b_between_by : Sv :=
    (cRet (cIf (tOf (c2 gEq (cV 1) (cV 2))) (cC (.tup [.int 0, .int 1])) (c2 gIx (cL (cCallF 3 m_between_levels (cCons (cV 0) (cCons (cV 1) (cCons (cV 2) cNil))))) (cV 1))))
def m_between_by : Ev := runD 3 b_between_by
theorem C_between_by (T : Top P KK mg) : CalD P w KK mg base 9 "between_by" st_between_by ["web", "one", "other"] (spD KK 3 m_between_by) := by
  obtain ⟨f, fd, F, hm, hb⟩ := T.d_between_by.ex
  exact .mk F hm hb (okD F sc_between_by fun cdv A outer s H E hr hgd => (show SsD _ _ _ _ b_between_by from
    (ss_one (sd_ret (pd_if (td_cmp (cm_eq hr.units) ((pd_v 1)).p ((pd_v 2)).p pu_v rfl) (pd_glD T.g_NOUGHT_flows) (pd_ix (((fd_calC (C_between_levels T) (hr.mono (by decide)) hgd (takes_of rfl rfl rfl rfl) (ad_cons (pd_v 0) (ad_cons (pd_v 1) (ad_cons (pd_v 2) ad_nil))))).d).p (pd_v 1) pu_v))))))
/-! ## stands_between -/
abbrev N_stands_between : List Str := ["web", "one", "other"]
theorem sc_stands_between : FnScope N_stands_between ["web", "one", "other"] (defScope st_stands_between) := ⟨rfl, rfl, rfl, by decide +kernel, rfl, by decide +kernel, by decide +kernel⟩
def b_stands_between : Sv :=
    (cSeq (cExpr (cCall 1 m_check_web (cCons (cV 0) cNil)))
    (cSeq (cExpr (cCall 2 m_check_point (cCons (cV 0) (cCons (cV 1) cNil))))
    (cSeq (cExpr (cCall 2 m_check_point (cCons (cV 0) (cCons (cV 2) cNil))))
    (cRet (cCall 3 m_between_by (cCons (cV 0) (cCons (cV 1) (cCons (cV 2) cNil))))))))
def m_stands_between : Ev := runD 3 b_stands_between
theorem C_stands_between (T : Top P KK mg) : CalD P w KK mg base 10 "stands_between" st_stands_between ["web", "one", "other"] (spD KK 3 m_stands_between) := by
  obtain ⟨f, fd, F, hm, hb⟩ := T.d_stands_between.ex
  exact .mk F hm hb (okD F sc_stands_between fun cdv A outer s H E hr hgd => (show SsD _ _ _ _ b_stands_between from
    (ss_cons (sd_expr (pd_calC (C_check_web T) (hr.mono (by decide)) hgd (takes_of rfl rfl rfl rfl) (ad_cons (pd_v 0) ad_nil)))
    (ss_cons (sd_expr (pd_calC (C_check_point T) (hr.mono (by decide)) hgd (takes_of rfl rfl rfl rfl) (ad_cons (pd_v 0) (ad_cons (pd_v 1) ad_nil))))
    (ss_cons (sd_expr (pd_calC (C_check_point T) (hr.mono (by decide)) hgd (takes_of rfl rfl rfl rfl) (ad_cons (pd_v 0) (ad_cons (pd_v 2) ad_nil))))
    (ss_one (sd_ret (pd_calC (C_between_by T) (hr.mono (by decide)) hgd (takes_of rfl rfl rfl rfl) (ad_cons (pd_v 0) (ad_cons (pd_v 1) (ad_cons (pd_v 2) ad_nil)))))))))))
/-! ## single_ties -/
abbrev N_single_ties : List Str := ["web", "low", "high", "number", "_"]
theorem sc_single_ties : FnScope N_single_ties ["web"] (defScope st_single_ties) := ⟨rfl, rfl, rfl, by decide +kernel, rfl, by decide +kernel, by decide +kernel⟩
def b_single_ties : Sv :=
    (cRetF (cComp2 [1, 2, 3, 4] [4] (cW (cCall 1 m_ties_in (cCons (cV 0) cNil))) (gT 3 (gConsD (gN 1) (gConsD (gN 2) (gConsD (gN 3) gNilD)))) cYes (cRng1 (cCons (cV 3) cNil)) (gN 4) cYes (cTup (cCons (cV 1) (cCons (cV 2) cNil)))))
def m_single_ties : Av := runF 5 b_single_ties
theorem C_single_ties (T : Top P KK mg) : CalD P w KK mg base 2 "single_ties" st_single_ties ["web"] (spF KK 1 m_single_ties) := by
  obtain ⟨f, fd, F, hm, hb⟩ := T.d_single_ties.ex
  exact .mk F hm hb (okF F sc_single_ties fun cdv A outer s H E hr hgd => (show SsD _ _ _ _ b_single_ties from
    (ss_one (sd_retF (fd_comp2 [("low", 1), ("high", 2), ("number", 3), ("_", 4)] [4] sc_single_ties.nd (id_seq (pd_calC (C_ties_in T) (hr.mono (by decide)) hgd (takes_of rfl rfl rfl rfl) (ad_cons (pd_v 0) ad_nil))) (fun _ _ _ _ _ => (gd_tup (gs_cons (gd_name 1 sc_single_ties.nd) (gs_cons (gd_name 2 sc_single_ties.nd) (gs_cons (gd_name 3 sc_single_ties.nd) gs_nil))))) (fun _ _ _ _ _ => fs_nil) (fun _ _ _ _ _ => (jd_rng1 (W := wF) T.B.range (ad_cons (pd_v 3) ad_nil))) (fun _ _ _ _ _ => (gd_name 4 sc_single_ties.nd)) (fun _ _ _ _ _ => fs_nil) (fun _ _ _ _ _ => (pd_tup (ad_cons (pd_v 1) (ad_cons (pd_v 2) ad_nil)))) (by kernel_rfl))))))
/-! ## check_tie -/
abbrev N_check_tie : List Str := ["web", "number"]
theorem sc_check_tie : FnScope N_check_tie ["web", "number"] (defScope st_check_tie) := ⟨rfl, rfl, rfl, by decide +kernel, rfl, by decide +kernel, by decide +kernel⟩
def b_check_tie : Sv :=
    (cIfS (cOr (cNot (tOf (cCall 1 m_is_whole (cCons (cV 1) cNil)))) (cNot (tOf (cCh (cC (.int 0)) (chK gLe (cV 1) (chL gLt (c1 gLen (cL (cCallF 1 m_single_ties (cCons (cV 0) cNil))))))))))
    (cRaise 2 (cV 1))
    cSkip)
def m_check_tie : Ev := runD 2 b_check_tie
theorem C_check_tie (T : Top P KK mg) : CalD P w KK mg base 3 "check_tie" st_check_tie ["web", "number"] (spD KK 2 m_check_tie) := by
  obtain ⟨f, fd, F, hm, hb⟩ := T.d_check_tie.ex
  obtain ⟨D, fI, eD, eC_InvalidWeb, eC_InvalidPoint, eC_InvalidNumber⟩ := T.e
  exact .mk F hm hb (okD F sc_check_tie fun cdv A outer s H E hr hgd => (show SsD _ _ _ _ b_check_tie from
    (ss_one (sd_if ((wd_or (td_not (td_val (pd_calC (C_is_whole T) (hr.mono (by decide)) hgd (takes_of rfl rfl rfl rfl) (ad_cons (pd_v 1) ad_nil)))) (wd_or1 (td_not (td_ch pd_int (ch_link cm_le (pd_v 1) (ch_last (cm_lt hr.units) (pd_len T.B.len (((fd_calC (C_single_ties T) (hr.mono (by decide)) hgd (takes_of rfl rfl rfl rfl) (ad_cons (pd_v 0) ad_nil))).d).p)))))))).t
    (ss_one (sd_raise 2 rfl eD eC_InvalidNumber T.B.super hr (takes_of rfl rfl rfl rfl) (pd_v 1)))
    ss_nil))))
/-! ## tie_share -/
abbrev N_tie_share : List Str := ["web", "first", "low", "high"]
theorem sc_tie_share : FnScope N_tie_share ["web", "first"] (defScope st_tie_share) := ⟨rfl, rfl, rfl, by decide +kernel, rfl, by decide +kernel, by decide +kernel⟩
def b_tie_share : Sv :=
    (cSeq (cExpr (cCall 1 m_check_web (cCons (cV 0) cNil)))
    (cSeq (cExpr (cCall 2 m_check_tie (cCons (cV 0) (cCons (cV 1) cNil))))
    (cSeq (cAsg (c2 gIx (cL (cCallF 1 m_single_ties (cCons (cV 0) cNil))) (cV 1)) (gT 2 (gConsD (gN 2) (gConsD (gN 3) gNilD))))
    (cRet (cCall 3 m_between_by (cCons (cV 0) (cCons (cV 2) (cCons (cV 3) cNil))))))))
def m_tie_share : Ev := runD 4 b_tie_share
theorem C_tie_share (T : Top P KK mg) : CalD P w KK mg base 10 "tie_share" st_tie_share ["web", "first"] (spD KK 2 m_tie_share) := by
  obtain ⟨f, fd, F, hm, hb⟩ := T.d_tie_share.ex
  exact .mk F hm hb (okD F sc_tie_share fun cdv A outer s H E hr hgd => (show SsD _ _ _ _ b_tie_share from
    (ss_cons (sd_expr (pd_calC (C_check_web T) (hr.mono (by decide)) hgd (takes_of rfl rfl rfl rfl) (ad_cons (pd_v 0) ad_nil)))
    (ss_cons (sd_expr (pd_calC (C_check_tie T) (hr.mono (by decide)) hgd (takes_of rfl rfl rfl rfl) (ad_cons (pd_v 0) (ad_cons (pd_v 1) ad_nil))))
    (ss_cons (sd_asg (pd_ix (((fd_calC (C_single_ties T) (hr.mono (by decide)) hgd (takes_of rfl rfl rfl rfl) (ad_cons (pd_v 0) ad_nil))).d).p (pd_v 1) pu_v) (gd_tup (gs_cons (gd_name 2 sc_tie_share.nd) (gs_cons (gd_name 3 sc_tie_share.nd) gs_nil))))
    (ss_one (sd_ret (pd_calC (C_between_by T) (hr.mono (by decide)) hgd (takes_of rfl rfl rfl rfl) (ad_cons (pd_v 0) (ad_cons (pd_v 2) (ad_cons (pd_v 3) ad_nil)))))))))))
/-! ## _law_cell -/
abbrev N_law_cell : List Str := ["script", "index"]
theorem sc_law_cell : FnScope N_law_cell ["script", "index"] (defScope st_law_cell) := ⟨rfl, rfl, rfl, by decide +kernel, rfl, by decide +kernel, by decide +kernel⟩
def b_law_cell : Sv :=
    (cSeq (cIfS (tOf (c2 gLt (cV 1) (c1 gLen (cV 0))))
    (cRet (c2 gIx (cV 0) (cV 1)))
    cSkip)
    (cRet (c2 gMod (c1 gSum (cSl (cV 0) cNo (cSome (cC (.int 1))))) (cC (.int 1000003)))))
def m_law_cell : Ev := runD 2 b_law_cell
theorem C_law_cell (T : Top P KK mg) : CalD P w KK mg base 1 "_law_cell" st_law_cell ["script", "index"] (spD KK 2 m_law_cell) := by
  obtain ⟨f, fd, F, hm, hb⟩ := T.d_law_cell.ex
  exact .mk F hm hb (okD F sc_law_cell fun cdv A outer s H E hr hgd => (show SsD _ _ _ _ b_law_cell from
    (ss_cons (sd_if (td_cmp (cm_lt hr.units) ((pd_v 1)).p ((pd_len T.B.len ((pd_v 0)).p)).p (pu_1 pu_v) rfl)
    (ss_one (sd_ret (pd_ix ((pd_v 0)).p (pd_v 1) pu_v)))
    ss_nil)
    (ss_one (sd_ret (pd_mod (pd_sum T.B.sum ((pd_sl ((pd_v 0)).p od_none (od_some pd_int pu_c))).p) pd_int))))))
/-! ## _law_generator -/
abbrev N_law_generator : List Str := ["script", "index", "seed"]
theorem sc_law_generator : FnScope N_law_generator ["script", "index"] (defScope st_law_generator) := ⟨rfl, rfl, rfl, by decide +kernel, rfl, by decide +kernel, by decide +kernel⟩
def b_law_generator : Sv :=
    (cSeq (cAsg (cCall 2 m_law_cell (cCons (cV 0) (cCons (cV 1) cNil))) (gN 2))
    (cRetF (cLst (cCons (c2 gMod (cC1 gInt (cCons (cC1 gMax (cCons (c2 gSub (cV 2) (c2 gPow (cC (.int 10)) (cC (.int 18)))) (cCons (cC (.int 0)) cNil))) cNil)) (c2 gPow (c2 gPow (cC (.int 10)) (cC (.int 60))) (cC (.int 10)))) (cCons (c2 gMod (cC1 gInt (cCons (cV 2) cNil)) (cC (.int 2147483647))) (cCons (c2 gMul (cC (.int 1000)) (cV 1)) cNil))))))
def m_law_generator : Av := runF 3 b_law_generator
theorem C_law_generator (T : Top P KK mg) : CalD P w KK mg base 2 "_law_generator" st_law_generator ["script", "index"] (spF KK 2 m_law_generator) := by
  obtain ⟨f, fd, F, hm, hb⟩ := T.d_law_generator.ex
  exact .mk F hm hb (okF F sc_law_generator fun cdv A outer s H E hr hgd => (show SsD _ _ _ _ b_law_generator from
    (ss_cons (sd_set 2 sc_law_generator.nd (pd_calC (C_law_cell T) (hr.mono (by decide)) hgd (takes_of rfl rfl rfl rfl) (ad_cons (pd_v 0) (ad_cons (pd_v 1) ad_nil))))
    (ss_one (sd_retF (fd_lst (ad_cons (pd_mod (pd_toInt T.B.int (ad_cons (pd_max T.B.max (ad_cons (pd_sub (pd_v 2) (pd_pow pd_int pd_int)) (ad_cons pd_int ad_nil))) ad_nil)) (pd_pow (pd_pow pd_int pd_int) pd_int)) (ad_cons (pd_mod (pd_toInt T.B.int (ad_cons (pd_v 2) ad_nil)) pd_int) (ad_cons (pd_mul pd_int (pd_v 1)) ad_nil)))))))))
/-! ## _law_exact -/
abbrev N_law_exact : List Str := ["due", "told", "at"]
theorem sc_law_exact : FnScope N_law_exact ["due", "told"] (defScope st_law_exact) := ⟨rfl, rfl, rfl, by decide +kernel, rfl, by decide +kernel, by decide +kernel⟩
def b_law_exact (rec : Ev) : Sv :=
    (cSeq (cIfS (tOf (c1 (isaD2 "list" "tuple") (cV 0)))
    (cSeq (cIfS (cOr (tOf (c2 gNe (c1 (isaD "list") (cV 0)) (c1 (isaD "list") (cV 1)))) (tOf (c2 gNe (c1 (isaD "tuple") (cV 0)) (c1 (isaD "tuple") (cV 1)))))
    (cRet (cC (.bl false)))
    cSkip)
    (cRet (cAndV (c2 gEq (c1 gLen (cV 1)) (c1 gLen (cV 0))) (c2 gEq (cL (cComp [2] (cRng1 (cCons (c1 gLen (cV 0)) cNil)) (gN 2) (cNot (tOf (cCall 2 rec (cCons (c2 gIx (cV 0) (cV 2)) (cCons (c2 gIx (cV 1) (cV 2)) cNil))))) (cV 2))) (cL (cLst cNil))))))
    cSkip)
    (cSeq (cIfS (cOr (tOf (c2 (gIsN false) (cV 0) (cC .non))) (tOf (c1 (isaD "bool") (cV 0))))
    (cRet (cOrV (cAndV (c2 (gIsN false) (cV 0) (cC .non)) (c2 (gIsN false) (cV 1) (cC .non))) (cOrV (cAndV (c2 gIsB (cV 0) (cC (.bl true))) (c2 gIsB (cV 1) (cC (.bl true)))) (cAndV (c2 gIsB (cV 0) (cC (.bl false))) (c2 gIsB (cV 1) (cC (.bl false)))))))
    cSkip)
    (cSeq (cIfS (tOf (c1 (isaD "str") (cV 0)))
    (cRet (cAndV (c1 (isaD "str") (cV 1)) (c2 gEq (cV 1) (cV 0))))
    cSkip)
    (cRet (cAndV (c1 (isaD "int") (cV 1)) (cAndV (cNotV (c1 (isaD "bool") (cV 1))) (c2 gEq (cV 1) (cV 0))))))))
def m_law_exact : Nat → Ev
  | 0 => fun _ => .bad
  | n + 1 => runD 3 (b_law_exact (m_law_exact n))
theorem C_law_exact_n (T : Top P KK mg) : ∀ n, CalD P w KK mg base (0 + n) "_law_exact" st_law_exact ["due", "told"] (spD KK 2 (m_law_exact n))
  | 0 => by
    obtain ⟨f, fd, F, hm, hb⟩ := T.d_law_exact.ex
    exact .mk F hm hb (fnG_bad)
  | n + 1 => by
    have Crec := C_law_exact_n T n
    have hlv : ∀ {A : Around}, Room (0 + n) A → Room 0 A := fun h => h.mono (by omega)
    obtain ⟨f, fd, F, hm, hb⟩ := T.d_law_exact.ex
    exact .mk F hm hb (okD F sc_law_exact fun cdv A outer s H E hr hgd => (show SsD _ _ _ _ (b_law_exact (m_law_exact n)) from
    (ss_cons (sd_if (td_val (pd_isa2 "list" "tuple" T.B.isinstance T.B.list T.B.tuple ((pd_v 0)).p))
    (ss_cons (sd_if ((wd_or (td_cmp (cm_ne hr.units) ((pd_isa "list" T.B.isinstance T.B.list ((pd_v 0)).p)).p ((pd_isa "list" T.B.isinstance T.B.list ((pd_v 1)).p)).p (pu_1 pu_v) rfl) (wd_or1 (td_cmp (cm_ne hr.units) ((pd_isa "tuple" T.B.isinstance T.B.tuple ((pd_v 0)).p)).p ((pd_isa "tuple" T.B.isinstance T.B.tuple ((pd_v 1)).p)).p (pu_1 pu_v) rfl)))).t
    (ss_one (sd_ret pd_bl))
    ss_nil)
    (ss_one (sd_ret (pd_and (pd_cmp (cm_eq hr.units) ((pd_len T.B.len ((pd_v 1)).p)).p ((pd_len T.B.len ((pd_v 0)).p)).p (pu_1 pu_v) rfl) (pd_one (pd_cmp (cm_eq hr.units) (((fd_comp [("at", 2)] sc_law_exact.nd (id_rng1 T.B.range (ad_cons (pd_len T.B.len ((pd_v 0)).p) ad_nil)) (fun _ _ _ _ _ => (gd_name 2 sc_law_exact.nd)) (fun _ _ _ _ _ => (fs_one (td_not (td_val (pd_calC (Crec) (hr.mono (by first | exact Nat.le_refl _ | exact Nat.le_trans (by decide) (Nat.le_add_right _ _))) hgd takes_F (ad_cons (pd_ix ((pd_v 0)).p (pd_v 2) pu_v) (ad_cons (pd_ix ((pd_v 1)).p (pd_v 2) pu_v) ad_nil))))))) (fun _ _ _ _ _ => (pd_v 2)) (by kernel_rfl))).d).p (((fd_lst ad_nil)).d).p (pu_L (pu_lst pu_nil)) rfl))))))
    ss_nil)
    (ss_cons (sd_if ((wd_or (td_cmp cm_isN ((pd_v 0)).p (pd_non).p pu_c rfl) (wd_or1 (td_val (pd_isa "bool" T.B.isinstance T.B.bool ((pd_v 0)).p))))).t
    (ss_one (sd_ret (pd_or (pd_and (pd_cmp cm_isN ((pd_v 0)).p (pd_non).p pu_c rfl) (pd_one (pd_cmp cm_isN ((pd_v 1)).p (pd_non).p pu_c rfl))) (pd_or (pd_and (pd_cmp cm_isB ((pd_v 0)).p (pd_bl).p pu_c rfl) (pd_one (pd_cmp cm_isB ((pd_v 1)).p (pd_bl).p pu_c rfl))) (pd_one (pd_and (pd_cmp cm_isB ((pd_v 0)).p (pd_bl).p pu_c rfl) (pd_one (pd_cmp cm_isB ((pd_v 1)).p (pd_bl).p pu_c rfl))))))))
    ss_nil)
    (ss_cons (sd_if (td_val (pd_isa "str" T.B.isinstance T.B.str ((pd_v 0)).p))
    (ss_one (sd_ret (pd_and (pd_isa "str" T.B.isinstance T.B.str ((pd_v 1)).p) (pd_one (pd_cmp (cm_eq hr.units) ((pd_v 1)).p ((pd_v 0)).p pu_v rfl)))))
    ss_nil)
    (ss_one (sd_ret (pd_and (pd_isa "int" T.B.isinstance T.B.int ((pd_v 1)).p) (pd_and (pd_not (pd_isa "bool" T.B.isinstance T.B.bool ((pd_v 1)).p)) (pd_one (pd_cmp (cm_eq hr.units) ((pd_v 1)).p ((pd_v 0)).p pu_v rfl)))))))))))
theorem C_law_exact (T : Top P KK mg) : CalD P w KK mg base 8 "_law_exact" st_law_exact ["due", "told"] (spD KK 2 (m_law_exact 8)) := C_law_exact_n T 8
/-! ## _law_hang -/
abbrev N_law_hang : List Str := ["many", "pairs", "found", "turn", "one", "other"]
theorem sc_law_hang : FnScope N_law_hang ["many", "pairs"] (defScope st_law_hang) := ⟨rfl, rfl, rfl, by decide +kernel, rfl, by decide +kernel, by decide +kernel⟩
def b_law_hang : Sv :=
    (cSeq (cAsg (cL (cLst (cCons (cC (.int 0)) cNil))) (gN 2))
    (cSeq (cFor (cRng1 (cCons (cV 0) cNil)) (gN 3)
    (cFor (cW (cV 1)) (gT 2 (gConsD (gN 4) (gConsD (gN 5) gNilD)))
    (cSeq (cAsg (c2 gAdd (cV 2) (c2 gMul (cL (cLst (cCons (cV 5) cNil))) (cC1 gInt (cCons (cAndV (c2 (gIn false) (cV 4) (cV 2)) (c2 (gIn true) (cV 5) (cV 2))) cNil)))) (gN 2))
    (cAsg (c2 gAdd (cV 2) (c2 gMul (cL (cLst (cCons (cV 4) cNil))) (cC1 gInt (cCons (cAndV (c2 (gIn false) (cV 5) (cV 2)) (c2 (gIn true) (cV 4) (cV 2))) cNil)))) (gN 2)))))
    (cRet (c2 gEq (c1 gLen (cV 2)) (cV 0)))))
def m_law_hang : Ev := runD 6 b_law_hang
theorem C_law_hang (T : Top P KK mg) : CalD P w KK mg base 1 "_law_hang" st_law_hang ["many", "pairs"] (spD KK 2 m_law_hang) := by
  obtain ⟨f, fd, F, hm, hb⟩ := T.d_law_hang.ex
  exact .mk F hm hb (okD F sc_law_hang fun cdv A outer s H E hr hgd => (show SsD _ _ _ _ b_law_hang from
    (ss_cons (sd_set 2 sc_law_hang.nd ((fd_lst (ad_cons pd_int ad_nil))).d)
    (ss_cons (sd_for (id_rng1 T.B.range (ad_cons (pd_v 0) ad_nil)) (gd_name 3 sc_law_hang.nd)
    (ss_one (sd_for (id_seq (pd_v 1)) (gd_tup (gs_cons (gd_name 4 sc_law_hang.nd) (gs_cons (gd_name 5 sc_law_hang.nd) gs_nil)))
    (ss_cons (sd_set 2 sc_law_hang.nd (pd_add (pd_v 2) (pd_mul ((fd_lst (ad_cons (pd_v 5) ad_nil))).d (pd_toInt T.B.int (ad_cons (pd_and (pd_cmp (cm_in hr.units) ((pd_v 4)).p ((pd_v 2)).p pu_v rfl) (pd_one (pd_cmp (cm_notIn hr.units) ((pd_v 5)).p ((pd_v 2)).p pu_v rfl))) ad_nil)))))
    (ss_one (sd_set 2 sc_law_hang.nd (pd_add (pd_v 2) (pd_mul ((fd_lst (ad_cons (pd_v 4) ad_nil))).d (pd_toInt T.B.int (ad_cons (pd_and (pd_cmp (cm_in hr.units) ((pd_v 5)).p ((pd_v 2)).p pu_v rfl) (pd_one (pd_cmp (cm_notIn hr.units) ((pd_v 4)).p ((pd_v 2)).p pu_v rfl))) ad_nil))))))) (passes_of rfl))) (passes_of rfl))
    (ss_one (sd_ret (pd_cmp (cm_eq hr.units) ((pd_len T.B.len ((pd_v 2)).p)).p ((pd_v 0)).p pu_v rfl)))))))
/-! ## _law_is_whole -/
abbrev N_law_is_whole : List Str := ["value"]
theorem sc_law_is_whole : FnScope N_law_is_whole ["value"] (defScope st_law_is_whole) := ⟨rfl, rfl, rfl, by decide +kernel, rfl, by decide +kernel, by decide +kernel⟩
def b_law_is_whole : Sv :=
    (cRet (cAndV (c1 (isaD "int") (cV 0)) (cNotV (c1 (isaD "bool") (cV 0)))))
def m_law_is_whole : Ev := runD 1 b_law_is_whole
theorem C_law_is_whole (T : Top P KK mg) : CalD P w KK mg base 1 "_law_is_whole" st_law_is_whole ["value"] (spD KK 1 m_law_is_whole) := by
  obtain ⟨f, fd, F, hm, hb⟩ := T.d_law_is_whole.ex
  exact .mk F hm hb (okD F sc_law_is_whole fun cdv A outer s H E hr hgd => (show SsD _ _ _ _ b_law_is_whole from
    (ss_one (sd_ret (pd_and (pd_isa "int" T.B.isinstance T.B.int ((pd_v 0)).p) (pd_one (pd_not (pd_isa "bool" T.B.isinstance T.B.bool ((pd_v 0)).p))))))))
/-! ## _law_is_web -/
abbrev N_law_is_web : List Str := ["value", "at", "tie", "one"]
theorem sc_law_is_web : FnScope N_law_is_web ["value"] (defScope st_law_is_web) := ⟨rfl, rfl, rfl, by decide +kernel, rfl, by decide +kernel, by decide +kernel⟩
def b_law_is_web : Sv :=
    (cSeq (cIfS (cOr (cNot (tOf (c1 (isaD "tuple") (cV 0)))) (cOr (tOf (c2 gNe (c1 gLen (cV 0)) (cC (.int 3)))) (cOr (cNot (tOf (c1 (isaD "str") (c2 gIx (cV 0) (cC (.int 0)))))) (cOr (tOf (c2 gNe (c2 gIx (cV 0) (cC (.int 0))) (cC (.str "web")))) (cOr (cNot (tOf (cCall 1 m_law_is_whole (cCons (c2 gIx (cV 0) (cC (.int 1))) cNil)))) (cNot (tOf (cCh (cC (.int 1)) (chK gLe (c2 gIx (cV 0) (cC (.int 1))) (chL gLe (cC (.int 7))))))))))))
    (cRet (cC (.bl false)))
    cSkip)
    (cSeq (cIfS (cNot (tOf (c1 (isaD "list") (c2 gIx (cV 0) (cC (.int 2))))))
    (cRet (cC (.bl false)))
    cSkip)
    (cSeq (cFor (cEnum (cCons (c2 gIx (cV 0) (cC (.int 2))) cNil)) (gT 2 (gConsD (gN 1) (gConsD (gN 2) gNilD)))
    (cSeq (cIfS (cOr (cNot (tOf (c1 (isaD "tuple") (cV 2)))) (cOr (tOf (c2 gNe (c1 gLen (cV 2)) (cC (.int 3)))) (tOf (c2 gNe (cL (cComp [3] (cW (cV 2)) (gN 3) (cNot (tOf (cCall 1 m_law_is_whole (cCons (cV 3) cNil)))) (cV 3))) (cL (cLst cNil))))))
    (cRet (cC (.bl false)))
    cSkip)
    (cIfS (cOr (cNot (tOf (cCh (cC (.int 0)) (chK gLe (c2 gIx (cV 2) (cC (.int 0))) (chK gLt (c2 gIx (cV 2) (cC (.int 1))) (chL gLt (c2 gIx (cV 0) (cC (.int 1))))))))) (cOr (cNot (tOf (cCh (cC (.int 1)) (chK gLe (c2 gIx (cV 2) (cC (.int 2))) (chL gLe (cC (.int 9))))))) (cAnd (tOf (c2 gGt (cV 1) (cC (.int 0)))) (tOf (c2 gGe (cSl (c2 gIx (c2 gIx (cV 0) (cC (.int 2))) (c2 gSub (cV 1) (cC (.int 1)))) cNo (cSome (cC (.int 2)))) (cSl (cV 2) cNo (cSome (cC (.int 2)))))))))
    (cRet (cC (.bl false)))
    cSkip)))
    (cRet (cCall 2 m_law_hang (cCons (c2 gIx (cV 0) (cC (.int 1))) (cCons (cL (cComp [2] (cW (c2 gIx (cV 0) (cC (.int 2)))) (gN 2) cYes (cSl (cV 2) cNo (cSome (cC (.int 2)))))) cNil)))))))
def m_law_is_web : Ev := runD 4 b_law_is_web
theorem C_law_is_web (T : Top P KK mg) : CalD P w KK mg base 2 "_law_is_web" st_law_is_web ["value"] (spD KK 1 m_law_is_web) := by
  obtain ⟨f, fd, F, hm, hb⟩ := T.d_law_is_web.ex
  exact .mk F hm hb (okD F sc_law_is_web fun cdv A outer s H E hr hgd => (show SsD _ _ _ _ b_law_is_web from
    (ss_cons (sd_if ((wd_or (td_not (td_val (pd_isa "tuple" T.B.isinstance T.B.tuple ((pd_v 0)).p))) (wd_or (td_cmp (cm_ne hr.units) ((pd_len T.B.len ((pd_v 0)).p)).p (pd_int).p pu_c rfl) (wd_or (td_not (td_val (pd_isa "str" T.B.isinstance T.B.str ((pd_ix ((pd_v 0)).p pd_int pu_c)).p))) (wd_or (td_cmp (cm_ne hr.units) ((pd_ix ((pd_v 0)).p pd_int pu_c)).p (pd_str).p pu_c rfl) (wd_or (td_not (td_val (pd_calC (C_law_is_whole T) (hr.mono (by decide)) hgd (takes_of rfl rfl rfl rfl) (ad_cons (pd_ix ((pd_v 0)).p pd_int pu_c) ad_nil)))) (wd_or1 (td_not (td_ch pd_int (ch_link cm_le (pd_ix ((pd_v 0)).p pd_int pu_c) (ch_last cm_le pd_int))))))))))).t
    (ss_one (sd_ret pd_bl))
    ss_nil)
    (ss_cons (sd_if (td_not (td_val (pd_isa "list" T.B.isinstance T.B.list ((pd_ix ((pd_v 0)).p pd_int pu_c)).p)))
    (ss_one (sd_ret pd_bl))
    ss_nil)
    (ss_cons (sd_for (id_enum T.B.enumerate (ad_cons (pd_ix ((pd_v 0)).p pd_int pu_c) ad_nil)) (gd_tup (gs_cons (gd_name 1 sc_law_is_web.nd) (gs_cons (gd_name 2 sc_law_is_web.nd) gs_nil)))
    (ss_cons (sd_if ((wd_or (td_not (td_val (pd_isa "tuple" T.B.isinstance T.B.tuple ((pd_v 2)).p))) (wd_or (td_cmp (cm_ne hr.units) ((pd_len T.B.len ((pd_v 2)).p)).p (pd_int).p pu_c rfl) (wd_or1 (td_cmp (cm_ne hr.units) (((fd_comp [("one", 3)] sc_law_is_web.nd (id_seq (pd_v 2)) (fun _ _ _ _ _ => (gd_name 3 sc_law_is_web.nd)) (fun _ _ _ _ _ => (fs_one (td_not (td_val (pd_calC (C_law_is_whole T) (hr.mono (by decide)) hgd takes_F (ad_cons (pd_v 3) ad_nil)))))) (fun _ _ _ _ _ => (pd_v 3)) (by kernel_rfl))).d).p (((fd_lst ad_nil)).d).p (pu_L (pu_lst pu_nil)) rfl))))).t
    (ss_one (sd_ret pd_bl))
    ss_nil)
    (ss_one (sd_if ((wd_or (td_not (td_ch pd_int (ch_link cm_le (pd_ix ((pd_v 2)).p pd_int pu_c) (ch_link (cm_lt hr.units) (pd_ix ((pd_v 2)).p pd_int pu_c) (ch_last (cm_lt hr.units) (pd_ix ((pd_v 0)).p pd_int pu_c)))))) (wd_or (td_not (td_ch pd_int (ch_link cm_le (pd_ix ((pd_v 2)).p pd_int pu_c) (ch_last cm_le pd_int)))) (wd_or1 ((wd_and (td_cmp cm_gt ((pd_v 1)).p (pd_int).p pu_c rfl) (wd_and1 (td_cmp (cm_ge hr.units) ((pd_sl ((pd_ix ((pd_ix ((pd_v 0)).p pd_int pu_c)).p (pd_sub (pd_v 1) pd_int) (pu_2 pu_v pu_c))).p od_none (od_some pd_int pu_c))).p ((pd_sl ((pd_v 2)).p od_none (od_some pd_int pu_c))).p (pu_sl pu_v) rfl)))).t)))).t
    (ss_one (sd_ret pd_bl))
    ss_nil))) (passes_of rfl))
    (ss_one (sd_ret (pd_calC (C_law_hang T) (hr.mono (by decide)) hgd (takes_of rfl rfl rfl rfl) (ad_cons (pd_ix ((pd_v 0)).p pd_int pu_c) (ad_cons ((fd_comp [("tie", 2)] sc_law_is_web.nd (id_seq (pd_ix ((pd_v 0)).p pd_int pu_c)) (fun _ _ _ _ _ => (gd_name 2 sc_law_is_web.nd)) (fun _ _ _ _ _ => fs_nil) (fun _ _ _ _ _ => (pd_sl ((pd_v 2)).p od_none (od_some pd_int pu_c))) (by kernel_rfl))).d ad_nil))))))))))
/-! ## _law_hash -/
abbrev N_law_hash : List Str := ["seed", "index", "mixed"]
theorem sc_law_hash : FnScope N_law_hash ["seed", "index"] (defScope st_law_hash) := ⟨rfl, rfl, rfl, by decide +kernel, rfl, by decide +kernel, by decide +kernel⟩
def b_law_hash : Sv :=
    (cSeq (cAsg (c2 gMod (cC1 gInt (cCons (c2 gAdd (c2 gAdd (c2 gAdd (c2 gMul (cV 0) (cC (.int 1220147))) (c2 gMul (c2 gMul (cC (.int 16777903)) (cV 1)) (cV 1))) (c2 gMul (cC (.int 223)) (cV 1))) (cC (.int 97))) cNil)) (cC (.int 2147483629))) (gN 2))
    (cSeq (cAsg (c2 gMod (cC1 gInt (cCons (c2 gAdd (c2 gAdd (c2 gMul (cV 2) (cV 2)) (c2 gMul (cC (.int 69019)) (cV 1))) (cC (.int 32416187))) cNil)) (cC (.int 2147483587))) (gN 2))
    (cRet (c2 gMod (cC1 gInt (cCons (c2 gMul (cV 2) (cC (.int 48271))) cNil)) (cC (.int 2147483647))))))
def m_law_hash : Ev := runD 3 b_law_hash
theorem C_law_hash (T : Top P KK mg) : CalD P w KK mg base 1 "_law_hash" st_law_hash ["seed", "index"] (spD KK 2 m_law_hash) := by
  obtain ⟨f, fd, F, hm, hb⟩ := T.d_law_hash.ex
  exact .mk F hm hb (okD F sc_law_hash fun cdv A outer s H E hr hgd => (show SsD _ _ _ _ b_law_hash from
    (ss_cons (sd_set 2 sc_law_hash.nd (pd_mod (pd_toInt T.B.int (ad_cons (pd_add (pd_add (pd_add (pd_mul (pd_v 0) pd_int) (pd_mul (pd_mul pd_int (pd_v 1)) (pd_v 1))) (pd_mul pd_int (pd_v 1))) pd_int) ad_nil)) pd_int))
    (ss_cons (sd_set 2 sc_law_hash.nd (pd_mod (pd_toInt T.B.int (ad_cons (pd_add (pd_add (pd_mul (pd_v 2) (pd_v 2)) (pd_mul pd_int (pd_v 1))) pd_int) ad_nil)) pd_int))
    (ss_one (sd_ret (pd_mod (pd_toInt T.B.int (ad_cons (pd_mul (pd_v 2) pd_int) ad_nil)) pd_int)))))))
/-! ## _law_random -/
abbrev N_law_random : List Str := ["generator", "bound", "drawn", "turn"]
theorem sc_law_random : FnScope N_law_random ["generator", "bound"] (defScope st_law_random) := ⟨rfl, rfl, rfl, by decide +kernel, rfl, by decide +kernel, by decide +kernel⟩
def b_law_random : Sv :=
    (cSeq (cIfS (tOf (c2 gGt (c2 gIx (cP 0) (cC (.int 0))) (cC (.int 0))))
    (cSeq (cAsg (c2 gMod (cC1 gInt (cCons (c2 gIx (cP 0) (cC (.int 0))) cNil)) (cV 1)) (gN 2))
    (cSeq (cAsg (c2 gDiv (c2 gIx (cP 0) (cC (.int 0))) (cV 1)) (gS 0 (cC (.int 0))))
    (cRet (cV 2))))
    cSkip)
    (cSeq (cAsg (cC (.int 0)) (gN 2))
    (cSeq (cFor (cRng1 (cCons (c2 gAdd (cC (.int 1)) (c2 gDiv (c1 gBits (cV 1)) (cC (.int 30)))) cNil)) (gN 3)
    (cSeq (cAsg (c2 gAdd (c2 gIx (cP 0) (cC (.int 2))) (cC (.int 1))) (gS 0 (cC (.int 2))))
    (cAsg (c2 gAdd (c2 gMul (cV 2) (cC (.int 2147483587))) (cCall 2 m_law_hash (cCons (c2 gIx (cP 0) (cC (.int 1))) (cCons (c2 gIx (cP 0) (cC (.int 2))) cNil)))) (gN 2))))
    (cRet (c2 gMod (cC1 gInt (cCons (cV 2) cNil)) (cV 1))))))
def m_law_random : Ev := runD 4 b_law_random
theorem C_law_random (T : Top P KK mg) : CalD P w KK mg base 2 "_law_random" st_law_random ["generator", "bound"] (spD KK 2 m_law_random) := by
  obtain ⟨f, fd, F, hm, hb⟩ := T.d_law_random.ex
  exact .mk F hm hb (okD F sc_law_random fun cdv A outer s H E hr hgd => (show SsD _ _ _ _ b_law_random from
    (ss_cons (sd_if (td_cmp cm_gt ((pd_ix (pd_p 0) pd_int pu_c)).p (pd_int).p pu_c rfl)
    (ss_cons (sd_set 2 sc_law_random.nd (pd_mod (pd_toInt T.B.int (ad_cons (pd_ix (pd_p 0) pd_int pu_c) ad_nil)) (pd_v 1)))
    (ss_cons (sd_asg (pd_div (pd_ix (pd_p 0) pd_int pu_c) (pd_v 1)) (gd_sub (W := wF) 0 pd_int))
    (ss_one (sd_ret (pd_v 2)))))
    ss_nil)
    (ss_cons (sd_set 2 sc_law_random.nd pd_int)
    (ss_cons (sd_for (id_rng1 T.B.range (ad_cons (pd_add pd_int (pd_div (pd_bits (pd_v 1)) pd_int)) ad_nil)) (gd_name 3 sc_law_random.nd)
    (ss_cons (sd_asg (pd_add (pd_ix (pd_p 0) pd_int pu_c) pd_int) (gd_sub (W := wF) 0 pd_int))
    (ss_one (sd_set 2 sc_law_random.nd (pd_add (pd_mul (pd_v 2) pd_int) (pd_calC (C_law_hash T) (hr.mono (by decide)) hgd (takes_of rfl rfl rfl rfl) (ad_cons (pd_ix (pd_p 0) pd_int pu_c) (ad_cons (pd_ix (pd_p 0) pd_int pu_c) ad_nil))))))) (passes_of rfl))
    (ss_one (sd_ret (pd_mod (pd_toInt T.B.int (ad_cons (pd_v 2) ad_nil)) (pd_v 1)))))))))
/-! ## _law_pick -/
abbrev N_law_pick : List Str := ["generator", "things"]
theorem sc_law_pick : FnScope N_law_pick ["generator", "things"] (defScope st_law_pick) := ⟨rfl, rfl, rfl, by decide +kernel, rfl, by decide +kernel, by decide +kernel⟩
def b_law_pick : Sv :=
    (cRet (c2 gIx (cV 1) (cCallR 0 2 m_law_random (cCons (c1 gLen (cV 1)) cNil))))
def m_law_pick : Ev := runD 2 b_law_pick
theorem C_law_pick (T : Top P KK mg) : CalD P w KK mg base 3 "_law_pick" st_law_pick ["generator", "things"] (spD KK 2 m_law_pick) := by
  obtain ⟨f, fd, F, hm, hb⟩ := T.d_law_pick.ex
  exact .mk F hm hb (okD F sc_law_pick fun cdv A outer s H E hr hgd => (show SsD _ _ _ _ b_law_pick from
    (ss_one (sd_ret (pd_ixE (pd_v 1) (pd_calR 0 (C_law_random T) (hr.mono (by decide)) hgd (takes_of rfl rfl rfl rfl) (ad_cons (pd_len T.B.len ((pd_v 1)).p) ad_nil)))))))
/-! ## _law_bad_web -/
abbrev N_law_bad_web : List Str := ["generator", "web", "word", "many", "ties", "odd"]
theorem sc_law_bad_web : FnScope N_law_bad_web ["generator", "web"] (defScope st_law_bad_web) := ⟨rfl, rfl, rfl, by decide +kernel, rfl, by decide +kernel, by decide +kernel⟩
def b_law_bad_web : Sv :=
    (cSeq (cAsg (cV 1) (gT 3 (gConsD (gN 2) (gConsD (gN 3) (gConsD (gN 4) gNilD)))))
    (cSeq (cAsg (cL (cLst (cCons (cC .non) (cCons (cTup cNil) (cCons (cL (cListOf (cV 1))) (cCons (cTup (cCons (cC (.str "Web")) (cCons (cV 3) (cCons (cV 4) cNil)))) (cCons (cTup (cCons (cV 2) (cCons (cV 3) cNil))) (cCons (cTup (cCons (cV 2) (cCons (cC (.int 0)) (cCons (cL (cLst cNil)) cNil)))) (cCons (cTup (cCons (cV 2) (cCons (cC (.int 8)) (cCons (cV 4) cNil)))) (cCons (cTup (cCons (cV 2) (cCons (cC (.bl true)) (cCons (cL (cLst cNil)) cNil)))) (cCons (cTup (cCons (cV 2) (cCons (cC1 gStr (cCons (cV 3) cNil)) (cCons (cV 4) cNil)))) cNil))))))))))) (gN 5))
    (cSeq (cAsg (c2 gAdd (cV 5) (cL (cLst (cCons (cTup (cCons (cV 2) (cCons (cV 3) (cCons (cTupOf (cV 4)) cNil)))) (cCons (cTup (cCons (cC .non) (cCons (cV 3) (cCons (cV 4) cNil)))) cNil))))) (gN 5))
    (cSeq (cAsg (c2 gAdd (cV 5) (cL (cLst (cCons (cTup (cCons (cV 2) (cCons (c2 gAdd (cV 3) (cC (.int 1))) (cCons (cV 4) cNil)))) (cCons (cTup (cCons (cV 2) (cCons (cV 3) (cCons (cC .non) cNil)))) (cCons (cTup (cCons (cV 2) (cCons (cC (.int 2)) (cCons (cL (cLst (cCons (cTup (cCons (cC (.int 0)) (cCons (cC (.int 1)) (cCons (cC (.int 0)) cNil)))) cNil))) cNil)))) (cCons (cTup (cCons (cV 2) (cCons (cC (.int 2)) (cCons (cL (cLst (cCons (cTup (cCons (cC (.int 0)) (cCons (cC (.int 1)) (cCons (cC (.int 10)) cNil)))) cNil))) cNil)))) (cCons (cTup (cCons (cV 2) (cCons (cC (.int 2)) (cCons (cL (cLst (cCons (cTup (cCons (cC (.int 1)) (cCons (cC (.int 0)) (cCons (cC (.int 1)) cNil)))) cNil))) cNil)))) (cCons (cTup (cCons (cV 2) (cCons (cC (.int 2)) (cCons (cL (cLst (cCons (cTup (cCons (cC (.int 0)) (cCons (cC (.int 1)) (cCons (cC (.bl true)) cNil)))) cNil))) cNil)))) (cCons (cTup (cCons (cV 2) (cCons (cC (.int 2)) (cCons (cL (cLst (cCons (cTup (cCons (cC (.int 0)) (cCons (cC (.int 1)) cNil))) cNil))) cNil)))) cNil)))))))))) (gN 5))
    (cSeq (cAsg (c2 gAdd (cV 5) (cL (cLst (cCons (cTup (cCons (cV 2) (cCons (cC (.int 2)) (cCons (cL (cLst (cCons (cL (cLst (cCons (cC (.int 0)) (cCons (cC (.int 1)) (cCons (cC (.int 1)) cNil))))) cNil))) cNil)))) (cCons (cTup (cCons (cV 2) (cCons (cC (.int 2)) (cCons (cL (cLst (cCons (cTup (cCons (cC (.int 0)) (cCons (cC (.int 2)) (cCons (cC (.int 1)) cNil)))) cNil))) cNil)))) (cCons (cTup (cCons (cV 2) (cCons (cC (.int 3)) (cCons (cL (cLst (cCons (cTup (cCons (cC (.int 1)) (cCons (cC (.int 2)) (cCons (cC (.int 1)) cNil)))) (cCons (cTup (cCons (cC (.int 0)) (cCons (cC (.int 1)) (cCons (cC (.int 1)) cNil)))) cNil)))) cNil)))) (cCons (cTup (cCons (cV 2) (cCons (cC (.int 2)) (cCons (cL (cLst (cCons (cTup (cCons (cC (.int 0)) (cCons (cC (.int 1)) (cCons (cC (.int 1)) cNil)))) (cCons (cTup (cCons (cC (.int 0)) (cCons (cC (.int 1)) (cCons (cC (.int 2)) cNil)))) cNil)))) cNil)))) cNil))))))) (gN 5))
    (cSeq (cAsg (c2 gAdd (cV 5) (cL (cLst (cCons (cTup (cCons (cV 2) (cCons (cC (.int 4)) (cCons (cL (cLst (cCons (cTup (cCons (cC (.int 0)) (cCons (cC (.int 1)) (cCons (cC (.int 1)) cNil)))) (cCons (cTup (cCons (cC (.int 2)) (cCons (cC (.int 3)) (cCons (cC (.int 1)) cNil)))) cNil)))) cNil)))) (cCons (cTup (cCons (cV 2) (cCons (cC (.int 2)) (cCons (cL (cLst (cCons (cTup (cCons (cC (.bl false)) (cCons (cC (.int 1)) (cCons (cC (.int 1)) cNil)))) cNil))) cNil)))) cNil))))) (gN 5))
    (cRet (cCallR 0 2 m_law_pick (cCons (cV 5) cNil)))))))))
def m_law_bad_web : Ev := runD 6 b_law_bad_web
theorem C_law_bad_web (T : Top P KK mg) : CalD P w KK mg base 4 "_law_bad_web" st_law_bad_web ["generator", "web"] (spD KK 2 m_law_bad_web) := by
  obtain ⟨f, fd, F, hm, hb⟩ := T.d_law_bad_web.ex
  exact .mk F hm hb (okD F sc_law_bad_web fun cdv A outer s H E hr hgd => (show SsD _ _ _ _ b_law_bad_web from
    (ss_cons (sd_asg (pd_v 1) (gd_tup (gs_cons (gd_name 2 sc_law_bad_web.nd) (gs_cons (gd_name 3 sc_law_bad_web.nd) (gs_cons (gd_name 4 sc_law_bad_web.nd) gs_nil)))))
    (ss_cons (sd_set 5 sc_law_bad_web.nd ((fd_lst (ad_cons pd_non (ad_cons (pd_tup ad_nil) (ad_cons ((fd_list T.B.list ((pd_v 1)).p)).d (ad_cons (pd_tup (ad_cons pd_str (ad_cons (pd_v 3) (ad_cons (pd_v 4) ad_nil)))) (ad_cons (pd_tup (ad_cons (pd_v 2) (ad_cons (pd_v 3) ad_nil))) (ad_cons (pd_tup (ad_cons (pd_v 2) (ad_cons pd_int (ad_cons ((fd_lst ad_nil)).d ad_nil)))) (ad_cons (pd_tup (ad_cons (pd_v 2) (ad_cons pd_int (ad_cons (pd_v 4) ad_nil)))) (ad_cons (pd_tup (ad_cons (pd_v 2) (ad_cons pd_bl (ad_cons ((fd_lst ad_nil)).d ad_nil)))) (ad_cons (pd_tup (ad_cons (pd_v 2) (ad_cons (pd_toStr T.B.str (ad_cons (pd_v 3) ad_nil)) (ad_cons (pd_v 4) ad_nil)))) ad_nil))))))))))).d)
    (ss_cons (sd_set 5 sc_law_bad_web.nd (pd_add (pd_v 5) ((fd_lst (ad_cons (pd_tup (ad_cons (pd_v 2) (ad_cons (pd_v 3) (ad_cons (pd_tupOf T.B.tuple ((pd_v 4)).p) ad_nil)))) (ad_cons (pd_tup (ad_cons pd_non (ad_cons (pd_v 3) (ad_cons (pd_v 4) ad_nil)))) ad_nil)))).d))
    (ss_cons (sd_set 5 sc_law_bad_web.nd (pd_add (pd_v 5) ((fd_lst (ad_cons (pd_tup (ad_cons (pd_v 2) (ad_cons (pd_add (pd_v 3) pd_int) (ad_cons (pd_v 4) ad_nil)))) (ad_cons (pd_tup (ad_cons (pd_v 2) (ad_cons (pd_v 3) (ad_cons pd_non ad_nil)))) (ad_cons (pd_tup (ad_cons (pd_v 2) (ad_cons pd_int (ad_cons ((fd_lst (ad_cons (pd_tup (ad_cons pd_int (ad_cons pd_int (ad_cons pd_int ad_nil)))) ad_nil))).d ad_nil)))) (ad_cons (pd_tup (ad_cons (pd_v 2) (ad_cons pd_int (ad_cons ((fd_lst (ad_cons (pd_tup (ad_cons pd_int (ad_cons pd_int (ad_cons pd_int ad_nil)))) ad_nil))).d ad_nil)))) (ad_cons (pd_tup (ad_cons (pd_v 2) (ad_cons pd_int (ad_cons ((fd_lst (ad_cons (pd_tup (ad_cons pd_int (ad_cons pd_int (ad_cons pd_int ad_nil)))) ad_nil))).d ad_nil)))) (ad_cons (pd_tup (ad_cons (pd_v 2) (ad_cons pd_int (ad_cons ((fd_lst (ad_cons (pd_tup (ad_cons pd_int (ad_cons pd_int (ad_cons pd_bl ad_nil)))) ad_nil))).d ad_nil)))) (ad_cons (pd_tup (ad_cons (pd_v 2) (ad_cons pd_int (ad_cons ((fd_lst (ad_cons (pd_tup (ad_cons pd_int (ad_cons pd_int ad_nil))) ad_nil))).d ad_nil)))) ad_nil))))))))).d))
    (ss_cons (sd_set 5 sc_law_bad_web.nd (pd_add (pd_v 5) ((fd_lst (ad_cons (pd_tup (ad_cons (pd_v 2) (ad_cons pd_int (ad_cons ((fd_lst (ad_cons ((fd_lst (ad_cons pd_int (ad_cons pd_int (ad_cons pd_int ad_nil))))).d ad_nil))).d ad_nil)))) (ad_cons (pd_tup (ad_cons (pd_v 2) (ad_cons pd_int (ad_cons ((fd_lst (ad_cons (pd_tup (ad_cons pd_int (ad_cons pd_int (ad_cons pd_int ad_nil)))) ad_nil))).d ad_nil)))) (ad_cons (pd_tup (ad_cons (pd_v 2) (ad_cons pd_int (ad_cons ((fd_lst (ad_cons (pd_tup (ad_cons pd_int (ad_cons pd_int (ad_cons pd_int ad_nil)))) (ad_cons (pd_tup (ad_cons pd_int (ad_cons pd_int (ad_cons pd_int ad_nil)))) ad_nil)))).d ad_nil)))) (ad_cons (pd_tup (ad_cons (pd_v 2) (ad_cons pd_int (ad_cons ((fd_lst (ad_cons (pd_tup (ad_cons pd_int (ad_cons pd_int (ad_cons pd_int ad_nil)))) (ad_cons (pd_tup (ad_cons pd_int (ad_cons pd_int (ad_cons pd_int ad_nil)))) ad_nil)))).d ad_nil)))) ad_nil)))))).d))
    (ss_cons (sd_set 5 sc_law_bad_web.nd (pd_add (pd_v 5) ((fd_lst (ad_cons (pd_tup (ad_cons (pd_v 2) (ad_cons pd_int (ad_cons ((fd_lst (ad_cons (pd_tup (ad_cons pd_int (ad_cons pd_int (ad_cons pd_int ad_nil)))) (ad_cons (pd_tup (ad_cons pd_int (ad_cons pd_int (ad_cons pd_int ad_nil)))) ad_nil)))).d ad_nil)))) (ad_cons (pd_tup (ad_cons (pd_v 2) (ad_cons pd_int (ad_cons ((fd_lst (ad_cons (pd_tup (ad_cons pd_bl (ad_cons pd_int (ad_cons pd_int ad_nil)))) ad_nil))).d ad_nil)))) ad_nil)))).d))
    (ss_one (sd_ret (pd_calR 0 (C_law_pick T) (hr.mono (by decide)) hgd (takes_of rfl rfl rfl rfl) (ad_cons (pd_v 5) ad_nil))))))))))))
/-! ## _law_no_web -/
abbrev N_law_no_web : List Str := ["generator", "web", "bad"]
theorem sc_law_no_web : FnScope N_law_no_web ["generator", "web"] (defScope st_law_no_web) := ⟨rfl, rfl, rfl, by decide +kernel, rfl, by decide +kernel, by decide +kernel⟩
def b_law_no_web : Sv :=
    (cSeq (cAsg (cCallR 0 2 m_law_bad_web (cCons (cV 1) cNil)) (gN 2))
    (cRet (cIf (tOf (cCall 1 m_law_is_web (cCons (cV 2) cNil))) (cC .non) (cV 2))))
def m_law_no_web : Ev := runD 3 b_law_no_web
theorem C_law_no_web (T : Top P KK mg) : CalD P w KK mg base 5 "_law_no_web" st_law_no_web ["generator", "web"] (spD KK 2 m_law_no_web) := by
  obtain ⟨f, fd, F, hm, hb⟩ := T.d_law_no_web.ex
  exact .mk F hm hb (okD F sc_law_no_web fun cdv A outer s H E hr hgd => (show SsD _ _ _ _ b_law_no_web from
    (ss_cons (sd_set 2 sc_law_no_web.nd (pd_calR 0 (C_law_bad_web T) (hr.mono (by decide)) hgd (takes_of rfl rfl rfl rfl) (ad_cons (pd_v 1) ad_nil)))
    (ss_one (sd_ret (pd_if (td_val (pd_calC (C_law_is_web T) (hr.mono (by decide)) hgd (takes_of rfl rfl rfl rfl) (ad_cons (pd_v 2) ad_nil))) pd_non (pd_v 2)))))))
/-! ## _law_frac -/
abbrev N_law_frac : List Str := ["top", "under", "one", "other"]
theorem sc_law_frac : FnScope N_law_frac ["top", "under"] (defScope st_law_frac) := ⟨rfl, rfl, rfl, by decide +kernel, rfl, by decide +kernel, by decide +kernel⟩
def b_law_frac : Sv :=
    (cSeq (cPar 2 3 (cV 1) (cC1 gAbs (cCons (cV 0) cNil)))
    (cSeq (cWhile (fun (ρ : Rho) => match ρ[3]? with | some (Cell.sh (D.int i)) => i.natAbs + 2 | _ => 2) (tOf (c2 gGt (cV 3) (cC (.int 0))))
    (cPar 2 3 (cV 3) (c2 gMod (cC1 gInt (cCons (cV 2) cNil)) (cV 3))))
    (cRet (cTup (cCons (c2 gDiv (cV 0) (cV 2)) (cCons (c2 gDiv (cV 1) (cV 2)) cNil))))))
def m_law_frac : Ev := runD 4 b_law_frac
theorem C_law_frac (T : Top P KK mg) : CalD P w KK mg base 1 "_law_frac" st_law_frac ["top", "under"] (spD KK 2 m_law_frac) := by
  obtain ⟨f, fd, F, hm, hb⟩ := T.d_law_frac.ex
  exact .mk F hm hb (okD F sc_law_frac fun cdv A outer s H E hr hgd => (show SsD _ _ _ _ b_law_frac from
    (ss_cons (sd_par 2 3 sc_law_frac.nd (pd_v 1) (pd_abs T.B.abs (ad_cons (pd_v 0) ad_nil)))
    (ss_cons (sd_while (fun (ρ : Rho) => match ρ[3]? with | some (Cell.sh (D.int i)) => i.natAbs + 2 | _ => 2) (td_cmp cm_gt ((pd_v 3)).p (pd_int).p pu_c rfl)
    (ss_one (sd_par 2 3 sc_law_frac.nd (pd_v 3) (pd_mod (pd_toInt T.B.int (ad_cons (pd_v 2) ad_nil)) (pd_v 3)))) (passes_of rfl))
    (ss_one (sd_ret (pd_tup (ad_cons (pd_div (pd_v 0) (pd_v 2)) (ad_cons (pd_div (pd_v 1) (pd_v 2)) ad_nil)))))))))
/-! ## _law_add -/
abbrev N_law_add : List Str := ["one", "other"]
theorem sc_law_add : FnScope N_law_add ["one", "other"] (defScope st_law_add) := ⟨rfl, rfl, rfl, by decide +kernel, rfl, by decide +kernel, by decide +kernel⟩
def b_law_add : Sv :=
    (cRet (cCall 2 m_law_frac (cCons (c2 gAdd (c2 gMul (c2 gIx (cV 0) (cC (.int 0))) (c2 gIx (cV 1) (cC (.int 1)))) (c2 gMul (c2 gIx (cV 1) (cC (.int 0))) (c2 gIx (cV 0) (cC (.int 1))))) (cCons (c2 gMul (c2 gIx (cV 0) (cC (.int 1))) (c2 gIx (cV 1) (cC (.int 1)))) cNil))))
def m_law_add : Ev := runD 2 b_law_add
theorem C_law_add (T : Top P KK mg) : CalD P w KK mg base 2 "_law_add" st_law_add ["one", "other"] (spD KK 2 m_law_add) := by
  obtain ⟨f, fd, F, hm, hb⟩ := T.d_law_add.ex
  exact .mk F hm hb (okD F sc_law_add fun cdv A outer s H E hr hgd => (show SsD _ _ _ _ b_law_add from
    (ss_one (sd_ret (pd_calC (C_law_frac T) (hr.mono (by decide)) hgd (takes_of rfl rfl rfl rfl) (ad_cons (pd_add (pd_mul (pd_ix ((pd_v 0)).p pd_int pu_c) (pd_ix ((pd_v 1)).p pd_int pu_c)) (pd_mul (pd_ix ((pd_v 1)).p pd_int pu_c) (pd_ix ((pd_v 0)).p pd_int pu_c))) (ad_cons (pd_mul (pd_ix ((pd_v 0)).p pd_int pu_c) (pd_ix ((pd_v 1)).p pd_int pu_c)) ad_nil)))))))
/-! ## _law_singles -/
abbrev N_law_singles : List Str := ["web", "low", "high", "number"]
theorem sc_law_singles : FnScope N_law_singles ["web"] (defScope st_law_singles) := ⟨rfl, rfl, rfl, by decide +kernel, rfl, by decide +kernel, by decide +kernel⟩
def b_law_singles : Sv :=
    (cRet (cC1 gSumL (cCons (cL (cComp [1, 2, 3] (cW (c2 gIx (cV 0) (cC (.int 2)))) (gT 3 (gConsD (gN 1) (gConsD (gN 2) (gConsD (gN 3) gNilD)))) cYes (c2 gMul (cL (cLst (cCons (cTup (cCons (cV 1) (cCons (cV 2) cNil))) cNil))) (cV 3)))) (cCons (cL (cLst cNil)) cNil))))
def m_law_singles : Ev := runD 4 b_law_singles
theorem C_law_singles (T : Top P KK mg) : CalD P w KK mg base 1 "_law_singles" st_law_singles ["web"] (spD KK 1 m_law_singles) := by
  obtain ⟨f, fd, F, hm, hb⟩ := T.d_law_singles.ex
  exact .mk F hm hb (okD F sc_law_singles fun cdv A outer s H E hr hgd => (show SsD _ _ _ _ b_law_singles from
    (ss_one (sd_ret (pd_sumL T.B.sum (ad_cons ((fd_comp [("low", 1), ("high", 2), ("number", 3)] sc_law_singles.nd (id_seq (pd_ix ((pd_v 0)).p pd_int pu_c)) (fun _ _ _ _ _ => (gd_tup (gs_cons (gd_name 1 sc_law_singles.nd) (gs_cons (gd_name 2 sc_law_singles.nd) (gs_cons (gd_name 3 sc_law_singles.nd) gs_nil))))) (fun _ _ _ _ _ => fs_nil) (fun _ _ _ _ _ => (pd_mul ((fd_lst (ad_cons (pd_tup (ad_cons (pd_v 1) (ad_cons (pd_v 2) ad_nil))) ad_nil))).d (pd_v 3))) (by kernel_rfl))).d (ad_cons ((fd_lst ad_nil)).d ad_nil)))))))
/-! ## _law_made -/
abbrev N_law_made : List Str := ["many", "ties", "found", "one", "other", "number"]
theorem sc_law_made : FnScope N_law_made ["many", "ties"] (defScope st_law_made) := ⟨rfl, rfl, rfl, by decide +kernel, rfl, by decide +kernel, by decide +kernel⟩
def b_law_made : Sv :=
    (cSeq (cSetO 2 (cLst cNil))
    (cSeq (cFor (cW (cL (cCF gSort (cCons (cL (cComp [3, 4, 5] (cW (cV 1)) (gT 3 (gConsD (gN 3) (gConsD (gN 4) (gConsD (gN 5) gNilD)))) cYes (cTup (cCons (cC1 gMin (cCons (cV 3) (cCons (cV 4) cNil))) (cCons (cC1 gMax (cCons (cV 3) (cCons (cV 4) cNil))) (cCons (cV 5) cNil)))))) cNil)))) (gT 3 (gConsD (gN 3) (gConsD (gN 4) (gConsD (gN 5) gNilD))))
    (cIfS (cAnd (tOf (c2 gNe (cP 2) (cL (cLst cNil)))) (tOf (c2 gEq (cSl (c2 gIx (cP 2) (c1 gNeg (cC (.int 1)))) cNo (cSome (cC (.int 2)))) (cTup (cCons (cV 3) (cCons (cV 4) cNil))))))
    (cAsg (cTup (cCons (cV 3) (cCons (cV 4) (cCons (c2 gAdd (c2 gIx (c2 gIx (cP 2) (c1 gNeg (cC (.int 1)))) (cC (.int 2))) (cV 5)) cNil)))) (gS 2 (c1 gNeg (cC (.int 1)))))
    (cExpr (cApp 2 (cTup (cCons (cV 3) (cCons (cV 4) (cCons (cV 5) cNil))))))))
    (cRet (cTup (cCons (cC (.str "web")) (cCons (cV 0) (cCons (cR 2) cNil)))))))
def m_law_made : Ev := runD 6 b_law_made
theorem C_law_made (T : Top P KK mg) : CalD P w KK mg base 1 "_law_made" st_law_made ["many", "ties"] (spD KK 2 m_law_made) := by
  obtain ⟨f, fd, F, hm, hb⟩ := T.d_law_made.ex
  exact .mk F hm hb (okD F sc_law_made fun cdv A outer s H E hr hgd => (show SsD _ _ _ _ b_law_made from
    (ss_cons (sd_setO 2 sc_law_made.nd (fd_lst ad_nil))
    (ss_cons (sd_for (id_seq ((fd_sorted T.B.sorted hr.units (ad_cons ((fd_comp [("one", 3), ("other", 4), ("number", 5)] sc_law_made.nd (id_seq (pd_v 1)) (fun _ _ _ _ _ => (gd_tup (gs_cons (gd_name 3 sc_law_made.nd) (gs_cons (gd_name 4 sc_law_made.nd) (gs_cons (gd_name 5 sc_law_made.nd) gs_nil))))) (fun _ _ _ _ _ => fs_nil) (fun _ _ _ _ _ => (pd_tup (ad_cons (pd_min T.B.min (ad_cons (pd_v 3) (ad_cons (pd_v 4) ad_nil))) (ad_cons (pd_max T.B.max (ad_cons (pd_v 3) (ad_cons (pd_v 4) ad_nil))) (ad_cons (pd_v 5) ad_nil))))) (by kernel_rfl))).d ad_nil))).d) (gd_tup (gs_cons (gd_name 3 sc_law_made.nd) (gs_cons (gd_name 4 sc_law_made.nd) (gs_cons (gd_name 5 sc_law_made.nd) gs_nil))))
    (ss_one (sd_if ((wd_and (td_cmp (cm_ne hr.units) (pd_p 2) (((fd_lst ad_nil)).d).p (pu_L (pu_lst pu_nil)) rfl) (wd_and1 (td_cmp (cm_eq hr.units) ((pd_sl ((pd_ix (pd_p 2) (pd_neg pd_int) (pu_1 pu_c))).p od_none (od_some pd_int pu_c))).p ((pd_tup (ad_cons (pd_v 3) (ad_cons (pd_v 4) ad_nil)))).p (pu_tup (pu_cons pu_v (pu_cons pu_v pu_nil))) rfl)))).t
    (ss_one (sd_asg (pd_tup (ad_cons (pd_v 3) (ad_cons (pd_v 4) (ad_cons (pd_add (pd_ix ((pd_ix (pd_p 2) (pd_neg pd_int) (pu_1 pu_c))).p pd_int pu_c) (pd_v 5)) ad_nil)))) (gd_sub (W := wF) 2 (pd_neg pd_int))))
    (ss_one (sd_expr (pd_append 2 (pd_tup (ad_cons (pd_v 3) (ad_cons (pd_v 4) (ad_cons (pd_v 5) ad_nil))))))))) (passes_of rfl))
    (ss_one (sd_ret (pd_tup (ad_cons pd_str (ad_cons (pd_v 0) (ad_cons (pd_r 2) ad_nil))))))))))
/-! ## _law_web -/
abbrev N_law_web : List Str := ["generator", "most", "ties", "many", "rows", "point", "turn", "one", "other", "row"]
theorem sc_law_web : FnScope N_law_web ["generator", "most", "ties"] (defScope st_law_web) := ⟨rfl, rfl, rfl, by decide +kernel, rfl, by decide +kernel, by decide +kernel⟩
def b_law_web : Sv :=
    (cSeq (cAsg (c2 gAdd (cC (.int 1)) (cCallR 0 2 m_law_random (cCons (cV 1) cNil))) (gN 3))
    (cSeq (cSetO 4 (cComp [5] (cRng2 (cCons (cC (.int 1)) (cCons (cV 3) cNil))) (gN 5) cYes (cTup (cCons (cCallR 0 2 m_law_random (cCons (cV 5) cNil)) (cCons (cV 5) (cCons (c2 gAdd (cC (.int 1)) (cCallR 0 2 m_law_random (cCons (cV 2) cNil))) cNil))))))
    (cSeq (cFor (cRng1 (cCons (cCallR 0 2 m_law_random (cCons (cV 3) cNil)) cNil)) (gN 6)
    (cSeq (cAsg (cTup (cCons (cCallR 0 2 m_law_random (cCons (cV 3) cNil)) (cCons (cCallR 0 2 m_law_random (cCons (cV 3) cNil)) cNil))) (gT 2 (gConsD (gN 7) (gConsD (gN 8) gNilD))))
    (cIfS (cAnd (tOf (c2 gNe (cV 7) (cV 8))) (tOf (c2 gEq (cL (cCompP 4 [9] (gN 9) (tOf (c2 (gIn false) (cSl (cV 9) cNo (cSome (cC (.int 2)))) (cL (cLst (cCons (cTup (cCons (cV 7) (cCons (cV 8) cNil))) (cCons (cTup (cCons (cV 8) (cCons (cV 7) cNil))) cNil)))))) (cV 9))) (cL (cLst cNil)))))
    (cExpr (cApp 4 (cTup (cCons (cC1 gMin (cCons (cV 7) (cCons (cV 8) cNil))) (cCons (cC1 gMax (cCons (cV 7) (cCons (cV 8) cNil))) (cCons (c2 gAdd (cC (.int 1)) (cCallR 0 2 m_law_random (cCons (cV 2) cNil))) cNil))))))
    cSkip)))
    (cRet (cCall 2 m_law_made (cCons (cV 3) (cCons (cR 4) cNil)))))))
def m_law_web : Ev := runD 10 b_law_web
theorem C_law_web (T : Top P KK mg) : CalD P w KK mg base 3 "_law_web" st_law_web ["generator", "most", "ties"] (spD KK 3 m_law_web) := by
  obtain ⟨f, fd, F, hm, hb⟩ := T.d_law_web.ex
  exact .mk F hm hb (okD F sc_law_web fun cdv A outer s H E hr hgd => (show SsD _ _ _ _ b_law_web from
    (ss_cons (sd_set 3 sc_law_web.nd (pd_add pd_int (pd_calR 0 (C_law_random T) (hr.mono (by decide)) hgd (takes_of rfl rfl rfl rfl) (ad_cons (pd_v 1) ad_nil))))
    (ss_cons (sd_setLcO 4 [("point", 5)] sc_law_web.nd (id_rng2 T.B.range (ad_cons pd_int (ad_cons (pd_v 3) ad_nil))) (fun _ _ _ _ _ => (gd_name 5 sc_law_web.nd)) (fun _ _ _ _ _ => fs_nil) (fun _ _ _ _ _ => (pd_tup (ad_cons (pd_calR 0 (C_law_random T) (hr.mono (by decide)) hgd takes_F (ad_cons (pd_v 5) ad_nil)) (ad_cons (pd_v 5) (ad_cons (pd_add pd_int (pd_calR 0 (C_law_random T) (hr.mono (by decide)) hgd takes_F (ad_cons (pd_v 2) ad_nil))) ad_nil))))) (by kernel_rfl) rfl)
    (ss_cons (sd_for (id_rng1 T.B.range (ad_cons (pd_calR 0 (C_law_random T) (hr.mono (by decide)) hgd (takes_of rfl rfl rfl rfl) (ad_cons (pd_v 3) ad_nil)) ad_nil)) (gd_name 6 sc_law_web.nd)
    (ss_cons (sd_asg (pd_tup (ad_cons (pd_calR 0 (C_law_random T) (hr.mono (by decide)) hgd (takes_of rfl rfl rfl rfl) (ad_cons (pd_v 3) ad_nil)) (ad_cons (pd_calR 0 (C_law_random T) (hr.mono (by decide)) hgd (takes_of rfl rfl rfl rfl) (ad_cons (pd_v 3) ad_nil)) ad_nil))) (gd_tup (gs_cons (gd_name 7 sc_law_web.nd) (gs_cons (gd_name 8 sc_law_web.nd) gs_nil))))
    (ss_one (sd_if ((wd_and (td_cmp (cm_ne hr.units) ((pd_v 7)).p ((pd_v 8)).p pu_v rfl) (wd_and1 (td_cmp (cm_eq hr.units) (((fd_compP 4 [("row", 9)] sc_law_web.nd (fun _ _ _ _ _ => (gd_name 9 sc_law_web.nd)) (fun _ _ _ _ _ => (fs_one (td_cmp (cm_in hr.units) ((pd_sl ((pd_v 9)).p od_none (od_some pd_int pu_c))).p (((fd_lst (ad_cons (pd_tup (ad_cons (pd_v 7) (ad_cons (pd_v 8) ad_nil))) (ad_cons (pd_tup (ad_cons (pd_v 8) (ad_cons (pd_v 7) ad_nil))) ad_nil)))).d).p (pu_L (pu_lst (pu_cons (pu_tup (pu_cons pu_v (pu_cons pu_v pu_nil))) (pu_cons (pu_tup (pu_cons pu_v (pu_cons pu_v pu_nil))) pu_nil)))) rfl))) (fun _ _ _ _ _ => (pd_v 9)) (by kernel_rfl))).d).p (((fd_lst ad_nil)).d).p (pu_L (pu_lst pu_nil)) rfl)))).t
    (ss_one (sd_expr (pd_append 4 (pd_tup (ad_cons (pd_min T.B.min (ad_cons (pd_v 7) (ad_cons (pd_v 8) ad_nil))) (ad_cons (pd_max T.B.max (ad_cons (pd_v 7) (ad_cons (pd_v 8) ad_nil))) (ad_cons (pd_add pd_int (pd_calR 0 (C_law_random T) (hr.mono (by decide)) hgd (takes_of rfl rfl rfl rfl) (ad_cons (pd_v 2) ad_nil))) ad_nil)))))))
    ss_nil))) (passes_of rfl))
    (ss_one (sd_ret (pd_calC (C_law_made T) (hr.mono (by decide)) hgd (takes_of rfl rfl rfl rfl) (ad_cons (pd_v 3) (ad_cons (pd_r 4) ad_nil))))))))))
/-! ## _law_small -/
abbrev N_law_small : List Str := ["generator", "most", "web", "turn"]
theorem sc_law_small : FnScope N_law_small ["generator", "most"] (defScope st_law_small) := ⟨rfl, rfl, rfl, by decide +kernel, rfl, by decide +kernel, by decide +kernel⟩
def b_law_small : Sv :=
    (cSeq (cAsg (cCallR 0 3 m_law_web (cCons (cV 1) (cCons (cC (.int 2)) cNil))) (gN 2))
    (cSeq (cFor (cRng1 (cCons (cC (.int 20)) cNil)) (gN 3)
    (cAsg (cIf (tOf (c2 gLe (c1 gLen (cCall 1 m_law_singles (cCons (cV 2) cNil))) (cC (.int 7)))) (cV 2) (cCallR 0 3 m_law_web (cCons (cV 1) (cCons (cC (.int 2)) cNil)))) (gN 2)))
    (cRet (cIf (tOf (c2 gLe (c1 gLen (cCall 1 m_law_singles (cCons (cV 2) cNil))) (cC (.int 7)))) (cV 2) (cTup (cCons (cC (.str "web")) (cCons (cC (.int 2)) (cCons (cL (cLst (cCons (cTup (cCons (cC (.int 0)) (cCons (cC (.int 1)) (cCons (cC (.int 2)) cNil)))) cNil))) cNil))))))))
def m_law_small : Ev := runD 4 b_law_small
theorem C_law_small (T : Top P KK mg) : CalD P w KK mg base 4 "_law_small" st_law_small ["generator", "most"] (spD KK 2 m_law_small) := by
  obtain ⟨f, fd, F, hm, hb⟩ := T.d_law_small.ex
  exact .mk F hm hb (okD F sc_law_small fun cdv A outer s H E hr hgd => (show SsD _ _ _ _ b_law_small from
    (ss_cons (sd_set 2 sc_law_small.nd (pd_calR 0 (C_law_web T) (hr.mono (by decide)) hgd (takes_of rfl rfl rfl rfl) (ad_cons (pd_v 1) (ad_cons pd_int ad_nil))))
    (ss_cons (sd_for (id_rng1 T.B.range (ad_cons pd_int ad_nil)) (gd_name 3 sc_law_small.nd)
    (ss_one (sd_set 2 sc_law_small.nd (pd_if (td_cmp cm_le ((pd_len T.B.len ((pd_calC (C_law_singles T) (hr.mono (by decide)) hgd (takes_of rfl rfl rfl rfl) (ad_cons (pd_v 2) ad_nil))).p)).p (pd_int).p pu_c rfl) (pd_v 2) (pd_calR 0 (C_law_web T) (hr.mono (by decide)) hgd (takes_of rfl rfl rfl rfl) (ad_cons (pd_v 1) (ad_cons pd_int ad_nil)))))) (passes_of rfl))
    (ss_one (sd_ret (pd_if (td_cmp cm_le ((pd_len T.B.len ((pd_calC (C_law_singles T) (hr.mono (by decide)) hgd (takes_of rfl rfl rfl rfl) (ad_cons (pd_v 2) ad_nil))).p)).p (pd_int).p pu_c rfl) (pd_v 2) (pd_tup (ad_cons pd_str (ad_cons pd_int (ad_cons ((fd_lst (ad_cons (pd_tup (ad_cons pd_int (ad_cons pd_int (ad_cons pd_int ad_nil)))) ad_nil))).d ad_nil)))))))))))
/-! ## _law_lots -/
abbrev N_law_lots : List Str := ["many", "lots", "found", "number", "lot", "size"]
theorem sc_law_lots : FnScope N_law_lots ["many"] (defScope st_law_lots) := ⟨rfl, rfl, rfl, by decide +kernel, rfl, by decide +kernel, by decide +kernel⟩
def b_law_lots : Sv :=
    (cSeq (cPar 1 2 (cL (cLst (cCons (cL (cLst cNil)) cNil))) (cL (cLst cNil)))
    (cSeq (cFor (cRng1 (cCons (cV 0) cNil)) (gN 3)
    (cAsg (c2 gAdd (cV 1) (cL (cComp [4] (cW (cV 1)) (gN 4) cYes (c2 gAdd (cV 4) (cL (cLst (cCons (cV 3) cNil))))))) (gN 1)))
    (cSeq (cFor (cRng1 (cCons (c2 gAdd (cV 0) (cC (.int 1))) cNil)) (gN 5)
    (cAsg (c2 gAdd (cV 2) (cL (cCF gSort (cCons (cL (cComp [4] (cW (cV 1)) (gN 4) (tOf (c2 gEq (c1 gLen (cV 4)) (cV 5))) (cV 4))) cNil)))) (gN 2)))
    (cRet (cV 2)))))
def m_law_lots : Ev := runD 6 b_law_lots
theorem C_law_lots (T : Top P KK mg) : CalD P w KK mg base 1 "_law_lots" st_law_lots ["many"] (spD KK 1 m_law_lots) := by
  obtain ⟨f, fd, F, hm, hb⟩ := T.d_law_lots.ex
  exact .mk F hm hb (okD F sc_law_lots fun cdv A outer s H E hr hgd => (show SsD _ _ _ _ b_law_lots from
    (ss_cons (sd_par 1 2 sc_law_lots.nd ((fd_lst (ad_cons ((fd_lst ad_nil)).d ad_nil))).d ((fd_lst ad_nil)).d)
    (ss_cons (sd_for (id_rng1 T.B.range (ad_cons (pd_v 0) ad_nil)) (gd_name 3 sc_law_lots.nd)
    (ss_one (sd_set 1 sc_law_lots.nd (pd_add (pd_v 1) ((fd_comp [("lot", 4)] sc_law_lots.nd (id_seq (pd_v 1)) (fun _ _ _ _ _ => (gd_name 4 sc_law_lots.nd)) (fun _ _ _ _ _ => fs_nil) (fun _ _ _ _ _ => (pd_add (pd_v 4) ((fd_lst (ad_cons (pd_v 3) ad_nil))).d)) (by kernel_rfl))).d))) (passes_of rfl))
    (ss_cons (sd_for (id_rng1 T.B.range (ad_cons (pd_add (pd_v 0) pd_int) ad_nil)) (gd_name 5 sc_law_lots.nd)
    (ss_one (sd_set 2 sc_law_lots.nd (pd_add (pd_v 2) ((fd_sorted T.B.sorted hr.units (ad_cons ((fd_comp [("lot", 4)] sc_law_lots.nd (id_seq (pd_v 1)) (fun _ _ _ _ _ => (gd_name 4 sc_law_lots.nd)) (fun _ _ _ _ _ => (fs_one (td_cmp (cm_eq hr.units) ((pd_len T.B.len ((pd_v 4)).p)).p ((pd_v 5)).p pu_v rfl))) (fun _ _ _ _ _ => (pd_v 4)) (by kernel_rfl))).d ad_nil))).d))) (passes_of rfl))
    (ss_one (sd_ret (pd_v 2))))))))
/-! ## _law_trees -/
abbrev N_law_trees : List Str := ["web", "singles", "lots", "lot", "at"]
theorem sc_law_trees : FnScope N_law_trees ["web"] (defScope st_law_trees) := ⟨rfl, rfl, rfl, by decide +kernel, rfl, by decide +kernel, by decide +kernel⟩
def b_law_trees : Sv :=
    (cSeq (cAsg (cCall 1 m_law_singles (cCons (cV 0) cNil)) (gN 1))
    (cSeq (cAsg (cL (cComp [3] (cW (cCall 1 m_law_lots (cCons (c1 gLen (cV 1)) cNil))) (gN 3) (tOf (c2 gEq (c1 gLen (cV 3)) (c2 gSub (c2 gIx (cV 0) (cC (.int 1))) (cC (.int 1))))) (cV 3))) (gN 2))
    (cRetF (cComp [3] (cW (cV 2)) (gN 3) (tOf (cCall 2 m_law_hang (cCons (c2 gIx (cV 0) (cC (.int 1))) (cCons (cL (cComp [4] (cW (cV 3)) (gN 4) cYes (c2 gIx (cV 1) (cV 4)))) cNil)))) (cV 3)))))
def m_law_trees : Av := runF 5 b_law_trees
theorem C_law_trees (T : Top P KK mg) : CalD P w KK mg base 2 "_law_trees" st_law_trees ["web"] (spF KK 1 m_law_trees) := by
  obtain ⟨f, fd, F, hm, hb⟩ := T.d_law_trees.ex
  exact .mk F hm hb (okF F sc_law_trees fun cdv A outer s H E hr hgd => (show SsD _ _ _ _ b_law_trees from
    (ss_cons (sd_set 1 sc_law_trees.nd (pd_calC (C_law_singles T) (hr.mono (by decide)) hgd (takes_of rfl rfl rfl rfl) (ad_cons (pd_v 0) ad_nil)))
    (ss_cons (sd_setLc 2 [("lot", 3)] sc_law_trees.nd (id_seq (pd_calC (C_law_lots T) (hr.mono (by decide)) hgd (takes_of rfl rfl rfl rfl) (ad_cons (pd_len T.B.len ((pd_v 1)).p) ad_nil))) (fun _ _ _ _ _ => (gd_name 3 sc_law_trees.nd)) (fun _ _ _ _ _ => (fs_one (td_cmp (cm_eq hr.units) ((pd_len T.B.len ((pd_v 3)).p)).p ((pd_sub (pd_ix ((pd_v 0)).p pd_int pu_c) pd_int)).p (pu_2 (pu_2 pu_v pu_c) pu_c) rfl))) (fun _ _ _ _ _ => (pd_v 3)) (by kernel_rfl) rfl)
    (ss_one (sd_retF (fd_comp [("lot", 3)] sc_law_trees.nd (id_seq (pd_v 2)) (fun _ _ _ _ _ => (gd_name 3 sc_law_trees.nd)) (fun _ _ _ _ _ => (fs_one (td_val (pd_calC (C_law_hang T) (hr.mono (by decide)) hgd takes_F (ad_cons (pd_ix ((pd_v 0)).p pd_int pu_c) (ad_cons ((fd_comp [("at", 4)] sc_law_trees.nd (id_seq (pd_v 3)) (fun _ _ _ _ _ => (gd_name 4 sc_law_trees.nd)) (fun _ _ _ _ _ => fs_nil) (fun _ _ _ _ _ => (pd_ix ((pd_v 1)).p (pd_v 4) pu_v)) (by kernel_rfl))).d ad_nil)))))) (fun _ _ _ _ _ => (pd_v 3)) (by kernel_rfl))))))))
/-! ## _law_caught -/
abbrev N_law_caught : List Str := ["door", "args", "caught", "kept", "error", "sorts"]
theorem sc_law_caught : FnScope N_law_caught ["door", "args"] (defScope st_law_caught) := ⟨rfl, rfl, rfl, by decide +kernel, rfl, by decide +kernel, by decide +kernel⟩
def b_law_caught : Sv :=
    (cSeq (cPar 2 3 (cC .non) (c1 gRepr (cV 1)))
    (cSeq (cTry hit_DebtError 4 2 (cCall 2 m_tie_share (cCons (c2 gIx (cV 1) (cC (.int 0))) (cCons (c2 gIx (cV 1) (cC (.int 1))) cNil))))
    (cSeq (cIfS (cOr (tOf (c2 (gIsN false) (cV 2) (cC .non))) (tOf (c2 gNe (c1 gRepr (cV 1)) (cV 3))))
    (cRet (cC (.str "none")))
    cSkip)
    (cSeq (cAsg (cL (cLst (cCons (c1 (gIsX tab_InvalidWeb) (cV 2)) (cCons (c1 (gIsX tab_InvalidNumber) (cV 2)) cNil)))) (gN 5))
    (cRet (c1 gRepr (c2 gAdd (cV 5) (cL (cLst (cCons (c1 (gVal 3) (cV 2)) cNil))))))))))
def m_law_caught : Ev := runD 6 b_law_caught
theorem C_law_caught (T : Top P KK mg) : CalD P w KK mg base 11 "_law_caught" st_law_caught ["door", "args"] (spD KK 2 m_law_caught) := by
  obtain ⟨f, fd, F, hm, hb⟩ := T.d_law_caught.ex
  exact .mk F hm hb (okD F sc_law_caught fun cdv A outer s H E hr hgd => (show SsD _ _ _ _ b_law_caught from
    (ss_cons (sd_par 2 3 sc_law_caught.nd pd_non (pd_repr T.B.repr hgd hr.units ((pd_v 1)).p))
    (ss_cons (sd_try hit_DebtError rfl rfl rfl sc_law_caught.nd rfl rfl rfl rfl ⟨rfl, by decide, .inl T.c_DebtError⟩ (takes_of rfl rfl rfl rfl) T.eH_DebtError (fun W pn xe tk => (pd_calC (C_tie_share T) (hr.mono (by decide)) hgd tk (ad_cons (pd_ix ((pd_v 1)).p pd_int pu_c) (ad_cons (pd_ix ((pd_v 1)).p pd_int pu_c) ad_nil)))))
    (ss_cons (sd_if ((wd_or (td_cmp cm_isN ((pd_v 2)).p (pd_non).p pu_c rfl) (wd_or1 (td_cmp (cm_ne hr.units) ((pd_repr T.B.repr hgd hr.units ((pd_v 1)).p)).p ((pd_v 3)).p pu_v rfl)))).t
    (ss_one (sd_ret pd_str))
    ss_nil)
    (ss_cons (sd_set 5 sc_law_caught.nd ((fd_lst (ad_cons (pd_isX tab_InvalidWeb T.eX_InvalidWeb T.B.isinstance T.c_InvalidWeb (pd_v 2)) (ad_cons (pd_isX tab_InvalidNumber T.eX_InvalidNumber T.B.isinstance T.c_InvalidNumber (pd_v 2)) ad_nil)))).d)
    (ss_one (sd_ret (pd_repr T.B.repr hgd hr.units ((pd_add (pd_v 5) ((fd_lst (ad_cons (pd_value 3 T.eI (pd_v 2)) ad_nil))).d)).p)))))))))
/-! ## law -/
abbrev N_law : List Str := ["script", "index", "generator", "web", "singles", "trees", "kept", "whole", "number", "low", "high", "due", "tree", "apart", "bad", "asks", "wrong", "ask"]
theorem sc_law : FnScope N_law ["script"] (defScope st_law) := ⟨rfl, rfl, rfl, by decide +kernel, rfl, by decide +kernel, by decide +kernel⟩
def b_law : Sv :=
    (cSeq (cFor (cRng1 (cCons (cC (.int 3)) cNil)) (gN 1)
    (cSeq (cSetO 2 (cCallF 2 m_law_generator (cCons (cV 0) (cCons (cV 1) cNil))))
    (cSeq (cAsg (cCallR 2 2 m_law_small (cCons (cC (.int 4)) cNil)) (gN 3))
    (cSeq (cAsg (cTup (cCons (cCall 1 m_law_singles (cCons (cV 3) cNil)) (cCons (cL (cCallF 1 m_law_trees (cCons (cV 3) cNil))) (cCons (c1 gRepr (cV 3)) (cCons (cTup (cCons (cC (.int 0)) (cCons (cC (.int 1)) cNil))) cNil))))) (gT 4 (gConsD (gN 4) (gConsD (gN 5) (gConsD (gN 6) (gConsD (gN 7) gNilD))))))
    (cSeq (cFor (cEnum (cCons (cV 4) cNil)) (gT 2 (gConsD (gN 8) (gConsD (gT 2 (gConsD (gN 9) (gConsD (gN 10) gNilD))) gNilD)))
    (cSeq (cAsg (cCall 2 m_law_frac (cCons (c1 gLen (cL (cComp [12] (cW (cV 5)) (gN 12) (tOf (c2 (gIn false) (cV 8) (cV 12))) (cV 12)))) (cCons (c1 gLen (cV 5)) cNil))) (gN 11))
    (cSeq (cIfS (cNot (tOf (cCall 2 (m_law_exact 8) (cCons (cL (cLst (cCons (cV 11) (cCons (cV 11) (cCons (cV 11) cNil))))) (cCons (cL (cLst (cCons (cCall 2 m_tie_share (cCons (cV 3) (cCons (cV 8) cNil))) (cCons (cCall 2 m_tie_share (aKw 0 2 [1, 0] cNil (cCons (cV 8) (cCons (cV 3) cNil)))) (cCons (cCall 3 m_stands_between (cCons (cV 3) (cCons (cV 9) (cCons (cV 10) cNil)))) cNil))))) cNil)))))
    (cRet (cC (.bl false)))
    cSkip)
    (cSeq (cAsg (cNotV (cCall 2 m_law_hang (cCons (c2 gIx (cV 3) (cC (.int 1))) (cCons (c2 gAdd (cSl (cV 4) cNo (cSome (cV 8))) (cSl (cV 4) (cSome (c2 gAdd (cV 8) (cC (.int 1)))) cNo)) cNil)))) (gN 13))
    (cSeq (cIfS (tOf (c2 gNe (c2 gEq (cV 11) (cTup (cCons (cC (.int 1)) (cCons (cC (.int 1)) cNil)))) (cV 13)))
    (cRet (cC (.bl false)))
    cSkip)
    (cAsg (cCall 2 m_law_add (cCons (cV 7) (cCons (cV 11) cNil))) (gN 7)))))))
    (cSeq (cIfS (tOf (c2 gNe (cV 7) (cTup (cCons (c2 gSub (c2 gIx (cV 3) (cC (.int 1))) (cC (.int 1))) (cCons (cC (.int 1)) cNil)))))
    (cRet (cC (.bl false)))
    cSkip)
    (cSeq (cAsg (cCallR 2 2 m_law_no_web (cCons (cV 3) cNil)) (gN 14))
    (cSeq (cSetO 15 (cLst (cCons (cTup (cCons (cTup (cCons (cV 14) (cCons (cC (.str "z")) cNil))) (cCons (cL (cLst (cCons (cC (.bl true)) (cCons (cC (.bl false)) (cCons (cV 14) cNil))))) cNil))) (cCons (cTup (cCons (cTup (cCons (cV 14) (cCons (cC (.int 0)) cNil))) (cCons (cL (cLst (cCons (cC (.bl true)) (cCons (cC (.bl false)) (cCons (cV 14) cNil))))) cNil))) cNil))))
    (cSeq (cFor (cW (cL (cLst (cCons (cC .non) (cCons (c1 gLen (cV 4)) (cCons (c2 gSub (cC (.int 0)) (cC (.int 1))) (cCons (cC (.bl true)) (cCons (cC (.str "0")) (cCons (cL (cLst (cCons (cC (.int 0)) cNil))) (cCons (cTup (cCons (cC (.int 0)) cNil)) cNil)))))))))) (gN 16)
    (cExpr (cApp 15 (cTup (cCons (cTup (cCons (cV 3) (cCons (cV 16) cNil))) (cCons (cL (cLst (cCons (cC (.bl false)) (cCons (cC (.bl true)) (cCons (cV 16) cNil))))) cNil))))))
    (cIfS (cOr (tOf (c2 gNe (cL (cCompP 15 [17] (gN 17) (tOf (c2 gNe (cCall 2 m_law_caught (cCons (cC (.int 0)) (cCons (c2 gIx (cV 17) (cC (.int 0))) cNil))) (c1 gRepr (c2 gIx (cV 17) (cC (.int 1)))))) (cV 17))) (cL (cLst cNil)))) (tOf (c2 gNe (c1 gRepr (cV 3)) (cV 6))))
    (cRet (cC (.bl false)))
    cSkip))))))))))
    (cRet (cC (.bl true))))
def m_law : Ev := runD 18 b_law
theorem C_law (T : Top P KK mg) : CalD P w KK mg base 12 "law" st_law ["script"] (spD KK 1 m_law) := by
  obtain ⟨f, fd, F, hm, hb⟩ := T.d_law.ex
  exact .mk F hm hb (okD F sc_law fun cdv A outer s H E hr hgd => (show SsD _ _ _ _ b_law from
    (ss_cons (sd_for (id_rng1 T.B.range (ad_cons pd_int ad_nil)) (gd_name 1 sc_law.nd)
    (ss_cons (sd_setO 2 sc_law.nd (fd_calC (C_law_generator T) (hr.mono (by decide)) hgd (takes_of rfl rfl rfl rfl) (ad_cons (pd_v 0) (ad_cons (pd_v 1) ad_nil))))
    (ss_cons (sd_set 3 sc_law.nd (pd_calR 2 (C_law_small T) (hr.mono (by decide)) hgd (takes_of rfl rfl rfl rfl) (ad_cons pd_int ad_nil)))
    (ss_cons (sd_asg (pd_tup (ad_cons (pd_calC (C_law_singles T) (hr.mono (by decide)) hgd (takes_of rfl rfl rfl rfl) (ad_cons (pd_v 3) ad_nil)) (ad_cons ((fd_calC (C_law_trees T) (hr.mono (by decide)) hgd (takes_of rfl rfl rfl rfl) (ad_cons (pd_v 3) ad_nil))).d (ad_cons (pd_repr T.B.repr hgd hr.units ((pd_v 3)).p) (ad_cons (pd_tup (ad_cons pd_int (ad_cons pd_int ad_nil))) ad_nil))))) (gd_tup (gs_cons (gd_name 4 sc_law.nd) (gs_cons (gd_name 5 sc_law.nd) (gs_cons (gd_name 6 sc_law.nd) (gs_cons (gd_name 7 sc_law.nd) gs_nil))))))
    (ss_cons (sd_for (id_enum T.B.enumerate (ad_cons (pd_v 4) ad_nil)) (gd_tup (gs_cons (gd_name 8 sc_law.nd) (gs_cons (gd_tup (gs_cons (gd_name 9 sc_law.nd) (gs_cons (gd_name 10 sc_law.nd) gs_nil))) gs_nil)))
    (ss_cons (sd_set 11 sc_law.nd (pd_calC (C_law_frac T) (hr.mono (by decide)) hgd (takes_of rfl rfl rfl rfl) (ad_cons (pd_len T.B.len (((fd_comp [("tree", 12)] sc_law.nd (id_seq (pd_v 5)) (fun _ _ _ _ _ => (gd_name 12 sc_law.nd)) (fun _ _ _ _ _ => (fs_one (td_cmp (cm_in hr.units) ((pd_v 8)).p ((pd_v 12)).p pu_v rfl))) (fun _ _ _ _ _ => (pd_v 12)) (by kernel_rfl))).d).p) (ad_cons (pd_len T.B.len ((pd_v 5)).p) ad_nil))))
    (ss_cons (sd_if (td_not (td_val (pd_calC (C_law_exact T) (hr.mono (by decide)) hgd (takes_of rfl rfl rfl rfl) (ad_cons ((fd_lst (ad_cons (pd_v 11) (ad_cons (pd_v 11) (ad_cons (pd_v 11) ad_nil))))).d (ad_cons ((fd_lst (ad_cons (pd_calC (C_tie_share T) (hr.mono (by decide)) hgd (takes_of rfl rfl rfl rfl) (ad_cons (pd_v 3) (ad_cons (pd_v 8) ad_nil))) (ad_cons (pd_calK0 (pm := [1, 0]) ["first", "web"] (C_tie_share T) (fun _ _ _ _ _ _ us ws h1 h2 => match us, ws, h1, h2 with | [], [_, _], _, _ => rfl) (hr.mono (by decide)) hgd (takes_of rfl rfl rfl rfl) (kd_cons (pd_v 8) (kd_cons (pd_v 3) kd_nil))) (ad_cons (pd_calC (C_stands_between T) (hr.mono (by decide)) hgd (takes_of rfl rfl rfl rfl) (ad_cons (pd_v 3) (ad_cons (pd_v 9) (ad_cons (pd_v 10) ad_nil)))) ad_nil))))).d ad_nil)))))
    (ss_one (sd_ret pd_bl))
    ss_nil)
    (ss_cons (sd_set 13 sc_law.nd (pd_not (pd_calC (C_law_hang T) (hr.mono (by decide)) hgd (takes_of rfl rfl rfl rfl) (ad_cons (pd_ix ((pd_v 3)).p pd_int pu_c) (ad_cons (pd_add (pd_sl ((pd_v 4)).p od_none (od_some (pd_v 8) pu_v)) (pd_sl ((pd_v 4)).p (od_some (pd_add (pd_v 8) pd_int) (pu_2 pu_v pu_c)) od_none)) ad_nil)))))
    (ss_cons (sd_if (td_cmp (cm_ne hr.units) ((pd_cmp (cm_eq hr.units) ((pd_v 11)).p ((pd_tup (ad_cons pd_int (ad_cons pd_int ad_nil)))).p (pu_tup (pu_cons pu_c (pu_cons pu_c pu_nil))) rfl)).p ((pd_v 13)).p pu_v rfl)
    (ss_one (sd_ret pd_bl))
    ss_nil)
    (ss_one (sd_set 7 sc_law.nd (pd_calC (C_law_add T) (hr.mono (by decide)) hgd (takes_of rfl rfl rfl rfl) (ad_cons (pd_v 7) (ad_cons (pd_v 11) ad_nil))))))))) (passes_of rfl))
    (ss_cons (sd_if (td_cmp (cm_ne hr.units) ((pd_v 7)).p ((pd_tup (ad_cons (pd_sub (pd_ix ((pd_v 3)).p pd_int pu_c) pd_int) (ad_cons pd_int ad_nil)))).p (pu_tup (pu_cons (pu_2 (pu_2 pu_v pu_c) pu_c) (pu_cons pu_c pu_nil))) rfl)
    (ss_one (sd_ret pd_bl))
    ss_nil)
    (ss_cons (sd_set 14 sc_law.nd (pd_calR 2 (C_law_no_web T) (hr.mono (by decide)) hgd (takes_of rfl rfl rfl rfl) (ad_cons (pd_v 3) ad_nil)))
    (ss_cons (sd_setO 15 sc_law.nd (fd_lst (ad_cons (pd_tup (ad_cons (pd_tup (ad_cons (pd_v 14) (ad_cons pd_str ad_nil))) (ad_cons ((fd_lst (ad_cons pd_bl (ad_cons pd_bl (ad_cons (pd_v 14) ad_nil))))).d ad_nil))) (ad_cons (pd_tup (ad_cons (pd_tup (ad_cons (pd_v 14) (ad_cons pd_int ad_nil))) (ad_cons ((fd_lst (ad_cons pd_bl (ad_cons pd_bl (ad_cons (pd_v 14) ad_nil))))).d ad_nil))) ad_nil))))
    (ss_cons (sd_for (id_seq ((fd_lst (ad_cons pd_non (ad_cons (pd_len T.B.len ((pd_v 4)).p) (ad_cons (pd_sub pd_int pd_int) (ad_cons pd_bl (ad_cons pd_str (ad_cons ((fd_lst (ad_cons pd_int ad_nil))).d (ad_cons (pd_tup (ad_cons pd_int ad_nil)) ad_nil))))))))).d) (gd_name 16 sc_law.nd)
    (ss_one (sd_expr (pd_append 15 (pd_tup (ad_cons (pd_tup (ad_cons (pd_v 3) (ad_cons (pd_v 16) ad_nil))) (ad_cons ((fd_lst (ad_cons pd_bl (ad_cons pd_bl (ad_cons (pd_v 16) ad_nil))))).d ad_nil)))))) (passes_of rfl))
    (ss_one (sd_if ((wd_or (td_cmp (cm_ne hr.units) (((fd_compP 15 [("ask", 17)] sc_law.nd (fun _ _ _ _ _ => (gd_name 17 sc_law.nd)) (fun _ _ _ _ _ => (fs_one (td_cmp (cm_ne hr.units) ((pd_calC (C_law_caught T) (hr.mono (by decide)) hgd takes_F (ad_cons pd_int (ad_cons (pd_ix ((pd_v 17)).p pd_int pu_c) ad_nil)))).p ((pd_repr T.B.repr hgd hr.units ((pd_ix ((pd_v 17)).p pd_int pu_c)).p)).p (pu_1 (pu_2 pu_v pu_c)) rfl))) (fun _ _ _ _ _ => (pd_v 17)) (by kernel_rfl))).d).p (((fd_lst ad_nil)).d).p (pu_L (pu_lst pu_nil)) rfl) (wd_or1 (td_cmp (cm_ne hr.units) ((pd_repr T.B.repr hgd hr.units ((pd_v 3)).p)).p ((pd_v 6)).p pu_v rfl)))).t
    (ss_one (sd_ret pd_bl))
    ss_nil)))))))))) (passes_of rfl))
    (ss_one (sd_ret pd_bl)))))
end
end PyD

set_option Elab.async false
set_option linter.all false
set_option maxRecDepth 100000
namespace PyD
open PySem PySem.Spec L2
open PyProof.Rows hiding St
section
variable {i j : Int} {z : D} {QF : Fl → Rho → Prop} {E : Nat → D → Prop} {ρ : Rho} {QR : Rho → Prop}
@[simp] theorem gAdd_int : gAdd (.int i) (.int j) = some (.int (i + j)) := rfl
@[simp] theorem gSub_int : gSub (.int i) (.int j) = some (.int (i - j)) := rfl
@[simp] theorem gMul_int : gMul (.int i) (.int j) = some z ↔ i.natAbs.log2 + j.natAbs.log2 < 1000000 ∧ z = .int (i * j) := by
  show (if _ then _ else _) = _ ↔ _
  split
  · rename_i h; exact ⟨fun e => ⟨h, by cases e; rfl⟩, fun e => by rw [e.2]⟩
  · rename_i h
    constructor
    · intro e; cases e
    · intro e; exact absurd e.1 h
@[simp] theorem gDiv_int : gDiv (.int i) (.int j) = some z ↔ (0 < j ∧ j.natAbs.log2 < 9000) ∧ z = .int (i / j) := by
  show (if _ then _ else _) = _ ↔ _
  split
  · rename_i h; exact ⟨fun e => ⟨h, by cases e; rfl⟩, fun e => by rw [e.2]⟩
  · rename_i h
    constructor
    · intro e; cases e
    · intro e; exact absurd e.1 h
theorem gMod_int (h : 0 < j) : gMod (.int i) (.int j) = some (.int (i % j)) := by
  show (if _ then _ else _) = _
  rw [if_pos h]
@[simp] theorem gInt_int : gInt [.int i] = some (.int i) := rfl
@[simp] theorem asB_bl {b : Bool} : asB (.bl b) = some b := rfl
@[simp] theorem gBits_int : gBits (.int i) = some (.int (Builtin.Int.intBits i : Nat)) := rfl
@[simp] theorem gIx_lst {ds : List D} : gIx (.lst ds) (.int i) = atI ds i := rfl
@[simp] theorem gIx_tup {ds : List D} : gIx (.tup ds) (.int i) = atI ds i := rfl
@[simp] theorem atI_3 {a b c : D} : atI [a, b, c] 0 = some a ∧ atI [a, b, c] 1 = some b ∧ atI [a, b, c] 2 = some c := ⟨rfl, rfl, rfl⟩
end
theorem log2_lt {i : Int} {k : Nat} (h0 : 0 ≤ i) (h : i < 2 ^ k) (hk : 0 < k) : i.natAbs.log2 < k := by
  by_cases z : i.natAbs = 0
  · rw [z]; simpa using hk
  · refine (Nat.log2_lt z).mpr ?_
    have : (i.natAbs : Int) = i := Int.natAbs_of_nonneg h0
    have h' : (i.natAbs : Int) < ((2 ^ k : Nat) : Int) := by rw [this]; simpa using h
    exact_mod_cast h'
theorem mul_small {a b : Int} (h1 : 0 ≤ a) (h2 : a < 2 ^ 200) (h3 : 0 ≤ b) (h4 : b < 2 ^ 200) : a.natAbs.log2 + b.natAbs.log2 < 1000000 := by
  have := log2_lt h1 h2 (by omega)
  have := log2_lt h3 h4 (by omega)
  omega
theorem lit2 {n : Nat} (h : n ≠ 0) (h2 : n < 2 ^ 200) : Nat.log2 n < 200 := (Nat.log2_lt h).mpr h2
theorem hash_ok {s c : Int} (hs : 0 ≤ s) (hs2 : s < 2147483647) (hc : 0 ≤ c) (hc2 : c < 2 ^ 60) : Wp (m_law_hash [.sh (.int s), .sh (.int c)]) (fun d _ => ∃ r : Int, d = .int r ∧ 0 ≤ r ∧ r < 2147483647) NoE := by
  unfold m_law_hash b_law_hash
  simp [wp_cSeq, full, outCells, gMod_int, isRf, and_assoc]
  have L : ∀ x : Int, 0 ≤ x → x < 2 ^ 200 → x.natAbs.log2 < 200 := fun x h1 h2 => log2_lt h1 h2 (by omega)
  have l1 := L s hs (by omega)
  have l2 := L c hc (by omega)
  have l3 := L (16777903 * c) (by omega) (by omega)
  have n1 : Nat.log2 1220147 < 200 := lit2 (by decide) (by decide)
  have n2 : Nat.log2 16777903 < 200 := lit2 (by decide) (by decide)
  have n3 : Nat.log2 223 < 200 := lit2 (by decide) (by decide)
  have n4 : Nat.log2 69019 < 200 := lit2 (by decide) (by decide)
  have n5 : Nat.log2 48271 < 200 := lit2 (by decide) (by decide)
  have l4 := L ((s * 1220147 + 16777903 * c * c + 223 * c + 97) % 2147483629) (Int.emod_nonneg _ (by decide)) (Int.lt_trans (Int.emod_lt_of_pos _ (by decide)) (by decide))
  have l5 := L (((s * 1220147 + 16777903 * c * c + 223 * c + 97) % 2147483629 * ((s * 1220147 + 16777903 * c * c + 223 * c + 97) % 2147483629) + 69019 * c + 32416187) % 2147483587) (Int.emod_nonneg _ (by decide)) (Int.lt_trans (Int.emod_lt_of_pos _ (by decide)) (by decide))
  refine ⟨by omega, by omega, by omega, by omega, by omega, by omega, by omega, Int.emod_nonneg _ (by decide), Int.emod_lt_of_pos _ (by decide)⟩
end PyD

set_option Elab.async false
set_option linter.all false
set_option maxRecDepth 100000
namespace PyD
open PySem PySem.Spec L2
open PyProof.Rows hiding St
section
variable {QF : Fl → Rho → Prop} {QL : List D → Rho → Prop} {Q : D → Rho → Prop} {E : Nat → D → Prop} {ρ : Rho} {QR : Rho → Prop} {tg : Gv} {body : Sv} {fs : Av} {fk : Ev}
@[simp] theorem wp_cFor {fi : Av} : Wp (cFor fi tg body ρ) QF E ↔ Wp (fi ρ) (fun ds ρ1 => Wp (forL tg body ds ρ1) QF E) E := by
  unfold cFor; rw [wp_bind]
def Turn (I : Rho → Prop) (QF : Fl → Rho → Prop) : Fl → Rho → Prop := fun fl ρ => match fl with
  | .nx => I ρ
  | .ct => I ρ
  | .bk => QF .nx ρ
  | .rt d => QF (.rt d) ρ
  | .rtF xs => QF (.rtF xs) ρ
@[simp] theorem turn_nx {I : Rho → Prop} : Turn I QF .nx ρ ↔ I ρ := Iff.rfl
@[simp] theorem turn_ct {I : Rho → Prop} : Turn I QF .ct ρ ↔ I ρ := Iff.rfl
@[simp] theorem turn_bk {I : Rho → Prop} : Turn I QF .bk ρ ↔ QF .nx ρ := Iff.rfl
@[simp] theorem turn_rt {I : Rho → Prop} {d : D} : Turn I QF (.rt d) ρ ↔ QF (.rt d) ρ := Iff.rfl
@[simp] theorem turn_rtF {I : Rho → Prop} {d : List D} : Turn I QF (.rtF d) ρ ↔ QF (.rtF d) ρ := Iff.rfl
theorem wg_bind {α : Type} {r : R Rho} {g : Rho → R (α × Rho)} {S : α → Rho → Prop} : Wp (r.bind g) S E ↔ Wg r (fun ρ => Wp (g ρ) S E) E := by
  cases r <;> exact Iff.rfl
theorem Wg.imp {r : R Rho} {Q Q' : Rho → Prop} {E' : Nat → D → Prop} (h : Wg r Q E) (f : ∀ ρ, Q ρ → Q' ρ) (g : ∀ c d, E c d → E' c d) : Wg r Q' E' := by
  cases r with
  | ok x => exact f _ h
  | exc c d => exact g _ _ h
  | bad => exact h
theorem forL_inv (I : Nat → Rho → Prop) : ∀ {ds : List D} {ρ : Rho} (k : Nat), I k ρ → (∀ j d ρ, ds[j]? = some d → I (k + j) ρ → Wg (tg d ρ) (fun ρ1 => Wp (body ρ1) (Turn (I (k + j + 1)) QF) E) E) → (∀ ρ, I (k + ds.length) ρ → QF .nx ρ) → Wp (forL tg body ds ρ) QF E
  | [], ρ, k, h0, _, hd => hd ρ h0
  | d :: ds, ρ, k, h0, hs, hd => by
    unfold forL
    rw [wg_bind]
    refine (hs 0 d ρ rfl h0).imp (fun ρ1 h => ?_) fun _ _ h => h
    rw [wp_bind]
    refine h.imp (fun fl ρ2 h => ?_) fun _ _ h => h
    have next : I (k + 1) ρ2 → Wp (forL tg body ds ρ2) QF E := fun hi => forL_inv I (k + 1) hi (fun j d ρ hj hI => by
      have := hs (j + 1) d ρ hj (by rw [show k + (j + 1) = k + 1 + j by omega]; exact hI)
      rw [show k + (j + 1) + 1 = k + 1 + j + 1 by omega] at this
      exact this) fun ρ h => hd ρ (by rw [show k + (d :: ds).length = k + 1 + ds.length by simp; omega]; exact h)
    cases fl with
    | nx => exact next h
    | ct => exact next h
    | bk => exact h
    | rt d => exact h
    | rtF xs => exact h
@[simp] theorem wp_cRng1 : Wp (cRng1 fs ρ) QL E ↔ Wp (fs ρ) (fun as ρ1 => ∃ j, as = [.int j] ∧ inR j = true ∧ QL (rangeD 0 j.toNat) ρ1) E := by
  unfold cRng1; rw [wp_bind]
  refine Iff.intro (fun h => h.imp (fun a ρ1 h => ?_) fun _ _ h => h) fun h => h.imp (fun a ρ1 h => ?_) fun _ _ h => h
  · revert h
    split
    · rename_i j e
      split
      · rename_i hj; exact fun h => ⟨j, e, hj, h⟩
      · exact fun h => h.elim
    · exact fun h => h.elim
  · obtain ⟨j, rfl, hj, q⟩ := h
    simp only [hj, if_true]
    exact q
@[simp] theorem wg_gS {i : Nat} {d : D} : Wg (gS i fk d ρ) QR E ↔ (∃ ds, ownL ρ i = some ds) ∧ Wp (fk ρ) (fun a ρ1 => ∃ k ds j, a = .int k ∧ ownL ρ1 i = some ds ∧ ixN ds.length k = some j ∧ QR (putL ρ1 i (ds.set j d))) NoE := by
  unfold gS
  cases h : ownL ρ i with
  | none => simp [Wg]
  | some ds0 =>
    simp only [Option.some.injEq, exists_eq', true_and]
    cases e : fk ρ with
    | bad => simp [Wg, Wp]
    | exc c d => simp [Wg, Wp, NoE]
    | ok x =>
      obtain ⟨a, ρ1⟩ := x
      cases a <;> simp [Wg, Wp]
      rename_i k
      cases h2 : ownL ρ1 i with
      | none => simp
      | some ds =>
        cases h3 : ixN ds.length k with
        | none => simp [h3]
        | some j => simp [h3]
end
end PyD

set_option Elab.async false
set_option linter.all false
set_option maxRecDepth 100000
namespace PyD
open PySem PySem.Spec L2
open PyProof.Rows hiding St
/-- the generator's list -/
def gen (a s c : Int) : D := .lst [.int a, .int s, .int c]
/-- where the generator stands, with at most n steps made -/
structure GenOk (a s c : Int) (n : Int) : Prop where
  a0 : 0 ≤ a
  s0 : 0 ≤ s
  s1 : s < 2147483647
  c0 : 0 ≤ c
  c1 : c ≤ n
theorem wp_cCall {n : Nat} {F : Ev} {fs : Av} {ρ : Rho} {Q : D → Rho → Prop} {E : Nat → D → Prop} : Wp (cCall n F fs ρ) Q E ↔ Wp (fs ρ) (fun as ρ1 => as.length = n ∧ Wp (F (shs as)) (fun d _ => Q d ρ1) E) E := by
  unfold cCall; rw [wp_bind]; simp only [wp_ite_bad, wp_bind, wp_ok]
@[simp] theorem gGt_int {i j : Int} : gGt (.int i) (.int j) = some (.bl (decide (i > j))) := by first | rfl | simp [gGt, gInts]
theorem rangeD_length {lo : Int} {n : Nat} : (rangeD lo n).length = n := by simp [rangeD]
theorem rangeD_get {lo : Int} {n j : Nat} {d : D} (h : (rangeD lo n)[j]? = some d) : j < n ∧ d = .int (lo + j) := by
  unfold rangeD at h
  rw [List.getElem?_map] at h
  obtain ⟨k, hk, rfl⟩ := Option.map_eq_some_iff.mp h
  obtain ⟨h1, h2⟩ := List.getElem?_eq_some_iff.mp hk
  rw [List.getElem_range] at h2
  subst h2
  rw [List.length_range] at h1
  exact ⟨h1, rfl⟩
theorem random_ok {a s c b n : Int} (g : GenOk a s c n) (hn : n + 3 < 2 ^ 60) (hb : 0 < b) (hb2 : b < 2 ^ 60) :
    Wp (m_law_random [.rf (gen a s c), .sh (.int b)]) (fun d ρ => ∃ r a' c' : Int, d = .int r ∧ 0 ≤ r ∧ r < b ∧ ρ = [.rf (gen a' s c'), .sh (.int b)] ∧ GenOk a' s c' (n + 3)) NoE := by
  have hbl : b.natAbs.log2 < 60 := log2_lt (by omega) hb2 (by omega)
  unfold m_law_random b_law_random gen
  by_cases ha : 0 < a
  · simp [wp_cSeq, full, outCells, gMod_int hb, isRf, and_assoc, cellD, atI, ixN, ha, ownL, putL, sameKind, outCell, hb]
    exact ⟨by omega, Int.emod_nonneg _ (by omega), Int.emod_lt_of_pos _ hb, Int.ediv_nonneg (by omega) (by omega), g.s0, g.s1, g.c0, by have := g.c1; omega⟩
  · have n30 : Nat.log2 30 < 200 := lit2 (by decide) (by decide)
    have hB : Builtin.Int.intBits b ≤ 60 := by
      unfold Builtin.Int.intBits
      split <;> omega
    simp [wp_cSeq, full, outCells, gMod_int hb, isRf, and_assoc, cellD, atI, ixN, ha, ownL, putL, sameKind, outCell, hb]
    have hm : (1 + (Builtin.Int.intBits b : Int) / 30).toNat ≤ 3 := by omega
    refine ⟨by omega, ?_, ?_⟩
    · unfold inR
      simp
      omega
    generalize (1 + (Builtin.Int.intBits b : Int) / 30).toNat = m at hm
    refine forL_inv (fun k ρ => ∃ (c' dr : Int) (x : Cell), ρ = [.rf (gen a s c'), .sh (.int b), .sh (.int dr), x] ∧ isRf x = false ∧ 0 ≤ dr ∧ dr < 2 ^ (32 * k) ∧ 0 ≤ c' ∧ c' ≤ n + k) 0 ⟨c, 0, .no, rfl, rfl, by omega, by simp, g.c0, by have := g.c1; simpa using this⟩ ?_ ?_
    · rintro j d ρ hj ⟨c', dr, x, rfl, hx, h1, h2, h3, h4⟩
      obtain ⟨hjm, rfl⟩ := rangeD_get hj
      have nL : Nat.log2 2147483587 < 200 := lit2 (by decide) (by decide)
      have hd : dr < 2 ^ 100 := by
        rcases (by omega : j = 0 ∨ j = 1 ∨ j = 2) with rfl | rfl | rfl <;> simp at h2 <;> omega
      have dL := log2_lt h1 hd (by omega)
      have hc : c' + 1 < 2 ^ 60 := by omega
      simp [wp_cSeq, full, outCells, gMod_int hb, isRf, and_assoc, cellD, atI, ixN, ownL, putL, sameKind, outCell, hb, gen, hx, wp_cCall, shs]
      refine ⟨?_, by omega, (hash_ok g.s0 g.s1 (by omega) hc).imp ?_ fun _ _ h => h.elim⟩
      · exact hx
      rintro h _ ⟨r, rfl, r1, r2⟩
      simp
      refine ⟨by omega, ?_, by omega, by omega⟩
      rcases (by omega : j = 0 ∨ j = 1 ∨ j = 2) with rfl | rfl | rfl <;> simp at h2 ⊢ <;> omega
    · rintro ρ ⟨c', dr, x, rfl, hx, h1, h2, h3, h4⟩
      rw [rangeD_length] at h4
      simp [wp_cSeq, full, outCells, gMod_int hb, isRf, and_assoc, cellD, atI, ixN, ha, ownL, putL, sameKind, outCell, hb, gen]
      exact ⟨Int.emod_nonneg _ (by omega), Int.emod_lt_of_pos _ hb, g.a0, g.s0, g.s1, h3, by omega⟩
end PyD
namespace PyD
open PySem PySem.Spec L2
/-- what a step of the generator leaves -/
theorem wp_rnd {i : Nat} {fs : Av} {ρ ρ1 : Rho} {Q : D → Rho → Prop} {E : Nat → D → Prop} {a s c b n : Int} {c0 : D} (h0 : lent1 ρ i = some c0) (hf : fs ρ = .ok ([.int b], ρ1)) (h1 : lent1 ρ1 i = some (gen a s c)) (g : GenOk a s c n) (hn : n + 3 < 2 ^ 60) (hb : 0 < b) (hb2 : b < 2 ^ 60)
    (k : ∀ r a' c' : Int, 0 ≤ r → r < b → GenOk a' s c' (n + 3) → Q (.int r) (setK ρ1 i (gen a' s c'))) : Wp (cCallR i 2 m_law_random fs ρ) Q E := by
  obtain ⟨d, ρ', e, r, a', c', rfl, r1, r2, rfl, g'⟩ := (random_ok g hn hb hb2).out
  unfold cCallR
  rw [h0]
  simp only [hf, noExc, R.bind, h1, List.length_cons, List.length_nil, shs, List.map_cons, List.map_nil, e]
  exact k r a' c' r1 r2 g'
end PyD

set_option Elab.async false
set_option linter.all false
set_option maxRecDepth 100000
namespace PyD
open PySem PySem.Spec L2
open PyProof.Rows hiding St
section
variable {QL : List D → Rho → Prop} {QD : D → Rho → Prop} {E : Nat → D → Prop} {ρ : Rho} {f : Sv} {i j : Int}
@[simp] theorem wp_runF {n : Nat} {as : Rho} : Wp (runF n f as) QL E ↔ Wp (f (full n as)) (fun fl ρ' => ∃ ds, fl = .rtF ds ∧ QL ds (outCells as ρ')) (fun c d => as.all isSh = true ∧ E c d) := by
  unfold runF
  cases h : f (full n as) with
  | ok x => obtain ⟨fl, ρ'⟩ := x; cases fl <;> simp [Wp]
  | exc c d => by_cases z : as.all isSh = true <;> simp [Wp, z]
  | bad => simp [Wp]
@[simp] theorem gLt_int : gLt (.int i) (.int j) = some (.bl (decide (i < j))) := rfl
@[simp] theorem gGe_int : gGe (.int i) (.int j) = some (.bl (decide (j ≤ i))) := rfl
theorem gPow_int (h : 0 ≤ j ∧ (Builtin.Int.intBits i : Int) * j ≤ 2 ^ 27) : gPow (.int i) (.int j) = some (.int (i ^ j.toNat)) := by
  show (if _ then _ else _) = _
  rw [if_pos h]
theorem pow18 : gPow (.int 10) (.int 18) = some (.int (10 ^ 18)) := gPow_int (by decide +kernel)
theorem pow60 : gPow (.int 10) (.int 60) = some (.int (10 ^ 60)) := gPow_int (by decide +kernel)
theorem pow600 : ∃ M : Int, 0 < M ∧ gPow (.int 1000000000000000000000000000000000000000000000000000000000000) (.int 10) = some (.int M) := ⟨_, Int.pow_pos (by decide), gPow_int (by decide +kernel)⟩
/-- a slice's bound -/
def Wb (r : R (Option Int)) (Q : Option Int → Prop) (E : Nat → D → Prop) : Prop := match r with
  | .ok o => Q o
  | .exc c d => E c d
  | .bad => False
theorem wb_bind {α : Type} {r : R (Option Int)} {g : Option Int → R (α × Rho)} {Q : α → Rho → Prop} : Wp (r.bind g) Q E ↔ Wb r (fun o => Wp (g o) Q E) E := by cases r <;> exact Iff.rfl
@[simp] theorem wb_cNo {QO : Option Int → Prop} : Wb (cNo ρ) QO E ↔ QO none := Iff.rfl
@[simp] theorem wb_cSome {QO : Option Int → Prop} {fa : Ev} : Wb (cSome fa ρ) QO E ↔ Wp (fa ρ) (fun a _ => ∃ k, a = .int k ∧ QO (some k)) E := by
  unfold cSome
  cases h : fa ρ with
  | bad => simp [Wb, Wp]
  | exc c d => simp [Wb, Wp]
  | ok x => obtain ⟨a, ρ1⟩ := x; cases a <;> simp [Wb, Wp]
@[simp] theorem wp_cSl {fa : Ev} {l h : Bv} : Wp (cSl fa l h ρ) QD E ↔ Wp (fa ρ) (fun x ρ1 => Wb (l ρ1) (fun lo => Wb (h ρ1) (fun hi => ∃ z, gSl lo hi x = some z ∧ QD z ρ1) E) E) E := by
  unfold cSl; rw [wp_bind]; simp only [wb_bind, wp_opt]
theorem atI_nat {α : Type} {xs : List α} {k : Nat} (h : k < xs.length) : atI xs (k : Int) = some xs[k] := by
  unfold atI ixN
  simp [h]
theorem gMod_pos (h : 0 < j) : gMod (.int i) (.int j) = some (.int (i % j)) := gMod_int h
theorem cell_ok {ns : List Int} {k : Nat} : Wp (m_law_cell [.sh (.scr ns), .sh (.int k)]) (fun d _ => ∃ i : Int, d = .int i) NoE := by
  unfold m_law_cell b_law_cell
  by_cases h : k < ns.length
  · simp [wp_cSeq, full, outCells, and_assoc, h, gLen, gIx, atI_nat h]
  · have e : intsOf (cutD (ns.map .int) none (some 1)) = some ((ns.drop (HT.sIx ns.length 0 none)).take (HT.sIx ns.length ns.length (some 1) - HT.sIx ns.length 0 none)) := by
      unfold cutD
      rw [← List.map_drop, ← List.map_take, intsOf_map, List.length_map]
    simp [wp_cSeq, full, outCells, and_assoc, h, gLen, gSl, gSum, e, gMod_int (by decide : (0 : Int) < 1000003)]
theorem generator_ok {ns : List Int} {k : Nat} (hk : k < 2 ^ 40) : Wp (m_law_generator [.sh (.scr ns), .sh (.int k)]) (fun ds _ => ∃ a s : Int, ds = [.int a, .int s, .int (1000 * k)] ∧ GenOk a s (1000 * k) (1000 * k)) NoE := by
  unfold m_law_generator b_law_generator
  simp [wp_cSeq, full, outCells, and_assoc, wp_cCall, shs]
  refine cell_ok.imp ?_ fun _ _ h => h.elim
  rintro _ _ ⟨i, rfl⟩
  obtain ⟨M, p0, pw⟩ := pow600
  have m1 := gMod_int (i := i) (by decide : (0 : Int) < 2147483647)
  have n1 : Nat.log2 1000 < 200 := lit2 (by decide) (by decide)
  have n2 : (k : Int).natAbs.log2 < 200 := log2_lt (by omega) (by omega) (by omega)
  simp [isRf, pow18, pow60, pw, gMax, gMod_int p0, m1, and_assoc]
  exact ⟨by simp at n2; omega, by decide +kernel, Int.emod_nonneg _ (by omega), Int.emod_nonneg _ (by decide), Int.emod_lt_of_pos _ (by decide), by omega, Int.le_refl _⟩
end
end PyD

set_option Elab.async false
set_option linter.all false
set_option maxRecDepth 100000
namespace PyD
open PySem PySem.Spec L2
open PyProof.Rows hiding St
section
variable {QL : List D → Rho → Prop} {QD : D → Rho → Prop} {QB : Bool → Rho → Prop} {E : Nat → D → Prop} {ρ : Rho} {i j : Int} {vs : List Nat} {tg : Gv} {tt : Tv} {elt : Ev} {fs : Av}
@[simp] theorem wp_cYes : Wp (cYes ρ) QB E ↔ QB true ρ := Iff.rfl
theorem compL_inv (I : Nat → List D → Rho → Prop) : ∀ {ds acc : List D} {ρ : Rho} (k : Nat), I k acc ρ →
    (∀ j d acc ρ, ds[j]? = some d → I (k + j) acc ρ → Wg (tg d (wipeR ρ vs)) (fun ρ1 => Wp (tt ρ1) (fun b ρ2 => (b = true → Wp (elt ρ2) (fun y ρ3 => acc.length < sizeLine ∧ I (k + j + 1) (acc ++ [y]) ρ3) E) ∧ (b = false → I (k + j + 1) acc ρ2)) E) E) →
    (∀ acc ρ, I (k + ds.length) acc ρ → QL acc ρ) → Wp (compL vs tg tt elt ds acc ρ) QL E
  | [], acc, ρ, k, h0, _, hd => hd acc ρ h0
  | d :: ds, acc, ρ, k, h0, hs, hd => by
    have next : ∀ {acc' : List D} {ρ2 : Rho}, I (k + 1) acc' ρ2 → Wp (compL vs tg tt elt ds acc' ρ2) QL E := fun hi => compL_inv I (k + 1) hi (fun j d acc ρ hj hI => by
      have := hs (j + 1) d acc ρ hj (by rw [show k + (j + 1) = k + 1 + j by omega]; exact hI)
      rw [show k + (j + 1) + 1 = k + 1 + j + 1 by omega] at this
      exact this) fun acc ρ h => hd acc ρ (by rw [show k + (d :: ds).length = k + 1 + ds.length by simp; omega]; exact h)
    unfold compL
    rw [wg_bind]
    refine (hs 0 d acc ρ rfl h0).imp (fun ρ1 h => ?_) fun _ _ h => h
    rw [wp_bind]
    refine h.imp (fun b ρ2 h => ?_) fun _ _ h => h
    cases b with
    | false => exact next (h.2 rfl)
    | true =>
      have h1 := h.1 rfl
      simp only [if_true]
      rw [wp_bind]
      refine h1.imp (fun y ρ3 h => ?_) fun _ _ h => h
      rw [wp_ite_bad]
      exact ⟨h.1, next h.2⟩
@[simp] theorem wp_cComp : Wp (cComp vs fs tg tt elt ρ) QL E ↔ Wp (fs ρ) (fun ds ρ1 => noOw ρ1 vs = true ∧ Wp (compL vs tg tt elt ds [] ρ1) (fun out ρ2 => QL out (restR ρ1 ρ2 vs)) NoE) E := by
  unfold cComp; rw [wp_bind]
  simp only [wp_ite_bad, wp_noExc, wp_map]
@[simp] theorem wp_cRng2 : Wp (cRng2 fs ρ) QL E ↔ Wp (fs ρ) (fun as ρ1 => ∃ i j, as = [.int i, .int j] ∧ (inR i = true ∧ inR j = true) ∧ QL (rangeD i (j - i).toNat) ρ1) E := by
  unfold cRng2; rw [wp_bind]
  refine Iff.intro (fun h => h.imp (fun a ρ1 h => ?_) fun _ _ h => h) fun h => h.imp (fun a ρ1 h => ?_) fun _ _ h => h
  · revert h
    split
    · rename_i i j e
      split
      · rename_i hj; exact fun h => ⟨i, j, e, hj, h⟩
      · exact fun h => h.elim
    · exact fun h => h.elim
  · obtain ⟨i, j, rfl, hj, q⟩ := h
    simp only [hj, and_self, if_true]
    exact q
@[simp] theorem wp_cSetO {k : Nat} {QF : Fl → Rho → Prop} : Wp (cSetO k fs ρ) QF E ↔ Wp (fs ρ) (fun ds ρ1 => ∃ c, ρ1[k]? = some c ∧ isRf c = false ∧ QF .nx (ρ1.set k (.ow (.lst ds)))) E := by
  unfold cSetO
  rw [wp_bind]
  refine Iff.intro (fun h => h.imp (fun a ρ1 h => ?_) fun _ _ h => h) fun h => h.imp (fun a ρ1 h => ?_) fun _ _ h => h
  · unfold putOw at h
    cases e : ρ1[k]? with
    | none => rw [e] at h; exact h.elim
    | some c => rw [e] at h; cases c <;> simp [Wp, R.map, isRf] at h ⊢ <;> exact h
  · obtain ⟨c, e, h1, h2⟩ := h
    unfold putOw
    rw [e]
    cases c <;> simp [Wp, R.map, isRf] at h1 ⊢ <;> exact h2
@[simp] theorem wp_cR {k : Nat} : Wp (cR k ρ) QD E ↔ ∃ c, ρ[k]? = some c ∧ ((∃ d, c = .sh d ∧ QD d ρ) ∨ (∃ d, c = .ow d ∧ QD d (ρ.set k (.sh d)))) := by
  unfold cR
  cases e : ρ[k]? with
  | none => simp [Wp]
  | some c => cases c <;> simp [Wp]
end
end PyD

set_option Elab.async false
set_option linter.all false
set_option maxRecDepth 100000
namespace PyD
open PySem PySem.Spec L2
open PyProof.Rows hiding St
/-! ### data compared -/
def eqDs (ds es : List D) : Bool := PyData.eqvAll (toPyAll ds) (toPyAll es)
section
variable {i j : Int} {a b : Bool} {d e : D} {ds es : List D} {x y : Str}
@[simp] theorem eqD_int : eqD (.int i) (.int j) = (i == j) := by simp [eqD, toPy, PyData.eqv]
@[simp] theorem eqD_str : eqD (.str x) (.str y) = (x == y) := by simp [eqD, toPy, PyData.eqv]
@[simp] theorem eqD_bl : eqD (.bl a) (.bl b) = (a == b) := by simp [eqD, toPy, PyData.eqv]
@[simp] theorem eqD_non : eqD .non .non = true := by simp [eqD, toPy, PyData.eqv]
@[simp] theorem eqD_tup : eqD (.tup ds) (.tup es) = eqDs ds es := by simp [eqD, eqDs, toPy, PyData.eqv]
@[simp] theorem eqD_lst : eqD (.lst ds) (.lst es) = eqDs ds es := by simp [eqD, eqDs, toPy, PyData.eqv]
@[simp] theorem eqDs_nil : eqDs [] [] = true := by simp [eqDs, toPyAll, PyData.eqvAll]
@[simp] theorem eqDs_cons : eqDs (d :: ds) (e :: es) = (eqD d e && eqDs ds es) := by simp [eqD, eqDs, toPyAll, PyData.eqvAll]
@[simp] theorem eqDs_nl : eqDs [] (e :: es) = false := by simp [eqDs, toPyAll, PyData.eqvAll]
@[simp] theorem eqDs_nr : eqDs (d :: ds) [] = false := by simp [eqDs, toPyAll, PyData.eqvAll]
@[simp] theorem inD_nil : inD d [] = false := by simp [inD, toPyAll]
@[simp] theorem inD_cons : inD d (e :: es) = (eqD e d || inD d es) := by simp [inD, toPyAll, eqD]
theorem gEq_ok (h : cmpD d = true) (h' : cmpD e = true) : gEq d e = some (.bl (eqD d e)) := by unfold gEq; rw [if_pos ⟨h, h'⟩]
theorem gNe_ok (h : cmpD d = true) (h' : cmpD e = true) : gNe d e = some (.bl (!eqD d e)) := by unfold gNe; rw [if_pos ⟨h, h'⟩]
@[simp] theorem gEq_int : gEq (.int i) (.int j) = some (.bl (i == j)) := by rw [gEq_ok rfl rfl, eqD_int]
@[simp] theorem gNe_int : gNe (.int i) (.int j) = some (.bl (!(i == j))) := by rw [gNe_ok rfl rfl, eqD_int]
theorem gIn_lst (h : cmpD (.tup ds) = true) (h' : cmpD (.lst es) = true) : gIn false (.tup ds) (.lst es) = some (.bl (inD (.tup ds) es)) := by
  show (match itemsD (.lst es) with | some es => if cmpD (.tup ds) = true ∧ cmpD (.lst es) = true then _ else none | none => none) = _
  simp [itemsD, h, h']
end
/-! ### a web's ties -/
abbrev Tie := Int × Int × Int
def tieD (t : Tie) : D := .tup [.int t.1, .int t.2.1, .int t.2.2]
def tiesD (ts : List Tie) : List D := ts.map tieD
theorem plN_tie (n : Nat) (t : Tie) : plN (n + 1) (tieD t) = true := by simp [tieD, plN, plNs]
theorem plNs_ties (n : Nat) : ∀ ts : List Tie, plNs (n + 1) (tiesD ts) = true
  | [] => by simp [tiesD, plNs]
  | t :: ts => by
    have := plNs_ties n ts
    simp only [tiesD, List.map_cons, plNs, Bool.and_eq_true]
    exact ⟨plN_tie n t, this⟩
theorem cmp_ties (ts : List Tie) : cmpD (.lst (tiesD ts)) = true := by
  show plN 20 _ = true
  simp only [plN]
  exact plNs_ties 18 ts
/-- the ties that _law_web puts together: proper, each pair once, each point but the first tied to a lower one -/
structure Rows (many most : Int) (ts : List Tie) : Prop where
  ok : ∀ t ∈ ts, 0 ≤ t.1 ∧ t.1 < t.2.1 ∧ t.2.1 < many ∧ 1 ≤ t.2.2 ∧ t.2.2 ≤ most
  once : (ts.map fun t => (t.1, t.2.1)).Nodup
  low : ∀ p : Int, 0 < p → p < many → ∃ t ∈ ts, t.2.1 = p
end PyD

set_option Elab.async false
set_option linter.all false
set_option maxRecDepth 100000
namespace PyD
open PySem PySem.Spec L2
open PyProof.Rows hiding St
/-- one tie's place before another's -/
def tieLt (t u : Tie) : Bool := decide (t.1 < u.1) || (decide (t.1 = u.1) && (decide (t.2.1 < u.2.1) || (decide (t.2.1 = u.2.1) && decide (t.2.2 < u.2.2))))
/-theorem lx (x y : Int) (r t : List (Int ⊕ List Nat)) : PyProof.Rows.lexLt itemOrd (.inl x :: r) (.inl y :: t) = (decide (x < y) || (!decide (y < x) && PyProof.Rows.lexLt itemOrd r t)) := rfl
-/
theorem leD_tie (t u : Tie) : leD (tieD t) (tieD u) = !tieLt u t := by
  obtain ⟨a, b, c⟩ := t
  obtain ⟨d, e, f⟩ := u
  have h : leD (tieD (a, b, c)) (tieD (d, e, f)) = !PyProof.Rows.lexLt itemOrd [.inl 1, .inl d, .inl 1, .inl e, .inl 1, .inl f, .inl 0] [.inl 1, .inl a, .inl 1, .inl b, .inl 1, .inl c, .inl 0] := by
    simp [leD, tieD, PySem.W.dataLe, PySem.W.sortLe, toPy, toPyAll, PySem.W.keyToks, PySem.W.keyToksAll]
  have h' : PyProof.Rows.lexLt itemOrd [.inl 1, .inl d, .inl 1, .inl e, .inl 1, .inl f, .inl 0] [.inl 1, .inl a, .inl 1, .inl b, .inl 1, .inl c, .inl 0] = (decide ((1 : Int) < 1) || (!decide ((1 : Int) < 1) && (decide (d < a) || (!decide (a < d) && (decide ((1 : Int) < 1) || (!decide ((1 : Int) < 1) && (decide (e < b) || (!decide (b < e) && (decide ((1 : Int) < 1) || (!decide ((1 : Int) < 1) && (decide (f < c) || (!decide (c < f) && (decide ((0 : Int) < 0) || (!decide ((0 : Int) < 0) && false)))))))))))))) := rfl
  rw [h, h']
  simp only [tieLt]
  congr 1
  by_cases h1 : d < a
  · simp [h1]
  · by_cases h2 : d = a
    · subst h2
      by_cases h3 : e < b
      · simp [h3]
      · by_cases h4 : e = b
        · subst h4; simp
        · have : b < e := by omega
          simp [h3, h4, this]
    · have : a < d := by omega
      simp [h1, h2, this]
end PyD

set_option Elab.async false
set_option linter.all false
set_option maxRecDepth 100000
namespace PyD
open PySem PySem.Spec L2
open PyProof.Rows hiding St
section
variable {QR : Rho → Prop} {QL : List D → Rho → Prop} {E : Nat → D → Prop} {ρ : Rho} {d : D} {ds : List D} {g : Gv} {h : List D → Rho → R Rho} {vs : List Nat} {tg : Gv} {tt : Tv} {elt : Ev}
@[simp] theorem wg_gT {n : Nat} : Wg (gT n h (.tup ds) ρ) QR E ↔ ds.length = n ∧ Wg (h ds ρ) QR E := by
  show Wg (if ds.length = n then h ds ρ else .bad) QR E ↔ _
  by_cases e : ds.length = n <;> simp [e, Wg]
@[simp] theorem wg_cons : Wg (gConsD g h (d :: ds) ρ) QR E ↔ Wg (g d ρ) (fun ρ1 => Wg (h ds ρ1) QR E) E := by
  show Wg ((g d ρ).bind fun ρ1 => h ds ρ1) QR E ↔ _
  cases g d ρ <;> exact Iff.rfl
@[simp] theorem wg_nil : Wg (gNilD [] ρ) QR E ↔ QR ρ := Iff.rfl
theorem wp_cCompP {i : Nat} (h1 : ρ[i]? = some (.ow (.lst ds))) (h2 : noOw (ρ.set i .no) vs = true)
    (h3 : Wp (compL vs tg tt elt ds [] (ρ.set i .no)) (fun out ρ2 => (restR (ρ.set i .no) ρ2 vs)[i]? = some .no ∧ QL out ((restR (ρ.set i .no) ρ2 vs).set i (.ow (.lst ds)))) NoE) : Wp (cCompP i vs tg tt elt ρ) QL E := by
  obtain ⟨out, ρ2, e, h4, h5⟩ := h3.out
  unfold cCompP
  rw [h1]
  simp only [h2, if_true, e, h4]
  exact h5
end
@[simp] theorem wp_cApp {i : Nat} {f : Ev} {ρ : Rho} {Q : D → Rho → Prop} {E : Nat → D → Prop} : Wp (cApp i f ρ) Q E ↔ (∃ ds, ownL ρ i = some ds) ∧ Wp (f ρ) (fun d ρ1 => ∃ ds, ownL ρ1 i = some ds ∧ ds.length < sizeLine ∧ Q .non (putL ρ1 i (ds ++ [d]))) E := by
  unfold cApp
  cases h : ownL ρ i with
  | none => simp [Wp]
  | some ds0 =>
    simp only [Option.some.injEq, exists_eq', true_and]
    rw [wp_bind]
    have e : ∀ (d : D) (ρ1 : Rho), Wp (match ownL ρ1 i with | some ds => if ds.length < sizeLine then R.ok (D.non, putL ρ1 i (ds ++ [d])) else .bad | none => .bad) Q E ↔ ∃ ds, ownL ρ1 i = some ds ∧ ds.length < sizeLine ∧ Q .non (putL ρ1 i (ds ++ [d])) := fun d ρ1 => by
      cases h2 : ownL ρ1 i with
      | none => simp [Wp]
      | some ds =>
        by_cases hz : ds.length < sizeLine <;> simp [hz, Wp]
    exact ⟨fun h => h.imp (fun a ρ h => (e a ρ).mp h) fun _ _ h => h, fun h => h.imp (fun a ρ h => (e a ρ).mpr h) fun _ _ h => h⟩
theorem GenOk.mono {a s c n m : Int} (g : GenOk a s c n) (h : n ≤ m) : GenOk a s c m := ⟨g.a0, g.s0, g.s1, g.c0, Int.le_trans g.c1 h⟩
/-- a tie between p and q -/
def onP (p q : Int) (t : Tie) : Bool := (p == t.1 && q == t.2.1) || (q == t.1 && p == t.2.1)
theorem tie_cut {t : Tie} : gSl none (some 2) (tieD t) = some (.tup [.int t.1, .int t.2.1]) := by
  unfold gSl tieD
  rfl
theorem tie_in {p q : Int} {t : Tie} : gIn false (.tup [.int t.1, .int t.2.1]) (.lst [.tup [.int p, .int q], .tup [.int q, .int p]]) = some (.bl (onP p q t)) := by
  rw [gIn_lst rfl rfl]
  simp [onP]
theorem Rows.nil {T : Int} : Rows 1 T [] := ⟨(fun t h => by cases h), List.nodup_nil, (fun p h1 h2 => by omega)⟩
theorem Rows.point {m T l x : Int} {ts : List Tie} (h : Rows m T ts) (hl : 0 ≤ l) (hl2 : l < m) (hx : 1 ≤ x) (hx2 : x ≤ T) : Rows (m + 1) T (ts ++ [(l, m, x)]) := by
  refine ⟨fun t ht => ?_, ?_, fun p h1 h2 => ?_⟩
  · rcases List.mem_append.mp ht with ht | ht
    · obtain ⟨a, b, c, d, e⟩ := h.ok t ht
      exact ⟨a, b, by omega, d, e⟩
    · have := List.mem_singleton.mp ht
      subst this
      exact ⟨hl, hl2, by show m < m + 1; omega, hx, hx2⟩
  · rw [List.map_append]
    refine List.nodup_append.mpr ⟨h.once, by simp, fun p hp q hq e => ?_⟩
    obtain ⟨t, ht, rfl⟩ := List.mem_map.mp hp
    have hq := List.mem_singleton.mp (by simpa using hq)
    have := (h.ok t ht).2.2.1
    rw [hq] at e
    have e2 : t.2.1 = m := congrArg Prod.snd e
    omega
  · by_cases e : p = m
    · exact ⟨(l, m, x), List.mem_append_right _ (List.mem_singleton.mpr rfl), e.symm⟩
    · obtain ⟨t, ht, e2⟩ := h.low p h1 (by omega)
      exact ⟨t, List.mem_append_left _ ht, e2⟩
theorem Rows.join {m T l k x : Int} {ts : List Tie} (h : Rows m T ts) (hl : 0 ≤ l) (hk : l < k) (hm : k < m) (hx : 1 ≤ x) (hx2 : x ≤ T) (hn : ∀ t ∈ ts, ¬ (t.1 = l ∧ t.2.1 = k)) : Rows m T (ts ++ [(l, k, x)]) := by
  refine ⟨fun t ht => ?_, ?_, fun p h1 h2 => ?_⟩
  · rcases List.mem_append.mp ht with ht | ht
    · exact h.ok t ht
    · have := List.mem_singleton.mp ht
      subst this
      exact ⟨hl, hk, hm, hx, hx2⟩
  · rw [List.map_append]
    refine List.nodup_append.mpr ⟨h.once, by simp, fun p hp q hq e => ?_⟩
    obtain ⟨t, ht, rfl⟩ := List.mem_map.mp hp
    have hq := List.mem_singleton.mp (by simpa using hq)
    rw [hq] at e
    exact hn t ht ⟨congrArg Prod.fst e, congrArg Prod.snd e⟩
  · obtain ⟨t, ht, e2⟩ := h.low p h1 h2
    exact ⟨t, List.mem_append_left _ ht, e2⟩
end PyD

set_option Elab.async false
set_option linter.all false
set_option maxRecDepth 100000
namespace PyD
open PySem PySem.Spec L2
open PyProof.Rows hiding St
def tieLe (t u : Tie) : Bool := !tieLt u t
theorem tieLe_trans (a b c : Tie) (h : tieLe a b = true) (h' : tieLe b c = true) : tieLe a c = true := by
  obtain ⟨a1, a2, a3⟩ := a
  obtain ⟨b1, b2, b3⟩ := b
  obtain ⟨c1, c2, c3⟩ := c
  simp [tieLe, tieLt] at h h' ⊢
  omega
theorem tieLe_total (a b : Tie) : (tieLe a b || tieLe b a) = true := by
  obtain ⟨a1, a2, a3⟩ := a
  obtain ⟨b1, b2, b3⟩ := b
  simp [tieLe, tieLt]
  omega
def sortT (ts : List Tie) : List Tie := ts.mergeSort tieLe
theorem sortT_perm (ts : List Tie) : (sortT ts).Perm ts := List.mergeSort_perm ts tieLe
theorem sortT_pair (ts : List Tie) : (sortT ts).Pairwise fun a b => tieLe a b = true := List.pairwise_mergeSort tieLe_trans tieLe_total ts
theorem sort_ties (ts : List Tie) : (tiesD ts).mergeSort leD = tiesD (sortT ts) := by
  unfold tiesD sortT
  exact (List.map_mergeSort fun a _ b _ => (leD_tie a b).symm).symm
end PyD

set_option Elab.async false
set_option linter.all false
set_option maxRecDepth 100000
namespace PyD
open PySem PySem.Spec L2
open PyProof.Rows hiding St
section
variable {QL : List D → Rho → Prop} {QD : D → Rho → Prop} {E : Nat → D → Prop} {ρ : Rho} {fa : Ev} {fs : Av}
@[simp] theorem wp_cW : Wp (cW fa ρ) QL E ↔ Wp (fa ρ) (fun d ρ1 => ∃ ds, walkD d = some ds ∧ QL ds ρ1) E := by
  unfold cW; rw [wp_bind]
  have e : ∀ (d : D) (ρ1 : Rho), Wp (match walkD d with | some ds => R.ok (ds, ρ1) | none => .bad) QL E ↔ ∃ ds, walkD d = some ds ∧ QL ds ρ1 := fun d ρ1 => by
    cases walkD d <;> simp [wp_cSeq, Wp]
  exact ⟨fun h => h.imp (fun a ρ h => (e a ρ).mp h) fun _ _ h => h, fun h => h.imp (fun a ρ h => (e a ρ).mpr h) fun _ _ h => h⟩
@[simp] theorem wp_cCF {r : List D → Option (List D)} : Wp (cCF r fs ρ) QL E ↔ Wp (fs ρ) (fun a ρ1 => ∃ z, r a = some z ∧ QL z ρ1) E := by
  unfold cCF; rw [wp_bind]; simp only [wp_opt]
@[simp] theorem walkD_lst {ds : List D} : walkD (.lst ds) = some ds := rfl
@[simp] theorem gNeg_int {i : Int} : gNeg (.int i) = some (.int (-i)) := rfl
theorem atI_last {α : Type} {l : List α} {u : α} : atI (l ++ [u]) (-1) = some u := by
  have : ixN (l ++ [u]).length (-1) = some l.length := by
    unfold ixN
    rw [if_neg (by decide), if_pos (by simp; omega)]
    simp
    omega
  unfold atI
  rw [this]
  simp
end
theorem sort_ok {ts : List Tie} (h : ts.length ≤ 100) : gSort [.lst (tiesD ts)] = some (tiesD (sortT ts)) := by
  have h0 : ∀ d ∈ tiesD ts, ∃ t, d = tieD t := fun d hd => by
    obtain ⟨t, _, rfl⟩ := List.mem_map.mp hd
    exact ⟨t, rfl⟩
  have : sortOk (tiesD ts) = true := by
    unfold sortOk
    rw [Bool.and_eq_true, Bool.and_eq_true, Bool.and_eq_true, Bool.or_eq_true]
    refine ⟨⟨⟨decide_eq_true (by simp only [tiesD, List.length_map]; exact Nat.le_trans h (by decide +kernel)), List.all_eq_true.mpr fun d hd => ?_⟩, .inl (List.all_eq_true.mpr fun d hd => ?_)⟩, List.all_eq_true.mpr fun d hd => List.all_eq_true.mpr fun e he => ?_⟩
    · obtain ⟨t, rfl⟩ := h0 d hd; exact plN_tie 19 t
    · obtain ⟨t, rfl⟩ := h0 d hd; rfl
    · obtain ⟨t, rfl⟩ := h0 d hd
      obtain ⟨u, rfl⟩ := h0 e he
      simp [wp_cSeq, tieD, toPy, toPyAll, PySem.W.alike, PySem.W.alikeAll]
  show (if sortOk (tiesD ts) = true then some ((tiesD ts).mergeSort leD) else none) = _
  rw [if_pos this, sort_ties]
theorem made_ok {m : Int} {ts : List Tie} (hl : ts.length ≤ 100) (ho : ∀ t ∈ ts, t.1 < t.2.1) (hn : (ts.map fun t => (t.1, t.2.1)).Nodup) :
    Wp (m_law_made [.sh (.int m), .sh (.lst (tiesD ts))]) (fun d ρ => d = .tup [.str "web", .int m, .lst (tiesD (sortT ts))] ∧ ρ = [.sh (.int m), .sh (.lst (tiesD ts))]) NoE := by
  unfold m_law_made b_law_made
  simp [wp_cSeq, full, outCells, and_assoc, isRf, noOw]
  refine compL_inv (fun k acc ρ => acc = tiesD (ts.take k) ∧ ∃ x y z, ρ = [.sh (.int m), .sh (.lst (tiesD ts)), .ow (.lst []), x, y, z]) 0 ⟨by simp [wp_cSeq, tiesD], .no, .no, .no, rfl⟩ ?_ ?_
  · rintro i d acc ρ hi ⟨rfl, x, y, z, rfl⟩
    obtain ⟨t, ht, rfl⟩ : ∃ t, ts[i]? = some t ∧ tieD t = d := by
      unfold tiesD at hi
      rw [List.getElem?_map] at hi
      exact Option.map_eq_some_iff.mp hi
    have hlt := ho t (List.mem_of_getElem? ht)
    have h1 : ¬ t.2.1 < t.1 := by omega
    simp [wp_cSeq, wipeR, isRf, tieD, gMin, gMax, h1, hlt]
    refine ⟨by decide +kernel, ?_, ?_⟩
    · simp [wp_cSeq, tiesD]
      exact Nat.lt_of_lt_of_le (by omega : min i ts.length < 101) (by decide +kernel)
    · rw [List.take_succ, ht]
      simp [wp_cSeq, tiesD, tieD]
  · rintro acc ρ ⟨rfl, x, y, z, rfl⟩
    have ht : ts.take (0 + (tiesD ts).length) = ts := List.take_of_length_le (by simp [wp_cSeq, tiesD])
    rw [ht]
    simp [wp_cSeq, restR, sort_ok hl]
    have hlen : (sortT ts).length = ts.length := (sortT_perm ts).length_eq
    have hn2 : ((sortT ts).map fun t => (t.1, t.2.1)).Nodup := ((sortT_perm ts).map _).nodup_iff.mpr hn
    generalize sortT ts = us at hlen hn2
    refine forL_inv (fun k ρ => ∃ x y z, ρ = [.sh (.int m), .sh (.lst (tiesD ts)), .ow (.lst (tiesD (us.take k))), x, y, z] ∧ isRf x = false ∧ isRf y = false ∧ isRf z = false) 0 ⟨.no, .no, .no, rfl, rfl, rfl, rfl⟩ ?_ ?_
    · rintro i d ρ hi ⟨x, y, z, rfl, hx, hy, hz⟩
      obtain ⟨t, ht, rfl⟩ : ∃ t, us[i]? = some t ∧ tieD t = d := by
        unfold tiesD at hi
        rw [List.getElem?_map] at hi
        exact Option.map_eq_some_iff.mp hi
      have hit : i < us.length := (List.getElem?_eq_some_iff.mp ht).1
      have hput : us.take (i + 1) = us.take i ++ [t] := by rw [List.take_succ, ht]; rfl
      have hsz : (us.take i).length < sizeLine := Nat.lt_of_lt_of_le (by simp; omega : (us.take i).length < 101) (by decide +kernel)
      simp [wp_cSeq, tieD, hx, hy, hz, cellD]
      rw [gNe_ok (cmp_ties _) rfl]
      cases hl2 : us.take i with
      | nil =>
        simp [wp_cSeq, tiesD, ownL, putL, sameKind, hput, hl2, isRf]
        exact ⟨by decide +kernel, by decide +kernel, _, _, _, ⟨rfl, rfl, rfl, rfl⟩, rfl, rfl, rfl⟩
      | cons t0 l0 =>
        obtain ⟨l1, t1, e1⟩ : ∃ l1 t1, us.take i = l1 ++ [t1] := ⟨(us.take i).dropLast, (us.take i).getLast (by rw [hl2]; simp), (List.dropLast_concat_getLast _).symm⟩
        rw [← hl2]
        have hne : ¬ (t1.1 = t.1 ∧ t1.2.1 = t.2.1) := fun z => by
          have hn3 : ((us.take (i + 1)).map fun t => (t.1, t.2.1)).Nodup := hn2.sublist ((List.take_sublist _ _).map _)
          rw [hput, e1] at hn3
          simp [wp_cSeq, z.1, z.2] at hn3
          have := (List.nodup_append.mp hn3).2.1
          simp at this
        have q1 : eqD (.lst (tiesD (us.take i))) (.lst []) = false := by rw [hl2]; simp [wp_cSeq, tiesD]
        have q2 : atI (tiesD (us.take i)) (-1) = some (tieD t1) := by
          rw [e1]
          unfold tiesD
          rw [List.map_append]
          exact atI_last
        have q3 : gEq (.tup [.int t1.1, .int t1.2.1]) (.tup [.int t.1, .int t.2.1]) = some (.bl false) := by
          rw [gEq_ok rfl rfl]
          simp
          omega
        simp [wp_cSeq, q1, q2, q3, tie_cut, ownL, putL, sameKind, isRf]
        refine ⟨by decide +kernel, by decide +kernel, ?_, ?_⟩
        · simp only [tiesD, List.length_map]; exact hsz
        · rw [hput]
          exact ⟨_, _, _, ⟨by simp [wp_cSeq, tiesD, tieD], rfl, rfl, rfl⟩, rfl, rfl, rfl⟩
    · rintro ρ ⟨x, y, z, rfl, hx, hy, hz⟩
      have ht : us.take (0 + (tiesD us).length) = us := List.take_of_length_le (by simp [wp_cSeq, tiesD])
      rw [ht]
      simp [wp_cSeq, outCell]
      decide +kernel
end PyD

set_option Elab.async false
set_option linter.all false
set_option maxRecDepth 100000
namespace PyD
open PySem PySem.Spec L2
open PyProof.Rows hiding St
def webD (many : Int) (us : List Tie) : D := .tup [.str "web", .int many, .lst (tiesD us)]
theorem Rows.perm {m T : Int} {ts us : List Tie} (h : Rows m T ts) (p : ts.Perm us) : Rows m T us :=
  ⟨fun t ht => h.ok t (p.mem_iff.mpr ht), (p.map _).nodup_iff.mp h.once, fun q h1 h2 => by
    obtain ⟨t, ht, e⟩ := h.low q h1 h2
    exact ⟨t, p.mem_iff.mp ht, e⟩⟩
theorem web_ok {a s c n M T : Int} {Q : D → Rho → Prop} (g : GenOk a s c n) (hn : n + 200 < 2 ^ 60) (hM : 1 ≤ M) (hM2 : M ≤ 7) (hT : 1 ≤ T) (hT2 : T ≤ 9)
    (hQ : ∀ (many : Int) (us : List Tie) (a' c' : Int), 1 ≤ many → many ≤ M → Rows many T us → (us.Pairwise fun t u => tieLe t u = true) → us.length ≤ 14 → GenOk a' s c' (n + 100) → Q (webD many us) [.rf (gen a' s c'), .sh (.int M), .sh (.int T)]) :
    Wp (m_law_web [.rf (gen a s c), .sh (.int M), .sh (.int T)]) Q NoE := by
  unfold m_law_web b_law_web
  simp [wp_cSeq, full, outCells, and_assoc]
  refine wp_rnd (b := M) rfl rfl rfl g (by omega) (by omega) (by omega) fun r a1 c1 r0 r1 g1 => ?_
  simp [wp_cSeq, isRf, setK, sameKind, and_assoc, noOw]
  refine ⟨by simp [wp_cSeq, inR], by simp [wp_cSeq, inR]; omega, ?_⟩
  refine compL_inv (fun k acc ρ => ∃ (ts : List Tie) (a' c' : Int) (x : Cell), acc = tiesD ts ∧ ρ = [.rf (gen a' s c'), .sh (.int M), .sh (.int T), .sh (.int (1 + r)), .no, x, .no, .no, .no, .no] ∧ GenOk a' s c' (n + 3 + 6 * k) ∧ Rows (1 + k) T ts ∧ ts.length = k) 0 ⟨[], a1, c1, .no, rfl, rfl, by simpa using g1, by simpa using Rows.nil, rfl⟩ ?_ ?_
  · rintro j d acc ρ hj ⟨ts, a', c', x, rfl, rfl, g', hr, hlen⟩
    obtain ⟨hj1, rfl⟩ := rangeD_get hj
    simp only [Nat.zero_add] at g' hr hlen
    simp [wp_cSeq, wipeR, isRf]
    refine wp_rnd (b := 1 + (j : Int)) rfl rfl rfl g' (by omega) (by omega) (by omega) fun l a2 c2 l0 l1 g2 => ?_
    simp [wp_cSeq, setK, sameKind]
    refine wp_rnd (b := T) rfl rfl rfl g2 (by omega) (by omega) (by omega) fun x2 a3 c3 x0 x1 g3 => ?_
    simp [wp_cSeq, setK, sameKind]
    refine ⟨by decide +kernel, ?_, ts ++ [(l, 1 + (j : Int), 1 + x2)], by simp [wp_cSeq, tiesD, tieD], a3, c3, rfl, g3.mono (by omega), ?_, by simp [wp_cSeq, hlen]⟩
    · simp only [tiesD, List.length_map, hlen]
      exact Nat.lt_of_lt_of_le (by omega : j < 100) (by decide +kernel)
    · have := hr.point l0 l1 (by omega : 1 ≤ 1 + x2) (by omega : 1 + x2 ≤ T)
      rw [show (1 : Int) + ((j : Int) + 1) = 1 + j + 1 by omega]
      exact this
  · rintro acc ρ ⟨ts, a', c', x, rfl, rfl, g', hr, hlen⟩
    simp only [rangeD_length, Nat.zero_add] at g' hr hlen
    have hj : (((1 + r).toNat - 1 : Nat) : Int) = r := by omega
    rw [hj] at g' hr
    simp [wp_cSeq, restR, isRf]
    refine wp_rnd (b := 1 + r) rfl rfl rfl g' (by omega) (by omega) (by omega) fun u a2 c2 u0 u1 g2 => ?_
    simp [wp_cSeq, setK, sameKind]
    refine ⟨by simp [wp_cSeq, inR]; omega, ?_⟩
    refine forL_inv (fun k ρ => ∃ (ts : List Tie) (a' c' : Int) (x y z : Cell), ρ = [.rf (gen a' s c'), .sh (.int M), .sh (.int T), .sh (.int (1 + r)), .ow (.lst (tiesD ts)), .no, x, y, z, .no] ∧ isRf x = false ∧ isRf y = false ∧ isRf z = false ∧ GenOk a' s c' (n + 6 + 6 * r + 9 * k) ∧ Rows (1 + r) T ts ∧ (ts.length : Int) ≤ r + k) 0 ⟨ts, a2, c2, .no, .no, .no, rfl, rfl, rfl, rfl, g2.mono (by omega), hr, by omega⟩ ?_ ?_
    · rintro j d ρ hj ⟨ts, a', c', x, y, z, rfl, hx, hy, hz, g', hr, hlen⟩
      obtain ⟨hj1, rfl⟩ := rangeD_get hj
      simp [wp_cSeq, hx]
      refine wp_rnd (b := 1 + r) rfl rfl rfl g' (by omega) (by omega) (by omega) fun p a3 c3 p0 p1 g3 => ?_
      simp [wp_cSeq, setK, sameKind]
      refine wp_rnd (b := 1 + r) rfl rfl rfl g3 (by omega) (by omega) (by omega) fun q a4 c4 q0 q1 g4 => ?_
      simp [wp_cSeq, setK, sameKind, hy, hz]
      refine ⟨by decide +kernel, ?_⟩
      by_cases hpq : p = q
      · simp [wp_cSeq, hpq]
        exact ⟨ts, a4, c4, _, _, _, ⟨rfl, rfl, rfl, rfl, rfl⟩, rfl, rfl, rfl, g4.mono (by omega), hr, by omega⟩
      · simp [wp_cSeq, hpq]
        refine wp_cCompP (ds := tiesD ts) rfl rfl ?_
        refine compL_inv (fun k acc ρ => acc = tiesD ((ts.take k).filter (onP p q)) ∧ ∃ x, ρ = [.rf (gen a4 s c4), .sh (.int M), .sh (.int T), .sh (.int (1 + r)), .no, .no, .sh (.int j), .sh (.int p), .sh (.int q), x]) 0 ⟨by simp [wp_cSeq, tiesD], .no, rfl⟩ ?_ ?_
        · rintro i d acc ρ hi ⟨rfl, x, rfl⟩
          obtain ⟨t, ht, rfl⟩ : ∃ t, ts[i]? = some t ∧ tieD t = d := by
            unfold tiesD at hi
            rw [List.getElem?_map] at hi
            exact Option.map_eq_some_iff.mp hi
          simp [wp_cSeq, wipeR, isRf, tie_cut, tie_in]
          refine ⟨by decide +kernel, ?_⟩
          cases hon : onP p q t with
          | false =>
            refine .inl ⟨rfl, ?_⟩
            rw [List.take_succ, ht, List.filter_append]
            simp [wp_cSeq, hon]
          | true =>
            refine .inr ⟨rfl, ?_, ?_⟩
            · have h1 : ((ts.take i).filter (onP p q)).length ≤ ts.length := Nat.le_trans (List.length_filter_le _ _) (by simp [wp_cSeq, List.length_take]; omega)
              have h2 : ts.length < 100 := by omega
              simp only [tiesD, List.length_map]
              exact Nat.lt_of_le_of_lt h1 (Nat.lt_of_lt_of_le h2 (by decide +kernel))
            · rw [List.take_succ, ht, List.filter_append]
              simp [wp_cSeq, hon, tiesD]
        · rintro acc ρ ⟨rfl, x, rfl⟩
          have ht : List.take (tiesD ts).length ts = ts := List.take_of_length_le (by simp [wp_cSeq, tiesD])
          simp [wp_cSeq, restR, ht]
          rw [gEq_ok (cmp_ties _) rfl]
          cases hf : ts.filter (onP p q) with
          | cons t0 l0 =>
            simp [wp_cSeq, tiesD]
            exact ⟨ts, a4, c4, _, _, _, ⟨rfl, rfl, rfl, rfl, rfl⟩, rfl, rfl, rfl, g4.mono (by omega), hr, by omega⟩
          | nil =>
            have hno : ∀ t ∈ ts, ¬ (t.1 = p ∧ t.2.1 = q) ∧ ¬ (t.1 = q ∧ t.2.1 = p) := fun t ht => by
              have := List.filter_eq_nil_iff.mp hf t ht
              refine ⟨fun z => this ?_, fun z => this ?_⟩ <;> simp [wp_cSeq, onP, z.1, z.2]
            simp [wp_cSeq, tiesD, ownL, gMin, gMax]
            refine wp_rnd (b := T) rfl rfl rfl g4 (by omega) (by omega) (by omega) fun u5 a5 c5 v0 v1 g5 => ?_
            simp [wp_cSeq, setK, sameKind, putL, ownL]
            refine ⟨by decide +kernel, Nat.lt_of_lt_of_le (by omega : ts.length < 100) (by decide +kernel), ?_⟩
            by_cases hqp : q < p
            · refine ⟨ts ++ [(q, p, 1 + u5)], a5, c5, _, _, _, ⟨rfl, ?_, rfl, rfl, rfl⟩, rfl, rfl, rfl, g5.mono (by omega), hr.join q0 hqp (by omega) (by omega) (by omega) fun t ht => (hno t ht).2, by simp; omega⟩
              have : ¬ p < q := by omega
              simp [wp_cSeq, tieD, hqp, this]
            · refine ⟨ts ++ [(p, q, 1 + u5)], a5, c5, _, _, _, ⟨rfl, ?_, rfl, rfl, rfl⟩, rfl, rfl, rfl, g5.mono (by omega), hr.join p0 (by omega) (by omega) (by omega) (by omega) fun t ht => (hno t ht).1, by simp; omega⟩
              have : p < q := by omega
              simp [wp_cSeq, tieD, hqp, this]
    · rintro ρ ⟨ts, a', c', x, y, z, rfl, hx, hy, hz, g', hr, hlen⟩
      simp only [rangeD_length, Nat.zero_add] at g' hlen
      have hl : ts.length ≤ 100 := by omega
      have hl14 : ts.length ≤ 14 := by omega
      simp [wp_cSeq, wp_cCall, shs]
      refine (made_ok hl (fun t ht => (hr.ok t ht).2.1) hr.once).imp ?_ fun _ _ h => h.elim
      rintro d ρ ⟨rfl, _⟩
      simp [wp_cSeq, outCell]
      exact hQ (1 + r) (sortT ts) a' c' (by omega) (by omega) (hr.perm (sortT_perm ts).symm) (sortT_pair ts) (by rw [(sortT_perm ts).length_eq]; exact hl14) (g'.mono (by omega))
end PyD

set_option Elab.async false
set_option linter.all false
set_option maxRecDepth 100000
namespace PyD
open PySem PySem.Spec L2
open PyProof.Rows hiding St
theorem whole_int (i : Int) : m_is_whole [.sh (.int i)] = .ok (.bl true, [.sh (.int i)]) := by rfl
@[simp] theorem isa_int_0 : isaD "int" .non = some (.bl false) := by rfl
@[simp] theorem isa_int_1 {b : Bool} : isaD "int" (.bl b) = some (.bl true) := by rfl
@[simp] theorem isa_int_2 {i : Int} : isaD "int" (.int i) = some (.bl true) := by rfl
@[simp] theorem isa_int_3 {x : Str} : isaD "int" (.str x) = some (.bl false) := by rfl
@[simp] theorem isa_int_4 {ds : List D} : isaD "int" (.lst ds) = some (.bl false) := by rfl
@[simp] theorem isa_int_5 {ds : List D} : isaD "int" (.tup ds) = some (.bl false) := by rfl
@[simp] theorem isa_int_6 {es : List (D × D)} : isaD "int" (.dct es) = some (.bl false) := by rfl
@[simp] theorem isa_bool_0 : isaD "bool" .non = some (.bl false) := by rfl
@[simp] theorem isa_bool_1 {b : Bool} : isaD "bool" (.bl b) = some (.bl true) := by rfl
@[simp] theorem isa_bool_2 {i : Int} : isaD "bool" (.int i) = some (.bl false) := by rfl
@[simp] theorem isa_bool_3 {x : Str} : isaD "bool" (.str x) = some (.bl false) := by rfl
@[simp] theorem isa_bool_4 {ds : List D} : isaD "bool" (.lst ds) = some (.bl false) := by rfl
@[simp] theorem isa_bool_5 {ds : List D} : isaD "bool" (.tup ds) = some (.bl false) := by rfl
@[simp] theorem isa_bool_6 {es : List (D × D)} : isaD "bool" (.dct es) = some (.bl false) := by rfl
@[simp] theorem isa_str_0 : isaD "str" .non = some (.bl false) := by rfl
@[simp] theorem isa_str_1 {b : Bool} : isaD "str" (.bl b) = some (.bl false) := by rfl
@[simp] theorem isa_str_2 {i : Int} : isaD "str" (.int i) = some (.bl false) := by rfl
@[simp] theorem isa_str_3 {x : Str} : isaD "str" (.str x) = some (.bl true) := by rfl
@[simp] theorem isa_str_4 {ds : List D} : isaD "str" (.lst ds) = some (.bl false) := by rfl
@[simp] theorem isa_str_5 {ds : List D} : isaD "str" (.tup ds) = some (.bl false) := by rfl
@[simp] theorem isa_str_6 {es : List (D × D)} : isaD "str" (.dct es) = some (.bl false) := by rfl
@[simp] theorem isa_tuple_0 : isaD "tuple" .non = some (.bl false) := by rfl
@[simp] theorem isa_tuple_1 {b : Bool} : isaD "tuple" (.bl b) = some (.bl false) := by rfl
@[simp] theorem isa_tuple_2 {i : Int} : isaD "tuple" (.int i) = some (.bl false) := by rfl
@[simp] theorem isa_tuple_3 {x : Str} : isaD "tuple" (.str x) = some (.bl false) := by rfl
@[simp] theorem isa_tuple_4 {ds : List D} : isaD "tuple" (.lst ds) = some (.bl false) := by rfl
@[simp] theorem isa_tuple_5 {ds : List D} : isaD "tuple" (.tup ds) = some (.bl true) := by rfl
@[simp] theorem isa_tuple_6 {es : List (D × D)} : isaD "tuple" (.dct es) = some (.bl false) := by rfl
@[simp] theorem isa_list_0 : isaD "list" .non = some (.bl false) := by rfl
@[simp] theorem isa_list_1 {b : Bool} : isaD "list" (.bl b) = some (.bl false) := by rfl
@[simp] theorem isa_list_2 {i : Int} : isaD "list" (.int i) = some (.bl false) := by rfl
@[simp] theorem isa_list_3 {x : Str} : isaD "list" (.str x) = some (.bl false) := by rfl
@[simp] theorem isa_list_4 {ds : List D} : isaD "list" (.lst ds) = some (.bl true) := by rfl
@[simp] theorem isa_list_5 {ds : List D} : isaD "list" (.tup ds) = some (.bl false) := by rfl
@[simp] theorem isa_list_6 {es : List (D × D)} : isaD "list" (.dct es) = some (.bl false) := by rfl
section
variable {Q : D → Rho → Prop} {QB : Bool → Rho → Prop} {E : Nat → D → Prop} {ρ : Rho} {fa fb : Ev} {t u : Tv} {i j : Int}
/-- a chain's tail -/
def Wc (r : Chv) (x : D) (ρ : Rho) (Q : D → Rho → Prop) (E : Nat → D → Prop) : Prop := Wp (r x ρ) Q E
@[simp] theorem wp_cCh {r : Chv} : Wp (cCh fa r ρ) Q E ↔ Wp (fa ρ) (fun a ρ1 => Wc r a ρ1 Q E) E := by
  unfold cCh; rw [wp_bind]; exact Iff.rfl
@[simp] theorem wc_chL {g : D → D → Option D} {x : D} : Wc (chL g fb) x ρ Q E ↔ Wp (fb ρ) (fun y ρ1 => ∃ z, (g x y).bind asB = some z ∧ Q (.bl z) ρ1) E := by
  unfold Wc chL; rw [wp_bind]
  have e : ∀ (y : D) (ρ1 : Rho), Wp ((R.ofOpt ((g x y).bind asB)).map fun z => (D.bl z, ρ1)) Q E ↔ ∃ z, (g x y).bind asB = some z ∧ Q (.bl z) ρ1 := fun y ρ1 => by
    cases (g x y).bind asB <;> simp [R.ofOpt, R.map, Wp]
  exact ⟨fun h => h.imp (fun a ρ h => (e a ρ).mp h) fun _ _ h => h, fun h => h.imp (fun a ρ h => (e a ρ).mpr h) fun _ _ h => h⟩
@[simp] theorem wc_chK {g : D → D → Option D} {x : D} {r : Chv} : Wc (chK g fb r) x ρ Q E ↔ Wp (fb ρ) (fun y ρ1 => ∃ z, (g x y).bind asB = some z ∧ (z = true → Wc r y ρ1 Q E) ∧ (z = false → Q (.bl false) ρ1)) E := by
  unfold Wc chK; rw [wp_bind]
  have e : ∀ (y : D) (ρ1 : Rho), Wp ((R.ofOpt ((g x y).bind asB)).bind fun z => if z = true then r y ρ1 else .ok (.bl false, ρ1)) Q E ↔ ∃ z, (g x y).bind asB = some z ∧ (z = true → Wp (r y ρ1) Q E) ∧ (z = false → Q (.bl false) ρ1) := fun y ρ1 => by
    cases (g x y).bind asB with
    | none => simp [R.ofOpt, R.bind, Wp]
    | some z => cases z <;> simp [R.ofOpt, R.bind, wp_ok]
  exact ⟨fun h => h.imp (fun a ρ h => (e a ρ).mp h) fun _ _ h => h, fun h => h.imp (fun a ρ h => (e a ρ).mpr h) fun _ _ h => h⟩
@[simp] theorem wp_cAndV : Wp (cAndV fa fb ρ) Q E ↔ Wp (fa ρ) (fun a ρ1 => ∃ z, asB a = some z ∧ (z = true → Wp (fb ρ1) Q E) ∧ (z = false → Q (.bl false) ρ1)) E := by
  unfold cAndV; rw [wp_bind]; simp only [wp_if, wp_ok, Bool.not_eq_true, wp_tOf]
@[simp] theorem wp_cOrV : Wp (cOrV fa fb ρ) Q E ↔ Wp (fa ρ) (fun a ρ1 => ∃ z, asB a = some z ∧ (z = true → Q (.bl true) ρ1) ∧ (z = false → Wp (fb ρ1) Q E)) E := by
  unfold cOrV; rw [wp_bind]; simp only [wp_if, wp_ok, Bool.not_eq_true, wp_tOf]
@[simp] theorem wp_cNotV : Wp (cNotV fa ρ) Q E ↔ Wp (fa ρ) (fun a ρ1 => ∃ z, asB a = some z ∧ Q (.bl (!z)) ρ1) E := by
  unfold cNotV; rw [wp_bind]; simp only [wp_ok, wp_tOf]
@[simp] theorem gLe_int : gLe (.int i) (.int j) = some (.bl (decide (i ≤ j))) := rfl
end
end PyD

set_option Elab.async false
set_option linter.all false
set_option maxRecDepth 100000
namespace PyD
open PySem PySem.Spec L2
open PyProof.Rows hiding St
@[simp] theorem gLen_tup {ds : List D} : gLen (.tup ds) = some (.int ds.length) := rfl
@[simp] theorem gLen_lst {ds : List D} : gLen (.lst ds) = some (.int ds.length) := rfl
@[simp] theorem walkD_tup {ds : List D} : walkD (.tup ds) = some ds := rfl
theorem tie_ok {l h x m : Int} (h0 : 0 ≤ l) (h1 : l < h) (h2 : h < m) (h3 : 1 ≤ x) (h4 : x ≤ 9) : Wp (m_is_tie [.sh (tieD (l, h, x)), .sh (.int m)]) (fun d _ => d = .bl true) NoE := by
  unfold m_is_tie b_is_tie
  have z0 : 0 < sizeLine := by decide +kernel
  have z1 : 1 < sizeLine := by decide +kernel
  have z2 : 2 < sizeLine := by decide +kernel
  simp [wp_cSeq, full, outCells, and_assoc, isRf, noOw, tieD]
  simp [compL, wipeR, gN, putSh, R.bind, cYes, cCall, cCons, cNil, cV, shs, whole_int, R.map, z0, z1, z2, wp_ok, restR, gAll, blsOf, atI, ixN, h0, h1, h2, h3, h4]
end PyD

set_option Elab.async false
set_option linter.all false
set_option maxRecDepth 100000
namespace PyD
open PySem PySem.Spec L2
open PyProof.Rows hiding St
section
variable {QF : Fl → Rho → Prop} {E : Nat → D → Prop} {t : Tv} {f : Sv}
theorem whileN_inv (I : Nat → Rho → Prop) (hs : ∀ m ρ, I m ρ → Wp (t ρ) (fun b ρ1 => (b = true → Wp (f ρ1) (Turn (fun ρ2 => ∃ m', m' < m ∧ I m' ρ2) QF) E) ∧ (b = false → QF .nx ρ1)) E) : ∀ (n m : Nat) (ρ : Rho), m < n → I m ρ → Wp (whileN t f n ρ) QF E
  | 0, m, ρ, h, _ => by omega
  | n + 1, m, ρ, h, hI => by
    unfold whileN
    rw [wp_bind]
    refine (hs m ρ hI).imp (fun b ρ1 q => ?_) fun _ _ h => h
    cases b with
    | false => exact q.2 rfl
    | true =>
      have q1 := q.1 rfl
      simp only [if_true]
      rw [wp_bind]
      refine q1.imp (fun fl ρ2 q => ?_) fun _ _ h => h
      cases fl with
      | nx => obtain ⟨m', h1, h2⟩ := q; exact whileN_inv I hs n m' ρ2 (by omega) h2
      | ct => obtain ⟨m', h1, h2⟩ := q; exact whileN_inv I hs n m' ρ2 (by omega) h2
      | bk => exact q
      | rt d => exact q
      | rtF xs => exact q
end
section
variable {QF : Fl → Rho → Prop} {QL : List D → Rho → Prop} {Q : D → Rho → Prop} {E : Nat → D → Prop} {ρ : Rho} {fa : Ev} {gs : Av}
@[simp] theorem wp_cWhile {t : Tv} {f : Sv} {fuel : Rho → Nat} : Wp (cWhile fuel t f ρ) QF E ↔ Wp (whileN t f (fuel ρ) ρ) QF E := Iff.rfl
@[simp] theorem wp_cStar : Wp (cStar fa gs ρ) QL E ↔ Wp (fa ρ) (fun a ρ1 => ∃ ds, itemsD a = some ds ∧ Wp (gs ρ1) (fun ys ρ2 => QL (ds ++ ys) ρ2) E) E := by
  unfold cStar; rw [wp_bind]
  have e : ∀ (a : D) (ρ1 : Rho), Wp (match itemsD a with | some ds => (gs ρ1).map fun y => (ds ++ y.1, y.2) | none => .bad) QL E ↔ ∃ ds, itemsD a = some ds ∧ Wp (gs ρ1) (fun ys ρ2 => QL (ds ++ ys) ρ2) E := fun a ρ1 => by
    cases itemsD a with
    | none => simp [Wp]
    | some ds => simp [wp_map]
  exact ⟨fun h => h.imp (fun a ρ h => (e a ρ).mp h) fun _ _ h => h, fun h => h.imp (fun a ρ h => (e a ρ).mpr h) fun _ _ h => h⟩
theorem wp_cPop {i : Nat} {ds : List D} {d : D} (h : ownL ρ i = some (ds ++ [d])) (q : Q d (putL ρ i ds)) : Wp (cPop i ρ) Q E := by
  unfold cPop
  rw [h]
  simp
  exact q
end
end PyD

set_option Elab.async false
set_option linter.all false
set_option maxRecDepth 100000
namespace PyD
open PySem PySem.Spec L2
open PyProof.Rows hiding St
section
variable {QF : Fl → Rho → Prop} {E : Nat → D → Prop} {ρ : Rho} {fa : Ev} {gs : Av}
@[simp] theorem wp_cParEF {i j : Nat} : Wp (cParEF i j fa gs ρ) QF E ↔ Wp (fa ρ) (fun x ρ1 => Wp (gs ρ1) (fun ys ρ2 => ∃ c, ρ2[j]? = some c ∧ isRf c = false ∧ ∃ c2, (ρ2.set j (.ow (.lst ys)))[i]? = some c2 ∧ isRf c2 = false ∧ QF .nx ((ρ2.set j (.ow (.lst ys))).set i (.sh x))) E) E := by
  unfold cParEF
  rw [wp_bind]
  have e : ∀ (x : D) (ys : List D) (ρ2 : Rho), Wp ((putOw ρ2 j ys).bind fun ρ1 => (putSh ρ1 i x).map fun ρ2 => (Fl.nx, ρ2)) QF E ↔ ∃ c, ρ2[j]? = some c ∧ isRf c = false ∧ ∃ c2, (ρ2.set j (.ow (.lst ys)))[i]? = some c2 ∧ isRf c2 = false ∧ QF .nx ((ρ2.set j (.ow (.lst ys))).set i (.sh x)) := fun x ys ρ2 => by
    unfold putOw
    have in1 : ∀ ρ1 : Rho, Wp ((putSh ρ1 i x).map fun ρ2 => (Fl.nx, ρ2)) QF E ↔ ∃ c2, ρ1[i]? = some c2 ∧ isRf c2 = false ∧ QF .nx (ρ1.set i (.sh x)) := fun ρ1 => by
      unfold putSh
      cases ρ1[i]? with
      | none => simp [R.map, Wp]
      | some c => cases c <;> simp [R.map, Wp, isRf]
    cases h : ρ2[j]? with
    | none => simp [R.bind, Wp]
    | some c => cases c <;> simp only [R.bind, in1] <;> simp [Wp, isRf]
  refine ⟨fun h => h.imp (fun a ρ1 h => ?_) fun _ _ h => h, fun h => h.imp (fun a ρ1 h => ?_) fun _ _ h => h⟩
  · rw [wp_bind] at h
    exact h.imp (fun ys ρ2 h => (e a ys ρ2).mp h) fun _ _ h => h
  · rw [wp_bind]
    exact h.imp (fun ys ρ2 h => (e a ys ρ2).mpr h) fun _ _ h => h
end
end PyD

set_option Elab.async false
set_option linter.all false
set_option maxRecDepth 100000
namespace PyD
open PySem PySem.Spec L2
open PyProof.Rows hiding St
/-- numbers below N without repeats are at most N -/
theorem nodup_le : ∀ {l : List Int} {N : Nat}, l.Nodup → (∀ x ∈ l, 0 ≤ x ∧ x < N) → l.length ≤ N
  | l, 0, _, h => by
    cases l with
    | nil => simp
    | cons x l => have := h x List.mem_cons_self; omega
  | l, N + 1, hn, h => by
    have h1 : (l.erase (N : Int)).length ≤ N := nodup_le (hn.erase _) fun x hx => by
      have hx' := (hn.mem_erase_iff).mp hx
      have := h x hx'.2
      have ne := hx'.1
      omega
    have := List.length_erase (a := (N : Int)) (l := l)
    by_cases hm : (N : Int) ∈ l
    · rw [if_pos hm] at this; omega
    · rw [if_neg hm] at this; omega
/-- all numbers below N are among them: at least N -/
theorem le_nodup : ∀ {l : List Int} {N : Nat}, (∀ x : Int, 0 ≤ x → x < N → x ∈ l) → N ≤ l.length
  | l, 0, _ => by omega
  | l, N + 1, h => by
    have hm := h N (by omega) (by omega)
    have h1 : N ≤ (l.erase (N : Int)).length := le_nodup fun x h0 h2 => (List.mem_erase_of_ne (by omega)).mpr (h x h0 (by omega))
    have := List.length_erase_of_mem hm
    have := List.length_pos_of_mem hm
    omega
end PyD

set_option Elab.async false
set_option linter.all false
set_option maxRecDepth 100000
namespace PyD
open PySem PySem.Spec L2
open PyProof.Rows hiding St
def intsD (l : List Int) : List D := l.map .int
def pairD (p : Int × Int) : D := .tup [.int p.1, .int p.2]
section
variable {QF : Fl → Rho → Prop} {E : Nat → D → Prop} {ρ : Rho} {tg : Gv} {body : Sv} {d : D} {ds : List D}
theorem wp_forL_nil : Wp (forL tg body [] ρ) QF E ↔ QF .nx ρ := Iff.rfl
theorem wp_forL_cons : Wp (forL tg body (d :: ds) ρ) QF E ↔ Wg (tg d ρ) (fun ρ1 => Wp (body ρ1) (Turn (fun ρ2 => Wp (forL tg body ds ρ2) QF E) QF) E) E := by
  rw [forL, wg_bind]
  refine ⟨fun h => h.imp (fun ρ1 h => ?_) fun _ _ h => h, fun h => h.imp (fun ρ1 h => ?_) fun _ _ h => h⟩
  · rw [wp_bind] at h
    refine h.imp (fun fl ρ2 h => ?_) fun _ _ h => h
    cases fl <;> exact h
  · rw [wp_bind]
    refine h.imp (fun fl ρ2 h => ?_) fun _ _ h => h
    cases fl <;> exact h
end
theorem inD_ints {x : Int} : ∀ {l : List Int}, inD (.int x) (intsD l) = decide (x ∈ l)
  | [] => by simp [intsD]
  | y :: l => by
    have := inD_ints (x := x) (l := l)
    unfold intsD at this ⊢
    rw [List.map_cons, inD_cons, this]
    rw [eqD_int]
    by_cases h : x = y
    · subst h; simp
    · have h2 : ¬ y = x := fun z => h z.symm
      simp [h, h2]
theorem plNs_ints (n : Nat) : ∀ l : List Int, plNs n (intsD l) = true
  | [] => by simp [intsD, plNs]
  | x :: l => by
    have := plNs_ints n l
    simp only [intsD, List.map_cons, plNs, Bool.and_eq_true]
    exact ⟨by cases n <;> rfl, this⟩
theorem cmp_ints (l : List Int) : cmpD (.lst (intsD l)) = true := by
  show plN 20 _ = true
  simp only [plN]
  exact plNs_ints 19 l
theorem notIn_ints {x : Int} {l : List Int} : gIn true (.int x) (.lst (intsD l)) = some (.bl (!decide (x ∈ l))) := by
  show (match itemsD (.lst (intsD l)) with | some es => if cmpD (.int x) = true ∧ cmpD (.lst (intsD l)) = true then _ else none | none => none) = _
  simp only [itemsD]
  rw [if_pos ⟨rfl, cmp_ints l⟩, inD_ints]
  rfl
end PyD

set_option Elab.async false
set_option linter.all false
set_option maxRecDepth 100000
namespace PyD
open PySem PySem.Spec L2
open PyProof.Rows hiding St
/-- what hangs together with 0 by the pairs, at least -/
def Hang (ps : List (Int × Int)) (x : Int) : Prop := ∀ S : Int → Prop, S 0 → (∀ p ∈ ps, S p.1 ↔ S p.2) → S x
theorem Hang.fwd {ps : List (Int × Int)} {p : Int × Int} (hp : p ∈ ps) (h : Hang ps p.1) : Hang ps p.2 := fun S h0 hc => (hc p hp).mp (h S h0 hc)
theorem Hang.bwd {ps : List (Int × Int)} {p : Int × Int} (hp : p ∈ ps) (h : Hang ps p.2) : Hang ps p.1 := fun S h0 hc => (hc p hp).mpr (h S h0 hc)
theorem Hang.zero {ps : List (Int × Int)} : Hang ps 0 := fun S h0 _ => h0
/-- what reached_from keeps -/
structure RInv (ps : List (Int × Int)) (N : Nat) (found late : List Int) : Prop where
  nd : found.Nodup
  rg : ∀ x ∈ found, 0 ≤ x ∧ x < N
  sub : ∀ x ∈ late, x ∈ found
  st : (0 : Int) ∈ found
  least : ∀ x ∈ found, Hang ps x
/-- .. amid a turn for here -/
structure RMid (ps : List (Int × Int)) (N : Nat) (here : Int) (found late : List Int) : Prop where
  inv : RInv ps N found late
  hin : here ∈ found
  cl : ∀ x ∈ found, x ∉ late → x ≠ here → ∀ p ∈ ps, (p.1 = x → p.2 ∈ found) ∧ (p.2 = x → p.1 ∈ found)
theorem RMid.add {ps : List (Int × Int)} {N : Nat} {here far : Int} {found late : List Int} (h : RMid ps N here found late) (h0 : 0 ≤ far) (h1 : far < N) (hn : far ∉ found) (hg : Hang ps far) : RMid ps N here (found ++ [far]) (late ++ [far]) := by
  refine ⟨⟨?_, fun x hx => ?_, fun x hx => ?_, List.mem_append_left _ h.inv.st, fun x hx => ?_⟩, List.mem_append_left _ h.hin, fun x hx hl hne p hp => ?_⟩
  · exact List.nodup_append.mpr ⟨h.inv.nd, by simp, fun a ha b hb e => hn (by rw [List.mem_singleton.mp hb] at e; exact e ▸ ha)⟩
  · rcases List.mem_append.mp hx with hx | hx
    · exact h.inv.rg x hx
    · rw [List.mem_singleton.mp hx]; exact ⟨h0, h1⟩
  · rcases List.mem_append.mp hx with hx | hx
    · exact List.mem_append_left _ (h.inv.sub x hx)
    · exact List.mem_append_right _ hx
  · rcases List.mem_append.mp hx with hx | hx
    · exact h.inv.least x hx
    · rw [List.mem_singleton.mp hx]; exact hg
  · have hl1 : x ∉ late := fun z => hl (List.mem_append_left _ z)
    have hx1 : x ∈ found := (List.mem_append.mp hx).elim id fun z => absurd (List.mem_append_right late z) hl
    obtain ⟨a, b⟩ := h.cl x hx1 hl1 hne p hp
    exact ⟨fun e => List.mem_append_left _ (a e), fun e => List.mem_append_left _ (b e)⟩
end PyD

set_option Elab.async false
set_option linter.all false
set_option maxRecDepth 100000
namespace PyD
open PySem PySem.Spec L2
open PyProof.Rows hiding St
def stR (pd : D) (found late : List Int) (rest : Rho) : Rho := [.sh pd, .sh (.int 0), .sh (.lst (intsD found)), .ow (.lst (intsD late))] ++ rest
theorem intsD_app (l : List Int) (x : Int) : intsD l ++ [.int x] = intsD (l ++ [x]) := by simp [intsD]
theorem reach_step {ps : List (Int × Int)} {N : Nat} {here one other near far : Int} {found late : List Int} {pd : D} {Q : Fl → Rho → Prop} {E : Nat → D → Prop} (h : RMid ps N here found late) (hN : N ≤ 100) (hlt : late.length ≤ 1000) (h0 : 0 ≤ far) (h1 : far < N) (hg : near = here → Hang ps far)
    (k : ∀ found' late', RMid ps N here found' late' → (∀ x ∈ found, x ∈ found') → (near = here → far ∈ found') → (∃ j, found'.length = found.length + j ∧ late'.length = late.length + j) → Q .nx (stR pd found' late' [.sh (.int here), .sh (.int one), .sh (.int other), .sh (.int near), .sh (.int far)])) :
    Wp (cIfS (cAnd (tOf (c2 gEq (cV 7) (cV 4))) (tOf (c2 (gIn true) (cV 8) (cV 2))))
      (cParEF 2 3 (cL (cLst (cStar (cV 2) (cCons (cV 8) cNil)))) (cLst (cStar (cP 3) (cCons (cV 8) cNil)))) cSkip (stR pd found late [.sh (.int here), .sh (.int one), .sh (.int other), .sh (.int near), .sh (.int far)])) Q E := by
  have hfl : found.length ≤ N := nodup_le h.inv.nd h.inv.rg
  have z1 : (2000 : Nat) ≤ sizeLine := by decide +kernel
  unfold stR
  by_cases e : near = here
  · subst e
    by_cases hf : far ∈ found
    · simp [hf, notIn_ints]
      exact k found late h (fun x hx => hx) (fun _ => hf) ⟨0, by simp, by simp⟩
    · simp [hf, notIn_ints, itemsD, cellD, isRf, intsD_app]
      refine ⟨by simp [intsD]; omega, by simp [intsD]; omega, ?_⟩
      exact k (found ++ [far]) (late ++ [far]) (h.add h0 h1 hf (hg rfl)) (fun x hx => List.mem_append_left _ hx) (fun _ => List.mem_append_right _ (List.mem_singleton.mpr rfl)) ⟨1, by simp, by simp⟩
  · simp [e, notIn_ints]
    exact k found late h (fun x hx => hx) (fun z => absurd z e) ⟨0, by simp, by simp⟩
end PyD

set_option Elab.async false
set_option linter.all false
set_option maxRecDepth 100000
namespace PyD
open PySem PySem.Spec L2
open PyProof.Rows hiding St
def stepS : Sv := cIfS (cAnd (tOf (c2 gEq (cV 7) (cV 4))) (tOf (c2 (gIn true) (cV 8) (cV 2))))
      (cParEF 2 3 (cL (cLst (cStar (cV 2) (cCons (cV 8) cNil)))) (cLst (cStar (cP 3) (cCons (cV 8) cNil)))) cSkip
def pairS : Sv := cFor (cW (cTup (cCons (cTup (cCons (cV 5) (cCons (cV 6) cNil))) (cCons (cTup (cCons (cV 6) (cCons (cV 5) cNil))) cNil)))) (gT 2 (gConsD (gN 7) (gConsD (gN 8) gNilD))) stepS
theorem reach_pair {ps : List (Int × Int)} {N : Nat} {here one other : Int} {found late : List Int} {pd : D} {x y : Cell} {Q : Fl → Rho → Prop} {E : Nat → D → Prop} (h : RMid ps N here found late) (hN : N ≤ 100) (hlt : late.length ≤ 900) (hx : isRf x = false) (hy : isRf y = false)
    (h0 : 0 ≤ one ∧ one < N) (h1 : 0 ≤ other ∧ other < N) (hpm : (one, other) ∈ ps)
    (k : ∀ found' late' x' y', RMid ps N here found' late' → (∀ x ∈ found, x ∈ found') → (one = here → other ∈ found') → (other = here → one ∈ found') → (∃ j, found'.length = found.length + j ∧ late'.length = late.length + j) → isRf x' = false → isRf y' = false →
      Q .nx (stR pd found' late' [.sh (.int here), .sh (.int one), .sh (.int other), x', y'])) :
    Wp (pairS (stR pd found late [.sh (.int here), .sh (.int one), .sh (.int other), x, y])) Q E := by
  have hfl : found.length ≤ N := nodup_le h.inv.nd h.inv.rg
  unfold pairS
  simp [stR]
  rw [wp_forL_cons]
  simp [hx, hy]
  refine ⟨by decide +kernel, ?_⟩
  refine reach_step (pd := pd) h hN (by omega) h1.1 h1.2 (fun e => Hang.fwd (p := (one, other)) hpm (h.inv.least _ (by show one ∈ found; rw [e]; exact h.hin))) fun f1 l1 m1 s1 c1 j1 => ?_
  obtain ⟨j1, e1, e2⟩ := j1
  have hf1 : f1.length ≤ N := nodup_le m1.inv.nd m1.inv.rg
  simp only [turn_nx]
  rw [wp_forL_cons]
  simp [stR, isRf]
  refine reach_step (pd := pd) m1 hN (by omega) h0.1 h0.2 (fun e => Hang.bwd (p := (one, other)) hpm (m1.inv.least _ (by show other ∈ f1; rw [e]; exact m1.hin))) fun f2 l2 m2 s2 c2 j2 => ?_
  obtain ⟨j2, e3, e4⟩ := j2
  simp only [turn_nx]
  rw [wp_forL_nil]
  exact k f2 l2 _ _ m2 (fun x hx => s2 x (s1 x hx)) (fun e => s2 _ (c1 e)) c2 ⟨j1 + j2, by omega, by omega⟩ rfl rfl
end PyD

set_option Elab.async false
set_option linter.all false
set_option maxRecDepth 100000
namespace PyD
open PySem PySem.Spec L2
open PyProof.Rows hiding St
@[simp] theorem le_size {n : Nat} (h : n ≤ 100000) : n ≤ sizeLine := Nat.le_trans h (by decide +kernel)
@[simp] theorem lt_size {n : Nat} (h : n < 100000) : n < sizeLine := Nat.lt_of_lt_of_le h (by decide +kernel)
theorem wp_sort_ints {l : List Int} (h : l.length ≤ 100) : ∃ ds, gSort [.lst (intsD l)] = some ds ∧ ds.length = l.length := by
  have h0 : ∀ d ∈ intsD l, ∃ i, d = .int i := fun d hd => by
    obtain ⟨i, _, rfl⟩ := List.mem_map.mp hd
    exact ⟨i, rfl⟩
  have : sortOk (intsD l) = true := by
    unfold sortOk
    rw [Bool.and_eq_true, Bool.and_eq_true, Bool.and_eq_true, Bool.or_eq_true]
    refine ⟨⟨⟨decide_eq_true (by simp only [intsD, List.length_map]; exact Nat.le_trans h (by decide +kernel)), List.all_eq_true.mpr fun d hd => ?_⟩, .inr (List.all_eq_true.mpr fun d hd => ?_)⟩, List.all_eq_true.mpr fun d hd => List.all_eq_true.mpr fun e he => ?_⟩
    · obtain ⟨t, rfl⟩ := h0 d hd; rfl
    · obtain ⟨t, rfl⟩ := h0 d hd; rfl
    · obtain ⟨t, rfl⟩ := h0 d hd
      obtain ⟨u, rfl⟩ := h0 e he
      simp [wp_cSeq, toPy, PySem.W.alike]
  refine ⟨(intsD l).mergeSort leD, ?_, ?_⟩
  · show (if sortOk (intsD l) = true then some ((intsD l).mergeSort leD) else none) = _
    rw [if_pos this]
  · rw [List.length_mergeSort]; simp [wp_cSeq, intsD]
def stR0 (pd : D) (found late : List Int) (c4 c5 c6 c7 c8 : Cell) : Rho := [.sh pd, .sh (.int 0), .sh (.lst (intsD found)), .ow (.lst (intsD late)), c4, c5, c6, c7, c8]
theorem intsD_last {l : List Int} {x : Int} : intsD (l ++ [x]) = intsD l ++ [.int x] := (intsD_app l x).symm
theorem eq_ints_nil {l : List Int} : eqD (.lst (intsD l)) (.lst []) = decide (l = []) := by
  cases l with
  | nil => simp [wp_cSeq, intsD]
  | cons x l => simp [wp_cSeq, intsD]
/-- the points found: without repeats, in range, 0 among them, closed under the pairs -/
structure Reach (ps : List (Int × Int)) (N : Nat) (found : List Int) : Prop where
  nd : found.Nodup
  rg : ∀ x ∈ found, 0 ≤ x ∧ x < N
  st : (0 : Int) ∈ found
  least : ∀ x ∈ found, Hang ps x
  cl : ∀ x ∈ found, ∀ p ∈ ps, (p.1 = x → p.2 ∈ found) ∧ (p.2 = x → p.1 ∈ found)
def Cl (ps : List (Int × Int)) (x : Int) (found : List Int) : Prop := ∀ p ∈ ps, (p.1 = x → p.2 ∈ found) ∧ (p.2 = x → p.1 ∈ found)
structure RHead (ps : List (Int × Int)) (N m : Nat) (found late : List Int) : Prop where
  inv : RInv ps N found late
  cl : ∀ x ∈ found, x ∉ late → Cl ps x found
  len : late.length + N = m + found.length
  mN : m ≤ N
structure RTurn (ps : List (Int × Int)) (N m k : Nat) (here : Int) (found late : List Int) : Prop where
  mid : RMid ps N here found late
  done : Cl (ps.take k) here found
  len : late.length + 1 + N = m + found.length
  mN : m ≤ N
theorem reach_ok {ps : List (Int × Int)} {N : Nat} (hN : N ≤ 100) (hN0 : 0 < N) (hp : ∀ p ∈ ps, (0 ≤ p.1 ∧ p.1 < N) ∧ (0 ≤ p.2 ∧ p.2 < N)) :
    Wp (m_reached_from [.sh (.lst (ps.map pairD)), .sh (.int 0)]) (fun ds _ => ∃ found : List Int, ds.length = found.length ∧ Reach ps N found) NoE := by
  unfold m_reached_from b_reached_from
  have z1 : (1000 : Nat) ≤ sizeLine := by decide +kernel
  simp [wp_cSeq, full, outCells, and_assoc, isRf]
  refine whileN_inv (fun m ρ => ∃ found late c4 c5 c6 c7 c8, ρ = stR0 (.lst (ps.map pairD)) found late c4 c5 c6 c7 c8 ∧ isRf c4 = false ∧ isRf c5 = false ∧ isRf c6 = false ∧ isRf c7 = false ∧ isRf c8 = false ∧ RHead ps N m found late) ?_ 1000000 N _ (by omega) ?_
  · rintro m ρ ⟨found, late, c4, c5, c6, c7, c8, rfl, h4, h5, h6, h7, h8, hh⟩
    obtain ⟨hi, hc, hm, hmN⟩ := hh
    have hfl : found.length ≤ N := nodup_le hi.nd hi.rg
    have hn : gNe (.lst (intsD late)) (.lst []) = some (.bl (!decide (late = []))) := by
      rw [gNe_ok (cmp_ints late) rfl, eq_ints_nil]
    by_cases hl : late = []
    rotate_left
    · obtain ⟨l1, here, rfl⟩ : ∃ l1 t1, late = l1 ++ [t1] := ⟨late.dropLast, late.getLast hl, (List.dropLast_concat_getLast _).symm⟩
      simp only [wp_cSeq, wp_tOf, wp_c2, wp_cP, wp_cL, wp_cLst, wp_cNil]
      simp [wp_cSeq, stR0, cellD, hn]
      refine wp_cPop (ds := intsD l1) (d := .int here) (by rw [intsD_last]; rfl) ?_
      simp [wp_cSeq, putL, sameKind, h4]
      have hl1 : l1.length + 1 + N = m + found.length := by simpa using hm
      refine forL_inv (fun k ρ => ∃ found' late' c5 c6 c7 c8, ρ = stR (.lst (ps.map pairD)) found' late' [.sh (.int here), c5, c6, c7, c8] ∧ isRf c5 = false ∧ isRf c6 = false ∧ isRf c7 = false ∧ isRf c8 = false ∧ RTurn ps N m k here found' late') 0 ?_ ?_ ?_
      · refine ⟨found, l1, c5, c6, c7, c8, rfl, h5, h6, h7, h8, ⟨⟨⟨hi.nd, hi.rg, fun x hx => hi.sub x (List.mem_append_left _ hx), hi.st, hi.least⟩, hi.sub here (List.mem_append_right _ (List.mem_singleton.mpr rfl)), fun x hx hx2 hne => hc x hx fun z => ?_⟩, by intro p hp; simp at hp, hl1, hmN⟩⟩
        rcases List.mem_append.mp z with z | z
        · exact hx2 z
        · exact hne (List.mem_singleton.mp z)
      · rintro j d ρ hj ⟨f1, l2, c5, c6, c7, c8, rfl, h5, h6, h7, h8, ht⟩
        obtain ⟨hmid, hdone, hlen, _⟩ := ht
        obtain ⟨p, hpj, rfl⟩ : ∃ p, ps[j]? = some p ∧ pairD p = d := by
          rw [List.getElem?_map] at hj
          exact Option.map_eq_some_iff.mp hj
        have hpm : p ∈ ps := List.mem_of_getElem? hpj
        have hf1 : f1.length ≤ N := nodup_le hmid.inv.nd hmid.inv.rg
        simp [wp_cSeq, pairD, stR, h5, h6]
        refine reach_pair (pd := .lst (ps.map pairD)) hmid hN (by omega) h7 h8 (hp p hpm).1 (hp p hpm).2 hpm fun f2 l3 x' y' hmid2 hsub c1 c2 hcnt hx hy => ?_
        obtain ⟨jj, e1, e2⟩ := hcnt
        refine ⟨f2, l3, _, _, x', y', rfl, rfl, rfl, hx, hy, hmid2, fun q hq => ?_, by omega, hmN⟩
        rw [List.take_succ, hpj] at hq
        rcases List.mem_append.mp hq with hq | hq
        · obtain ⟨a, b⟩ := hdone q (by rw [Nat.zero_add]; exact hq)
          exact ⟨fun e => hsub _ (a e), fun e => hsub _ (b e)⟩
        · have : q = p := by simpa using hq
          subst this
          exact ⟨c1, c2⟩
      · rintro ρ ⟨f1, l2, c5, c6, c7, c8, rfl, h5, h6, h7, h8, ht⟩
        obtain ⟨hmid, hdone, hlen, _⟩ := ht
        have hf1 : f1.length ≤ N := nodup_le hmid.inv.nd hmid.inv.rg
        simp only [turn_nx]
        refine ⟨m - 1, by omega, f1, l2, _, c5, c6, c7, c8, rfl, rfl, h5, h6, h7, h8, hmid.inv, fun x hx hx2 p hp => ?_, by omega, by omega⟩
        by_cases e : x = here
        · subst e
          have := hdone p (by rw [Nat.zero_add, List.length_map, List.take_length]; exact hp)
          exact ⟨fun e => this.1 e, fun e => this.2 e⟩
        · exact hmid.cl x hx hx2 e p hp
    · subst hl
      obtain ⟨ds, hs, hlen⟩ := wp_sort_ints (l := found) (by omega)
      simp [wp_cSeq, stR0, cellD, hn, hs]
      exact ⟨found, hlen, hi.nd, hi.rg, hi.st, hi.least, fun x hx => hc x hx (by simp)⟩
  · refine ⟨[0], [0], .no, .no, .no, .no, .no, rfl, rfl, rfl, rfl, rfl, rfl, ⟨by simp, fun x hx => ?_, fun x hx => hx, by simp, fun x hx => by rw [List.mem_singleton.mp hx]; exact Hang.zero⟩, fun x hx hn => absurd hx hn, by simp; omega, Nat.le_refl _⟩
    rw [List.mem_singleton.mp hx]
    omega
end PyD

set_option Elab.async false
set_option linter.all false
set_option maxRecDepth 100000
namespace PyD
open PySem PySem.Spec L2
open PyProof.Rows hiding St
/-! ### the calculus, the rest -/
section
variable {α β : Type} {S : β → Rho → Prop} {S' : α → Rho → Prop} {E : Nat → D → Prop}
theorem wp_bind_congr {r : R (α × Rho)} {g : α × Rho → R (β × Rho)} (e : ∀ a ρ, Wp (g (a, ρ)) S E ↔ S' a ρ) : Wp (r.bind g) S E ↔ Wp r S' E := by
  rw [wp_bind]
  exact ⟨fun h => h.imp (fun a ρ h => (e a ρ).mp h) fun _ _ h => h, fun h => h.imp (fun a ρ h => (e a ρ).mpr h) fun _ _ h => h⟩
end
section
variable {Q : D → Rho → Prop} {QL : List D → Rho → Prop} {QB : Bool → Rho → Prop} {QF : Fl → Rho → Prop} {E : Nat → D → Prop} {ρ : Rho} {fa fb fo : Ev} {fs gs : Av} {t u : Tv} {f g : Sv} {n : Nat}
theorem wp_cCallF {F : Av} : Wp (cCallF n F fs ρ) QL E ↔ Wp (fs ρ) (fun as ρ1 => as.length = n ∧ Wp (F (shs as)) (fun d _ => QL d ρ1) E) E := by
  unfold cCallF
  exact wp_bind_congr fun a ρ1 => by simp only [wp_ite_bad, wp_bind, wp_ok]
theorem wp_cCallV {tab : FTab} {ff : Ev} : Wp (cCallV tab ff fs ρ) Q E ↔ Wp (ff ρ) (fun z ρ1 => ∃ k m F, z = .fn k ∧ tab k = some (m, F) ∧ Wp (fs ρ1) (fun as ρ2 => as.length = m ∧ Wp (F (shs as)) (fun d _ => Q d ρ2) E) E) E := by
  unfold cCallV
  refine wp_bind_congr fun z ρ1 => ?_
  cases z <;> simp [wp_bad]
  rename_i k
  cases h : tab k with
  | none => simp [wp_bad]
  | some x =>
    obtain ⟨m, F⟩ := x
    simp only [wp_bind, wp_ite_bad, wp_ok]
    exact ⟨fun z => ⟨m, F, rfl, z⟩, fun ⟨_, _, e, z⟩ => by cases e; exact z⟩
@[simp] theorem wp_cMt {r : Str → List D → Option D} : Wp (cMt r fo fs ρ) Q E ↔ Wp (fo ρ) (fun a ρ1 => ∃ x, a = .str x ∧ Wp (fs ρ1) (fun as ρ2 => ∃ z, r x as = some z ∧ Q z ρ2) E) E := by
  unfold cMt
  refine wp_bind_congr fun z ρ1 => ?_
  cases z <;> simp [wp_bad, wp_bind, wp_opt]
@[simp] theorem wp_cMtF {r : Str → List D → Option (List D)} : Wp (cMtF r fo fs ρ) QL E ↔ Wp (fo ρ) (fun a ρ1 => ∃ x, a = .str x ∧ Wp (fs ρ1) (fun as ρ2 => ∃ z, r x as = some z ∧ QL z ρ2) E) E := by
  unfold cMtF
  refine wp_bind_congr fun z ρ1 => ?_
  cases z <;> simp [wp_bad, wp_bind, wp_opt]
@[simp] theorem wp_cRaise {c : Nat} : Wp (cRaise c fa ρ) QF E ↔ Wp (fa ρ) (fun d _ => E c d) E := by
  unfold cRaise
  exact wp_bind_congr fun z ρ1 => Iff.rfl
@[simp] theorem wp_cTupOf : Wp (cTupOf fa ρ) Q E ↔ Wp (fa ρ) (fun a ρ1 => ∃ ds, itemsD a = some ds ∧ Q (.tup ds) ρ1) E := by
  unfold cTupOf
  refine wp_bind_congr fun z ρ1 => ?_
  cases h : itemsD z <;> simp [h, wp_bad, wp_ok]
@[simp] theorem wp_cListOf : Wp (cListOf fa ρ) QL E ↔ Wp (fa ρ) (fun a ρ1 => ∃ ds, itemsD a = some ds ∧ QL ds ρ1) E := by
  unfold cListOf
  refine wp_bind_congr fun z ρ1 => ?_
  cases h : itemsD z <;> simp [h, wp_bad, wp_ok]
@[simp] theorem wp_cEnum : Wp (cEnum fs ρ) QL E ↔ Wp (fs ρ) (fun as ρ1 => ∃ ds, as = [.lst ds] ∧ QL (enumD 0 ds) ρ1) E := by
  unfold cEnum
  refine wp_bind_congr fun z ρ1 => ?_
  split
  · rename_i ds h
    simp only at h
    subst h
    simp [wp_ok]
  · rename_i h
    simp only [wp_bad, false_iff]
    rintro ⟨ds, e, _⟩
    exact h ds e
theorem wp_putSh {i : Nat} {d : D} : Wp ((putSh ρ i d).map fun ρ2 => (Fl.nx, ρ2)) QF E ↔ ∃ c, ρ[i]? = some c ∧ isRf c = false ∧ QF .nx (ρ.set i (.sh d)) := by
  unfold putSh
  cases ρ[i]? with
  | none => simp [R.map, Wp]
  | some c => cases c <;> simp [R.map, Wp, isRf]
@[simp] theorem wp_cPar {i j : Nat} : Wp (cPar i j fa fb ρ) QF E ↔ Wp (fa ρ) (fun x ρ1 => Wp (fb ρ1) (fun y ρ2 => ∃ c, ρ2[i]? = some c ∧ isRf c = false ∧ ∃ c2, (ρ2.set i (.sh x))[j]? = some c2 ∧ isRf c2 = false ∧ QF .nx ((ρ2.set i (.sh x)).set j (.sh y))) E) E := by
  unfold cPar
  refine wp_bind_congr fun x ρ1 => wp_bind_congr fun y ρ2 => ?_
  unfold putSh
  simp only
  cases h : ρ2[i]? with
  | none => simp [R.bind, Wp]
  | some c => cases c <;> simp only [R.bind] <;> first | (refine Iff.trans wp_putSh ?_; simp [isRf]) | simp [Wp, isRf]
@[simp] theorem wp_cDct0 : Wp (cDct0 ρ) Q E ↔ Q (.dct []) ρ := Iff.rfl
@[simp] theorem wp_aKw {m : Nat} {pm : List Nat} : Wp (aKw n m pm fs gs ρ) QL E ↔ Wp (fs ρ) (fun xs ρ1 => Wp (gs ρ1) (fun ys ρ2 => (xs.length = n ∧ ys.length = m) ∧ QL (xs ++ permL pm ys) ρ2) E) E := by
  unfold aKw
  exact wp_bind_congr fun x ρ1 => wp_bind_congr fun y ρ2 => by simp only [wp_ite_bad, wp_ok]
@[simp] theorem wp_cCat : Wp (cCat fa fb ρ) QL E ↔ Wp (fa ρ) (fun a ρ1 => Wp (fb ρ1) (fun b ρ2 => ∃ xs ys, a = .lst xs ∧ b = .lst ys ∧ xs.length + ys.length ≤ sizeLine ∧ QL (xs ++ ys) ρ2) E) E := by
  unfold cCat
  refine wp_bind_congr fun x ρ1 => wp_bind_congr fun y ρ2 => ?_
  cases x <;> cases y <;> simp [wp_bad, wp_ite_bad, wp_ok]
theorem wp_cM {i : Nat} : Wp (cM i ρ) QL E ↔ ∃ ds, ρ[i]? = some (.ow (.lst ds)) ∧ QL ds (ρ.set i .no) := by
  unfold cM
  cases h : ρ[i]? with
  | none => simp [Wp]
  | some c =>
    cases c <;> simp [Wp]
    rename_i d
    cases d <;> simp
theorem wp_callR {i : Nat} {F : Ev} : Wp (cCallR i n F fs ρ) Q E ↔ (∃ c0, lent1 ρ i = some c0) ∧ Wp (fs ρ) (fun as ρ1 => ∃ c, lent1 ρ1 i = some c ∧ as.length + 1 = n ∧ Wp (F (.rf c :: shs as)) (fun d ρ' => ∃ c' t, ρ' = .rf c' :: t ∧ Q d (setK ρ1 i c')) NoE) NoE := by
  unfold cCallR
  cases h : lent1 ρ i with
  | none => simp [wp_bad]
  | some c0 =>
    simp only [Option.some.injEq, exists_eq', true_and]
    rw [wp_bind_congr (S' := fun as ρ1 => ∃ c, lent1 ρ1 i = some c ∧ as.length + 1 = n ∧ Wp (F (.rf c :: shs as)) (fun d ρ' => ∃ c' t, ρ' = .rf c' :: t ∧ Q d (setK ρ1 i c')) NoE) fun as ρ1 => ?_, wp_noExc]
    simp only
    cases h1 : lent1 ρ1 i with
    | none => simp [wp_bad]
    | some c =>
      by_cases hn : as.length + 1 = n
      · simp only [hn, if_true, Option.some.injEq, exists_eq_left', true_and]
        cases e : F (.rf c :: shs as) with
        | bad => simp [Wp]
        | exc c d => simp [Wp, NoE]
        | ok x =>
          obtain ⟨d, ρ'⟩ := x
          cases ρ' with
          | nil => simp [Wp]
          | cons c' t => cases c' <;> simp [Wp]
      · simp [hn, wp_bad]
theorem wp_callRF {i : Nat} {F : Av} : Wp (cCallRF i n F fs ρ) QL E ↔ (∃ c0, lent1 ρ i = some c0) ∧ Wp (fs ρ) (fun as ρ1 => ∃ c, lent1 ρ1 i = some c ∧ as.length + 1 = n ∧ Wp (F (.rf c :: shs as)) (fun d ρ' => ∃ c' t, ρ' = .rf c' :: t ∧ QL d (setK ρ1 i c')) NoE) NoE := by
  unfold cCallRF
  cases h : lent1 ρ i with
  | none => simp [wp_bad]
  | some c0 =>
    simp only [Option.some.injEq, exists_eq', true_and]
    rw [wp_bind_congr (S' := fun as ρ1 => ∃ c, lent1 ρ1 i = some c ∧ as.length + 1 = n ∧ Wp (F (.rf c :: shs as)) (fun d ρ' => ∃ c' t, ρ' = .rf c' :: t ∧ QL d (setK ρ1 i c')) NoE) fun as ρ1 => ?_, wp_noExc]
    simp only
    cases h1 : lent1 ρ1 i with
    | none => simp [wp_bad]
    | some c =>
      by_cases hn : as.length + 1 = n
      · simp only [hn, if_true, Option.some.injEq, exists_eq_left', true_and]
        cases e : F (.rf c :: shs as) with
        | bad => simp [Wp]
        | exc c d => simp [Wp, NoE]
        | ok x =>
          obtain ⟨d, ρ'⟩ := x
          cases ρ' with
          | nil => simp [Wp]
          | cons c' t => cases c' <;> simp [Wp]
      · simp [hn, wp_bad]
theorem wp_cTry {hit : Nat → Option Bool} {i j : Nat} : Wp (cTry hit i j fa ρ) QF E ↔ Wp (fa ρ) (fun _ ρ' => QF .nx ρ') (fun c d => (allSh ρ = true ∧ i < ρ.length ∧ j < ρ.length ∧ i ≠ j) ∧ ((hit c = some true ∧ QF .nx ((ρ.set j (.sh (.exc c d))).set i .no)) ∨ (hit c = some false ∧ E c d))) := by
  unfold cTry
  cases h : fa ρ with
  | bad => simp [Wp]
  | ok x => obtain ⟨d, ρ'⟩ := x; simp [Wp]
  | exc c d =>
    by_cases hc : allSh ρ = true ∧ i < ρ.length ∧ j < ρ.length ∧ i ≠ j
    · simp only [hc, ne_eq, not_false_iff, and_self, if_true, true_and]
      cases hh : hit c with
      | none => simp [Wp, hh]
      | some b => cases b <;> simp [Wp, hh]
    · simp only [if_neg hc]
      simp only [Wp, false_iff]
      exact fun z => hc z.1
end
section
variable {x y : Str} {xs ys : List D} {z : D} {i j : Int}
@[simp] theorem gAdd_str : gAdd (.str x) (.str y) = some z ↔ x.length + y.length ≤ sizeLine ∧ z = .str (x ++ y) := by
  show (if _ then _ else _) = _ ↔ _
  split
  · rename_i h; exact ⟨fun e => ⟨h, by cases e; rfl⟩, fun e => by rw [e.2]⟩
  · rename_i h; exact ⟨fun e => (by cases e), fun e => absurd e.1 h⟩
@[simp] theorem gAdd_lst : gAdd (.lst xs) (.lst ys) = some z ↔ xs.length + ys.length ≤ sizeLine ∧ z = .lst (xs ++ ys) := by
  show (if _ then _ else _) = _ ↔ _
  split
  · rename_i h; exact ⟨fun e => ⟨h, by cases e; rfl⟩, fun e => by rw [e.2]⟩
  · rename_i h; exact ⟨fun e => (by cases e), fun e => absurd e.1 h⟩
@[simp] theorem gEq_str : gEq (.str x) (.str y) = some (.bl (x == y)) := by rw [gEq_ok rfl rfl, eqD_str]
@[simp] theorem gNe_str : gNe (.str x) (.str y) = some (.bl (!(x == y))) := by rw [gNe_ok rfl rfl, eqD_str]
@[simp] theorem gSl_lst {lo hi : Option Int} : gSl lo hi (.lst xs) = some (.lst (cutD xs lo hi)) := rfl
@[simp] theorem wp_whole {Q : D → Rho → Prop} {E : Nat → D → Prop} : Wp (m_is_whole [.sh (.int i)]) Q E ↔ Q (.bl true) [.sh (.int i)] := by
  rw [whole_int, wp_ok]
theorem gAll_rep {n : Nat} : gAll (.lst (List.replicate n (.bl true))) = some (.bl true) := by
  have : ∀ n, blsOf (List.replicate n (.bl true)) = some (List.replicate n true) := fun n => by
    induction n with
    | zero => rfl
    | succ n ih => rw [List.replicate_succ, blsOf, ih]; rfl
  show (blsOf _).map _ = _
  rw [this]
  simp
theorem gLt_pair {a b c d : Int} : gLt (.tup [.int a, .int b]) (.tup [.int c, .int d]) = some (.bl (decide (a < c) || (decide (a = c) && decide (b < d)))) := by
  have h : ltO (.tup [.int a, .int b]) (.tup [.int c, .int d]) = some (PySem.W.dataLt (toPy (.tup [.int a, .int b])) (toPy (.tup [.int c, .int d]))) := by
    unfold ltO
    rw [if_pos ⟨rfl, rfl, by simp [toPy, toPyAll, PySem.W.alike, PySem.W.alikeAll], rfl⟩]
  show (gInts _ _ _).or ((ltO _ _).map .bl) = _
  rw [h]
  simp [gInts]
  have h' : PySem.W.dataLt (toPy (.tup [.int a, .int b])) (toPy (.tup [.int c, .int d])) = (decide ((1 : Int) < 1) || (!decide ((1 : Int) < 1) && (decide (a < c) || (!decide (c < a) && (decide ((1 : Int) < 1) || (!decide ((1 : Int) < 1) && (decide (b < d) || (!decide (d < b) && (decide ((0 : Int) < 0) || (!decide ((0 : Int) < 0) && false)))))))))) := by
    have e : PySem.W.dataLt (toPy (.tup [.int a, .int b])) (toPy (.tup [.int c, .int d])) = PyProof.Rows.lexLt itemOrd [.inl 1, .inl a, .inl 1, .inl b, .inl 0] [.inl 1, .inl c, .inl 1, .inl d, .inl 0] := by
      simp [PySem.W.dataLt, toPy, toPyAll, PySem.W.keyToks, PySem.W.keyToksAll]
    rw [e]
    rfl
  rw [h']
  by_cases h1 : a < c
  · simp [h1]
  · by_cases h2 : a = c
    · subst h2; simp
    · have : c < a := by omega
      simp [h1, h2, this]
end
end PyD

set_option Elab.async false
set_option linter.all false
set_option maxRecDepth 100000
namespace PyD
open PySem PySem.Spec L2
open PyProof.Rows hiding St
def pairsT (us : List Tie) : List (Int × Int) := us.map fun t => (t.1, t.2.1)
theorem reach_all {us : List Tie} {many T : Int} {N : Nat} {found : List Int} (hr : Rows many T us) (r : Reach (pairsT us) N found) : ∀ (k : Nat) (p : Int), p = k → p < many → p ∈ found := by
  intro k
  induction k using Nat.strongRecOn with
  | ind k ih =>
    intro p hp hm
    by_cases h0 : p = 0
    · rw [h0]; exact r.st
    · obtain ⟨t, ht, e⟩ := hr.low p (by omega) hm
      obtain ⟨a, b, _⟩ := hr.ok t ht
      have h1 : t.1 ∈ found := ih t.1.toNat (by omega) t.1 (by omega) (by omega)
      have := (r.cl t.1 h1 (t.1, t.2.1) (List.mem_map.mpr ⟨t, ht, rfl⟩)).1 rfl
      rw [← e]; exact this
/-- proper ties of a web of so many points -/
def TiesOk (m most : Int) (us : List Tie) : Prop := ∀ t ∈ us, 0 ≤ t.1 ∧ t.1 < t.2.1 ∧ t.2.1 < m ∧ 1 ≤ t.2.2 ∧ t.2.2 ≤ most
/-- all points hang together -/
def AllHang (m : Int) (us : List Tie) : Prop := ∀ p : Int, 0 ≤ p → p < m → Hang (pairsT us) p
theorem hang_len {us : List Tie} {m : Int} {found : List Int} (h1 : 1 ≤ m) (r : Reach (pairsT us) m.toNat found) : (found.length : Int) = m ↔ AllHang m us := by
  have g1 : found.length ≤ m.toNat := nodup_le r.nd r.rg
  have key : ∀ x, Hang (pairsT us) x → x ∈ found := fun x hx => hx (fun y => y ∈ found) r.st fun p hp => ⟨fun h => (r.cl _ h p hp).1 rfl, fun h => (r.cl _ h p hp).2 rfl⟩
  constructor
  · intro e p h0 h1
    refine r.least p (Classical.byContradiction fun hn => ?_)
    have := nodup_le (l := p :: found) (N := m.toNat) (List.nodup_cons.mpr ⟨hn, r.nd⟩) fun x hx => by
      rcases List.mem_cons.mp hx with e | hx
      · rw [e]; omega
      · exact r.rg x hx
    simp at this
    omega
  · intro h
    have g2 : m.toNat ≤ found.length := le_nodup fun x h0 h3 => key x (h x h0 (by omega))
    omega
open Classical in
theorem hang_gen {us : List Tie} {m : Int} (ht : TiesOk m 9 us) (h1 : 1 ≤ m) (h2 : m ≤ 90) :
    Wp (m_hang_together [.sh (.int m), .sh (.lst ((pairsT us).map pairD))]) (fun d _ => d = .bl (decide (AllHang m us))) NoE := by
  unfold m_hang_together b_hang_together
  simp [full, outCells, and_assoc, wp_cCallF, shs]
  have hp : ∀ p ∈ pairsT us, (0 ≤ p.1 ∧ p.1 < m.toNat) ∧ (0 ≤ p.2 ∧ p.2 < m.toNat) := fun p hp => by
    obtain ⟨t, h, rfl⟩ := List.mem_map.mp hp
    obtain ⟨a, b, c, _⟩ := ht t h
    exact ⟨⟨a, by show t.1 < _; omega⟩, ⟨by show 0 ≤ t.2.1; omega, by show t.2.1 < _; omega⟩⟩
  have := reach_ok (N := m.toNat) (by omega) (by omega) hp
  refine this.imp ?_ fun _ _ h => h.elim
  rintro ds ρ ⟨found, hl, r⟩
  rw [hl]
  have := hang_len h1 r
  by_cases e : (found.length : Int) = m
  · simp [e, this.mp e]
  · have e2 : ¬ AllHang m us := fun z => e (this.mpr z)
    simp [e, e2]
theorem allHang_of {us : List Tie} {many T : Int} (hr : Rows many T us) : AllHang many us := fun p h0 h1 S s0 hc => by
  have : ∀ (k : Nat) (p : Int), p = k → p < many → S p := by
    intro k
    induction k using Nat.strongRecOn with
    | ind k ih =>
      intro p hp hm
      by_cases h0 : p = 0
      · rw [h0]; exact s0
      · obtain ⟨t, ht, e⟩ := hr.low p (by omega) hm
        obtain ⟨a, b, _⟩ := hr.ok t ht
        have h1 : S t.1 := ih t.1.toNat (by omega) t.1 (by omega) (by omega)
        rw [← e]
        exact (hc (t.1, t.2.1) (List.mem_map.mpr ⟨t, ht, rfl⟩)).mp h1
  exact this p.toNat p (by omega) h1
theorem not_allHang {us : List Tie} {many T : Int} (hr : Rows many T us) (h1 : 1 ≤ many) : ¬ AllHang (many + 1) us := fun h => by
  have := h many (by omega) (by omega) (fun y => 0 ≤ y ∧ y < many) ⟨by omega, by omega⟩ fun p hp => by
    obtain ⟨t, h, rfl⟩ := List.mem_map.mp hp
    obtain ⟨a, b, c, _⟩ := hr.ok t h
    simp only
    omega
  omega
/-- ties one after another -/
def Asc (us : List Tie) : Prop := us.Pairwise fun t u => t.1 < u.1 ∨ (t.1 = u.1 ∧ t.2.1 < u.2.1)
theorem asc_of {us : List Tie} (h1 : us.Pairwise fun t u => tieLe t u = true) (h2 : (us.map fun t => (t.1, t.2.1)).Nodup) : Asc us := by
  unfold Asc
  have h3 : us.Pairwise fun t u => (t.1, t.2.1) ≠ (u.1, u.2.1) := List.pairwise_map.mp h2
  refine (h1.and h3).imp ?_
  rintro ⟨a, b, c⟩ ⟨d, e, f⟩ ⟨q1, q2⟩
  simp [tieLe, tieLt] at q1 q2 ⊢
  omega
theorem asc_get {us : List Tie} (h : Asc us) {i : Nat} {t u : Tie} (h1 : us[i]? = some t) (h2 : us[i + 1]? = some u) : t.1 < u.1 ∨ (t.1 = u.1 ∧ t.2.1 < u.2.1) := by
  obtain ⟨a, rfl⟩ := List.getElem?_eq_some_iff.mp h1
  obtain ⟨b, rfl⟩ := List.getElem?_eq_some_iff.mp h2
  exact List.pairwise_iff_getElem.mp h i (i + 1) a b (by omega)
theorem tiesD_get {us : List Tie} {i : Nat} {d : D} (h : (tiesD us)[i]? = some d) : ∃ t, us[i]? = some t ∧ tieD t = d := by
  unfold tiesD at h
  rw [List.getElem?_map] at h
  exact Option.map_eq_some_iff.mp h
theorem atI_ties {us : List Tie} {i : Nat} {t : Tie} (h : us[i]? = some t) : atI (tiesD us) (i : Int) = some (tieD t) := by
  obtain ⟨a, rfl⟩ := List.getElem?_eq_some_iff.mp h
  rw [atI_nat (by simpa [tiesD] using a)]
  simp [tiesD]
theorem tie_gen {l h x m : Int} : Wp (m_is_tie [.sh (tieD (l, h, x)), .sh (.int m)]) (fun d _ => d = .bl (decide (0 ≤ l ∧ l < h ∧ h < m ∧ 1 ≤ x ∧ x ≤ 9))) NoE := by
  unfold m_is_tie b_is_tie
  have z0 : 0 < sizeLine := by decide +kernel
  have z1 : 1 < sizeLine := by decide +kernel
  have z2 : 2 < sizeLine := by decide +kernel
  simp [wp_cSeq, full, outCells, and_assoc, noOw, tieD]
  simp [compL, wipeR, gN, putSh, R.bind, cYes, cCall, cCons, cNil, cV, shs, whole_int, R.map, z0, z1, z2, wp_ok, restR, gAll, blsOf, atI, ixN]
  by_cases h0 : 0 ≤ l <;> by_cases h1 : l < h <;> by_cases h2 : h < m <;> by_cases h3 : 1 ≤ x <;> by_cases h4 : x ≤ 9 <;> simp [h0, h1, h2, h3, h4] <;> omega
def blsD (bs : List Bool) : List D := bs.map .bl
theorem gAll_bls {bs : List Bool} : gAll (.lst (blsD bs)) = some (.bl (bs.all id)) := by
  have : ∀ bs : List Bool, blsOf (blsD bs) = some bs := fun bs => by
    induction bs with
    | nil => rfl
    | cons b bs ih =>
      show (blsOf (blsD bs)).map (b :: ·) = _
      rw [ih]; rfl
  show (blsOf _).map _ = _
  rw [this]
  rfl
def tieB (m : Int) (t : Tie) : Bool := decide (0 ≤ t.1 ∧ t.1 < t.2.1 ∧ t.2.1 < m ∧ 1 ≤ t.2.2 ∧ t.2.2 ≤ 9)
theorem tieB_all {m : Int} {us : List Tie} : (us.map (tieB m)).all id = true ↔ TiesOk m 9 us := by
  simp only [List.all_map, List.all_eq_true, Function.comp, id, tieB, decide_eq_true_eq]
  exact Iff.rfl
def ltT (t u : Tie) : Bool := decide (t.1 < u.1) || (decide (t.1 = u.1) && decide (t.2.1 < u.2.1))
def ascB (us : List Tie) (j : Nat) : Bool := match us[j]?, us[j + 1]? with
  | some t, some u => ltT t u
  | _, _ => true
theorem asc_adj {us : List Tie} (h : ∀ j, j < us.length - 1 → ascB us j = true) : Asc us := by
  have ad : ∀ (d i : Nat) (h1 : i + d + 1 < us.length), us[i].1 < us[i + d + 1].1 ∨ (us[i].1 = us[i + d + 1].1 ∧ us[i].2.1 < us[i + d + 1].2.1) := by
    intro d
    induction d with
    | zero =>
      intro i h1
      have := h i (by omega)
      unfold ascB at this
      rw [List.getElem?_eq_getElem (by omega), List.getElem?_eq_getElem (by omega)] at this
      simpa [ltT] using this
    | succ d ih =>
      intro i h1
      have a := ih i (by omega)
      have := h (i + d + 1) (by omega)
      unfold ascB at this
      rw [List.getElem?_eq_getElem (by omega), List.getElem?_eq_getElem (by omega)] at this
      have b : us[i + d + 1].1 < us[i + (d + 1) + 1].1 ∨ (us[i + d + 1].1 = us[i + (d + 1) + 1].1 ∧ us[i + d + 1].2.1 < us[i + (d + 1) + 1].2.1) := by simp [ltT] at this; exact this
      omega
  refine List.pairwise_iff_getElem.mpr fun i j hi hj hij => ?_
  have := ad (j - i - 1) i (by omega)
  have e : i + (j - i - 1) + 1 = j := by omega
  simp only [e] at this
  exact this
theorem ascB_all {us : List Tie} : ((List.range (us.length - 1)).map (ascB us)).all id = true ↔ Asc us := by
  simp only [List.all_map, List.all_eq_true, Function.comp, id, List.mem_range]
  constructor
  · exact asc_adj
  · intro h j hj
    unfold ascB
    rw [List.getElem?_eq_getElem (by omega), List.getElem?_eq_getElem (by omega)]
    have := asc_get h (i := j) (List.getElem?_eq_getElem (by omega)) (List.getElem?_eq_getElem (by omega))
    simpa [ltT] using this
/-- what a web is -/
structure IsWeb (m : Int) (us : List Tie) : Prop where
  m1 : 1 ≤ m
  m7 : m ≤ 7
  ok : TiesOk m 9 us
  asc : Asc us
  hang : AllHang m us
theorem range_succ_map {β : Type} (f : Nat → β) (k : Nat) : (List.range (k + 1)).map f = (List.range k).map f ++ [f k] := by
  rw [List.range_succ, List.map_append]; rfl
set_option maxHeartbeats 2000000 in
open Classical in
theorem isweb_all {us : List Tie} {m : Int} (hl : us.length ≤ 1000) : Wp (m_is_web_by [.sh (webD m us)]) (fun d _ => d = .bl (decide (IsWeb m us))) NoE := by
  unfold m_is_web_by b_is_web_by webD
  rw [wp_runD, wp_seq]
  simp [full, outCells, and_assoc, atI, ixN]
  rw [go_seq]
  by_cases hm : 1 ≤ m ∧ m ≤ 7
  rotate_left
  · have hw : ¬ IsWeb m us := fun z => hm ⟨z.m1, z.m7⟩
    simp [wp_cCall, shs, atI, ixN, hw]
    by_cases h1 : 1 ≤ m
    · have h2 : ¬ m ≤ 7 := fun z => hm ⟨h1, z⟩
      simp [h1, h2]; omega
    · simp [h1]; omega
  obtain ⟨q1, q2⟩ := hm
  simp [wp_cCall, shs, atI, ixN, q1, q2]
  rw [go_seq]
  simp [atI, ixN]
  rw [go_seq]
  simp [noOw]
  refine compL_inv (fun k acc ρ => acc = blsD ((us.take k).map (tieB m)) ∧ ∃ x, ρ = [.sh (webD m us), .sh (.lst (tiesD us)), x, .no] ∧ isRf x = false) 0 ⟨rfl, .no, rfl, rfl⟩ ?_ ?_
  · rintro j d acc ρ hj ⟨rfl, x, rfl, hx⟩
    obtain ⟨t, ht, rfl⟩ := tiesD_get hj
    have hjl := (List.getElem?_eq_some_iff.mp ht).1
    simp [wipeR, wp_cCall, shs, webD, atI, ixN]
    refine tie_gen.imp ?_ fun _ _ h => h.elim
    rintro _ _ rfl
    refine ⟨lt_size (by simp [blsD]; omega), ?_⟩
    rw [List.take_succ (l := List.map (tieB m) us), List.getElem?_map, ht]
    simp [blsD, tieB]
  · rintro acc ρ ⟨rfl, x, rfl, hx⟩
    have e : us.take (0 + (tiesD us).length) = us := List.take_of_length_le (by simp [tiesD])
    rw [e, gAll_bls]
    by_cases hT : TiesOk m 9 us
    rotate_left
    · have hw : ¬ IsWeb m us := fun z => hT z.ok
      have : (us.map (tieB m)).all id = false := by
        rw [Bool.eq_false_iff]; exact fun z => hT (tieB_all.mp z)
      rw [this]
      exact ⟨_, rfl, .inl ⟨rfl, hw⟩⟩
    rw [tieB_all.mpr hT]
    refine ⟨_, rfl, .inr ⟨rfl, ?_⟩⟩
    show Go _ [.sh (webD m us), .sh (.lst (tiesD us)), .no, .no] _ _
    rw [go_seq]
    simp [noOw]
    have hlen : (tiesD us).length = us.length := by simp [tiesD]
    rw [hlen]
    refine ⟨1, us.length, ⟨rfl, rfl⟩, ⟨by simp [inR], by simp [inR]; omega⟩, ?_⟩
    refine compL_inv (fun k acc ρ => acc = blsD ((List.range k).map (ascB us)) ∧ ∃ x, ρ = [.sh (webD m us), .sh (.lst (tiesD us)), .no, x] ∧ isRf x = false) 0 ⟨rfl, .no, rfl, rfl⟩ ?_ ?_
    · rintro j d acc ρ hj ⟨rfl, x, rfl, hx⟩
      obtain ⟨hj1, rfl⟩ := rangeD_get hj
      obtain ⟨t, ht⟩ : ∃ t, us[j]? = some t := ⟨us[j]'(by omega), List.getElem?_eq_getElem (by omega)⟩
      obtain ⟨u, hu⟩ : ∃ t, us[j + 1]? = some t := ⟨us[j + 1]'(by omega), List.getElem?_eq_getElem (by omega)⟩
      have e1 : (1 : Int) + j - 1 = (j : Int) := by omega
      have e2 : (1 : Int) + j = ((j + 1 : Nat) : Int) := by omega
      simp [wipeR, e1, atI_ties ht, tie_cut]
      rw [e2, atI_ties hu]
      simp [tie_cut, gLt_pair]
      refine ⟨lt_size (by simp [blsD]; omega), ?_⟩
      rw [range_succ_map]
      have e3 : ascB us j = ltT t u := by unfold ascB; rw [ht, hu]
      simp [blsD, e3, ltT]
    · rintro acc ρ ⟨rfl, x, rfl, hx⟩
      have e2 : 0 + (rangeD 1 ((us.length : Int) - 1).toNat).length = us.length - 1 := by rw [rangeD_length]; omega
      rw [gAll_bls, e2]
      by_cases hA : Asc us
      rotate_left
      · have hw : ¬ IsWeb m us := fun z => hA z.asc
        have : ((List.range (us.length - 1)).map (ascB us)).all id = false := by
          rw [Bool.eq_false_iff]; exact fun z => hA (ascB_all.mp z)
        rw [this]
        exact ⟨_, rfl, .inl ⟨rfl, hw⟩⟩
      rw [ascB_all.mpr hA]
      refine ⟨_, rfl, .inr ⟨rfl, ?_⟩⟩
      show Go _ [.sh (webD m us), .sh (.lst (tiesD us)), .no, .no] _ _
      rw [go_iff]
      simp [wp_cCall, webD, atI, ixN, noOw]
      refine compL_inv (fun k acc ρ => acc = (pairsT (us.take k)).map pairD ∧ ∃ x, ρ = [.sh (webD m us), .sh (.lst (tiesD us)), x, .no] ∧ isRf x = false) 0 ⟨by simp [pairsT], .no, rfl, rfl⟩ ?_ ?_
      · rintro j d acc ρ hj ⟨rfl, x, rfl, hx⟩
        obtain ⟨t, ht, rfl⟩ := tiesD_get hj
        have hjl := (List.getElem?_eq_some_iff.mp ht).1
        simp [wipeR, tie_cut]
        refine ⟨lt_size (by simp [pairsT]; omega), ?_⟩
        rw [List.take_succ, ht]
        simp [pairsT, pairD]
      · rintro acc ρ ⟨rfl, x, rfl, hx⟩
        rw [e]
        simp [shs]
        refine (hang_gen hT q1 (by omega)).imp ?_ fun _ _ h => h.elim
        rintro _ _ rfl
        by_cases hH : AllHang m us
        · have hw : IsWeb m us := ⟨q1, q2, hT, hA, hH⟩
          simp [hH, hw]
        · have hw : ¬ IsWeb m us := fun z => hH z.hang
          simp [hH, hw]
theorem isWeb_of {us : List Tie} {many : Int} (hr : Rows many 9 us) (ha : Asc us) (h1 : 1 ≤ many) (h2 : many ≤ 7) : IsWeb many us := ⟨h1, h2, hr.ok, ha, allHang_of hr⟩
end PyD

set_option Elab.async false
set_option linter.all false
set_option maxRecDepth 100000
namespace PyD
open PySem PySem.Spec L2
open PyProof.Rows hiding St
/-! ### what can be shown by repr -/
structure Rb (d : D) (k w : Nat) : Prop where
  sh : shS d = true
  dep : (toPy d).depth ≤ k
  lv : (toPy d).leavesShort 1921 = true
  wt : (toPy d).weight ≤ w
/-- a text of usual signs -/
def TextOk (x : Str) : Prop := ∀ c ∈ x.cps.toList, c < 1114112
theorem Rb.mono {d : D} {k w k' w' : Nat} (h : Rb d k w) (hk : k ≤ k') (hw : w ≤ w') : Rb d k' w' := ⟨h.sh, Nat.le_trans h.dep hk, h.lv, Nat.le_trans h.wt hw⟩
theorem Rb.non {k w : Nat} : Rb .non k w := ⟨rfl, by simp [toPy, PyData.depth], rfl, by simp [toPy, PyData.weight]⟩
theorem Rb.bl {k w : Nat} {b : Bool} : Rb (.bl b) k w := ⟨rfl, by simp [toPy, PyData.depth], rfl, by simp [toPy, PyData.weight]⟩
theorem Rb.dct {k w : Nat} (hk : 1 ≤ k) : Rb (.dct []) k w := ⟨rfl, by simp [toPy, toPyKV, PyData.depth, PyData.depthKv]; omega, by simp [toPy, toPyKV, PyData.leavesShort, PyData.leavesShortKv], by simp [toPy, toPyKV, PyData.weight, PyData.weightKv]⟩
theorem Rb.str {k w : Nat} {x : Str} (h : TextOk x) (hl : x.length ≤ w) : Rb (.str x) k w := ⟨rfl, by simp [toPy, PyData.depth], by
  simp only [toPy, PyData.leavesShort, List.all_eq_true, decide_eq_true_eq]
  exact fun c hc => Nat.lt_trans (h c hc) (by decide), hl⟩
theorem Rb.int {k w : Nat} {i : Int} (h : i.natAbs < 2 ^ w) (hw : w ≤ 1920) : Rb (.int i) k w := by
  have hl : i = 0 ∨ i.natAbs.log2 < w := by
    by_cases z : i = 0
    · exact .inl z
    · exact .inr ((Nat.log2_lt (by omega)).mpr h)
  have hL : i.natAbs.log2 < 1920 := by
    rcases hl with h | h
    · rw [h]; decide
    · omega
  refine ⟨?_, by simp [toPy, PyData.depth], ?_, ?_⟩
  · simp only [shS, decide_eq_true_eq]; exact hL
  · simp only [toPy, PyData.leavesShort, decide_eq_true_eq, PyData.shown_int]
    exact int_text_len_1921 hL
  · simp only [toPy, PyData.weight]
    split
    · omega
    · rename_i h0
      rcases hl with h | h
      · exact absurd (by simp [h]) h0
      · omega
theorem rb_all {k w : Nat} : ∀ {ds : List D}, (∀ d ∈ ds, Rb d k w) → shSs ds = true ∧ PyData.depthAll (toPyAll ds) ≤ k ∧ PyData.leavesShortAll 1921 (toPyAll ds) = true ∧ PyData.weightAll (toPyAll ds) ≤ ds.length * (w + 1)
  | [], _ => ⟨rfl, by simp [toPyAll, PyData.depthAll], rfl, by simp [toPyAll, PyData.weightAll]⟩
  | d :: ds, h => by
    obtain ⟨a, b, c, e⟩ := rb_all (ds := ds) fun x hx => h x (List.mem_cons_of_mem _ hx)
    have r := h d List.mem_cons_self
    refine ⟨by simp [shSs, r.sh, a], ?_, by simp [toPyAll, PyData.leavesShortAll, r.lv, c], ?_⟩
    · have := r.dep
      simp only [toPyAll, PyData.depthAll]; omega
    · have := r.wt
      have e2 : (ds.length + 1) * (w + 1) = ds.length * (w + 1) + (w + 1) := Nat.succ_mul ..
      simp only [toPyAll, PyData.weightAll, List.length_cons]; omega
theorem Rb.lst {k w n : Nat} {ds : List D} (h : ∀ d ∈ ds, Rb d k w) (hn : ds.length * (w + 1) ≤ n) : Rb (.lst ds) (k + 1) n := by
  obtain ⟨a, b, c, e⟩ := rb_all h
  exact ⟨by simpa [shS] using a, by simp only [toPy, PyData.depth]; omega, by simpa [toPy, PyData.leavesShort] using c, by simp only [toPy, PyData.weight]; omega⟩
theorem Rb.tup {k w n : Nat} {ds : List D} (h : ∀ d ∈ ds, Rb d k w) (hn : ds.length * (w + 1) ≤ n) : Rb (.tup ds) (k + 1) n := by
  obtain ⟨a, b, c, e⟩ := rb_all h
  exact ⟨by simpa [shS] using a, by simp only [toPy, PyData.depth]; omega, by simpa [toPy, PyData.leavesShort] using c, by simp only [toPy, PyData.weight]; omega⟩
/-- the same, with weights item by item -/
inductive RbL (k : Nat) : List D → Nat → Prop
  | nil : RbL k [] 0
  | cons {d : D} {ds : List D} {w n : Nat} : Rb d k w → RbL k ds n → RbL k (d :: ds) (w + 1 + n)
theorem RbL.all {k n : Nat} {ds : List D} (h : RbL k ds n) : shSs ds = true ∧ PyData.depthAll (toPyAll ds) ≤ k ∧ PyData.leavesShortAll 1921 (toPyAll ds) = true ∧ PyData.weightAll (toPyAll ds) ≤ n := by
  induction h with
  | nil => exact ⟨rfl, by simp [toPyAll, PyData.depthAll], rfl, by simp [toPyAll, PyData.weightAll]⟩
  | cons r _ ih =>
    obtain ⟨a, b, c, e⟩ := ih
    refine ⟨by simp [shSs, r.sh, a], ?_, by simp [toPyAll, PyData.leavesShortAll, r.lv, c], ?_⟩
    · have := r.dep
      simp only [toPyAll, PyData.depthAll]; omega
    · have := r.wt
      simp only [toPyAll, PyData.weightAll]; omega
theorem RbL.lst {k n m : Nat} {ds : List D} (h : RbL k ds n) (hm : n ≤ m) : Rb (.lst ds) (k + 1) m := by
  obtain ⟨a, b, c, e⟩ := h.all
  exact ⟨by simpa [shS] using a, by simp only [toPy, PyData.depth]; omega, by simpa [toPy, PyData.leavesShort] using c, by simp only [toPy, PyData.weight]; omega⟩
theorem RbL.tup {k n m : Nat} {ds : List D} (h : RbL k ds n) (hm : n ≤ m) : Rb (.tup ds) (k + 1) m := by
  obtain ⟨a, b, c, e⟩ := h.all
  exact ⟨by simpa [shS] using a, by simp only [toPy, PyData.depth]; omega, by simpa [toPy, PyData.leavesShort] using c, by simp only [toPy, PyData.weight]; omega⟩
theorem Rb.shD {d : D} {k w : Nat} (h : Rb d k w) (hk : k ≤ 20) (hw : w ≤ 8700) : shD d = true := by
  unfold PyD.shD
  have h1 := PyData.shown_le 1921 (by decide) _ h.lv
  have h2 := h.wt
  have h3 := h.dep
  simp only [Bool.and_eq_true, decide_eq_true_eq]
  refine ⟨⟨h.sh, by omega⟩, ?_⟩
  rw [sizeLine_eq]
  omega
theorem Rb.repr {d : D} {k w : Nat} (h : Rb d k w) (hk : k ≤ 20 := by decide) (hw : w ≤ 8700 := by omega) : gRepr d = some (.str (toPy d).shown) := by
  unfold gRepr
  rw [if_pos (h.shD hk hw)]
theorem rb_tie {t : Tie} {many : Int} (h : 0 ≤ t.1 ∧ t.1 < t.2.1 ∧ t.2.1 < many ∧ 1 ≤ t.2.2 ∧ t.2.2 ≤ 9) (hm : many ≤ 60) : Rb (tieD t) 1 21 := by
  have i1 : ∀ i : Int, 0 ≤ i → i < 64 → Rb (.int i) 0 6 := fun i a b => .int (by omega) (by decide)
  exact (RbL.cons (i1 _ (by omega) (by omega)) (.cons (i1 _ (by omega) (by omega)) (.cons (i1 _ (by omega) (by omega)) .nil))).tup (by decide)
theorem rb_ties {us : List Tie} {many : Int} (hr : Rows many 9 us) (hm : many ≤ 60) (hl : us.length ≤ 100) : Rb (.lst (tiesD us)) 2 2200 := by
  refine Rb.lst (w := 21) (fun d hd => ?_) (by simp only [tiesD, List.length_map]; omega)
  obtain ⟨t, ht, rfl⟩ := List.mem_map.mp hd
  exact rb_tie (hr.ok t ht) hm
theorem textOk_lit {s : String} : TextOk (Str.ofString s) := fun c hc => by
  rw [signs_ofString] at hc
  obtain ⟨ch, _, rfl⟩ := List.mem_map.mp hc
  have := ch.valid
  show ch.val.toNat < _
  rcases this with h | ⟨_, h⟩
  · exact Nat.lt_trans h (by decide)
  · exact h
end PyD

set_option Elab.async false
set_option linter.all false
set_option maxRecDepth 100000
namespace PyD
open PySem PySem.Spec L2
open PyProof.Rows hiding St
theorem pick_ok {a s c n : Int} {ds : List D} (g : GenOk a s c n) (hn : n + 3 < 2 ^ 60) (h0 : 0 < ds.length) (h1 : ds.length ≤ 100000) :
    Wp (m_law_pick [.rf (gen a s c), .sh (.lst ds)]) (fun d ρ => d ∈ ds ∧ ∃ a' c', ρ = [.rf (gen a' s c'), .sh (.lst ds)] ∧ GenOk a' s c' (n + 3)) NoE := by
  unfold m_law_pick b_law_pick
  simp [full, outCells, and_assoc]
  refine wp_rnd (b := ds.length) rfl rfl rfl g hn (by omega) (by omega) fun r a' c' r0 r1 g' => ?_
  obtain ⟨j, rfl⟩ : ∃ j : Nat, r = j := ⟨r.toNat, by omega⟩
  have hj : j < ds.length := by omega
  simp [atI_nat hj, setK, sameKind]
  exact ⟨_, _, ⟨rfl, rfl⟩, g'⟩
/-- what _law_pick draws -/
theorem wp_pick {i : Nat} {fs : Av} {ρ ρ1 : Rho} {Q : D → Rho → Prop} {E : Nat → D → Prop} {a s c n : Int} {c0 : D} {ds : List D} (h0 : lent1 ρ i = some c0) (hf : fs ρ = .ok ([.lst ds], ρ1)) (h1 : lent1 ρ1 i = some (gen a s c)) (g : GenOk a s c n) (hn : n + 3 < 2 ^ 60) (hl0 : 0 < ds.length) (hl1 : ds.length ≤ 100000)
    (k : ∀ d a' c', d ∈ ds → GenOk a' s c' (n + 3) → Q d (setK ρ1 i (gen a' s c'))) : Wp (cCallR i 2 m_law_pick fs ρ) Q E := by
  obtain ⟨d, ρ', e, hd, a', c', rfl, g'⟩ := (pick_ok g hn hl0 hl1).out
  unfold cCallR
  rw [h0]
  simp only [hf, noExc, R.bind, h1, List.length_cons, List.length_nil, shs, List.map_cons, List.map_nil, e]
  exact k d a' c' hd g'
abbrev wD (m : D) (ts : D) : D := .tup [.str "web", m, ts]
abbrev tD (a b c : D) : D := .tup [a, b, c]
def oddsD (many : Int) (us : List Tie) : List D :=
  [.non, .tup [], .lst [.str "web", .int many, .lst (tiesD us)], .tup [.str "Web", .int many, .lst (tiesD us)], .tup [.str "web", .int many], wD (.int 0) (.lst []), wD (.int 8) (.lst (tiesD us)), wD (.bl true) (.lst []), wD (.str (toString many)) (.lst (tiesD us)),
   wD (.int many) (.tup (tiesD us)), .tup [.non, .int many, .lst (tiesD us)],
   wD (.int (many + 1)) (.lst (tiesD us)), wD (.int many) .non, wD (.int 2) (.lst [tD (.int 0) (.int 1) (.int 0)]), wD (.int 2) (.lst [tD (.int 0) (.int 1) (.int 10)]), wD (.int 2) (.lst [tD (.int 1) (.int 0) (.int 1)]), wD (.int 2) (.lst [tD (.int 0) (.int 1) (.bl true)]), wD (.int 2) (.lst [.tup [.int 0, .int 1]]),
   wD (.int 2) (.lst [.lst [.int 0, .int 1, .int 1]]), wD (.int 2) (.lst [tD (.int 0) (.int 2) (.int 1)]), wD (.int 3) (.lst [tD (.int 1) (.int 2) (.int 1), tD (.int 0) (.int 1) (.int 1)]), wD (.int 2) (.lst [tD (.int 0) (.int 1) (.int 1), tD (.int 0) (.int 1) (.int 2)]),
   wD (.int 4) (.lst [tD (.int 0) (.int 1) (.int 1), tD (.int 2) (.int 3) (.int 1)]), wD (.int 2) (.lst [tD (.bl false) (.int 1) (.int 1)])]
theorem gStr_int {i : Int} (h : i.natAbs.log2 < 1920) : gStr [.int i] = some (.str (toString i)) := by
  show (if _ then _ else _) = _
  rw [if_pos h]
set_option maxHeartbeats 2000000 in
theorem bad_web_ok {a s c n many : Int} {us : List Tie} (g : GenOk a s c n) (hn : n + 3 < 2 ^ 60) (h0 : 1 ≤ many) (h1 : many ≤ 7) :
    Wp (m_law_bad_web [.rf (gen a s c), .sh (webD many us)]) (fun d ρ => d ∈ oddsD many us ∧ ∃ a' c', ρ = [.rf (gen a' s c'), .sh (webD many us)] ∧ GenOk a' s c' (n + 3)) NoE := by
  have hs : gStr [.int many] = some (.str (toString many)) := gStr_int (Nat.lt_of_lt_of_le (log2_lt (k := 3) (by omega) (by omega) (by omega)) (by decide))
  unfold m_law_bad_web b_law_bad_web webD
  rw [wp_runD, wp_seq]
  simp [full]
  rw [go_seq]
  simp [hs, itemsD]
  rw [go_seq]
  simp [itemsD]
  rw [go_seq]
  simp
  rw [go_seq]
  simp
  rw [go_seq]
  simp
  rw [go_iff]
  simp
  refine wp_pick (ds := oddsD many us) rfl rfl rfl g hn (by show 0 < 24; decide) (by show 24 ≤ _; decide) fun d a' c' hd g' => ?_
  simp [setK, sameKind, outCells, outCell]
  exact ⟨hd, _, _, rfl, g'⟩
end PyD

set_option Elab.async false
set_option linter.all false
set_option maxRecDepth 100000
namespace PyD
open PySem PySem.Spec L2
open PyProof.Rows hiding St
/-! ### the law's own hang -/
theorem in_ints {x : Int} {l : List Int} : gIn false (.int x) (.lst (intsD l)) = some (.bl (decide (x ∈ l))) := by
  show (match itemsD (.lst (intsD l)) with | some es => if cmpD (.int x) = true ∧ cmpD (.lst (intsD l)) = true then _ else none | none => none) = _
  simp only [itemsD]
  rw [if_pos ⟨rfl, cmp_ints l⟩, inD_ints]
  rfl
@[simp] theorem gInt_bl {b : Bool} : gInt [.bl b] = some (.int (if b then 1 else 0)) := rfl
theorem gMul_lst {xs : List D} {k : Int} (h : -(2 ^ 63) ≤ k ∧ k < 2 ^ 63 ∧ xs.length * k.toNat ≤ sizeLine) : gMul (.lst xs) (.int k) = some (.lst (List.replicate k.toNat xs).flatten) := by
  show (if _ then some (D.lst (List.replicate k.toNat xs).flatten) else none) = _
  rw [if_pos h]
theorem gMul_1 {x : D} : gMul (.lst [x]) (.int 1) = some (.lst [x]) := by
  rw [gMul_lst ⟨by decide, by decide, by simp⟩]; rfl
theorem gMul_0 {x : D} : gMul (.lst [x]) (.int 0) = some (.lst []) := by
  rw [gMul_lst ⟨by decide, by decide, by simp⟩]; rfl
def ClosedL (ps : List (Int × Int)) (l : List Int) : Prop := ∀ p ∈ ps, p.1 ∈ l ↔ p.2 ∈ l
structure HInv (ps : List (Int × Int)) (N k : Nat) (l : List Int) : Prop where
  nd : l.Nodup
  rg : ∀ x ∈ l, 0 ≤ x ∧ x < N
  st : (0 : Int) ∈ l
  least : ∀ x ∈ l, Hang ps x
  grow : ClosedL ps l ∨ k + 1 ≤ l.length
structure HMid (ps : List (Int × Int)) (N : Nat) (l0 : List Int) (j : Nat) (l : List Int) : Prop where
  nd : l.Nodup
  rg : ∀ x ∈ l, 0 ≤ x ∧ x < N
  least : ∀ x ∈ l, Hang ps x
  sub : ∃ e, l = l0 ++ e
  done : ∀ p ∈ ps.take j, (p.1 ∈ l0 → p.2 ∈ l) ∧ (p.2 ∈ l0 → p.1 ∈ l)
  stay : ClosedL ps l0 → l = l0
def addIf (l : List Int) (x y : Int) : List Int := l ++ (if x ∈ l ∧ y ∉ l then [y] else [])
theorem addIf_sub {l : List Int} {x y z : Int} (h : z ∈ l) : z ∈ addIf l x y := List.mem_append_left _ h
theorem addIf_mem {l : List Int} {x y : Int} (h : x ∈ l) : y ∈ addIf l x y := by
  unfold addIf
  by_cases hy : y ∈ l
  · exact List.mem_append_left _ hy
  · rw [if_pos ⟨h, hy⟩]; exact List.mem_append_right _ (List.mem_singleton.mpr rfl)
theorem addIf_inv {l : List Int} {x y z : Int} (h : z ∈ addIf l x y) : z ∈ l ∨ (z = y ∧ x ∈ l ∧ y ∉ l) := by
  unfold addIf at h
  rcases List.mem_append.mp h with h | h
  · exact .inl h
  · split at h
    · rename_i hc; exact .inr ⟨List.mem_singleton.mp h, hc⟩
    · cases h
theorem addIf_nd {l : List Int} {x y : Int} (h : l.Nodup) : (addIf l x y).Nodup := by
  unfold addIf
  split
  · rename_i hc
    exact List.nodup_append.mpr ⟨h, by simp, fun a ha b hb e => hc.2 (by rw [List.mem_singleton.mp hb] at e; exact e ▸ ha)⟩
  · simpa using h
theorem law_add {ρ : Rho} {a b : Nat} {l : List Int} {x y : Int} {QF : Fl → Rho → Prop} {E : Nat → D → Prop} (h2 : ρ[2]? = some (.sh (.lst (intsD l)))) (ha : ρ[a]? = some (.sh (.int y))) (hb : ρ[b]? = some (.sh (.int x))) (hl : l.length ≤ 1000)
    (q : QF .nx (ρ.set 2 (.sh (.lst (intsD (addIf l x y)))))) : Wp (cAsg (c2 gAdd (cV 2) (c2 gMul (cL (cLst (cCons (cV a) cNil))) (cC1 gInt (cCons (cAndV (c2 (gIn false) (cV b) (cV 2)) (c2 (gIn true) (cV a) (cV 2))) cNil)))) (gN 2) ρ) QF E := by
  have e : (intsD l).length = l.length := by simp [intsD]
  have z : l.length + 1 ≤ sizeLine := le_size (by omega)
  have z0 : l.length ≤ sizeLine := le_size (by omega)
  unfold addIf at q
  by_cases h1 : x ∈ l <;> by_cases h3 : y ∈ l <;> simp [h1, h3] at q <;> simp [h2, ha, hb, in_ints, notIn_ints, h1, h3, gMul_1, gMul_0, e, z, z0, q]
  rw [intsD_app]; exact q
theorem HMid.step {ps : List (Int × Int)} {N j : Nat} {l0 l : List Int} {one other : Int} (h : HMid ps N l0 j l) (hj : ps[j]? = some (one, other)) (r1 : 0 ≤ one ∧ one < N) (r2 : 0 ≤ other ∧ other < N) :
    HMid ps N l0 (j + 1) (addIf (addIf l one other) other one) := by
  have hm : (one, other) ∈ ps := List.mem_of_getElem? hj
  have hsub : ∀ z, z ∈ l → z ∈ addIf (addIf l one other) other one := fun z hz => addIf_sub (addIf_sub hz)
  have cases : ∀ z, z ∈ addIf (addIf l one other) other one → z ∈ l ∨ (z = other ∧ one ∈ l) ∨ (z = one ∧ other ∈ l) := fun z hz => by
    rcases addIf_inv hz with hz | ⟨rfl, a, b⟩
    · rcases addIf_inv hz with hz | ⟨rfl, a, b⟩
      · exact .inl hz
      · exact .inr (.inl ⟨rfl, a⟩)
    · rcases addIf_inv a with a | ⟨_, a, _⟩
      · exact .inr (.inr ⟨rfl, a⟩)
      · exact absurd (addIf_sub a) b
  refine ⟨addIf_nd (addIf_nd h.nd), fun z hz => ?_, fun z hz => ?_, ?_, fun p hp => ?_, fun hc => ?_⟩
  · rcases cases z hz with hz | ⟨rfl, _⟩ | ⟨rfl, _⟩
    · exact h.rg z hz
    · exact r2
    · exact r1
  · rcases cases z hz with hz | ⟨rfl, a⟩ | ⟨rfl, a⟩
    · exact h.least z hz
    · exact Hang.fwd hm (h.least _ a)
    · exact Hang.bwd hm (h.least _ a)
  · obtain ⟨e, he⟩ := h.sub
    unfold addIf
    rw [he]
    exact ⟨_, by rw [List.append_assoc, List.append_assoc]⟩
  · rw [List.take_succ, hj] at hp
    obtain ⟨e, he⟩ := h.sub
    have sub0 : ∀ z, z ∈ l0 → z ∈ l := fun z hz => by rw [he]; exact List.mem_append_left _ hz
    rcases List.mem_append.mp hp with hp | hp
    · exact ⟨fun a => hsub _ ((h.done p hp).1 a), fun a => hsub _ ((h.done p hp).2 a)⟩
    · have : p = (one, other) := by simpa using hp
      subst this
      exact ⟨fun a => addIf_sub (addIf_mem (sub0 _ a)), fun a => addIf_mem (addIf_sub (sub0 _ a))⟩
  · have e := h.stay hc
    have hx := hc _ hm
    have e1 : addIf l one other = l := by
      unfold addIf
      rw [if_neg (fun z => z.2 (by rw [e]; exact hx.mp (by rw [← e]; exact z.1)))]
      simp
    have e2 : addIf l other one = l := by
      unfold addIf
      rw [if_neg (fun z => z.2 (by rw [e]; exact hx.mpr (by rw [← e]; exact z.1)))]
      simp
    rw [e1, e2, e]
theorem HMid.over {ps : List (Int × Int)} {N k : Nat} {l0 l : List Int} (h0 : HInv ps N k l0) (h : HMid ps N l0 ps.length l) : HInv ps N (k + 1) l := by
  obtain ⟨e, he⟩ := h.sub
  refine ⟨h.nd, h.rg, by rw [he]; exact List.mem_append_left _ h0.st, h.least, ?_⟩
  by_cases hc : ClosedL ps l0
  · rw [h.stay hc]; exact .inl hc
  · have hl := h0.grow.resolve_left hc
    by_cases hz : e = []
    · refine absurd (fun p hp => ?_) hc
      have hl0 : l = l0 := by rw [he, hz]; simp
      have := h.done p (by rw [List.take_length]; exact hp)
      rw [hl0] at this
      exact ⟨this.1, this.2⟩
    · have : 0 < e.length := List.length_pos_iff.mpr hz
      exact .inr (by rw [he, List.length_append]; omega)
theorem HInv.fin {us : List Tie} {m : Int} {l : List Int} (h1 : 1 ≤ m) (h : HInv (pairsT us) m.toNat m.toNat l) : (l.length : Int) = m ↔ AllHang m us := by
  refine hang_len h1 ⟨h.nd, h.rg, h.st, h.least, ?_⟩
  have hc : ClosedL (pairsT us) l := by
    rcases h.grow with hc | hc
    · exact hc
    · have := nodup_le h.nd h.rg; omega
  exact fun x hx p hp => ⟨fun e => (hc p hp).mp (by rw [e]; exact hx), fun e => (hc p hp).mpr (by rw [e]; exact hx)⟩
set_option maxHeartbeats 1000000 in
open Classical in
theorem law_hang_ok {us : List Tie} {m : Int} (ht : TiesOk m 9 us) (h1 : 1 ≤ m) (h2 : m ≤ 90) :
    Wp (m_law_hang [.sh (.int m), .sh (.lst ((pairsT us).map pairD))]) (fun d _ => d = .bl (decide (AllHang m us))) NoE := by
  have hp : ∀ p ∈ pairsT us, (0 ≤ p.1 ∧ p.1 < m.toNat) ∧ (0 ≤ p.2 ∧ p.2 < m.toNat) := fun p hp => by
    obtain ⟨t, h, rfl⟩ := List.mem_map.mp hp
    obtain ⟨a, b, c, _⟩ := ht t h
    exact ⟨⟨a, by show t.1 < _; omega⟩, ⟨by show 0 ≤ t.2.1; omega, by show t.2.1 < _; omega⟩⟩
  unfold m_law_hang b_law_hang
  rw [wp_runD, wp_seq]
  simp [full]
  rw [go_seq]
  simp
  refine ⟨by simp [inR]; omega, ?_⟩
  refine forL_inv (fun k ρ => ∃ l x y z, ρ = [.sh (.int m), .sh (.lst ((pairsT us).map pairD)), .sh (.lst (intsD l)), x, y, z] ∧ isRf x = false ∧ isRf y = false ∧ isRf z = false ∧ HInv (pairsT us) m.toNat k l) 0 ?_ ?_ ?_
  · refine ⟨[0], .no, .no, .no, rfl, rfl, rfl, rfl, by simp, fun x hx => ?_, by simp, fun x hx => ?_, .inr (by simp)⟩
    · rw [List.mem_singleton.mp hx]; omega
    · rw [List.mem_singleton.mp hx]; exact Hang.zero
  · rintro k d ρ hk ⟨l0, x, y, z, rfl, hx, hy, hz, hi⟩
    obtain ⟨_, rfl⟩ := rangeD_get hk
    simp [hx]
    refine forL_inv (fun j ρ => ∃ l x y z, ρ = [.sh (.int m), .sh (.lst ((pairsT us).map pairD)), .sh (.lst (intsD l)), x, y, z] ∧ isRf x = false ∧ isRf y = false ∧ isRf z = false ∧ HMid (pairsT us) m.toNat l0 j l) 0 ?_ ?_ ?_
    · exact ⟨l0, _, y, z, rfl, rfl, hy, hz, hi.nd, hi.rg, hi.least, ⟨[], by simp⟩, by simp, fun _ => rfl⟩
    · rintro j d ρ hj ⟨l, x, y, z, rfl, hx, hy, hz, hmid⟩
      obtain ⟨⟨one, other⟩, hpj, rfl⟩ : ∃ p, (pairsT us)[j]? = some p ∧ pairD p = d := by
        rw [List.getElem?_map] at hj
        exact Option.map_eq_some_iff.mp hj
      have hpm := List.mem_of_getElem? hpj
      have hl : l.length ≤ m.toNat := nodup_le hmid.nd hmid.rg
      simp [pairD, hy, hz]
      rw [wp_seq]
      have hn := hmid.step (by rw [Nat.zero_add]; exact hpj) (hp _ hpm).1 (hp _ hpm).2
      have hl1 : (addIf l one other).length ≤ l.length + 1 := by unfold addIf; split <;> simp
      refine law_add rfl rfl rfl (by omega) ?_
      rw [then_nx, go_iff]
      refine law_add rfl rfl rfl (by omega) ?_
      rw [turn_nx]
      exact ⟨_, _, _, _, rfl, hx, rfl, rfl, by simpa using hn⟩
    · rintro ρ ⟨l, x, y, z, rfl, hx, hy, hz, hmid⟩
      simp only [turn_nx]
      refine ⟨l, x, y, z, rfl, hx, hy, hz, ?_⟩
      rw [Nat.zero_add, List.length_map] at hmid
      simpa using hmid.over hi
  · rintro ρ ⟨l, x, y, z, rfl, hx, hy, hz, hi⟩
    simp only [then_nx]
    rw [go_iff]
    rw [Nat.zero_add, rangeD_length] at hi
    have := hi.fin h1
    have e : (intsD l).length = l.length := by simp [intsD]
    simp [e]
    by_cases h : (l.length : Int) = m
    · simp [h, this.mp h]
    · have : ¬ AllHang m us := fun z => h (this.mpr z)
      simp [h, this]
end PyD

set_option Elab.async false
set_option linter.all false
set_option maxRecDepth 100000
namespace PyD
open PySem PySem.Spec L2
open PyProof.Rows hiding St
section
variable {QL : List D → Rho → Prop} {E : Nat → D → Prop} {ρ : Rho} {vs : List Nat} {tg : Gv} {tt : Tv} {elt : Ev} {d : D} {ds acc : List D}
theorem wp_compL_nil : Wp (compL vs tg tt elt [] acc ρ) QL E ↔ QL acc ρ := Iff.rfl
theorem wp_compL_cons : Wp (compL vs tg tt elt (d :: ds) acc ρ) QL E ↔ Wg (tg d (wipeR ρ vs)) (fun ρ1 => Wp (tt ρ1) (fun b ρ2 => (b = true → Wp (elt ρ2) (fun y ρ3 => acc.length < sizeLine ∧ Wp (compL vs tg tt elt ds (acc ++ [y]) ρ3) QL E) E) ∧ (b = false → Wp (compL vs tg tt elt ds acc ρ2) QL E)) E) E := by
  rw [compL, wg_bind]
  have e : ∀ ρ1, Wp ((tt ρ1).bind fun b => if b.1 = true then (elt b.2).bind fun y => if acc.length < sizeLine then compL vs tg tt elt ds (acc ++ [y.1]) y.2 else .bad else compL vs tg tt elt ds acc b.2) QL E ↔ Wp (tt ρ1) (fun b ρ2 => (b = true → Wp (elt ρ2) (fun y ρ3 => acc.length < sizeLine ∧ Wp (compL vs tg tt elt ds (acc ++ [y]) ρ3) QL E) E) ∧ (b = false → Wp (compL vs tg tt elt ds acc ρ2) QL E)) E := fun ρ1 => by
    refine wp_bind_congr fun b ρ2 => ?_
    cases b with
    | false => simp
    | true => simp [wp_bind, wp_ite_bad]
  exact ⟨fun h => h.imp (fun ρ1 h => (e ρ1).mp h) fun _ _ h => h, fun h => h.imp (fun ρ1 h => (e ρ1).mpr h) fun _ _ h => h⟩
end
@[simp] theorem gNe_ll : gNe (.lst []) (.lst []) = some (.bl false) := by rw [gNe_ok rfl rfl]; rfl
@[simp] theorem gEq_ll : gEq (.lst []) (.lst []) = some (.bl true) := by rw [gEq_ok rfl rfl]; rfl
theorem ltO_pair {a b c d : Int} : ltO (.tup [.int a, .int b]) (.tup [.int c, .int d]) = some (decide (a < c) || (decide (a = c) && decide (b < d))) := by
  have h := gLt_pair (a := a) (b := b) (c := c) (d := d)
  unfold gLt at h
  cases e : ltO (.tup [.int a, .int b]) (.tup [.int c, .int d]) with
  | none => rw [e] at h; simp [gInts] at h
  | some x => rw [e] at h; simp [gInts] at h; rw [h]
theorem gGe_pair {a b c d : Int} : gGe (.tup [.int a, .int b]) (.tup [.int c, .int d]) = some (.bl (!(decide (a < c) || (decide (a = c) && decide (b < d))))) := by
  unfold gGe
  rw [ltO_pair]
  simp [gInts]
@[simp] theorem wp_lwhole {i : Int} {Q : D → Rho → Prop} {E : Nat → D → Prop} : Wp (m_law_is_whole [.sh (.int i)]) Q E ↔ Q (.bl true) [.sh (.int i)] := by
  rw [show m_law_is_whole [.sh (.int i)] = .ok (.bl true, [.sh (.int i)]) by rfl, wp_ok]
def Pl (c : Cell) : Prop := c = .no ∨ ∃ d, c = .sh d
theorem Pl.rf {c : Cell} (h : Pl c) : isRf c = false := by rcases h with rfl | ⟨d, rfl⟩ <;> rfl
set_option maxHeartbeats 2000000 in
open Classical in
theorem law_is_web_ok {us : List Tie} {m : Int} (hl : us.length ≤ 1000) : Wp (m_law_is_web [.sh (webD m us)]) (fun d _ => d = .bl (decide (IsWeb m us))) NoE := by
  unfold m_law_is_web b_law_is_web webD
  rw [wp_runD, wp_seq]
  simp [full, and_assoc, atI, ixN, wp_cCall, shs]
  by_cases hm : 1 ≤ m ∧ m ≤ 7
  rotate_left
  · have hw : ¬ IsWeb m us := fun z => hm ⟨z.m1, z.m7⟩
    by_cases h1 : 1 ≤ m
    · have h2 : ¬ m ≤ 7 := fun z => hm ⟨h1, z⟩
      simp [h1, h2, hw]; omega
    · simp [h1, hw]; omega
  obtain ⟨q1, q2⟩ := hm
  have q3 : ¬ m < 1 := by omega
  have q4 : ¬ 7 < m := by omega
  simp [q3, q4]
  rw [go_seq]
  simp [atI, ixN]
  rw [go_seq]
  simp [atI, ixN]
  refine ⟨q1, q2, ?_⟩
  refine forL_inv (fun k ρ => ∃ x y, ρ = [.sh (webD m us), x, y, .no] ∧ isRf x = false ∧ Pl y ∧ TiesOk m 9 (us.take k) ∧ ∀ j, j + 1 < k → ascB us j = true) 0 ?_ ?_ ?_
  · exact ⟨.no, .no, rfl, rfl, .inl rfl, by intro t ht; simp at ht, by omega⟩
  · rintro j d ρ hj ⟨x, y, rfl, hx, hy, hok, hasc⟩
    obtain ⟨d, hd, rfl⟩ := enumD_get _ _ _ _ hj
    obtain ⟨t, ht, rfl⟩ := tiesD_get hd
    have hjl := (List.getElem?_eq_some_iff.mp ht).1
    simp only [Nat.zero_add] at hok hasc ⊢
    simp [hx, hy.rf, webD]
    rw [wp_seq]
    simp [tieD, noOw, wp_compL_cons, wp_compL_nil, wipeR, wp_cCall, shs, restR]
    rw [go_iff]
    have htm := List.mem_of_getElem? ht
    by_cases hb : 0 ≤ t.1 ∧ t.1 < t.2.1 ∧ t.2.1 < m ∧ 1 ≤ t.2.2 ∧ t.2.2 ≤ 9
    rotate_left
    · have hw : ¬ IsWeb m us := fun z => hb (z.ok t htm)
      simp [atI, ixN]
      rcases (by omega : t.1 < 0 ∨ (0 ≤ t.1 ∧ t.2.1 ≤ t.1) ∨ (0 ≤ t.1 ∧ t.1 < t.2.1 ∧ m ≤ t.2.1) ∨ (0 ≤ t.1 ∧ t.1 < t.2.1 ∧ t.2.1 < m ∧ t.2.2 < 1) ∨ (0 ≤ t.1 ∧ t.1 < t.2.1 ∧ t.2.1 < m ∧ 1 ≤ t.2.2 ∧ 9 < t.2.2)) with c | ⟨a, c⟩ | ⟨a, b, c⟩ | ⟨a, b, d, c⟩ | ⟨a, b, d, e, c⟩
      · exact .inl ⟨c, hw⟩
      · exact .inr ⟨a, .inl ⟨c, hw⟩⟩
      · exact .inr ⟨a, .inr ⟨b, .inl ⟨c, hw⟩⟩⟩
      · exact .inr ⟨a, .inr ⟨b, .inr ⟨d, .inl ⟨c, hw⟩⟩⟩⟩
      · exact .inr ⟨a, .inr ⟨b, .inr ⟨d, .inr ⟨e, .inl ⟨c, hw⟩⟩⟩⟩⟩
    obtain ⟨h0, h1, h2, h3, h4⟩ := hb
    have hok' : TiesOk m 9 (us.take (j + 1)) := fun u hu => by
      rw [List.take_succ, ht] at hu
      rcases List.mem_append.mp hu with hu | hu
      · exact hok u hu
      · have : u = t := by simpa using hu
        subst this
        exact ⟨h0, h1, h2, h3, h4⟩
    simp [h0, h1, h2, h3, h4]
    by_cases hj0 : j = 0
    · subst hj0
      refine .inl ⟨rfl, _, _, ⟨rfl, rfl⟩, rfl, .inr ⟨_, rfl⟩, hok', by omega⟩
    refine .inr ⟨by omega, ?_⟩
    obtain ⟨u, hu⟩ : ∃ t, us[j - 1]? = some t := ⟨us[j - 1]'(by omega), List.getElem?_eq_getElem (by omega)⟩
    have e1 : (j : Int) - 1 = ((j - 1 : Nat) : Int) := by omega
    have e2 : gSl none (some 2) (D.tup [D.int t.1, D.int t.2.1, D.int t.2.2]) = some (.tup [.int t.1, .int t.2.1]) := tie_cut
    refine ⟨tieD u, by rw [e1, atI_ties hu], _, tie_cut, _, e2, _, gGe_pair, ?_⟩
    have eb : ascB us (j - 1) = ltT u t := by unfold ascB; rw [hu, show j - 1 + 1 = j by omega, ht]
    unfold ltT at eb
    rw [← eb]
    cases h : ascB us (j - 1) with
    | true =>
      refine .inl ⟨rfl, _, _, ⟨rfl, rfl⟩, rfl, .inr ⟨_, rfl⟩, hok', fun i hi => ?_⟩
      by_cases e : i = j - 1
      · rw [e]; exact h
      · exact hasc i (by omega)
    | false =>
      refine .inr ⟨rfl, fun z => ?_⟩
      have := List.all_eq_true.mp (ascB_all.mpr z.asc) (ascB us (j - 1)) (List.mem_map.mpr ⟨j - 1, List.mem_range.mpr (by omega), rfl⟩)
      rw [h] at this
      cases this
  · rintro ρ ⟨x, y, rfl, hx, hy, hok, hasc⟩
    simp only [then_nx]
    rw [Nat.zero_add, enumD_length 0 (tiesD us)] at hok hasc
    have hlen : (tiesD us).length = us.length := by simp [tiesD]
    have hT : TiesOk m 9 us := by rw [hlen, List.take_length] at hok; exact hok
    have hA : Asc us := asc_adj fun j hj => hasc j (by omega)
    rw [go_iff]
    have hn : noOw [.sh (webD m us), x, y, .no] [2] = true := by rcases hy with rfl | ⟨d, rfl⟩ <;> rfl
    unfold webD at hn
    simp [webD, wp_cCall, atI, ixN, hn]
    refine compL_inv (fun k acc ρ => acc = (pairsT (us.take k)).map pairD ∧ ∃ y, ρ = [.sh (webD m us), x, y, .no] ∧ isRf y = false) 0 ⟨by simp [pairsT], y, rfl, hy.rf⟩ ?_ ?_
    · rintro j d acc ρ hj ⟨rfl, y, rfl, hy⟩
      obtain ⟨t, ht, rfl⟩ := tiesD_get hj
      have hjl := (List.getElem?_eq_some_iff.mp ht).1
      simp [wipeR, tie_cut]
      refine ⟨lt_size (by simp [pairsT]; omega), ?_⟩
      rw [List.take_succ, ht]
      simp [pairsT, pairD]
    · rintro acc ρ ⟨rfl, y, rfl, hy⟩
      have e : us.take (0 + (tiesD us).length) = us := List.take_of_length_le (by simp [tiesD])
      rw [e]
      simp [shs]
      refine (law_hang_ok hT q1 (by omega)).imp ?_ fun _ _ h => h.elim
      rintro _ _ rfl
      by_cases hH : AllHang m us
      · have hw : IsWeb m us := ⟨q1, q2, hT, hA, hH⟩
        simp [hH, hw]
      · have hw : ¬ IsWeb m us := fun z => hH z.hang
        simp [hH, hw]
end PyD

set_option Elab.async false
set_option linter.all false
set_option maxRecDepth 100000
namespace PyD
open PySem PySem.Spec L2
open PyProof.Rows hiding St
def isFls : R (D × Rho) → Bool
  | .ok (.bl false, _) => true
  | _ => false
def isBln : R (D × Rho) → Bool
  | .ok (.bl _, _) => true
  | _ => false
theorem isFls_wp {r : R (D × Rho)} (h : isFls r = true) : Wp r (fun d _ => d = .bl false) NoE := by
  unfold isFls at h
  split at h
  · exact rfl
  · cases h
theorem isBln_wp {r : R (D × Rho)} (h : isBln r = true) : Wp r (fun d _ => ∃ b, d = .bl b) NoE := by
  unfold isBln at h
  split at h
  · exact ⟨_, rfl⟩
  · cases h
def NotWeb (d : D) : Prop := Wp (m_is_web_by [.sh d]) (fun r _ => r = .bl false) NoE
def LawSays (d : D) : Prop := Wp (m_law_is_web [.sh d]) (fun r _ => ∃ b, r = .bl b) NoE
structure Odd (d : D) : Prop where
  no : NotWeb d
  law : LawSays d
  rb : Rb d 6 4000
theorem odd_k {d : D} (h1 : isFls (m_is_web_by [.sh d]) = true) (h2 : isBln (m_law_is_web [.sh d]) = true) (h3 : Rb d 6 4000) : Odd d := ⟨isFls_wp h1, isBln_wp h2, h3⟩
open Classical in
theorem odd_w {m : Int} {us : List Tie} (hl : us.length ≤ 1000) (hn : ¬ IsWeb m us) (h3 : Rb (webD m us) 6 4000) : Odd (webD m us) := by
  refine ⟨?_, ?_, h3⟩
  · refine (isweb_all hl).imp ?_ fun _ _ h => h
    rintro d ρ rfl
    simp [hn]
  · refine (law_is_web_ok hl).imp ?_ fun _ _ h => h
    rintro d ρ rfl
    exact ⟨_, rfl⟩
theorem rb_s {s : String} {k : Nat} (h : (Str.ofString s).length ≤ 100 := by decide) : Rb (.str s) k 100 := .str textOk_lit h
theorem rb_i {i : Int} {k : Nat} (h : i.natAbs < 2 ^ 100 := by decide) : Rb (.int i) k 100 := .int h (by decide)
theorem rb_n {k : Nat} : Rb .non k 100 := .non
theorem rb_b {b : Bool} {k : Nat} : Rb (.bl b) k 100 := .bl
theorem rb_t3 {a b c : D} {k : Nat} (h1 : Rb a k 100) (h2 : Rb b k 100) (h3 : Rb c k 100) : Rb (tD a b c) (k + 1) 400 := (RbL.cons h1 (.cons h2 (.cons h3 .nil))).tup (by decide)
theorem rb_w {m t : D} (h1 : Rb m 5 500) (h2 : Rb t 5 3000) : Rb (wD m t) 6 4000 := (RbL.cons (rb_s (s := "web")) (.cons h1 (.cons h2 .nil))).tup (by decide)
theorem rb_i5 {i : Int} (h : i.natAbs < 2 ^ 100 := by decide) : Rb (.int i) 5 500 := (Rb.int (w := 100) h (by decide)).mono (Nat.le_refl _) (by decide)
theorem rb_l1 {a : D} {k w : Nat} (h1 : Rb a k w) (hw : w ≤ 2000) : Rb (.lst [a]) (k + 1) 2500 := (RbL.cons h1 .nil).lst (by omega)
end PyD

set_option Elab.async false
set_option linter.all false
set_option maxRecDepth 100000
namespace PyD
open PySem PySem.Spec L2
open PyProof.Rows hiding St
@[simp] theorem wp_whole_str {x : Str} {Q : D → Rho → Prop} {E : Nat → D → Prop} : Wp (m_is_whole [.sh (.str x)]) Q E ↔ Q (.bl false) [.sh (.str x)] := by
  rw [show m_is_whole [.sh (.str x)] = .ok (.bl false, [.sh (.str x)]) by rfl, wp_ok]
@[simp] theorem wp_lwhole_str {x : Str} {Q : D → Rho → Prop} {E : Nat → D → Prop} : Wp (m_law_is_whole [.sh (.str x)]) Q E ↔ Q (.bl false) [.sh (.str x)] := by
  rw [show m_law_is_whole [.sh (.str x)] = .ok (.bl false, [.sh (.str x)]) by rfl, wp_ok]
theorem ne_Web : ((Str.ofString "Web" : Str) == Str.ofString "web") = false := by decide
section
variable {many : Int} {T : D} {ds : List D}
set_option maxHeartbeats 1000000
theorem no_lst : NotWeb (.lst ds) ∧ LawSays (.lst ds) := by
  refine ⟨?_, ?_⟩
  · unfold NotWeb m_is_web_by b_is_web_by
    rw [wp_runD, wp_seq]
    simp [full]
  · unfold LawSays m_law_is_web b_law_is_web
    rw [wp_runD, wp_seq]
    simp [full]
theorem no_Web : NotWeb (.tup [.str "Web", .int many, T]) ∧ LawSays (.tup [.str "Web", .int many, T]) := by
  refine ⟨?_, ?_⟩
  · unfold NotWeb m_is_web_by b_is_web_by
    rw [wp_runD, wp_seq]
    simp [full, ne_Web]
  · unfold LawSays m_law_is_web b_law_is_web
    rw [wp_runD, wp_seq]
    simp [full, ne_Web]
theorem no_two : NotWeb (.tup [.str "web", .int many]) ∧ LawSays (.tup [.str "web", .int many]) := by
  refine ⟨?_, ?_⟩
  · unfold NotWeb m_is_web_by b_is_web_by
    rw [wp_runD, wp_seq]
    simp [full]
  · unfold LawSays m_law_is_web b_law_is_web
    rw [wp_runD, wp_seq]
    simp [full]
theorem no_str {x : Str} : NotWeb (wD (.str x) T) ∧ LawSays (wD (.str x) T) := by
  refine ⟨?_, ?_⟩
  · unfold NotWeb m_is_web_by b_is_web_by
    rw [wp_runD, wp_seq]
    simp [full]
    rw [go_seq]
    simp [wp_cCall, shs]
  · unfold LawSays m_law_is_web b_law_is_web
    rw [wp_runD, wp_seq]
    simp [full, wp_cCall, shs]
theorem no_non : NotWeb (.tup [.non, .int many, T]) ∧ LawSays (.tup [.non, .int many, T]) := by
  refine ⟨?_, ?_⟩
  · unfold NotWeb m_is_web_by b_is_web_by
    rw [wp_runD, wp_seq]
    simp [full]
  · unfold LawSays m_law_is_web b_law_is_web
    rw [wp_runD, wp_seq]
    simp [full]
theorem no_list {T : D} (h : isaD "list" T = some (.bl false)) : NotWeb (wD (.int many) T) ∧ LawSays (wD (.int many) T) := by
  refine ⟨?_, ?_⟩
  · unfold NotWeb m_is_web_by b_is_web_by
    rw [wp_runD, wp_seq]
    simp [full]
    rw [go_seq]
    by_cases h1 : 1 ≤ many <;> by_cases h2 : many ≤ 7 <;> simp [wp_cCall, shs, h, h1, h2] <;> omega
  · unfold LawSays m_law_is_web b_law_is_web
    rw [wp_runD, wp_seq]
    simp [full, wp_cCall, shs]
    by_cases h1 : 1 ≤ many
    · by_cases h2 : many ≤ 7
      · have q1 : ¬ many < 1 := by omega
        have q2 : ¬ 7 < many := by omega
        simp [q1, q2]
        refine ⟨h1, h2, ?_⟩
        rw [go_seq]
        simp [h]
      · exact .inr ⟨h1, .inl (by omega)⟩
    · exact .inl (by omega)
end
end PyD

set_option Elab.async false
set_option linter.all false
set_option maxRecDepth 100000
namespace PyD
open PySem PySem.Spec L2
open PyProof.Rows hiding St
theorem ok_1 : Odd .non := odd_k (by decide +kernel) (by decide +kernel) .non
theorem ok_2 : Odd (.tup []) := odd_k (by decide +kernel) (by decide +kernel) (RbL.nil.tup (k := 5) (by decide))
theorem ok_3 : Odd (wD (.int 2) (.lst [tD (.int 0) (.int 1) (.int 0)])) := odd_k (by decide +kernel) (by decide +kernel) (rb_w rb_i5 ((rb_l1 (rb_t3 (k := 0) rb_i rb_i rb_i) (by decide)).mono (by decide) (by decide)))
theorem ok_4 : Odd (wD (.int 2) (.lst [tD (.int 0) (.int 1) (.int 10)])) := odd_k (by decide +kernel) (by decide +kernel) (rb_w rb_i5 ((rb_l1 (rb_t3 (k := 0) rb_i rb_i rb_i) (by decide)).mono (by decide) (by decide)))
theorem ok_5 : Odd (wD (.int 2) (.lst [tD (.int 1) (.int 0) (.int 1)])) := odd_k (by decide +kernel) (by decide +kernel) (rb_w rb_i5 ((rb_l1 (rb_t3 (k := 0) rb_i rb_i rb_i) (by decide)).mono (by decide) (by decide)))
theorem ok_6 : Odd (wD (.int 2) (.lst [tD (.int 0) (.int 1) (.bl true)])) := odd_k (by decide +kernel) (by decide +kernel) (rb_w rb_i5 ((rb_l1 (rb_t3 (k := 0) rb_i rb_i rb_b) (by decide)).mono (by decide) (by decide)))
theorem ok_7 : Odd (wD (.int 2) (.lst [.tup [.int 0, .int 1]])) := odd_k (by decide +kernel) (by decide +kernel) (rb_w rb_i5 ((rb_l1 ((RbL.cons (rb_i (k := 0)) (.cons rb_i .nil)).tup (Nat.le_refl _)) (by decide)).mono (by decide) (by decide)))
theorem ok_8 : Odd (wD (.int 2) (.lst [.lst [.int 0, .int 1, .int 1]])) := odd_k (by decide +kernel) (by decide +kernel) (rb_w rb_i5 ((rb_l1 ((RbL.cons (rb_i (k := 0)) (.cons rb_i (.cons rb_i .nil))).lst (Nat.le_refl _)) (by decide)).mono (by decide) (by decide)))
theorem ok_9 : Odd (wD (.int 2) (.lst [tD (.int 0) (.int 2) (.int 1)])) := odd_k (by decide +kernel) (by decide +kernel) (rb_w rb_i5 ((rb_l1 (rb_t3 (k := 0) rb_i rb_i rb_i) (by decide)).mono (by decide) (by decide)))
theorem rb_l2 {a b : D} (h1 : Rb a 1 400) (h2 : Rb b 1 400) : Rb (.lst [a, b]) 5 2500 := ((RbL.cons h1 (.cons h2 .nil)).lst (m := 2500) (by decide)).mono (by decide) (by decide)
theorem ok_10 : Odd (wD (.int 3) (.lst [tD (.int 1) (.int 2) (.int 1), tD (.int 0) (.int 1) (.int 1)])) := odd_k (by decide +kernel) (by decide +kernel) (rb_w rb_i5 ((rb_l2 (rb_t3 (k := 0) rb_i rb_i rb_i) (rb_t3 (k := 0) rb_i rb_i rb_i)).mono (by decide) (by decide)))
theorem ok_11 : Odd (wD (.int 2) (.lst [tD (.int 0) (.int 1) (.int 1), tD (.int 0) (.int 1) (.int 2)])) := odd_k (by decide +kernel) (by decide +kernel) (rb_w rb_i5 ((rb_l2 (rb_t3 (k := 0) rb_i rb_i rb_i) (rb_t3 (k := 0) rb_i rb_i rb_i)).mono (by decide) (by decide)))
theorem ok_12 : Odd (wD (.int 2) (.lst [tD (.bl false) (.int 1) (.int 1)])) := odd_k (by decide +kernel) (by decide +kernel) (rb_w rb_i5 ((rb_l1 (rb_t3 (k := 0) rb_b rb_i rb_i) (by decide)).mono (by decide) (by decide)))
theorem ok_13 : Odd (wD (.int 0) (.lst [])) := odd_k (by decide +kernel) (by decide +kernel) (rb_w rb_i5 ((RbL.nil (k := 4)).lst (by decide)))
theorem ok_14 : Odd (wD (.bl true) (.lst [])) := odd_k (by decide +kernel) (by decide +kernel) (rb_w .bl ((RbL.nil (k := 4)).lst (by decide)))
theorem ok_15 : Odd (wD (.int 4) (.lst [tD (.int 0) (.int 1) (.int 1), tD (.int 2) (.int 3) (.int 1)])) :=
  odd_w (m := 4) (us := [(0, 1, 1), (2, 3, 1)]) (by decide) (fun h => by
    have := h.hang 2 (by decide) (by decide) (fun x => x = 0 ∨ x = 1) (.inl rfl) fun p hp => by
      have : p = (0, 1) ∨ p = (2, 3) := by simpa [pairsT] using hp
      rcases this with rfl | rfl <;> simp
    omega) (rb_w rb_i5 ((rb_l2 (rb_t3 (k := 0) rb_i rb_i rb_i) (rb_t3 (k := 0) rb_i rb_i rb_i)).mono (by decide) (by decide)))
theorem odds_ok {many : Int} {us : List Tie} (hr : Rows many 9 us) (ha : Asc us) (hl : us.length ≤ 100) (h1 : 1 ≤ many) (h2 : many ≤ 7) : ∀ d ∈ oddsD many us, Odd d := by
  have rT := rb_ties hr (by omega) hl
  have rT' : Rb (.lst (tiesD us)) 5 3000 := rT.mono (by decide) (by decide)
  have rM : ∀ {k : Nat} {i : Int}, 0 ≤ i → i ≤ 8 → Rb (.int i) k 100 := fun a b => .int (by omega) (by decide)
  have rM' : ∀ {i : Int}, 0 ≤ i → i ≤ 8 → Rb (.int i) 5 500 := fun a b => (rM a b).mono (Nat.le_refl _) (by decide)
  intro d hd
  simp only [oddsD, List.mem_cons, List.not_mem_nil, or_false] at hd
  rcases hd with rfl | rfl | rfl | rfl | rfl | rfl | rfl | rfl | rfl | rfl | rfl | rfl | rfl | rfl | rfl | rfl | rfl | rfl | rfl | rfl | rfl | rfl | rfl | rfl
  · exact ok_1
  · exact ok_2
  · exact ⟨no_lst.1, no_lst.2, (RbL.cons rb_s (.cons (rM (by omega) (by omega)) (.cons rT' .nil))).lst (by decide)⟩
  · exact ⟨no_Web.1, no_Web.2, (RbL.cons rb_s (.cons (rM (by omega) (by omega)) (.cons rT' .nil))).tup (by decide)⟩
  · exact ⟨no_two.1, no_two.2, (RbL.cons (k := 5) rb_s (.cons (rM (by omega) (by omega)) .nil)).tup (by decide)⟩
  · exact ok_13
  · exact odd_w (by omega) (fun h => by have := h.m7; omega) (rb_w (rM' (by decide) (by decide)) rT')
  · exact ok_14
  · refine ⟨no_str.1, no_str.2, rb_w (.str textOk_lit ?_) rT'⟩
    have := toString_length_le (v := many) (k := 3) (by omega) (by decide) (by omega)
    omega
  · have rU : Rb (.tup (tiesD us)) 5 3000 := by
      have := (Rb.tup (w := 21) (k := 1) (n := 2200) (ds := tiesD us) (fun d hd => by
        obtain ⟨t, ht, rfl⟩ := List.mem_map.mp hd
        exact rb_tie (hr.ok t ht) (by omega)) (by simp only [tiesD, List.length_map]; omega))
      exact this.mono (by decide) (by decide)
    exact ⟨(no_list isa_list_5).1, (no_list isa_list_5).2, rb_w (rM' (by omega) (by omega)) rU⟩
  · exact ⟨no_non.1, no_non.2, (RbL.cons (rb_n (k := 5)) (.cons (rM (by omega) (by omega)) (.cons rT' .nil))).tup (by decide)⟩
  · exact odd_w (by omega) (fun h => not_allHang hr h1 h.hang) (rb_w (rM' (by omega) (by omega)) rT')
  · exact ⟨(no_list isa_list_0).1, (no_list isa_list_0).2, rb_w (rM' (by omega) (by omega)) .non⟩
  · exact ok_3
  · exact ok_4
  · exact ok_5
  · exact ok_6
  · exact ok_7
  · exact ok_8
  · exact ok_9
  · exact ok_10
  · exact ok_11
  · exact ok_15
  · exact ok_12
end PyD

set_option Elab.async false
set_option linter.all false
set_option maxRecDepth 100000
namespace PyD
open PySem PySem.Spec L2
open PyProof.Rows hiding St
section
variable {QF : Fl → Rho → Prop} {QL : List D → Rho → Prop} {Q : D → Rho → Prop} {E : Nat → D → Prop} {ρ : Rho} {fs gs hs : Av} {fa fb : Ev} {vs vs1 : List Nat} {tg tg1 : Gv} {tt tt1 : Tv} {elt : Ev}
theorem Wp.q {r : R (D × Rho)} {x : D} (h : Wp r (fun d _ => d = x) NoE) (q : ∀ ρ, Q x ρ) : Wp r Q E := h.imp (fun d ρ e => by rw [e]; exact q ρ) fun _ _ z => z.elim
theorem Wp.qL {r : R (List D × Rho)} {x : List D} (h : Wp r (fun d _ => d = x) NoE) (q : ∀ ρ, QL x ρ) : Wp r QL E := h.imp (fun d ρ e => by rw [e]; exact q ρ) fun _ _ z => z.elim
/-- a comprehension that computes ys, one for each -/
theorem compL_sim {α : Type} {enc : α → D} {ds : List D} {ys : List α} (I : Rho → Prop) (hl : ds.length = ys.length) (hz : ys.length ≤ sizeLine) (h0 : I ρ)
    (hs : ∀ (j : Nat) (d : D) (y : α) (ρ : Rho), ds[j]? = some d → ys[j]? = some y → I ρ → Wg (tg d (wipeR ρ vs)) (fun ρ1 => Wp (elt ρ1) (fun v ρ3 => v = enc y ∧ I ρ3) E) E)
    (q : ∀ ρ, I ρ → QL (ys.map enc) ρ) : Wp (compL vs tg cYes elt ds [] ρ) QL E := by
  refine compL_inv (fun k acc ρ => acc = (ys.take k).map enc ∧ I ρ) 0 ⟨by simp, h0⟩ ?_ ?_
  · rintro j d acc ρ hj ⟨rfl, hI⟩
    have hj2 : j < ys.length := by rw [← hl]; exact (List.getElem?_eq_some_iff.mp hj).1
    refine (hs j d ys[j] ρ hj (List.getElem?_eq_getElem hj2) hI).imp (fun ρ1 h => ?_) fun _ _ h => h
    rw [wp_cYes]
    refine ⟨fun _ => h.imp (fun v ρ3 hv => ⟨?_, ?_, hv.2⟩) fun _ _ h => h, fun h => by cases h⟩
    · rw [List.length_map, List.length_take, Nat.zero_add]; omega
    · rw [hv.1, Nat.zero_add, List.take_add_one, List.getElem?_eq_getElem hj2, List.map_append]
      rfl
  · rintro acc ρ ⟨rfl, hI⟩
    rw [Nat.zero_add, hl, List.take_length]
    exact q ρ hI
@[simp] theorem wp_cZipS : Wp (cZipS fs ρ) QL E ↔ Wp (fs ρ) (fun as ρ1 => ∃ xs ys, as = [.lst xs, .lst ys] ∧ xs.length = ys.length ∧ QL (zipD xs ys) ρ1) E := by
  unfold cZipS; rw [wp_bind]
  refine Iff.intro (fun h => h.imp (fun a ρ1 h => ?_) fun _ _ h => h) fun h => h.imp (fun a ρ1 h => ?_) fun _ _ h => h
  · revert h
    split
    · rename_i xs ys e
      split
      · rename_i hj; exact fun h => ⟨xs, ys, e, hj, h⟩
      · exact fun h => h.elim
    · exact fun h => h.elim
  · obtain ⟨xs, ys, rfl, hj, q⟩ := h
    simp only [hj, if_true]
    exact q
@[simp] theorem wp_cZip : Wp (cZip fs ρ) QL E ↔ Wp (fs ρ) (fun as ρ1 => ∃ xs ys, as = [.lst xs, .lst ys] ∧ QL (zipD xs ys) ρ1) E := by
  unfold cZip; rw [wp_bind]
  refine Iff.intro (fun h => h.imp (fun a ρ1 h => ?_) fun _ _ h => h) fun h => h.imp (fun a ρ1 h => ?_) fun _ _ h => h
  · revert h
    split
    · rename_i xs ys e
      exact fun h => ⟨xs, ys, e, h⟩
    · exact fun h => h.elim
  · obtain ⟨xs, ys, rfl, q⟩ := h
    exact q
theorem zipD_map {α β : Type} {f : α → D} {g : β → D} : ∀ (xs : List α) (ys : List β), zipD (xs.map f) (ys.map g) = (xs.zip ys).map fun p => .tup [f p.1, g p.2]
  | [], _ => by simp [zipD]
  | _ :: _, [] => by simp [zipD]
  | x :: xs, y :: ys => by simp [zipD, zipD_map xs ys]
@[simp] theorem wp_cPopAt {i : Nat} : Wp (cPopAt i fa ρ) Q E ↔ (∃ ds, ownL ρ i = some ds) ∧ Wp (fa ρ) (fun a ρ1 => ∃ k ds j d, a = .int k ∧ ownL ρ1 i = some ds ∧ (-(2 ^ 63) ≤ k ∧ k < 2 ^ 63) ∧ ixN ds.length k = some j ∧ ds[j]? = some d ∧ Q d (putL ρ1 i (ds.eraseIdx j))) E := by
  unfold cPopAt
  cases h : ownL ρ i with
  | none => simp [Wp]
  | some ds0 =>
    simp only [Option.some.injEq, exists_eq', true_and]
    rw [wp_bind]
    refine Iff.intro (fun h => h.imp (fun a ρ1 h => ?_) fun _ _ h => h) fun h => h.imp (fun a ρ1 h => ?_) fun _ _ h => h
    · revert h
      split
      · rename_i k ds e1 e2
        split
        · rename_i hk
          split
          · rename_i j hj
            split
            · rename_i d hd
              exact fun h => ⟨k, ds, j, d, e1, e2, hk, hj, hd, h⟩
            · exact fun h => h.elim
          · exact fun h => h.elim
        · exact fun h => h.elim
      · exact fun h => h.elim
    · obtain ⟨k, ds, j, d, rfl, e2, hk, hj, hd, q⟩ := h
      simp only [e2, hk, and_self, if_true, hj, hd]
      exact q
theorem wp_compG {i : Nat} {f : List D → List D} {fi : Av} {ds : List D} (h1 : ρ[i]? = some (.ow (.lst ds))) (h2 : noOw (ρ.set i .no) vs = true)
    (h : Wp (compL vs tg tt elt (f ds) [] (ρ.set i .no)) (fun out ρ2 => (restR (ρ.set i .no) ρ2 vs)[i]? = some .no ∧ QL out ((restR (ρ.set i .no) ρ2 vs).set i (.ow (.lst ds)))) NoE) : Wp (cCompG i f fi vs tg tt elt ρ) QL E := by
  unfold cCompG
  rw [h1]
  simp only [h2, if_true]
  cases e : compL vs tg tt elt (f ds) [] (ρ.set i .no) with
  | ok x =>
    rw [e] at h
    obtain ⟨h3, h4⟩ := h
    obtain ⟨out, ρ2⟩ := x
    simp only at h3 h4 ⊢
    rw [h3]
    exact h4
  | exc c d => rw [e] at h; exact h.elim
  | bad => rw [e] at h; exact h.elim
@[simp] theorem wp_cPar3FEF {i j l : Nat} : Wp (cPar3FEF i j l fs fb hs ρ) QF E ↔ Wp (fs ρ) (fun x ρ1 => Wp (fb ρ1) (fun y ρ2 => Wp (hs ρ2) (fun z ρ3 => ∃ c, ρ3[l]? = some c ∧ isRf c = false ∧ ∃ c2, (ρ3.set l (.ow (.lst z)))[j]? = some c2 ∧ isRf c2 = false ∧
    ∃ c3, ((ρ3.set l (.ow (.lst z))).set j (.sh y))[i]? = some c3 ∧ isRf c3 = false ∧ QF .nx (((ρ3.set l (.ow (.lst z))).set j (.sh y)).set i (.ow (.lst x)))) E) E) E := by
  unfold cPar3FEF
  simp only [wp_bind]
  have e1 : ∀ (ρ : Rho) (k : Nat) (ds : List D) (g : Rho → R (Fl × Rho)), Wp ((putOw ρ k ds).bind g) QF E ↔ ∃ c, ρ[k]? = some c ∧ isRf c = false ∧ Wp (g (ρ.set k (.ow (.lst ds)))) QF E := fun ρ k ds g => by
    unfold putOw
    cases h : ρ[k]? with
    | none => simp [R.bind, Wp]
    | some c => cases c <;> simp [R.bind, isRf, Wp]
  have e2 : ∀ (ρ : Rho) (k : Nat) (d : D) (g : Rho → R (Fl × Rho)), Wp ((putSh ρ k d).bind g) QF E ↔ ∃ c, ρ[k]? = some c ∧ isRf c = false ∧ Wp (g (ρ.set k (.sh d))) QF E := fun ρ k d g => by
    unfold putSh
    cases h : ρ[k]? with
    | none => simp [R.bind, Wp]
    | some c => cases c <;> simp [R.bind, isRf, Wp]
  have e3 : ∀ (ρ : Rho) (k : Nat) (ds : List D), Wp ((putOw ρ k ds).map fun ρ3 => (Fl.nx, ρ3)) QF E ↔ ∃ c, ρ[k]? = some c ∧ isRf c = false ∧ QF .nx (ρ.set k (.ow (.lst ds))) := fun ρ k ds => by
    unfold putOw
    cases h : ρ[k]? with
    | none => simp [R.map, Wp]
    | some c => cases c <;> simp [R.map, isRf, Wp]
  simp only [e1, e2, e3]
@[simp] theorem wp_cComp2 {fi1 : Av} : Wp (cComp2 vs vs1 fs tg tt fi1 tg1 tt1 elt ρ) QL E ↔ Wp (fs ρ) (fun ds ρ1 => noOw ρ1 vs = true ∧ Wp (compL2 vs vs1 tg tt fi1 tg1 tt1 elt ds [] ρ1) (fun out ρ2 => QL out (restR ρ1 ρ2 vs)) NoE) E := by
  unfold cComp2; rw [wp_bind]
  simp only [wp_ite_bad, wp_noExc, wp_map]
end
end PyD

set_option Elab.async false
set_option linter.all false
set_option maxRecDepth 100000
namespace PyD
open PySem PySem.Spec L2
open PyProof.Rows hiding St
/-! plain functions: fractions, elimination, what stands between -/
abbrev Fr := Int × Int
def lowP (t u : Int) : Option Fr :=
  let t' := if u < 0 then -t else t
  let u' := if u < 0 then -u else u
  let g : Int := Int.gcd t' u'
  if 0 < g ∧ g.natAbs.log2 < 9000 then some (t' / g, u' / g) else none
def smF (f : Fr) : Bool := Nat.blt f.1.natAbs.log2 100000 && Nat.blt f.2.natAbs.log2 100000
def lessP (a b : Fr) : Option Fr := if smF a && smF b then lowP (a.1 * b.2 - b.1 * a.2) (a.2 * b.2) else none
def timesP (a b : Fr) : Option Fr := if smF a && smF b then lowP (a.1 * b.1) (a.2 * b.2) else none
def overP (a b : Fr) : Option Fr := if smF a && smF b then lowP (a.1 * b.2) (a.2 * b.1) else none
/-- mapM of options, by hand -/
def mapO {α β : Type} (f : α → Option β) : List α → Option (List β)
  | [] => some []
  | x :: xs => match f x with
    | none => none
    | some y => match mapO f xs with
      | none => none
      | some ys => some (y :: ys)
abbrev FRow := List Fr
def withoutP (row other : FRow) (place : Nat) : Option FRow := match row[place]? with
  | none => none
  | some factor => if row.length = other.length then mapO (fun p : Fr × Fr => match timesP factor p.2 with
      | none => none
      | some z => lessP p.1 z) (row.zip other) else none
def findAt (place : Nat) : Nat → List FRow → List Nat
  | _, [] => []
  | i, row :: rows => (if row[place]? = some (0, 1) then [] else [i]) ++ findAt place (i + 1) rows
structure Step where
  left : List FRow
  found : List FRow
  leads : List Nat
def okP (s : Step) (place : Nat) : Bool := s.left.all (fun row => Nat.blt place row.length && Nat.ble row.length 50) && s.found.all (fun row => Nat.blt place row.length && Nat.ble row.length 50) && Nat.ble s.left.length 50 && Nat.ble s.found.length 50 && Nat.ble s.leads.length 50
def stepP (s : Step) (place : Nat) : Option Step :=
  if okP s place = true then
    match findAt place 0 s.left with
    | [] => some s
    | i :: _ => match s.left[i]? with
      | none => none
      | some head => match head[place]? with
        | none => none
        | some h => match mapO (fun one => overP one h) head with
          | none => none
          | some head2 => match mapO (fun row => withoutP row head2 place) (s.left.eraseIdx i) with
            | none => none
            | some left2 => match mapO (fun row => withoutP row head2 place) s.found with
              | none => none
              | some found2 => some ⟨left2, found2 ++ [head2], s.leads ++ [place]⟩
  else none
def stepsP (s : Step) : List Nat → Option Step
  | [] => some s
  | p :: ps => match stepP s p with
    | none => none
    | some s2 => stepsP s2 ps
/-- solved, where the rows determine it: no row is left -/
def solvedP (rows : List FRow) (due : FRow) (many : Nat) : Option FRow :=
  if rows.length = due.length then
    match stepsP ⟨(rows.zip due).map fun p => p.1 ++ [p.2], [], []⟩ (List.range many) with
    | none => none
    | some s => if s.left = [] ∧ s.found.length = s.leads.length ∧ s.found.all (fun r => !r.isEmpty) = true ∧ s.leads.all (fun p => Nat.blt p many) = true then
        some ((s.found.zip s.leads).foldl (fun ans p => ans.set p.2 (p.1.getLastD (0, 1))) (List.replicate many (0, 1))) else none
  else none
def betP (us : List Tie) (one other : Int) : Int := ((us.filter fun t => (t.1 == one && t.2.1 == other) || (t.1 == other && t.2.1 == one)).map fun t => t.2.2).sum
def breP (us : List Tie) (p : Int) : Int := ((us.filter fun t => t.1 == p || t.2.1 == p).map fun t => t.2.2).sum
def ptsP (m : Nat) : List Int := (List.range m).map fun (i : Nat) => (i : Int)
def matP (us : List Tie) (one other : Int) : Int := if one = other then breP us one else 0 - betP us one other
def levP (m : Nat) (us : List Tie) (row : List Fr) (fin : Int) : Option FRow :=
  let others := (ptsP m).filter fun p => p != fin
  match solvedP (others.map fun h => others.map fun t => (matP us h t, 1)) (others.map fun p => row.getD p.toNat (0, 1)) others.length with
  | none => none
  | some told => some ((others.zip told).foldl (fun f p => f.set p.1.toNat p.2) (List.replicate m (0, 1)))
def unitP (m : Nat) (one other : Int) : List Fr := (ptsP m).map fun p => ((if p = one then 1 else 0) - (if p = other then 1 else 0), 1)
def btwP (m : Nat) (us : List Tie) (one other : Int) : Option Fr := if one = other then some (0, 1) else match levP m us (unitP m one other) other with
  | none => none
  | some l => l[one.toNat]?
def sglP (us : List Tie) : List (Int × Int) := (us.map fun t => List.replicate t.2.2.toNat (t.1, t.2.1)).flatten
/-! hang, lots, trees -/
def hangRow (l : List Int) : List (Int × Int) → List Int
  | [] => l
  | p :: ps => hangRow (addIf (addIf l p.1 p.2) p.2 p.1) ps
def hangN (ps : List (Int × Int)) : Nat → List Int → List Int
  | 0, l => l
  | n + 1, l => hangN ps n (hangRow l ps)
def hangP (m : Nat) (ps : List (Int × Int)) : Bool := decide ((hangN ps m [0]).length = m)
def lotsP : Nat → List (List Nat)
  | 0 => [[]]
  | n + 1 => lotsP n ++ (lotsP n).map (· ++ [n])
def treesP (m : Nat) (sg : List (Int × Int)) : List (List Nat) := ((lotsP sg.length).filter fun l => l.length == m - 1).filter fun l => hangP m (l.map fun i => sg.getD i (0, 0))
def frcP (t u : Int) : Option Fr := let g : Int := Int.gcd u t; if 0 ≤ u ∧ 0 < g ∧ g.natAbs.log2 < 9000 then some (t / g, u / g) else none
def addP (a b : Fr) : Option Fr := if smF a && smF b then frcP (a.1 * b.2 + b.1 * a.2) (a.2 * b.2) else none
def goP (m : Nat) (us : List Tie) (sg : List (Int × Int)) (ts : List (List Nat)) : List Nat → Fr → Option Fr
  | [], w => some w
  | k :: ks, w => match frcP ((ts.filter fun t => t.contains k).length : Int) (ts.length : Int) with
    | none => none
    | some due => match sg[k]? with
      | none => none
      | some p => if btwP m us p.1 p.2 = some due ∧ (decide (due = (1, 1)) = !hangP m (sg.take k ++ sg.drop (k + 1))) then
          match addP w due with
          | none => none
          | some w2 => goP m us sg ts ks w2
        else none
def chkP (m : Nat) (us : List Tie) : Bool := goP m us (sglP us) (treesP m (sglP us)) (List.range (sglP us).length) (0, 1) == some ((m : Int) - 1, 1)
def choices : List (Int × Int) → List (List Tie)
  | [] => [[]]
  | p :: ps => choices ps ++ (choices ps).map ((p.1, p.2, 1) :: ·) ++ (choices ps).map ((p.1, p.2, 2) :: ·)
def prs (m : Nat) : List (Int × Int) := ((ptsP m).map fun a => ((ptsP m).filter fun b => decide (a < b)).map fun b => (a, b)).flatten
def websP (m : Nat) : List (List Tie) := (choices (prs m)).filter fun us => (sglP us).length ≤ 7 && hangP m (us.map fun t => (t.1, t.2.1))
end PyD

set_option Elab.async false
set_option linter.all false
set_option maxRecDepth 100000
namespace PyD
open PySem PySem.Spec L2
open PyProof.Rows hiding St
/-! ### fractions: the mirrors are the plain functions -/
section
variable {QL : List D → Rho → Prop} {Q : D → Rho → Prop} {E : Nat → D → Prop}
def frD (f : Fr) : D := .tup [.int f.1, .int f.2]
theorem gcd_loop {a b : Int} : Wp (m_common_divisor [.sh (.int a), .sh (.int b)]) (fun d _ => d = .int (Int.gcd a b)) NoE := by
  unfold m_common_divisor b_common_divisor
  rw [wp_runD, wp_seq]
  simp [full, and_assoc, isRf, gAbs]
  rw [go_seq]
  simp
  have habs : ∀ i : Int, (if i < 0 then -i else i) = (i.natAbs : Int) := fun i => by split <;> omega
  rw [habs a, habs b]
  refine whileN_inv (fun m ρ => ∃ x : Nat, ρ = [.sh (.int x), .sh (.int m)] ∧ Nat.gcd x m = Int.gcd a b) ?_ _ b.natAbs _ (by simp) ⟨a.natAbs, rfl, rfl⟩
  rintro m ρ ⟨x, rfl, hg⟩
  simp
  rcases Nat.eq_zero_or_pos m with hm | hm
  · subst hm
    refine .inl ⟨rfl, ?_⟩
    rw [go_iff]
    simp [← hg]
  · have h0 : (0 : Int) < m := by omega
    refine .inr ⟨hm, .int ((x : Int) % m), gMod_int h0, x % m, Nat.mod_lt _ hm, m, ⟨rfl, by simp⟩, ?_⟩
    rw [← hg, Nat.gcd_comm m (x % m), ← Nat.gcd_rec m x, Nat.gcd_comm]
theorem low_ok {t u : Int} {f : Fr} (h : lowP t u = some f) : Wp (m_lowest [.sh (.int t), .sh (.int u)]) (fun d _ => d = frD f) NoE := by
  unfold lowP at h
  unfold m_lowest b_lowest
  rw [wp_runD, wp_seq]
  by_cases hu : u < 0
  · simp only [hu, if_true] at h
    split at h
    · rename_i hc
      cases h
      simp [full, hu, isRf]
      rw [go_seq]
      simp [wp_cCall, shs]
      refine gcd_loop.q ?_
      intro ρ
      simp [frD, hc, Then, Go]
      simpa using hc
    · cases h
  · simp only [hu, if_false] at h
    split at h
    · rename_i hc
      cases h
      simp [full, hu, isRf]
      rw [go_seq]
      simp [wp_cCall, shs]
      refine gcd_loop.q ?_
      intro ρ
      simp [frD, hc, Then, Go]
      simpa using hc
    · cases h
theorem smF_ok {f : Fr} (h : smF f = true) : f.1.natAbs.log2 < 100000 ∧ f.2.natAbs.log2 < 100000 := by
  unfold smF at h
  rw [Bool.and_eq_true, Nat.blt_eq, Nat.blt_eq] at h
  exact h
theorem less_ok {a b f : Fr} (h : lessP a b = some f) : Wp (m_less [.sh (frD a), .sh (frD b)]) (fun d _ => d = frD f) NoE := by
  unfold lessP at h
  split at h
  · rename_i hs
    rw [Bool.and_eq_true] at hs
    obtain ⟨h1, h2⟩ := smF_ok hs.1
    obtain ⟨h3, h4⟩ := smF_ok hs.2
    unfold m_less b_less
    rw [wp_runD]
    simp [full, frD, atI, ixN, wp_cCall, shs]
    refine ⟨_, ⟨by omega, rfl⟩, _, ⟨by omega, rfl⟩, _, rfl, _, ⟨by omega, rfl⟩, (low_ok h).q ?_⟩
    intro ρ
    rfl
  · cases h
theorem times_ok {a b f : Fr} (h : timesP a b = some f) : Wp (m_times [.sh (frD a), .sh (frD b)]) (fun d _ => d = frD f) NoE := by
  unfold timesP at h
  split at h
  · rename_i hs
    rw [Bool.and_eq_true] at hs
    obtain ⟨h1, h2⟩ := smF_ok hs.1
    obtain ⟨h3, h4⟩ := smF_ok hs.2
    unfold m_times b_times
    rw [wp_runD]
    simp [full, frD, atI, ixN, wp_cCall, shs]
    refine ⟨_, ⟨by omega, rfl⟩, _, ⟨by omega, rfl⟩, (low_ok h).q ?_⟩
    intro ρ
    rfl
  · cases h
theorem over_ok {a b f : Fr} (h : overP a b = some f) : Wp (m_over [.sh (frD a), .sh (frD b)]) (fun d _ => d = frD f) NoE := by
  unfold overP at h
  split at h
  · rename_i hs
    rw [Bool.and_eq_true] at hs
    obtain ⟨h1, h2⟩ := smF_ok hs.1
    obtain ⟨h3, h4⟩ := smF_ok hs.2
    unfold m_over b_over
    rw [wp_runD]
    simp [full, frD, atI, ixN, wp_cCall, shs]
    refine ⟨_, ⟨by omega, rfl⟩, _, ⟨by omega, rfl⟩, (low_ok h).q ?_⟩
    intro ρ
    rfl
  · cases h
end
end PyD

set_option Elab.async false
set_option linter.all false
set_option maxRecDepth 100000
namespace PyD
open PySem PySem.Spec L2
open PyProof.Rows hiding St
section
variable {QL : List D → Rho → Prop} {Q : D → Rho → Prop} {E : Nat → D → Prop}
theorem mapO_ok {α β : Type} {f : α → Option β} : ∀ {xs : List α} {ys : List β}, mapO f xs = some ys → ys.length = xs.length ∧ ∀ (j : Nat) x y, xs[j]? = some x → ys[j]? = some y → f x = some y
  | [], ys, h => by cases h; exact ⟨rfl, fun j x y h => by simp at h⟩
  | x :: xs, ys, h => by
    unfold mapO at h
    split at h
    · cases h
    · rename_i y hy
      split at h
      · cases h
      · rename_i zs hz
        cases h
        obtain ⟨h1, h2⟩ := mapO_ok hz
        refine ⟨by simp [h1], fun j x' y' hx' hy' => ?_⟩
        cases j with
        | zero => simp at hx' hy'; subst hx' hy'; exact hy
        | succ j => exact h2 j x' y' (by simpa using hx') (by simpa using hy')
theorem atI_get {ds : List D} {n : Nat} {d : D} (h : ds[n]? = some d) : atI ds (n : Int) = some d := by
  have hl := (List.getElem?_eq_some_iff.mp h).1
  rw [atI_nat hl]
  rw [List.getElem?_eq_getElem hl] at h
  exact h
def rowD (r : FRow) : D := .lst (r.map frD)
theorem without_ok {row other out : FRow} {place : Nat} (h : withoutP row other place = some out) (hz : row.length ≤ 1000) :
    Wp (m_without [.sh (rowD row), .sh (rowD other), .sh (.int place)]) (fun ds _ => ds = out.map frD) NoE := by
  unfold withoutP at h
  split at h
  · cases h
  · rename_i factor hf
    split at h
    · rename_i hl
      obtain ⟨h1, h2⟩ := mapO_ok h
      have ha : atI (row.map frD) (place : Int) = some (frD factor) := atI_get (by rw [List.getElem?_map, hf]; rfl)
      unfold m_without b_without
      rw [wp_runF, wp_seq]
      simp [full, rowD, ha, isRf]
      rw [go_iff]
      simp [hl, noOw]
      refine ⟨_, _, ⟨rfl, rfl⟩, by simp [hl], ?_⟩
      rw [zipD_map]
      refine compL_sim (ys := out) (enc := frD) (fun ρ => ∃ c4 c5, ρ = [.sh (.lst (row.map frD)), .sh (.lst (other.map frD)), .sh (.int place), .sh (frD factor), c4, c5] ∧ isRf c4 = false ∧ isRf c5 = false) ?_ (le_size (by rw [h1, List.length_zip]; omega)) ⟨.no, .no, rfl, rfl, rfl⟩ ?_ ?_
      · rw [List.length_map, h1]
      · rintro j d y ρ hj hy ⟨c4, c5, rfl, i4, i5⟩
        rw [List.getElem?_map] at hj
        obtain ⟨⟨one, two⟩, hp, rfl⟩ := Option.map_eq_some_iff.mp hj
        have hq := h2 j _ y hp hy
        simp only at hq
        split at hq
        · cases hq
        · rename_i z hzz
          simp [wipeR, isRf, wp_cCall, shs]
          refine (times_ok hzz).q ?_
          intro ρ
          refine (less_ok hq).q ?_
          intro ρ
          exact ⟨rfl, _, _, ⟨rfl, rfl⟩, rfl, rfl⟩
      · rintro ρ ⟨c4, c5, rfl, i4, i5⟩
        rfl
    · cases h
end
end PyD

set_option Elab.async false
set_option linter.all false
set_option maxRecDepth 100000
set_option maxHeartbeats 1000000
namespace PyD
open PySem PySem.Spec L2
open PyProof.Rows hiding St
section
variable {QF : Fl → Rho → Prop} {QL : List D → Rho → Prop} {Q : D → Rho → Prop} {E : Nat → D → Prop}
def natsD (l : List Nat) : List D := l.map fun (n : Nat) => .int (n : Int)
theorem natsD_ints (l : List Nat) : natsD l = intsD (l.map fun (n : Nat) => (n : Int)) := by simp [natsD, intsD]
theorem ne_frD {f g : Fr} : gNe (frD f) (frD g) = some (.bl (!decide (f = g))) := by
  have : eqD (frD f) (frD g) = decide (f = g) := by
    obtain ⟨a, b⟩ := f
    obtain ⟨c, d⟩ := g
    simp [frD]
    rfl
  rw [gNe_ok rfl rfl, this]
theorem findAt_app {p : Nat} : ∀ (xs : List FRow) (x : FRow) (i : Nat), findAt p i (xs ++ [x]) = findAt p i xs ++ (if x[p]? = some (0, 1) then [] else [i + xs.length])
  | [], x, i => by simp [findAt]
  | y :: xs, x, i => by
    simp only [List.cons_append, findAt]
    rw [findAt_app xs x (i + 1), List.append_assoc, List.length_cons, show i + 1 + xs.length = i + (xs.length + 1) by omega]
def stS (R : D) (m : Nat) (s : Step) (c5 c6 c7 c8 c9 c10 : Cell) : Rho := [.sh R, .sh (.int m), .ow (.lst (s.left.map rowD)), .sh (.lst (s.found.map rowD)), .ow (.lst (natsD s.leads)), c5, c6, c7, c8, c9, c10]
structure OkP (s : Step) (p : Nat) : Prop where
  l : ∀ r ∈ s.left, p < r.length ∧ r.length ≤ 50
  f : ∀ r ∈ s.found, p < r.length ∧ r.length ≤ 50
  l1 : s.left.length ≤ 50
  l2 : s.found.length ≤ 50
  l3 : s.leads.length ≤ 50
theorem okP_ok {s : Step} {p : Nat} (h : okP s p = true) : OkP s p := by
  unfold okP at h
  simp only [Bool.and_eq_true, List.all_eq_true, Nat.blt_eq, Nat.ble_eq] at h
  obtain ⟨⟨⟨⟨a, b⟩, c⟩, d⟩, e⟩ := h
  exact ⟨a, b, c, d, e⟩
theorem take_next {α : Type} {l : List α} {j : Nat} {x : α} (h : l[j]? = some x) : l.take (j + 1) = l.take j ++ [x] := by
  rw [List.take_add_one, h]; rfl
/-- at = [number for number, row in enumerate(left) if row[place] != NOUGHT] -/
theorem at_ok {R : D} {m p : Nat} {s : Step} {c5 c7 c8 c9 c10 : Cell} (ho : OkP s p) (h5 : isRf c5 = false) (h8 : isRf c8 = false) (n5 : noOw [c5] [0] = true) (n8 : noOw [c8] [0] = true)
    (q : QL (natsD (findAt p 0 s.left)) (stS R m s c5 (.sh (.int p)) c7 c8 c9 c10)) :
    Wp (cCompE 2 [8, 5] (gT 2 (gConsD (gN 8) (gConsD (gN 5) gNilD))) (tOf (c2 gNe (c2 gIx (cV 5) (cV 6)) (cC (.tup [.int 0, .int 1])))) (cV 8) (stS R m s c5 (.sh (.int p)) c7 c8 c9 c10)) QL E := by
  refine wp_compG (ds := s.left.map rowD) rfl ?_ ?_
  · cases c5 <;> cases c8 <;> simp [noOw, stS, isRf] at h5 h8 n5 n8 ⊢
  · refine compL_inv (fun k acc ρ => acc = natsD (findAt p 0 (s.left.take k)) ∧ ∃ c5 c8, ρ = [.sh R, .sh (.int m), .no, .sh (.lst (s.found.map rowD)), .ow (.lst (natsD s.leads)), c5, .sh (.int p), c7, c8, c9, c10]) 0 ⟨rfl, c5, c8, rfl⟩ ?_ ?_
    · rintro j d acc ρ hj ⟨rfl, c5, c8, rfl⟩
      obtain ⟨z, hz, rfl⟩ := enumD_get 0 _ j d hj
      rw [List.getElem?_map] at hz
      obtain ⟨row, hr, rfl⟩ := Option.map_eq_some_iff.mp hz
      have hm := List.mem_of_getElem? hr
      obtain ⟨hp, hlen⟩ := ho.l row hm
      have hix : row[p]? = some row[p] := List.getElem?_eq_getElem hp
      have ha : atI (row.map frD) (p : Int) = some (frD row[p]) := atI_get (by rw [List.getElem?_map, hix]; rfl)
      have hn : gNe (frD row[p]) (.tup [.int 0, .int 1]) = some (.bl (!decide (row[p] = (0, 1)))) := ne_frD (g := (0, 1))
      have hlt : (findAt p 0 (s.left.take j)).length ≤ j := by
        have : ∀ (xs : List FRow) (i : Nat), (findAt p i xs).length ≤ xs.length := by
          intro xs
          induction xs with
          | nil => intro i; simp [findAt]
          | cons x xs ih => intro i; have := ih (i + 1); simp only [findAt, List.length_append, List.length_cons]; split <;> simp <;> omega
        exact Nat.le_trans (this _ _) (by rw [List.length_take]; omega)
      have hj3 : j < s.left.length := (List.getElem?_eq_some_iff.mp hr).1
      have := ho.l1
      simp [wipeR, isRf, rowD, ha, hn]
      rw [take_next hr, findAt_app, hix, Nat.zero_add]
      have hl3 : (s.left.take j).length = j := by rw [List.length_take]; omega
      rw [hl3]
      by_cases hc : row[p] = (0, 1)
      · exact .inl ⟨hc, by rw [hc]; simp⟩
      · refine .inr ⟨hc, lt_size (by simp [natsD]; omega), ?_⟩
        rw [if_neg (by simpa using hc)]
        simp [natsD]
    · rintro acc ρ ⟨rfl, c5', c8', rfl⟩
      have e1 : (fEnum (s.left.map rowD)).length = s.left.length := by unfold fEnum; rw [enumD_length, List.length_map]
      rw [Nat.zero_add, e1, List.take_length]
      simp [restR, stS] at q ⊢
      exact q
end
end PyD

set_option Elab.async false
set_option linter.all false
set_option maxRecDepth 100000
set_option maxHeartbeats 1000000
namespace PyD
open PySem PySem.Spec L2
open PyProof.Rows hiding St
section
variable {QF : Fl → Rho → Prop} {QL : List D → Rho → Prop} {Q : D → Rho → Prop} {E : Nat → D → Prop}
/-- head = [over(one, head[place]) for one in head] -/
theorem head_ok {R : D} {m p : Nat} {s : Step} {c5 c7 c8 c10 : Cell} {head head2 : FRow} {h0 : Fr} (h : mapO (fun one => overP one h0) head = some head2) (hp : head[p]? = some h0) (hz : head.length ≤ 1000) (n10 : noOw [c10] [0] = true)
    (q : QL (head2.map frD) (stS R m s c5 (.sh (.int p)) c7 c8 (.sh (rowD head)) c10)) :
    Wp (cComp [10] (cW (cV 9)) (gN 10) cYes (cCall 2 m_over (cCons (cV 10) (cCons (c2 gIx (cV 9) (cV 6)) cNil))) (stS R m s c5 (.sh (.int p)) c7 c8 (.sh (rowD head)) c10)) QL E := by
  obtain ⟨h1, h2⟩ := mapO_ok h
  have ha : atI (head.map frD) (p : Int) = some (frD h0) := atI_get (by rw [List.getElem?_map, hp]; rfl)
  simp [stS, rowD]
  refine ⟨by cases c10 <;> simp [noOw] at n10 ⊢, ?_⟩
  refine compL_sim (ys := head2) (enc := frD) (fun ρ => ∃ c10, ρ = stS R m s c5 (.sh (.int p)) c7 c8 (.sh (rowD head)) c10) ?_ (le_size (by rw [h1]; omega)) ⟨c10, rfl⟩ ?_ ?_
  · rw [List.length_map, h1]
  · rintro j d y ρ hj hy ⟨c10, rfl⟩
    rw [List.getElem?_map] at hj
    obtain ⟨one, ho, rfl⟩ := Option.map_eq_some_iff.mp hj
    simp [stS, wipeR, isRf, wp_cCall, shs, rowD, ha]
    refine (over_ok (h2 j one y ho hy)).q ?_
    intro ρ
    rfl
  · rintro ρ ⟨c10', rfl⟩
    simpa [restR, stS, rowD] using q
/-- left = [without(row, head, place) for row in left] -/
theorem left_ok {R : D} {m p : Nat} {s : Step} {c5 c7 c8 c10 : Cell} {head : FRow} {left2 : List FRow} (h : mapO (fun row => withoutP row head p) s.left = some left2) (hz : ∀ r ∈ s.left, r.length ≤ 1000) (hl : s.left.length ≤ 1000) (n5 : noOw [c5] [0] = true)
    (q : QL (left2.map rowD) (stS R m s c5 (.sh (.int p)) c7 c8 (.sh (rowD head)) c10)) :
    Wp (cCompP 2 [5] (gN 5) cYes (cL (cCallF 3 m_without (cCons (cV 5) (cCons (cV 9) (cCons (cV 6) cNil))))) (stS R m s c5 (.sh (.int p)) c7 c8 (.sh (rowD head)) c10)) QL E := by
  obtain ⟨h1, h2⟩ := mapO_ok h
  refine wp_cCompP (ds := s.left.map rowD) rfl ?_ ?_
  · cases c5 <;> simp [noOw, stS] at n5 ⊢
  · refine compL_sim (ys := left2) (enc := rowD) (fun ρ => ∃ c5, ρ = (stS R m s c5 (.sh (.int p)) c7 c8 (.sh (rowD head)) c10).set 2 .no) ?_ (le_size (by rw [h1]; omega)) ⟨c5, rfl⟩ ?_ ?_
    · rw [List.length_map, h1]
    · rintro j d y ρ hj hy ⟨c5, rfl⟩
      rw [List.getElem?_map] at hj
      obtain ⟨row, ho, rfl⟩ := Option.map_eq_some_iff.mp hj
      simp [stS, wipeR, isRf, wp_cCallF, shs]
      refine (without_ok (h2 j row y ho hy) (hz row (List.mem_of_getElem? ho))).qL ?_
      intro ρ
      rfl
    · rintro ρ ⟨c5', rfl⟩
      simpa [restR, stS] using q
/-- [without(row, head, place) for row in found] -/
theorem found_ok {R : D} {m p : Nat} {s : Step} {c5 c7 c8 c10 : Cell} {head : FRow} {found2 : List FRow} (h : mapO (fun row => withoutP row head p) s.found = some found2) (hz : ∀ r ∈ s.found, r.length ≤ 1000) (hl : s.found.length ≤ 1000) (n5 : noOw [c5] [0] = true)
    (q : QL (found2.map rowD) (stS R m s c5 (.sh (.int p)) c7 c8 (.sh (rowD head)) c10)) :
    Wp (cComp [5] (cW (cV 3)) (gN 5) cYes (cL (cCallF 3 m_without (cCons (cV 5) (cCons (cV 9) (cCons (cV 6) cNil))))) (stS R m s c5 (.sh (.int p)) c7 c8 (.sh (rowD head)) c10)) QL E := by
  obtain ⟨h1, h2⟩ := mapO_ok h
  simp [stS]
  refine ⟨by cases c5 <;> simp [noOw] at n5 ⊢, ?_⟩
  refine compL_sim (ys := found2) (enc := rowD) (fun ρ => ∃ c5, ρ = stS R m s c5 (.sh (.int p)) c7 c8 (.sh (rowD head)) c10) ?_ (le_size (by rw [h1]; omega)) ⟨c5, rfl⟩ ?_ ?_
  · rw [List.length_map, h1]
  · rintro j d y ρ hj hy ⟨c5, rfl⟩
    rw [List.getElem?_map] at hj
    obtain ⟨row, ho, rfl⟩ := Option.map_eq_some_iff.mp hj
    simp [stS, wipeR, isRf, wp_cCallF, shs]
    refine (without_ok (h2 j row y ho hy) (hz row (List.mem_of_getElem? ho))).qL ?_
    intro ρ
    rfl
  · rintro ρ ⟨c5', rfl⟩
    simpa [restR, stS] using q
end
end PyD

set_option Elab.async false
set_option linter.all false
set_option maxRecDepth 100000
set_option maxHeartbeats 2000000
namespace PyD
open PySem PySem.Spec L2
open PyProof.Rows hiding St
section
variable {QF : Fl → Rho → Prop} {QL : List D → Rho → Prop} {Q : D → Rho → Prop} {E : Nat → D → Prop}
theorem erase_map {α β : Type} (f : α → β) : ∀ (l : List α) (i : Nat), (l.map f).eraseIdx i = (l.eraseIdx i).map f
  | [], _ => rfl
  | _ :: _, 0 => rfl
  | x :: l, i + 1 => by simp [erase_map f l i]
def OkC (c : Cell) : Prop := c = .no ∨ ∃ d, c = .sh d
theorem OkC.rf {c : Cell} (h : OkC c) : isRf c = false := by rcases h with rfl | ⟨d, rfl⟩ <;> rfl
theorem OkC.no {c : Cell} (h : OkC c) : noOw [c] [0] = true := by rcases h with rfl | ⟨d, rfl⟩ <;> rfl
theorem okC_no : OkC .no := .inl rfl
theorem okC_sh {d : D} : OkC (.sh d) := .inr ⟨d, rfl⟩
def eoS (s : Step) : D := .tup [.lst (s.found.map rowD), .lst (s.left.map rowD), .lst (natsD s.leads)]
theorem test_ok {R : D} {m i : Nat} {tl : List Nat} {s : Step} {c5 c6 c8 c9 c10 : Cell} {QB : Bool → Rho → Prop} (q : QB true (stS R m s c5 c6 (.sh (.lst (natsD (i :: tl)))) c8 c9 c10)) :
    Wp (tOf (c2 gNe (cV 7) (cL (cLst cNil))) (stS R m s c5 c6 (.sh (.lst (natsD (i :: tl)))) c8 c9 c10)) QB E := by
  have hne : gNe (.lst (natsD (i :: tl))) (.lst []) = some (.bl true) := by
    rw [natsD_ints, gNe_ok (cmp_ints _) rfl, eq_ints_nil]
    simp
  simp [stS, hne]
  simpa [stS] using q
theorem pop_ok {R : D} {m i : Nat} {tl : List Nat} {s : Step} {c5 c6 c8 c9 c10 : Cell} {head : FRow} (hh : s.left[i]? = some head) (hz : s.left.length ≤ 1000) (i9 : isRf c9 = false)
    (q : QF .nx (stS R m ⟨s.left.eraseIdx i, s.found, s.leads⟩ c5 c6 (.sh (.lst (natsD (i :: tl)))) c8 (.sh (rowD head)) c10)) :
    Wp (cAsg (cPopAt 2 (c2 gIx (cV 7) (cC (.int 0)))) (gN 9) (stS R m s c5 c6 (.sh (.lst (natsD (i :: tl)))) c8 c9 c10)) QF E := by
  have hi : i < s.left.length := (List.getElem?_eq_some_iff.mp hh).1
  have hat : atI (natsD (i :: tl)) 0 = some (.int i) := by simp [natsD, atI, ixN]
  have hixn : ixN s.left.length (i : Int) = some i := by simp [ixN, hi]
  rw [wp_cAsg, wp_cPopAt]
  refine ⟨⟨s.left.map rowD, rfl⟩, ?_⟩
  simp [stS, hat, ownL]
  refine ⟨by omega, i, hixn, rowD head, ⟨head, hh, rfl⟩, ?_⟩
  simp [putL, sameKind, i9]
  simpa [stS, erase_map] using q
theorem app_ok {R : D} {m p : Nat} {s : Step} {c5 c7 c8 c9 c10 : Cell} (hz : s.leads.length ≤ 1000) (q : QF .nx (stS R m ⟨s.left, s.found, s.leads ++ [p]⟩ c5 (.sh (.int p)) c7 c8 c9 c10)) :
    Wp (cExpr (cApp 4 (cV 6)) (stS R m s c5 (.sh (.int p)) c7 c8 c9 c10)) QF E := by
  simp [stS, ownL, putL, sameKind]
  refine ⟨lt_size (by simp [natsD]; omega), ?_⟩
  simpa [stS, natsD] using q
theorem stepped_ok {rows : List FRow} {many : Nat} {s : Step} (h : stepsP ⟨rows, [], []⟩ (List.range many) = some s) (hz : rows.length ≤ 1000) (hm : many ≤ 1000) :
    Wp (m_stepped [.sh (.lst (rows.map rowD)), .sh (.int many)]) (fun d _ => d = eoS s) NoE := by
  unfold m_stepped b_stepped
  rw [wp_runD, wp_seq]
  simp [full, noOw]
  refine compL_sim (ys := rows) (enc := rowD) (fun ρ => ∃ c5, ρ = [.sh (.lst (rows.map rowD)), .sh (.int many), .no, .no, .no, c5, .no, .no, .no, .no, .no]) (by rw [List.length_map]) (le_size (by omega)) ⟨.no, rfl⟩ ?_ ?_
  · rintro j d y ρ hj hy ⟨c5, rfl⟩
    rw [List.getElem?_map, hy] at hj
    cases hj
    simp [wipeR, isRf, rowD, itemsD]
  rintro ρ ⟨c5, rfl⟩
  simp [restR, isRf]
  rw [go_seq]
  simp
  refine ⟨by simp [inR]; omega, ?_⟩
  refine forL_inv (fun k ρ => ∃ (st : Step) (c5 c6 c7 c8 c9 c10 : Cell), ρ = stS (.lst (rows.map rowD)) many st c5 c6 c7 c8 c9 c10 ∧ OkC c5 ∧ OkC c6 ∧ OkC c7 ∧ OkC c8 ∧ OkC c9 ∧ OkC c10 ∧ stepsP st ((List.range many).drop k) = some s) 0 ?_ ?_ ?_
  · exact ⟨⟨rows, [], []⟩, .no, .no, .no, .no, .no, .no, rfl, okC_no, okC_no, okC_no, okC_no, okC_no, okC_no, by simpa using h⟩
  · rintro p d ρ hp ⟨st, c5, c6, c7, c8, c9, c10, rfl, i5, i6, i7, i8, i9, i10, hs⟩
    obtain ⟨hlt, rfl⟩ := rangeD_get hp
    rw [Nat.zero_add, List.drop_eq_getElem_cons (by simpa using hlt)] at hs
    simp only [List.getElem_range, stepsP] at hs
    split at hs
    · cases hs
    · rename_i s2 hst
      unfold stepP at hst
      split at hst
      · rename_i hok
        have ho := okP_ok hok
        simp only [wg_gN]
        refine ⟨c6, rfl, i6.rf, ?_⟩
        have e6 : (stS (.lst (rows.map rowD)) many st c5 c6 c7 c8 c9 c10).set 6 (.sh (.int (0 + (p : Int)))) = stS (.lst (rows.map rowD)) many st c5 (.sh (.int p)) c7 c8 c9 c10 := by simp [stS]
        rw [e6, wp_seq]
        simp only [wp_cAsg, wp_cL]
        refine at_ok (p := p) ho i5.rf i8.rf i5.no i8.no ?_
        rw [wg_gN]
        refine ⟨c7, rfl, i7.rf, ?_⟩
        have e7 : (stS (.lst (rows.map rowD)) many st c5 (.sh (.int p)) c7 c8 c9 c10).set 7 (.sh (.lst (natsD (findAt p 0 st.left)))) = stS (.lst (rows.map rowD)) many st c5 (.sh (.int p)) (.sh (.lst (natsD (findAt p 0 st.left)))) c8 c9 c10 := by simp [stS]
        rw [e7, then_nx, go_iff]
        have hne : gNe (.lst (natsD (findAt p 0 st.left))) (.lst []) = some (.bl (!decide (findAt p 0 st.left = []))) := by
          rw [natsD_ints, gNe_ok (cmp_ints _) rfl, eq_ints_nil]
          simp
        split at hst
        · rename_i hf
          cases hst
          rw [hf] at hne
          simp [stS, hf, hne]
          exact ⟨st, c5, .sh (.int p), .sh (.lst (natsD [])), c8, c9, c10, by simp, i5, okC_sh, okC_sh, i8, i9, i10, by simpa using hs⟩
        · rename_i i tl hf
          rw [hf] at hne ⊢
          split at hst
          · cases hst
          · rename_i head hh
            split at hst
            · cases hst
            · rename_i h0 hh0
              split at hst
              · cases hst
              · rename_i head2 hm2
                split at hst
                · cases hst
                · rename_i left2 hl2
                  split at hst
                  · cases hst
                  · rename_i found2 hf2
                    cases hst
                    have hi : i < st.left.length := (List.getElem?_eq_some_iff.mp hh).1
                    have hhm := List.mem_of_getElem? hh
                    have b1 := ho.l1
                    have b2 := ho.l2
                    have b3 := ho.l3
                    rw [wp_cIfS]
                    refine test_ok ⟨fun _ => ?_, fun z => by cases z⟩
                    rw [wp_seq]
                    refine pop_ok hh (by omega) i9.rf ?_
                    rw [then_nx, go_seq, wp_cAsg, wp_cL]
                    refine head_ok (s := ⟨st.left.eraseIdx i, st.found, st.leads⟩) hm2 hh0 (by have := (ho.l _ hhm).2; omega) i10.no ?_
                    rw [wg_gN]
                    refine ⟨_, rfl, rfl, ?_⟩
                    rw [then_nx, go_seq]
                    show Wp (cSetO 2 _ (stS (.lst (rows.map rowD)) many ⟨st.left.eraseIdx i, st.found, st.leads⟩ c5 (.sh (.int p)) (.sh (.lst (natsD (i :: tl)))) c8 (.sh (rowD head2)) c10)) _ _
                    rw [wp_cSetO]
                    refine left_ok (s := ⟨st.left.eraseIdx i, st.found, st.leads⟩) hl2 (fun r hr => by have := (ho.l r (List.mem_of_mem_eraseIdx hr)).2; omega) (by have := List.length_eraseIdx_le st.left i; show (st.left.eraseIdx i).length ≤ _; omega) i5.no ?_
                    refine ⟨_, rfl, rfl, ?_⟩
                    rw [then_nx, go_seq]
                    show Wp (cAsg _ _ (stS (.lst (rows.map rowD)) many ⟨left2, st.found, st.leads⟩ c5 (.sh (.int p)) (.sh (.lst (natsD (i :: tl)))) c8 (.sh (rowD head2)) c10)) _ _
                    rw [wp_cAsg, wp_c2, wp_cL]
                    refine found_ok (s := ⟨left2, st.found, st.leads⟩) hf2 (fun r hr => by have := (ho.f r hr).2; omega) (by show st.found.length ≤ _; omega) i5.no ?_
                    have hfl : found2.length = st.found.length := (mapO_ok hf2).1
                    have hz2 : found2.length + 1 ≤ sizeLine := le_size (by omega)
                    simp [stS]
                    refine ⟨_, ⟨hz2, rfl⟩, ?_⟩
                    rw [show found2.map rowD ++ [rowD head2] = (found2 ++ [head2]).map rowD by simp]
                    refine app_ok (s := ⟨left2, found2 ++ [head2], st.leads⟩) (by show st.leads.length ≤ _; omega) ?_
                    rw [turn_nx]
                    exact ⟨_, _, _, _, _, _, _, rfl, i5, okC_sh, okC_sh, i8, okC_sh, i10, by simpa using hs⟩
      · cases hst
  · rintro ρ ⟨st, c5, c6, c7, c8, c9, c10, rfl, i5, i6, i7, i8, i9, i10, hs⟩
    rw [Nat.zero_add, rangeD_length, List.drop_eq_nil_of_le (by simp)] at hs
    cases hs
    rw [then_nx, go_iff]
    simp [stS, eoS]
end
end PyD

set_option Elab.async false
set_option linter.all false
set_option maxRecDepth 100000
set_option maxHeartbeats 2000000
namespace PyD
open PySem PySem.Spec L2
open PyProof.Rows hiding St
section
variable {QF : Fl → Rho → Prop} {QL : List D → Rho → Prop} {Q : D → Rho → Prop} {E : Nat → D → Prop} {ρ : Rho} {fa fb : Ev}
theorem mapO_len {α β : Type} {f : α → Option β} {xs : List α} {ys : List β} (h : mapO f xs = some ys) : ys.length = xs.length := (mapO_ok h).1
/-- the answer, as it is put together -/
@[simp] theorem wp_cRep : Wp (cRep fa fb ρ) QL E ↔ Wp (fa ρ) (fun x ρ1 => Wp (fb ρ1) (fun y ρ2 => ∃ xs k, x = .lst xs ∧ y = .int k ∧ (-(2 ^ 63) ≤ k ∧ k < 2 ^ 63 ∧ xs.length * k.toNat ≤ sizeLine) ∧ QL (List.replicate k.toNat xs).flatten ρ2) E) E := by
  unfold cRep; rw [wp_bind]
  refine Iff.intro (fun h => h.imp (fun x ρ1 h => ?_) fun _ _ h => h) fun h => h.imp (fun x ρ1 h => ?_) fun _ _ h => h
  · rw [wp_bind] at h
    refine h.imp (fun y ρ2 h => ?_) fun _ _ h => h
    revert h
    split
    · rename_i xs k e1 e2
      split
      · rename_i hk
        exact fun h => ⟨xs, k, e1, e2, hk, h⟩
      · exact fun h => h.elim
    · exact fun h => h.elim
  · rw [wp_bind]
    refine h.imp (fun y ρ2 h => ?_) fun _ _ h => h
    obtain ⟨xs, k, rfl, rfl, hk, q⟩ := h
    simp only [hk, and_self, if_true]
    exact q
theorem foldl_take {α β : Type} {f : β → α → β} {xs : List α} {a : β} {j : Nat} {x : α} (h : xs[j]? = some x) : (xs.take (j + 1)).foldl f a = f ((xs.take j).foldl f a) x := by
  rw [take_next h, List.foldl_append]; rfl
theorem fold_len {α : Type} {g : α → Nat} {h : α → Fr} : ∀ (xs : List α) (a : FRow), (xs.foldl (fun ans p => ans.set (g p) (h p)) a).length = a.length
  | [], a => rfl
  | x :: xs, a => by rw [List.foldl_cons, fold_len xs]; simp
theorem last_row {r : FRow} (h : r ≠ []) : atI (r.map frD) (-1) = some (frD (r.getLastD (0, 1))) := by
  obtain ⟨l, x, rfl⟩ : ∃ l x, r = l ++ [x] := ⟨r.dropLast, r.getLast h, (List.dropLast_concat_getLast h).symm⟩
  rw [List.map_append, List.map_cons, List.map_nil, atI_last]
  simp
theorem solved_ok {rows : List FRow} {due : FRow} {many : Nat} {out : FRow} (h : solvedP rows due many = some out) (hz : rows.length ≤ 50) (hr : ∀ r ∈ rows, r.length ≤ 50) (hm : many ≤ 50) :
    Wp (m_solved [.sh (.lst (rows.map rowD)), .sh (.lst (due.map frD)), .sh (.int many)]) (fun d _ => d = rowD out) NoE := by
  unfold solvedP at h
  split at h
  · rename_i hl
    split at h
    · cases h
    · rename_i s hs
      split at h
      · rename_i hc
        have hout := Option.some.inj h
        clear h
        unfold m_solved b_solved
        rw [wp_runD, wp_seq]
        simp [full, noOw, wp_cCall, shs]
        refine ⟨_, _, ⟨rfl, rfl⟩, by simp [hl], ?_⟩
        have e0 : zipD (rows.map rowD) (due.map frD) = (rows.zip due).map fun p => .tup [rowD p.1, frD p.2] := zipD_map _ _
        rw [e0]
        refine compL_sim (ys := (rows.zip due).map fun p => p.1 ++ [p.2]) (enc := rowD) (fun ρ => ∃ c6 c7, ρ = [.sh (.lst (rows.map rowD)), .sh (.lst (due.map frD)), .sh (.int many), .no, .no, .no, c6, c7, .no, .no]) ?_ (le_size (by simp; omega)) ⟨.no, .no, rfl⟩ ?_ ?_
        · simp
        · rintro j d y ρ hj hy ⟨c6, c7, rfl⟩
          rw [List.getElem?_map] at hj hy
          obtain ⟨⟨row, one⟩, hp, rfl⟩ := Option.map_eq_some_iff.mp hj
          rw [hp] at hy
          cases hy
          have hrow : row.length ≤ 50 := hr row (List.of_mem_zip (List.mem_of_getElem? hp)).1
          simp [wipeR, isRf, rowD, itemsD]
          exact le_size (by omega)
        rintro ρ ⟨c6, c7, rfl⟩
        simp [restR, -List.map_map]
        refine (stepped_ok hs (by simp; omega) (by omega)).q ?_
        intro ρ
        simp [eoS, isRf, hc.1]
        rw [go_seq]
        have hne : gNe (.lst []) (.lst []) = some (.bl false) := by
          have h1 : eqD (.lst []) (.lst []) = true := (eq_ints_nil (l := [])).trans (by simp)
          rw [gNe_ok rfl rfl, h1]
          rfl
        rw [wp_cIfS, wp_tOf, wp_c2, wp_cL, wp_cComp]
        rw [wp_cW, wp_cV]
        refine ⟨_, rfl, _, rfl, rfl, ?_⟩
        rw [wp_compL_nil, wp_cL, wp_cLst, wp_cNil]
        refine ⟨Nat.zero_le _, _, hne, false, rfl, ⟨fun z => (by cases z), fun _ => ?_⟩⟩
        rw [wp_cSkip, then_nx, go_seq]
        simp [restR, isRf]
        have hms : many ≤ sizeLine := le_size (by omega)
        refine ⟨?_, ?_⟩
        · first | exact hms | exact ⟨by omega, hms⟩ | exact ⟨by omega, by omega, hms⟩
        rw [go_seq]
        simp
        refine ⟨_, _, ⟨rfl, rfl⟩, by simp [natsD, hc.2.1], ?_⟩
        have ez : zipD (s.found.map rowD) (natsD s.leads) = (s.found.zip s.leads).map fun p => .tup [rowD p.1, .int (p.2 : Int)] := zipD_map _ _
        rw [ez]
        refine forL_inv (fun k ρ => ∃ c6 c9, ρ = [.sh (.lst (rows.map rowD)), .sh (.lst (due.map frD)), .sh (.int many), .sh (.lst (s.found.map rowD)), .sh (.lst []), .sh (.lst (natsD s.leads)), c6, .no, .ow (rowD (((s.found.zip s.leads).take k).foldl (fun ans p => ans.set p.2 (p.1.getLastD (0, 1))) (List.replicate many (0, 1)))), c9] ∧ OkC c6 ∧ OkC c9) 0 ?_ ?_ ?_
        · refine ⟨.no, .no, ?_, okC_no, okC_no⟩
          simp [rowD, frD]
        · rintro j d ρ hj ⟨c6, c9, rfl, i6, i9⟩
          rw [List.getElem?_map] at hj
          obtain ⟨⟨row, p⟩, hp, rfl⟩ := Option.map_eq_some_iff.mp hj
          have hm1 := List.of_mem_zip (List.mem_of_getElem? hp)
          have hne : row ≠ [] := by
            have := List.all_eq_true.mp hc.2.2.1 row hm1.1
            simpa using this
          have hpm : p < many := by
            have := List.all_eq_true.mp hc.2.2.2 p hm1.2
            simpa using this
          have hlast := last_row hne
          have hz2 : (((s.found.zip s.leads).take (0 + j)).foldl (fun ans p => ans.set p.2 (p.1.getLastD (0, 1))) (List.replicate many ((0, 1) : Fr))).length = many := by
            rw [fold_len (g := fun p : FRow × Nat => p.2) (h := fun p : FRow × Nat => p.1.getLastD (0, 1))]; simp
          rw [foldl_take (show (s.found.zip s.leads)[0 + j]? = some (row, p) by rw [Nat.zero_add]; exact hp)]
          generalize ((s.found.zip s.leads).take (0 + j)).foldl (fun ans p => ans.set p.2 (p.1.getLastD (0, 1))) (List.replicate many ((0, 1) : Fr)) = ans at hz2 ⊢
          simp [i6.rf, i9.rf, rowD, hlast]
          refine ⟨⟨_, rfl⟩, ans.map frD, rfl, p, by simp [ixN, hz2, hpm], _, _, rfl, okC_sh, okC_sh⟩
        · rintro ρ ⟨c6, c9, rfl, i6, i9⟩
          rw [then_nx, go_iff, Nat.zero_add, List.length_map, List.take_length, hout]
          simp
      · cases h
  · cases h
end
end PyD

set_option Elab.async false
set_option linter.all false
set_option maxRecDepth 100000
set_option maxHeartbeats 2000000
namespace PyD
open PySem PySem.Spec L2
open PyProof.Rows hiding St
section
variable {QF : Fl → Rho → Prop} {QL : List D → Rho → Prop} {Q : D → Rho → Prop} {E : Nat → D → Prop} {ρ : Rho} {fa fb : Ev}
/-- a comprehension that keeps some -/
theorem compL_flt {α : Type} {enc f : α → D} {pr : α → Bool} {xs : List α} {vs : List Nat} {tg : Gv} {tt : Tv} {elt : Ev} (I : Rho → Prop) (hz : xs.length ≤ 50000) (h0 : I ρ)
    (hs : ∀ (x : α) (ρ : Rho), x ∈ xs → I ρ → Wg (tg (f x) (wipeR ρ vs)) (fun ρ1 => Wp (tt ρ1) (fun b ρ2 => b = pr x ∧ (pr x = true → Wp (elt ρ2) (fun v ρ3 => v = enc x ∧ I ρ3) E) ∧ (pr x = false → I ρ2)) E) E)
    (q : ∀ ρ, I ρ → QL ((xs.filter pr).map enc) ρ) : Wp (compL vs tg tt elt (xs.map f) [] ρ) QL E := by
  refine compL_inv (fun k acc ρ => acc = ((xs.take k).filter pr).map enc ∧ I ρ) 0 ⟨by simp, h0⟩ ?_ ?_
  · rintro j d acc ρ hj ⟨rfl, hI⟩
    rw [List.getElem?_map] at hj
    obtain ⟨x, hx, rfl⟩ := Option.map_eq_some_iff.mp hj
    refine (hs x ρ (List.mem_of_getElem? hx) hI).imp (fun ρ1 h => ?_) fun _ _ h => h
    refine h.imp (fun b ρ2 h => ?_) fun _ _ h => h
    obtain ⟨rfl, h1, h2⟩ := h
    rw [Nat.zero_add, take_next hx, List.filter_append, List.map_append]
    have hl : (((xs.take j).filter pr).map enc).length ≤ 50000 := by
      rw [List.length_map]
      refine Nat.le_trans (List.length_filter_le _ _) (Nat.le_trans (List.length_take_le' _ _) hz)
    refine ⟨fun hp => (h1 hp).imp (fun v ρ3 hv => ⟨lt_size (by omega), by rw [hv.1]; simp [hp], hv.2⟩) fun _ _ h => h, fun hp => ⟨by simp [hp], h2 hp⟩⟩
  · rintro acc ρ ⟨rfl, hI⟩
    rw [Nat.zero_add, List.length_map, List.take_length]
    exact q ρ hI
theorem gSum_ints {l : List Int} : gSum (.lst (intsD l)) = some (.int l.sum) := by
  have : intsOf (intsD l) = some l := by
    induction l with
    | nil => rfl
    | cons x l ih => simp only [intsD, List.map_cons] at ih ⊢; simp [intsOf, ih]
  simp [gSum, this]
@[simp] theorem wp_ties_in {m : Int} {us : List Tie} {Q : D → Rho → Prop} : Wp (m_ties_in [.sh (webD m us)]) Q E ↔ Q (.lst (tiesD us)) [.sh (webD m us)] := by
  rw [show m_ties_in [.sh (webD m us)] = .ok (.lst (tiesD us), [.sh (webD m us)]) by rfl, wp_ok]
@[simp] theorem wp_many_in {m : Int} {us : List Tie} {Q : D → Rho → Prop} : Wp (m_many_in [.sh (webD m us)]) Q E ↔ Q (.int m) [.sh (webD m us)] := by
  rw [show m_many_in [.sh (webD m us)] = .ok (.int m, [.sh (webD m us)]) by rfl, wp_ok]
theorem in_pair {p : Int} {a b : Int} : gIn false (.int p) (.tup [.int a, .int b]) = some (.bl (a == p || b == p)) := by
  show (match itemsD (.tup [D.int a, .int b]) with | some es => if cmpD (.int p) = true ∧ cmpD (.tup [D.int a, .int b]) = true then _ else none | none => none) = _
  simp only [itemsD]
  rw [if_pos ⟨rfl, rfl⟩]
  simp
  exact ⟨rfl, rfl⟩
theorem in_pairs {l h one other : Int} : gIn false (.tup [.int l, .int h]) (.tup [.tup [.int one, .int other], .tup [.int other, .int one]]) = some (.bl ((l == one && h == other) || (l == other && h == one))) := by
  show (match itemsD (.tup [.tup [D.int one, .int other], .tup [D.int other, .int one]]) with | some es => if cmpD (.tup [D.int l, .int h]) = true ∧ cmpD (.tup [.tup [D.int one, .int other], .tup [D.int other, .int one]]) = true then _ else none | none => none) = _
  simp only [itemsD]
  rw [if_pos ⟨rfl, rfl⟩]
  simp
  refine ⟨⟨rfl, rfl⟩, ?_⟩
  rw [Bool.eq_iff_iff]
  simp
  constructor
  · rintro (⟨a, b⟩ | ⟨a, b⟩)
    · exact .inl ⟨a.symm, b.symm⟩
    · exact .inr ⟨a.symm, b.symm⟩
  · rintro (⟨a, b⟩ | ⟨a, b⟩)
    · exact .inl ⟨a.symm, b.symm⟩
    · exact .inr ⟨a.symm, b.symm⟩
theorem between_ok {m : Int} {us : List Tie} {one other : Int} (hz : us.length ≤ 1000) : Wp (m_between [.sh (webD m us), .sh (.int one), .sh (.int other)]) (fun d _ => d = .int (betP us one other)) NoE := by
  unfold m_between b_between
  rw [wp_runD]
  simp [full, wp_cCall, shs, noOw, tiesD]
  refine compL_flt (f := tieD) (enc := fun t => .int t.2.2) (pr := fun t => (t.1 == one && t.2.1 == other) || (t.1 == other && t.2.1 == one)) (fun ρ => ∃ c3 c4 c5, ρ = [.sh (webD m us), .sh (.int one), .sh (.int other), c3, c4, c5]) (by omega) ⟨_, _, _, rfl⟩ ?_ ?_
  · rintro ⟨l, h, x⟩ ρ hm ⟨c3, c4, c5, rfl⟩
    simp [wipeR, isRf, tieD, in_pairs]
    rcases Classical.em ((l = one ∧ h = other) ∨ (l = other ∧ h = one)) with z | z
    · exact .inr z
    · exact .inl ⟨fun a b => z (.inl ⟨a, b⟩), fun a b => z (.inr ⟨a, b⟩)⟩
  · rintro ρ ⟨c3, c4, c5, rfl⟩
    have := gSum_ints (l := (us.filter fun t => t.1 == one && t.2.1 == other || t.1 == other && t.2.1 == one).map fun t => t.2.2)
    simpa [intsD, betP, Function.comp_def] using this
theorem breadth_ok {m : Int} {us : List Tie} {p : Int} (hz : us.length ≤ 1000) : Wp (m_breadth [.sh (webD m us), .sh (.int p)]) (fun d _ => d = .int (breP us p)) NoE := by
  unfold m_breadth b_breadth
  rw [wp_runD]
  simp [full, wp_cCall, shs, noOw, tiesD]
  refine compL_flt (f := tieD) (enc := fun t => .int t.2.2) (pr := fun t => t.1 == p || t.2.1 == p) (fun ρ => ∃ c3 c4 c5, ρ = [.sh (webD m us), .sh (.int p), c3, c4, c5]) (by omega) ⟨_, _, _, rfl⟩ ?_ ?_
  · rintro ⟨l, h, x⟩ ρ hm ⟨c3, c4, c5, rfl⟩
    simp [wipeR, isRf, tieD, in_pair]
    rcases Classical.em (l = p ∨ h = p) with z | z
    · exact .inr z
    · exact .inl ⟨fun a => z (.inl a), fun a => z (.inr a)⟩
  · rintro ρ ⟨c3, c4, c5, rfl⟩
    have := gSum_ints (l := (us.filter fun t => t.1 == p || t.2.1 == p).map fun t => t.2.2)
    simpa [intsD, breP, Function.comp_def] using this
/-- a row of the matrix, and all of it -/
def matRow (m : Nat) (us : List Tie) (one : Int) : List Int := (ptsP m).map fun t => matP us one t
theorem ptsP_get {m k : Nat} (h : k < m) : (ptsP m)[k]? = some (k : Int) := by simp [ptsP, h]
theorem ptsP_len {m : Nat} : (ptsP m).length = m := by simp [ptsP]
theorem matRow_set {m k : Nat} {us : List Tie} (h : k < m) : (((ptsP m).map fun t => -betP us k t).set k (breP us k)) = matRow m us k := by
  apply List.ext_getElem?
  intro j
  unfold matRow
  by_cases hj : j < m
  · rw [List.getElem?_map, ptsP_get hj]
    by_cases e : k = j
    · subst e
      rw [List.getElem?_set_self (by simp [ptsP, h])]
      simp [matP]
    · rw [List.getElem?_set_ne e, List.getElem?_map, ptsP_get hj]
      have : ¬ ((k : Int) = j) := by omega
      simp [matP, this]
  · rw [List.getElem?_eq_none (by simp [ptsP]; omega), List.getElem?_eq_none (by simp [ptsP]; omega)]
theorem matrix_ok {M : Int} {m : Nat} {us : List Tie} (hM : M = m) (hz : us.length ≤ 1000) (hm : m ≤ 50) : Wp (m_matrix_of [.sh (webD M us)]) (fun ds _ => ds = (ptsP m).map fun one => .lst (intsD (matRow m us one))) NoE := by
  subst hM
  unfold m_matrix_of b_matrix_of
  rw [wp_runF, wp_seq]
  simp [full, isRf]
  rw [go_seq]
  simp [wp_cCall, shs]
  refine ⟨by simp [inR]; omega, ?_⟩
  refine forL_inv (fun k ρ => ∃ c2 c3 c4, ρ = [.sh (webD m us), .ow (.lst (((ptsP m).take k).map fun one => .lst (intsD (matRow m us one)))), c2, c3, c4] ∧ isRf c2 = false ∧ isRf c3 = false ∧ OkC c4) 0 ⟨.no, .no, .no, by simp, rfl, rfl, okC_no⟩ ?_ ?_
  · rintro k d ρ hk ⟨c2, c3, c4, rfl, i2, i3, i4⟩
    obtain ⟨hlt, rfl⟩ := rangeD_get hk
    simp only [wg_gN]
    refine ⟨c2, rfl, i2, ?_⟩
    rw [wp_seq]
    simp [wp_cCall, shs, -List.map_take]
    refine ⟨by simp [inR]; omega, by rcases i4 with rfl | ⟨d, rfl⟩ <;> simp [noOw], ?_⟩
    refine compL_sim (ys := (ptsP m).map fun t => -betP us k t) (enc := D.int) (fun ρ => ∃ c4, ρ = [.sh (webD m us), .ow (.lst (((ptsP m).take k).map fun one => .lst (intsD (matRow m us one)))), .sh (.int k), c3, c4]) ?_ (le_size (by simp [ptsP]; omega)) ⟨c4, rfl⟩ ?_ ?_
    · simp [rangeD, ptsP]
    · rintro j d y ρ hj hy ⟨c4, rfl⟩
      obtain ⟨hlj, rfl⟩ := rangeD_get hj
      have hlj2 : j < m := by simpa using hlj
      rw [List.getElem?_map, ptsP_get hlj2] at hy
      cases hy
      simp [wipeR, isRf, wp_cCall, shs, -List.map_take]
      refine (between_ok hz).q ?_
      intro ρ
      first | rfl | simp
    · rintro ρ ⟨c4', rfl⟩
      simp [restR, i3, -List.map_take, -List.map_map]
      rw [go_seq]
      simp [wp_cCall, shs, -List.map_take, -List.map_map]
      refine (breadth_ok hz).q ?_
      intro ρ
      refine ⟨⟨_, rfl⟩, _, rfl, k, by simp [ixN, ptsP, hlt], ?_⟩
      have es : (((ptsP m).map fun t => -betP us k t).map D.int).set k (.int (breP us k)) = intsD (matRow m us k) := by
        rw [← matRow_set hlt, intsD, List.map_set]
      rw [es, go_iff]
      simp [putL, sameKind, ownL, -List.map_take, -List.map_map]
      refine ⟨lt_size (by rw [ptsP_len]; omega), _, _, _, ⟨?_, rfl, rfl, rfl⟩, rfl, rfl, i4⟩
      rw [take_next (ptsP_get hlt), List.map_append]
      rfl
  · rintro ρ ⟨c2, c3, c4, rfl, i2, i3, i4⟩
    rw [then_nx, go_iff, Nat.zero_add, rangeD_length]
    rw [List.take_of_length_le (by rw [ptsP_len]; omega)]
    simp
    rfl
theorem unit_ok {M : Int} {m : Nat} {us : List Tie} {one other : Int} (hM : M = m) (hm : m ≤ 50) : Wp (m_unit_row [.sh (webD M us), .sh (.int one), .sh (.int other)]) (fun ds _ => ds = (unitP m one other).map frD) NoE := by
  subst hM
  unfold m_unit_row b_unit_row
  rw [wp_runF]
  simp [full, wp_cCall, shs, noOw]
  refine ⟨by simp [inR]; omega, ?_⟩
  refine compL_sim (ys := unitP m one other) (enc := frD) (fun ρ => ∃ c3, ρ = [.sh (webD m us), .sh (.int one), .sh (.int other), c3]) ?_ (le_size (by simp [unitP, ptsP]; omega)) ⟨_, rfl⟩ ?_ ?_
  · simp [rangeD, unitP, ptsP]
  · rintro j d y ρ hj hy ⟨c3, rfl⟩
    obtain ⟨hlj, rfl⟩ := rangeD_get hj
    have hlj2 : j < m := by simpa using hlj
    unfold unitP at hy
    rw [List.getElem?_map, ptsP_get hlj2] at hy
    cases hy
    simp [wipeR, isRf, frD]
  · rintro ρ ⟨c3, rfl⟩
    rfl
end
end PyD

set_option Elab.async false
set_option linter.all false
set_option maxRecDepth 100000
set_option maxHeartbeats 2000000
namespace PyD
open PySem PySem.Spec L2
open PyProof.Rows hiding St
section
variable {QF : Fl → Rho → Prop} {QL : List D → Rho → Prop} {Q : D → Rho → Prop} {E : Nat → D → Prop} {ρ : Rho} {fa fb : Ev}
theorem rangeD_pts {m : Nat} : rangeD 0 m = (ptsP m).map D.int := by simp [rangeD, ptsP, Function.comp_def]
theorem ptsP_mem {m : Nat} {p : Int} (h : p ∈ ptsP m) : ∃ k : Nat, k < m ∧ p = k := by
  unfold ptsP at h
  obtain ⟨k, hk, rfl⟩ := List.mem_map.mp h
  exact ⟨k, by simpa using hk, rfl⟩
def othP (m : Nat) (fin : Int) : List Int := (ptsP m).filter fun p => p != fin
theorem othP_len {m : Nat} {fin : Int} : (othP m fin).length ≤ m := Nat.le_trans (List.length_filter_le _ _) (by rw [ptsP_len]; omega)
theorem othP_mem {m : Nat} {fin p : Int} (h : p ∈ othP m fin) : ∃ k : Nat, k < m ∧ p = k := ptsP_mem (List.mem_filter.mp h).1
abbrev tabD (m : Nat) (us : List Tie) : D := .lst ((ptsP m).map fun one => .lst (intsD (matRow m us one)))
def rowsP (m : Nat) (us : List Tie) (fin : Int) : List FRow := (othP m fin).map fun h => (othP m fin).map fun t => (matP us h t, 1)
def dueP (m : Nat) (row : FRow) (fin : Int) : FRow := (othP m fin).map fun p => row.getD p.toNat (0, 1)
theorem rowsP_len {m : Nat} {us : List Tie} {fin : Int} : (rowsP m us fin).length = (othP m fin).length := by simp [rowsP]
theorem dueP_len {m : Nat} {row : FRow} {fin : Int} : (dueP m row fin).length = (othP m fin).length := by simp [dueP]
theorem rowsP_in {m : Nat} {us : List Tie} {fin : Int} {r : FRow} (h : r ∈ rowsP m us fin) : r.length = (othP m fin).length := by
  unfold rowsP at h
  obtain ⟨p, _, rfl⟩ := List.mem_map.mp h
  simp
theorem solved_len {rows : List FRow} {due out : FRow} {many : Nat} (h : solvedP rows due many = some out) : out.length = many := by
  unfold solvedP at h
  split at h
  · split at h
    · cases h
    · split at h
      · cases h
        rw [fold_len (g := fun p : FRow × Nat => p.2) (h := fun p : FRow × Nat => p.1.getLastD (0, 1))]; simp
      · cases h
  · cases h
theorem lev_ok {M : Int} {m : Nat} {us : List Tie} {row out : List Fr} {fin : Int} (h : levP m us row fin = some out) (hM : M = m) (hz : us.length ≤ 1000) (hm : m ≤ 20) (hr : row.length = m) :
    Wp (m_levels_by [.sh (webD M us), .sh (.lst (row.map frD)), .sh (.int fin)]) (fun ds _ => ds = out.map frD) NoE := by
  unfold levP at h
  simp only at h
  rw [show ((ptsP m).filter fun p => p != fin) = othP m fin from rfl] at h
  have hol := othP_len (m := m) (fin := fin)
  rw [show ((othP m fin).map fun h => (othP m fin).map fun t => ((matP us h t, 1) : Fr)) = rowsP m us fin from rfl, show ((othP m fin).map fun p => row.getD p.toNat (0, 1)) = dueP m row fin from rfl] at h
  split at h
  · cases h
  · rename_i told ht
    have hout := Option.some.inj h
    clear h
    unfold m_levels_by b_levels_by
    rw [wp_runF, wp_seq]
    simp [full, wp_cCall, shs, noOw]
    refine ⟨by simp [inR]; omega, ?_⟩
    rw [show M.toNat = m by omega, rangeD_pts]
    refine compL_flt (f := D.int) (enc := D.int) (pr := fun p => p != fin) (fun ρ => ∃ c4, ρ = [.sh (webD M us), .sh (.lst (row.map frD)), .sh (.int fin), .no, c4, .no, .no, .no, .no, .no, .no, .no]) (by rw [ptsP_len]; omega) ⟨_, rfl⟩ ?_ ?_
    · rintro x ρ hx ⟨c4, rfl⟩
      simp [wipeR, isRf]
      by_cases e : x = fin <;> simp [e]
    rintro ρ ⟨c4, rfl⟩
    rw [show ((ptsP m).filter fun p => p != fin) = othP m fin from rfl]
    simp [restR, isRf]
    rw [go_seq]
    simp [wp_cCallF, shs]
    refine (matrix_ok hM hz (by omega)).qL ?_
    intro ρ
    rw [go_seq]
    simp [noOw]
    refine compL_sim (ys := rowsP m us fin) (enc := rowD) (fun ρ => ∃ c7 c8, OkC c7 ∧ ρ = [.sh (webD M us), .sh (.lst (row.map frD)), .sh (.int fin), .sh (.lst ((othP m fin).map D.int)), .no, .sh (tabD m us), .no, c7, c8, .no, .no, .no]) ?_ (le_size (by rw [rowsP_len]; omega)) ?_ ?_ ?_
    · rw [List.length_map, rowsP_len]
    · exact ⟨.no, .no, okC_no, rfl⟩
    · rintro j d y ρ hj hy ⟨c7, c8, i7, rfl⟩
      unfold rowsP at hy
      rw [List.getElem?_map] at hj hy
      obtain ⟨here, hh, rfl⟩ := Option.map_eq_some_iff.mp hj
      rw [hh] at hy
      cases hy
      obtain ⟨k, hk, rfl⟩ := othP_mem (List.mem_of_getElem? hh)
      have ha : atI ((ptsP m).map fun one => D.lst (intsD (matRow m us one))) (k : Int) = some (.lst (intsD (matRow m us k))) := atI_get (by rw [List.getElem?_map, ptsP_get hk]; rfl)
      simp [wipeR, isRf]
      refine ⟨by rcases i7 with rfl | ⟨d, rfl⟩ <;> simp [noOw], ?_⟩
      refine compL_sim (ys := (othP m fin).map fun t => ((matP us k t, 1) : Fr)) (enc := frD) (fun ρ => ∃ c7, OkC c7 ∧ ρ = [.sh (webD M us), .sh (.lst (row.map frD)), .sh (.int fin), .sh (.lst ((othP m fin).map D.int)), .no, .sh (tabD m us), .no, c7, .sh (.int k), .no, .no, .no]) ?_ (le_size (by rw [List.length_map]; omega)) ?_ ?_ ?_
      · rw [List.length_map, List.length_map]
      · exact ⟨c7, i7, rfl⟩
      · rintro j2 d y ρ hj hy ⟨c7, i7, rfl⟩
        rw [List.getElem?_map] at hj hy
        obtain ⟨there, hh2, rfl⟩ := Option.map_eq_some_iff.mp hj
        rw [hh2] at hy
        cases hy
        obtain ⟨k2, hk2, rfl⟩ := othP_mem (List.mem_of_getElem? hh2)
        have ha2 : atI (intsD (matRow m us k)) (k2 : Int) = some (.int (matP us k k2)) := atI_get (by unfold intsD matRow; rw [List.getElem?_map, List.getElem?_map, ptsP_get hk2]; rfl)
        simp [wipeR, isRf, ha, ha2, frD]
        exact okC_sh
      · rintro ρ ⟨c7', i7', rfl⟩
        simp [restR]
        exact ⟨by simp [rowD], i7⟩
    rintro ρ ⟨c7, c8, i7, rfl⟩
    simp [restR, isRf]
    rw [go_seq]
    simp [wp_cCall, shs, noOw]
    refine compL_sim (ys := dueP m row fin) (enc := frD) (fun ρ => ∃ c4, OkC c4 ∧ ρ = [.sh (webD M us), .sh (.lst (row.map frD)), .sh (.int fin), .sh (.lst ((othP m fin).map D.int)), c4, .sh (tabD m us), .sh (.lst ((rowsP m us fin).map rowD)), c7, .no, .no, .no, .no]) ?_ (le_size (by rw [dueP_len]; omega)) ?_ ?_ ?_
    · rw [List.length_map, dueP_len]
    · exact ⟨.no, okC_no, rfl⟩
    · rintro j d y ρ hj hy ⟨c4, i4, rfl⟩
      unfold dueP at hy
      rw [List.getElem?_map] at hj hy
      obtain ⟨p, hp, rfl⟩ := Option.map_eq_some_iff.mp hj
      rw [hp] at hy
      cases hy
      obtain ⟨k, hk, rfl⟩ := othP_mem (List.mem_of_getElem? hp)
      have hkr : k < row.length := by omega
      have ha : atI (row.map frD) (k : Int) = some (frD row[k]) := atI_get (by rw [List.getElem?_map, List.getElem?_eq_getElem hkr]; rfl)
      simp [wipeR, i4.rf, ha, List.getD, hkr]
      exact okC_sh
    rintro ρ ⟨c4, i4, rfl⟩
    simp [restR]
    refine (solved_ok ht (by rw [rowsP_len]; omega) (fun r hr => by rw [rowsP_in hr]; omega) (by omega)).q ?_
    intro ρ
    rw [go_seq]
    simp [wp_cCall, shs]
    have hsz : m ≤ sizeLine := le_size (by omega)
    refine ⟨⟨by omega, by omega, by omega⟩, ?_⟩
    rw [go_seq]
    have htl := solved_len ht
    simp [rowD]
    refine ⟨_, _, ⟨rfl, rfl⟩, by simp [htl], ?_⟩
    rw [zipD_map, show M.toNat = m by omega]
    refine forL_inv (fun k ρ => ∃ c4 c11, OkC c4 ∧ OkC c11 ∧ ρ = [.sh (webD M us), .sh (.lst (row.map frD)), .sh (.int fin), .sh (.lst ((othP m fin).map D.int)), c4, .sh (tabD m us), .sh (.lst ((rowsP m us fin).map rowD)), c7, .no, .sh (.lst (told.map frD)), .ow (.lst (((((othP m fin).zip told).take k).foldl (fun f p => f.set p.1.toNat p.2) (List.replicate m ((0, 1) : Fr))).map frD)), c11]) 0 ?_ ?_ ?_
    · exact ⟨.no, .no, okC_no, okC_no, by simp [frD]⟩
    · rintro j d ρ hj ⟨c4, c11, i4, i11, rfl⟩
      rw [List.getElem?_map] at hj
      obtain ⟨⟨p, lev⟩, hp, rfl⟩ := Option.map_eq_some_iff.mp hj
      obtain ⟨k, hk, rfl⟩ := othP_mem (List.of_mem_zip (List.mem_of_getElem? hp)).1
      have hz2 : ((((othP m fin).zip told).take (0 + j)).foldl (fun f p => f.set p.1.toNat p.2) (List.replicate m ((0, 1) : Fr))).length = m := by
        rw [fold_len (g := fun p : Int × Fr => p.1.toNat) (h := fun p : Int × Fr => p.2)]; simp
      rw [foldl_take (show ((othP m fin).zip told)[0 + j]? = some ((k : Int), lev) by rw [Nat.zero_add]; exact hp)]
      generalize (((othP m fin).zip told).take (0 + j)).foldl (fun f p => f.set p.1.toNat p.2) (List.replicate m ((0, 1) : Fr)) = ans at hz2 ⊢
      simp [i4.rf, i11.rf]
      refine ⟨⟨_, rfl⟩, _, rfl, k, by simp [ixN, hz2, hk], _, okC_sh, _, okC_sh, rfl⟩
    · rintro ρ ⟨c4, c11, i4, i11, rfl⟩
      rw [then_nx, go_iff, Nat.zero_add, List.length_map, List.take_length, hout]
      simp
      rfl
end
end PyD

set_option Elab.async false
set_option linter.all false
set_option maxRecDepth 100000
set_option maxHeartbeats 2000000
namespace PyD
open PySem PySem.Spec L2
open PyProof.Rows hiding St
section
variable {QF : Fl → Rho → Prop} {QL : List D → Rho → Prop} {Q : D → Rho → Prop} {E : Nat → D → Prop} {ρ : Rho} {fa fb : Ev}
theorem unitP_len {m : Nat} {one other : Int} : (unitP m one other).length = m := by simp [unitP, ptsP]
theorem lev_len {m : Nat} {us : List Tie} {row out : List Fr} {fin : Int} (h : levP m us row fin = some out) : out.length = m := by
  unfold levP at h
  simp only at h
  split at h
  · cases h
  · cases h
    rw [fold_len (g := fun p : Int × Fr => p.1.toNat) (h := fun p : Int × Fr => p.2)]; simp
theorem btw_ok {M : Int} {m : Nat} {us : List Tie} {one other : Int} {f : Fr} (h : btwP m us one other = some f) (hM : M = m) (hz : us.length ≤ 1000) (hm : m ≤ 20) (h0 : 0 ≤ one) :
    Wp (m_between_by [.sh (webD M us), .sh (.int one), .sh (.int other)]) (fun d _ => d = frD f) NoE := by
  unfold btwP at h
  unfold m_between_by b_between_by
  rw [wp_runD]
  simp [full]
  by_cases e : one = other
  · rw [if_pos e] at h
    cases h
    simp [e, frD]
  · rw [if_neg e] at h
    split at h
    · cases h
    · rename_i l hl
      simp [e, wp_cCallF, shs]
      unfold m_between_levels b_between_levels
      rw [wp_runF]
      simp [full, wp_cCallF, shs]
      refine (unit_ok hM (by omega)).qL ?_
      intro ρ
      refine (lev_ok hl hM hz hm unitP_len).qL ?_
      intro ρ
      have ha : atI (l.map frD) one = some (frD f) := by
        have : ((one.toNat : Nat) : Int) = one := by omega
        rw [← this]
        exact atI_get (by rw [List.getElem?_map, h]; rfl)
      simp [ha]
/-! single ties -/
theorem singles_ok {M : Int} {us : List Tie} (hz : us.length ≤ 100) (hx : ∀ t ∈ us, 0 ≤ t.2.2 ∧ t.2.2 ≤ 9) : Wp (m_single_ties [.sh (webD M us)]) (fun ds _ => ds = (sglP us).map pairD) NoE := by
  unfold m_single_ties b_single_ties
  rw [wp_runF]
  simp [full, wp_cCall, shs, noOw]
  have key : ∀ (us : List Tie) (acc : List D) (c0 c1 c2 c3 c4 : Cell), (∀ t ∈ us, 0 ≤ t.2.2 ∧ t.2.2 ≤ 9) → acc.length + 9 * us.length ≤ 1000 →
      Wp (compL2 [1, 2, 3, 4] [4] (gT 3 (gConsD (gN 1) (gConsD (gN 2) (gConsD (gN 3) gNilD)))) cYes (cRng1 (cCons (cV 3) cNil)) (gN 4) cYes (cTup (cCons (cV 1) (cCons (cV 2) cNil))) (tiesD us) acc [c0, c1, c2, c3, c4])
        (fun ds _ => ds = acc ++ (sglP us).map pairD) NoE := by
    intro us
    induction us with
    | nil =>
      intro acc c0 c1 c2 c3 c4 _ _
      show Wp (compL2 _ _ _ _ _ _ _ _ [] acc _) _ _
      unfold compL2
      rw [wp_ok]
      simp [sglP]
    | cons t us ih =>
      intro acc c0 c1 c2 c3 c4 hx hl
      obtain ⟨l, h, x⟩ := t
      obtain ⟨x0, x9⟩ := hx _ List.mem_cons_self
      simp only at x0 x9
      rw [List.length_cons] at hl
      show Wp (compL2 _ _ _ _ _ _ _ _ (tieD (l, h, x) :: tiesD us) acc _) _ _
      unfold compL2
      rw [wg_bind]
      simp [tieD, wipeR, isRf, wp_bind]
      refine ⟨by simp [inR]; omega, ?_⟩
      refine compL_inv (fun k acc' ρ => acc' = acc ++ List.replicate k (pairD (l, h)) ∧ ∃ c4, ρ = [c0, .sh (.int l), .sh (.int h), .sh (.int x), c4]) 0 ⟨by simp, _, rfl⟩ ?_ ?_
      · rintro j d acc' ρ hj ⟨rfl, c4, rfl⟩
        have hj2 : j < x.toNat := by
          have := (List.getElem?_eq_some_iff.mp hj).1
          simpa [rangeD] using this
        simp [wipeR, isRf]
        refine ⟨lt_size (by omega), ?_⟩
        rw [List.replicate_succ']
        rfl
      · rintro acc' ρ ⟨rfl, c4, rfl⟩
        rw [Nat.zero_add, rangeD_length]
        refine (ih (acc ++ List.replicate x.toNat (pairD (l, h))) _ _ _ _ _ (fun t ht => hx t (List.mem_cons_of_mem _ ht)) (by rw [List.length_append, List.length_replicate]; omega)).imp ?_ fun _ _ z => z
        rintro ds ρ rfl
        simp [sglP]
  refine (key us [] _ _ _ _ _ hx (by simp; omega)).imp ?_ fun _ _ z => z
  rintro ds ρ rfl
  simp
end
end PyD

set_option Elab.async false
set_option linter.all false
set_option maxRecDepth 100000
namespace PyD
open PySem PySem.Spec L2
open PyProof.Rows hiding St
/-- a web as the law makes it -/
structure Web (many : Int) (us : List Tie) : Prop where
  rows : Rows many 9 us
  asc : Asc us
  len : us.length ≤ 14
  m1 : 1 ≤ many
  m7 : many ≤ 7
theorem Web.is {many : Int} {us : List Tie} (h : Web many us) : IsWeb many us := isWeb_of h.rows h.asc h.m1 h.m7
theorem Web.rb {many : Int} {us : List Tie} (h : Web many us) : Rb (webD many us) 6 4000 :=
  rb_w ((Rb.int (w := 100) (by have := h.m1; have := h.m7; omega) (by decide)).mono (Nat.le_refl _) (by decide)) ((rb_ties h.rows (by have := h.m7; omega) (by have := h.len; omega)).mono (by decide) (by decide))
theorem no_web_ok {a s c n many : Int} {us : List Tie} (w : Web many us) (g : GenOk a s c n) (hn : n + 3 < 2 ^ 60) :
    Wp (m_law_no_web [.rf (gen a s c), .sh (webD many us)]) (fun d ρ => Odd d ∧ ∃ a' c', ρ = [.rf (gen a' s c'), .sh (webD many us)] ∧ GenOk a' s c' (n + 3)) NoE := by
  unfold m_law_no_web b_law_no_web
  rw [wp_runD, wp_seq]
  simp [full]
  rw [wp_callR]
  simp [lent1, shs]
  refine (bad_web_ok g hn w.m1 w.m7).imp ?_ fun _ _ h => h.elim
  rintro d ρ ⟨hd, a', c', rfl, g'⟩
  have ho := odds_ok w.rows w.asc (by have := w.len; omega) w.m1 w.m7 d hd
  refine ⟨gen a' s c', ⟨_, rfl⟩, _, rfl, rfl, ?_⟩
  rw [go_iff]
  simp [setK, sameKind, wp_cCall, shs]
  refine ho.law.imp ?_ fun _ _ h => h.elim
  rintro r ρ ⟨b, rfl⟩
  cases b
  · simp [outCells, outCell]
    exact ⟨ho, a', c', rfl, g'⟩
  · simp [outCells, outCell]
    exact ⟨ok_1, a', c', rfl, g'⟩
section
variable {Q : D → Rho → Prop} {E : Nat → D → Prop} {many : Int} {us : List Tie} {d : D}
theorem check_ok (w : Web many us) (q : ∀ ρ, Q .non ρ) : Wp (m_check_web [.sh (webD many us)]) Q E := by
  unfold m_check_web b_check_web
  rw [wp_runD]
  simp [full, wp_cCall, shs]
  refine (isweb_all (by have := w.len; omega)).imp ?_ fun _ _ h => h.elim
  rintro d ρ rfl
  simp [w.is, q]
theorem check_bad (h : Odd d) (e : E 0 d) : Wp (m_check_web [.sh d]) Q E := by
  unfold m_check_web b_check_web
  rw [wp_runD]
  simp [full, wp_cCall, shs]
  refine h.no.imp ?_ fun _ _ h => h.elim
  rintro d ρ rfl
  simp [isSh, e]
end
end PyD

set_option Elab.async false
set_option linter.all false
set_option maxRecDepth 100000
set_option maxHeartbeats 2000000
namespace PyD
open PySem PySem.Spec L2
open PyProof.Rows hiding St
section
variable {QF : Fl → Rho → Prop} {QL : List D → Rho → Prop} {Q : D → Rho → Prop} {E : Nat → D → Prop} {ρ : Rho} {fa fb : Ev}
theorem point_ok {M p : Int} {us : List Tie} (h0 : 0 ≤ p) (h1 : p < M) (q : ∀ ρ, Q .non ρ) : Wp (m_check_point [.sh (webD M us), .sh (.int p)]) Q E := by
  unfold m_check_point b_check_point
  rw [wp_runD]
  simp [full, wp_cCall, shs]
  unfold m_is_point_by b_is_point_by
  rw [wp_runD]
  simp [full, wp_cCall, shs, h0, h1, q]
theorem stands_ok {M : Int} {m : Nat} {us : List Tie} {one other : Int} {f : Fr} (w : Web M us) (h : btwP m us one other = some f) (hM : M = m) (h0 : 0 ≤ one ∧ one < M) (h1 : 0 ≤ other ∧ other < M) :
    Wp (m_stands_between [.sh (webD M us), .sh (.int one), .sh (.int other)]) (fun d _ => d = frD f) NoE := by
  have hl := w.len
  have hm7 := w.m7
  unfold m_stands_between b_stands_between
  rw [wp_runD, wp_seq]
  simp [full, wp_cCall, shs]
  refine check_ok w fun ρ => ?_
  rw [go_seq]
  simp [wp_cCall, shs]
  refine point_ok h0.1 h0.2 fun ρ => ?_
  rw [go_seq]
  simp [wp_cCall, shs]
  refine point_ok h1.1 h1.2 fun ρ => ?_
  rw [go_iff]
  simp [wp_cCall, shs]
  refine (btw_ok h hM (by omega) (by omega) h0.1).q ?_
  intro ρ
  rfl
theorem tie_ok2 {M : Int} {us : List Tie} {n : Nat} (w : Web M us) (hn : n < (sglP us).length) (q : ∀ ρ, Q .non ρ) : Wp (m_check_tie [.sh (webD M us), .sh (.int n)]) Q E := by
  have hl := w.len
  have hx : ∀ t ∈ us, 0 ≤ t.2.2 ∧ t.2.2 ≤ 9 := fun t ht => by obtain ⟨_, _, _, a, b⟩ := w.rows.ok t ht; omega
  unfold m_check_tie b_check_tie
  rw [wp_runD]
  simp [full, wp_cCall, wp_cCallF, shs, wp_cCh]
  refine (singles_ok (by omega) hx).qL ?_
  intro ρ
  simp [hn, q]
theorem share_ok {M : Int} {m : Nat} {us : List Tie} {n : Nat} {p : Int × Int} {f : Fr} (w : Web M us) (hp : (sglP us)[n]? = some p) (h : btwP m us p.1 p.2 = some f) (hM : M = m) (h0 : 0 ≤ p.1) :
    Wp (m_tie_share [.sh (webD M us), .sh (.int n)]) (fun d _ => d = frD f) NoE := by
  have hl := w.len
  have hm7 := w.m7
  have hx : ∀ t ∈ us, 0 ≤ t.2.2 ∧ t.2.2 ≤ 9 := fun t ht => by obtain ⟨_, _, _, a, b⟩ := w.rows.ok t ht; omega
  have hn := (List.getElem?_eq_some_iff.mp hp).1
  unfold m_tie_share b_tie_share
  rw [wp_runD, wp_seq]
  simp [full, wp_cCall, shs]
  refine check_ok w fun ρ => ?_
  rw [go_seq]
  simp [wp_cCall, shs]
  refine tie_ok2 w hn fun ρ => ?_
  rw [go_seq]
  simp [wp_cCallF, shs]
  refine (singles_ok (by omega) hx).qL ?_
  intro ρ
  have ha : atI ((sglP us).map pairD) (n : Int) = some (pairD p) := atI_get (by rw [List.getElem?_map, hp]; rfl)
  simp [ha, pairD, isRf]
  rw [go_iff]
  simp [wp_cCall, shs]
  refine (btw_ok h hM (by omega) (by omega) h0).q ?_
  intro ρ
  rfl
end
end PyD

set_option Elab.async false
set_option linter.all false
set_option maxRecDepth 100000
set_option maxHeartbeats 2000000
namespace PyD
open PySem PySem.Spec L2
open PyProof.Rows hiding St
section
variable {QF : Fl → Rho → Prop} {QL : List D → Rho → Prop} {Q : D → Rho → Prop} {E : Nat → D → Prop} {ρ : Rho} {fa fb : Ev}
theorem frc_ok {t u : Int} {f : Fr} (h : frcP t u = some f) : Wp (m_law_frac [.sh (.int t), .sh (.int u)]) (fun d _ => d = frD f) NoE := by
  unfold frcP at h
  simp only at h
  split at h
  · rename_i hc
    cases h
    obtain ⟨hu, hg, hl⟩ := hc
    unfold m_law_frac b_law_frac
    rw [wp_runD, wp_seq]
    simp [full, and_assoc, isRf, gAbs]
    rw [go_seq]
    simp
    have habs : ∀ i : Int, (if i < 0 then -i else i) = (i.natAbs : Int) := fun i => by split <;> omega
    rw [habs t]
    refine whileN_inv (fun m ρ => ∃ x : Nat, ρ = [.sh (.int t), .sh (.int u), .sh (.int x), .sh (.int m)] ∧ Nat.gcd x m = Int.gcd u t) ?_ _ t.natAbs _ (by simp) ⟨u.natAbs, by rw [show ((u.natAbs : Nat) : Int) = u by omega], rfl⟩
    rintro m ρ ⟨x, rfl, hgg⟩
    simp
    rcases Nat.eq_zero_or_pos m with hm | hm
    · subst hm
      refine .inl ⟨rfl, ?_⟩
      rw [go_iff]
      have hx : x = Int.gcd u t := by rw [← hgg]; simp
      subst hx
      simp [frD]
      exact ⟨by simpa using hg, by simpa using hl⟩
    · have h0 : (0 : Int) < m := by omega
      refine .inr ⟨hm, .int ((x : Int) % m), gMod_int h0, x % m, Nat.mod_lt _ hm, m, ⟨rfl, by simp⟩, ?_⟩
      rw [← hgg, Nat.gcd_comm m (x % m), ← Nat.gcd_rec m x, Nat.gcd_comm]
  · cases h
theorem add_ok {a b f : Fr} (h : addP a b = some f) : Wp (m_law_add [.sh (frD a), .sh (frD b)]) (fun d _ => d = frD f) NoE := by
  unfold addP at h
  split at h
  · rename_i hs
    rw [Bool.and_eq_true] at hs
    obtain ⟨h1, h2⟩ := smF_ok hs.1
    obtain ⟨h3, h4⟩ := smF_ok hs.2
    unfold m_law_add b_law_add
    rw [wp_runD]
    simp [full, frD, atI, ixN, wp_cCall, shs]
    refine ⟨_, ⟨by omega, rfl⟩, _, ⟨by omega, rfl⟩, _, rfl, _, ⟨by omega, rfl⟩, (frc_ok h).q ?_⟩
    intro ρ
    rfl
  · cases h
end
end PyD

set_option Elab.async false
set_option linter.all false
set_option maxRecDepth 100000
set_option maxHeartbeats 2000000
namespace PyD
open PySem PySem.Spec L2
open PyProof.Rows hiding St
section
variable {QF : Fl → Rho → Prop} {QL : List D → Rho → Prop} {Q : D → Rho → Prop} {E : Nat → D → Prop} {ρ : Rho} {fa fb : Ev}
theorem addIf_len {l : List Int} {x y : Int} : (addIf l x y).length ≤ l.length + 1 := by unfold addIf; split <;> simp
theorem hangRow_take {ps : List (Int × Int)} : ∀ (k : Nat) (l : List Int) (p : Int × Int), ps[k]? = some p → hangRow l (ps.take (k + 1)) = addIf (addIf (hangRow l (ps.take k)) p.1 p.2) p.2 p.1 := by
  have app : ∀ (xs : List (Int × Int)) (l : List Int) (p : Int × Int), hangRow l (xs ++ [p]) = addIf (addIf (hangRow l xs) p.1 p.2) p.2 p.1 := by
    intro xs
    induction xs with
    | nil => intro l p; rfl
    | cons x xs ih => intro l p; exact ih _ p
  intro k l p h
  rw [take_next h, app]
theorem hangN_succ {ps : List (Int × Int)} : ∀ (n : Nat) (l : List Int), hangN ps (n + 1) l = hangRow (hangN ps n l) ps
  | 0, l => rfl
  | n + 1, l => hangN_succ n (hangRow l ps)
theorem hangRow_len {ps : List (Int × Int)} : ∀ (l : List Int), (hangRow l ps).length ≤ l.length + 2 * ps.length := by
  induction ps with
  | nil => intro l; simp [hangRow]
  | cons p ps ih =>
    intro l
    have h1 := ih (addIf (addIf l p.1 p.2) p.2 p.1)
    have h2 := addIf_len (l := addIf l p.1 p.2) (x := p.2) (y := p.1)
    have h3 := addIf_len (l := l) (x := p.1) (y := p.2)
    simp only [hangRow, List.length_cons]
    omega
theorem hangN_len {ps : List (Int × Int)} : ∀ (n : Nat) (l : List Int), (hangN ps n l).length ≤ l.length + n * (2 * ps.length)
  | 0, l => by simp [hangN]
  | n + 1, l => by
    have h1 := hangN_len (ps := ps) n (hangRow l ps)
    have h2 := hangRow_len (ps := ps) l
    have h3 : (n + 1) * (2 * ps.length) = n * (2 * ps.length) + 2 * ps.length := by rw [Nat.add_mul, Nat.one_mul]
    simp only [hangN]
    omega
theorem hang_ok {M : Int} {m : Nat} {ps : List (Int × Int)} (hM : M = m) (hm : m ≤ 7) (hp : ps.length ≤ 20) :
    Wp (m_law_hang [.sh (.int M), .sh (.lst (ps.map pairD))]) (fun d _ => d = .bl (hangP m ps)) NoE := by
  have hb : ∀ k, k ≤ 7 → (hangN ps k [0]).length ≤ 300 := fun k hk => by
    have h1 := hangN_len (ps := ps) k [0]
    have h2 : k * (2 * ps.length) ≤ 7 * 40 := Nat.mul_le_mul hk (by omega)
    simp at h1
    omega
  unfold m_law_hang b_law_hang
  rw [wp_runD, wp_seq]
  simp [full]
  rw [go_seq]
  simp
  refine ⟨by simp [inR]; omega, ?_⟩
  refine forL_inv (fun k ρ => ∃ x y z, ρ = [.sh (.int M), .sh (.lst (ps.map pairD)), .sh (.lst (intsD (hangN ps k [0]))), x, y, z] ∧ isRf x = false ∧ isRf y = false ∧ isRf z = false) 0 ?_ ?_ ?_
  · exact ⟨.no, .no, .no, rfl, rfl, rfl, rfl⟩
  · rintro k d ρ hk ⟨x, y, z, rfl, hx, hy, hz⟩
    obtain ⟨hlt, rfl⟩ := rangeD_get hk
    have hkm : k < m := by omega
    simp [hx]
    refine forL_inv (fun j ρ => ∃ x y z, ρ = [.sh (.int M), .sh (.lst (ps.map pairD)), .sh (.lst (intsD (hangRow (hangN ps k [0]) (ps.take j)))), x, y, z] ∧ isRf x = false ∧ isRf y = false ∧ isRf z = false) 0 ?_ ?_ ?_
    · exact ⟨_, y, z, rfl, rfl, hy, hz⟩
    · rintro j d ρ hj ⟨x, y, z, rfl, hx, hy, hz⟩
      rw [List.getElem?_map] at hj
      obtain ⟨⟨one, other⟩, hpj, rfl⟩ := Option.map_eq_some_iff.mp hj
      have hl : (hangRow (hangN ps k [0]) (ps.take (0 + j))).length ≤ 500 := by
        have h1 := hangRow_len (ps := ps.take (0 + j)) (hangN ps k [0])
        have h2 := hb k (by omega)
        have h3 : (ps.take (0 + j)).length ≤ ps.length := List.length_take_le' _ _
        omega
      simp [pairD, hy, hz]
      rw [wp_seq]
      have hl1 := addIf_len (l := hangRow (hangN ps k [0]) (ps.take (0 + j))) (x := one) (y := other)
      rw [Nat.zero_add] at hl hl1
      refine law_add rfl rfl rfl (by omega) ?_
      rw [then_nx, go_iff]
      refine law_add rfl rfl rfl (by omega) ?_
      rw [turn_nx, hangRow_take j _ _ hpj]
      exact ⟨_, _, _, rfl, hx, rfl, rfl⟩
    · rintro ρ ⟨x, y, z, rfl, hx, hy, hz⟩
      simp only [turn_nx]
      rw [Nat.zero_add, List.length_map, List.take_length, ← hangN_succ]
      exact ⟨x, y, z, rfl, hx, hy, hz⟩
  · rintro ρ ⟨x, y, z, rfl, hx, hy, hz⟩
    simp only [then_nx]
    rw [go_iff, Nat.zero_add, rangeD_length, show M.toNat = m by omega]
    have e : (intsD (hangN ps m [0])).length = (hangN ps m [0]).length := by simp [intsD]
    simp [e, hangP, hM]
    rw [Bool.eq_iff_iff, beq_iff_eq, decide_eq_true_eq]
    omega
theorem rows_of_map {α : Type} {f : α → List D} : ∀ (xs : List α), rowsOf (xs.map fun x => .lst (f x)) = some (xs.map f)
  | [] => rfl
  | x :: xs => by simp [rowsOf, rows_of_map xs]
theorem law_singles_ok {M : Int} {us : List Tie} (hz : us.length ≤ 100) (hx : ∀ t ∈ us, 0 ≤ t.2.2 ∧ t.2.2 ≤ 9) : Wp (m_law_singles [.sh (webD M us)]) (fun d _ => d = .lst ((sglP us).map pairD)) NoE := by
  unfold m_law_singles b_law_singles
  rw [wp_runD]
  simp [full, noOw, webD, atI_3]
  refine compL_sim (ys := us.map fun t => List.replicate t.2.2.toNat (pairD (t.1, t.2.1))) (enc := D.lst) (fun ρ => ∃ c1 c2 c3, ρ = [.sh (webD M us), c1, c2, c3]) ?_ (le_size (by rw [List.length_map]; omega)) ?_ ?_ ?_
  · simp [tiesD]
  · exact ⟨_, _, _, rfl⟩
  · rintro j d y ρ hj hy ⟨c1, c2, c3, rfl⟩
    unfold tiesD at hj
    rw [List.getElem?_map] at hj hy
    obtain ⟨⟨l, h, x⟩, hp, rfl⟩ := Option.map_eq_some_iff.mp hj
    rw [hp] at hy
    cases hy
    obtain ⟨x0, x9⟩ := hx _ (List.mem_of_getElem? hp)
    simp only at x0 x9
    simp [wipeR, isRf, tieD]
    rw [gMul_lst ⟨by omega, by omega, le_size (by simp; omega)⟩]
    simp [pairD]
  · rintro ρ ⟨c1, c2, c3, rfl⟩
    simp [restR]
    have hs : ∀ us : List Tie, (∀ t ∈ us, 0 ≤ t.2.2 ∧ t.2.2 ≤ 9) → ((us.map fun t => List.replicate t.2.2.toNat (pairD (t.1, t.2.1))).map List.length).sum ≤ 9 * us.length := by
      intro us
      induction us with
      | nil => intro _; simp
      | cons t us ih =>
        intro hx
        have h1 := ih fun t ht => hx t (List.mem_cons_of_mem _ ht)
        have h2 := hx t List.mem_cons_self
        simp only [List.map_cons, List.sum_cons, List.length_cons, List.length_replicate]
        omega
    have h1 := hs us hx
    have e : rowsOf (us.map (D.lst ∘ fun t => List.replicate t.2.2.toNat (pairD (t.1, t.2.1)))) = some (us.map fun t => List.replicate t.2.2.toNat (pairD (t.1, t.2.1))) := rows_of_map us
    simp only [gSumL, e, Option.bind_some]
    rw [if_pos (le_size (by simp only [List.length_nil]; omega))]
    simp [sglP, List.map_flatten, Function.comp_def]
end
end PyD

set_option Elab.async false
set_option linter.all false
set_option maxRecDepth 100000
set_option maxHeartbeats 2000000
namespace PyD
open PySem PySem.Spec L2
open PyProof.Rows hiding St
section
variable {QF : Fl → Rho → Prop} {QL : List D → Rho → Prop} {Q : D → Rho → Prop} {E : Nat → D → Prop} {ρ : Rho} {fa fb : Ev}
def lotD (l : List Nat) : D := .lst (natsD l)
theorem lotsP_len : ∀ n, (lotsP n).length = 2 ^ n
  | 0 => rfl
  | n + 1 => by simp [lotsP, lotsP_len n]; omega
theorem lotsP_in : ∀ (n : Nat) (l : List Nat), l ∈ lotsP n → l.length ≤ n ∧ ∀ x ∈ l, x < n
  | 0, l, h => by
    have : l = [] := by simpa [lotsP] using h
    subst this
    simp
  | n + 1, l, h => by
    simp only [lotsP, List.mem_append, List.mem_map] at h
    rcases h with h | ⟨l2, h, rfl⟩
    · obtain ⟨a, b⟩ := lotsP_in n l h
      exact ⟨by omega, fun x hx => by have := b x hx; omega⟩
    · obtain ⟨a, b⟩ := lotsP_in n l2 h
      refine ⟨by simp; omega, fun x hx => ?_⟩
      rcases List.mem_append.mp hx with hx | hx
      · have := b x hx; omega
      · have : x = n := by simpa using hx
        omega
/-- what the law's lots are: those of each size, in some order -/
def LotsOk (n s : Nat) (L : List (List Nat)) : Prop := (∀ l ∈ L, l.length < s) ∧ ∀ k, k < s → (L.filter fun l => l.length == k).Perm ((lotsP n).filter fun l => l.length == k)
theorem LotsOk.step {n s : Nat} {L : List (List Nat)} {le : List Nat → List Nat → Bool} (h : LotsOk n s L) : LotsOk n (s + 1) (L ++ ((lotsP n).filter fun l => l.length == s).mergeSort le) := by
  have hp := List.mergeSort_perm ((lotsP n).filter fun l => l.length == s) le
  refine ⟨fun l hl => ?_, fun k hk => ?_⟩
  · rcases List.mem_append.mp hl with hl | hl
    · have := h.1 l hl; omega
    · have := (List.mem_filter.mp (hp.mem_iff.mp hl)).2
      have : l.length = s := by simpa using this
      omega
  · rw [List.filter_append]
    by_cases e : k = s
    · subst e
      have e1 : (L.filter fun l => l.length == k) = [] := List.filter_eq_nil_iff.mpr fun l hl => by have := h.1 l hl; simp; omega
      rw [e1, List.nil_append]
      have := hp.filter (fun l => l.length == k)
      rwa [List.filter_filter, show (fun l : List Nat => (l.length == k && l.length == k)) = fun l => l.length == k by funext l; simp] at this
    · have h1 := h.2 k (by omega)
      have e2 : ((((lotsP n).filter fun l => l.length == s).mergeSort le).filter fun l => l.length == k) = [] := List.filter_eq_nil_iff.mpr fun l hl => by
        have := (List.mem_filter.mp (hp.mem_iff.mp hl)).2
        have : l.length = s := by simpa using this
        simp
        omega
      rw [e2, List.append_nil]
      exact h1
theorem cmp_lot (l : List Nat) : cmpD (lotD l) = true := by unfold lotD; rw [natsD_ints]; exact cmp_ints _
theorem alike_ints : ∀ (l k : List Nat), PySem.W.alikeAll (toPyAll (natsD l)) (toPyAll (natsD k)) = true
  | [], _ => by simp [natsD, toPyAll, PySem.W.alikeAll]
  | _ :: _, [] => by simp [natsD, toPyAll, PySem.W.alikeAll]
  | x :: l, y :: k => by
    have := alike_ints l k
    simp only [natsD] at this
    simp [natsD, toPyAll, toPy, PySem.W.alikeAll, PySem.W.alike, this]
theorem sort_lots {ls : List (List Nat)} (h : ls.length ≤ 1000) : gSort [.lst (ls.map lotD)] = some ((ls.mergeSort fun a b => leD (lotD a) (lotD b)).map lotD) := by
  have h0 : ∀ d ∈ ls.map lotD, ∃ l, d = lotD l := fun d hd => by
    obtain ⟨l, _, rfl⟩ := List.mem_map.mp hd
    exact ⟨l, rfl⟩
  have hk : sortOk (ls.map lotD) = true := by
    unfold sortOk
    rw [Bool.and_eq_true, Bool.and_eq_true, Bool.and_eq_true, Bool.or_eq_true]
    refine ⟨⟨⟨decide_eq_true (le_size (by rw [List.length_map]; omega)), List.all_eq_true.mpr fun d hd => ?_⟩, .inr (List.all_eq_true.mpr fun d hd => ?_)⟩, List.all_eq_true.mpr fun d hd => List.all_eq_true.mpr fun e he => ?_⟩
    · obtain ⟨l, rfl⟩ := h0 d hd; exact cmp_lot l
    · obtain ⟨l, rfl⟩ := h0 d hd; rfl
    · obtain ⟨l, rfl⟩ := h0 d hd
      obtain ⟨k, rfl⟩ := h0 e he
      simp only [lotD, toPy, PySem.W.alike]
      exact alike_ints l k
  show (if sortOk (ls.map lotD) = true then some ((ls.map lotD).mergeSort leD) else none) = _
  rw [if_pos hk]
  have e : (ls.map lotD).mergeSort leD = (ls.mergeSort fun a b => leD (lotD a) (lotD b)).map lotD := by
    symm
    apply List.map_mergeSort
    intro a _ b _
    rfl
  rw [e]
theorem lots_ok {M : Int} {n : Nat} (hM : M = n) (hn : n ≤ 7) : Wp (m_law_lots [.sh (.int M)]) (fun d _ => ∃ L, (LotsOk n (n + 1) L ∧ L.length ≤ 1024) ∧ d = .lst (L.map lotD)) NoE := by
  have h128 : ∀ k, k ≤ 7 → (lotsP k).length ≤ 128 := fun k hk => by
    rw [lotsP_len]; exact Nat.le_trans (Nat.pow_le_pow_right (by decide) hk) (by decide)
  unfold m_law_lots b_law_lots
  rw [wp_runD, wp_seq]
  simp [full, isRf]
  rw [go_seq]
  simp
  refine ⟨by simp [inR]; omega, ?_⟩
  refine forL_inv (fun k ρ => ∃ x y z, ρ = [.sh (.int M), .sh (.lst ((lotsP k).map lotD)), .sh (.lst []), x, y, z] ∧ OkC x ∧ OkC y ∧ OkC z) 0 ⟨.no, .no, .no, rfl, okC_no, okC_no, okC_no⟩ ?_ ?_
  · rintro k d ρ hk ⟨x, y, z, rfl, ix, iy, iz⟩
    obtain ⟨hlt, rfl⟩ := rangeD_get hk
    have h1 := h128 k (by omega)
    simp [ix.rf]
    refine ⟨by rcases iy with rfl | ⟨d, rfl⟩ <;> simp [noOw], ?_⟩
    refine compL_sim (ys := (lotsP k).map fun l => l ++ [k]) (enc := lotD) (fun ρ => ∃ y, OkC y ∧ ρ = [.sh (.int M), .sh (.lst ((lotsP k).map lotD)), .sh (.lst []), .sh (.int k), y, z]) ?_ (le_size (by rw [List.length_map]; omega)) ?_ ?_ ?_
    · rw [List.length_map, List.length_map]
    · exact ⟨y, iy, rfl⟩
    · rintro j d yy ρ hj hy ⟨y, iy, rfl⟩
      rw [List.getElem?_map] at hj hy
      obtain ⟨l, hp, rfl⟩ := Option.map_eq_some_iff.mp hj
      rw [hp] at hy
      cases hy
      have hl := (lotsP_in k l (List.mem_of_getElem? hp)).1
      simp [wipeR, iy.rf, lotD]
      refine ⟨_, ⟨le_size (by simp [natsD]; omega), rfl⟩, by simp [natsD], okC_sh⟩
    · rintro ρ ⟨y', iy', rfl⟩
      simp [restR, -List.map_map]
      refine ⟨_, ⟨le_size (by omega), rfl⟩, _, _, _, ⟨by simp [lotsP], rfl, rfl, rfl⟩, okC_sh, iy, iz⟩
  · rintro ρ ⟨x, y, z, rfl, ix, iy, iz⟩
    rw [then_nx, go_seq, Nat.zero_add, rangeD_length, show M.toNat = n by omega]
    have hL := h128 n hn
    simp
    refine ⟨by simp [inR]; omega, ?_⟩
    refine forL_inv (fun s ρ => ∃ L x y z, LotsOk n s L ∧ L.length ≤ 128 * s ∧ ρ = [.sh (.int M), .sh (.lst ((lotsP n).map lotD)), .sh (.lst (L.map lotD)), x, y, z] ∧ OkC x ∧ OkC y ∧ OkC z) 0 ⟨[], x, y, z, ⟨by simp, by simp⟩, by simp, rfl, ix, iy, iz⟩ ?_ ?_
    · rintro s d ρ hs ⟨L, x, y, z, hL1, hL2, rfl, ix, iy, iz⟩
      obtain ⟨hlt, rfl⟩ := rangeD_get hs
      have hs7 : s ≤ 7 := by omega
      simp [iz.rf]
      refine ⟨by rcases iy with rfl | ⟨d, rfl⟩ <;> simp [noOw], ?_⟩
      refine compL_flt (f := lotD) (enc := lotD) (pr := fun l => l.length == s) (fun ρ => ∃ y, OkC y ∧ ρ = [.sh (.int M), .sh (.lst ((lotsP n).map lotD)), .sh (.lst (L.map lotD)), x, y, .sh (.int s)]) (by omega) ⟨y, iy, rfl⟩ ?_ ?_
      · rintro l ρ hl ⟨y, iy, rfl⟩
        simp [wipeR, iy.rf, lotD, natsD]
        by_cases e : l.length = s
        · exact .inr ⟨by omega, e, okC_sh⟩
        · exact .inl ⟨by omega, e, okC_sh⟩
      · rintro ρ ⟨y', iy', rfl⟩
        have hf : ((lotsP n).filter fun l => l.length == s).length ≤ 128 := Nat.le_trans (List.length_filter_le _ _) hL
        have hso := sort_lots (ls := (lotsP n).filter fun l => l.length == s) (by omega)
        refine ⟨_, hso, ?_⟩
        have hml : (((lotsP n).filter fun l => l.length == s).mergeSort fun a b => leD (lotD a) (lotD b)).length ≤ 128 := by rw [List.length_mergeSort]; exact hf
        rw [Nat.zero_add] at hL1 hL2
        simp [restR]
        refine ⟨_, ⟨le_size (by omega), rfl⟩, L ++ (((lotsP n).filter fun l => l.length == s).mergeSort fun a b => leD (lotD a) (lotD b)), hL1.step, by rw [List.length_append]; omega, _, _, _, ⟨by simp, rfl, rfl, rfl⟩, ix, iy, okC_sh⟩
    · rintro ρ ⟨L, x, y, z, hL1, hL2, rfl, ix, iy, iz⟩
      rw [then_nx, go_iff, Nat.zero_add, rangeD_length, show (M + 1).toNat = n + 1 by omega] at *
      simp
      exact ⟨L, ⟨hL1, by omega⟩, rfl⟩
end
end PyD

set_option Elab.async false
set_option linter.all false
set_option maxRecDepth 100000
set_option maxHeartbeats 2000000
namespace PyD
open PySem PySem.Spec L2
open PyProof.Rows hiding St
section
variable {QF : Fl → Rho → Prop} {QL : List D → Rho → Prop} {Q : D → Rho → Prop} {E : Nat → D → Prop} {ρ : Rho} {fa fb : Ev}
theorem LotsOk.all {n : Nat} {L : List (List Nat)} (h : LotsOk n (n + 1) L) (k : Nat) : (L.filter fun l => l.length == k).Perm ((lotsP n).filter fun l => l.length == k) := by
  by_cases hk : k < n + 1
  · exact h.2 k hk
  · have e1 : (L.filter fun l => l.length == k) = [] := List.filter_eq_nil_iff.mpr fun l hl => by have := h.1 l hl; simp; omega
    have e2 : ((lotsP n).filter fun l => l.length == k) = [] := List.filter_eq_nil_iff.mpr fun l hl => by have := (lotsP_in n l hl).1; simp; omega
    rw [e1, e2]
theorem LotsOk.len {n : Nat} {L : List (List Nat)} (h : LotsOk n (n + 1) L) (k : Nat) : (L.filter fun l => l.length == k).length ≤ 2 ^ n := by
  rw [(h.all k).length_eq, ← lotsP_len n]
  exact List.length_filter_le _ _
theorem trees_ok {M : Int} {m : Nat} {us : List Tie} (hM : M = m) (h1 : 1 ≤ m) (hm : m ≤ 7) (hz : us.length ≤ 100) (hx : ∀ t ∈ us, 0 ≤ t.2.2 ∧ t.2.2 ≤ 9) (hs : (sglP us).length ≤ 7) :
    Wp (m_law_trees [.sh (webD M us)]) (fun ds _ => ∃ T : List (List Nat), T.Perm (treesP m (sglP us)) ∧ ds = T.map lotD) NoE := by
  obtain ⟨N, hN⟩ : ∃ N : Int, N = ((sglP us).length : Int) := ⟨_, rfl⟩
  unfold m_law_trees b_law_trees
  rw [wp_runF, wp_seq]
  simp [full, isRf, wp_cCall, shs]
  refine (law_singles_ok hz hx).q ?_
  intro ρ
  rw [go_seq]
  simp [wp_cCall, shs]
  rewrite [← hN]
  refine (lots_ok hN hs).imp ?_ fun _ _ z => z.elim
  rintro d ρ ⟨L, ⟨hL, hl⟩, rfl⟩
  simp [noOw]
  refine compL_flt (f := lotD) (enc := lotD) (pr := fun l => l.length == m - 1) (fun ρ => ∃ c3, OkC c3 ∧ ρ = [.sh (webD M us), .sh (.lst ((sglP us).map pairD)), .no, c3, .no]) (by omega) ⟨_, okC_no, rfl⟩ ?_ ?_
  · rintro l ρ hml ⟨c3, i3, rfl⟩
    simp [wipeR, i3.rf, lotD, natsD, webD, atI_3]
    by_cases e : l.length = m - 1
    · exact .inr ⟨by omega, e, okC_sh⟩
    · exact .inl ⟨by omega, e, okC_sh⟩
  rintro ρ ⟨c3, i3, rfl⟩
  have hlen := hL.len (m - 1)
  have hpow : 2 ^ (sglP us).length ≤ 128 := Nat.le_trans (Nat.pow_le_pow_right (by decide) hs) (by decide)
  have hperm := hL.all (m - 1)
  generalize hL2 : (L.filter fun l => l.length == m - 1) = L2 at hlen hperm ⊢
  simp [restR, isRf]
  rw [go_iff]
  simp
  refine ⟨by rcases i3 with rfl | ⟨d, rfl⟩ <;> simp [noOw], ?_⟩
  refine compL_flt (f := lotD) (enc := lotD) (pr := fun l => hangP m (l.map fun i => (sglP us).getD i (0, 0))) (fun ρ => ∃ c3 c4, OkC c3 ∧ OkC c4 ∧ ρ = [.sh (webD M us), .sh (.lst ((sglP us).map pairD)), .sh (.lst (L2.map lotD)), c3, c4]) (by omega) ⟨_, _, okC_no, okC_no, rfl⟩ ?_ ?_
  · rintro l ρ hml ⟨c3, c4, i3, i4, rfl⟩
    have hin := lotsP_in _ l (List.mem_filter.mp (hperm.mem_iff.mp hml)).1
    simp [wipeR, i3.rf, wp_cCall, shs, webD, atI_3, lotD]
    refine ⟨by rcases i4 with rfl | ⟨d, rfl⟩ <;> simp [noOw], ?_⟩
    refine compL_sim (ys := l.map fun i => (sglP us)[i]?.getD (0, 0)) (enc := pairD) (fun ρ => ∃ c4, OkC c4 ∧ ρ = [.sh (webD M us), .sh (.lst ((sglP us).map pairD)), .sh (.lst (L2.map lotD)), .sh (.lst (natsD l)), c4]) ?_ (le_size (by rw [List.length_map]; omega)) ?_ ?_ ?_
    · simp [natsD]
    · exact ⟨c4, i4, rfl⟩
    · rintro j d y ρ hj hy ⟨c4, i4, rfl⟩
      unfold natsD at hj
      rw [List.getElem?_map] at hj hy
      obtain ⟨i, hi, rfl⟩ := Option.map_eq_some_iff.mp hj
      rw [hi] at hy
      cases hy
      have hlt := hin.2 i (List.mem_of_getElem? hi)
      have ha : atI ((sglP us).map pairD) (i : Int) = some (pairD (sglP us)[i]) := atI_get (by rw [List.getElem?_map, List.getElem?_eq_getElem hlt]; rfl)
      simp [wipeR, i4.rf, ha, hlt]
      exact okC_sh
    · rintro ρ ⟨c4', i4', rfl⟩
      have hps : (l.map fun i => (sglP us)[i]?.getD (0, 0)).length ≤ 20 := by
        rw [List.length_map]; omega
      generalize (l.map fun i => (sglP us)[i]?.getD (0, 0)) = ps at hps ⊢
      refine (hang_ok hM hm hps).q ?_
      intro ρ
      cases hangP m ps <;> simp [restR, webD, lotD] <;> exact ⟨okC_sh, i4⟩
  · rintro ρ ⟨c3, c4, i3, i4, rfl⟩
    refine ⟨_, ?_, rfl⟩
    exact hperm.filter _
end
end PyD

set_option Elab.async false
set_option linter.all false
set_option maxRecDepth 100000
set_option maxHeartbeats 2000000
namespace PyD
open PySem PySem.Spec L2
open PyProof.Rows hiding St
def ltPr (p q : Int × Int) : Prop := p.1 < q.1 ∨ (p.1 = q.1 ∧ p.2 < q.2)
theorem in_choices : ∀ (U : List (Int × Int)) (us : List Tie), U.Pairwise ltPr → Asc us → (∀ t ∈ us, (t.1, t.2.1) ∈ U ∧ (t.2.2 = 1 ∨ t.2.2 = 2)) → us ∈ choices U
  | [], us, _, _, h => by
    cases us with
    | nil => simp [choices]
    | cons t us => exact absurd (h t List.mem_cons_self).1 (List.not_mem_nil)
  | p :: U, us, hU, ha, h => by
    obtain ⟨hp, hU2⟩ := List.pairwise_cons.mp hU
    simp only [choices, List.mem_append, List.mem_map]
    cases us with
    | nil => exact .inl (.inl (in_choices U [] hU2 ha fun t ht => by cases ht))
    | cons t us =>
      obtain ⟨ht, ha2⟩ := List.pairwise_cons.mp ha
      obtain ⟨l, hh, x⟩ := t
      obtain ⟨h1, h2⟩ := h _ List.mem_cons_self
      simp only at h1 h2 ht
      by_cases e : (l, hh) = p
      · subst e
        have hr : us ∈ choices U := in_choices U us hU2 ha2 fun u hu => by
          obtain ⟨h3, h4⟩ := h u (List.mem_cons_of_mem _ hu)
          refine ⟨?_, h4⟩
          rcases List.mem_cons.mp h3 with h3 | h3
          · have := ht u hu
            have e1 : u.1 = l := congrArg Prod.fst h3
            have e2 : u.2.1 = hh := congrArg Prod.snd h3
            omega
          · exact h3
        rcases h2 with rfl | rfl
        · exact .inl (.inr ⟨us, hr, rfl⟩)
        · exact .inr ⟨us, hr, rfl⟩
      · refine .inl (.inl (in_choices U _ hU2 ha fun u hu => ?_))
        obtain ⟨h3, h4⟩ := h u hu
        refine ⟨?_, h4⟩
        rcases List.mem_cons.mp h3 with h3 | h3
        · have hk : (l, hh) ∈ U := (List.mem_cons.mp h1).resolve_left e
          have hlt := hp _ hk
          rcases List.mem_cons.mp hu with rfl | hu
          · exact absurd h3 e
          · have := ht u hu
            have e1 : u.1 = p.1 := congrArg Prod.fst h3
            have e2 : u.2.1 = p.2 := congrArg Prod.snd h3
            unfold ltPr at hlt
            simp only at hlt
            omega
        · exact h3
end PyD

set_option Elab.async false
set_option linter.all false
set_option maxRecDepth 100000
set_option maxHeartbeats 2000000
namespace PyD
open PySem PySem.Spec L2
open PyProof.Rows hiding St
section
variable {QF : Fl → Rho → Prop} {QL : List D → Rho → Prop} {Q : D → Rho → Prop} {E : Nat → D → Prop} {ρ : Rho} {fa fb : Ev}
/-- a small web: at most four points, numbers 1 and 2 -/
structure SmW (M : Int) (us : List Tie) : Prop where
  w : Web M us
  m4 : M ≤ 4
  two : ∀ t ∈ us, t.2.2 ≤ 2
  hang : AllHang M us
theorem SmW.nine {M : Int} {us : List Tie} (h : SmW M us) : ∀ t ∈ us, 0 ≤ t.2.2 ∧ t.2.2 ≤ 9 := fun t ht => by obtain ⟨_, _, _, a, b⟩ := h.w.rows.ok t ht; omega
open Classical in
theorem hangP_of {M : Int} {m : Nat} {us : List Tie} (hM : M = m) (h : SmW M us) : hangP m (us.map fun t => (t.1, t.2.1)) = true := by
  have h4 := h.m4
  have h1 := h.w.m1
  have hl := h.w.len
  obtain ⟨d, ρ, e, rfl⟩ := (law_hang_ok (us := us) h.w.rows.ok h1 (by omega)).out
  obtain ⟨d2, ρ2, e2, rfl⟩ := (hang_ok (ps := pairsT us) hM (by omega) (by simp [pairsT]; omega)).out
  rw [e] at e2
  have : (decide (AllHang M us)) = hangP m (pairsT us) := by
    have := congrArg (fun r : R (D × Rho) => match r with | .ok (.bl b, _) => b | _ => false) e2
    exact this
  have h2 : decide (AllHang M us) = true := decide_eq_true h.hang
  rw [h2] at this
  exact this.symm
theorem prs_mem {m : Nat} {a b : Int} (h0 : 0 ≤ a) (h1 : a < b) (h2 : b < m) : (a, b) ∈ prs m := by
  unfold prs
  refine List.mem_flatten.mpr ⟨_, List.mem_map.mpr ⟨a, ?_, rfl⟩, List.mem_map.mpr ⟨b, List.mem_filter.mpr ⟨?_, by simp [h1]⟩, rfl⟩⟩
  · unfold ptsP; exact List.mem_map.mpr ⟨a.toNat, by simp; omega, by omega⟩
  · unfold ptsP; exact List.mem_map.mpr ⟨b.toNat, by simp; omega, by omega⟩
theorem prs_asc {m : Nat} (h : m ≤ 4) : (prs m).Pairwise ltPr := by
  have : ∀ m, m ≤ 4 → (prs m).Pairwise ltPr := by
    unfold ltPr
    decide +kernel
  exact this m h
theorem in_webs {M : Int} {m : Nat} {us : List Tie} (hM : M = m) (h : SmW M us) (hs : (sglP us).length ≤ 7) : us ∈ websP m := by
  have h4 := h.m4
  unfold websP
  refine List.mem_filter.mpr ⟨in_choices _ us (prs_asc (by omega)) h.w.asc fun t ht => ?_, by rw [hangP_of hM h]; simp [hs]⟩
  obtain ⟨a, b, c, d, e⟩ := h.w.rows.ok t ht
  have := h.two t ht
  exact ⟨prs_mem a b (by omega), by omega⟩
theorem two_web : SmW 2 [(0, 1, 2)] := by
  refine ⟨⟨⟨?_, by decide, ?_⟩, by simp [Asc], by decide, by decide, by decide⟩, by decide, by simp, ?_⟩
  · intro t ht
    have : t = (0, 1, 2) := by simpa using ht
    subst this
    decide
  · intro p h0 h1
    exact ⟨(0, 1, 2), by simp, by show (1 : Int) = p; omega⟩
  · intro p h0 h1 S s0 hc
    have := hc (0, 1) (by simp [pairsT])
    rcases (by omega : p = 0 ∨ p = 1) with rfl | rfl
    · exact s0
    · exact this.mp s0
theorem webS_ok {a s c n : Int} {Q : D → Rho → Prop} (g : GenOk a s c n) (hn : n + 200 < 2 ^ 60)
    (hQ : ∀ (M : Int) (us : List Tie) (a' c' : Int), SmW M us → GenOk a' s c' (n + 100) → Q (webD M us) [.rf (gen a' s c'), .sh (.int 4), .sh (.int 2)]) :
    Wp (m_law_web [.rf (gen a s c), .sh (.int 4), .sh (.int 2)]) Q NoE := by
  refine web_ok g hn (by decide) (by decide) (by decide) (by decide) fun many us a' c' h1 h2 hr hp hl g' => ?_
  refine hQ many us a' c' ⟨⟨⟨fun t ht => ?_, hr.once, hr.low⟩, asc_of hp hr.once, hl, h1, by omega⟩, h2, fun t ht => (hr.ok t ht).2.2.2.2, allHang_of hr⟩ g'
  obtain ⟨a, b, c, d, e⟩ := hr.ok t ht
  exact ⟨a, b, c, d, by omega⟩
theorem small_ok {a s c n : Int} {Q : D → Rho → Prop} (g : GenOk a s c n) (hn : n + 5000 < 2 ^ 60)
    (hQ : ∀ (M : Int) (us : List Tie) (a' c' : Int), SmW M us → (sglP us).length ≤ 7 → GenOk a' s c' (n + 2100) → Q (webD M us) [.rf (gen a' s c'), .sh (.int 4)]) :
    Wp (m_law_small [.rf (gen a s c), .sh (.int 4)]) Q NoE := by
  unfold m_law_small b_law_small
  rw [wp_runD, wp_seq]
  simp [full]
  rw [wp_callR]
  simp [lent1, shs]
  refine webS_ok g (by omega) fun M us a1 c1 w g1 => ?_
  refine ⟨_, ⟨_, rfl⟩, _, rfl, rfl, ?_⟩
  rw [go_seq]
  simp [setK, sameKind]
  refine ⟨by simp [inR], ?_⟩
  refine forL_inv (fun k ρ => ∃ M us a' c' x, SmW M us ∧ GenOk a' s c' (n + 100 + 100 * k) ∧ isRf x = false ∧ ρ = [.rf (gen a' s c'), .sh (.int 4), .sh (webD M us), x]) 0 ⟨M, us, a1, c1, .no, w, by simpa using g1, rfl, rfl⟩ ?_ ?_
  · rintro k d ρ hk ⟨M, us, a1, c1, x, w, g1, hx, rfl⟩
    obtain ⟨hlt, rfl⟩ := rangeD_get hk
    have hlt : k < 20 := by simpa using hlt
    rw [Nat.zero_add] at g1
    have hl := w.w.len
    simp [hx, wp_cCall, shs]
    refine (law_singles_ok (by omega) w.nine).q ?_
    intro ρ
    by_cases hs : (sglP us).length ≤ 7
    · simp
      exact .inr ⟨by omega, M, us, w, a1, c1, g1.mono (by omega), _, rfl, rfl, rfl, rfl⟩
    · simp
      refine .inl ⟨by omega, ?_⟩
      rw [wp_callR]
      simp [lent1, shs]
      refine webS_ok g1 (by omega) fun M us a2 c2 w g2 => ?_
      refine ⟨_, ⟨_, rfl⟩, _, rfl, rfl, ?_⟩
      exact ⟨M, us, w, a2, c2, g2.mono (by omega), _, rfl, rfl⟩
  · rintro ρ ⟨M, us, a1, c1, x, w, g1, hx, rfl⟩
    rw [Nat.zero_add, rangeD_length] at g1
    have hl := w.w.len
    rw [then_nx, go_iff]
    simp [wp_cCall, shs]
    refine (law_singles_ok (by omega) w.nine).q ?_
    intro ρ
    by_cases hs : (sglP us).length ≤ 7
    · simp
      refine .inr ⟨by omega, ?_⟩
      exact hQ M us a1 c1 w hs (g1.mono (by simp; omega))
    · simp
      refine .inl ⟨by omega, ?_⟩
      exact hQ 2 [(0, 1, 2)] a1 c1 two_web (by decide) (g1.mono (by simp; omega))
end
end PyD

set_option Elab.async false
set_option linter.all false
set_option maxRecDepth 100000
set_option maxHeartbeats 2000000
namespace PyD
open PySem PySem.Spec L2
open PyProof.Rows hiding St
section
variable {QF : Fl → Rho → Prop} {QL : List D → Rho → Prop} {Q : D → Rho → Prop} {E : Nat → D → Prop} {ρ : Rho} {fa fb : Ev}
def sortsD (c : Nat) (v : D) : D := .lst [.bl (decide (c = 0)), .bl (decide (c = 2)), v]
theorem rb_sorts {c : Nat} {v : D} (h : Rb v 6 8000) : Rb (sortsD c v) 7 8100 := (RbL.cons (w := 0) .bl (.cons (w := 0) .bl (.cons h .nil))).lst (by decide)
theorem caught_ok {door : Int} {c : Nat} {x y v : D} (hc : c < 3) (hx : Rb (.tup [x, y]) 19 8700) (hv : Rb v 6 8000)
    (hF : Wp (m_tie_share [.sh x, .sh y]) (fun _ _ => False) (fun c' v' => c' = c ∧ v' = v)) :
    Wp (m_law_caught [.sh (.int door), .sh (.tup [x, y])]) (fun r _ => gRepr (sortsD c v) = some r) NoE := by
  unfold m_law_caught b_law_caught
  have g1 : gRepr (.tup [x, y]) = some (.str (toPy (.tup [x, y])).shown) := hx.repr (by decide) (by decide)
  have hs := (rb_sorts (c := c) hv).repr (by decide) (by decide)
  rw [wp_runD, wp_seq]
  simp [full, g1]
  rw [go_seq, wp_cTry]
  simp [wp_cCall, shs]
  refine ⟨_, rfl, _, rfl, ?_⟩
  refine hF.imp (fun _ _ h => h.elim) ?_
  rintro c' v' ⟨rfl, rfl⟩
  refine ⟨rfl, .inl ⟨?_, ?_⟩⟩
  · rcases (by omega : c' = 0 ∨ c' = 1 ∨ c' = 2) with rfl | rfl | rfl <;> rfl
  show Go _ [.sh (.int door), .sh (.tup [x, y]), .sh (.exc c' v'), .sh (.str (toPy (.tup [x, y])).shown), .no, .no] _ _
  rw [go_seq]
  simp [gIsN, isNon, g1]
  rw [go_seq]
  have t1 : gIsX tab_InvalidWeb (.exc c' v') = some (.bl (decide (c' = 0))) := by
    rcases (by omega : c' = 0 ∨ c' = 1 ∨ c' = 2) with rfl | rfl | rfl <;> rfl
  have t3 : gIsX tab_InvalidNumber (.exc c' v') = some (.bl (decide (c' = 2))) := by
    rcases (by omega : c' = 0 ∨ c' = 1 ∨ c' = 2) with rfl | rfl | rfl <;> rfl
  simp [t1, t3]
  rw [go_iff]
  have t4 : gVal 3 (.exc c' v') = some v' := if_pos hc
  simp [t4]
  have hs0 := hs
  unfold sortsD at hs
  rw [hs]
  exact ⟨_, rfl, hs0⟩
theorem share_bad {d y : D} (h : Odd d) : Wp (m_tie_share [.sh d, .sh y]) (fun _ _ => False) (fun c' v' => c' = 0 ∧ v' = d) := by
  unfold m_tie_share b_tie_share
  rw [wp_runD, wp_seq]
  simp [full, wp_cCall, shs]
  refine check_bad h ?_
  simp [isSh]
/-- what is no number of a tie -/
inductive Wrong (n : Nat) : D → Prop
  | non : Wrong n .non
  | len : Wrong n (.int n)
  | neg : Wrong n (.int (-1))
  | bl {b : Bool} : Wrong n (.bl b)
  | str {x : Str} : Wrong n (.str x)
  | lst {ds : List D} : Wrong n (.lst ds)
  | tup {ds : List D} : Wrong n (.tup ds)
def wholeB : D → Bool
  | .int _ => true
  | _ => false
def kindOk : D → Bool
  | .scr _ => false
  | .exc _ _ => false
  | .fn _ => false
  | _ => true
theorem wp_whole_gen {v : D} (h : kindOk v = true) : Wp (m_is_whole [.sh v]) (fun d _ => d = .bl (wholeB v)) NoE := by
  unfold m_is_whole b_is_whole
  rw [wp_runD]
  cases v <;> simp [full, kindOk, wholeB] at h ⊢
theorem Wrong.kind {n : Nat} {d : D} (h : Wrong n d) : kindOk d = true := by cases h <;> rfl
theorem check_wrong {M : Int} {us : List Tie} {d : D} (w : Web M us) (h : Wrong (sglP us).length d) (e : E 2 d) : Wp (m_check_tie [.sh (webD M us), .sh d]) Q E := by
  have hl := w.len
  have hx : ∀ t ∈ us, 0 ≤ t.2.2 ∧ t.2.2 ≤ 9 := fun t ht => by obtain ⟨_, _, _, a, b⟩ := w.rows.ok t ht; omega
  unfold m_check_tie b_check_tie
  rw [wp_runD]
  simp [full, wp_cCall, shs]
  refine (wp_whole_gen h.kind).imp ?_ fun _ _ z => z.elim
  rintro r ρ rfl
  simp [wp_cCallF, shs, isSh, e]
  cases h
  case len =>
    simp [wholeB]
    refine (singles_ok (by omega) hx).qL ?_
    intro ρ
    simp
  case neg => simp [wholeB]
  all_goals simp [wholeB]
theorem share_wrong {M : Int} {us : List Tie} {d : D} (w : Web M us) (h : Wrong (sglP us).length d) : Wp (m_tie_share [.sh (webD M us), .sh d]) (fun _ _ => False) (fun c' v' => c' = 2 ∧ v' = d) := by
  unfold m_tie_share b_tie_share
  rw [wp_runD, wp_seq]
  simp [full, wp_cCall, shs]
  refine check_ok w fun ρ => ?_
  rw [go_seq]
  simp [wp_cCall, shs]
  refine check_wrong w h ?_
  simp [isSh]
end
end PyD

set_option Elab.async false
set_option linter.all false
set_option maxRecDepth 100000
namespace PyD
open PySem PySem.Spec L2
open PyProof.Rows hiding St
def lawf_0 : Sv := (cSetO 2 (cCallF 2 m_law_generator (cCons (cV 0) (cCons (cV 1) cNil))))
def lawf_1 : Sv := (cAsg (cCallR 2 2 m_law_small (cCons (cC (.int 4)) cNil)) (gN 3))
def lawf_2 : Sv := (cAsg (cTup (cCons (cCall 1 m_law_singles (cCons (cV 3) cNil)) (cCons (cL (cCallF 1 m_law_trees (cCons (cV 3) cNil))) (cCons (c1 gRepr (cV 3)) (cCons (cTup (cCons (cC (.int 0)) (cCons (cC (.int 1)) cNil))) cNil))))) (gT 4 (gConsD (gN 4) (gConsD (gN 5) (gConsD (gN 6) (gConsD (gN 7) gNilD))))))
def lawf_3 : Sv := (cFor (cEnum (cCons (cV 4) cNil)) (gT 2 (gConsD (gN 8) (gConsD (gT 2 (gConsD (gN 9) (gConsD (gN 10) gNilD))) gNilD))) (cSeq (cAsg (cCall 2 m_law_frac (cCons (c1 gLen (cL (cComp [12] (cW (cV 5)) (gN 12) (tOf (c2 (gIn false) (cV 8) (cV 12))) (cV 12)))) (cCons (c1 gLen (cV 5)) cNil))) (gN 11)) (cSeq (cIfS (cNot (tOf (cCall 2 (m_law_exact 8) (cCons (cL (cLst (cCons (cV 11) (cCons (cV 11) (cCons (cV 11) cNil))))) (cCons (cL (cLst (cCons (cCall 2 m_tie_share (cCons (cV 3) (cCons (cV 8) cNil))) (cCons (cCall 2 m_tie_share (aKw 0 2 [1, 0] cNil (cCons (cV 8) (cCons (cV 3) cNil)))) (cCons (cCall 3 m_stands_between (cCons (cV 3) (cCons (cV 9) (cCons (cV 10) cNil)))) cNil))))) cNil))))) (cRet (cC (.bl false))) cSkip) (cSeq (cAsg (cNotV (cCall 2 m_law_hang (cCons (c2 gIx (cV 3) (cC (.int 1))) (cCons (c2 gAdd (cSl (cV 4) cNo (cSome (cV 8))) (cSl (cV 4) (cSome (c2 gAdd (cV 8) (cC (.int 1)))) cNo)) cNil)))) (gN 13)) (cSeq (cIfS (tOf (c2 gNe (c2 gEq (cV 11) (cTup (cCons (cC (.int 1)) (cCons (cC (.int 1)) cNil)))) (cV 13))) (cRet (cC (.bl false))) cSkip) (cAsg (cCall 2 m_law_add (cCons (cV 7) (cCons (cV 11) cNil))) (gN 7)))))))
def lawf_4 : Sv := (cIfS (tOf (c2 gNe (cV 7) (cTup (cCons (c2 gSub (c2 gIx (cV 3) (cC (.int 1))) (cC (.int 1))) (cCons (cC (.int 1)) cNil))))) (cRet (cC (.bl false))) cSkip)
def lawf_5 : Sv := (cAsg (cCallR 2 2 m_law_no_web (cCons (cV 3) cNil)) (gN 14))
def lawf_6 : Sv := (cSetO 15 (cLst (cCons (cTup (cCons (cTup (cCons (cV 14) (cCons (cC (.str "z")) cNil))) (cCons (cL (cLst (cCons (cC (.bl true)) (cCons (cC (.bl false)) (cCons (cV 14) cNil))))) cNil))) (cCons (cTup (cCons (cTup (cCons (cV 14) (cCons (cC (.int 0)) cNil))) (cCons (cL (cLst (cCons (cC (.bl true)) (cCons (cC (.bl false)) (cCons (cV 14) cNil))))) cNil))) cNil))))
def lawf_7 : Sv := (cFor (cW (cL (cLst (cCons (cC .non) (cCons (c1 gLen (cV 4)) (cCons (c2 gSub (cC (.int 0)) (cC (.int 1))) (cCons (cC (.bl true)) (cCons (cC (.str "0")) (cCons (cL (cLst (cCons (cC (.int 0)) cNil))) (cCons (cTup (cCons (cC (.int 0)) cNil)) cNil)))))))))) (gN 16) (cExpr (cApp 15 (cTup (cCons (cTup (cCons (cV 3) (cCons (cV 16) cNil))) (cCons (cL (cLst (cCons (cC (.bl false)) (cCons (cC (.bl true)) (cCons (cV 16) cNil))))) cNil))))))
def lawf_8 : Sv := (cIfS (cOr (tOf (c2 gNe (cL (cCompP 15 [17] (gN 17) (tOf (c2 gNe (cCall 2 m_law_caught (cCons (cC (.int 0)) (cCons (c2 gIx (cV 17) (cC (.int 0))) cNil))) (c1 gRepr (c2 gIx (cV 17) (cC (.int 1)))))) (cV 17))) (cL (cLst cNil)))) (tOf (c2 gNe (c1 gRepr (cV 3)) (cV 6)))) (cRet (cC (.bl false))) cSkip)
def law_0 : Sv := (cFor (cRng1 (cCons (cC (.int 3)) cNil)) (gN 1) (cSeq lawf_0 (cSeq lawf_1 (cSeq lawf_2 (cSeq lawf_3 (cSeq lawf_4 (cSeq lawf_5 (cSeq lawf_6 (cSeq lawf_7 lawf_8)))))))))
def law_1 : Sv := (cRet (cC (.bl true)))
theorem b_law_eq : b_law = (cSeq law_0 law_1) := rfl
end PyD

set_option Elab.async false
set_option linter.all false
set_option maxRecDepth 100000
namespace PyD
open PySem PySem.Spec L2
open PyProof.Rows hiding St
theorem wp_pickW {i : Nat} {fs : Av} {ρ : Rho} {Q : D → Rho → Prop} {E : Nat → D → Prop} {a s c n : Int} (g : GenOk a s c n) (hn : n + 3 < 2 ^ 60) (h0 : ∃ c0, lent1 ρ i = some c0)
    (k : Wp (fs ρ) (fun as ρ1 => ∃ ds, as = [.lst ds] ∧ lent1 ρ1 i = some (gen a s c) ∧ (0 < ds.length ∧ ds.length ≤ 100000) ∧ ∀ d a' c', d ∈ ds → GenOk a' s c' (n + 3) → Q d (setK ρ1 i (gen a' s c'))) NoE) : Wp (cCallR i 2 m_law_pick fs ρ) Q E := by
  obtain ⟨as, ρ1, e, ds, rfl, h1, ⟨l0, l1⟩, q⟩ := k.out
  obtain ⟨c0, h0⟩ := h0
  exact wp_pick h0 e h1 g hn l0 l1 q
theorem wp_rndW {i : Nat} {fs : Av} {ρ : Rho} {Q : D → Rho → Prop} {E : Nat → D → Prop} {a s c n : Int} (g : GenOk a s c n) (hn : n + 3 < 2 ^ 60) (h0 : ∃ c0, lent1 ρ i = some c0)
    (k : Wp (fs ρ) (fun as ρ1 => ∃ b, as = [.int b] ∧ lent1 ρ1 i = some (gen a s c) ∧ (0 < b ∧ b < 2 ^ 60) ∧ ∀ r a' c' : Int, 0 ≤ r → r < b → GenOk a' s c' (n + 3) → Q (.int r) (setK ρ1 i (gen a' s c'))) NoE) : Wp (cCallR i 2 m_law_random fs ρ) Q E := by
  obtain ⟨as, ρ1, e, b, rfl, h1, ⟨l0, l1⟩, q⟩ := k.out
  obtain ⟨c0, h0⟩ := h0
  exact wp_rnd h0 e h1 g hn l0 l1 q
end PyD

set_option Elab.async false
set_option linter.all false
set_option maxRecDepth 100000
namespace PyD
open PySem PySem.Spec L2
open PyProof.Rows hiding St
open SX (S)
/-! ### numbers as texts -/
def digB (c : Nat) : Bool := decide (48 ≤ c) && decide (c ≤ 57)
def cnt18 (l : List Nat) : Option Int := if l ≠ [] ∧ l.length ≤ 18 ∧ l.all digB = true ∧ (l.head? = some 48 → l = [48]) then some ((NumText.digitsVal l : Nat) : Int) else none
def numOf (l : List Nat) : Option Int := if l.head? = some 45 then (match cnt18 l.tail with
    | some v => if v = 0 then none else some (0 - v)
    | none => none) else cnt18 l
def intL (x : Int) : List Nat := if x < 0 then 45 :: TL.numL x.natAbs else TL.numL x.natAbs
theorem str_int (x : Int) : (Str.ofString (toString x) : Str) = S (intL x) := by
  refine TL.ext_tl ?_
  by_cases h : x < 0
  · unfold intL
    rw [if_pos h]
    show (Str.ofString (toString x)).cps.toList = 45 :: TL.numL x.natAbs
    rw [signs_ofString, Int.toString_eq_repr, Int.repr_eq_if, if_neg (by omega), String.toList_append, List.map_append]
    show 45 :: _ = 45 :: _
    congr 1
    have e : x.natAbs = (-x).toNat := by omega
    rw [Nat.toList_repr, e]
    rfl
  · unfold intL
    rw [if_neg h]
    have e : x = ((x.natAbs : Nat) : Int) := by omega
    have := TL.tl_num x.natAbs
    rw [← e] at this
    exact this
theorem digB_iff {c : Nat} : digB c = true ↔ 48 ≤ c ∧ c ≤ 57 := by simp [digB]
theorem all_digB {l : List Nat} : l.all digB = true ↔ NumText.AllDigits l := by
  simp only [List.all_eq_true, digB_iff]
  exact Iff.rfl
theorem numL_head : ∀ n : Nat, 0 < n → (TL.numL n).head? ≠ some 48 := by
  intro n
  induction n using Nat.strongRecOn with
  | ind n ih =>
    intro h0
    by_cases h : n < 10
    · rw [TL.numL_lt h]; simp; omega
    · rw [TL.numL_step (by omega), List.head?_append]
      have := ih (n / 10) (by omega) (by omega)
      cases e : (TL.numL (n / 10)).head? with
      | none => exact absurd (List.head?_eq_none_iff.mp e) (TL.numL_ne _)
      | some z => rw [e] at this; simpa using this
theorem cnt18_num {n : Nat} (h : n < 10 ^ 18) : cnt18 (TL.numL n) = some (n : Int) := by
  unfold cnt18
  have hz : (TL.numL n).head? = some 48 → TL.numL n = [48] := fun e => by
    by_cases h0 : n = 0
    · rw [h0]; exact TL.numL_lt (by decide)
    · exact absurd e (numL_head n (by omega))
  rw [if_pos ⟨TL.numL_ne n, TL.numL_len (by decide) h, all_digB.mpr (TL.numL_digits n), hz⟩, TL.numL_val]
theorem numOf_int {x : Int} (h : x.natAbs < 10 ^ 18) : numOf (intL x) = some x := by
  unfold numOf intL
  by_cases h0 : x < 0
  · simp only [if_pos h0, List.head?_cons, if_true, List.tail_cons, cnt18_num h]
    rw [if_neg (by omega)]
    congr 1; omega
  · simp only [if_neg h0]
    have hd : (TL.numL x.natAbs).head? ≠ some 45 := fun e => by
      have := TL.numL_digits x.natAbs 45 (List.mem_of_mem_head? e)
      omega
    rw [if_neg hd, cnt18_num h]
    congr 1; omega
def optD : Option Int → D
  | none => .non
  | some v => .int v
@[simp] theorem optD_none : optD none = .non := rfl
@[simp] theorem optD_some {v : Int} : optD (some v) = .int v := rfl
theorem S_empty : (Str.ofString "" : Str) = S [] := rfl
theorem S_minus : (Str.ofString "-" : Str) = S [45] := rfl
theorem S_zero : (Str.ofString "0" : Str) = S [48] := rfl
theorem S_space : (Str.ofString " " : Str) = S [32] := rfl
theorem S_dig : (Str.ofString "0123456789" : Str) = S [48, 49, 50, 51, 52, 53, 54, 55, 56, 57] := rfl
section
variable {l m : List Nat} {c : Nat}
theorem gLen_S (h : l.length ≤ 1000000) : gLen (.str (S l)) = some (.int l.length) := by
  show (if _ then _ else _) = _
  rw [SX.S_len, if_pos (Nat.le_trans h (by decide +kernel))]
theorem signs_S : signsD (S l) = l.map fun c => .str (S [c]) := rfl
theorem in_dig : gIn false (.str (S [c])) (.str (S [48, 49, 50, 51, 52, 53, 54, 55, 56, 57])) = some (.bl (digB c)) := by
  show some (D.bl (decide (c ∈ [48, 49, 50, 51, 52, 53, 54, 55, 56, 57]))) = _
  congr 2
  rw [Bool.eq_iff_iff, digB_iff, decide_eq_true_eq]
  simp only [List.mem_cons, List.not_mem_nil, or_false]
  omega
theorem notIn_dig : gIn true (.str (S [c])) (.str (S [48, 49, 50, 51, 52, 53, 54, 55, 56, 57])) = some (.bl (!digB c)) := by
  show some (D.bl (!decide (c ∈ [48, 49, 50, 51, 52, 53, 54, 55, 56, 57]))) = _
  congr 3
  rw [Bool.eq_iff_iff, digB_iff, decide_eq_true_eq]
  simp only [List.mem_cons, List.not_mem_nil, or_false]
  omega
theorem gIndex_of {x y : Str} {i : Nat} {r : List Nat} (h : Builtin.Str.occurrences x y 0 x.length 1 = i :: r) : gIndex x [.str y] = some (.int i) := by
  show (match Builtin.Str.occurrences x y 0 x.length 1 with
    | i :: _ => some (D.int (i : Nat))
    | [] => none) = _
  rw [h]
theorem index_dig (h : digB c = true) : gIndex (S [48, 49, 50, 51, 52, 53, 54, 55, 56, 57]) [.str (S [c])] = some (.int ((c - 48 : Nat) : Int)) := by
  have := digB_iff.mp h
  rcases (by omega : c = 48 ∨ c = 49 ∨ c = 50 ∨ c = 51 ∨ c = 52 ∨ c = 53 ∨ c = 54 ∨ c = 55 ∨ c = 56 ∨ c = 57) with rfl | rfl | rfl | rfl | rfl | rfl | rfl | rfl | rfl | rfl <;> exact gIndex_of (r := []) (by decide +kernel)
theorem gIx_S (h : l.length ≤ 1000000) {i : Nat} (hc : l[i]? = some c) : gIx (.str (S l)) (.int i) = some (.str (S [c])) := by
  show (if _ then (atI l i).map _ else _) = _
  obtain ⟨h1, h2⟩ := List.getElem?_eq_some_iff.mp hc
  rw [SX.S_len, if_pos (Nat.le_trans h (by decide +kernel)), atI_nat h1, h2]
  rfl
end
theorem eq_S {l m : List Nat} : gEq (.str (S l)) (.str (S m)) = some (.bl (decide (l = m))) := by rw [gEq_str, SX.S_beq_eq]
theorem ne_S {l m : List Nat} : gNe (.str (S l)) (.str (S m)) = some (.bl (!decide (l = m))) := by rw [gNe_str, SX.S_beq_eq]
theorem digitsVal_snoc {l : List Nat} {c : Nat} : NumText.digitsVal (l ++ [c]) = NumText.digitsVal l * 10 + (c - 48) := by
  unfold NumText.digitsVal
  rw [List.foldl_append]; rfl
theorem digitsVal_lt : ∀ {l : List Nat}, l.all digB = true → NumText.digitsVal l < 10 ^ l.length := by
  intro l
  rw [all_digB]
  have : ∀ (l : List Nat) (a k : Nat), NumText.AllDigits l → a < 10 ^ k → l.foldl (fun acc c => acc * 10 + (c - 48)) a < 10 ^ (k + l.length) := by
    intro l
    induction l with
    | nil => intro a k _ h; simpa using h
    | cons c l ih =>
      intro a k h ha
      have hc := h c List.mem_cons_self
      have := ih (a * 10 + (c - 48)) (k + 1) (fun d hd => h d (List.mem_cons_of_mem _ hd)) (by rw [Nat.pow_succ]; omega)
      rw [List.foldl_cons, List.length_cons, show k + (l.length + 1) = k + 1 + l.length by omega]
      exact this
  intro h
  have := this l 0 0 h (by decide)
  simpa [NumText.digitsVal] using this
end PyD

set_option Elab.async false
set_option linter.all false
set_option maxRecDepth 100000
namespace PyD
open PySem PySem.Spec L2
open PyProof.Rows hiding St
open SX (S)
section
variable {l m : List Nat} {k : Nat}
theorem cutS_take : cutS (S l) none (some (k : Int)) = S (l.take k) := by
  unfold cutS
  rw [show (S l).cps.toList = l from rfl, SX.S_len, HT.sIx_none, HT.sIx_nat, List.drop_zero, Nat.sub_zero]
  congr 2
  by_cases h : k ≤ l.length
  · rw [Nat.min_eq_left h]
  · rw [Nat.min_eq_right (by omega), List.take_of_length_le (by omega), List.take_of_length_le (by omega)]
theorem cutS_drop : cutS (S l) (some (k : Int)) none = S (l.drop k) := by
  unfold cutS
  rw [show (S l).cps.toList = l from rfl, SX.S_len, HT.sIx_none, HT.sIx_nat]
  congr 2
  by_cases h : k ≤ l.length
  · rw [Nat.min_eq_left h, List.take_of_length_le (by simp)]
  · rw [Nat.min_eq_right (by omega), List.drop_of_length_le (by omega), List.drop_of_length_le (i := k) (by omega)]; simp
theorem gSl_take (h : l.length ≤ 1000000) : gSl none (some (k : Int)) (.str (S l)) = some (.str (S (l.take k))) := by
  show (if _ then _ else _) = _
  rw [SX.S_len, if_pos (Nat.le_trans h (by decide +kernel)), cutS_take]
theorem gSl_drop (h : l.length ≤ 1000000) : gSl (some (k : Int)) none (.str (S l)) = some (.str (S (l.drop k))) := by
  show (if _ then _ else _) = _
  rw [SX.S_len, if_pos (Nat.le_trans h (by decide +kernel)), cutS_drop]
theorem take1 : l.take 1 = [45] ↔ l.head? = some 45 := by
  cases l <;> simp
end
theorem cmp_signs {l : List Nat} : cmpD (.lst (l.map fun c => .str (S [c]))) = true := by
  show plN 20 _ = true
  simp only [plN]
  induction l with
  | nil => simp [plNs]
  | cons c l ih =>
    simp only [List.map_cons, plNs, Bool.and_eq_true]
    exact ⟨rfl, ih⟩
theorem ne_nil_signs {l : List Nat} : gNe (.lst (l.map fun c => .str (S [c]))) (.lst []) = some (.bl (!decide (l = []))) := by
  rw [gNe_ok cmp_signs rfl]
  cases l <;> simp
end PyD

set_option Elab.async false
set_option linter.all false
set_option maxRecDepth 100000
namespace PyD
open PySem PySem.Spec L2
open PyProof.Rows hiding St
open SX (S)
def TextL (t : List Nat) : Prop := ∀ c ∈ t, c < 1114112
instance {t : List Nat} : Decidable (TextL t) := inferInstanceAs (Decidable (∀ c ∈ t, c < 1114112))
theorem TextL.ok {t : List Nat} (h : TextL t) : TextOk (S t) := h
theorem TextL.app {a b : List Nat} (h : TextL a) (h' : TextL b) : TextL (a ++ b) := fun c hc => (List.mem_append.mp hc).elim (h c) (h' c)
theorem TextL.take {a : List Nat} (h : TextL a) (k : Nat) : TextL (a.take k) := fun c hc => h c (List.mem_of_mem_take hc)
theorem TextL.drop {a : List Nat} (h : TextL a) (k : Nat) : TextL (a.drop k) := fun c hc => h c (List.mem_of_mem_drop hc)
theorem gAdd_S {a b : List Nat} (h : a.length + b.length ≤ 100000) : gAdd (.str (S a)) (.str (S b)) = some (.str (S (a ++ b))) := by
  rw [gAdd_str]
  exact ⟨by rw [SX.S_len, SX.S_len]; exact le_size h, by rw [SX.S_cat]⟩
structure Bent (n : Nat) (r : D) : Prop where
  ex : ∃ t, r = .str (S t) ∧ t.length ≤ 3 * n + 20 ∧ TextL t
theorem Bent.mk' {n : Nat} {t : List Nat} (h1 : t.length ≤ 3 * n + 20) (h2 : TextL t) : Bent n (.str (S t)) := ⟨t, rfl, h1, h2⟩
theorem gListS_S {l : List Nat} (h : l.length ≤ 100000) : gListS [.str (S l)] = some (l.map fun c => .str (S [c])) := by
  show (if _ then _ else _) = _
  rw [SX.S_len, if_pos (le_size h)]
  rfl
end PyD

set_option Elab.async false
set_option linter.all false
set_option maxRecDepth 100000
namespace PyD
open PySem PySem.Spec L2
open PyProof.Rows hiding St
open SX (S)
/-! ### _law_exact: data is exactly itself -/
mutual
/-- plain data, at most n deep, lists not too long -/
def exN : Nat → D → Bool
  | _, .non => true
  | _, .bl _ => true
  | _, .int _ => true
  | _, .str _ => true
  | n + 1, .lst ds => decide (ds.length ≤ 50000) && exNs n ds
  | n + 1, .tup ds => decide (ds.length ≤ 50000) && exNs n ds
  | _, _ => false
def exNs : Nat → List D → Bool
  | _, [] => true
  | n, d :: ds => exN n d && exNs n ds
end
theorem exNs_mem {n : Nat} : ∀ {ds : List D}, exNs n ds = true → ∀ d ∈ ds, exN n d = true
  | [], _, d, h => by cases h
  | e :: ds, h, d, hd => by
    simp only [exNs, Bool.and_eq_true] at h
    rcases List.mem_cons.mp hd with rfl | hd
    · exact h.1
    · exact exNs_mem h.2 d hd
@[simp] theorem gNe_bl {a b : Bool} : gNe (.bl a) (.bl b) = some (.bl (!(a == b))) := by rw [gNe_ok rfl rfl, eqD_bl]
theorem exact_seq {n : Nat} {x : D} {ds : List D} (hx : x = .lst ds ∨ x = .tup ds) (hl : ds.length ≤ 50000) (ih : ∀ d ∈ ds, Wp (m_law_exact n [.sh d, .sh d]) (fun r _ => r = .bl true) NoE) :
    Wp (m_law_exact (n + 1) [.sh x, .sh x]) (fun r _ => r = .bl true) NoE := by
  unfold m_law_exact b_law_exact
  have h1 : isaD2 "list" "tuple" x = some (.bl true) := by rcases hx with rfl | rfl <;> rfl
  have h2 : gLen x = some (.int ds.length) := by rcases hx with rfl | rfl <;> rfl
  obtain ⟨b1, h3⟩ : ∃ b, isaD "list" x = some (.bl b) := by rcases hx with rfl | rfl <;> exact ⟨_, rfl⟩
  obtain ⟨b2, h4⟩ : ∃ b, isaD "tuple" x = some (.bl b) := by rcases hx with rfl | rfl <;> exact ⟨_, rfl⟩
  have h5 : ∀ (j : Nat) (h : j < ds.length), gIx x (.int j) = some ds[j] := fun j h => by
    rcases hx with rfl | rfl <;> exact atI_nat h
  rw [wp_runD, wp_seq]
  simp [full, h1]
  rw [wp_seq]
  simp [h3, h4]
  rw [go_iff]
  simp [h2, noOw]
  refine ⟨by simp [inR]; omega, ?_⟩
  refine compL_inv (fun k acc ρ => acc = [] ∧ ∃ y, isRf y = false ∧ ρ = [.sh x, .sh x, y]) 0 ⟨rfl, .no, rfl, rfl⟩ ?_ ?_
  · rintro j d acc ρ hj ⟨rfl, y, hy, rfl⟩
    obtain ⟨hjl, rfl⟩ := rangeD_get hj
    simp [wipeR, h5 j hjl, wp_cCall, shs]
    refine (ih _ (List.getElem_mem hjl)).imp ?_ fun _ _ h => h.elim
    rintro _ _ rfl
    simp
  · rintro acc ρ ⟨rfl, y, hy, rfl⟩
    simp
theorem exact_refl : ∀ (n : Nat) (d : D), exN n d = true → Wp (m_law_exact (n + 1) [.sh d, .sh d]) (fun r _ => r = .bl true) NoE
  | n, .non, _ => by
    unfold m_law_exact b_law_exact
    rw [wp_runD, wp_seq]
    simp [full, show isaD2 "list" "tuple" .non = some (.bl false) by rfl]
    rw [go_seq]
    simp [gIsN, isNon]
  | n, .bl b, _ => by
    unfold m_law_exact b_law_exact
    rw [wp_runD, wp_seq]
    simp [full, show isaD2 "list" "tuple" (.bl b) = some (.bl false) by rfl]
    rw [go_seq]
    cases b <;> simp [gIsN, isNon, gIsB]
  | n, .int i, _ => by
    unfold m_law_exact b_law_exact
    rw [wp_runD, wp_seq]
    simp [full, show isaD2 "list" "tuple" (.int i) = some (.bl false) by rfl]
    rw [go_seq]
    simp [gIsN, isNon]
    rw [go_seq]
    simp
    rw [go_iff]
    simp
  | n, .str x, _ => by
    unfold m_law_exact b_law_exact
    rw [wp_runD, wp_seq]
    simp [full, show isaD2 "list" "tuple" (.str x) = some (.bl false) by rfl]
    rw [go_seq]
    simp [gIsN, isNon]
    rw [go_seq]
    simp
  | n + 1, .lst ds, h => by
    have h' : ds.length ≤ 50000 ∧ exNs n ds = true := by simpa [exN] using h
    exact exact_seq (.inl rfl) h'.1 fun d hd => exact_refl n d (exNs_mem h'.2 d hd)
  | n + 1, .tup ds, h => by
    have h' : ds.length ≤ 50000 ∧ exNs n ds = true := by simpa [exN] using h
    exact exact_seq (.inr rfl) h'.1 fun d hd => exact_refl n d (exNs_mem h'.2 d hd)
  | 0, .lst ds, h => by simp [exN] at h
  | 0, .tup ds, h => by simp [exN] at h
  | n, .dct _, h => by cases n <;> simp [exN] at h
  | n, .scr _, h => by cases n <;> simp [exN] at h
  | n, .exc _ _, h => by cases n <;> simp [exN] at h
  | n, .fn _, h => by cases n <;> simp [exN] at h
theorem exNs_ints {n : Nat} : ∀ {row : List Int}, exNs n (intsD row) = true
  | [] => rfl
  | x :: row => by
    show (exN n (.int x) && exNs n (intsD row)) = true
    rw [exNs_ints]; cases n <;> rfl
theorem exN_ints {n : Nat} {row : List Int} (h : row.length ≤ 50000) : exN (n + 1) (.lst (intsD row)) = true := by
  show (decide ((intsD row).length ≤ 50000) && exNs n (intsD row)) = true
  rw [exNs_ints]
  simpa [intsD] using h
end PyD

set_option Elab.async false
set_option linter.all false
set_option maxRecDepth 100000
set_option maxHeartbeats 4000000
namespace PyD
open PySem PySem.Spec L2
open PyProof.Rows hiding St
section
variable {ns : List Int} {k : Nat} {QF : Fl → Rho → Prop} {Q : D → Rho → Prop} {E : Nat → D → Prop} {x1 x2 x3 x4 x5 x6 x7 x8 x9 x10 x11 x12 x13 x14 x15 x16 x17 : Cell} {a s c n M : Int} {m : Nat} {us : List Tie} {T : List (List Nat)} {bad : D}

theorem l0 (hk : k < 4) (h2 : isRf x2 = false) (q : ∀ a s : Int, GenOk a s (1000 * k) (1000 * k) → QF .nx [.sh (.scr ns), .sh (.int (k : Nat)), .ow (gen a s (1000 * k)), x3, x4, x5, x6, x7, x8, x9, x10, x11, x12, x13, x14, x15, x16, x17]) : Wp (lawf_0 [.sh (.scr ns), .sh (.int (k : Nat)), x2, x3, x4, x5, x6, x7, x8, x9, x10, x11, x12, x13, x14, x15, x16, x17]) QF E := by
  unfold lawf_0
  simp [wp_cCallF, shs, h2]
  refine (generator_ok (by omega)).imp ?_ fun _ _ h => h.elim
  rintro ds ρ ⟨a, s, rfl, g⟩
  exact q a s g

theorem l1 (g : GenOk a s c n) (hn : n + 6000 < 2 ^ 60) (h3 : isRf x3 = false) (q : ∀ (M : Int) (us : List Tie) (a c : Int), SmW M us → (sglP us).length ≤ 7 → GenOk a s c (n + 2100) → QF .nx [.sh (.scr ns), .sh (.int (k : Nat)), .ow (gen a s c), .sh (webD M us), x4, x5, x6, x7, x8, x9, x10, x11, x12, x13, x14, x15, x16, x17]) : Wp (lawf_1 [.sh (.scr ns), .sh (.int (k : Nat)), .ow (gen a s c), x3, x4, x5, x6, x7, x8, x9, x10, x11, x12, x13, x14, x15, x16, x17]) QF E := by
  unfold lawf_1
  rw [wp_cAsg, wp_callR]
  simp [lent1, shs]
  refine small_ok g (by omega) fun M us a' c' w hs g' => ?_
  refine ⟨_, ⟨_, rfl⟩, x3, rfl, h3, ?_⟩
  exact q M us a' c' w hs g'

def keptS (many : Int) (us : List Tie) : Str := (toPy (webD many us)).shown
theorem kept_ok (w : Web M us) : gRepr (webD M us) = some (.str (keptS M us)) := w.rb.repr (by decide) (by decide)
theorem l2 (hM : M = m) (w : SmW M us) (hs : (sglP us).length ≤ 7) (h4 : isRf x4 = false) (h5 : isRf x5 = false) (h6 : isRf x6 = false) (h7 : isRf x7 = false) (q : ∀ T : List (List Nat), T.Perm (treesP m (sglP us)) → QF .nx [.sh (.scr ns), .sh (.int (k : Nat)), .ow (gen a s c), .sh (webD M us), .sh (.lst ((sglP us).map pairD)), .sh (.lst (T.map lotD)), .sh (.str (keptS M us)), .sh (frD (0, 1)), x8, x9, x10, x11, x12, x13, x14, x15, x16, x17]) : Wp (lawf_2 [.sh (.scr ns), .sh (.int (k : Nat)), .ow (gen a s c), .sh (webD M us), x4, x5, x6, x7, x8, x9, x10, x11, x12, x13, x14, x15, x16, x17]) QF E := by
  have hl := w.w.len
  have h1 := w.w.m1
  have m7 := w.w.m7
  unfold lawf_2
  simp [kept_ok w.w, wp_cCall, wp_cCallF, shs]
  refine (law_singles_ok (by omega) w.nine).q ?_
  intro ρ
  refine (trees_ok hM (by omega) (by omega) (by omega) w.nine hs).imp ?_ fun _ _ z => z.elim
  rintro d ρ ⟨T, hT, rfl⟩
  simp [h4, h5, h6, h7]
  exact q T hT

theorem frD_exN {f : Fr} {j : Nat} : exN (j + 1) (frD f) = true := by simp [frD, exN, exNs]
theorem wp_exact {d : D} (h : exN 7 d = true) {Q : D → Rho → Prop} {E : Nat → D → Prop} (q : ∀ ρ, Q (.bl true) ρ) : Wp (m_law_exact 8 [.sh d, .sh d]) Q E := by
  have z : Wp (m_law_exact 8 [.sh d, .sh d]) (fun r _ => r = .bl true) NoE := exact_refl 7 d h
  exact z.imp (fun r ρ e => by rw [e]; exact q ρ) fun _ _ h => h.elim
theorem in_nats {x : Nat} {l : List Nat} : gIn false (.int (x : Int)) (.lst (natsD l)) = some (.bl (l.contains x)) := by
  rw [natsD_ints, in_ints]
  congr 2
  rw [Bool.eq_iff_iff]
  simp
  exact ⟨fun ⟨a, h, e⟩ => by have : a = x := by omega
                             subst this; exact h, fun h => ⟨x, h, rfl⟩⟩
theorem goP_fin {m : Nat} {us : List Tie} {sg : List (Int × Int)} {ts : List (List Nat)} {k : Nat} {ks : List Nat} {w f : Fr} (h : goP m us sg ts (k :: ks) w = some f) :
    ∃ due p w2, frcP ((ts.filter fun t => t.contains k).length : Int) (ts.length : Int) = some due ∧ sg[k]? = some p ∧ btwP m us p.1 p.2 = some due ∧ (decide (due = (1, 1)) = !hangP m (sg.take k ++ sg.drop (k + 1))) ∧ addP w due = some w2 ∧ goP m us sg ts ks w2 = some f := by
  unfold goP at h
  split at h
  · cases h
  · rename_i due hd
    split at h
    · cases h
    · rename_i p hp
      split at h
      · rename_i hc
        split at h
        · cases h
        · rename_i w2 hw
          exact ⟨due, p, w2, hd, hp, hc.1, hc.2, hw, h⟩
      · cases h
theorem drop_range {n k : Nat} (h : k < n) : (List.range n).drop k = k :: (List.range n).drop (k + 1) := by
  rw [List.drop_eq_getElem_cons (by simpa using h)]; simp
theorem enum_len : ∀ {s : Nat} {ds : List D}, (enumD s ds).length = ds.length
  | s, [] => rfl
  | s, d :: ds => by simp [enumD, enum_len]
theorem enum_getD : ∀ {s j : Nat} {ds : List D} {d : D}, (enumD s ds)[j]? = some d → ∃ e, ds[j]? = some e ∧ d = .tup [.int ((s + j : Nat) : Int), e]
  | s, j, [], d, h => by simp [enumD] at h
  | s, 0, e :: ds, d, h => by
    simp [enumD] at h
    exact ⟨e, rfl, by simpa using h.symm⟩
  | s, j + 1, e :: ds, d, h => by
    obtain ⟨e', h1, h2⟩ := enum_getD (s := s + 1) (j := j) (ds := ds) (by simpa [enumD] using h)
    exact ⟨e', by simpa using h1, by rw [h2, show s + 1 + j = s + (j + 1) by omega]⟩
theorem enum_get {j : Nat} {sg : List (Int × Int)} {d : D} (h : (enumD 0 (sg.map pairD))[j]? = some d) : ∃ p, sg[j]? = some p ∧ .tup [.int (j : Int), pairD p] = d := by
  obtain ⟨e, h1, h2⟩ := enum_getD h
  rw [List.getElem?_map] at h1
  obtain ⟨p, hp, rfl⟩ := Option.map_eq_some_iff.mp h1
  exact ⟨p, hp, by rw [h2, Nat.zero_add]⟩
theorem frD_eq {f : Fr} : gEq (frD f) (.tup [.int 1, .int 1]) = some (.bl (decide (f = (1, 1)))) := by
  rw [gEq_ok rfl rfl]
  simp [frD]
  rw [Bool.eq_iff_iff]
  obtain ⟨x, y⟩ := f
  simp
theorem l3 (hM : M = m) (w : SmW M us) (hs : (sglP us).length ≤ 7) (hT : T.Perm (treesP m (sglP us))) (h8 : isRf x8 = false) (h9 : isRf x9 = false) (h10 : isRf x10 = false) (h11 : isRf x11 = false) (h12 : OkC x12) (h13 : isRf x13 = false)
    (hg : goP m us (sglP us) (treesP m (sglP us)) (List.range (sglP us).length) (0, 1) = some ((m : Int) - 1, 1))
    (q : ∀ x8 x9 x10 x11 x12 x13, isRf x8 = false → isRf x9 = false → isRf x10 = false → isRf x11 = false → OkC x12 → isRf x13 = false → QF .nx [.sh (.scr ns), .sh (.int (k : Nat)), .ow (gen a s c), .sh (webD M us), .sh (.lst ((sglP us).map pairD)), .sh (.lst (T.map lotD)), .sh (.str (keptS M us)), .sh (frD ((m : Int) - 1, 1)), x8, x9, x10, x11, x12, x13, x14, x15, x16, x17]) : Wp (lawf_3 [.sh (.scr ns), .sh (.int (k : Nat)), .ow (gen a s c), .sh (webD M us), .sh (.lst ((sglP us).map pairD)), .sh (.lst (T.map lotD)), .sh (.str (keptS M us)), .sh (frD (0, 1)), x8, x9, x10, x11, x12, x13, x14, x15, x16, x17]) QF E := by
  have hl := w.w.len
  have h1 := w.w.m1
  have m7 := w.w.m7
  unfold lawf_3
  simp
  refine forL_inv (fun k2 ρ => ∃ f x8 x9 x10 x11 x12 x13, goP m us (sglP us) (treesP m (sglP us)) ((List.range (sglP us).length).drop k2) f = some ((m : Int) - 1, 1) ∧ ρ = [.sh (.scr ns), .sh (.int (k : Nat)), .ow (gen a s c), .sh (webD M us), .sh (.lst ((sglP us).map pairD)), .sh (.lst (T.map lotD)), .sh (.str (keptS M us)), .sh (frD f), x8, x9, x10, x11, x12, x13, x14, x15, x16, x17] ∧ isRf x8 = false ∧ isRf x9 = false ∧ isRf x10 = false ∧ isRf x11 = false ∧ OkC x12 ∧ isRf x13 = false) 0 ⟨(0, 1), x8, x9, x10, x11, x12, x13, by simpa using hg, rfl, h8, h9, h10, h11, h12, h13⟩ ?_ ?_
  · rintro j d ρ hj ⟨f, x8, x9, x10, x11, x12, x13, hgo, rfl, h8, h9, h10, h11, h12, h13⟩
    obtain ⟨p, hp, rfl⟩ := enum_get hj
    have hjl : j < (sglP us).length := (List.getElem?_eq_some_iff.mp hp).1
    rw [Nat.zero_add, drop_range hjl] at hgo
    obtain ⟨due, p', f2, e1, e2, e3, e4, e5, e6⟩ := goP_fin hgo
    rw [hp] at e2
    cases e2
    simp [pairD, h8, h9, h10]
    rw [wp_seq]
    have hTl : T.length ≤ 128 := by
      rw [hT.length_eq]
      unfold treesP
      refine Nat.le_trans (List.length_filter_le _ _) (Nat.le_trans (List.length_filter_le _ _) ?_)
      rw [lotsP_len]
      exact Nat.le_trans (Nat.pow_le_pow_right (by decide) hs) (by decide)
    have e1' : frcP ((T.filter fun t => t.contains j).length : Int) (T.length : Int) = some due := by
      rw [(hT.filter _).length_eq, hT.length_eq]; exact e1
    simp [wp_cCall, shs]
    refine ⟨by rcases h12 with rfl | ⟨d, rfl⟩ <;> simp [noOw], ?_⟩
    refine compL_flt (f := lotD) (enc := lotD) (pr := fun t => t.contains j) (fun ρ => ∃ x12, OkC x12 ∧ ρ = [.sh (.scr ns), .sh (.int (k : Nat)), .ow (gen a s c), .sh (webD M us), .sh (.lst ((sglP us).map pairD)), .sh (.lst (T.map lotD)), .sh (.str (keptS M us)), .sh (frD f), .sh (.int j), .sh (.int p.1), .sh (.int p.2), x11, x12, x13, x14, x15, x16, x17]) (by omega) ⟨x12, h12, rfl⟩ ?_ ?_
    · rintro t ρ ht ⟨x12, h12, rfl⟩
      simp [wipeR, h12.rf, lotD, in_nats]
      by_cases z : j ∈ t
      · exact .inr ⟨z, okC_sh⟩
      · exact .inl ⟨z, okC_sh⟩
    rintro ρ ⟨y12, i12, rfl⟩
    simp [restR]
    simp only [List.contains_eq_mem] at e1'
    refine (frc_ok e1').q ?_
    intro ρ
    refine ⟨h11, ?_⟩
    rw [go_seq]
    have c1 := w.w.rows.ok
    have hpt : (0 ≤ p.1 ∧ p.1 < M) ∧ (0 ≤ p.2 ∧ p.2 < M) := by
      have hm := List.mem_of_getElem? hp
      unfold sglP at hm
      obtain ⟨l, hl1, hl2⟩ := List.mem_flatten.mp hm
      obtain ⟨t, ht, rfl⟩ := List.mem_map.mp hl1
      have := List.eq_of_mem_replicate hl2
      subst this
      obtain ⟨a, b, c, _⟩ := c1 t ht
      exact ⟨⟨a, by show t.1 < M; omega⟩, ⟨by show 0 ≤ t.2.1; omega, c⟩⟩
    have he : exN 7 (.lst [frD due, frD due, frD due]) = true := by simp [exN, exNs, frD]
    simp [wp_cCall, shs, permL]
    refine (share_ok w.w hp e3 hM hpt.1.1).q ?_
    intro ρ
    refine (share_ok w.w hp e3 hM hpt.1.1).q ?_
    intro ρ
    refine (stands_ok w.w e3 hM hpt.1 hpt.2).q ?_
    intro ρ
    generalize D.lst [frD due, frD due, frD due] = R at he ⊢
    refine wp_exact he ?_
    intro ρ
    refine .inr ⟨rfl, ?_⟩
    have hdl : ((sglP us).take j ++ (sglP us).drop (j + 1)).length ≤ 20 := by simp; omega
    have gw : gIx (webD M us) (.int 1) = some (.int M) := rfl
    have hcut1 : cutD ((sglP us).map pairD) none (some (j : Int)) = ((sglP us).take j).map pairD := by
      unfold cutD
      rw [HT.sIx_nat, List.length_map, Nat.min_eq_left (by omega), List.map_take]
      rfl
    have hcut2 : cutD ((sglP us).map pairD) (some ((j : Int) + 1)) none = ((sglP us).drop (j + 1)).map pairD := by
      unfold cutD
      rw [show (j : Int) + 1 = ((j + 1 : Nat) : Int) by omega, HT.sIx_nat, List.length_map, Nat.min_eq_left (by omega), List.map_drop]
      apply List.take_of_length_le
      rw [List.length_drop, List.length_map]
      exact Nat.le_refl _
    rw [go_seq]
    simp [wp_cCall, shs, gw, hcut1, hcut2, -List.map_take, -List.map_drop]
    refine ⟨_, ⟨le_size (by omega), rfl⟩, ?_⟩
    rw [← List.map_append]
    refine (hang_ok hM (by omega) hdl).q ?_
    intro ρ
    have e4' : hangP m ((sglP us).take j ++ (sglP us).drop (j + 1)) = !decide (due = (1, 1)) := by rw [e4]; simp
    rw [e4']
    have hlast : ∀ b : Bool, b = decide (due = (1, 1)) → Go (cSeq (cIfS (tOf (c2 gNe (c2 gEq (cV 11) (cTup (cCons (cC (.int 1)) (cCons (cC (.int 1)) cNil)))) (cV 13))) (cRet (cC (.bl false))) cSkip) (cAsg (cCall 2 m_law_add (cCons (cV 7) (cCons (cV 11) cNil))) (gN 7)))
        [.sh (.scr ns), .sh (.int (k : Nat)), .ow (gen a s c), .sh (webD M us), .sh (.lst ((sglP us).map pairD)), .sh (.lst (T.map lotD)), .sh (.str (keptS M us)), .sh (frD f), .sh (.int j), .sh (.int p.1), .sh (.int p.2), .sh (frD due), x12, .sh (.bl b), x14, x15, x16, x17]
        (Turn (fun ρ => ∃ f x8 x9 x10 x11 x12 x13, goP m us (sglP us) (treesP m (sglP us)) ((List.range (sglP us).length).drop (0 + j + 1)) f = some ((m : Int) - 1, 1) ∧ ρ = [.sh (.scr ns), .sh (.int (k : Nat)), .ow (gen a s c), .sh (webD M us), .sh (.lst ((sglP us).map pairD)), .sh (.lst (T.map lotD)), .sh (.str (keptS M us)), .sh (frD f), x8, x9, x10, x11, x12, x13, x14, x15, x16, x17] ∧ isRf x8 = false ∧ isRf x9 = false ∧ isRf x10 = false ∧ isRf x11 = false ∧ OkC x12 ∧ isRf x13 = false) QF) E := by
      rintro b rfl
      rw [go_seq]
      simp [frD_eq]
      rw [go_iff]
      simp [wp_cCall, shs]
      refine (add_ok e5).q ?_
      intro ρ
      exact ⟨_, _, e6, _, _, _, _, _, _, ⟨rfl, rfl, rfl, rfl, rfl, rfl, rfl⟩, rfl, rfl, rfl, rfl, h12, rfl⟩
    by_cases hb : due = (1, 1)
    · have := hlast true (by simp [hb])
      simp [hb, h13] at this ⊢
      exact this
    · have := hlast false (by simp [hb])
      simp [hb, h13] at this ⊢
      exact this
  · rintro ρ ⟨f, x8, x9, x10, x11, x12, x13, hgo, rfl, h8, h9, h10, h11, h12, h13⟩
    have hn : (enumD 0 ((sglP us).map pairD)).length = (sglP us).length := by rw [enum_len, List.length_map]
    rw [Nat.zero_add, hn, List.drop_eq_nil_of_le (by simp)] at hgo
    cases hgo
    exact q _ _ _ _ _ _ h8 h9 h10 h11 h12 h13

end
end PyD

set_option Elab.async false
set_option linter.all false
set_option maxRecDepth 100000
set_option maxHeartbeats 4000000
namespace PyD
open PySem PySem.Spec L2
open PyProof.Rows hiding St
def askD (x y : D) (c : Nat) (v : D) : D := .tup [.tup [x, y], sortsD c v]
structure AskOk (d : D) : Prop where
  ex : ∃ (x y : D) (c : Nat) (v : D), d = askD x y c v ∧ c < 3 ∧ Rb (.tup [x, y]) 19 8700 ∧ Rb v 6 8000 ∧ Wp (m_tie_share [.sh x, .sh y]) (fun _ _ => False) (fun c' v' => c' = c ∧ v' = v)
theorem rb_pair {x y : D} {k : Nat} (h1 : Rb x k 4000) (h2 : Rb y k 4000) (hk : k ≤ 18) : Rb (.tup [x, y]) 19 8700 := ((RbL.cons h1 (.cons h2 .nil)).tup (m := 8700) (by decide)).mono (by omega) (Nat.le_refl _)
theorem rb_z {k : Nat} : Rb (.str "z") k 4000 := (rb_s (s := "z")).mono (Nat.le_refl _) (by decide)
section
variable {ns : List Int} {k : Nat} {QF : Fl → Rho → Prop} {Q : D → Rho → Prop} {E : Nat → D → Prop} {x1 x2 x3 x4 x5 x6 x7 x8 x9 x10 x11 x12 x13 x14 x15 x16 x17 : Cell} {a s c n M : Int} {m : Nat} {us : List Tie} {T : List (List Nat)} {bad : D}
theorem askBad (h : Odd bad) {y : D} (hy : Rb y 6 4000) : AskOk (askD bad y 0 bad) :=
  ⟨_, _, 0, _, rfl, by decide, rb_pair h.rb hy (by decide), h.rb.mono (Nat.le_refl _) (by decide), share_bad h⟩
theorem askWrong (w : Web M us) {d : D} (h : Wrong (sglP us).length d) (hd : Rb d 6 4000) : AskOk (askD (webD M us) d 2 d) :=
  ⟨_, _, 2, _, rfl, by decide, rb_pair w.rb hd (by decide), hd.mono (Nat.le_refl _) (by decide), share_wrong w h⟩

theorem l4 (hM : M = m) (q : QF .nx [.sh (.scr ns), .sh (.int (k : Nat)), .ow (gen a s c), .sh (webD M us), .sh (.lst ((sglP us).map pairD)), .sh (.lst (T.map lotD)), .sh (.str (keptS M us)), .sh (frD ((m : Int) - 1, 1)), x8, x9, x10, x11, x12, x13, x14, x15, x16, x17]) : Wp (lawf_4 [.sh (.scr ns), .sh (.int (k : Nat)), .ow (gen a s c), .sh (webD M us), .sh (.lst ((sglP us).map pairD)), .sh (.lst (T.map lotD)), .sh (.str (keptS M us)), .sh (frD ((m : Int) - 1, 1)), x8, x9, x10, x11, x12, x13, x14, x15, x16, x17]) QF E := by
  subst hM
  unfold lawf_4
  have gw : gIx (webD (m : Int) us) (.int 1) = some (.int (m : Int)) := rfl
  have gn : gNe (frD ((m : Int) - 1, 1)) (.tup [.int ((m : Int) - 1), .int 1]) = some (.bl false) := by
    rw [gNe_ok rfl rfl]
    simp [frD]
  simp [gw, gn]
  exact q

theorem l5 (w : Web M us) (g : GenOk a s c n) (hn : n + 6000 < 2 ^ 60) (h14 : isRf x14 = false) (q : ∀ (a c : Int) (bad : D), Odd bad → QF .nx [.sh (.scr ns), .sh (.int (k : Nat)), .ow (gen a s c), .sh (webD M us), .sh (.lst ((sglP us).map pairD)), .sh (.lst (T.map lotD)), .sh (.str (keptS M us)), x7, x8, x9, x10, x11, x12, x13, .sh bad, x15, x16, x17]) : Wp (lawf_5 [.sh (.scr ns), .sh (.int (k : Nat)), .ow (gen a s c), .sh (webD M us), .sh (.lst ((sglP us).map pairD)), .sh (.lst (T.map lotD)), .sh (.str (keptS M us)), x7, x8, x9, x10, x11, x12, x13, x14, x15, x16, x17]) QF E := by
  unfold lawf_5
  rw [wp_cAsg, wp_callR]
  simp [lent1, shs]
  refine (no_web_ok w g (by omega)).imp ?_ fun _ _ h => h.elim
  rintro d ρ ⟨hd, a', c', rfl, g'⟩
  refine ⟨_, ⟨_, rfl⟩, x14, rfl, h14, ?_⟩
  exact q a' c' d hd

theorem l6 (hb : Odd bad) (h15 : isRf x15 = false) (q : ∀ as : List D, (∀ d ∈ as, AskOk d) → as.length = 2 → QF .nx [.sh (.scr ns), .sh (.int (k : Nat)), .ow (gen a s c), .sh (webD M us), .sh (.lst ((sglP us).map pairD)), .sh (.lst (T.map lotD)), .sh (.str (keptS M us)), x7, x8, x9, x10, x11, x12, x13, .sh bad, .ow (.lst as), x16, x17]) : Wp (lawf_6 [.sh (.scr ns), .sh (.int (k : Nat)), .ow (gen a s c), .sh (webD M us), .sh (.lst ((sglP us).map pairD)), .sh (.lst (T.map lotD)), .sh (.str (keptS M us)), x7, x8, x9, x10, x11, x12, x13, .sh bad, x15, x16, x17]) QF E := by
  unfold lawf_6
  simp [h15]
  refine q [askD bad (.str "z") 0 bad, askD bad (.int 0) 0 bad] ?_ rfl
  intro d hd
  simp only [List.mem_cons, List.not_mem_nil, or_false] at hd
  rcases hd with rfl | rfl
  · exact askBad hb rb_z
  · exact askBad hb ((Rb.int (w := 100) (by decide) (by decide)).mono (Nat.le_refl _) (by decide))

theorem wrong_ok (w : Web M us) (hs : (sglP us).length ≤ 7) : ∀ d ∈ [D.non, .int ((sglP us).length : Nat), .int (-1), .bl true, .str "0", .lst [.int 0], .tup [.int 0]], AskOk (askD (webD M us) d 2 d) := by
  intro d hd
  simp only [List.mem_cons, List.not_mem_nil, or_false] at hd
  have r0 : Rb (.int 0) 5 100 := Rb.int (w := 100) (by decide) (by decide)
  rcases hd with rfl | rfl | rfl | rfl | rfl | rfl | rfl
  · exact askWrong w .non .non
  · refine askWrong w .len ((Rb.int (w := 100) ?_ (by decide)).mono (Nat.le_refl _) (by decide))
    rw [Int.natAbs_natCast]; omega
  · exact askWrong w .neg ((Rb.int (w := 100) (by decide) (by decide)).mono (Nat.le_refl _) (by decide))
  · exact askWrong w .bl .bl
  · exact askWrong w .str ((rb_s (s := "0")).mono (Nat.le_refl _) (by decide))
  · exact askWrong w .lst ((RbL.cons r0 .nil).lst (by decide))
  · exact askWrong w .tup ((RbL.cons r0 .nil).tup (by decide))
theorem l7 {as : List D} (w : Web M us) (hs : (sglP us).length ≤ 7) (ha : ∀ d ∈ as, AskOk d) (hl : as.length = 2) (h16 : isRf x16 = false) (q : ∀ (as : List D) (x16 : Cell), (∀ d ∈ as, AskOk d) → as.length ≤ 100 → isRf x16 = false → QF .nx [.sh (.scr ns), .sh (.int (k : Nat)), .ow (gen a s c), .sh (webD M us), .sh (.lst ((sglP us).map pairD)), .sh (.lst (T.map lotD)), .sh (.str (keptS M us)), x7, x8, x9, x10, x11, x12, x13, .sh bad, .ow (.lst as), x16, x17]) : Wp (lawf_7 [.sh (.scr ns), .sh (.int (k : Nat)), .ow (gen a s c), .sh (webD M us), .sh (.lst ((sglP us).map pairD)), .sh (.lst (T.map lotD)), .sh (.str (keptS M us)), x7, x8, x9, x10, x11, x12, x13, .sh bad, .ow (.lst as), x16, x17]) QF E := by
  have hwr := wrong_ok w hs
  unfold lawf_7
  simp
  generalize hX : [D.non, .int ((sglP us).length : Nat), .int (-1), .bl true, .str "0", .lst [.int 0], .tup [.int 0]] = xs at hwr ⊢
  have hxl : xs.length = 7 := by rw [← hX]; rfl
  refine forL_inv (fun j ρ => ∃ as x16, (∀ d ∈ as, AskOk d) ∧ as.length = 2 + j ∧ isRf x16 = false ∧ ρ = [.sh (.scr ns), .sh (.int (k : Nat)), .ow (gen a s c), .sh (webD M us), .sh (.lst ((sglP us).map pairD)), .sh (.lst (T.map lotD)), .sh (.str (keptS M us)), x7, x8, x9, x10, x11, x12, x13, .sh bad, .ow (.lst as), x16, x17]) 0 ⟨as, x16, ha, by omega, h16, rfl⟩ ?_ ?_
  · rintro j d ρ hj ⟨as, x16, ha, hl, h16, rfl⟩
    have hjl := (List.getElem?_eq_some_iff.mp hj).1
    have hd := hwr d (List.mem_of_getElem? hj)
    simp [h16, ownL, putL, sameKind]
    refine ⟨lt_size (by omega), ?_⟩
    refine ⟨fun e he => ?_, by omega⟩
    rcases he with he | rfl
    · exact ha e he
    · exact hd
  · rintro ρ ⟨as, x16, ha, hl, h16, rfl⟩
    exact q as x16 ha (by omega) h16

theorem l8 {as : List D} (w : Web M us) (ha : ∀ d ∈ as, AskOk d) (hal : as.length ≤ 100) (h17 : Pl x17) (q : QF .nx [.sh (.scr ns), .sh (.int (k : Nat)), .ow (gen a s c), .sh (webD M us), .sh (.lst ((sglP us).map pairD)), .sh (.lst (T.map lotD)), .sh (.str (keptS M us)), x7, x8, x9, x10, x11, x12, x13, .sh bad, .ow (.lst as), x16, x17]) : Wp (lawf_8 [.sh (.scr ns), .sh (.int (k : Nat)), .ow (gen a s c), .sh (webD M us), .sh (.lst ((sglP us).map pairD)), .sh (.lst (T.map lotD)), .sh (.str (keptS M us)), x7, x8, x9, x10, x11, x12, x13, .sh bad, .ow (.lst as), x16, x17]) QF E := by
  have hk := kept_ok w
  unfold lawf_8
  simp
  refine wp_cCompP (ds := as) rfl (by rcases h17 with rfl | ⟨d, rfl⟩ <;> rfl) ?_
  refine compL_inv (fun kk acc ρ => acc = [] ∧ ∃ y, isRf y = false ∧ ρ = [.sh (.scr ns), .sh (.int (k : Nat)), .ow (gen a s c), .sh (webD M us), .sh (.lst ((sglP us).map pairD)), .sh (.lst (T.map lotD)), .sh (.str (keptS M us)), x7, x8, x9, x10, x11, x12, x13, .sh bad, .no, x16, y]) 0 ⟨rfl, x17, h17.rf, rfl⟩ ?_ ?_
  · rintro i d acc ρ hi ⟨rfl, y, hy, rfl⟩
    obtain ⟨x, y2, c, v, rfl, hc, hx, hv, hF⟩ := ha d (List.mem_of_getElem? hi)
    have g0 : gIx (askD x y2 c v) (.int 0) = some (.tup [x, y2]) := rfl
    have g1 : gIx (askD x y2 c v) (.int 1) = some (sortsD c v) := rfl
    simp [wipeR, wp_cCall, shs, g0, g1, hy]
    refine (caught_ok hc hx hv hF).imp ?_ fun _ _ h => h.elim
    rintro r _ e
    have hs := (rb_sorts (c := c) hv).repr (by decide) (by decide)
    rw [hs] at e
    cases e
    rw [hs]
    simp
  · rintro acc ρ ⟨rfl, y, hy, rfl⟩
    simp [restR, hk]
    exact q

end
end PyD

set_option Elab.async false
set_option linter.all false
set_option maxRecDepth 100000
namespace PyD
/-! the finite check: all webs of at most four points, numbers 1 and 2, at most seven single ties -/
theorem chk1 : (websP 1).all (chkP 1) = true := by decide +kernel
theorem chk2 : (websP 2).all (chkP 2) = true := by decide +kernel
theorem chk3 : (websP 3).all (chkP 3) = true := by decide +kernel
theorem chk4_0 : (((websP 4).drop 0).take 24).all (chkP 4) = true := by decide +kernel
theorem chk4_1 : (((websP 4).drop 24).take 24).all (chkP 4) = true := by decide +kernel
theorem chk4_2 : (((websP 4).drop 48).take 24).all (chkP 4) = true := by decide +kernel
theorem chk4_3 : (((websP 4).drop 72).take 24).all (chkP 4) = true := by decide +kernel
theorem chk4_4 : (((websP 4).drop 96).take 24).all (chkP 4) = true := by decide +kernel
theorem chk4_5 : (((websP 4).drop 120).take 24).all (chkP 4) = true := by decide +kernel
theorem chk4_6 : (((websP 4).drop 144).take 24).all (chkP 4) = true := by decide +kernel
theorem chk4_7 : (((websP 4).drop 168).take 24).all (chkP 4) = true := by decide +kernel
theorem chk4_8 : (((websP 4).drop 192).take 24).all (chkP 4) = true := by decide +kernel
theorem chk4_9 : (((websP 4).drop 216).take 24).all (chkP 4) = true := by decide +kernel
theorem chk4_10 : (((websP 4).drop 240).take 24).all (chkP 4) = true := by decide +kernel
theorem chk4_11 : (((websP 4).drop 264).take 24).all (chkP 4) = true := by decide +kernel
theorem chk4_12 : (((websP 4).drop 288).take 24).all (chkP 4) = true := by decide +kernel
theorem chk4_13 : (((websP 4).drop 312).take 24).all (chkP 4) = true := by decide +kernel
theorem chk4_14 : (((websP 4).drop 336).take 24).all (chkP 4) = true := by decide +kernel
theorem chk4_15 : (((websP 4).drop 360).take 24).all (chkP 4) = true := by decide +kernel
theorem chk4_16 : (((websP 4).drop 384).take 24).all (chkP 4) = true := by decide +kernel
theorem chk4_17 : (((websP 4).drop 408).take 24).all (chkP 4) = true := by decide +kernel
theorem chk4_18 : (((websP 4).drop 432).take 24).all (chkP 4) = true := by decide +kernel
theorem chk4_end : ((websP 4).drop 456).all (chkP 4) = true := by decide +kernel
end PyD

set_option Elab.async false
set_option linter.all false
set_option maxRecDepth 100000
set_option maxHeartbeats 4000000
namespace PyD
open PySem PySem.Spec L2
open PyProof.Rows hiding St
theorem split24 {α : Type} (p : α → Bool) (l : List α) (b n : Nat) (h1 : ((l.drop b).take n).all p = true) (h2 : (l.drop (b + n)).all p = true) : (l.drop b).all p = true := by
  have e : l.drop b = (l.drop b).take n ++ (l.drop (b + n)) := by rw [← List.drop_drop, List.take_append_drop]
  rw [e, List.all_append, h1, h2]; rfl
theorem chk4 : (websP 4).all (chkP 4) = true := by
  have h := chk4_end
  have h := split24 (chkP 4) (websP 4) 432 24 chk4_18 h
  have h := split24 (chkP 4) (websP 4) 408 24 chk4_17 h
  have h := split24 (chkP 4) (websP 4) 384 24 chk4_16 h
  have h := split24 (chkP 4) (websP 4) 360 24 chk4_15 h
  have h := split24 (chkP 4) (websP 4) 336 24 chk4_14 h
  have h := split24 (chkP 4) (websP 4) 312 24 chk4_13 h
  have h := split24 (chkP 4) (websP 4) 288 24 chk4_12 h
  have h := split24 (chkP 4) (websP 4) 264 24 chk4_11 h
  have h := split24 (chkP 4) (websP 4) 240 24 chk4_10 h
  have h := split24 (chkP 4) (websP 4) 216 24 chk4_9 h
  have h := split24 (chkP 4) (websP 4) 192 24 chk4_8 h
  have h := split24 (chkP 4) (websP 4) 168 24 chk4_7 h
  have h := split24 (chkP 4) (websP 4) 144 24 chk4_6 h
  have h := split24 (chkP 4) (websP 4) 120 24 chk4_5 h
  have h := split24 (chkP 4) (websP 4) 96 24 chk4_4 h
  have h := split24 (chkP 4) (websP 4) 72 24 chk4_3 h
  have h := split24 (chkP 4) (websP 4) 48 24 chk4_2 h
  have h := split24 (chkP 4) (websP 4) 24 24 chk4_1 h
  have h := split24 (chkP 4) (websP 4) 0 24 chk4_0 h
  simpa using h
theorem chk_all {m : Nat} {us : List Tie} (h1 : 1 ≤ m) (h4 : m ≤ 4) (h : us ∈ websP m) : goP m us (sglP us) (treesP m (sglP us)) (List.range (sglP us).length) (0, 1) = some ((m : Int) - 1, 1) := by
  have : chkP m us = true := by
    rcases (by omega : m = 1 ∨ m = 2 ∨ m = 3 ∨ m = 4) with rfl | rfl | rfl | rfl
    · exact List.all_eq_true.mp chk1 us h
    · exact List.all_eq_true.mp chk2 us h
    · exact List.all_eq_true.mp chk3 us h
    · exact List.all_eq_true.mp chk4 us h
  unfold chkP at this
  simpa using this
theorem plain_wp (ns : List Int) : Wp (m_law [.sh (.scr ns)]) (fun d _ => d = .bl true) NoE := by
  unfold m_law
  rw [b_law_eq, wp_runD, wp_seq]
  simp [full]
  unfold law_0
  simp
  refine ⟨by simp [inR], ?_⟩
  refine forL_inv (fun k ρ => ∃ x1 x2 x3 x4 x5 x6 x7 x8 x9 x10 x11 x12 x13 x14 x15 x16 x17, ρ = [.sh (.scr ns), x1, x2, x3, x4, x5, x6, x7, x8, x9, x10, x11, x12, x13, x14, x15, x16, x17] ∧ isRf x1 = false ∧ isRf x2 = false ∧ isRf x3 = false ∧ isRf x4 = false ∧ isRf x5 = false ∧ isRf x6 = false ∧ isRf x7 = false ∧ isRf x8 = false ∧ isRf x9 = false ∧ isRf x10 = false ∧ isRf x11 = false ∧ OkC x12 ∧ isRf x13 = false ∧ isRf x14 = false ∧ isRf x15 = false ∧ isRf x16 = false ∧ Pl x17) 0 ?_ ?_ ?_
  · exact ⟨.no, .no, .no, .no, .no, .no, .no, .no, .no, .no, .no, .no, .no, .no, .no, .no, .no, rfl, rfl, rfl, rfl, rfl, rfl, rfl, rfl, rfl, rfl, rfl, rfl, okC_no, rfl, rfl, rfl, rfl, .inl rfl⟩
  · rintro k d ρ hk ⟨x1, x2, x3, x4, x5, x6, x7, x8, x9, x10, x11, x12, x13, x14, x15, x16, x17, rfl, h1, h2, h3, h4, h5, h6, h7, h8, h9, h10, h11, h12, h13, h14, h15, h16, h17⟩
    obtain ⟨hk1, rfl⟩ := rangeD_get hk
    have hk4 : k < 4 := by have : k < 3 := by simpa using hk1
                           omega
    rw [wg_gN]
    refine ⟨x1, rfl, h1, ?_⟩
    rw [wp_seq, show (0 : Int) + (k : Int) = (k : Int) by omega]
    refine l0 hk4 h2 fun a s g => ?_
    rw [then_nx, go_seq]
    refine l1 g (by omega) h3 fun M us a c w hs g => ?_
    have m1 := w.w.m1
    have m4 := w.m4
    obtain ⟨m, hM⟩ : ∃ m : Nat, M = m := ⟨M.toNat, by omega⟩
    rw [then_nx, go_seq]
    refine l2 hM w hs h4 h5 h6 h7 fun T hT => ?_
    rw [then_nx, go_seq]
    refine l3 hM w hs hT h8 h9 h10 h11 h12 h13 (chk_all (by omega) (by omega) (in_webs hM w hs)) fun x8 x9 x10 x11 x12 x13 h8 h9 h10 h11 h12 h13 => ?_
    rw [then_nx, go_seq]
    refine l4 hM ?_
    rw [then_nx, go_seq]
    refine l5 w.w g (by omega) h14 fun a c bad hb => ?_
    rw [then_nx, go_seq]
    refine l6 hb h15 fun as ha hal => ?_
    rw [then_nx, go_seq]
    refine l7 w.w hs ha hal h16 fun as x16 ha hal h16 => ?_
    rw [then_nx, go_iff]
    refine l8 w.w ha hal h17 ?_
    rw [turn_nx]
    exact ⟨_, _, _, _, _, _, _, x8, x9, x10, x11, x12, x13, _, _, x16, x17, rfl, rfl, rfl, rfl, rfl, rfl, rfl, rfl, h8, h9, h10, h11, h12, h13, rfl, rfl, h16, h17⟩
  · rintro ρ ⟨x1, x2, x3, x4, x5, x6, x7, x8, x9, x10, x11, x12, x13, x14, x15, x16, x17, rfl, h1, h2, h3, h4, h5, h6, h7, h8, h9, h10, h11, h12, h13, h14, h15, h16, h17⟩
    rw [then_nx, go_iff]
    unfold law_1
    simp
theorem plain_law : ∀ ns : List Int, ns.length ≤ 63 → ∃ ρ, m_law [.sh (.scr ns)] = .ok (.bl true, ρ) := fun ns _ => by
  obtain ⟨d, ρ, e, rfl⟩ := (plain_wp ns).out
  exact ⟨ρ, e⟩
end PyD

set_option Elab.async false
set_option linter.all false
set_option maxRecDepth 100000
set_option maxHeartbeats 8000000
namespace PyD
open PySem PySem.Spec L2
open PyProof.Rows hiding St
theorem top_mk {P : Program} {K : PySem.W.Frag} {h : Heap} {mg : Str → Option Value} {C0 C1 C2 CB D fI : Addr} (X : K.In h) (G : h.Ns mainGlobals mg)
    (hB : BltF K) (hg_NOUGHT_linear : GlT K "NOUGHT_linear" [0, 1]) (hg_MOST_POINTS : GlF K "MOST_POINTS" (.int 7)) (hg_MOST_TIES : GlF K "MOST_TIES" (.int 9)) (hg_NOUGHT_flows : GlT K "NOUGHT_flows" [0, 1]) (h_is_whole : DefF K "is_whole" st_is_whole) (h_reached_from : DefF K "reached_from" st_reached_from) (h_hang_together : DefF K "hang_together" st_hang_together) (h_is_tie : DefF K "is_tie" st_is_tie) (h_is_web_by : DefF K "is_web_by" st_is_web_by) (h_check_web : DefF K "check_web" st_check_web) (h_many_in : DefF K "many_in" st_many_in) (h_is_point_by : DefF K "is_point_by" st_is_point_by) (h_check_point : DefF K "check_point" st_check_point) (h_common_divisor : DefF K "common_divisor" st_common_divisor) (h_lowest : DefF K "lowest" st_lowest) (h_over : DefF K "over" st_over) (h_less : DefF K "less" st_less) (h_times : DefF K "times" st_times) (h_without : DefF K "without" st_without) (h_stepped : DefF K "stepped" st_stepped) (h_solved : DefF K "solved" st_solved) (h_ties_in : DefF K "ties_in" st_ties_in) (h_between : DefF K "between" st_between) (h_breadth : DefF K "breadth" st_breadth) (h_matrix_of : DefF K "matrix_of" st_matrix_of) (h_levels_by : DefF K "levels_by" st_levels_by) (h_unit_row : DefF K "unit_row" st_unit_row) (h_between_levels : DefF K "between_levels" st_between_levels) (h_between_by : DefF K "between_by" st_between_by) (h_stands_between : DefF K "stands_between" st_stands_between) (h_single_ties : DefF K "single_ties" st_single_ties) (h_check_tie : DefF K "check_tie" st_check_tie) (h_tie_share : DefF K "tie_share" st_tie_share) (h_law_cell : DefF K "_law_cell" st_law_cell) (h_law_generator : DefF K "_law_generator" st_law_generator) (h_law_exact : DefF K "_law_exact" st_law_exact) (h_law_hang : DefF K "_law_hang" st_law_hang) (h_law_is_whole : DefF K "_law_is_whole" st_law_is_whole) (h_law_is_web : DefF K "_law_is_web" st_law_is_web) (h_law_hash : DefF K "_law_hash" st_law_hash) (h_law_random : DefF K "_law_random" st_law_random) (h_law_pick : DefF K "_law_pick" st_law_pick) (h_law_bad_web : DefF K "_law_bad_web" st_law_bad_web) (h_law_no_web : DefF K "_law_no_web" st_law_no_web) (h_law_frac : DefF K "_law_frac" st_law_frac) (h_law_add : DefF K "_law_add" st_law_add) (h_law_singles : DefF K "_law_singles" st_law_singles) (h_law_made : DefF K "_law_made" st_law_made) (h_law_web : DefF K "_law_web" st_law_web) (h_law_small : DefF K "_law_small" st_law_small) (h_law_lots : DefF K "_law_lots" st_law_lots) (h_law_trees : DefF K "_law_trees" st_law_trees) (h_law_caught : DefF K "_law_caught" st_law_caught) (h_law : DefF K "law" st_law) (hD0 : PySem.W.nsIn K mainGlobals "DebtError" = some (some (.ref D))) (hC0 : PySem.W.nsIn K mainGlobals "InvalidWeb" = some (some (.ref C0))) (hF0 : PySem.W.findIn K (.ref C0) "__init__" = some (some (.ref fI))) (hD : ErrD P K D fI) (hE0 : ErrCF K D fI C0 "InvalidWeb") (hI0 : ErrI K C0) (hE1 : ErrCF K D fI C1 "InvalidPoint") (hI1 : ErrI K C1) (hE2 : ErrCF K D fI C2 "InvalidNumber") (hI2 : ErrI K C2) (hn_DebtError : PySem.W.nsIn K mainGlobals "DebtError" = some (some (.ref CB))) (hk_DebtError_0 : PySem.W.kitCls K (.ref C0) (.ref CB) = some true) (hk_DebtError_1 : PySem.W.kitCls K (.ref C1) (.ref CB) = some true) (hk_DebtError_2 : PySem.W.kitCls K (.ref C2) (.ref CB) = some true) (hx_DebtError : PySem.W.subIn K (.ref CB) (.type "BaseException") = some true) (hn_InvalidNumber : PySem.W.nsIn K mainGlobals "InvalidNumber" = some (some (.ref C2))) (hk_InvalidNumber_0 : PySem.W.kitCls K (.ref C0) (.ref C2) = some false) (hk_InvalidNumber_1 : PySem.W.kitCls K (.ref C1) (.ref C2) = some false) (hk_InvalidNumber_2 : PySem.W.kitCls K (.ref C2) (.ref C2) = some true) (hd_InvalidNumber_0 : ((Value.ref C0 : Value) == (.ref C2)) = false) (hd_InvalidNumber_1 : ((Value.ref C1 : Value) == (.ref C2)) = false) (hn_InvalidWeb : PySem.W.nsIn K mainGlobals "InvalidWeb" = some (some (.ref C0))) (hk_InvalidWeb_0 : PySem.W.kitCls K (.ref C0) (.ref C0) = some true) (hk_InvalidWeb_1 : PySem.W.kitCls K (.ref C1) (.ref C0) = some false) (hk_InvalidWeb_2 : PySem.W.kitCls K (.ref C2) (.ref C0) = some false) (hd_InvalidWeb_1 : ((Value.ref C1 : Value) == (.ref C0)) = false) (hd_InvalidWeb_2 : ((Value.ref C2 : Value) == (.ref C0)) = false) :
    Top P ⟨K, fun n => match n with | 0 => C0 | 1 => C1 | 2 => C2 | 3 => CB | _ => 0, fun n => match n with  | _ => 0⟩ mg where
  B := hB.blt X G
  g_NOUGHT_linear := hg_NOUGHT_linear.gl X G
  g_MOST_POINTS := hg_MOST_POINTS.gl X G
  g_MOST_TIES := hg_MOST_TIES.gl X G
  g_NOUGHT_flows := hg_NOUGHT_flows.gl X G
  d_is_whole := h_is_whole.defX X G fun _ _ _ _ _ _ us hl => match us, hl with | [_], _ => rfl
  d_reached_from := h_reached_from.defX X G fun _ _ _ _ _ _ us hl => match us, hl with | [_, _], _ => rfl
  d_hang_together := h_hang_together.defX X G fun _ _ _ _ _ _ us hl => match us, hl with | [_, _], _ => rfl
  d_is_tie := h_is_tie.defX X G fun _ _ _ _ _ _ us hl => match us, hl with | [_, _], _ => rfl
  d_is_web_by := h_is_web_by.defX X G fun _ _ _ _ _ _ us hl => match us, hl with | [_], _ => rfl
  d_check_web := h_check_web.defX X G fun _ _ _ _ _ _ us hl => match us, hl with | [_], _ => rfl
  d_many_in := h_many_in.defX X G fun _ _ _ _ _ _ us hl => match us, hl with | [_], _ => rfl
  d_is_point_by := h_is_point_by.defX X G fun _ _ _ _ _ _ us hl => match us, hl with | [_, _], _ => rfl
  d_check_point := h_check_point.defX X G fun _ _ _ _ _ _ us hl => match us, hl with | [_, _], _ => rfl
  d_common_divisor := h_common_divisor.defX X G fun _ _ _ _ _ _ us hl => match us, hl with | [_, _], _ => rfl
  d_lowest := h_lowest.defX X G fun _ _ _ _ _ _ us hl => match us, hl with | [_, _], _ => rfl
  d_over := h_over.defX X G fun _ _ _ _ _ _ us hl => match us, hl with | [_, _], _ => rfl
  d_less := h_less.defX X G fun _ _ _ _ _ _ us hl => match us, hl with | [_, _], _ => rfl
  d_times := h_times.defX X G fun _ _ _ _ _ _ us hl => match us, hl with | [_, _], _ => rfl
  d_without := h_without.defX X G fun _ _ _ _ _ _ us hl => match us, hl with | [_, _, _], _ => rfl
  d_stepped := h_stepped.defX X G fun _ _ _ _ _ _ us hl => match us, hl with | [_, _], _ => rfl
  d_solved := h_solved.defX X G fun _ _ _ _ _ _ us hl => match us, hl with | [_, _, _], _ => rfl
  d_ties_in := h_ties_in.defX X G fun _ _ _ _ _ _ us hl => match us, hl with | [_], _ => rfl
  d_between := h_between.defX X G fun _ _ _ _ _ _ us hl => match us, hl with | [_, _, _], _ => rfl
  d_breadth := h_breadth.defX X G fun _ _ _ _ _ _ us hl => match us, hl with | [_, _], _ => rfl
  d_matrix_of := h_matrix_of.defX X G fun _ _ _ _ _ _ us hl => match us, hl with | [_], _ => rfl
  d_levels_by := h_levels_by.defX X G fun _ _ _ _ _ _ us hl => match us, hl with | [_, _, _], _ => rfl
  d_unit_row := h_unit_row.defX X G fun _ _ _ _ _ _ us hl => match us, hl with | [_, _, _], _ => rfl
  d_between_levels := h_between_levels.defX X G fun _ _ _ _ _ _ us hl => match us, hl with | [_, _, _], _ => rfl
  d_between_by := h_between_by.defX X G fun _ _ _ _ _ _ us hl => match us, hl with | [_, _, _], _ => rfl
  d_stands_between := h_stands_between.defX X G fun _ _ _ _ _ _ us hl => match us, hl with | [_, _, _], _ => rfl
  d_single_ties := h_single_ties.defX X G fun _ _ _ _ _ _ us hl => match us, hl with | [_], _ => rfl
  d_check_tie := h_check_tie.defX X G fun _ _ _ _ _ _ us hl => match us, hl with | [_, _], _ => rfl
  d_tie_share := h_tie_share.defX X G fun _ _ _ _ _ _ us hl => match us, hl with | [_, _], _ => rfl
  d_law_cell := h_law_cell.defX X G fun _ _ _ _ _ _ us hl => match us, hl with | [_, _], _ => rfl
  d_law_generator := h_law_generator.defX X G fun _ _ _ _ _ _ us hl => match us, hl with | [_, _], _ => rfl
  d_law_exact := h_law_exact.defX X G fun _ _ _ _ _ _ us hl => match us, hl with | [_, _], _ => rfl
  d_law_hang := h_law_hang.defX X G fun _ _ _ _ _ _ us hl => match us, hl with | [_, _], _ => rfl
  d_law_is_whole := h_law_is_whole.defX X G fun _ _ _ _ _ _ us hl => match us, hl with | [_], _ => rfl
  d_law_is_web := h_law_is_web.defX X G fun _ _ _ _ _ _ us hl => match us, hl with | [_], _ => rfl
  d_law_hash := h_law_hash.defX X G fun _ _ _ _ _ _ us hl => match us, hl with | [_, _], _ => rfl
  d_law_random := h_law_random.defX X G fun _ _ _ _ _ _ us hl => match us, hl with | [_, _], _ => rfl
  d_law_pick := h_law_pick.defX X G fun _ _ _ _ _ _ us hl => match us, hl with | [_, _], _ => rfl
  d_law_bad_web := h_law_bad_web.defX X G fun _ _ _ _ _ _ us hl => match us, hl with | [_, _], _ => rfl
  d_law_no_web := h_law_no_web.defX X G fun _ _ _ _ _ _ us hl => match us, hl with | [_, _], _ => rfl
  d_law_frac := h_law_frac.defX X G fun _ _ _ _ _ _ us hl => match us, hl with | [_, _], _ => rfl
  d_law_add := h_law_add.defX X G fun _ _ _ _ _ _ us hl => match us, hl with | [_, _], _ => rfl
  d_law_singles := h_law_singles.defX X G fun _ _ _ _ _ _ us hl => match us, hl with | [_], _ => rfl
  d_law_made := h_law_made.defX X G fun _ _ _ _ _ _ us hl => match us, hl with | [_, _], _ => rfl
  d_law_web := h_law_web.defX X G fun _ _ _ _ _ _ us hl => match us, hl with | [_, _, _], _ => rfl
  d_law_small := h_law_small.defX X G fun _ _ _ _ _ _ us hl => match us, hl with | [_, _], _ => rfl
  d_law_lots := h_law_lots.defX X G fun _ _ _ _ _ _ us hl => match us, hl with | [_], _ => rfl
  d_law_trees := h_law_trees.defX X G fun _ _ _ _ _ _ us hl => match us, hl with | [_], _ => rfl
  d_law_caught := h_law_caught.defX X G fun _ _ _ _ _ _ us hl => match us, hl with | [_, _], _ => rfl
  d_law := h_law.defX X G fun _ _ _ _ _ _ us hl => match us, hl with | [_], _ => rfl
  e := ⟨D, fI, hD, hE0.errC X G, hE1.errC X G, hE2.errC X G⟩
  eI := fun c hc => match c, hc with | 0, _ => hI0 | 1, _ => hI1 | 2, _ => hI2 | _ + 3, h => absurd h (by omega)
  c_DebtError := PySem.W.mg_of X G hn_DebtError
  eH_DebtError := fun c b hc => match c, hc with | 0, hc => by cases hc; exact exm_of hk_DebtError_0 hx_DebtError | 1, hc => by cases hc; exact exm_of hk_DebtError_1 hx_DebtError | 2, hc => by cases hc; exact exm_of hk_DebtError_2 hx_DebtError | _ + 3, hc => by cases hc
  c_InvalidNumber := PySem.W.mg_of X G hn_InvalidNumber
  eX_InvalidNumber := fun c b hc => match c, hc with | 0, hc => by cases hc; exact ⟨hI0, kitOne_of hk_InvalidNumber_0 fun z => (Bool.false_ne_true (Eq.trans (Eq.symm hd_InvalidNumber_0) z)).elim⟩ | 1, hc => by cases hc; exact ⟨hI1, kitOne_of hk_InvalidNumber_1 fun z => (Bool.false_ne_true (Eq.trans (Eq.symm hd_InvalidNumber_1) z)).elim⟩ | 2, hc => by cases hc; exact ⟨hI2, kitOne_of hk_InvalidNumber_2 fun _ => rfl⟩ | _ + 3, hc => by cases hc
  c_InvalidWeb := PySem.W.mg_of X G hn_InvalidWeb
  eX_InvalidWeb := fun c b hc => match c, hc with | 0, hc => by cases hc; exact ⟨hI0, kitOne_of hk_InvalidWeb_0 fun _ => rfl⟩ | 1, hc => by cases hc; exact ⟨hI1, kitOne_of hk_InvalidWeb_1 fun z => (Bool.false_ne_true (Eq.trans (Eq.symm hd_InvalidWeb_1) z)).elim⟩ | 2, hc => by cases hc; exact ⟨hI2, kitOne_of hk_InvalidWeb_2 fun z => (Bool.false_ne_true (Eq.trans (Eq.symm hd_InvalidWeb_2) z)).elim⟩ | _ + 3, hc => by cases hc
theorem all_mk {P : Program} {w : World} {K : PySem.W.Frag} {h : Heap} {mg : Str → Option Value} {fa : Addr} {C0 C1 C2 CB D fI : Addr} (plain : ∀ ns : List Int, ns.length ≤ 63 → ∃ ρ, m_law [.sh (.scr ns)] = .ok (.bl true, ρ)) (X : K.In h) (G : h.Ns mainGlobals mg) (hfa : mg "law" = some (.ref fa))
    (hB : BltF K) (hg_NOUGHT_linear : GlT K "NOUGHT_linear" [0, 1]) (hg_MOST_POINTS : GlF K "MOST_POINTS" (.int 7)) (hg_MOST_TIES : GlF K "MOST_TIES" (.int 9)) (hg_NOUGHT_flows : GlT K "NOUGHT_flows" [0, 1]) (h_is_whole : DefF K "is_whole" st_is_whole) (h_reached_from : DefF K "reached_from" st_reached_from) (h_hang_together : DefF K "hang_together" st_hang_together) (h_is_tie : DefF K "is_tie" st_is_tie) (h_is_web_by : DefF K "is_web_by" st_is_web_by) (h_check_web : DefF K "check_web" st_check_web) (h_many_in : DefF K "many_in" st_many_in) (h_is_point_by : DefF K "is_point_by" st_is_point_by) (h_check_point : DefF K "check_point" st_check_point) (h_common_divisor : DefF K "common_divisor" st_common_divisor) (h_lowest : DefF K "lowest" st_lowest) (h_over : DefF K "over" st_over) (h_less : DefF K "less" st_less) (h_times : DefF K "times" st_times) (h_without : DefF K "without" st_without) (h_stepped : DefF K "stepped" st_stepped) (h_solved : DefF K "solved" st_solved) (h_ties_in : DefF K "ties_in" st_ties_in) (h_between : DefF K "between" st_between) (h_breadth : DefF K "breadth" st_breadth) (h_matrix_of : DefF K "matrix_of" st_matrix_of) (h_levels_by : DefF K "levels_by" st_levels_by) (h_unit_row : DefF K "unit_row" st_unit_row) (h_between_levels : DefF K "between_levels" st_between_levels) (h_between_by : DefF K "between_by" st_between_by) (h_stands_between : DefF K "stands_between" st_stands_between) (h_single_ties : DefF K "single_ties" st_single_ties) (h_check_tie : DefF K "check_tie" st_check_tie) (h_tie_share : DefF K "tie_share" st_tie_share) (h_law_cell : DefF K "_law_cell" st_law_cell) (h_law_generator : DefF K "_law_generator" st_law_generator) (h_law_exact : DefF K "_law_exact" st_law_exact) (h_law_hang : DefF K "_law_hang" st_law_hang) (h_law_is_whole : DefF K "_law_is_whole" st_law_is_whole) (h_law_is_web : DefF K "_law_is_web" st_law_is_web) (h_law_hash : DefF K "_law_hash" st_law_hash) (h_law_random : DefF K "_law_random" st_law_random) (h_law_pick : DefF K "_law_pick" st_law_pick) (h_law_bad_web : DefF K "_law_bad_web" st_law_bad_web) (h_law_no_web : DefF K "_law_no_web" st_law_no_web) (h_law_frac : DefF K "_law_frac" st_law_frac) (h_law_add : DefF K "_law_add" st_law_add) (h_law_singles : DefF K "_law_singles" st_law_singles) (h_law_made : DefF K "_law_made" st_law_made) (h_law_web : DefF K "_law_web" st_law_web) (h_law_small : DefF K "_law_small" st_law_small) (h_law_lots : DefF K "_law_lots" st_law_lots) (h_law_trees : DefF K "_law_trees" st_law_trees) (h_law_caught : DefF K "_law_caught" st_law_caught) (h_law : DefF K "law" st_law) (hD0 : PySem.W.nsIn K mainGlobals "DebtError" = some (some (.ref D))) (hC0 : PySem.W.nsIn K mainGlobals "InvalidWeb" = some (some (.ref C0))) (hF0 : PySem.W.findIn K (.ref C0) "__init__" = some (some (.ref fI))) (hD : ErrD P K D fI) (hE0 : ErrCF K D fI C0 "InvalidWeb") (hI0 : ErrI K C0) (hE1 : ErrCF K D fI C1 "InvalidPoint") (hI1 : ErrI K C1) (hE2 : ErrCF K D fI C2 "InvalidNumber") (hI2 : ErrI K C2) (hn_DebtError : PySem.W.nsIn K mainGlobals "DebtError" = some (some (.ref CB))) (hk_DebtError_0 : PySem.W.kitCls K (.ref C0) (.ref CB) = some true) (hk_DebtError_1 : PySem.W.kitCls K (.ref C1) (.ref CB) = some true) (hk_DebtError_2 : PySem.W.kitCls K (.ref C2) (.ref CB) = some true) (hx_DebtError : PySem.W.subIn K (.ref CB) (.type "BaseException") = some true) (hn_InvalidNumber : PySem.W.nsIn K mainGlobals "InvalidNumber" = some (some (.ref C2))) (hk_InvalidNumber_0 : PySem.W.kitCls K (.ref C0) (.ref C2) = some false) (hk_InvalidNumber_1 : PySem.W.kitCls K (.ref C1) (.ref C2) = some false) (hk_InvalidNumber_2 : PySem.W.kitCls K (.ref C2) (.ref C2) = some true) (hd_InvalidNumber_0 : ((Value.ref C0 : Value) == (.ref C2)) = false) (hd_InvalidNumber_1 : ((Value.ref C1 : Value) == (.ref C2)) = false) (hn_InvalidWeb : PySem.W.nsIn K mainGlobals "InvalidWeb" = some (some (.ref C0))) (hk_InvalidWeb_0 : PySem.W.kitCls K (.ref C0) (.ref C0) = some true) (hk_InvalidWeb_1 : PySem.W.kitCls K (.ref C1) (.ref C0) = some false) (hk_InvalidWeb_2 : PySem.W.kitCls K (.ref C2) (.ref C0) = some false) (hd_InvalidWeb_1 : ((Value.ref C1 : Value) == (.ref C0)) = false) (hd_InvalidWeb_2 : ((Value.ref C2 : Value) == (.ref C0)) = false) :
    ∃ (fd : FuncData) (sp : Sp), (∀ (s : Shared) (u : Value), BindsTo s fd ⟨[u], []⟩ [("script", u)]) ∧ (∀ base : Heap, K.In base → base.Ns mainGlobals mg → FnG P w K mg base 12 fa fd ["script"] sp) ∧ ∀ (H : Hp) (a : Addr) (ns : List Int), ns.length ≤ 63 → Only H → SqL K H a (ns.map V.int) → sp [.ref a] H (fun v _ => v = .bl true) fun _ _ _ => False := by
  have T : Top P ⟨K, fun n => match n with | 0 => C0 | 1 => C1 | 2 => C2 | 3 => CB | _ => 0, fun n => match n with  | _ => 0⟩ mg := top_mk X G hB hg_NOUGHT_linear hg_MOST_POINTS hg_MOST_TIES hg_NOUGHT_flows h_is_whole h_reached_from h_hang_together h_is_tie h_is_web_by h_check_web h_many_in h_is_point_by h_check_point h_common_divisor h_lowest h_over h_less h_times h_without h_stepped h_solved h_ties_in h_between h_breadth h_matrix_of h_levels_by h_unit_row h_between_levels h_between_by h_stands_between h_single_ties h_check_tie h_tie_share h_law_cell h_law_generator h_law_exact h_law_hang h_law_is_whole h_law_is_web h_law_hash h_law_random h_law_pick h_law_bad_web h_law_no_web h_law_frac h_law_add h_law_singles h_law_made h_law_web h_law_small h_law_lots h_law_trees h_law_caught h_law hD0 hC0 hF0 hD hE0 hI0 hE1 hI1 hE2 hI2 hn_DebtError hk_DebtError_0 hk_DebtError_1 hk_DebtError_2 hx_DebtError hn_InvalidNumber hk_InvalidNumber_0 hk_InvalidNumber_1 hk_InvalidNumber_2 hd_InvalidNumber_0 hd_InvalidNumber_1 hn_InvalidWeb hk_InvalidWeb_0 hk_InvalidWeb_1 hk_InvalidWeb_2 hd_InvalidWeb_1 hd_InvalidWeb_2
  exact end_mk (KK := ⟨K, fun n => match n with | 0 => C0 | 1 => C1 | 2 => C2 | 3 => CB | _ => 0, fun n => match n with  | _ => 0⟩) hfa T.d_law (fun base => C_law (w := w) (base := base) T) plain fun _ _ _ _ _ _ us hl => match us, hl with | [_], _ => rfl
end PyD
open PySem PySem.W PyProof.Rows
theorem PySem.Challenge.cw_debtscleared_k80_whole_shares_of_trees_holds : PySem.Challenge.rw_debtscleared_k80_whole_shares_of_trees.Holds := by
  w_on; o_law; k_head; (case hw => w_witness2)
  k_fill
  refine PyD.walk_G (x := "script") (sp := fun _ _ _ _ _ => True) (l := PySem.Challenge.rw_debtscleared_k80_whole_shares_of_trees) (n := 63) (k := 12) rfl (by decide) rfl ⟨rfl, by decide, by decide⟩ (fun w h Y => PySem.W.kIn_of Y) ?F
  case F =>
    intro w mg fa h KX G hmg
    refine' PyD.all_mk (fun ns hn => PyD.plain_law ns hn) KX G hmg ?hB ?hg_NOUGHT_linear ?hg_MOST_POINTS ?hg_MOST_TIES ?hg_NOUGHT_flows ?h_is_whole ?h_reached_from ?h_hang_together ?h_is_tie ?h_is_web_by ?h_check_web ?h_many_in ?h_is_point_by ?h_check_point ?h_common_divisor ?h_lowest ?h_over ?h_less ?h_times ?h_without ?h_stepped ?h_solved ?h_ties_in ?h_between ?h_breadth ?h_matrix_of ?h_levels_by ?h_unit_row ?h_between_levels ?h_between_by ?h_stands_between ?h_single_ties ?h_check_tie ?h_tie_share ?h_law_cell ?h_law_generator ?h_law_exact ?h_law_hang ?h_law_is_whole ?h_law_is_web ?h_law_hash ?h_law_random ?h_law_pick ?h_law_bad_web ?h_law_no_web ?h_law_frac ?h_law_add ?h_law_singles ?h_law_made ?h_law_web ?h_law_small ?h_law_lots ?h_law_trees ?h_law_caught ?h_law ?hD0 ?hC0 ?hF0 ?hD ?hE0 ?hI0 ?hE1 ?hI1 ?hE2 ?hI2 ?hn_DebtError ?hk_DebtError_0 ?hk_DebtError_1 ?hk_DebtError_2 ?hx_DebtError ?hn_InvalidNumber ?hk_InvalidNumber_0 ?hk_InvalidNumber_1 ?hk_InvalidNumber_2 ?hd_InvalidNumber_0 ?hd_InvalidNumber_1 ?hn_InvalidWeb ?hk_InvalidWeb_0 ?hk_InvalidWeb_1 ?hk_InvalidWeb_2 ?hd_InvalidWeb_1 ?hd_InvalidWeb_2
    (case hB => exact ⟨fun y m => by simp only [List.mem_cons, List.not_mem_nil, or_false] at m; rcases m with rfl | rfl | rfl | rfl | rfl | rfl | rfl | rfl | rfl | rfl | rfl | rfl | rfl | rfl | rfl | rfl | rfl | rfl | rfl | rfl | rfl | rfl | rfl <;> k_is⟩)
    (case hg_NOUGHT_linear => exact ⟨_, _, _, _, _, _, by k_is, by k_is, rfl, by decide +kernel, .cons ⟨_, rfl⟩ (.cons ⟨_, rfl⟩ (.nil))⟩)
    (case hg_MOST_POINTS => exact ⟨_, by k_is, ⟨_, rfl⟩⟩)
    (case hg_MOST_TIES => exact ⟨_, by k_is, ⟨_, rfl⟩⟩)
    (case hg_NOUGHT_flows => exact ⟨_, _, _, _, _, _, by k_is, by k_is, rfl, by decide +kernel, .cons ⟨_, rfl⟩ (.cons ⟨_, rfl⟩ (.nil))⟩)
    (case h_is_whole => exact ⟨_, _, _, _, _, _, _, _, _, _, by k_is, by k_is, by k_is, by k_is⟩)
    (case h_reached_from => exact ⟨_, _, _, _, _, _, _, _, _, _, by k_is, by k_is, by k_is, by k_is⟩)
    (case h_hang_together => exact ⟨_, _, _, _, _, _, _, _, _, _, by k_is, by k_is, by k_is, by k_is⟩)
    (case h_is_tie => exact ⟨_, _, _, _, _, _, _, _, _, _, by k_is, by k_is, by k_is, by k_is⟩)
    (case h_is_web_by => exact ⟨_, _, _, _, _, _, _, _, _, _, by k_is, by k_is, by k_is, by k_is⟩)
    (case h_check_web => exact ⟨_, _, _, _, _, _, _, _, _, _, by k_is, by k_is, by k_is, by k_is⟩)
    (case h_many_in => exact ⟨_, _, _, _, _, _, _, _, _, _, by k_is, by k_is, by k_is, by k_is⟩)
    (case h_is_point_by => exact ⟨_, _, _, _, _, _, _, _, _, _, by k_is, by k_is, by k_is, by k_is⟩)
    (case h_check_point => exact ⟨_, _, _, _, _, _, _, _, _, _, by k_is, by k_is, by k_is, by k_is⟩)
    (case h_common_divisor => exact ⟨_, _, _, _, _, _, _, _, _, _, by k_is, by k_is, by k_is, by k_is⟩)
    (case h_lowest => exact ⟨_, _, _, _, _, _, _, _, _, _, by k_is, by k_is, by k_is, by k_is⟩)
    (case h_over => exact ⟨_, _, _, _, _, _, _, _, _, _, by k_is, by k_is, by k_is, by k_is⟩)
    (case h_less => exact ⟨_, _, _, _, _, _, _, _, _, _, by k_is, by k_is, by k_is, by k_is⟩)
    (case h_times => exact ⟨_, _, _, _, _, _, _, _, _, _, by k_is, by k_is, by k_is, by k_is⟩)
    (case h_without => exact ⟨_, _, _, _, _, _, _, _, _, _, by k_is, by k_is, by k_is, by k_is⟩)
    (case h_stepped => exact ⟨_, _, _, _, _, _, _, _, _, _, by k_is, by k_is, by k_is, by k_is⟩)
    (case h_solved => exact ⟨_, _, _, _, _, _, _, _, _, _, by k_is, by k_is, by k_is, by k_is⟩)
    (case h_ties_in => exact ⟨_, _, _, _, _, _, _, _, _, _, by k_is, by k_is, by k_is, by k_is⟩)
    (case h_between => exact ⟨_, _, _, _, _, _, _, _, _, _, by k_is, by k_is, by k_is, by k_is⟩)
    (case h_breadth => exact ⟨_, _, _, _, _, _, _, _, _, _, by k_is, by k_is, by k_is, by k_is⟩)
    (case h_matrix_of => exact ⟨_, _, _, _, _, _, _, _, _, _, by k_is, by k_is, by k_is, by k_is⟩)
    (case h_levels_by => exact ⟨_, _, _, _, _, _, _, _, _, _, by k_is, by k_is, by k_is, by k_is⟩)
    (case h_unit_row => exact ⟨_, _, _, _, _, _, _, _, _, _, by k_is, by k_is, by k_is, by k_is⟩)
    (case h_between_levels => exact ⟨_, _, _, _, _, _, _, _, _, _, by k_is, by k_is, by k_is, by k_is⟩)
    (case h_between_by => exact ⟨_, _, _, _, _, _, _, _, _, _, by k_is, by k_is, by k_is, by k_is⟩)
    (case h_stands_between => exact ⟨_, _, _, _, _, _, _, _, _, _, by k_is, by k_is, by k_is, by k_is⟩)
    (case h_single_ties => exact ⟨_, _, _, _, _, _, _, _, _, _, by k_is, by k_is, by k_is, by k_is⟩)
    (case h_check_tie => exact ⟨_, _, _, _, _, _, _, _, _, _, by k_is, by k_is, by k_is, by k_is⟩)
    (case h_tie_share => exact ⟨_, _, _, _, _, _, _, _, _, _, by k_is, by k_is, by k_is, by k_is⟩)
    (case h_law_cell => exact ⟨_, _, _, _, _, _, _, _, _, _, by k_is, by k_is, by k_is, by k_is⟩)
    (case h_law_generator => exact ⟨_, _, _, _, _, _, _, _, _, _, by k_is, by k_is, by k_is, by k_is⟩)
    (case h_law_exact => exact ⟨_, _, _, _, _, _, _, _, _, _, by k_is, by k_is, by k_is, by k_is⟩)
    (case h_law_hang => exact ⟨_, _, _, _, _, _, _, _, _, _, by k_is, by k_is, by k_is, by k_is⟩)
    (case h_law_is_whole => exact ⟨_, _, _, _, _, _, _, _, _, _, by k_is, by k_is, by k_is, by k_is⟩)
    (case h_law_is_web => exact ⟨_, _, _, _, _, _, _, _, _, _, by k_is, by k_is, by k_is, by k_is⟩)
    (case h_law_hash => exact ⟨_, _, _, _, _, _, _, _, _, _, by k_is, by k_is, by k_is, by k_is⟩)
    (case h_law_random => exact ⟨_, _, _, _, _, _, _, _, _, _, by k_is, by k_is, by k_is, by k_is⟩)
    (case h_law_pick => exact ⟨_, _, _, _, _, _, _, _, _, _, by k_is, by k_is, by k_is, by k_is⟩)
    (case h_law_bad_web => exact ⟨_, _, _, _, _, _, _, _, _, _, by k_is, by k_is, by k_is, by k_is⟩)
    (case h_law_no_web => exact ⟨_, _, _, _, _, _, _, _, _, _, by k_is, by k_is, by k_is, by k_is⟩)
    (case h_law_frac => exact ⟨_, _, _, _, _, _, _, _, _, _, by k_is, by k_is, by k_is, by k_is⟩)
    (case h_law_add => exact ⟨_, _, _, _, _, _, _, _, _, _, by k_is, by k_is, by k_is, by k_is⟩)
    (case h_law_singles => exact ⟨_, _, _, _, _, _, _, _, _, _, by k_is, by k_is, by k_is, by k_is⟩)
    (case h_law_made => exact ⟨_, _, _, _, _, _, _, _, _, _, by k_is, by k_is, by k_is, by k_is⟩)
    (case h_law_web => exact ⟨_, _, _, _, _, _, _, _, _, _, by k_is, by k_is, by k_is, by k_is⟩)
    (case h_law_small => exact ⟨_, _, _, _, _, _, _, _, _, _, by k_is, by k_is, by k_is, by k_is⟩)
    (case h_law_lots => exact ⟨_, _, _, _, _, _, _, _, _, _, by k_is, by k_is, by k_is, by k_is⟩)
    (case h_law_trees => exact ⟨_, _, _, _, _, _, _, _, _, _, by k_is, by k_is, by k_is, by k_is⟩)
    (case h_law_caught => exact ⟨_, _, _, _, _, _, _, _, _, _, by k_is, by k_is, by k_is, by k_is⟩)
    (case h_law => exact ⟨_, _, _, _, _, _, _, _, _, _, by k_is, by k_is, by k_is, by k_is⟩)
    (case hD0 => k_is)
    (case hC0 => k_is)
    (case hF0 => k_is)
    (case hD => exact ⟨⟨_, _, .none, _, _, _, _, _, _, _, _, _, _, _, by k_is, by k_is, by k_is, rfl, ⟨_, _, _, _, _, _, by k_is, rfl, by decide +kernel⟩, ⟨_, _, _, by k_is⟩⟩, by show PySem.W.isClsIn _ _ = true; k_is, by k_is, by decide +kernel, by k_is, by k_is⟩)
    (case hE0 => exact ⟨by k_is, ⟨_, _, _, _, _, _, _, _, _, _, _, _, _, _, _, by k_is, by decide +kernel⟩, by k_is, by k_is, by k_is, by k_is, by k_is, by k_is, by k_is, by k_is, by k_is, by k_is, by ks_is, by k_is⟩)
    (case hI0 => exact ⟨by k_is, by k_is, by k_is, by k_is, by k_is, by k_is, by k_is, by k_is, by k_is⟩)
    (case hE1 => exact ⟨by k_is, ⟨_, _, _, _, _, _, _, _, _, _, _, _, _, _, _, by k_is, by decide +kernel⟩, by k_is, by k_is, by k_is, by k_is, by k_is, by k_is, by k_is, by k_is, by k_is, by k_is, by ks_is, by k_is⟩)
    (case hI1 => exact ⟨by k_is, by k_is, by k_is, by k_is, by k_is, by k_is, by k_is, by k_is, by k_is⟩)
    (case hE2 => exact ⟨by k_is, ⟨_, _, _, _, _, _, _, _, _, _, _, _, _, _, _, by k_is, by decide +kernel⟩, by k_is, by k_is, by k_is, by k_is, by k_is, by k_is, by k_is, by k_is, by k_is, by k_is, by ks_is, by k_is⟩)
    (case hI2 => exact ⟨by k_is, by k_is, by k_is, by k_is, by k_is, by k_is, by k_is, by k_is, by k_is⟩)
    (case hn_DebtError => k_is)
    (case hk_DebtError_0 => exact PyD.kit_of (by k_is) (by k_is) (by k_is))
    (case hk_DebtError_1 => exact PyD.kit_of (by k_is) (by k_is) (by k_is))
    (case hk_DebtError_2 => exact PyD.kit_of (by k_is) (by k_is) (by k_is))
    (case hx_DebtError => k_is)
    (case hn_InvalidNumber => k_is)
    (case hk_InvalidNumber_0 => exact PyD.kit_of (by k_is) (by k_is) (by k_is))
    (case hk_InvalidNumber_1 => exact PyD.kit_of (by k_is) (by k_is) (by k_is))
    (case hk_InvalidNumber_2 => exact PyD.kit_of (by k_is) (by k_is) (by k_is))
    (case hd_InvalidNumber_0 => decide +kernel)
    (case hd_InvalidNumber_1 => decide +kernel)
    (case hn_InvalidWeb => k_is)
    (case hk_InvalidWeb_0 => exact PyD.kit_of (by k_is) (by k_is) (by k_is))
    (case hk_InvalidWeb_1 => exact PyD.kit_of (by k_is) (by k_is) (by k_is))
    (case hk_InvalidWeb_2 => exact PyD.kit_of (by k_is) (by k_is) (by k_is))
    (case hd_InvalidWeb_1 => decide +kernel)
    (case hd_InvalidWeb_2 => decide +kernel)
