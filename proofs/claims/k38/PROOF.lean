import PyProof.Rows.All
import PySem.Challenge.RW_leadlights_k38_whole_rests_of_bends
import Wide.All
import OpenK.AllK
import Wide.FinOn
import PyProof.EqAt
import PyProof.EqKinds
import PyProof.TupleCall
import HandS.ForMost
import HandS.Flow
import HandS.Style
import HandS.TupAny
import HandS.Walk
import HandS.Zip
import HandS.IsInst
import HandS.Wide
import HandS.DictTup
import PyProof.ListMulAny
import PyProof.Rows.SeqMore
import HandS.TupMul
import HandS.TupLe
import HandS.Deep
import KE.DataMinMax
import KE.KTupSum
import KE.SortData
import HandS.SortInts
import HandS.SetFor
import HandS.Strs
import HandS.SortOrd
import HandS.RaiseMore
import KE.KDictDisplayH
import PyProof.Rows.TupDisplay
import KE.GoesMore
import KE.GoesEnum
import HandS.Codes
import HandS.Words
set_option Elab.async false
set_option linter.all false
set_option maxRecDepth 100000
set_option maxHeartbeats 2000000
/-! Rv1: plain data over the abstract heap; slots; what is kept. -/
namespace Rv
open PySem PySem.Spec PyProof.Rows L2

abbrev D := PyData

mutual
inductive Rp (K : PySem.W.Frag) (H : Hp) : V → D → Prop
  | non : Rp K H .non .none
  | bl (b : Bool) : Rp K H (.bl b) (.bool b)
  | int (i : Int) : Rp K H (.int i) (.int i)
  | str (x : Str) : Rp K H (.str x) (.str x)
  | lst {a : Addr} {xs : List V} {ds : List D} : SqL K H a xs → RpAll K H xs ds → Rp K H (.ref a) (.list ds)
  | tup {a : Addr} {xs : List V} {ds : List D} : SqT K H a xs → RpAll K H xs ds → Rp K H (.ref a) (.tuple ds)
inductive RpAll (K : PySem.W.Frag) (H : Hp) : List V → List D → Prop
  | nil : RpAll K H [] []
  | cons {v : V} {vs : List V} {d : D} {ds : List D} : Rp K H v d → RpAll K H vs ds → RpAll K H (v :: vs) (d :: ds)
end

section
variable {K : PySem.W.Frag} {H H' : Hp}
theorem rd_same {a : Addr} {u : HO} (e : Same H H') (h : Rd H a u) : Rd H' a u := by
  rcases h with h | ⟨o, h⟩
  · exact .inl (e _ _ h)
  · exact .inr ⟨o, e _ _ h⟩
theorem sql_same {a : Addr} {xs : List V} (e : Same H H') (h : SqL K H a xs) : SqL K H' a xs := by
  rcases h with h | h
  · exact .inl (rd_same e h)
  · exact .inr h
theorem sqt_same {a : Addr} {xs : List V} (e : Same H H') (h : SqT K H a xs) : SqT K H' a xs := by
  rcases h with h | h
  · exact .inl (rd_same e h)
  · exact .inr h
mutual
theorem Rp.mono (e : Same H H') : ∀ (d : D) (v : V), Rp K H v d → Rp K H' v d
  | .none, _, h => by cases h; exact .non
  | .bool b, _, h => by cases h; exact .bl b
  | .int i, _, h => by cases h; exact .int i
  | .str x, _, h => by cases h; exact .str x
  | .list ds, _, h => by
    cases h with
    | lst r a => exact .lst (sql_same e r) (RpAll.mono e ds _ a)
  | .tuple ds, _, h => by
    cases h with
    | tup r a => exact .tup (sqt_same e r) (RpAll.mono e ds _ a)
  | .dict _, _, h => by cases h
theorem RpAll.mono (e : Same H H') : ∀ (ds : List D) (vs : List V), RpAll K H vs ds → RpAll K H' vs ds
  | [], _, h => by cases h; exact .nil
  | d :: ds, _, h => by
    cases h with
    | cons a b => exact .cons (Rp.mono e d _ a) (RpAll.mono e ds _ b)
end
theorem RpAll.length : ∀ {vs : List V} {ds : List D}, RpAll K H vs ds → vs.length = ds.length
  | [], [], _ => rfl
  | _ :: vs, _ :: ds, h => by
    cases h with
    | cons _ b => rw [List.length_cons, List.length_cons, RpAll.length b]
  | [], _ :: _, h => by cases h
  | _ :: _, [], h => by cases h
theorem RpAll.append : ∀ {vs ws : List V} {ds es : List D}, RpAll K H vs ds → RpAll K H ws es → RpAll K H (vs ++ ws) (ds ++ es)
  | [], _, [], _, _, h2 => h2
  | _ :: vs, _, _ :: ds, _, h, h2 => by
    cases h with
    | cons a b => exact .cons a (RpAll.append b h2)
  | [], _, _ :: _, _, h, _ => by cases h
  | _ :: _, _, [], _, h, _ => by cases h
theorem RpAll.take : ∀ (n : Nat) {vs : List V} {ds : List D}, RpAll K H vs ds → RpAll K H (vs.take n) (ds.take n)
  | 0, _, _, _ => .nil
  | _ + 1, [], [], _ => .nil
  | n + 1, _ :: _, _ :: _, h => by
    cases h with
    | cons a b => exact .cons a (RpAll.take n b)
  | _ + 1, [], _ :: _, h => by cases h
  | _ + 1, _ :: _, [], h => by cases h
theorem RpAll.drop : ∀ (n : Nat) {vs : List V} {ds : List D}, RpAll K H vs ds → RpAll K H (vs.drop n) (ds.drop n)
  | 0, _, _, h => h
  | _ + 1, [], [], _ => .nil
  | n + 1, _ :: _, _ :: _, h => by
    cases h with
    | cons a b => exact RpAll.drop n b
  | _ + 1, [], _ :: _, h => by cases h
  | _ + 1, _ :: _, [], h => by cases h
theorem RpAll.snoc {vs : List V} {ds : List D} {v : V} {d : D} (h : RpAll K H vs ds) (r : Rp K H v d) : RpAll K H (vs ++ [v]) (ds ++ [d]) := h.append (.cons r .nil)
theorem RpAll.get : ∀ {vs : List V} {ds : List D} {i : Nat} {v : V}, RpAll K H vs ds → vs[i]? = some v → ∃ d, ds[i]? = some d ∧ Rp K H v d
  | [], [], _, _, _, e => by simp at e
  | _ :: _, _ :: _, 0, _, h, e => by
    cases h with
    | cons a b => simp only [List.getElem?_cons_zero, Option.some.injEq] at e; subst e; exact ⟨_, rfl, a⟩
  | _ :: _, _ :: _, i + 1, v, h, e => by
    cases h with
    | cons a b => exact RpAll.get (i := i) b (by simpa using e)
  | [], _ :: _, _, _, h, _ => by cases h
  | _ :: _, [], _, _, h, _ => by cases h
theorem RpAll.get' : ∀ {vs : List V} {ds : List D} {i : Nat} {d : D}, RpAll K H vs ds → ds[i]? = some d → ∃ v, vs[i]? = some v ∧ Rp K H v d
  | [], [], _, _, _, e => by simp at e
  | _ :: _, _ :: _, 0, _, h, e => by
    cases h with
    | cons a b => simp only [List.getElem?_cons_zero, Option.some.injEq] at e; subst e; exact ⟨_, rfl, a⟩
  | _ :: _, _ :: _, i + 1, v, h, e => by
    cases h with
    | cons a b => exact RpAll.get' (i := i) b (by simpa using e)
  | [], _ :: _, _, _, h, _ => by cases h
  | _ :: _, [], _, _, h, _ => by cases h
theorem RpAll.set : ∀ (i : Nat) {vs : List V} {ds : List D} {v : V} {d : D}, RpAll K H vs ds → Rp K H v d → RpAll K H (vs.set i v) (ds.set i d)
  | _, [], [], _, _, _, _ => .nil
  | 0, _ :: _, _ :: _, _, _, h, r => by
    cases h with
    | cons a b => exact .cons r b
  | i + 1, _ :: _, _ :: _, _, _, h, r => by
    cases h with
    | cons a b => exact .cons a (RpAll.set i b r)
  | _, [], _ :: _, _, _, h, _ => by cases h
  | _, _ :: _, [], _, _, h, _ => by cases h
theorem RpAll.reverse : ∀ {vs : List V} {ds : List D}, RpAll K H vs ds → RpAll K H vs.reverse ds.reverse
  | [], [], _ => .nil
  | _ :: _, _ :: _, h => by
    cases h with
    | cons a b =>
      rw [List.reverse_cons, List.reverse_cons]
      exact (RpAll.reverse b).append (.cons a .nil)
  | [], _ :: _, h => by cases h
  | _ :: _, [], h => by cases h
theorem RpAll.ints : ∀ {vs : List V} {ns : List Int}, RpAll K H vs (ns.map PyData.int) → vs = ns.map V.int
  | [], [], _ => rfl
  | _ :: _, _ :: _, h => by
    cases h with
    | cons a b => cases a; rw [RpAll.ints b]; rfl
  | [], _ :: _, h => by cases h
  | _ :: _, [], h => by cases h
theorem RpAll.of_ints : ∀ (ns : List Int), RpAll K H (ns.map V.int) (ns.map PyData.int)
  | [] => .nil
  | n :: ns => .cons (.int n) (RpAll.of_ints ns)
mutual
theorem Rp.dp : ∀ (d : D) (v : V), Rp K H v d → Dp K H v d
  | .none, _, h => by cases h; exact .non
  | .bool b, _, h => by cases h; exact .bl b
  | .int i, _, h => by cases h; exact .int i
  | .str x, _, h => by cases h; exact .str x
  | .list ds, _, h => by
    cases h with
    | lst r a => exact .lst r (RpAll.dp ds _ a)
  | .tuple ds, _, h => by
    cases h with
    | tup r a => exact .tup r (RpAll.dp ds _ a)
  | .dict _, _, h => by cases h
theorem RpAll.dp : ∀ (ds : List D) (vs : List V), RpAll K H vs ds → DpAll K H vs ds
  | [], _, h => by cases h; exact .nil
  | d :: ds, _, h => by
    cases h with
    | cons a b => exact .cons (Rp.dp d _ a) (RpAll.dp ds _ b)
end
end

/-! ### slots -/
inductive Sl where
  | no
  | pd (d : D)
  | own (l : List D)
  | bor (l : List D)
  | dic (kvs : List (List Key × D))
  | dik (kvs : List (Key × D))
abbrev En := List Sl
def Sl.held : Sl → Option (List D)
  | .own l => some l
  | .bor l => some l
  | _ => none
def heldAt (env : En) (i : Nat) : Option (List D) := (env[i]?).bind Sl.held

def Sl.owns : Sl → Bool
  | .own _ => true
  | .bor _ => true
  | .dic _ => true
  | .dik _ => true
  | _ => false
def Sl.isD : Sl → Bool
  | .dic _ => true
  | .dik _ => true
  | _ => false
def ownsAt (env : En) (i : Nat) : Bool := match env[i]? with
  | some s => s.owns
  | none => false
theorem owns_held {env : En} {i : Nat} {l : List D} (h : heldAt env i = some l) : ownsAt env i = true := by
  unfold heldAt at h; unfold ownsAt
  cases e : env[i]? with
  | none => rw [e] at h; cases h
  | some s => rw [e] at h; cases s <;> first | rfl | cases h
theorem owns_d {env : En} {i : Nat} {s : Sl} (h : env[i]? = some s) (hd : s.isD = true) : ownsAt env i = true := by
  unfold ownsAt; rw [h]; cases s <;> first | rfl | cases hd
theorem owns_cases {env : En} {i : Nat} (h : ownsAt env i = true) : (∃ l, heldAt env i = some l) ∨ ∃ s, env[i]? = some s ∧ s.isD = true := by
  unfold ownsAt at h; unfold heldAt
  cases e : env[i]? with
  | none => rw [e] at h; cases h
  | some s =>
    rw [e] at h
    cases s with
    | no => cases h
    | pd d => cases h
    | own l => exact .inl ⟨l, rfl⟩
    | bor l => exact .inl ⟨l, rfl⟩
    | dic k => exact .inr ⟨_, rfl, rfl⟩
    | dik k => exact .inr ⟨_, rfl, rfl⟩
def OwnAt (env : En) (σ : L2.St) (i : Nat) (a : Addr) : Prop := ownsAt env i = true ∧ σ[i]? = some (some (V.ref a))
def Own (env : En) (σ : L2.St) (a : Addr) : Prop := ∃ i, OwnAt env σ i a

structure Pm where
  K : PySem.W.Frag
  H0 : Hp
  F0 : Hp
  mu : Option (Nat × Addr)
  hs : List Key → Int
/-- an entry of a dict whose keys are tuples of ints and texts -/
def KyR (K : PySem.W.Frag) (F : Hp) (x : List Key × D) (y : List Key × Addr × Value) : Prop := x.1 = y.1 ∧ SqT K F y.2.1 (y.1.map kV) ∧ ∃ v, RelV v y.2.2 ∧ Rp K F v x.2
def dicO (a : Addr) (es : Array DictEntry) (ep : Nat) : HO := .ext fun h => DT.Raw h a es ep ∧ (a == sysModules) = false
def DicIs (p : Pm) (F : Hp) (a : Addr) (u : Option HO) (kvs : List (List Key × D)) : Prop :=
  ∃ (es : Array DictEntry) (ep : Nat) (ys : List (List Key × Addr × Value)), u = some (dicO a es ep) ∧ es.toList = ys.map (fun y => (⟨p.hs y.1, .ref y.2.1, y.2.2⟩ : DictEntry)) ∧ (ys.map (·.1)).Nodup ∧ Paired (KyR p.K F) kvs ys
theorem DicIs.mono {p : Pm} {F F' : Hp} {a : Addr} {u : Option HO} {kvs : List (List Key × D)} (s : Same F F') (h : DicIs p F a u kvs) : DicIs p F' a u kvs := by
  obtain ⟨es, ep, ys, h1, h2, h3, h4⟩ := h
  exact ⟨es, ep, ys, h1, h2, h3, Paired.mapP h4 fun x y ⟨e1, e2, v, e3, e4⟩ => ⟨e1, sqt_same s e2, v, e3, e4.mono s⟩⟩
/-- .. whose keys are ints and texts -/
def DikIs (p : Pm) (F : Hp) (u : Option HO) (kvs : List (Key × D)) : Prop := ∃ ys : List (Key × V), u = some (.dK ys) ∧ Paired (fun (x : Key × D) (y : Key × V) => x.1 = y.1 ∧ Rp p.K F y.2 x.2) kvs ys
def DicS (p : Pm) (F : Hp) (a : Addr) (u : Option HO) (s : Sl) : Prop :=
  match s with
  | .dic kvs => DicIs p F a u kvs
  | .dik kvs => DikIs p F u kvs
  | _ => False
theorem DicS.mono {p : Pm} {F F' : Hp} {a : Addr} {u : Option HO} {s : Sl} (sm : Same F F') (h : DicS p F a u s) : DicS p F' a u s := by
  cases s with
  | dic kvs => exact DicIs.mono sm h
  | dik kvs =>
    obtain ⟨ys, h1, h2⟩ := h
    exact ⟨ys, h1, Paired.mapP h2 fun x y ⟨e1, e2⟩ => ⟨e1, e2.mono sm⟩⟩
  | no => exact h
  | pd d => exact h
  | own l => exact h
  | bor l => exact h
theorem DicS.some {p : Pm} {F : Hp} {a : Addr} {u : Option HO} {s : Sl} (h : DicS p F a u s) : ∃ o, u = some o := by
  cases s with
  | dic kvs => obtain ⟨es, ep, ys, h1, _⟩ := h; exact ⟨_, h1⟩
  | dik kvs => obtain ⟨ys, h1, _⟩ := h; exact ⟨_, h1⟩
  | no => exact h.elim
  | pd d => exact h.elim
  | own l => exact h.elim
  | bor l => exact h.elim
theorem DicS.ne {p : Pm} {F H : Hp} {a q : Addr} {s : Sl} (d : DicS p F a (H a) s) (h : H q = none) : a ≠ q := fun z => by
  obtain ⟨o, h1⟩ := d.some
  rw [z, h] at h1; cases h1
theorem DicS.keep {p : Pm} {F F' H H' : Hp} {a : Addr} {s : Sl} (d : DicS p F a (H a) s) (k : ∀ o, H a = Option.some o → H' a = Option.some o) (sm : Same F F') : DicS p F' a (H' a) s := by
  obtain ⟨o, h1⟩ := d.some
  rw [k o h1, ← h1]
  exact d.mono sm

/-- what holds of the heaps from the def's entry on -/
structure HRel (p : Pm) (F H : Hp) : Prop where
  sub : Same F H
  old : ∀ b o, p.H0 b = some o → (∀ i, p.mu ≠ some (i, b)) → H b = some o
  oldf : ∀ b, p.H0 b ≠ none → F b = p.F0 b
  there : ∀ b, p.H0 b ≠ none → H b ≠ none

structure Rel (p : Pm) (env : En) (σ : L2.St) (F H : Hp) : Prop where
  hr : HRel p F H
  pdo : ∀ (i : Nat) (d : D), env[i]? = some (.pd d) → ∃ v, σ[i]? = some (some v) ∧ Rp p.K F v d
  owo : ∀ (i : Nat) (l : List D), heldAt env i = some l → ∃ (a : Addr) (xs : List V), σ[i]? = some (some (V.ref a)) ∧ H a = some (.lst xs) ∧ F a = none ∧ RpAll p.K F xs l
  inj : ∀ (i j : Nat) (a : Addr), OwnAt env σ i a → OwnAt env σ j a → i = j
  new : ∀ (i : Nat) (l : List D) (a : Addr), env[i]? = some (.own l) → σ[i]? = some (some (V.ref a)) → p.H0 a = none
  bor : ∀ (i : Nat) (l : List D), env[i]? = some (.bor l) → ∃ a : Addr, p.mu = some (i, a) ∧ σ[i]? = some (some (V.ref a))
  mub : ∀ (i : Nat) (a : Addr), p.mu = some (i, a) → ∃ l, env[i]? = some (.bor l)
  len : env.length = σ.length
  dio : ∀ (i : Nat) (s : Sl), env[i]? = some s → s.isD = true → ∃ a : Addr, σ[i]? = some (some (V.ref a)) ∧ F a = none ∧ p.H0 a = none ∧ DicS p F a (H a) s

/-- what an expression leaves -/
structure Step (env : En) (σ : L2.St) (F H : Hp) (env' : En) (F' H' : Hp) : Prop where
  keep : ∀ b o, H b = some o → ¬ Own env σ b → H' b = some o
  kf : ∀ b, H b ≠ none → ¬ Own env σ b → F' b = F b
  there : ∀ b, H b ≠ none → H' b ≠ none
  owl : ∀ b, Own env' σ b → Own env σ b
  sub : Same F F'

section
variable {p : Pm} {env env' env'' : En} {σ : L2.St} {F H F' H' F'' H'' : Hp}
theorem Rel.own_some (r : Rel p env σ F H) {b : Addr} (h : Own env σ b) : ∃ o, H b = some o ∧ F b = none := by
  obtain ⟨i, h1, h2⟩ := h
  rcases owns_cases h1 with ⟨l, hl⟩ | ⟨s, hk, hd⟩
  · obtain ⟨a, xs, e1, e2, e3, _⟩ := r.owo i l hl
    rw [h2] at e1; cases e1
    exact ⟨_, e2, e3⟩
  · obtain ⟨a, e1, e2, _, e3⟩ := r.dio i s hk hd
    rw [h2] at e1; cases e1
    obtain ⟨o, e4⟩ := e3.some
    exact ⟨o, e4, e2⟩
theorem Rel.not_own (r : Rel p env σ F H) {b : Addr} (h : H b = none) : ¬ Own env σ b := fun o => by
  obtain ⟨xs, e, _⟩ := r.own_some o
  rw [h] at e; cases e
theorem Step.refl (env : En) (σ : L2.St) (F H : Hp) : Step env σ F H env F H := ⟨fun _ _ h _ => h, fun _ _ _ => rfl, fun _ h => h, fun _ h => h, Same.refl F⟩
theorem Step.trans (a : Step env σ F H env' F' H') (b : Step env' σ F' H' env'' F'' H'') : Step env σ F H env'' F'' H'' :=
  ⟨fun c o h n => b.keep c o (a.keep c o h n) fun z => n (a.owl c z), fun c h n => (b.kf c (a.there c h) fun z => n (a.owl c z)).trans (a.kf c h n), fun c h => b.there c (a.there c h), fun c z => a.owl c (b.owl c z), a.sub.trans b.sub⟩
theorem same_upd {o : HO} {q : Addr} (h : H q = none) : Same H (upd H q o) := fun b x e => by
  rw [upd_ne (ne_of_none e h)]
  exact e
theorem none_of_same {q : Addr} (s : Same F H) (h : H q = none) : F q = none := s.free h
/-- a new object, not given -/
theorem HRel.alloc (r : HRel p F H) {q : Addr} {o : HO} (h : H q = none) : HRel p F (upd H q o) :=
  ⟨r.sub.trans (same_upd h), fun b u e n => by have := r.old b u e n; rw [upd_ne (ne_of_none this h)]; exact this, r.oldf, fun b e => by
    have := r.there b e
    have hb : b ≠ q := fun z => this (by rw [z]; exact h)
    rw [upd_ne hb]; exact this⟩
/-- .. given -/
theorem HRel.give (r : HRel p F H) {q : Addr} {o : HO} (h : H q = none) : HRel p (upd F q o) (upd H q o) := by
  have hf := none_of_same r.sub h
  refine ⟨fun b u e => ?_, (r.alloc h).old, fun b e => ?_, (r.alloc h).there⟩
  · by_cases hb : b = q
    · subst hb; rw [upd_same] at e ⊢; exact e
    · rw [upd_ne hb] at e ⊢; exact r.sub b u e
  · have hb : b ≠ q := fun z => r.there b e (by rw [z]; exact h)
    rw [upd_ne hb]; exact r.oldf b e
theorem Rel.alloc (r : Rel p env σ F H) {q : Addr} {o : HO} (h : H q = none) : Rel p env σ F (upd H q o) :=
  ⟨r.hr.alloc h, r.pdo, fun i l e => by
    obtain ⟨a, xs, e1, e2, e3, e4⟩ := r.owo i l e
    exact ⟨a, xs, e1, by rw [upd_ne (ne_of_none e2 h)]; exact e2, e3, e4⟩, r.inj, r.new, r.bor, r.mub, r.len, fun i s e hd => by
    obtain ⟨a, e1, e2, e3, e4⟩ := r.dio i s e hd
    exact ⟨a, e1, e2, e3, by rw [upd_ne (e4.ne h)]; exact e4⟩⟩
theorem Rel.give (r : Rel p env σ F H) {q : Addr} {o : HO} (h : H q = none) : Rel p env σ (upd F q o) (upd H q o) := by
  have hf := none_of_same r.hr.sub h
  have sf : Same F (upd F q o) := same_upd hf
  refine ⟨r.hr.give h, fun i d e => ?_, fun i l e => ?_, r.inj, r.new, r.bor, r.mub, r.len, fun i s e hd => by
    obtain ⟨a, e1, e2, e3, e4⟩ := r.dio i s e hd
    have na := e4.ne h
    exact ⟨a, e1, by rw [upd_ne na]; exact e2, e3, by rw [upd_ne na]; exact e4.mono sf⟩⟩
  · obtain ⟨v, e1, e2⟩ := r.pdo i d e
    exact ⟨v, e1, e2.mono sf⟩
  · obtain ⟨a, xs, e1, e2, e3, e4⟩ := r.owo i l e
    have na := ne_of_none e2 h
    exact ⟨a, xs, e1, by rw [upd_ne na]; exact e2, by rw [upd_ne na]; exact e3, e4.mono sf⟩
theorem Step.alloc {q : Addr} {o : HO} (h : H q = none) : Step env σ F H env F (upd H q o) :=
  ⟨fun b u e _ => by rw [upd_ne (ne_of_none e h)]; exact e, fun _ _ _ => rfl, fun b e => by
    have hb : b ≠ q := fun z => e (by rw [z]; exact h)
    rw [upd_ne hb]; exact e, fun _ z => z, Same.refl F⟩
theorem Step.give (hs : Same F H) {q : Addr} {o : HO} (h : H q = none) : Step env σ F H env (upd F q o) (upd H q o) :=
  ⟨fun b u e _ => by rw [upd_ne (ne_of_none e h)]; exact e, fun b e _ => by
    have hb : b ≠ q := fun z => e (by rw [z]; exact h)
    rw [upd_ne hb], fun b e => by
    have hb : b ≠ q := fun z => e (by rw [z]; exact h)
    rw [upd_ne hb]; exact e, fun _ z => z, same_upd (none_of_same hs h)⟩
/-- an object that nobody owns is frozen -/
theorem Rel.freeze (r : Rel p env σ F H) {q : Addr} {o : HO} (h : H q = some o) (hf : F q = none) (h0 : p.H0 q = none) (hn : ¬ Own env σ q) : Rel p env σ (upd F q o) H := by
  have sf : Same F (upd F q o) := same_upd hf
  refine ⟨⟨fun b u e => ?_, r.hr.old, fun b e => ?_, r.hr.there⟩, fun i d e => ?_, fun i l e => ?_, r.inj, r.new, r.bor, r.mub, r.len, fun i s e hd => by
    obtain ⟨a, e1, e2, e3, e4⟩ := r.dio i s e hd
    have na : a ≠ q := fun z => hn ⟨i, owns_d e hd, by rw [← z]; exact e1⟩
    exact ⟨a, e1, by rw [upd_ne na]; exact e2, e3, e4.mono sf⟩⟩
  · by_cases hb : b = q
    · subst hb; rw [upd_same] at e; rw [h]; exact e
    · rw [upd_ne hb] at e; exact r.hr.sub b u e
  · have hb : b ≠ q := fun z => e (by rw [z]; exact h0)
    rw [upd_ne hb]; exact r.hr.oldf b e
  · obtain ⟨v, e1, e2⟩ := r.pdo i d e
    exact ⟨v, e1, e2.mono sf⟩
  · obtain ⟨a, xs, e1, e2, e3, e4⟩ := r.owo i l e
    have na : a ≠ q := fun z => hn ⟨i, owns_held e, by rw [← z]; exact e1⟩
    exact ⟨a, xs, e1, e2, by rw [upd_ne na]; exact e3, e4.mono sf⟩
theorem heldAt_set {i j : Nat} {s : Sl} (hi : i < env.length) : heldAt (env.set i s) j = if i = j then s.held else heldAt env j := by
  unfold heldAt
  by_cases e : i = j
  · subst e
    rw [List.getElem?_set_self hi, if_pos rfl]; rfl
  · rw [List.getElem?_set_ne e, if_neg e]
theorem ownsAt_set {i j : Nat} {s : Sl} (hi : i < env.length) : ownsAt (env.set i s) j = if i = j then s.owns else ownsAt env j := by
  unfold ownsAt
  by_cases e : i = j
  · subst e
    rw [List.getElem?_set_self hi, if_pos rfl]
  · rw [List.getElem?_set_ne e, if_neg e]
theorem get_lt {i : Nat} {s : Sl} (h : env[i]? = some s) : i < env.length := (List.getElem?_eq_some_iff.mp h).1
/-- an own list is frozen where it stands -/
theorem Rel.freezeSlot (r : Rel p env σ F H) {i : Nat} {l : List D} (h : env[i]? = some (.own l)) :
    ∃ a xs, σ[i]? = some (some (.ref a)) ∧ H a = some (.lst xs) ∧ Rel p (env.set i (.pd (.list l))) σ (upd F a (.lst xs)) H ∧ Step env σ F H (env.set i (.pd (.list l))) (upd F a (.lst xs)) H ∧ Rp p.K (upd F a (.lst xs)) (.ref a) (.list l) := by
  have hi := get_lt h
  have hl : heldAt env i = some l := by unfold heldAt; rw [h]; rfl
  obtain ⟨a, xs, e1, e2, e3, e4⟩ := r.owo i l hl
  have sf : Same F (upd F a (.lst xs)) := same_upd e3
  have oi : OwnAt env σ i a := ⟨owns_held hl, e1⟩
  have back : ∀ j b, OwnAt (env.set i (.pd (.list l))) σ j b → OwnAt env σ j b ∧ i ≠ j := fun j b ⟨o1, o2⟩ => by
    rw [ownsAt_set hi] at o1
    by_cases e : i = j
    · rw [if_pos e] at o1; cases o1
    · rw [if_neg e] at o1; exact ⟨⟨o1, o2⟩, e⟩
  have rp : Rp p.K (upd F a (.lst xs)) (.ref a) (.list l) := .lst (.inl (.inl upd_same)) (e4.mono sf)
  refine ⟨a, xs, e1, e2, ⟨⟨fun b u e => ?_, r.hr.old, fun b e => ?_, r.hr.there⟩, fun j d e => ?_, fun j m e => ?_, fun j k b oj ok => r.inj j k b (back j b oj).1 (back k b ok).1, fun j m b e => ?_, fun j m e => ?_, fun j b e => ?_, ?_, fun j t e hd => ?_⟩, ⟨fun b u e n => e, fun b e n => ?_, fun _ e => e, fun b ⟨j, oj⟩ => ⟨j, (back j b oj).1⟩, sf⟩, rp⟩
  · by_cases hb : b = a
    · subst hb; rw [upd_same] at e; rw [e2]; exact e
    · rw [upd_ne hb] at e; exact r.hr.sub b u e
  · have hb : b ≠ a := fun z => e (by rw [z]; exact r.new i l a h e1)
    rw [upd_ne hb]; exact r.hr.oldf b e
  · by_cases ej : i = j
    · subst ej
      rw [List.getElem?_set_self hi] at e
      cases e
      exact ⟨_, e1, rp⟩
    · rw [List.getElem?_set_ne ej] at e
      obtain ⟨v, q1, q2⟩ := r.pdo j d e
      exact ⟨v, q1, q2.mono sf⟩
  · rw [heldAt_set hi] at e
    by_cases ej : i = j
    · rw [if_pos ej] at e; cases e
    · rw [if_neg ej] at e
      obtain ⟨b, ys, q1, q2, q3, q4⟩ := r.owo j m e
      have na : b ≠ a := fun z => ej (r.inj i j a oi ⟨owns_held e, by rw [← z]; exact q1⟩)
      exact ⟨b, ys, q1, q2, by rw [upd_ne na]; exact q3, q4.mono sf⟩
  · by_cases ej : i = j
    · subst ej; rw [List.getElem?_set_self hi] at e; cases e
    · rw [List.getElem?_set_ne ej] at e; exact r.new j m b e
  · by_cases ej : i = j
    · subst ej; rw [List.getElem?_set_self hi] at e; cases e
    · rw [List.getElem?_set_ne ej] at e; exact r.bor j m e
  · obtain ⟨m, q⟩ := r.mub j b e
    have ej : i ≠ j := fun z => by subst z; rw [h] at q; cases q
    exact ⟨m, by rw [List.getElem?_set_ne ej]; exact q⟩
  · rw [List.length_set]; exact r.len
  · by_cases ej : i = j
    · subst ej; rw [List.getElem?_set_self hi] at e; cases e; cases hd
    · rw [List.getElem?_set_ne ej] at e
      obtain ⟨b, q1, q2, q3, q4⟩ := r.dio j t e hd
      have na : b ≠ a := fun z => ej (r.inj i j a oi ⟨owns_d e hd, by rw [← z]; exact q1⟩)
      exact ⟨b, q1, by rw [upd_ne na]; exact q2, q3, q4.mono sf⟩
  · have hb : b ≠ a := fun z => n ⟨i, by rw [z]; exact oi⟩
    rw [upd_ne hb]
/-- what is held is written -/
theorem Rel.write (r : Rel p env σ F H) {i : Nat} {l l' : List D} {s : Sl} {a : Addr} {xs' : List V} (h : heldAt env i = some l) (hs : (∃ m, env[i]? = some (.own m) ∧ s = .own l') ∨ (∃ m, env[i]? = some (.bor m) ∧ s = .bor l'))
    (hσ : σ[i]? = some (some (.ref a))) (hr : RpAll p.K F xs' l') : Rel p (env.set i s) σ F (upd H a (.lst xs')) ∧ Step env σ F H (env.set i s) F (upd H a (.lst xs')) := by
  have hi : i < env.length := by
    rcases hs with ⟨m, e, _⟩ | ⟨m, e, _⟩ <;> exact get_lt e
  have sh : s.held = some l' := by
    rcases hs with ⟨m, _, e⟩ | ⟨m, _, e⟩ <;> (subst e; rfl)
  obtain ⟨b, xs, e1, e2, e3, e4⟩ := r.owo i l h
  rw [hσ] at e1; cases e1
  have oi : OwnAt env σ i a := ⟨owns_held h, hσ⟩
  have back : ∀ j b, OwnAt (env.set i s) σ j b → OwnAt env σ j b := fun j b ⟨o1, o2⟩ => by
    rw [ownsAt_set hi] at o1
    by_cases e : i = j
    · subst e; rw [hσ] at o2; cases o2; exact oi
    · rw [if_neg e] at o1; exact ⟨o1, o2⟩
  have there : ∀ b, H b ≠ none → upd H a (.lst xs') b ≠ none := fun b e => by
    by_cases hb : b = a
    · subst hb; rw [upd_same]; intro z; cases z
    · rw [upd_ne hb]; exact e
  refine ⟨⟨⟨fun b u e => ?_, fun b u e n => ?_, r.hr.oldf, fun b e => there b (r.hr.there b e)⟩, fun j d e => ?_, fun j m e => ?_, fun j k b oj ok => r.inj j k b (back j b oj) (back k b ok), fun j m b e q => ?_, fun j m e => ?_, fun j b e => ?_, by rw [List.length_set]; exact r.len, fun j t e hd => ?_⟩,
    ⟨fun b u e n => ?_, fun _ _ _ => rfl, there, fun b ⟨j, oj⟩ => ⟨j, back j b oj⟩, Same.refl F⟩⟩
  · have hb : b ≠ a := fun z => by rw [z, e3] at e; cases e
    rw [upd_ne hb]; exact r.hr.sub b u e
  · have hb : b ≠ a := fun z => by
      subst z
      rcases hs with ⟨m, q, _⟩ | ⟨m, q, _⟩
      · rw [r.new i m b q hσ] at e; cases e
      · obtain ⟨c, q1, q2⟩ := r.bor i m q
        rw [hσ] at q2; cases q2
        exact n i q1
    rw [upd_ne hb]; exact r.hr.old b u e n
  · have ej : i ≠ j := fun z => by
      subst z
      rw [List.getElem?_set_self hi] at e
      cases e; cases sh
    rw [List.getElem?_set_ne ej] at e
    exact r.pdo j d e
  · rw [heldAt_set hi] at e
    by_cases ej : i = j
    · subst ej
      rw [if_pos rfl, sh] at e; cases e
      exact ⟨a, xs', hσ, upd_same, e3, hr⟩
    · rw [if_neg ej] at e
      obtain ⟨b, ys, q1, q2, q3, q4⟩ := r.owo j m e
      have na : b ≠ a := fun z => ej (r.inj i j a oi ⟨owns_held e, by rw [← z]; exact q1⟩)
      exact ⟨b, ys, q1, by rw [upd_ne na]; exact q2, q3, q4⟩
  · by_cases ej : i = j
    · subst ej
      rcases hs with ⟨m', q', es⟩ | ⟨m', q', es⟩
      · rw [hσ] at q; cases q; exact r.new i m' a q' hσ
      · rw [List.getElem?_set_self hi, es] at e; cases e
    · rw [List.getElem?_set_ne ej] at e; exact r.new j m b e q
  · by_cases ej : i = j
    · subst ej
      rcases hs with ⟨m', q', es⟩ | ⟨m', q', es⟩
      · rw [List.getElem?_set_self hi, es] at e; cases e
      · exact r.bor i m' q'
    · rw [List.getElem?_set_ne ej] at e; exact r.bor j m e
  · obtain ⟨m, q⟩ := r.mub j b e
    by_cases ej : i = j
    · subst ej
      rcases hs with ⟨m', q', es⟩ | ⟨m', q', es⟩
      · rw [q] at q'; cases q'
      · exact ⟨l', by rw [List.getElem?_set_self hi, es]⟩
    · exact ⟨m, by rw [List.getElem?_set_ne ej]; exact q⟩
  · by_cases ej : i = j
    · subst ej
      rw [List.getElem?_set_self hi] at e
      cases e
      cases s <;> first | (cases hd; done) | (cases sh; done)
    · rw [List.getElem?_set_ne ej] at e
      obtain ⟨b, q1, q2, q3, q4⟩ := r.dio j t e hd
      have na : b ≠ a := fun z => ej (r.inj i j a oi ⟨owns_d e hd, by rw [← z]; exact q1⟩)
      exact ⟨b, q1, q2, q3, by rw [upd_ne na]; exact q4⟩
  · have hb : b ≠ a := fun z => n ⟨i, by rw [z]; exact oi⟩
    rw [upd_ne hb]; exact e
end
end Rv

set_option Elab.async false
set_option linter.all false
set_option maxRecDepth 100000
set_option maxHeartbeats 4000000
/-! Rv2: operators by plain data. -/
namespace Rv
open PySem PySem.Spec PyProof.Rows L2

def isNoneD : D → Bool
  | .none => true
  | _ => false
/-- a value seen: frozen data, or a list that is held -/
inductive Vw (K : PySem.W.Frag) (F H : Hp) : V → D → Prop
  | rp {v : V} {d : D} : Rp K F v d → Vw K F H v d
  | own {a : Addr} {xs : List V} {l : List D} : H a = some (.lst xs) → RpAll K F xs l → Vw K F H (.ref a) (.list l)
inductive Vws (K : PySem.W.Frag) (F H : Hp) : List V → List D → Prop
  | nil : Vws K F H [] []
  | cons {v : V} {vs : List V} {d : D} {ds : List D} : Vw K F H v d → Vws K F H vs ds → Vws K F H (v :: vs) (d :: ds)
section
variable {K : PySem.W.Frag} {F H F' H' : Hp} {v : V} {l : List D}
theorem Vw.list (s : Same F H) (h : Vw K F H v (.list l)) : ∃ a xs, v = .ref a ∧ SqL K H a xs ∧ RpAll K F xs l := by
  cases h with
  | rp r =>
    cases r with
    | lst r a => exact ⟨_, _, rfl, sql_same s r, a⟩
  | own e a => exact ⟨_, _, rfl, .inl (.inl e), a⟩
theorem Vw.tuple (s : Same F H) (h : Vw K F H v (.tuple l)) : ∃ a xs, v = .ref a ∧ SqT K H a xs ∧ RpAll K F xs l := by
  cases h with
  | rp r =>
    cases r with
    | tup r a => exact ⟨_, _, rfl, sqt_same s r, a⟩
theorem Vw.int {i : Int} (h : Vw K F H v (.int i)) : v = .int i := by
  cases h with
  | rp r => cases r; rfl
theorem Vw.bool {i : Bool} (h : Vw K F H v (.bool i)) : v = .bl i := by
  cases h with
  | rp r => cases r; rfl
theorem Vw.str {i : Str} (h : Vw K F H v (.str i)) : v = .str i := by
  cases h with
  | rp r => cases r; rfl
theorem Vw.none (h : Vw K F H v .none) : v = .non := by
  cases h with
  | rp r => cases r; rfl
theorem Vw.dp {d : D} (s : Same F H) (h : Vw K F H v d) : Dp K H v d := by
  cases h with
  | rp r => exact (r.mono s).dp
  | own e a => exact .lst (.inl (.inl e)) ((a.mono s).dp)
theorem Vw.notnone {d : D} (h : Vw K F H v d) : decide (v = .non) = isNoneD d := by
  cases h with
  | rp r => cases r <;> rfl
  | own e a => rfl
theorem rp_of_scal {i : Int} : Rp K F (.int i) (.int i) := .int i
end

/-- what is wanted where the answer is d: a new list, a tuple (new, or one that is known), or a plain value -/
structure Out (K : PySem.W.Frag) (F H : Hp) (d : D) (Q : VK) : Prop where
  old : ∀ v, Rp K F v d → (∀ l, d ≠ .list l) → Q v H
  lst : ∀ q xs l, d = .list l → H q = none → RpAll K F xs l → Q (.ref q) (upd H q (.lst xs))
  tup : ∀ q xs l, d = .tuple l → H q = none → RpAll K F xs l → Q (.ref q) (upd H q (.tup xs))
theorem Out.int {K : PySem.W.Frag} {F H : Hp} {i : Int} {Q : VK} (o : Out K F H (.int i) Q) : Q (.int i) H := o.old _ (.int i) fun _ z => nomatch z
theorem Out.bl {K : PySem.W.Frag} {F H : Hp} {i : Bool} {Q : VK} (o : Out K F H (.bool i) Q) : Q (.bl i) H := o.old _ (.bl i) fun _ z => nomatch z
theorem Out.str {K : PySem.W.Frag} {F H : Hp} {i : Str} {Q : VK} (o : Out K F H (.str i) Q) : Q (.str i) H := o.old _ (.str i) fun _ z => nomatch z
theorem Out.non {K : PySem.W.Frag} {F H : Hp} {Q : VK} (o : Out K F H .none Q) : Q .non H := o.old _ .non fun _ z => nomatch z

def rOp (K : PySem.W.Frag) (f : D → D → Option D) : R2 := fun x y H Q => ∃ F dx dy d, Same F H ∧ Vw K F H x dx ∧ Vw K F H y dy ∧ f dx dy = some d ∧ Out K F H d Q

/-! ### + -/
def addD : D → D → Option D
  | .int i, .int j => some (.int (i + j))
  | .str x, .str y => if x.length + y.length ≤ sizeLine then some (.str (x ++ y)) else none
  | .list x, .list y => if x.length + y.length ≤ sizeLine then some (.list (x ++ y)) else none
  | .tuple x, .tuple y => if x.length + y.length ≤ sizeLine then some (.tuple (x ++ y)) else none
  | _, _ => none
section
variable {X : Cx}
def rCatR (K : PySem.W.Frag) : R2 := fun x y H Q => ∃ l b xs zs, x = .ref l ∧ y = .ref b ∧ SqL K H l xs ∧ SqL K H b zs ∧ xs.length + zs.length ≤ sizeLine ∧ ∀ p, H p = none → Q (.ref p) (upd H p (.lst (xs ++ zs)))
theorem op_catR : OpR X (binaryOp .Add) (rCatR X.K) := by
  intro pins s σ H x y v u Q I rx ry h
  obtain ⟨l, b, xs, zs, rfl, rfl, hH, hB, hz, q⟩ := h
  cases rx
  cases ry
  obtain ⟨its, r, ⟨⟨c1, d1, dt1, sl1⟩, n, e, hc, hd, ht⟩, z⟩ := I.list hH
  obtain ⟨its2, r2, ⟨⟨c2, d2, dt2, sl2⟩, n2, e2, hc2, hd2, ht2⟩, z2⟩ := I.list hB
  simp only at hc hd ht hc2 hd2 ht2
  subst hc hd ht hc2 hd2 ht2
  have hl := r.length
  have hl2 := r2.length
  refine concat_meets ⟨_, e, rfl⟩ ⟨_, e2, rfl⟩ noFill_list_add seq_list_add PySem.F.slot_list_add PySem.F.entry_list_add (PySem.F.args_list_add_2 _ _) (list_addW l b its.toArray its2.toArray n n2 none none sl1 sl2 (by rw [List.size_toArray, List.size_toArray]; omega)) ⟨e, e2, ?_⟩
  have ea : its.toArray ++ its2.toArray = (its ++ its2).toArray := by simp
  rw [ea]
  exact ⟨.ref _, _, I.lnew (t' := s.toks) (r.append r2) (by rw [List.length_append]; omega), rfl, q _ I.fresh⟩
theorem op_addD : OpR X (binaryOp .Add) (rOp X.K addD) := by
  intro pins s σ H x y v u Q I rx ry h
  obtain ⟨F, dx, dy, d, sm, vx, vy, e, o⟩ := h
  unfold addD at e
  split at e
  · cases e
    obtain rfl := vx.int
    obtain rfl := vy.int
    exact op_add pins s σ H _ _ v u Q I rx ry ⟨_, _, rfl, rfl, o.int⟩
  · split at e
    · cases e
      obtain rfl := vx.str
      obtain rfl := vy.str
      exact op_add_str pins s σ H _ _ v u Q I rx ry ⟨_, _, rfl, rfl, by assumption, o.str⟩
    · cases e
  · rename_i l1 l2
    split at e
    · rename_i hz
      cases e
      obtain ⟨a, xs, rfl, r1, a1⟩ := vx.list sm
      obtain ⟨b, ys, rfl, r2, a2⟩ := vy.list sm
      exact op_catR pins s σ H _ _ v u Q I rx ry ⟨_, _, _, _, rfl, rfl, r1, r2, by rw [a1.length, a2.length]; exact hz, fun q hq => o.lst q _ _ rfl hq (a1.append a2)⟩
    · cases e
  · rename_i l1 l2
    split at e
    · rename_i hz
      cases e
      obtain ⟨a, xs, rfl, r1, a1⟩ := vx.tuple sm
      obtain ⟨b, ys, rfl, r2, a2⟩ := vy.tuple sm
      refine op_catA pins s σ H _ _ v u Q I rx ry ⟨_, _, _, _, rfl, rfl, r1, r2, by rw [a1.length, a2.length]; exact hz, fun e => ?_, fun _ e => ?_, fun _ _ q hq => o.tup q _ _ rfl hq (a1.append a2)⟩
      · subst e
        cases a1
        cases vy with
        | rp r => exact o.old _ r fun _ z => nomatch z
      · subst e
        cases a2
        rw [List.append_nil] at o
        cases vx with
        | rp r => exact o.old _ r fun _ z => nomatch z
    · cases e
  · cases e

/-! ### -, *, //, %, ** -/
def subD : D → D → Option D
  | .int i, .int j => some (.int (i - j))
  | _, _ => none
theorem op_subD : OpR X (binaryOp .Sub) (rOp X.K subD) := by
  intro pins s σ H x y v u Q I rx ry h
  obtain ⟨F, dx, dy, d, sm, vx, vy, e, o⟩ := h
  unfold subD at e
  split at e
  · cases e
    obtain rfl := vx.int
    obtain rfl := vy.int
    exact op_sub pins s σ H _ _ v u Q I rx ry ⟨_, _, rfl, rfl, o.int⟩
  · cases e
def mulOk (i j : Int) : Bool := (decide (-(2 ^ 64) < i) && decide (i < 2 ^ 64)) || (decide (-(2 ^ 64) < j) && decide (j < 2 ^ 64)) || decide (i.natAbs.log2 + j.natAbs.log2 < 1000000)
def mulD : D → D → Option D
  | .int i, .int j => if mulOk i j = true then some (.int (i * j)) else none
  | .list l, .int k => if decide (-(2 ^ 63) ≤ k) && decide (k < 2 ^ 63) && decide (l.length * k.toNat ≤ sizeLine) then some (.list (List.replicate k.toNat l).flatten) else none
  | .tuple l, .int k => if (!l.isEmpty) && decide (2 ≤ k) && decide (k ≤ 1000) && decide (l.length ≤ 1000) then some (.tuple (List.replicate k.toNat l).flatten) else none
  | _, _ => none
def rRepR (K : PySem.W.Frag) : R2 := fun x y H Q => ∃ l k xs, x = .ref l ∧ y = .int k ∧ SqL K H l xs ∧ -(2 ^ 63) ≤ k ∧ k < 2 ^ 63 ∧ xs.length * k.toNat ≤ sizeLine ∧
  ∀ p, H p = none → Q (.ref p) (upd H p (.lst (List.replicate k.toNat xs).flatten))
theorem op_repR : OpR X (binaryOp .Mult) (rRepR X.K) := by
  intro pins s σ H x y v u Q I rx ry h
  obtain ⟨l, k, xs, rfl, rfl, hH, h1, h2, hz, q⟩ := h
  cases rx
  obtain ⟨t, rfl⟩ := ry
  obtain ⟨its, r, ⟨⟨c1, d1, dt1, sl1⟩, n, e, hc, hd, ht⟩, z⟩ := I.list hH
  simp only at hc hd ht
  subst hc hd ht
  have hl := r.length
  have hlen : its.toArray.size * k.toNat ≤ sizeLine := by rw [List.size_toArray, ← hl]; exact hz
  have hcap : ¬ its.toArray.size * k.toNat > (2 ^ 63 - 1) / 8 := by
    have : (sizeLine : Nat) ≤ (2 ^ 63 - 1) / 8 := by decide
    omega
  have hfit : ¬ (!Builtin.List.listFitsIndex k) = true := by
    rw [fitsIndex_both h1 h2]
    exact Bool.false_ne_true
  have hlong : ¬ Builtin.List.listTooLong (its.toArray.size * k.toNat) = true := by
    rw [notLongL hlen]
    exact Bool.false_ne_true
  have hnew : List.foldl (fun x1 x2 => x1 ++ x2) #[] (List.replicate (if its.toArray.isEmpty = true then 0 else k.toNat) its.toArray) = (List.replicate k.toNat its).flatten.toArray := by
    have f0 : ∀ m : Nat, List.foldl (fun x1 x2 => x1 ++ x2) #[] (List.replicate m its.toArray) = (List.replicate m its).flatten.toArray := fun m => by
      have := foldl_rep its m []
      rw [List.nil_append] at this
      exact this
    rw [f0]
    cases its with
    | nil => simp
    | cons a r' => rw [if_neg (by simp)]
  refine wpAny_binaryOp_repeat_ref (T := "list") (U := "int") (by decide) ⟨_, e, rfl⟩ (fun s' => typeIs_int s' k t) noFill_list_mul F.fills_int_mul F.slot_int_rmul repeat_list F.slot_int_index.lookup
    (call_meets F.slot_int_rmul (typeIs_int s k t) F.entry_int_rmul (F.args_int_rmul_2 _ _) (lm_int_rmul_list_any k t l its.toArray n none sl1)
      ⟨e, rfl, ⟨_, e, rfl⟩, call_meets F.slot_list_mul ⟨_, e, rfl⟩ F.entry_list_mul (F.args_list_mul_2 _ _) (lm_list_mul_any l its.toArray n none sl1 k t hfit hcap hlong) ⟨e, ?_⟩⟩)
  rw [hnew]
  exact ⟨.ref _, _, I.lnew (t' := s.toks) (r.rep k.toNat) (by rw [PyProof.Rows.lm_len_rep_flat, Nat.mul_comm]; exact hz), rfl, q _ I.fresh⟩
theorem RpAll.rep {K : PySem.W.Frag} {F : Hp} {xs : List V} {l : List D} (h : RpAll K F xs l) : ∀ n : Nat, RpAll K F (List.replicate n xs).flatten (List.replicate n l).flatten
  | 0 => .nil
  | n + 1 => by
    rw [List.replicate_succ, List.replicate_succ, List.flatten_cons, List.flatten_cons]
    exact h.append (h.rep n)
theorem op_mulD : OpR X (binaryOp .Mult) (rOp X.K mulD) := by
  intro pins s σ H x y v u Q I rx ry h
  obtain ⟨F, dx, dy, d, sm, vx, vy, e, o⟩ := h
  unfold mulD at e
  split at e
  · rename_i i j
    split at e
    · rename_i hm
      cases e
      obtain rfl := vx.int
      obtain rfl := vy.int
      unfold mulOk at hm
      simp only [Bool.or_eq_true, Bool.and_eq_true, decide_eq_true_eq] at hm
      rcases hm with (hm | hm) | hm
      · exact op_mul pins s σ H _ _ v u Q I rx ry ⟨_, _, rfl, rfl, .inl hm, o.int⟩
      · exact op_mul pins s σ H _ _ v u Q I rx ry ⟨_, _, rfl, rfl, .inr hm, o.int⟩
      · exact op_mulW pins s σ H _ _ v u Q I rx ry ⟨_, _, rfl, rfl, hm, o.int⟩
    · cases e
  · rename_i l k
    split at e
    · rename_i hm
      cases e
      simp only [Bool.and_eq_true, decide_eq_true_eq] at hm
      obtain ⟨a, xs, rfl, r1, a1⟩ := vx.list sm
      obtain rfl := vy.int
      exact op_repR pins s σ H _ _ v u Q I rx ry ⟨_, _, _, rfl, rfl, r1, hm.1.1, hm.1.2, by rw [a1.length]; exact hm.2, fun q hq => o.lst q _ _ rfl hq (a1.rep _)⟩
    · cases e
  · rename_i l k
    split at e
    · rename_i hm
      cases e
      simp only [Bool.and_eq_true, decide_eq_true_eq, Bool.not_eq_true', List.isEmpty_eq_false_iff] at hm
      obtain ⟨a, xs, rfl, r1, a1⟩ := vx.tuple sm
      obtain rfl := vy.int
      exact op_repT pins s σ H _ _ v u Q I rx ry ⟨_, _, _, rfl, rfl, r1, fun z => by subst z; cases a1; exact hm.1.1.1 rfl, hm.1.1.2, hm.1.2, by rw [a1.length]; exact hm.2, fun q hq => o.tup q _ _ rfl hq (a1.rep _)⟩
    · cases e
  · cases e
def fdivD : D → D → Option D
  | .int i, .int j => if 0 < j ∧ j.natAbs.log2 < 9000 then some (.int (i / j)) else if j ≠ 0 ∧ j.natAbs < 1073741824 then some (.int (i.fdiv j)) else none
  | _, _ => none
theorem op_fdivD : OpR X (binaryOp .FloorDiv) (rOp X.K fdivD) := by
  intro pins s σ H x y v u Q I rx ry h
  obtain ⟨F, dx, dy, d, sm, vx, vy, e, o⟩ := h
  unfold fdivD at e
  split at e
  · split at e
    · cases e
      obtain rfl := vx.int
      obtain rfl := vy.int
      exact op_fdivW pins s σ H _ _ v u Q I rx ry ⟨_, _, rfl, rfl, by assumption, o.int⟩
    · split at e
      · cases e
        obtain rfl := vx.int
        obtain rfl := vy.int
        exact op_fdivN pins s σ H _ _ v u Q I rx ry ⟨_, _, rfl, rfl, by assumption, o.int⟩
      · cases e
  · cases e
def modD : D → D → Option D
  | .int i, .int j => if 0 < j then some (.int (i % j)) else if j ≠ 0 then some (.int (i.fmod j)) else none
  | _, _ => none
theorem op_modD : OpR X (binaryOp .Mod) (rOp X.K modD) := by
  intro pins s σ H x y v u Q I rx ry h
  obtain ⟨F, dx, dy, d, sm, vx, vy, e, o⟩ := h
  unfold modD at e
  split at e
  · split at e
    · cases e
      obtain rfl := vx.int
      obtain rfl := vy.int
      exact op_mod pins s σ H _ _ v u Q I rx ry ⟨_, _, rfl, rfl, by assumption, o.int⟩
    · split at e
      · cases e
        obtain rfl := vx.int
        obtain rfl := vy.int
        exact op_modN pins s σ H _ _ v u Q I rx ry ⟨_, _, rfl, rfl, by assumption, o.int⟩
      · cases e
  · cases e
def powD : D → D → Option D
  | .int i, .int j => if 0 ≤ j ∧ j ≤ 1000000 ∧ i.natAbs < 2 ^ 64 then some (.int (i ^ j.toNat)) else none
  | _, _ => none
theorem op_powD : OpR X (binaryOp .Pow) (rOp X.K powD) := by
  intro pins s σ H x y v u Q I rx ry h
  obtain ⟨F, dx, dy, d, sm, vx, vy, e, o⟩ := h
  unfold powD at e
  split at e
  · split at e
    · cases e
      obtain rfl := vx.int
      obtain rfl := vy.int
      exact op_pow pins s σ H _ _ v u Q I rx ry ⟨_, _, rfl, rfl, by assumption, o.int⟩
    · cases e
  · cases e

/-! ### comparisons -/
def eqD : D → D → Option D
  | .int i, .int j => some (.bool (i == j))
  | d, e => if SeqAt.shaped d && SeqAt.shaped e then some (.bool (PyData.eqv d e)) else none
def neD : D → D → Option D
  | .int i, .int j => some (.bool (!(i == j)))
  | d, e => if SeqAt.shaped d && SeqAt.shaped e then some (.bool (!PyData.eqv d e)) else none
theorem op_eqDD (hu : X.A.units + 65 < cLine) : OpR X (compareOp .Eq) (rOp X.K eqD) := by
  intro pins s σ H x y v u Q I rx ry h
  obtain ⟨F, dx, dy, d, sm, vx, vy, e, o⟩ := h
  unfold eqD at e
  split at e
  · cases e
    obtain rfl := vx.int
    obtain rfl := vy.int
    exact op_eq pins s σ H _ _ v u Q I rx ry ⟨rfl, by rw [dec_int]; exact o.bl⟩
  · split at e
    · rename_i hs
      cases e
      simp only [Bool.and_eq_true] at hs
      exact op_eqD (by omega) pins s σ H _ _ v u Q I rx ry ⟨_, _, vx.dp sm, vy.dp sm, hs.1, hs.2, o.bl⟩
    · cases e
theorem op_neDD (hu : X.A.units + 65 < cLine) : OpR X (compareOp .NotEq) (rOp X.K neD) := by
  intro pins s σ H x y v u Q I rx ry h
  obtain ⟨F, dx, dy, d, sm, vx, vy, e, o⟩ := h
  unfold neD at e
  split at e
  · cases e
    obtain rfl := vx.int
    obtain rfl := vy.int
    exact op_ne pins s σ H _ _ v u Q I rx ry ⟨rfl, by rw [dec_int]; exact o.bl⟩
  · split at e
    · rename_i hs
      cases e
      simp only [Bool.and_eq_true] at hs
      exact op_neD (by omega) pins s σ H _ _ v u Q I rx ry ⟨_, _, vx.dp sm, vy.dp sm, hs.1, hs.2, o.bl⟩
    · cases e
def intsD? : List D → Option (List Int)
  | [] => some []
  | .int i :: r => (intsD? r).map (i :: ·)
  | _ => none
theorem intsD_some : ∀ {l : List D} {ns : List Int}, intsD? l = some ns → l = ns.map PyData.int
  | [], _, h => by cases h; rfl
  | .int i :: r, ns, h => by
    unfold intsD? at h
    cases e : intsD? r with
    | none => rw [e] at h; cases h
    | some ms =>
      rw [e] at h
      cases h
      rw [intsD_some e]
      rfl
  | .none :: _, _, h => by cases h
  | .bool _ :: _, _, h => by cases h
  | .str _ :: _, _, h => by cases h
  | .list _ :: _, _, h => by cases h
  | .tuple _ :: _, _, h => by cases h
  | .dict _ :: _, _, h => by cases h
def lexInts (xs ys : List D) : Option D :=
  match intsD? xs, intsD? ys with
  | some a, some b => some (.bool (HT.lexLt a b))
  | _, _ => none
def ltD : D → D → Option D
  | .int i, .int j => some (.bool (decide (i < j)))
  | .str i, .str j => some (.bool (decide (i.cps.toList < j.cps.toList)))
  | .tuple xs, .tuple ys => lexInts xs ys
  | _, _ => none
theorem op_ltD (hu : X.A.units + 65 < cLine) : OpR X (compareOp .Lt) (rOp X.K ltD) := by
  intro pins s σ H x y v u Q I rx ry h
  obtain ⟨F, dx, dy, d, sm, vx, vy, e, o⟩ := h
  unfold ltD at e
  split at e
  · cases e
    obtain rfl := vx.int
    obtain rfl := vy.int
    exact op_lt pins s σ H _ _ v u Q I rx ry ⟨_, _, rfl, rfl, o.bl⟩
  · cases e
    obtain rfl := vx.str
    obtain rfl := vy.str
    exact op_lt_str pins s σ H _ _ v u Q I rx ry ⟨_, _, rfl, rfl, o.bl⟩
  · rename_i l1 l2
    unfold lexInts at e
    split at e
    · rename_i a b ea eb
      cases e
      have := intsD_some ea; subst this
      have := intsD_some eb; subst this
      obtain ⟨p, xs, rfl, r1, a1⟩ := vx.tuple sm
      obtain ⟨q, ys, rfl, r2, a2⟩ := vy.tuple sm
      have := a1.ints; subst this
      have := a2.ints; subst this
      exact op_ltT (by omega) pins s σ H _ _ v u Q I rx ry ⟨_, _, _, _, rfl, rfl, r1, r2, o.bl⟩
    · cases e
  · cases e
def leD : D → D → Option D
  | .int i, .int j => some (.bool (decide (i ≤ j)))
  | _, _ => none
theorem op_leD : OpR X (compareOp .LtE) (rOp X.K leD) := by
  intro pins s σ H x y v u Q I rx ry h
  obtain ⟨F, dx, dy, d, sm, vx, vy, e, o⟩ := h
  unfold leD at e
  split at e
  · cases e
    obtain rfl := vx.int
    obtain rfl := vy.int
    exact op_le pins s σ H _ _ v u Q I rx ry ⟨_, _, rfl, rfl, o.bl⟩
  · cases e
def gtD : D → D → Option D
  | .int i, .int j => some (.bool (decide (j < i)))
  | _, _ => none
theorem op_gtD : OpR X (compareOp .Gt) (rOp X.K gtD) := by
  intro pins s σ H x y v u Q I rx ry h
  obtain ⟨F, dx, dy, d, sm, vx, vy, e, o⟩ := h
  unfold gtD at e
  split at e
  · cases e
    obtain rfl := vx.int
    obtain rfl := vy.int
    exact op_gt pins s σ H _ _ v u Q I rx ry ⟨_, _, rfl, rfl, o.bl⟩
  · cases e
def geD : D → D → Option D
  | .int i, .int j => some (.bool (decide (j ≤ i)))
  | _, _ => none
theorem op_geD : OpR X (compareOp .GtE) (rOp X.K geD) := by
  intro pins s σ H x y v u Q I rx ry h
  obtain ⟨F, dx, dy, d, sm, vx, vy, e, o⟩ := h
  unfold geD at e
  split at e
  · cases e
    obtain rfl := vx.int
    obtain rfl := vy.int
    exact op_ge pins s σ H _ _ v u Q I rx ry ⟨_, _, rfl, rfl, o.bl⟩
  · cases e
/-- is: None on the right, or two truth values -/
def isD : D → D → Option D
  | d, .none => some (.bool (isNoneD d))
  | .bool a, .bool b => some (.bool (a == b))
  | _, _ => none
theorem op_isD : OpR X (compareOp .Is) (rOp X.K isD) := by
  intro pins s σ H x y v u Q I rx ry h
  obtain ⟨F, dx, dy, d, sm, vx, vy, e, o⟩ := h
  unfold isD at e
  split at e
  · cases e
    obtain rfl := vy.none
    refine op_isN pins s σ H _ _ v u Q I rx ry ⟨rfl, ?_⟩
    rw [vx.notnone]
    exact o.bl
  · cases e
    obtain rfl := vx.bool
    obtain rfl := vy.bool
    refine op_isBl pins s σ H _ _ v u Q I rx ry ⟨_, _, rfl, rfl, ?_⟩
    rw [← Bool.beq_eq_decide_eq]
    exact o.bl
  · cases e
def notD : Option D → Option D
  | some (.bool b) => some (.bool (!b))
  | _ => none
def isNotD (x y : D) : Option D := notD (isD x y)
theorem op_isNotD : OpR X (compareOp .IsNot) (rOp X.K isNotD) := by
  intro pins s σ H x y v u Q I rx ry h
  obtain ⟨F, dx, dy, d, sm, vx, vy, e, o⟩ := h
  unfold isNotD isD at e
  split at e
  · cases e
    obtain rfl := vy.none
    refine op_notN pins s σ H _ _ v u Q I rx ry ⟨rfl, ?_⟩
    rw [vx.notnone]
    exact o.bl
  · cases e
    obtain rfl := vx.bool
    obtain rfl := vy.bool
    refine op_notBl pins s σ H _ _ v u Q I rx ry ⟨_, _, rfl, rfl, ?_⟩
    rw [← Bool.beq_eq_decide_eq]
    exact o.bl
  · cases e
/-- in: a list, a tuple; one sign or more in a text -/
def inD : D → D → Option D
  | d, .list l => if SeqAt.shaped d && SeqAt.shaped (.list l) then some (.bool (l.any fun z => PyData.eqv z d)) else none
  | d, .tuple l => if SeqAt.shaped d && SeqAt.shaped (.tuple l) then some (.bool (l.any fun z => PyData.eqv z d)) else none
  | .str i, .str j => some (.bool (!(Builtin.Str.occurrences j i 0 j.length 1).isEmpty))
  | _, _ => none
theorem op_inDD (hu : X.A.units + 65 < cLine) : OpR X (compareOp .In) (rOp X.K inD) := by
  intro pins s σ H x y v u Q I rx ry h
  obtain ⟨F, dx, dy, d, sm, vx, vy, e, o⟩ := h
  unfold inD at e
  split at e
  · split at e
    · rename_i hs
      cases e
      simp only [Bool.and_eq_true] at hs
      exact op_inD hu pins s σ H _ _ v u Q I rx ry ⟨_, _, vx.dp sm, vy.dp sm, hs.1, hs.2, o.bl⟩
    · cases e
  · split at e
    · rename_i hs
      cases e
      simp only [Bool.and_eq_true] at hs
      obtain ⟨as, r1⟩ := Dp.reads I _ x v (vx.dp sm) rx
      obtain ⟨bs, r2⟩ := Dp.reads I _ y u (vy.dp sm) ry
      exact SeqAt.in_tuple_reads r2 r1 (SeqAt.canLay_of_shaped hs.2) (SeqAt.canLay_of_shaped hs.1) (room_in_shaped hs.1 hu) ⟨.bl _, H, I, rfl, o.bl⟩
    · cases e
  · cases e
    obtain rfl := vx.str
    obtain rfl := vy.str
    exact op_in_str pins s σ H _ _ v u Q I rx ry ⟨_, _, rfl, rfl, o.bl⟩
  · cases e
def notInD (x y : D) : Option D := notD (inD x y)
theorem op_notInDD (hu : X.A.units + 65 < cLine) : OpR X (compareOp .NotIn) (rOp X.K notInD) := by
  intro pins s σ H x y v u Q I rx ry h
  obtain ⟨F, dx, dy, d, sm, vx, vy, e, o⟩ := h
  unfold notInD inD at e
  split at e
  · split at e
    · rename_i hs
      cases e
      simp only [Bool.and_eq_true] at hs
      exact op_notInD hu pins s σ H _ _ v u Q I rx ry ⟨_, _, vx.dp sm, vy.dp sm, hs.1, hs.2, o.bl⟩
    · cases e
  · split at e
    · rename_i hs
      cases e
      simp only [Bool.and_eq_true] at hs
      obtain ⟨as, r1⟩ := Dp.reads I _ x v (vx.dp sm) rx
      obtain ⟨bs, r2⟩ := Dp.reads I _ y u (vy.dp sm) ry
      exact SeqAt.notIn_tuple_reads r2 r1 (SeqAt.canLay_of_shaped hs.2) (SeqAt.canLay_of_shaped hs.1) (room_in_shaped hs.1 hu) ⟨.bl _, H, I, rfl, o.bl⟩
    · cases e
  · cases e
    obtain rfl := vx.str
    obtain rfl := vy.str
    exact op_notin_str pins s σ H _ _ v u Q I rx ry ⟨_, _, rfl, rfl, o.bl⟩
  · cases e
end
end Rv

set_option Elab.async false
set_option linter.all false
set_option maxRecDepth 100000
set_option maxHeartbeats 4000000
/-! Rv3: calls of built-ins, items, slices by plain data. -/
namespace Rv
open PySem PySem.Spec PyProof.Rows L2

def rCl (K : PySem.W.Frag) (f : List D → Option D) : List V → Hp → VK → Prop := fun xs H Q => ∃ F ds d, Same F H ∧ Vws K F H xs ds ∧ f ds = some d ∧ Out K F H d Q
section
variable {K : PySem.W.Frag} {F H : Hp} {xs : List V}
theorem Vws.one {d : D} (h : Vws K F H xs [d]) : ∃ v, xs = [v] ∧ Vw K F H v d := by
  cases h with
  | cons a b => cases b; exact ⟨_, rfl, a⟩
theorem Vws.two {d e : D} (h : Vws K F H xs [d, e]) : ∃ v u, xs = [v, u] ∧ Vw K F H v d ∧ Vw K F H u e := by
  cases h with
  | cons a b =>
    cases b with
    | cons c r => cases r; exact ⟨_, _, rfl, a, c⟩
end
section
variable {X : Cx}
def lenD : List D → Option D
  | [.list l] => some (.int (l.length : Nat))
  | [.tuple l] => some (.int (l.length : Nat))
  | [.str x] => if x.length ≤ sizeLine then some (.int (x.length : Nat)) else none
  | _ => none
theorem cl_len : CallR X (.builtin "len") (rCl X.K lenD) := by
  intro pins s σ H xs us Q I r h
  obtain ⟨F, ds, d, sm, vw, e, o⟩ := h
  unfold lenD at e
  split at e
  · cases e
    obtain ⟨v, rfl, vv⟩ := vw.one
    obtain ⟨a, xs, rfl, r1, a1⟩ := vv.list sm
    exact call_len pins s σ H _ us Q I r ⟨_, _, rfl, .inl ⟨_, r1, rfl⟩, by rw [a1.length]; exact o.int⟩
  · cases e
    obtain ⟨v, rfl, vv⟩ := vw.one
    obtain ⟨a, xs, rfl, r1, a1⟩ := vv.tuple sm
    exact call_len pins s σ H _ us Q I r ⟨_, _, rfl, .inr ⟨_, r1, rfl⟩, by rw [a1.length]; exact o.int⟩
  · split at e
    · cases e
      obtain ⟨v, rfl, vv⟩ := vw.one
      obtain rfl := vv.str
      exact call_len pins s σ H _ us Q I r ⟨_, _, rfl, ⟨by assumption, rfl⟩, o.int⟩
    · cases e
  · cases e
def absD : List D → Option D
  | [.int i] => some (.int (if i < 0 then -i else i))
  | _ => none
theorem cl_abs : CallR X (.builtin "abs") (rCl X.K absD) := by
  intro pins s σ H xs us Q I r h
  obtain ⟨F, ds, d, sm, vw, e, o⟩ := h
  unfold absD at e
  split at e
  · cases e
    obtain ⟨v, rfl, vv⟩ := vw.one
    obtain rfl := vv.int
    exact call_abs pins s σ H _ us Q I r ⟨_, rfl, o.int⟩
  · cases e
def intOf : List D → Option D
  | [.int i] => some (.int i)
  | [.bool b] => some (.int (if b then 1 else 0))
  | _ => none
theorem cl_int : CallR X (.type "int") (rCl X.K intOf) := by
  intro pins s σ H xs us Q I r h
  obtain ⟨F, ds, d, sm, vw, e, o⟩ := h
  unfold intOf at e
  split at e
  · cases e
    obtain ⟨v, rfl, vv⟩ := vw.one
    obtain rfl := vv.int
    exact call_int1 pins s σ H _ us Q I r (.inl ⟨_, rfl, o.int⟩)
  · cases e
    obtain ⟨v, rfl, vv⟩ := vw.one
    obtain rfl := vv.bool
    exact call_int1 pins s σ H _ us Q I r (.inr ⟨_, rfl, o.int⟩)
  · cases e
def listOf : List D → Option D
  | [.list l] => some (.list l)
  | [.tuple l] => some (.list l)
  | _ => none
theorem cl_list : CallR X (.type "list") (rCl X.K listOf) := by
  intro pins s σ H xs us Q I r h
  obtain ⟨F, ds, d, sm, vw, e, o⟩ := h
  unfold listOf at e
  split at e
  · cases e
    obtain ⟨v, rfl, vv⟩ := vw.one
    obtain ⟨a, xs, rfl, r1, a1⟩ := vv.list sm
    exact call_list_of pins s σ H _ us Q I r ⟨_, _, rfl, .inl r1, fun q hq => o.lst q _ _ rfl hq a1⟩
  · cases e
    obtain ⟨v, rfl, vv⟩ := vw.one
    obtain ⟨a, xs, rfl, r1, a1⟩ := vv.tuple sm
    exact call_list_of pins s σ H _ us Q I r ⟨_, _, rfl, .inr r1, fun q hq => o.lst q _ _ rfl hq a1⟩
  · cases e
def tupOf : List D → Option D
  | [.list l] => some (.tuple l)
  | [.tuple l] => some (.tuple l)
  | _ => none
theorem cl_tuple : CallR X (.type "tuple") (rCl X.K tupOf) := by
  intro pins s σ H xs us Q I r h
  obtain ⟨F, ds, d, sm, vw, e, o⟩ := h
  unfold tupOf at e
  split at e
  · cases e
    obtain ⟨v, rfl, vv⟩ := vw.one
    obtain ⟨a, xs, rfl, r1, a1⟩ := vv.list sm
    exact call_tuple_of pins s σ H _ us Q I r ⟨_, _, rfl, .inl ⟨r1, fun q hq => o.tup q _ _ rfl hq a1⟩⟩
  · cases e
    obtain ⟨v, rfl, vv⟩ := vw.one
    obtain ⟨a, xs, rfl, r1, a1⟩ := vv.tuple sm
    refine call_tuple_of pins s σ H _ us Q I r ⟨_, _, rfl, .inr ⟨r1, ?_⟩⟩
    cases vv with
    | rp r => exact o.old _ r fun _ z => nomatch z
  · cases e

/-! ### all, any of truth values -/
def boolsD? : List D → Option (List Bool)
  | [] => some []
  | .bool i :: r => (boolsD? r).map (i :: ·)
  | _ => none
theorem boolsD_some : ∀ {l : List D} {ns : List Bool}, boolsD? l = some ns → l = ns.map PyData.bool
  | [], _, h => by cases h; rfl
  | .bool i :: r, ns, h => by
    unfold boolsD? at h
    cases e : boolsD? r with
    | none => rw [e] at h; cases h
    | some ms =>
      rw [e] at h
      cases h
      rw [boolsD_some e]
      rfl
  | .none :: _, _, h => by cases h
  | .int _ :: _, _, h => by cases h
  | .str _ :: _, _, h => by cases h
  | .list _ :: _, _, h => by cases h
  | .tuple _ :: _, _, h => by cases h
  | .dict _ :: _, _, h => by cases h
theorem RpAll.bools {K : PySem.W.Frag} {H : Hp} : ∀ {vs : List V} {ns : List Bool}, RpAll K H vs (ns.map PyData.bool) → vs = ns.map V.bl
  | [], [], _ => rfl
  | _ :: _, _ :: _, h => by
    cases h with
    | cons a b => cases a; rw [RpAll.bools b]; rfl
  | [], _ :: _, h => by cases h
  | _ :: _, [], h => by cases h
def allD : List D → Option D
  | [.list l] => (boolsD? l).map fun bs => .bool (bs.all id)
  | _ => none
def anyD : List D → Option D
  | [.list l] => (boolsD? l).map fun bs => .bool (bs.any id)
  | _ => none
theorem cl_all (hc : X.calm = true) : CallR X (.builtin "all") (rCl X.K allD) := by
  intro pins s σ H xs us Q I r h
  obtain ⟨F, ds, d, sm, vw, e, o⟩ := h
  unfold allD at e
  split at e
  · rename_i l
    cases eb : boolsD? l with
    | none => rw [eb] at e; cases e
    | some bs =>
      rw [eb] at e; cases e
      have := boolsD_some eb; subst this
      obtain ⟨v, rfl, vv⟩ := vw.one
      obtain ⟨a, xs, rfl, r1, a1⟩ := vv.list sm
      have := a1.bools; subst this
      exact cr_all hc pins s σ H _ us Q I r ⟨_, _, rfl, r1, o.bl⟩
  · cases e
theorem cl_any (hc : X.calm = true) : CallR X (.builtin "any") (rCl X.K anyD) := by
  intro pins s σ H xs us Q I r h
  obtain ⟨F, ds, d, sm, vw, e, o⟩ := h
  unfold anyD at e
  split at e
  · rename_i l
    cases eb : boolsD? l with
    | none => rw [eb] at e; cases e
    | some bs =>
      rw [eb] at e; cases e
      have := boolsD_some eb; subst this
      obtain ⟨v, rfl, vv⟩ := vw.one
      obtain ⟨a, xs, rfl, r1, a1⟩ := vv.list sm
      have := a1.bools; subst this
      exact cr_any hc pins s σ H _ us Q I r ⟨_, _, rfl, r1, o.bl⟩
  · cases e

/-! ### sum, max, min of ints -/
def sumD : List D → Option D
  | [.list l] => (intsD? l).map fun ns => .int ns.sum
  | [.tuple l] => (intsD? l).map fun ns => .int ns.sum
  | _ => none
theorem sum_tup_raw {prog : Program} {w : World} {A : Around} {E : Value → Shared → Prop} {s : Shared} {l : Addr} {its : List Value} {ns : List Int} {Q : Value → Shared → Prop} (hh : A.handled = none) (hl : s.heap.IsTuple l its.toArray) (hi : IntsAre its ns)
    (h : ∀ h' tk t', (∀ b o, s.heap.get? b = some o → h'.get? b = some o) → Q (.int ns.sum t') { s with heap := h', toks := tk }) : wpAny (model prog w) A (call (.builtin "sum") [.ref l]) Q E s := by
  obtain ⟨xs, hx⟩ := hi.allInts.items
  have hn : numsOf its.toArray.toList = ns := by rw [show its.toArray.toList = its from rfl, hi.numsOf]
  rw [hx] at hl hn
  rw [nums_intItems] at hn
  refine PySem.W.ktm_sumG hh hl fun h' tk t' hk => ?_
  have := h h' tk t' hk
  rw [preSum_eq, List.take_of_length_le (by simp), hn]
  exact this
theorem cl_sum (hc : X.calm = true) : CallR X (.builtin "sum") (rCl X.K sumD) := by
  intro pins s σ H xs us Q I r h
  obtain ⟨F, ds, d, sm, vw, e, o⟩ := h
  unfold sumD at e
  split at e
  · rename_i l
    cases eb : intsD? l with
    | none => rw [eb] at e; cases e
    | some bs =>
      rw [eb] at e; cases e
      have := intsD_some eb; subst this
      obtain ⟨v, rfl, vv⟩ := vw.one
      obtain ⟨a, xs, rfl, r1, a1⟩ := vv.list sm
      have := a1.ints; subst this
      exact cr_sum hc pins s σ H _ us Q I r ⟨_, _, rfl, r1, o.int⟩
  · rename_i l
    cases eb : intsD? l with
    | none => rw [eb] at e; cases e
    | some bs =>
      rw [eb] at e; cases e
      have := intsD_some eb; subst this
      obtain ⟨v, rfl, vv⟩ := vw.one
      obtain ⟨a, xs, rfl, r1, a1⟩ := vv.tuple sm
      have := a1.ints; subst this
      obtain ⟨its, rv, ht, _⟩ := I.tuple r1
      rw [Vals.ref1 r]
      exact sum_tup_raw (I.ok.hd hc) ht rv.ints fun h' tk t' hk => ⟨.int _, H, I.kept hk, ⟨_, rfl⟩, o.int⟩
  · cases e
def maxI (n : Int) (ns : List Int) : Int := ns.foldl max n
def minI (n : Int) (ns : List Int) : Int := ns.foldl min n
theorem alike_of_ints : ∀ x y : D, (∃ i, x = .int i) → (∃ j, y = .int j) → PySem.W.alike x y = true := by
  rintro _ _ ⟨i, rfl⟩ ⟨j, rfl⟩
  first | rfl | simp [PySem.W.alike]
theorem alikeAll_ints (ns : List Int) : PySem.W.AlikeAll (ns.map PyData.int) := by
  refine ⟨fun x hx y hy => ?_, fun x hx => ?_⟩
  · obtain ⟨i, _, rfl⟩ := List.mem_map.mp hx
    obtain ⟨j, _, rfl⟩ := List.mem_map.mp hy
    exact alike_of_ints _ _ ⟨i, rfl⟩ ⟨j, rfl⟩
  · obtain ⟨i, _, rfl⟩ := List.mem_map.mp hx
    intro z; cases z
theorem depth_ints : ∀ ns : List Int, PyData.depthAll (ns.map PyData.int) = 0
  | [] => rfl
  | n :: ns => by
    rw [List.map_cons]
    have := depth_ints ns
    first
      | (unfold PyData.depthAll; rw [this]; rfl)
      | simp [PyData.depthAll, PyData.depth, this]
theorem readsAll_ints {h : Heap} : ∀ {us : List Value} {ns : List Int}, IntsAre us ns → ∃ as, ReadsAll h us (ns.map PyData.int) as
  | _, _, .nil => ⟨_, ReadsAll.nil⟩
  | _, _, .cons n t hr => by
    obtain ⟨as, q⟩ := readsAll_ints (h := h) hr
    exact ⟨_, ReadsAll.cons (Reads.int n t) q⟩
theorem Reads.int_is {h : Heap} {v : Value} {m : Int} {as : List Addr} (r : Reads h v (.int m) as) : ∃ t, v = .int m t := by
  cases r
  exact ⟨_, rfl⟩
def maxD1 : List Int → Option D
  | [] => none
  | n :: ns => some (.int (maxI n ns))
def minD1 : List Int → Option D
  | [] => none
  | n :: ns => some (.int (minI n ns))
def maxDD : List D → Option D
  | [.list l] => (intsD? l).bind maxD1
  | [.tuple l] => (intsD? l).bind maxD1
  | [.int i, .int j] => some (.int (if j > i then j else i))
  | _ => none
def minDD : List D → Option D
  | [.list l] => (intsD? l).bind minD1
  | [.tuple l] => (intsD? l).bind minD1
  | [.int i, .int j] => some (.int (if j < i then j else i))
  | _ => none
theorem cl_max (hc : X.calm = true) (hu : X.A.units + 65 < cLine) : CallR X (.builtin "max") (rCl X.K maxDD) := by
  intro pins s σ H xs us Q I r h
  obtain ⟨F, ds, d, sm, vw, e, o⟩ := h
  unfold maxDD at e
  split at e
  · rename_i l
    cases eb : intsD? l with
    | none => rw [eb] at e; cases e
    | some bs =>
      rw [eb] at e
      have := intsD_some eb; subst this
      cases bs with
      | nil => cases e
      | cons n ns =>
        have e : some (PyData.int (maxI n ns)) = some d := e
        cases e
        obtain ⟨v, rfl, vv⟩ := vw.one
        obtain ⟨a, xs, rfl, r1, a1⟩ := vv.list sm
        have := a1.ints; subst this
        obtain ⟨its, rv, hl, _⟩ := I.list (r1)
        rw [Vals.ref1 r]
        obtain ⟨as, ra⟩ := readsAll_ints (h := s.heap) rv.ints
        refine PySem.W.max_list_data (xs := ns.map PyData.int) (x := .int n) (I.ok.hd hc) hl.isList ra (alikeAll_ints (n :: ns)) (by rw [show (PyData.int n :: ns.map PyData.int) = (n :: ns).map PyData.int from rfl, depth_ints]; omega) fun i v h' tk bs hv hr hk => ?_
        rw [PySem.W.maxD_ints] at hr
        obtain ⟨t, rfl⟩ := Reads.int_is hr
        exact ⟨.int _, H, I.kept hk, ⟨_, rfl⟩, o.int⟩
  · rename_i l
    cases eb : intsD? l with
    | none => rw [eb] at e; cases e
    | some bs =>
      rw [eb] at e
      have := intsD_some eb; subst this
      cases bs with
      | nil => cases e
      | cons n ns =>
        have e : some (PyData.int (maxI n ns)) = some d := e
        cases e
        obtain ⟨v, rfl, vv⟩ := vw.one
        obtain ⟨a, xs, rfl, r1, a1⟩ := vv.tuple sm
        have := a1.ints; subst this
        obtain ⟨its, rv, ht, _⟩ := I.tuple r1
        rw [Vals.ref1 r]
        obtain ⟨as, ra⟩ := readsAll_ints (h := s.heap) rv.ints
        refine PySem.W.max_tuple_data (xs := ns.map PyData.int) (x := .int n) (I.ok.hd hc) ht ra (alikeAll_ints (n :: ns)) (by rw [show (PyData.int n :: ns.map PyData.int) = (n :: ns).map PyData.int from rfl, depth_ints]; omega) fun i v h' tk bs hv hr hk => ?_
        rw [PySem.W.maxD_ints] at hr
        obtain ⟨t, rfl⟩ := Reads.int_is hr
        exact ⟨.int _, H, I.kept hk, ⟨_, rfl⟩, o.int⟩
  · cases e
    obtain ⟨v, u, rfl, v1, v2⟩ := vw.two
    obtain rfl := v1.int
    obtain rfl := v2.int
    exact call_max2 hc pins s σ H _ us Q I r ⟨_, _, rfl, o.int⟩
  · cases e
theorem cl_min (hc : X.calm = true) (hu : X.A.units + 65 < cLine) : CallR X (.builtin "min") (rCl X.K minDD) := by
  intro pins s σ H xs us Q I r h
  obtain ⟨F, ds, d, sm, vw, e, o⟩ := h
  unfold minDD at e
  split at e
  · rename_i l
    cases eb : intsD? l with
    | none => rw [eb] at e; cases e
    | some bs =>
      rw [eb] at e
      have := intsD_some eb; subst this
      cases bs with
      | nil => cases e
      | cons n ns =>
        have e : some (PyData.int (minI n ns)) = some d := e
        cases e
        obtain ⟨v, rfl, vv⟩ := vw.one
        obtain ⟨a, xs, rfl, r1, a1⟩ := vv.list sm
        have := a1.ints; subst this
        obtain ⟨its, rv, hl, _⟩ := I.list (r1)
        rw [Vals.ref1 r]
        obtain ⟨as, ra⟩ := readsAll_ints (h := s.heap) rv.ints
        refine PySem.W.min_list_data (xs := ns.map PyData.int) (x := .int n) (I.ok.hd hc) hl.isList ra (alikeAll_ints (n :: ns)) (by rw [show (PyData.int n :: ns.map PyData.int) = (n :: ns).map PyData.int from rfl, depth_ints]; omega) fun i v h' tk bs hv hr hk => ?_
        rw [PySem.W.minD_ints] at hr
        obtain ⟨t, rfl⟩ := Reads.int_is hr
        exact ⟨.int _, H, I.kept hk, ⟨_, rfl⟩, o.int⟩
  · rename_i l
    cases eb : intsD? l with
    | none => rw [eb] at e; cases e
    | some bs =>
      rw [eb] at e
      have := intsD_some eb; subst this
      cases bs with
      | nil => cases e
      | cons n ns =>
        have e : some (PyData.int (minI n ns)) = some d := e
        cases e
        obtain ⟨v, rfl, vv⟩ := vw.one
        obtain ⟨a, xs, rfl, r1, a1⟩ := vv.tuple sm
        have := a1.ints; subst this
        obtain ⟨its, rv, ht, _⟩ := I.tuple r1
        rw [Vals.ref1 r]
        obtain ⟨as, ra⟩ := readsAll_ints (h := s.heap) rv.ints
        refine PySem.W.min_tuple_data (xs := ns.map PyData.int) (x := .int n) (I.ok.hd hc) ht ra (alikeAll_ints (n :: ns)) (by rw [show (PyData.int n :: ns.map PyData.int) = (n :: ns).map PyData.int from rfl, depth_ints]; omega) fun i v h' tk bs hv hr hk => ?_
        rw [PySem.W.minD_ints] at hr
        obtain ⟨t, rfl⟩ := Reads.int_is hr
        exact ⟨.int _, H, I.kept hk, ⟨_, rfl⟩, o.int⟩
  · cases e
    obtain ⟨v, u, rfl, v1, v2⟩ := vw.two
    obtain rfl := v1.int
    obtain rfl := v2.int
    exact call_min2 hc pins s σ H _ us Q I r ⟨_, _, rfl, o.int⟩
  · cases e

/-! ### items -/
/-- what is wanted of a known value -/
def OutX (K : PySem.W.Frag) (F H : Hp) (d : D) (Q : VK) : Prop := ∀ v, Rp K F v d → Q v H
def rOpX (K : PySem.W.Frag) (f : D → D → Option D) : R2 := fun x y H Q => ∃ F dx dy d, Same F H ∧ Vw K F H x dx ∧ Vw K F H y dy ∧ f dx dy = some d ∧ OutX K F H d Q
def idxD : D → D → Option D
  | .list l, .int i => atI l i
  | .tuple l, .int i => atI l i
  | .str z, .int i => if z.length ≤ sizeLine then (atI z.cps.toList i).map fun c => .str ⟨#[c]⟩ else none
  | _, _ => none
theorem atI_rp {K : PySem.W.Frag} {F : Hp} {xs : List V} {l : List D} {i : Int} {d : D} (h : RpAll K F xs l) (e : atI l i = some d) : ∃ v, atI xs i = some v ∧ Rp K F v d := by
  unfold atI at e ⊢
  rw [h.length]
  cases q : ixN l.length i with
  | none => rw [q] at e; cases e
  | some j =>
    rw [q] at e
    exact h.get' e
theorem ix_idxD : IxR X (rOpX X.K idxD) := by
  intro value slice pins s σ H x y v u Q I rx ry h hsub
  obtain ⟨F, dx, dy, d, sm, vx, vy, e, o⟩ := h
  unfold idxD at e
  split at e
  · obtain ⟨a, xs, rfl, r1, a1⟩ := vx.list sm
    obtain rfl := vy.int
    obtain ⟨w, e1, e2⟩ := atI_rp a1 e
    exact ix_list value slice pins s σ H _ _ v u Q I rx ry ⟨_, _, _, _, rfl, rfl, r1, e1, o _ e2⟩ hsub
  · obtain ⟨a, xs, rfl, r1, a1⟩ := vx.tuple sm
    obtain rfl := vy.int
    obtain ⟨w, e1, e2⟩ := atI_rp a1 e
    exact ix_tup value slice pins s σ H _ _ v u Q I rx ry ⟨_, _, _, _, rfl, rfl, r1, e1, o _ e2⟩ hsub
  · rename_i z i
    split at e
    · obtain rfl := vx.str
      obtain rfl := vy.int
      cases q : atI z.cps.toList i with
      | none => rw [q] at e; cases e
      | some c =>
        rw [q] at e; cases e
        exact ix_str value slice pins s σ H _ _ v u Q I rx ry ⟨_, _, _, rfl, rfl, by assumption, q, o _ (.str _)⟩ hsub
    · cases e
  · cases e

/-! ### slices -/
def cutD (xs : List D) (lo hi : Option Int) : List D := (xs.drop (HT.sIx xs.length 0 lo)).take (HT.sIx xs.length xs.length hi - HT.sIx xs.length 0 lo)
theorem cut_rp {K : PySem.W.Frag} {F : Hp} {xs : List V} {l : List D} {lo hi : Option Int} (h : RpAll K F xs l) : RpAll K F (cutV xs lo hi) (cutD l lo hi) := by
  unfold cutV cutD
  rw [h.length]
  exact (h.drop _).take _
def slD : D → Option Int → Option Int → Option D
  | .list l, lo, hi => some (.list (cutD l lo hi))
  | .tuple l, lo, hi => some (.tuple (cutD l lo hi))
  | _, _, _ => none
def rSlD (K : PySem.W.Frag) : V → Option Int → Option Int → Hp → VK → Prop := fun x lo hi H Q => ∃ F dx d, Same F H ∧ Vw K F H x dx ∧ slD dx lo hi = some d ∧ Out K F H d Q
theorem cutD_whole {l : List D} {lo hi : Option Int} (h : HT.sIx l.length 0 lo = 0 ∧ HT.sIx l.length l.length hi = l.length) : cutD l lo hi = l := by
  unfold cutD
  rw [h.1, h.2]
  simp
theorem sl_dD : SlR X (rSlD X.K) := by
  intro pins s σ H x v vl vu lo hi sl Q I rx hs pl pu h
  obtain ⟨F, dx, d, sm, vx, e, o⟩ := h
  unfold slD at e
  split at e
  · cases e
    obtain ⟨a, xs, rfl, r1, a1⟩ := vx.list sm
    exact sl_list pins s σ H _ v vl vu _ _ sl Q I rx hs pl pu ⟨_, _, rfl, r1, fun q hq => o.lst q _ _ rfl hq (cut_rp a1)⟩
  · cases e
    rename_i l lo hi
    obtain ⟨a, xs, rfl, r1, a1⟩ := vx.tuple sm
    refine sl_tupA pins s σ H _ v vl vu _ _ sl Q I rx hs pl pu ⟨_, _, rfl, r1, fun hw => ?_, fun _ q hq => o.tup q _ _ rfl hq (cut_rp a1)⟩
    rw [a1.length] at hw
    rw [cutD_whole hw] at o
    cases vx with
    | rp r => exact o.old _ r fun _ z => nomatch z
  · cases e
end
end Rv

set_option Elab.async false
set_option linter.all false
set_option maxRecDepth 100000
set_option maxHeartbeats 4000000
/-! Rv3s: sorted of data. -/
namespace PySem.W
open PySem PySem.Calls PyProof.Rows
section
variable {prog : Program} {w : World} {A : Around} {E : Value → Shared → Prop} {s : Shared} {β : Type} {vs : List Value} {bs : List β} {enc : β → PyData} {R : Value → β → Prop}
/-- what collects a tuple's items leaves a list of them behind -/
def behindC (h : Heap) (xs : Array Value) : Heap := (h.push { cls := .type "list", data := .seq ([] : List Value).toArray }).update h.objs.size (Obj.mapSeq (· ++ xs))
theorem collect_tup {Q : List Value → Shared → Prop} {tp : Addr} {ob : Obj} {xs : Array Value} {m : Nat} (g1 : s.heap.get? tp = some ob) (g2 : ob.cls = .type "tuple") (g3 : ob.data = .seq xs m) (g4 : xs.size ≤ sizeLine)
    (fin : Q xs.toList { s with heap := behindC s.heap xs }) : wpAny (model prog w) A (collect (.ref tp)) Q E s := by
  have a1 : (s.heap.push { cls := .type "list", data := .seq ([] : List Value).toArray }).get? s.heap.objs.size = some { cls := .type "list", data := .seq #[] 0 } := Heap.get?_push_size _ rfl
  have a2 := Heap.get?_update_self (Obj.mapSeq (· ++ xs)) a1 rfl
  have last : wpAny (model prog w) A (match Value.ref s.heap.objs.size with
      | Value.ref c => do
        match (← load c).data with
          | Data.seq ys _ => pure ys.toList
          | _ => unsupported "internal:collect"
      | _ => unsupported "internal:collect") Q E { s with heap := behindC s.heap xs } := by
    show wpAny _ A (load s.heap.objs.size >>= _) _ _ _
    exact wpAny_bind (wpAny_load a2 (wpAny_pure (by show Q ((#[] : Array Value) ++ xs).toList _; simpa using fin)))
  unfold collect; refine wpAny_bind (wpAny_runValue (codeAny_builtin F.entry_proto_collect ?_)); rw [Around.under_plainId F.plain_proto_collect _]
  show wpAny _ A.in1 (newList [] >>= fun c => again (.builtin "list.__iadd__" ⟨[c, .ref tp], []⟩)) _ _ s
  refine wpAny_bind (wpAny_newObj_type (wpAny_pure ⟨plainId_quiet F.plain_list_iadd _, codeAny_builtin F.entry_list_iadd ?_⟩)); rw [Around.under_plainId F.plain_list_iadd _]
  show wpAny _ A.in1 (Builtin.List.listExtendWith (.ref s.heap.objs.size) (.ref tp) (.ref s.heap.objs.size)) _ _ _
  refine wpAny_mono (wpAny_extend_seq (hsz := g4) (A := A) (R := fun r t => r = .ok (.ret (.ref s.heap.objs.size)) ∧ t = { s with heap := behindC s.heap xs }) (s := { s with heap := s.heap.push { cls := .type "list", data := .seq ([] : List Value).toArray } }) _ tp _ 0 (.inr rfl) a1 (Heap.get?_push_of_some _ g1) g2 g3 ⟨rfl, rfl⟩) (fun d t q => ?_) fun d t q => absurd q.1 (by simp)
  cases d with
  | again _ => exact ⟨q.1, codeAny_mono q.2 fun r t' z => by obtain ⟨rfl, rfl⟩ := z; exact last⟩
  | done f => obtain ⟨z, rfl⟩ := q; cases z; exact last
theorem behindC_old {h : Heap} {xs : Array Value} {b : Addr} {o : Obj} (q : h.get? b = some o) : (behindC h xs).get? b = some o := (Heap.get?_update_other _ _ (Nat.ne_of_gt (Heap.lt_size q))).trans (Heap.get?_push_of_some _ q)
theorem behindC_size (h : Heap) (xs : Array Value) : (behindC h xs).objs.size = h.objs.size + 1 := by unfold behindC; rw [Heap.size_update, size_push']
theorem sorted_tup_data {l : Addr} {Q : Value → Shared → Prop} (hl : IsTup s.heap l vs.toArray) (e : EachIs R vs bs) (er : EachIs (fun v b => ∃ as, Reads s.heap v (enc b) as) vs bs) (hal : AllAlike (bs.map enc)) (hk : Sortable (bs.map enc)) (hL : bs.length ≤ sizeLine)
    (hu : ∀ b, b ∈ bs → A.units + 2 + (enc b).depth < cLine)
    (h : ∀ (h' : Heap) (a : Addr) (out : List Value) (n : Nat), (∀ b o, s.heap.get? b = some o → h'.get? b = some o) → s.heap.objs.size ≤ a → h'.get? a = some (seqObj "list" out.toArray n) → out.length = bs.length → EachIs R out (bs.mergeSort (dataLe false enc)) → Q (.ref a) { s with heap := h' }) :
    wpAny (model prog w) A (call (.builtin "sorted") [.ref l]) Q E s := by
  obtain ⟨o, ho, hc, n, hd⟩ := hl
  have hL' : vs.length ≤ sizeLine := by rw [e.length]; exact hL
  refine call_function_entry_kw kind_sorted plain_sorted entry_sorted (args_sorted1 _) ?_
  unfold Builtin.«sorted»
  refine wpAny_bind (m := checkCount "sorted" 1 1 _) (wpAny_pure ?_)
  refine wpAny_bind (collect_tup ho hc hd (by rw [List.size_toArray]; exact hL') ?_)
  have hkp : ∀ b o, s.heap.get? b = some o → (behindC s.heap vs.toArray).get? b = some o := fun b o q => behindC_old q
  have hgr : s.heap.objs.size ≤ (behindC s.heap vs.toArray).objs.size := by rw [behindC_size]; omega
  revert hkp hgr
  generalize behindC s.heap vs.toArray = h'
  intro hkp hgr
  refine wpAny_bind (wpAny_newList ?_ hL')
  have hg : (h'.push (seqObj "list" vs.toArray 0)).get? h'.objs.size = some (seqObj "list" vs.toArray 0) := Heap.get?_push_size _ rfl
  have old : ∀ b o, s.heap.get? b = some o → (h'.push (seqObj "list" vs.toArray 0)).get? b = some o ∧ b ≠ h'.objs.size ∧ b < (h'.push (seqObj "list" vs.toArray 0)).objs.size := fun b o q => by
    have q2 := hkp b o q
    have lt := Heap.lt_size q2
    exact ⟨Heap.get?_push_of_some _ q2, Nat.ne_of_lt lt, by rw [size_push']; exact Nat.lt_succ_of_lt lt⟩
  have er' : EachIs (fun v b => ∃ as, Reads (sortingHeap (h'.push (seqObj "list" vs.toArray 0)) h'.objs.size vs) v (enc b) as) vs bs := er.mono fun _ _ ⟨as, r⟩ => ⟨as, PyProof.Rows.Reads.keeps (fun b o q => sortingHeap_old (old b o q).2.1 (old b o q).1) r⟩
  show wpAny _ _ _ _ _ { s with heap := h'.push (seqObj "list" vs.toArray 0) }
  refine wpAny_bind (wpAny_holding (wpAny_call_entry_kw slot_list_sort ⟨_, hg, rfl⟩ entry_list_sort ?body (args_list_sort _)))
  case body =>
    show wpAny (model prog w) A.in1.in1 (Builtin.«list.sort» ⟨[.ref h'.objs.size], []⟩) _ _ _
    refine list_sort_vals (s := { s with heap := h'.push (seqObj "list" vs.toArray 0) }) hg (SortsAt.data (s := { s with heap := sortingHeap (h'.push (seqObj "list" vs.toArray 0)) h'.objs.size vs }) (each_map (R := fun v d => ∃ as, Reads (sortingHeap (h'.push (seqObj "list" vs.toArray 0)) h'.objs.size vs) v d as) enc er') hal hk (bound_map hu)) hL' ⟨_, rfl, wpAny_pure ⟨_, rfl, ?_⟩⟩
    obtain ⟨n', hn⟩ := sortedHeap_at (out := (sortVals (dataKind (sortingHeap (h'.push (seqObj "list" vs.toArray 0)) h'.objs.size vs) (bs.map enc)) false vs vs).toArray) hg
    exact h _ _ _ n' (fun b o q => by rw [sortedHeap_old (old b o q).2.1 (old b o q).2.2]; exact (old b o q).1) hgr hn (by rw [sortVals_length false rfl]; exact e.length) (sortVals_data false e er' hal)
end
end PySem.W
namespace Rv
open PySem PySem.Spec PyProof.Rows L2
open PySem.W (EachIs dataLe AllAlike Sortable)
section
variable {X : Cx}
def isTup1 : D → Bool
  | .tuple (_ :: _) => true
  | _ => false
def notTup : D → Bool
  | .none => false
  | .tuple _ => false
  | _ => true
def sortOk (l : List D) : Bool := (l.all fun d => l.all fun e => PySem.W.alike d e) && (l.all isTup1 || l.all notTup) && decide (l.length ≤ sizeLine) && l.all fun d => decide (d.depth ≤ 60)
def srt (l : List D) : List D := l.mergeSort (dataLe false id)
def sortD : List D → Option D
  | [.list l] => if sortOk l then some (.list (srt l)) else none
  | [.tuple l] => if sortOk l then some (.list (srt l)) else none
  | _ => none
theorem sortOk_of {l : List D} (h : sortOk l = true) : AllAlike l ∧ Sortable l ∧ l.length ≤ sizeLine ∧ ∀ d ∈ l, d.depth ≤ 60 := by
  unfold sortOk at h
  simp only [Bool.and_eq_true, List.all_eq_true, decide_eq_true_eq, Bool.or_eq_true] at h
  obtain ⟨⟨⟨h1, h2⟩, h3⟩, h4⟩ := h
  refine ⟨fun d hd e he => h1 d hd e he, ?_, h3, h4⟩
  rcases h2 with h2 | h2
  · refine .inl fun d hd => ?_
    have := h2 d hd
    cases d <;> try cases this
    rename_i xs
    cases xs with
    | nil => cases this
    | cons x r => exact ⟨x, r, rfl⟩
  · refine .inr fun d hd => ?_
    have := h2 d hd
    cases d <;> first | (cases this; done) | exact ⟨(by intro z; cases z), (by intro xs z; cases z)⟩
/-- what an item stands for -/
def ItR (K : PySem.W.Frag) (F : Hp) (u : Value) (d : D) : Prop := ∃ v, RelV v u ∧ Rp K F v d
theorem each_of {K : PySem.W.Frag} {F : Hp} : ∀ {vs : List V} {us : List Value} {ds : List D}, Vals vs us → RpAll K F vs ds → EachIs (ItR K F) us ds
  | _, _, _, .nil, .nil => .nil
  | _, _, _, .cons r1 r2, .cons h1 h2 => .cons ⟨_, r1, h1⟩ (each_of r2 h2)
theorem each_back {K : PySem.W.Frag} {F : Hp} : ∀ {us : List Value} {ds : List D}, EachIs (ItR K F) us ds → ∃ vs, Vals vs us ∧ RpAll K F vs ds
  | _, _, .nil => ⟨[], .nil, .nil⟩
  | _, _, .cons ⟨v, h1, h2⟩ t => let ⟨vs, q1, q2⟩ := each_back t; ⟨v :: vs, .cons h1 q1, .cons h2 q2⟩
theorem each_reads {pins : List (Addr × Obj)} {σ : L2.St} {H F : Hp} {s : Shared} (I : Inv X pins σ H s) (sm : Same F H) : ∀ {vs : List V} {us : List Value} {ds : List D}, Vals vs us → RpAll X.K F vs ds → EachIs (fun u d => ∃ as, Reads s.heap u (id d) as) us ds
  | _, _, _, .nil, .nil => .nil
  | _, _, _, .cons r1 r2, .cons h1 h2 => .cons (Dp.reads I _ _ _ (h1.mono sm).dp r1) (each_reads I sm r2 h2)
theorem cl_sorted (hu : X.A.units + 65 < cLine) : CallR X (.builtin "sorted") (rCl X.K sortD) := by
  intro pins s σ H xs us Q I r h
  obtain ⟨F, ds, d, sm, vw, e, o⟩ := h
  unfold sortD at e
  split at e
  · rename_i l
    split at e
    · rename_i hok
      cases e
      obtain ⟨h1, h2, h3, h4⟩ := sortOk_of hok
      obtain ⟨v, rfl, vv⟩ := vw.one
      obtain ⟨a, xs, rfl, r1, a1⟩ := vv.list sm
      obtain ⟨its, rv, hl, hz⟩ := I.list r1
      rw [Vals.ref1 r]
      refine PySem.W.sorted_data (enc := id) (R := ItR X.K F) hl.isList (each_of rv a1) (each_reads I sm rv a1) (by rw [List.map_id]; exact h1) (by rw [List.map_id]; exact h2) h3 (fun b hb => ?_) fun out hlen eo => ?_
      · have := h4 b hb
        show X.A.units + 2 + b.depth < cLine
        omega
      · obtain ⟨vs', q1, q2⟩ := each_back eo
        obtain ⟨ep, he'⟩ := PyProof.Rows.sortedAll_at s.heap its out.toArray
        have hl' : vs'.length ≤ sizeLine := by rw [q1.length, hlen]; exact h3
        exact ⟨.ref _, upd H (s.heap.objs.size + 1) (.lst vs'), I.laid (t' := s.toks) (fun _ _ => PyProof.Rows.sortedAll_old) (Nat.le_succ _) ⟨hl', out, ep, q1, he'⟩, rfl, o.lst _ _ _ rfl (I.hok.fresh (Nat.le_succ _)) q2⟩
    · cases e
  · rename_i l
    split at e
    · rename_i hok
      cases e
      obtain ⟨h1, h2, h3, h4⟩ := sortOk_of hok
      obtain ⟨v, rfl, vv⟩ := vw.one
      obtain ⟨a, xs, rfl, r1, a1⟩ := vv.tuple sm
      obtain ⟨its, rv, hl, hz⟩ := I.tuple r1
      rw [Vals.ref1 r]
      refine PySem.W.sorted_tup_data (enc := id) (R := ItR X.K F) hl (each_of rv a1) (each_reads I sm rv a1) (by rw [List.map_id]; exact h1) (by rw [List.map_id]; exact h2) h3 (fun b hb => ?_) fun h' q out n hkp hq hat hlen eo => ?_
      · have := h4 b hb
        show X.A.units + 2 + b.depth < cLine
        omega
      · obtain ⟨vs', q1, q2⟩ := each_back eo
        have hl' : vs'.length ≤ sizeLine := by rw [q1.length, hlen]; exact h3
        exact ⟨.ref _, upd H q (.lst vs'), I.laid (t' := s.toks) hkp hq ⟨hl', out, n, q1, hat⟩, rfl, o.lst _ _ _ rfl (I.hok.fresh hq) q2⟩
    · cases e
  · cases e
end
end Rv

set_option Elab.async false
set_option linter.all false
set_option maxRecDepth 100000
set_option maxHeartbeats 4000000
/-! Rv3t: set(a list of ints), sorted of it. -/
namespace L2
open PySem PySem.Spec PyProof.Rows
section
variable {P : Program} {w : World} {A : Around} {E : Value → Shared → Prop} {s : Shared}
theorem call_set_lstI {l : Addr} {items : Array Value} (ns : List Int) {Q : Value → Shared → Prop} (hh : A.handled = none) (hl : s.heap.IsList l items) (hit : IntsAre items.toList ns) (hb : ns.length + 1 < scanBound)
    (h : ∀ (h' : Heap) (tk c : Nat), SetR w h' s.heap.objs.size (fun j => decide (j ∈ ns)) c → c ≤ ns.length → (∀ b o, s.heap.get? b = some o → h'.get? b = some o) → Q (.ref s.heap.objs.size) { s with heap := h', toks := tk }) :
    wpAny (model P w) A (call (.type "set") [.ref l]) Q E s := by
  have hisz : items.size = ns.length := by
    have q := IntsAre.length hit
    rw [Array.length_toList] at q
    exact q
  obtain ⟨c, tl, hmro⟩ := F.called_set.mro
  have hmade := F.called_set.made
  have hsub := F.called_set.sub
  refine wpAny_call (codeAny_of_tree ?_)
  show wpAny _ _ (callAny (.type "set") _) _ _ _
  refine wpAny_pure ⟨Code.quiet_builtin _ (by decide +kernel), codeAny_builtin F.entry_type_call ?_⟩
  rw [Around.under_plain (weight_type_call_type "set" [.ref l] []) rfl]
  have h1 := F.called_set.notType
  have h2 := F.called_set.canCreate
  have hct := F.typeCall_set_1 (.ref l)
  repeat (any_goals (first | assumption | wp_step))
  let new : Obj := { cls := .type "set", dict := none, data := .set #[] 0 (.fresh 0 0 (!w.params.followText "set-order")) }
  refine codeAny_mono (code_set_led1 (.ref l) (E := E) (Q₁ := fun obj s₁ => obj = .ref s.heap.objs.size ∧ s₁ = { s with heap := s.heap.push { cls := .type "set", dict := none, data := .set #[] 0 (.fresh 0 0 (!w.params.followText "set-order")) } }) ⟨rfl, rfl⟩) fun r s₁ hr => ?_
  cases r with
  | error e => exact hr
  | ok fl =>
    cases fl with
    | ret obj =>
      obtain ⟨rfl, rfl⟩ := hr
      have hS : (s.heap.push { cls := .type "set", dict := none, data := .set #[] 0 (.fresh 0 0 (!w.params.followText "set-order")) }).get? s.heap.objs.size = some { cls := .type "set", dict := none, data := .set #[] 0 (.fresh 0 0 (!w.params.followText "set-order")) } := Heap.get?_push_size _ rfl
      have hT : Shared.TypeIs { s with heap := s.heap.push { cls := .type "set", dict := none, data := .set #[] 0 (.fresh 0 0 (!w.params.followText "set-order")) } } (.ref s.heap.objs.size) "set" := ⟨_, hS, rfl⟩
      have hli := F.called_set.init.lookup
      have hbi := F.called_set.init.bind (.ref s.heap.objs.size)
      repeat (any_goals (first | assumption | wp_step))
      refine codeAny_mono (codeAny_call_builtin (R := wants (fun r s₂ => r = .none ∧ ∃ h' tk c, s₂ = { s with heap := h', toks := tk } ∧ SetR w h' s.heap.objs.size (fun j => decide (j ∈ ns)) c ∧ c ≤ ns.length ∧
          (∀ b o, s.heap.get? b = some o → h'.get? b = some o)) E) F.called_set.init.plain F.entry_set_init (check_set_init_1 hT ?_)) fun r₂ s₂ hr₂ => ?_
      · obtain ⟨⟨ocls, odict, odata, oslots⟩, hol, hcl, nl, hdl⟩ := hl
        simp only at hcl hdl
        subst hcl; subst hdl
        have hol' : (s.heap.push { cls := .type "set", dict := none, data := .set #[] 0 (.fresh 0 0 (!w.params.followText "set-order")) }).get? l = some { cls := .type "list", dict := odict, data := .seq items nl, slots := oslots } := Heap.get?_push_of_some _ hol
        have hsls := F.sub_list_set
        have hslf := F.sub_list_frozenset
        have hne : (Value.type "list" == Value.type "dict") = false := by decide
        have hl1 : (s.heap.push { cls := .type "set", dict := none, data := .set #[] 0 (.fresh 0 0 (!w.params.followText "set-order")) }).IsList l items := ⟨_, hol', rfl, nl, rfl⟩
        unfold Builtin.«set.__init__» noKeywords Builtin.Frozenset.updateFrom
        generalize hPI : pyIter = PI
        wp_walk
        subst hPI
        refine wpAny_pyIter_list hl1 ?_
        refine wpAny_bind (wpAny_runValue ?_)
        have hlS : l < s.heap.objs.size := Heap.lt_size hol
        have hh3 : A.in1.in1.in1.handled = none := by simp [hh]
        have hneI : l ≠ (s.heap.push { cls := .type "set", dict := none, data := .set #[] 0 (.fresh 0 0 (!w.params.followText "set-order")) }).objs.size := by
          rw [Heap.size_push]; exact Nat.ne_of_lt (Nat.lt_succ_of_lt hlS)
        have hSf : s.heap.objs.size ∉ [(s.heap.push { cls := .type "set", dict := none, data := .set #[] 0 (.fresh 0 0 (!w.params.followText "set-order")) }).objs.size, l] := by
          rw [Heap.size_push]; simp only [List.mem_cons, List.mem_singleton, List.not_mem_nil, or_false, not_or]
          exact ⟨Nat.ne_of_lt (Nat.lt_succ_self _), Nat.ne_of_gt hlS⟩
        have hval : ∀ (i : Nat) (v : Value), items[i]? = some v → ∃ k t, ns[i]? = some k ∧ v = .int k t := fun i v hv => by
          have hi : i < ns.length := by rw [← hisz]; exact (Array.getElem?_eq_some_iff.mp hv).1
          obtain ⟨t, e⟩ := PyProof.Rows.IntsAre.int_at hit i v (by rw [Array.getElem?_toList]; exact hv)
          refine ⟨ns[i], t, List.getElem?_eq_getElem hi, ?_⟩
          rw [e, List.getD_eq_getElem?_getD, List.getElem?_eq_getElem hi] <;> rfl
        refine set_update_ints ((Walks.list hh3 _ l hneI items).toS) s.heap.objs.size
          hSf ns hisz hb hval (items.size - 0) 0 _ (by omega) (Nat.zero_le _)
          ⟨⟨_, Heap.get?_push_size _ rfl, rfl, rfl⟩, (hl1.push _)⟩ ?hS0 ?hR
        case hS0 =>
          have hget : ((s.heap.push { cls := .type "set", dict := none, data := .set #[] 0 (.fresh 0 0 (!w.params.followText "set-order")) }).push { cls := .type "list_iterator", data := .fields #[.ref l, .int 0 0] }).get? s.heap.objs.size
              = some { cls := .type "set", dict := none, data := .set #[] 0 (.fresh 0 0 (!w.params.followText "set-order")) } := Heap.get?_push_of_some _ hS
          exact ⟨0, Nat.le_refl 0, setR_new_at hget⟩
        case hR =>
          intro s' c' hm hc' hS'
          obtain ⟨h', g2, d', tk', os'⟩ := s'
          have eg : g2 = s.gens := hm.gens
          have ed : d' = s.drawn := hm.drawn
          have eo : os' = s.os := hm.os
          subst eg; subst ed; subst eo
          show wpAny _ _ _ _ _ _
          refine wpAny_pure ?_
          show wpAny _ _ (ret Value.none) _ _ _
          rw [hisz] at hc'
          refine wpAny_pure ⟨rfl, h', tk', c', rfl, hS', hc', fun b o e => ?_⟩
          have hb0 : b < s.heap.objs.size := Heap.lt_size e
          have hb1 : b ≠ s.heap.objs.size := Nat.ne_of_lt hb0
          have hb2 : b ≠ (s.heap.push { cls := .type "set", dict := none, data := .set #[] 0 (.fresh 0 0 (!w.params.followText "set-order")) }).objs.size := by
            rw [Heap.size_push]; exact Nat.ne_of_lt (Nat.lt_succ_of_lt hb0)
          exact hm.heap b o (by simp only [List.mem_cons, List.mem_singleton, List.not_mem_nil, or_false, not_or]; exact ⟨hb1, hb2⟩) (Heap.get?_push_of_some _ (Heap.get?_push_of_some _ e))
      · cases r₂ with
        | error e => exact hr₂
        | ok fl₂ =>
          cases fl₂ with
          | ret r =>
            obtain ⟨rfl, h', tk, c', rfl, hS', hc', hk'⟩ := hr₂
            repeat (any_goals (first | assumption | wp_step))
            exact h _ _ _ hS' hc' hk'
          | _ => exact hr₂.elim
    | _ => exact hr.elim
end
theorem setR_count {w : World} {h : Heap} {a : Addr} {ns ms : List Int} {c : Nat} (R : SetR w h a (fun j => decide (j ∈ ns)) c) (h1 : ms.Nodup) (h2 : ∀ k, k ∈ ms ↔ k ∈ ns) : ms.length = c := by
  obtain ⟨o, es, ep, t, _, _, _, _, nd, hm, _, _, hn, _⟩ := R
  have e : ∀ k, k ∈ ms ↔ k ∈ es.toList.map keyOf := fun k => by
    rw [h2, ← hm k, decide_eq_true_iff]
  have := ((List.perm_ext_iff_of_nodup h1 nd).mpr e).length_eq
  rw [this, List.length_map, Array.length_toList, hn]
/-- set(xs), ints: who is in it, how many at most -/
def rSetI (K : PySem.W.Frag) (w : World) : List V → Hp → VK → Prop := fun vs H Q => ∃ (l : Addr) (ns : List Int), vs = [V.ref l] ∧ SqL K H l (ns.map V.int) ∧ ns.length + 1 < scanBound ∧
  ∀ (a : Addr) (c : Nat), H a = none → c ≤ ns.length → (∀ ms : List Int, ms.Nodup → (∀ k, k ∈ ms ↔ k ∈ ns) → ms.length = c) → Q (.ref a) (upd H a (SetO w a (fun j => decide (j ∈ ns)) c))
theorem cr_setI {X : Cx} (hc : X.calm = true) : CallR X (.type "set") (rSetI X.K X.w) := by
  intro pins s σ H xs us Q I r h
  obtain ⟨l, ns, rfl, hl, hb, q⟩ := h
  rw [Vals.ref1 r]
  obtain ⟨its, rv, pl, hz⟩ := I.list hl
  have hn : H s.heap.objs.size = none := I.hok.fresh (Nat.le_refl _)
  refine call_set_lstI ns (I.ok.hd hc) pl.isList (by simpa using rv.ints) hb fun h' tk c R hcl k => ?_
  exact ⟨.ref s.heap.objs.size, upd H s.heap.objs.size (SetO X.w s.heap.objs.size (fun j => decide (j ∈ ns)) c), I.laid (t' := tk) k (Nat.le_refl _) (setO_new R), rfl, q _ c hn hcl fun ms h1 h2 => setR_count R h1 h2⟩
end L2
namespace Rv
open PySem PySem.Spec PyProof.Rows L2
/-- ascending, each once -/
def insU (x : Int) : List Int → List Int
  | [] => [x]
  | y :: r => if x < y then x :: y :: r else if x = y then y :: r else y :: insU x r
def sdI (ns : List Int) : List Int := ns.foldr insU []
theorem insU_mem {x k : Int} : ∀ {l : List Int}, k ∈ insU x l ↔ k = x ∨ k ∈ l
  | [] => by simp [insU]
  | y :: r => by
    unfold insU
    split
    · simp
    · split
      · rename_i h; subst h; simp
      · simp only [List.mem_cons, insU_mem]
        constructor
        · rintro (h | h | h) <;> simp [h]
        · rintro (h | h | h) <;> simp [h]
theorem insU_sorted {x : Int} : ∀ {l : List Int}, l.Pairwise (· < ·) → (insU x l).Pairwise (· < ·)
  | [], _ => by simp [insU]
  | y :: r, h => by
    obtain ⟨h1, h2⟩ := List.pairwise_cons.mp h
    unfold insU
    split
    · rename_i hx
      refine List.pairwise_cons.mpr ⟨fun z hz => ?_, h⟩
      rcases List.mem_cons.mp hz with e | hz
      · rw [e]; exact hx
      · exact Int.lt_trans hx (h1 z hz)
    · split
      · exact h
      · rename_i hx hy
        refine List.pairwise_cons.mpr ⟨fun z hz => ?_, insU_sorted h2⟩
        rcases insU_mem.mp hz with e | hz
        · rw [e]; omega
        · exact h1 z hz
theorem sdI_mem {k : Int} : ∀ {ns : List Int}, k ∈ sdI ns ↔ k ∈ ns
  | [] => by simp [sdI]
  | x :: r => by
    show k ∈ insU x (sdI r) ↔ _
    rw [insU_mem, sdI_mem, List.mem_cons]
theorem sdI_sorted : ∀ (ns : List Int), (sdI ns).Pairwise (· < ·)
  | [] => List.Pairwise.nil
  | x :: r => insU_sorted (sdI_sorted r)
theorem sdI_nodup (ns : List Int) : (sdI ns).Nodup := (sdI_sorted ns).imp fun h e => by omega
theorem asc_unique : ∀ {a b : List Int}, a.Pairwise (· < ·) → b.Pairwise (· < ·) → (∀ k, k ∈ a ↔ k ∈ b) → a = b
  | [], [], _, _, _ => rfl
  | [], y :: r, _, _, h => by have := (h y).mpr List.mem_cons_self; cases this
  | x :: r, [], _, _, h => by have := (h x).mp List.mem_cons_self; cases this
  | x :: r, y :: t, h1, h2, h => by
    obtain ⟨a1, a2⟩ := List.pairwise_cons.mp h1
    obtain ⟨b1, b2⟩ := List.pairwise_cons.mp h2
    have e : x = y := by
      have hx := (h x).mp List.mem_cons_self
      have hy := (h y).mpr List.mem_cons_self
      rcases List.mem_cons.mp hx with e | hx
      · exact e
      · rcases List.mem_cons.mp hy with e | hy
        · exact e.symm
        · have := a1 y hy; have := b1 x hx; omega
    subst e
    rw [asc_unique a2 b2 fun k => ?_]
    constructor
    · intro hk
      rcases List.mem_cons.mp ((h k).mp (List.mem_cons_of_mem _ hk)) with e | hk2
      · subst e; have := a1 k hk; omega
      · exact hk2
    · intro hk
      rcases List.mem_cons.mp ((h k).mpr (List.mem_cons_of_mem _ hk)) with e | hk2
      · subst e; have := b1 k hk; omega
      · exact hk2
theorem sdI_of {ns ms : List Int} (h1 : ms.Pairwise (· < ·)) (h2 : ∀ k, k ∈ ms ↔ k ∈ ns) : ms = sdI ns := asc_unique h1 (sdI_sorted ns) fun k => (h2 k).trans sdI_mem.symm
def strOf : List D → Option D
  | [.str x] => some (.str x)
  | [.int i] => if i.natAbs.log2 < 1920 then some (.str (Str.ofString (toString i))) else none
  | _ => none
theorem cl_str {X : Cx} : CallR X (.type "str") (rCl X.K strOf) := by
  intro pins s σ H xs us Q I r h
  obtain ⟨F, ds, d, sm, vw, e, o⟩ := h
  unfold strOf at e
  split at e
  · cases e
    obtain ⟨v, rfl, vv⟩ := vw.one
    obtain rfl := vv.str
    exact SkE.call_str_str pins s σ H _ us Q I r ⟨_, rfl, o.str⟩
  · split at e
    · cases e
      obtain ⟨v, rfl, vv⟩ := vw.one
      obtain rfl := vv.int
      exact call_str_int pins s σ H _ us Q I r ⟨_, rfl, by assumption, o.str⟩
    · cases e
  · cases e
end Rv

set_option Elab.async false
set_option linter.all false
set_option maxRecDepth 100000
set_option maxHeartbeats 4000000
/-! Rv4: the small language, its evaluator, its tie to the text. -/
namespace Rv
open PySem PySem.Spec PyProof.Rows L2

inductive Rs (α : Type) where
  | ok (a : α)
  | exc (c : Str)
  | bot
def Rs.bind {α β : Type} (r : Rs α) (f : α → Rs β) : Rs β :=
  match r with
  | .ok a => f a
  | .exc c => .exc c
  | .bot => .bot
/-- nothing may be raised here -/
def Rs.nox {α : Type} (r : Rs α) : Rs α :=
  match r with
  | .exc _ => .bot
  | r => r

inductive Bop where | add | sub | mul | fdiv | mod | pow
inductive Cop where | eq | ne | lt | le | gt | ge | is | isnot | isin | notin
inductive Bi where | len | abs | int | list | tuple | all | any | sum | max | min | sorted | str
inductive Mt where | index | count
inductive Ty where | int | bool | str | tuple | list
inductive Tg where
  | nm (i : Nat)
  | tup (l : Tg)
  | nil
  | cons (a r : Tg)
inductive E where
  | var (i : Nat) | peek (i : Nat)
  | ci (i : Int) | cs (x : Str) | cb (b : Bool) | cn
  | glb (n : Nat)
  | bin (o : Bop) (a b : E) | neg (a : E)
  | cmp (o : Cop) (a b : E) | chain (o q : Cop) (a b c : E)
  | and_ (a b : E) | or_ (a b : E) | one (a : E) | not_ (a : E)
  | ite (c a b : E)
  | tup (es : E) | lst (es : E) | nil | cons (a r : E)
  | idx (a i : E) | sl (a lo hi : E) | rev (a : E)
  | bi (b : Bi) (es : E) | isi (a : E) (t : Ty)
  | call (f : Nat) (es : E) | callm (f i : Nat) (es : E)
  | lc (elt : E) (tg : Tg) (it cond : E) (own : List (Str × Nat))
  | rng1 (a : E) | rng2 (a b : E) | zip (a b : E) | enum (a : E)
  | pop (i : Nat)
  | sset (a : E) | meth (m : Mt) (o a : E)
  | din (neg : Bool) (k : E) (i : Nat) | dget (i : Nat) (k : E)
  | dkeys (i : Nat) | ksort (i : Nat) | flat (it : E) (own : List (Str × Nat)) (j k : Nat)

structure FSem where
  mu : Bool
  fr : Bool
  ar : Nat
  f : List D → Rs (D × List D)
structure Genv where
  fn : Nat → Option FSem
  fnm : Nat → Str
  gl : Nat → Option D
  gnm : Nat → Str

def Bop.f : Bop → D → D → Option D
  | .add => addD | .sub => subD | .mul => mulD | .fdiv => fdivD | .mod => modD | .pow => powD
def Bop.op : Bop → Operator
  | .add => .Add | .sub => .Sub | .mul => .Mult | .fdiv => .FloorDiv | .mod => .Mod | .pow => .Pow
def Cop.f : Cop → D → D → Option D
  | .eq => eqD | .ne => neD | .lt => ltD | .le => leD | .gt => gtD | .ge => geD | .is => isD | .isnot => isNotD | .isin => inD | .notin => notInD
def Cop.op : Cop → CmpOp
  | .eq => .Eq | .ne => .NotEq | .lt => .Lt | .le => .LtE | .gt => .Gt | .ge => .GtE | .is => .Is | .isnot => .IsNot | .isin => .In | .notin => .NotIn
def Bi.f : Bi → List D → Option D
  | .len => lenD | .abs => absD | .int => intOf | .list => listOf | .tuple => tupOf | .all => allD | .any => anyD | .sum => sumD | .max => maxDD | .min => minDD | .sorted => sortD | .str => strOf
def Mt.nm : Mt → Str
  | .index => "index" | .count => "count"
def Mt.f (m : Mt) (o a : D) : Option D :=
  match o, a with
  | .list l, .int k => match intsD? l with
    | some ns => match m with
      | .count => some (.int (ns.count k : Nat))
      | .index => if k ∈ ns then some (.int (ns.idxOf k : Nat)) else none
    | none => none
  | _, _ => none
def Bi.nm : Bi → Str
  | .len => "len" | .abs => "abs" | .int => "int" | .list => "list" | .tuple => "tuple" | .all => "all" | .any => "any" | .sum => "sum" | .max => "max" | .min => "min" | .sorted => "sorted" | .str => "str"
def Ty.nm : Ty → String
  | .int => "int" | .bool => "bool" | .str => "str" | .tuple => "tuple" | .list => "list"
def isiD : D → Ty → Option D
  | .int _, .int => some (.bool true)
  | .bool _, .int => some (.bool true)
  | .bool _, .bool => some (.bool true)
  | .str _, .str => some (.bool true)
  | .tuple _, .tuple => some (.bool true)
  | .list _, .list => some (.bool true)
  | .dict _, _ => none
  | _, _ => some (.bool false)
def tru : D → Option Bool
  | .none => some false
  | .bool b => some b
  | .int i => some (i != 0)
  | .str x => if x.length ≤ sizeLine then some ((x.length : Int) != 0) else none
  | .list l => some (!l.isEmpty)
  | .tuple l => some (!l.isEmpty)
  | .dict _ => none
def ret1 (o : Option D) (env : En) : Rs (D × En) :=
  match o with
  | some d => .ok (d, env)
  | none => .bot
def wipeE (env : En) : List Nat → En
  | [] => env
  | v :: vs => (wipeE env vs).set v .no
def restE (env env0 : En) : List Nat → En
  | [] => env
  | v :: vs => (restE env env0 vs).set v (env0.getD v .no)
def keysOf : List D → Option (List Key)
  | [] => some []
  | .int i :: r => (keysOf r).map (.inl i :: ·)
  | .str x :: r => (keysOf r).map (.inr x :: ·)
  | _ => none
def keyOf : D → Option (List Key)
  | .tuple ds => keysOf ds
  | _ => none
def dicAt (env : En) (i : Nat) : Option (List (List Key × D)) := match env[i]? with
  | some (.dic kvs) => some kvs
  | _ => none
def dikAt (env : En) (i : Nat) : Option (List (Key × D)) := match env[i]? with
  | some (.dik kvs) => some kvs
  | _ => none
def keyInts : List (Key × D) → Option (List Int)
  | [] => some []
  | (.inl i, _) :: r => (keyInts r).map (i :: ·)
  | (.inr _, _) :: _ => none
def lookD (kvs : List (List Key × D)) (k : List Key) : Option D := (kvs.find? fun kv => decide (kv.1 = k)).map (·.2)
def putD (kvs : List (List Key × D)) (k : List Key) (d : D) : List (List Key × D) :=
  if (lookD kvs k).isSome = true then kvs.map (fun kv => if kv.1 = k then (kv.1, d) else kv) else kvs ++ [(k, d)]
def noHeld (env : En) (vs : List Nat) : Bool := vs.all fun v => !ownsAt env v
mutual
def asgT : Tg → D → En → Option En
  | .nm i, d, env => match env[i]? with
    | some (.bor _) => none
    | some _ => some (env.set i (.pd d))
    | none => none
  | .tup l, .tuple ds, env => asgL l ds env
  | _, _, _ => none
def asgL : Tg → List D → En → Option En
  | .nil, [], env => some env
  | .cons a r, d :: ds, env => match asgT a d env with
    | some e1 => asgL r ds e1
    | none => none
  | _, _, _ => none
end
def itemsOf : D → Option (List D)
  | .list l => some l
  | .tuple l => some l
  | _ => none
/-- all items of all items -/
def flatD : List D → Option (List D)
  | [] => some []
  | d :: r => match itemsOf d, flatD r with
    | some x, some y => some (x ++ y)
    | _, _ => none
def kD : Key → D
  | .inl i => .int i
  | .inr x => .str x
def setHeld (env : En) (i : Nat) (l : List D) : En :=
  match env[i]? with
  | some (.own _) => env.set i (.own l)
  | some (.bor _) => env.set i (.bor l)
  | _ => env
def peekAt (env : En) (i : Nat) : Option D :=
  match env[i]? with
  | some (.pd d) => some d
  | some (.own l) => some (.list l)
  | some (.bor l) => some (.list l)
  | _ => none
def peekOf : E → Option Nat
  | .peek i => some i
  | _ => none
def isNil : E → Bool
  | .nil => true
  | _ => false
def two (fa fb : En → Rs (D × En)) (pa : Option Nat) (env : En) : Rs ((D × D) × En) :=
  match pa with
  | some i => if (peekAt env i).isSome then (fb env).bind fun r => match peekAt r.2 i with
      | some d => .ok ((d, r.1), r.2)
      | none => .bot
    else .bot
  | none => (fa env).bind fun r => (fb r.2).bind fun q => .ok ((r.1, q.1), q.2)
def partI (nil : Bool) (f : En → Rs (D × En)) (env : En) : Rs (Option Int × En) :=
  if nil then .ok (none, env) else (f env).bind fun r => match r.1 with
    | .int i => .ok (some i, r.2)
    | _ => .bot
def cgo (asg : D → En → Option En) (cond elt : En → Rs (D × En)) (vs : List Nat) : List D → En → List D → Rs (List D × En)
  | [], env, acc => .ok (acc, env)
  | x :: xs, env, acc => match asg x env with
    | none => .bot
    | some e1 => (cond e1).nox.bind fun r => match tru r.1 with
      | some true => (elt r.2).nox.bind fun q => cgo asg cond elt vs xs (wipeE q.2 vs) (acc ++ [q.1])
      | some false => cgo asg cond elt vs xs (wipeE r.2 vs) acc
      | none => .bot
def condF (nil : Bool) (f : En → Rs (D × En)) (env : En) : Rs (D × En) := if nil then .ok (.bool true, env) else f env
def rngD (lo hi : Int) : List D := (List.range (hi - lo).toNat).map fun k : Nat => PyData.int (lo + (k : Int))
def rngOk (i : Int) : Bool := decide (-(2 ^ 62) ≤ i) && decide (i < 2 ^ 62)

def ev (G : Genv) : E → En → Rs (D × En)
  | .var i, env => match env[i]? with
    | some (.pd d) => .ok (d, env)
    | some (.own l) => .ok (.list l, env.set i (.pd (.list l)))
    | _ => .bot
  | .peek i, env => match peekAt env i with
    | some d => .ok (d, env)
    | none => .bot
  | .ci i, env => .ok (.int i, env)
  | .cs x, env => .ok (.str x, env)
  | .cb b, env => .ok (.bool b, env)
  | .cn, env => .ok (.none, env)
  | .glb n, env => ret1 (G.gl n) env
  | .bin o a b, env => (two (ev G a) (ev G b) (peekOf a) env).bind fun r => ret1 (o.f r.1.1 r.1.2) r.2
  | .neg a, env => (ev G a env).bind fun r => match r.1 with
    | .int i => .ok (.int (-i), r.2)
    | _ => .bot
  | .cmp o a b, env => (two (ev G a) (ev G b) (peekOf a) env).bind fun r => ret1 (o.f r.1.1 r.1.2) r.2
  | .chain o q a b c, env => (two (ev G a) (ev G b) none env).bind fun r => match o.f r.1.1 r.1.2 with
    | some (.bool true) => (ev G c r.2).bind fun t => ret1 (q.f r.1.2 t.1) t.2
    | some (.bool false) => .ok (.bool false, r.2)
    | _ => .bot
  | .and_ a b, env => (ev G a env).bind fun r => match tru r.1 with
    | some true => ev G b r.2
    | some false => .ok r
    | none => .bot
  | .or_ a b, env => (ev G a env).bind fun r => match tru r.1 with
    | some true => .ok r
    | some false => ev G b r.2
    | none => .bot
  | .one a, env => ev G a env
  | .not_ a, env => (ev G a env).bind fun r => match tru r.1 with
    | some k => .ok (.bool (!k), r.2)
    | none => .bot
  | .ite c a b, env => (ev G c env).bind fun r => match tru r.1 with
    | some true => ev G a r.2
    | some false => ev G b r.2
    | none => .bot
  | .tup es, env => (ev G es env).bind fun r => match r.1 with
    | .list l => if l.length ≤ sizeLine then .ok (.tuple l, r.2) else .bot
    | _ => .bot
  | .lst es, env => (ev G es env).bind fun r => match r.1 with
    | .list l => if l.length ≤ sizeLine then .ok (.list l, r.2) else .bot
    | _ => .bot
  | .nil, env => .ok (.list [], env)
  | .cons a r, env => (two (ev G a) (ev G r) (peekOf a) env).bind fun q => match q.1.2 with
    | .list l => .ok (.list (q.1.1 :: l), q.2)
    | _ => .bot
  | .idx a i, env => (two (ev G a) (ev G i) (peekOf a) env).bind fun r => ret1 (idxD r.1.1 r.1.2) r.2
  | .sl a lo hi, env => match peekOf a with
    | some i => if (peekAt env i).isSome then (partI (isNil lo) (ev G lo) env).bind fun l => (partI (isNil hi) (ev G hi) l.2).bind fun h => match peekAt h.2 i with
        | some d => ret1 (slD d l.1 h.1) h.2
        | none => .bot
      else .bot
    | none => (ev G a env).bind fun r => (partI (isNil lo) (ev G lo) r.2).bind fun l => (partI (isNil hi) (ev G hi) l.2).bind fun h => ret1 (slD r.1 l.1 h.1) h.2
  | .rev a, env => (ev G a env).bind fun r => match r.1 with
    | .list l => .ok (.list l.reverse, r.2)
    | .tuple l => .ok (.tuple l.reverse, r.2)
    | _ => .bot
  | .bi b es, env => (ev G es env).bind fun r => match r.1 with
    | .list l => ret1 (b.f l) r.2
    | _ => .bot
  | .isi a t, env => (ev G a env).bind fun r => ret1 (isiD r.1 t) r.2
  | .call f es, env => (ev G es env).bind fun r => match r.1, G.fn f with
    | .list l, some fs => if fs.mu || !(l.length == fs.ar) then .bot else (fs.f l).bind fun q => .ok (q.1, r.2)
    | _, _ => .bot
  | .callm f i es, env => if (heldAt env i).isSome then (ev G es env).bind fun r => match r.1, G.fn f, heldAt r.2 i with
    | .list l, some fs, some c => if fs.mu && (l.length + 1 == fs.ar) then (fs.f (.list c :: l)).bind fun q => .ok (q.1, setHeld r.2 i q.2) else .bot
    | _, _, _ => .bot
    else .bot
  | .lc elt tg it cond own, env => (ev G it env).bind fun r => match itemsOf r.1 with
    | some l => if noHeld r.2 (own.map (·.2)) && decide (l.length ≤ sizeLine) then
        (cgo (asgT tg) (condF (isNil cond) (ev G cond)) (ev G elt) (own.map (·.2)) l (wipeE r.2 (own.map (·.2))) []).bind fun q => .ok (.list q.1, restE q.2 r.2 (own.map (·.2)))
      else .bot
    | none => .bot
  | .rng1 a, env => (ev G a env).bind fun r => match r.1 with
    | .int i => if rngOk i then .ok (.list (rngD 0 i), r.2) else .bot
    | _ => .bot
  | .rng2 a b, env => (two (ev G a) (ev G b) none env).bind fun r => match r.1.1, r.1.2 with
    | .int i, .int j => if rngOk i && rngOk j then .ok (.list (rngD i j), r.2) else .bot
    | _, _ => .bot
  | .zip a b, env => (two (ev G a) (ev G b) none env).bind fun r => match r.1.1, r.1.2 with
    | .list x, .list y => .ok (.list (List.zipWith (fun d e => PyData.tuple [d, e]) x y), r.2)
    | .tuple x, .tuple y => .ok (.list (List.zipWith (fun d e => PyData.tuple [d, e]) x y), r.2)
    | _, _ => .bot
  | .enum a, env => (ev G a env).bind fun r => match itemsOf r.1 with
    | some x => .ok (.list (List.zipWith (fun (k : Nat) e => PyData.tuple [.int (k : Int), e]) (List.range x.length) x), r.2)
    | none => .bot
  | .pop i, env => match heldAt env i with
    | some l => match l.getLast? with
      | some d => .ok (d, setHeld env i l.dropLast)
      | none => .bot
    | none => .bot
  | .sset a, env => (ev G a env).bind fun r => match r.1 with
    | .list l => match intsD? l with
      | some ns => if ns.length < 4000 ∧ (sdI ns).length < 64 then .ok (.list ((sdI ns).map PyData.int), r.2) else .bot
      | none => .bot
    | _ => .bot
  | .din neg k i, env => (ev G k env).bind fun r => match keyOf r.1, dicAt r.2 i with
    | some ks, some kvs => .ok (.bool (if neg then !(lookD kvs ks).isSome else (lookD kvs ks).isSome), r.2)
    | _, _ => .bot
  | .dget i k, env => if (dicAt env i).isSome then (ev G k env).bind fun r => match keyOf r.1, dicAt r.2 i with
    | some ks, some kvs => .ok ((lookD kvs ks).getD .none, r.2)
    | _, _ => .bot
    else .bot
  | .dkeys i, env => match dicAt env i with
    | some kvs => .ok (.list (kvs.map fun kv => .tuple (kv.1.map kD)), env.set i .no)
    | none => .bot
  | .ksort i, env => match dikAt env i with
    | some kvs => match keyInts kvs with
      | some ks => if decide ks.Nodup && decide (ks.length < 64) then .ok (.list ((sdI ks).map PyData.int), env) else .bot
      | none => .bot
    | none => .bot
  | .flat it own j k, env => (ev G it env).bind fun r => match itemsOf r.1 with
    | some l => match flatD l with
      | some m => if (noHeld r.2 (own.map (·.2)) && decide (m.length ≤ sizeLine)) && (decide (j < r.2.length) && decide (k < r.2.length)) then .ok (.list m, r.2) else .bot
      | none => .bot
    | none => .bot
  | .meth m o a, env => match peekOf o with
    | some i => match peekAt env i with
      | some (.list _) => (ev G a env).bind fun r => match peekAt r.2 i with
        | some d => ret1 (m.f d r.1) r.2
        | none => .bot
      | _ => .bot
    | none => (ev G o env).bind fun q => match q.1 with
      | .list l => (ev G a q.2).bind fun r => ret1 (m.f (.list l) r.1) r.2
      | _ => .bot

/-- a list that is new: its address is not known to anybody -/
def isFresh (G : Genv) : E → Bool
  | .bin _ _ _ => true
  | .lst _ => true
  | .sl _ _ _ => true
  | .rev _ => true
  | .bi _ _ => true
  | .lc _ _ _ _ _ => true
  | .sset _ => true
  | .flat _ _ _ _ => true
  | .ksort _ => true
  | .call f _ => match G.fn f with | some fs => fs.fr | none => false
  | .callm f _ _ => match G.fn f with | some fs => fs.fr | none => false
  | _ => false

/-! ### the tie to the text -/
def visB (sc : Scope) (x : Str) : Bool := match sc.names.lookup x with
  | some .local => true
  | some .cell => true
  | some .free => true
  | _ => false
def glB (sc : Scope) (x : Str) : Bool := match sc.names.lookup x with
  | some .globalImplicit => true
  | _ => false
def locB (raw : Scope) (x : Str) : Bool := match raw.names.lookup x with
  | some .local => true
  | some .cell => true
  | _ => false
def dbg (x : Str) : Bool := x == ("__debug__" : Str) || x == ("__classdict__" : Str)
def nmB (N : List Str) (i : Nat) (x : Str) : Bool := (N[i]? == some x) && !dbg x
def isName (e : PySem.Expr) (x : Str) : Bool := match e with
  | .Name y _ => y == x
  | _ => false
mutual
def okG (N : List Str) (raw : Scope) : Tg → PySem.Expr → Bool
  | .nm i, .Name x _ => nmB N i x && locB raw x
  | .tup l, .Tuple es _ _ => okGs N raw l es
  | _, _ => false
def okGs (N : List Str) (raw : Scope) : Tg → List PySem.Expr → Bool
  | .nil, [] => true
  | .cons a r, e :: es => okG N raw a e && okGs N raw r es
  | _, _ => false
end
def tgIn (vs : List Nat) : Tg → Bool
  | .nm i => vs.contains i
  | .tup l => tgIn vs l
  | .nil => true
  | .cons a r => tgIn vs a && tgIn vs r
def tgNames : Tg → Nat
  | .nm _ => 1
  | .tup l => tgNames l
  | .nil => 0
  | .cons a r => tgNames a + tgNames r
def constB (c : Const) : E → Bool
  | .ci i => match c with | .int j => i == j | _ => false
  | .cs x => match c with | .str y => x == y | _ => false
  | .cb b => match c with | .bool d => b == d | _ => false
  | .cn => match c with | .none => true | _ => false
  | _ => false
/-- what is asked: a value, an operand (a held list may be looked at), what is walked -/
inductive Md where | pl | pk | it
inductive Ar where
  | e (x : PySem.Expr)
  | l (xs : List PySem.Expr)
def optB (nil : Bool) (f : Ar → Bool) : Option PySem.Expr → Bool
  | none => nil
  | some e => !nil && f (.e e)
def ifsB (nil : Bool) (f : Ar → Bool) : List PySem.Expr → Bool
  | [] => nil
  | [e] => !nil && f (.e e)
  | _ => false
def plainIx : PySem.Expr → Bool
  | .Name _ _ => true
  | .Constant _ _ _ => true
  | .BinOp _ _ _ _ => true
  | .UnaryOp _ _ _ => true
  | .Call _ _ _ _ => true
  | .Subscript _ _ _ => true
  | _ => false
def Md.isPk : Md → Bool
  | .pk => true
  | _ => false
def Md.isIt : Md → Bool
  | .it => true
  | _ => false
def itTg (it : E) (tg : Tg) : Bool := match it with
  | .zip _ _ => (match tg with | .tup _ => true | _ => false)
  | .enum _ => (match tg with | .tup _ => true | _ => false)
  | _ => true
def notSetB : PySem.Expr → Bool
  | .Set _ _ _ => false
  | _ => true
section
variable (N : List Str) (G : Genv) (sc : Scope) (md : Md) (f1 f2 f3 : Ar → Bool) (g1 g2 g3 : Scope → Ar → Bool)
def kVar (i : Nat) : Ar → Bool
  | .e (.Name x _) => nmB N i x && visB sc x
  | _ => false
def kConst (m : E) : Ar → Bool
  | .e (.Constant c _ _) => constB c m
  | _ => false
def kGlb (n : Nat) : Ar → Bool
  | .e (.Name x _) => (G.gnm n == x) && glB sc x && !dbg x
  | _ => false
def kBin (o : Bop) : Ar → Bool
  | .e (.BinOp l op r _) => (o.op == op) && f1 (.e l) && f2 (.e r)
  | _ => false
def kNeg : Ar → Bool
  | .e (.UnaryOp .USub x _) => f1 (.e x)
  | _ => false
def kCmp (o : Cop) : Ar → Bool
  | .e (.Compare l [op] [r] _) => (o.op == op) && !(behindInMarks op r) && f1 (.e l) && f2 (.e r)
  | _ => false
def kChain (o q : Cop) : Ar → Bool
  | .e (.Compare l [op, oq] [m, r] _) => (o.op == op) && (q.op == oq) && !(behindInMarks op m) && !(behindInMarks oq r) && f1 (.e l) && f2 (.e m) && f3 (.e r)
  | _ => false
def kAnd : Ar → Bool
  | .e (.BoolOp .And (x :: y :: r) p) => f1 (.e x) && f2 (.e (.BoolOp .And (y :: r) p))
  | _ => false
def kOr : Ar → Bool
  | .e (.BoolOp .Or (x :: y :: r) p) => f1 (.e x) && f2 (.e (.BoolOp .Or (y :: r) p))
  | _ => false
def kOne : Ar → Bool
  | .e (.BoolOp _ [x] _) => f1 (.e x)
  | _ => false
def kNot : Ar → Bool
  | .e (.UnaryOp .Not x _) => f1 (.e x)
  | _ => false
def kIte : Ar → Bool
  | .e (.IfExp t x y _) => f1 (.e t) && f2 (.e x) && f3 (.e y)
  | _ => false
def kTup : Ar → Bool
  | .e (.Tuple xs _ _) => f1 (.l xs)
  | _ => false
def kLst : Ar → Bool
  | .e (.List xs _) => f1 (.l xs)
  | _ => false
def kNil : Ar → Bool
  | .l [] => true
  | _ => false
def starred : PySem.Expr → Bool
  | .Starred _ _ => true
  | _ => false
def kCons : Ar → Bool
  | .l (x :: xs) => !starred x && f1 (.e x) && f2 (.l xs)
  | _ => false
def kIdx : Ar → Bool
  | .e (.Subscript x ix _) => plainIx ix && f1 (.e x) && f2 (.e ix)
  | _ => false
def kSl (n1 n2 : Bool) : Ar → Bool
  | .e (.Subscript x (.Slice l h none _) _) => f1 (.e x) && optB n1 f2 l && optB n2 f3 h
  | _ => false
def kRev : Ar → Bool
  | .e (.Subscript x (.Slice none none (some (.UnaryOp .USub (.Constant (.int 1) _ _) _)) _) _) => f1 (.e x)
  | _ => false
def kBi (b : Bi) : Ar → Bool
  | .e (.Call (.Name f _) (x :: xs) [] _) => (b.nm == f) && glB sc f && f1 (.l (x :: xs))
  | _ => false
def kIsi (t : Ty) : Ar → Bool
  | .e (.Call (.Name f _) [x, .Name ty _] [] _) => (f == ("isinstance" : Str)) && glB sc f && (ty == Str.ofString t.nm) && glB sc ty && !starred x && f1 (.e x)
  | _ => false
def kCall (f : Nat) : Ar → Bool
  | .e (.Call (.Name x _) xs [] _) => (G.fn f).isSome && (G.fnm f == x) && glB sc x && !dbg x && f1 (.l xs)
  | _ => false
def kCallm (f i : Nat) : Ar → Bool
  | .e (.Call (.Name x _) (.Name y _ :: xs) [] _) => (G.fn f).isSome && (G.fnm f == x) && glB sc x && !dbg x && nmB N i y && visB sc y && f1 (.l xs)
  | _ => false
def kLc (tg : Tg) (tt nc : Bool) (own : List (Str × Nat)) : Ar → Bool
  | .e (.ListComp e [⟨t, i, ifs, as⟩] scope _) => (as == 0) && blkC N sc scope own && tt && notSetB i && tgIn (own.map (·.2)) tg && okG N scope tg t && f1 (.e i) && ifsB nc (g2 (relS scope sc)) ifs && g3 (relS scope sc) (.e e)
  | _ => false
def kFlat (j k : Nat) (tt : Bool) (own : List (Str × Nat)) : Ar → Bool
  | .e (.ListComp (.Name z _) [⟨.Name x _, i, [], a0⟩, ⟨.Name y _, .Name x2 _, [], a1⟩] scope _) => (a0 == 0) && (a1 == 0) && (z == y) && (x2 == x) && blkC N sc scope own && tt && notSetB i && ((own.map (·.2)).contains j && (own.map (·.2)).contains k && (j != k)) && (nmB N j x && locB scope x && visB (relS scope sc) x) && (nmB N k y && locB scope y && visB (relS scope sc) y) && f1 (.e i)
  | _ => false
def kKsort (i : Nat) : Ar → Bool
  | .e (.Call (.Name f _) [.Name x _] [] _) => (f == ("sorted" : Str)) && glB sc f && nmB N i x && visB sc x
  | _ => false
def kKeys (i : Nat) (x : Ar) : Bool := md.isIt && kVar N sc i x
def kPop (i : Nat) : Ar → Bool
  | .e (.Call (.Attribute (.Name x _) m ap) [] [] cp) => nmB N i x && visB sc x && (m == ("pop" : Str)) && (ap.endLine == cp.line)
  | _ => false
def kSset : Ar → Bool
  | .e (.Call (.Name f _) [.Call (.Name g _) [x] [] _] [] _) => (f == ("sorted" : Str)) && glB sc f && (g == ("set" : Str)) && glB sc g && !starred x && f1 (.e x)
  | _ => false
def plainBase : PySem.Expr → Bool
  | .Name _ _ => true
  | .Call _ (_ :: _) _ _ => true
  | _ => false
def kMeth (m : Mt) : Ar → Bool
  | .e (.Call (.Attribute x nm ap) [v] [] cp) => (m.nm == nm) && (ap.endLine == cp.line) && plainBase x && !starred v && f1 (.e x) && f2 (.e v)
  | _ => false
def kDin (neg : Bool) (i : Nat) : Ar → Bool
  | .e (.Compare l [op] [.Name x _] _) => ((if neg then CmpOp.NotIn else CmpOp.In) == op) && nmB N i x && visB sc x && f1 (.e l)
  | _ => false
def kDget (i : Nat) : Ar → Bool
  | .e (.Call (.Attribute (.Name x _) m ap) [v] [] cp) => (m == ("get" : Str)) && nmB N i x && visB sc x && (ap.endLine == cp.line) && !starred v && f1 (.e v)
  | _ => false
def kFn1 (nm : Str) : Ar → Bool
  | .e (.Call (.Name f _) [x] [] _) => md.isIt && (f == nm) && glB sc f && !starred x && f1 (.e x)
  | _ => false
def kFn2 (nm : Str) : Ar → Bool
  | .e (.Call (.Name f _) [x, y] [] _) => md.isIt && (f == nm) && glB sc f && !starred x && !starred y && f1 (.e x) && f2 (.e y)
  | _ => false
end
def okE (G : Genv) (N : List Str) : E → Md → Scope → Ar → Bool
  | .var i, _, sc, x => kVar N sc i x
  | .peek i, md, sc, x => md.isPk && kVar N sc i x
  | .ci i, _, _, x => kConst (.ci i) x
  | .cs i, _, _, x => kConst (.cs i) x
  | .cb i, _, _, x => kConst (.cb i) x
  | .cn, _, _, x => kConst .cn x
  | .glb n, _, sc, x => kGlb G sc n x
  | .bin o a b, _, sc, x => kBin (okE G N a .pk sc) (okE G N b .pk sc) o x
  | .neg a, _, sc, x => kNeg (okE G N a .pl sc) x
  | .cmp o a b, _, sc, x => kCmp (okE G N a .pk sc) (okE G N b .pk sc) o x
  | .chain o q a b c, _, sc, x => kChain (okE G N a .pl sc) (okE G N b .pl sc) (okE G N c .pl sc) o q x
  | .and_ a b, _, sc, x => kAnd (okE G N a .pl sc) (okE G N b .pl sc) x
  | .or_ a b, _, sc, x => kOr (okE G N a .pl sc) (okE G N b .pl sc) x
  | .one a, _, sc, x => kOne (okE G N a .pl sc) x
  | .not_ a, _, sc, x => kNot (okE G N a .pl sc) x
  | .ite c a b, _, sc, x => kIte (okE G N c .pl sc) (okE G N a .pl sc) (okE G N b .pl sc) x
  | .tup es, _, sc, x => kTup (okE G N es .pl sc) x
  | .lst es, _, sc, x => kLst (okE G N es .pl sc) x
  | .nil, _, _, x => kNil x
  | .cons a r, md, sc, x => kCons (okE G N a md sc) (okE G N r md sc) x
  | .idx a i, _, sc, x => kIdx (okE G N a .pk sc) (okE G N i .pl sc) x
  | .sl a lo hi, _, sc, x => kSl (okE G N a .pk sc) (okE G N lo .pl sc) (okE G N hi .pl sc) (isNil lo) (isNil hi) x
  | .rev a, _, sc, x => kRev (okE G N a .pk sc) x
  | .bi b es, _, sc, x => kBi sc (okE G N es .pk sc) b x
  | .isi a t, _, sc, x => kIsi sc (okE G N a .pl sc) t x
  | .call f es, _, sc, x => kCall G sc (okE G N es .pl sc) f x
  | .callm f i es, _, sc, x => kCallm N G sc (okE G N es .pl sc) f i x
  | .lc elt tg it cond own, _, sc, x => kLc N sc (okE G N it .it sc) (okE G N cond .pl) (okE G N elt .pl) tg (itTg it tg) (isNil cond) own x
  | .pop i, _, sc, x => kPop N sc i x
  | .sset a, _, sc, x => kSset sc (okE G N a .pl sc) x
  | .meth m o a, _, sc, x => kMeth (okE G N o .pk sc) (okE G N a .pl sc) m x
  | .din neg k i, _, sc, x => kDin N sc (okE G N k .pl sc) neg i x
  | .dget i k, _, sc, x => kDget N sc (okE G N k .pl sc) i x
  | .dkeys i, md, sc, x => kKeys N sc md i x
  | .ksort i, _, sc, x => kKsort N sc i x
  | .flat it own j k, _, sc, x => kFlat N sc (okE G N it .it sc) j k (itTg it (.nm j)) own x
  | .rng1 a, md, sc, x => kFn1 sc md (okE G N a .pl sc) "range" x
  | .rng2 a b, md, sc, x => kFn2 sc md (okE G N a .pl sc) (okE G N b .pl sc) "range" x
  | .zip a b, md, sc, x => kFn2 sc md (okE G N a .pl sc) (okE G N b .pl sc) "zip" x
  | .enum a, md, sc, x => kFn1 sc md (okE G N a .pl sc) "enumerate" x
end Rv

set_option Elab.async false
set_option linter.all false
set_option maxRecDepth 100000
set_option maxHeartbeats 4000000
/-! Rv5: what the evaluator says is what the text does: expressions. -/
namespace Rv
open PySem PySem.Spec PyProof.Rows L2

/-! ### promises of defs -/
structure CStep (mu : Option Addr) (F H F' H' : Hp) : Prop where
  sub : Same F' H'
  keep : ∀ b o, H b = some o → mu ≠ some b → H' b = some o
  kf : ∀ b, H b ≠ none → F' b = F b
  there : ∀ b, H b ≠ none → H' b ≠ none
def ResF (K : PySem.W.Frag) (fr : Bool) (H F' H' : Hp) (v : V) (d : D) : Prop :=
  match fr, d with
  | true, .list l => ∃ a xs, v = .ref a ∧ H' a = some (.lst xs) ∧ F' a = none ∧ H a = none ∧ RpAll K F' xs l
  | _, _ => Rp K F' v d
/-- what is given: the data, or (the first one, where it is changed) a held list -/
def ArgsOk (K : PySem.W.Frag) (mu : Bool) (F H : Hp) (vs : List V) (ds : List D) (ma : Option Addr) : Prop :=
  match mu with
  | false => ma = none ∧ RpAll K F vs ds
  | true => ∃ a xs l ws es, ma = some a ∧ vs = .ref a :: ws ∧ ds = .list l :: es ∧ H a = some (.lst xs) ∧ F a = none ∧ RpAll K F xs l ∧ RpAll K F ws es
def MutOk (K : PySem.W.Frag) (ma : Option Addr) (F' H' : Hp) (l : List D) : Prop :=
  match ma with
  | none => True
  | some a => ∃ xs, H' a = some (.lst xs) ∧ RpAll K F' xs l
def spOf (K : PySem.W.Frag) (cl : Str → Value) (fs : FSem) : Sp := fun vs H Q E => ∃ F ds ma, Same F H ∧ vs.length = fs.ar ∧ ArgsOk K fs.mu F H vs ds ma ∧
  match fs.f ds with
  | .ok (r, l) => ∀ v F' H', CStep ma F H F' H' → MutOk K ma F' H' l → ResF K fs.fr H F' H' v r → Q v H'
  | .exc c => ∀ F' H', CStep ma F H F' H' → E (cl c) none H'
  | .bot => False

def bltNames : List Str := ["len", "abs", "int", "list", "tuple", "all", "any", "sum", "max", "min", "isinstance", "bool", "str", "range", "zip", "enumerate", "sorted", "set", "dict"]

structure CallOk (K : PySem.W.Frag) (cl : Str → Value) (CX : CXT) (X : Cx) (nm : Str) (fs : FSem) : Prop where
  ex : ∃ (f : Addr) (fd : FuncData) (ps : List Str) (k : Nat), FnOk X.prog X.w X.K X.mg X.base CX k f fd ps (spOf K cl fs) ∧ Room k X.A ∧ X.mg nm = some (.ref f) ∧ PySem.W.keepIn X.K (.ref f) = true ∧ Binds X.K fd ps []
structure Cxt (p : Pm) (G : Genv) (cl : Str → Value) (CX : CXT) (Ex : XK) (sc : Scope) (X : Cx) : Prop where
  k : X.K = p.K
  calm : X.calm = true
  nd : X.N.Nodup
  sc : X.env.scope = sc
  un : X.A.units + 65 < cLine
  glb : ∀ n d, G.gl n = some d → ∃ u v, X.mg (G.gnm n) = some u ∧ RelV v u ∧ ∀ F, Rp p.K F v d
  blt : ∀ x ∈ bltNames, X.mg x = none
  fns : ∀ f fs, G.fn f = some fs → CallOk p.K cl CX X (G.fnm f) fs
  pass : Passes CX X Ex
  kind : X.env.scope.kind = .function
  cx0 : ∀ st H s e s', ¬ CX st H s (fun _ _ _ => False) e s'
  hs : p.hs = (PySem.tupleKind (mixKind X.prog X.w)).hash

/-! ### readings by the evaluator -/
def Po {α : Type} (p : Pm) (cl : Str → Value) (Ex : XK) (env : En) (σ : L2.St) (F H : Hp) (r : Rs (α × En)) (k : α → En → Hp → Hp → Prop) : Prop :=
  match r with
  | .ok (a, env') => ∀ F' H', Rel p env' σ F' H' → Step env σ F H env' F' H' → k a env' F' H'
  | .exc c => ∀ F' H', HRel p F' H' → Ex (cl c) none H'
  | .bot => False
section
variable {p : Pm} {cl : Str → Value} {Ex : XK} {env : En} {σ : L2.St} {F H : Hp} {α β : Type}
theorem Po.imp {r : Rs (α × En)} {k k' : α → En → Hp → Hp → Prop} (h : Po p cl Ex env σ F H r k) (hk : ∀ a env' F' H', Rel p env' σ F' H' → Step env σ F H env' F' H' → k a env' F' H' → k' a env' F' H') : Po p cl Ex env σ F H r k' := by
  cases r with
  | ok q => obtain ⟨a, env'⟩ := q; exact fun F' H' r s => hk a env' F' H' r s (h F' H' r s)
  | exc c => exact h
  | bot => exact h
theorem Po.bind {r : Rs (α × En)} {f : α × En → Rs (β × En)} {k : β → En → Hp → Hp → Prop} (h : Po p cl Ex env σ F H (r.bind f) k) :
    Po p cl Ex env σ F H r (fun a env1 F1 H1 => Po p cl Ex env1 σ F1 H1 (f (a, env1)) fun b env2 F2 H2 => Step env σ F H env2 F2 H2 → k b env2 F2 H2) := by
  cases r with
  | ok q =>
    obtain ⟨a, env1⟩ := q
    intro F1 H1 r1 s1
    show Po p cl Ex env1 σ F1 H1 (f (a, env1)) _
    have h : Po p cl Ex env σ F H (f (a, env1)) k := h
    cases e : f (a, env1) with
    | ok q2 =>
      obtain ⟨b, env2⟩ := q2
      rw [e] at h
      exact fun F2 H2 r2 s2 s3 => h F2 H2 r2 s3
    | exc c => rw [e] at h; exact h
    | bot => rw [e] at h; exact h
  | exc c => exact h
  | bot => exact h
/-- .. where the steps are put together -/
theorem Po.bind' {r : Rs (α × En)} {f : α × En → Rs (β × En)} {k : β → En → Hp → Hp → Prop} (h : Po p cl Ex env σ F H (r.bind f) k) :
    Po p cl Ex env σ F H r (fun a env1 F1 H1 => Po p cl Ex env1 σ F1 H1 (f (a, env1)) k) := by
  refine h.bind.imp fun a env1 F1 H1 r1 s1 q => q.imp fun b env2 F2 H2 r2 s2 q2 => q2 (s1.trans s2)
theorem Po.now {a : α} {env' : En} {k : α → En → Hp → Hp → Prop} (h : Po p cl Ex env σ F H (.ok (a, env')) k) (r : Rel p env' σ F H) (s : Step env σ F H env' F H) : k a env' F H := h F H r s
end

def Fresh (p : Pm) (env : En) (σ : L2.St) (Hs F H : Hp) (v : V) (l : List D) : Prop :=
  ∃ a xs, v = .ref a ∧ H a = some (.lst xs) ∧ F a = none ∧ p.H0 a = none ∧ Hs a = none ∧ ¬ Own env σ a ∧ RpAll p.K F xs l
def ResOk (fr : Bool) (p : Pm) (env : En) (σ : L2.St) (Hs F H : Hp) (v : V) (d : D) : Prop :=
  match fr, d with
  | true, .list l => Fresh p env σ Hs F H v l
  | _, _ => Rp p.K F v d
/-- an expression, its answer as it comes -/
def TB (p : Pm) (cl : Str → Value) (Ex : XK) (G : Genv) (m : E) : TE := fun σ H Q => ∃ F env, Rel p env σ F H ∧ Po p cl Ex env σ F H (ev G m env) fun d env' F' H' => ∀ v, ResOk (isFresh G m) p env' σ H F' H' v d → Q v H'
/-- .. frozen -/
def TR (p : Pm) (cl : Str → Value) (Ex : XK) (G : Genv) (m : E) : TE := fun σ H Q => ∃ F env, Rel p env σ F H ∧ Po p cl Ex env σ F H (ev G m env) fun d _ F' H' => ∀ v, Rp p.K F' v d → Q v H'
/-- .. looked at -/
def TV (p : Pm) (cl : Str → Value) (Ex : XK) (G : Genv) (m : E) : TE := fun σ H Q => ∃ F env, Rel p env σ F H ∧ Po p cl Ex env σ F H (ev G m env) fun d _ F' H' => ∀ v, Vw p.K F' H' v d → Q v H'
def TT_ (p : Pm) (cl : Str → Value) (Ex : XK) (G : Genv) (m : E) : TT := fun σ H Q => ∃ F env, Rel p env σ F H ∧ Po p cl Ex env σ F H (ev G m env) fun d _ _ H' => ∃ k, tru d = some k ∧ Q k H'
def TAv (p : Pm) (cl : Str → Value) (Ex : XK) (G : Genv) (m : E) : TA := fun σ H Q => ∃ F env, Rel p env σ F H ∧ Po p cl Ex env σ F H (ev G m env) fun d _ F' H' => ∃ ds, d = .list ds ∧ ∀ vs, Vws p.K F' H' vs ds → Q vs H'
def TAr (p : Pm) (cl : Str → Value) (Ex : XK) (G : Genv) (m : E) : TA := fun σ H Q => ∃ F env, Rel p env σ F H ∧ Po p cl Ex env σ F H (ev G m env) fun d _ F' H' => ∃ ds, d = .list ds ∧ ∀ vs, RpAll p.K F' vs ds → Q vs H'

section
variable {X : Cx} {p : Pm} {cl : Str → Value} {Ex : XK} {G : Genv} {CX : CXT} {sc : Scope} {m : E} {e : PySem.Expr}
theorem PE.weak {t t' : TE} (h : PE X e t) (hw : ∀ σ H Q, t' σ H Q → t σ H Q) : PE X e t' := ⟨fun pins s σ H Q I q => h.run pins s σ H Q I (hw σ H Q q)⟩
theorem PT.weak {t t' : TT} (h : PT X e t) (hw : ∀ σ H Q, t' σ H Q → t σ H Q) : PT X e t' := ⟨fun pins s σ H Q I q => h.run pins s σ H Q I (hw σ H Q q)⟩
theorem PA.weak {es : List PySem.Expr} {t t' : TA} (h : PA X es t) (hw : ∀ σ H Q, t' σ H Q → t σ H Q) : PA X es t' := ⟨fun pos pins s σ H Q I q => h.run pos pins s σ H Q I (hw σ H Q q)⟩
/-- Po, at another frozen part -/
theorem Po.frozen {env : En} {σ : L2.St} {F H : Hp} {r : Rs (D × En)} {k : D → En → Hp → Hp → Prop} {fr : Bool} {Q : VK}
    (h : Po p cl Ex env σ F H r fun d _ F' H' => ∀ v, Rp p.K F' v d → Q v H') : Po p cl Ex env σ F H r fun d env' F' H' => ∀ v, ResOk fr p env' σ H F' H' v d → Q v H' := by
  cases r with
  | ok q =>
    obtain ⟨d, env'⟩ := q
    intro F' H' r s v res
    unfold ResOk at res
    split at res
    · obtain ⟨a, xs, rfl, e1, e2, e3, e4, e5, e6⟩ := res
      have r2 := r.freeze (o := .lst xs) e1 e2 e3 e5
      have sf : Same F' (upd F' a (.lst xs)) := same_upd e2
      refine h _ H' r2 ?_ _ (.lst (.inl (.inl upd_same)) (e6.mono sf))
      refine ⟨s.keep, fun b hb n => ?_, s.there, s.owl, s.sub.trans sf⟩
      have nb : b ≠ a := fun z => hb (by rw [z]; exact e4)
      rw [upd_ne nb]
      exact s.kf b hb n
    · exact h F' H' r s v res
  | exc c => exact h
  | bot => exact h
theorem PE.r (h : PE X e (TB p cl Ex G m)) : PE X e (TR p cl Ex G m) := PE.weak h fun σ H Q ⟨F, env, r, q⟩ => ⟨F, env, r, q.frozen (k := fun _ _ _ _ => True)⟩
theorem PE.v (h : PE X e (TR p cl Ex G m)) : PE X e (TV p cl Ex G m) := PE.weak h fun σ H Q ⟨F, env, r, q⟩ => ⟨F, env, r, q.imp fun d env' F' H' _ _ k v hv => k v (.rp hv)⟩
/-- what is asked of the text's names -/
theorem nm_at {N : List Str} {i : Nat} {x : Str} (h : nmB N i x = true) : N[i]? = some x ∧ (x == ("__debug__" : Str)) = false ∧ (x == ("__classdict__" : Str)) = false := by
  unfold nmB dbg at h
  simp only [Bool.and_eq_true, beq_iff_eq, Bool.not_eq_true', Bool.or_eq_false_iff] at h
  exact ⟨h.1, h.2.1, h.2.2⟩
theorem vis_of (c : X.env.scope = sc) {x : Str} (h : visB sc x = true) : Vis X.env.scope x := by
  unfold visB at h
  rw [c]
  unfold Vis
  cases q : sc.names.lookup x with
  | none => rw [q] at h; cases h
  | some k =>
    rw [q] at h
    cases k with
    | «local» => exact .inl rfl
    | cell => exact .inr (.inl rfl)
    | free => exact .inr (.inr rfl)
    | globalExplicit => cases h
    | globalImplicit => cases h
theorem gl_of (c : X.env.scope = sc) {x : Str} (h : glB sc x = true) : Gl X x := by
  unfold glB at h
  unfold Gl Env.kindOf
  rw [c]
  cases q : sc.names.lookup x with
  | none => rw [q] at h; cases h
  | some k =>
    rw [q] at h
    cases k with
    | globalImplicit => rfl
    | «local» => cases h
    | cell => cases h
    | free => cases h
    | globalExplicit => cases h
theorem dbg_of {x : Str} (h : dbg x = false) : (x == ("__debug__" : Str)) = false ∧ (x == ("__classdict__" : Str)) = false := by
  unfold dbg at h
  simp only [Bool.or_eq_false_iff] at h
  exact h

/-! ### names and constants -/
theorem s_var {i : Nat} {x : Str} {pos : Pos} (C : Cxt p G cl CX Ex sc X) (h1 : nmB X.N i x = true) (h2 : visB sc x = true) : PE X (.Name x pos) (TB p cl Ex G (.var i)) := by
  obtain ⟨n1, n2, n3⟩ := nm_at h1
  refine PE.weak (pe_var n1 (vis_of C.sc h2) n2 n3) fun σ H Q ⟨F, env, r, q⟩ => ?_
  unfold ev at q
  split at q
  · rename_i d e1
    obtain ⟨v, e2, e3⟩ := r.pdo i d e1
    refine ⟨v, e2, q.now r (Step.refl _ _ _ _) v ?_⟩
    unfold ResOk
    exact e3
  · rename_i l e1
    obtain ⟨a, xs, e2, e3, r2, s2, e4⟩ := r.freezeSlot e1
    exact ⟨_, e2, q _ _ r2 s2 _ e4⟩
  · exact q.elim
theorem _root_.Rv.Rel.peek {env : En} {σ : L2.St} {F H : Hp} {i : Nat} {d : D} (r : Rel p env σ F H) (h : peekAt env i = some d) : ∃ v, σ[i]? = some (some v) ∧ Vw p.K F H v d := by
  unfold peekAt at h
  split at h
  · rename_i e
    cases h
    obtain ⟨v, q1, q2⟩ := r.pdo i _ e
    exact ⟨v, q1, .rp q2⟩
  · rename_i l e
    cases h
    obtain ⟨a, xs, q1, q2, _, q4⟩ := r.owo i l (by unfold heldAt; rw [e]; rfl)
    exact ⟨_, q1, .own q2 q4⟩
  · rename_i l e
    cases h
    obtain ⟨a, xs, q1, q2, _, q4⟩ := r.owo i l (by unfold heldAt; rw [e]; rfl)
    exact ⟨_, q1, .own q2 q4⟩
  · cases h
theorem s_peek {i : Nat} {x : Str} {pos : Pos} (C : Cxt p G cl CX Ex sc X) (h1 : nmB X.N i x = true) (h2 : visB sc x = true) : PE X (.Name x pos) (TV p cl Ex G (.peek i)) := by
  obtain ⟨n1, n2, n3⟩ := nm_at h1
  refine PE.weak (pe_var n1 (vis_of C.sc h2) n2 n3) fun σ H Q ⟨F, env, r, q⟩ => ?_
  unfold ev at q
  split at q
  · rename_i d e1
    obtain ⟨v, e2, e3⟩ := r.peek e1
    exact ⟨_, e2, q.now r (Step.refl _ _ _ _) _ e3⟩
  · exact q.elim
theorem s_const {c : Const} {k : Nat} {pos : Pos} (h : constB c m = true) : PE X (.Constant c k pos) (TB p cl Ex G m) := by
  cases m with
  | ci i =>
    cases c with
    | int j =>
      have e : i = j := beq_iff_eq.mp h
      subst e
      exact PE.weak pe_int fun σ H Q ⟨F, env, r, q⟩ => q.now r (Step.refl _ _ _ _) _ (.int i)
    | _ => cases h
  | cs i =>
    cases c with
    | str j =>
      have e : i = j := beq_iff_eq.mp h
      subst e
      exact PE.weak pe_str fun σ H Q ⟨F, env, r, q⟩ => q.now r (Step.refl _ _ _ _) _ (.str i)
    | _ => cases h
  | cb i =>
    cases c with
    | bool j =>
      have e : i = j := beq_iff_eq.mp h
      subst e
      exact PE.weak pe_bl fun σ H Q ⟨F, env, r, q⟩ => q.now r (Step.refl _ _ _ _) _ (.bl i)
    | _ => cases h
  | cn =>
    cases c with
    | none => exact PE.weak pe_non fun σ H Q ⟨F, env, r, q⟩ => q.now r (Step.refl _ _ _ _) _ .non
    | _ => cases h
  | _ => cases h
theorem s_glb {n : Nat} {x : Str} {pos : Pos} (C : Cxt p G cl CX Ex sc X) (h1 : G.gnm n = x) (h2 : glB sc x = true) (h3 : dbg x = false) : PE X (.Name x pos) (TB p cl Ex G (.glb n)) := by
  subst h1
  cases e : G.gl n with
  | none =>
    refine ⟨fun pins s σ H Q I ⟨F, env, r, q⟩ => ?_⟩
    unfold ev at q
    rw [e] at q
    exact q.elim
  | some d =>
    obtain ⟨u, v, e1, e2, e3⟩ := C.glb n d e
    refine PE.weak (pe_glob (gl_of C.sc h2) e1 e2 (dbg_of h3).1) fun σ H Q ⟨F, env, r, q⟩ => ?_
    unfold ev at q
    rw [e] at q
    refine q.now r (Step.refl _ _ _ _) v ?_
    unfold ResOk
    exact e3 F

/-! ### what an operation's answer leaves -/
theorem out_of {env env' : En} {σ : L2.St} {F H F' H' : Hp} {d : D} {Q : VK} (r : Rel p env' σ F' H') (s : Step env σ F H env' F' H')
    (h : ∀ F'' H'', Rel p env' σ F'' H'' → Step env' σ F' H' env' F'' H'' → ∀ v, ResOk true p env' σ H F'' H'' v d → Q v H'') : Out p.K F' H' d Q := by
  refine ⟨fun v hv hn => h F' H' r (Step.refl _ _ _ _) v ?_, fun q xs l e hq ha => ?_, fun q xs l e hq ha => ?_⟩
  · unfold ResOk
    cases d with
    | list l => exact absurd rfl (hn l)
    | _ => exact hv
  · subst e
    refine h F' _ (r.alloc hq) (Step.alloc hq) _ ⟨q, xs, rfl, upd_same, none_of_same r.hr.sub hq, ?_, ?_, ?_, ha⟩
    · exact Decidable.byContradiction fun z => r.hr.there q z hq
    · exact Decidable.byContradiction fun z => s.there q z hq
    · exact r.not_own hq
  · subst e
    have sf : Same F' (upd F' q (.tup xs)) := same_upd (none_of_same r.hr.sub hq)
    refine h _ _ (r.give hq) (Step.give r.hr.sub hq) _ ?_
    exact Rp.tup (SqT.of upd_same) (ha.mono sf)
/-- from what is wanted of ret1 -/
theorem Po.ret1 {env env' : En} {σ : L2.St} {F H : Hp} {o : Option D} {k : D → En → Hp → Hp → Prop} (h : Po p cl Ex env σ F H (ret1 o env') k) : ∃ d, o = some d ∧ ∀ F' H', Rel p env' σ F' H' → Step env σ F H env' F' H' → k d env' F' H' := by
  cases o with
  | none => exact h.elim
  | some d => exact ⟨d, rfl, h⟩

/-! ### two operands -/
theorem two_of {a b : E} {ta tb : TE} {σ : L2.St} {env : En} {F H : Hp} {R : V → V → Hp → Prop}
    (ha : (peekOf a).isSome = true → ta = tVar ((peekOf a).getD 0)) (ha' : peekOf a = none → ∀ σ H Q, TR p cl Ex G a σ H Q → ta σ H Q) (hb' : ∀ σ H Q, TV p cl Ex G b σ H Q → tb σ H Q)
    (r : Rel p env σ F H) (h : Po p cl Ex env σ F H (two (ev G a) (ev G b) (peekOf a) env) fun d env' F' H' => ∀ v u, Vw p.K F' H' v d.1 → Vw p.K F' H' u d.2 → R v u H') :
    ta σ H fun v H1 => tb σ H1 fun u H2 => R v u H2 := by
  unfold two at h
  cases e : peekOf a with
  | some i =>
    rw [e] at h
    have et : ta = tVar i := by rw [ha (by rw [e]; rfl), e]; rfl
    rw [et]
    dsimp only at h
    split at h
    · rename_i hi
      obtain ⟨l0, hl0⟩ := Option.isSome_iff_exists.mp hi
      obtain ⟨a0, e2, _⟩ := r.peek hl0
      refine ⟨_, e2, hb' _ _ _ ⟨F, env, r, ?_⟩⟩
      refine h.bind'.imp fun d env1 F1 H1 r1 s1 q u hu => ?_
      dsimp only at q
      split at q
      · rename_i l hl
        obtain ⟨a1, e3, e4⟩ := r1.peek hl
        rw [e2] at e3; cases e3
        exact q.now r1 (Step.refl _ _ _ _) _ _ e4 hu
      · exact q.elim
    · exact h.elim
  | none =>
    rw [e] at h
    dsimp only at h
    refine ha' e _ _ _ ⟨F, env, r, ?_⟩
    refine h.bind'.imp fun d env1 F1 H1 r1 s1 q v hv => ?_
    refine hb' _ _ _ ⟨F1, env1, r1, ?_⟩
    refine q.bind'.imp fun d2 env2 F2 H2 r2 s2 q2 u hu => ?_
    exact q2.now r2 (Step.refl _ _ _ _) _ _ (.rp (hv.mono s2.sub)) hu
/-- two frozen ones -/
theorem two_r {a b : E} {σ : L2.St} {env : En} {F H : Hp} {R : V → V → Hp → Prop}
    (r : Rel p env σ F H) (h : Po p cl Ex env σ F H (two (ev G a) (ev G b) none env) fun d env' F' H' => ∀ v u, Rp p.K F' v d.1 → Rp p.K F' u d.2 → R v u H') :
    TR p cl Ex G a σ H fun v H1 => TR p cl Ex G b σ H1 fun u H2 => R v u H2 := by
  unfold two at h
  refine ⟨F, env, r, ?_⟩
  refine h.bind'.imp fun d env1 F1 H1 r1 s1 q v hv => ?_
  refine ⟨F1, env1, r1, ?_⟩
  refine q.bind'.imp fun d2 env2 F2 H2 r2 s2 q2 u hu => ?_
  exact q2.now r2 (Step.refl _ _ _ _) _ _ (hv.mono s2.sub) hu

/-- a first operand -/
def Opd (X : Cx) (p : Pm) (cl : Str → Value) (Ex : XK) (G : Genv) (a : E) (ea : PySem.Expr) : Prop :=
  ∃ ta, PE X ea ta ∧ ((peekOf a).isSome = true → ta = tVar ((peekOf a).getD 0)) ∧ (peekOf a = none → ∀ σ H Q, TR p cl Ex G a σ H Q → ta σ H Q)

theorem Bop.rule (o : Bop) : OpR X (binaryOp o.op) (rOp X.K o.f) := by
  cases o with
  | add => exact op_addD
  | sub => exact op_subD
  | mul => exact op_mulD
  | fdiv => exact op_fdivD
  | mod => exact op_modD
  | pow => exact op_powD
theorem Cop.rule (hu : X.A.units + 65 < cLine) (o : Cop) : OpR X (compareOp o.op) (rOp X.K o.f) := by
  cases o with
  | eq => exact op_eqDD hu
  | ne => exact op_neDD hu
  | lt => exact op_ltD hu
  | le => exact op_leD
  | gt => exact op_gtD
  | ge => exact op_geD
  | is => exact op_isD
  | isnot => exact op_isNotD
  | isin => exact op_inDD hu
  | notin => exact op_notInDD hu
theorem s_bin {o : Bop} {a b : E} {ea eb : PySem.Expr} {pos : Pos} (C : Cxt p G cl CX Ex sc X) (ha : Opd X p cl Ex G a ea) (hb : PE X eb (TV p cl Ex G b)) :
    PE X (.BinOp ea o.op eb pos) (TB p cl Ex G (.bin o a b)) := by
  obtain ⟨ta, h1, h2, h3⟩ := ha
  refine PE.weak (pe_op (Bop.rule o) h1 hb) fun σ H Q ⟨F, env, r, q⟩ => ?_
  unfold ev at q
  refine two_of (R := fun v u H2 => rOp X.K o.f v u H2 Q) h2 h3 (fun _ _ _ z => z) r ?_
  refine q.bind'.imp fun d env' F' H' r' s' q' v u hv hu => ?_
  obtain ⟨d2, e, k⟩ := q'.ret1
  rw [C.k]
  exact ⟨F', _, _, d2, r'.hr.sub, hv, hu, e, out_of r' s' fun F'' H'' r2 s2 v2 hv2 => k F'' H'' r2 s2 v2 hv2⟩
end
end Rv

set_option Elab.async false
set_option linter.all false
set_option maxRecDepth 100000
set_option maxHeartbeats 4000000
/-! Rv6: expressions, further. -/
namespace Rv
open PySem PySem.Spec PyProof.Rows L2
section
variable {X : Cx} {p : Pm} {cl : Str → Value} {Ex : XK} {G : Genv} {CX : CXT} {sc : Scope} {m a b c : E} {e ea eb ec : PySem.Expr} {pos : Pos}

theorem Rs.bind_assoc {α β γ : Type} (r : Rs α) (f : α → Rs β) (g : β → Rs γ) : (r.bind f).bind g = r.bind fun a => (f a).bind g := by
  cases r <;> rfl
theorem s_neg (ha : PE X ea (TR p cl Ex G a)) : PE X (.UnaryOp .USub ea pos) (TB p cl Ex G (.neg a)) := by
  refine PE.weak (pe_un un_neg ha) fun σ H Q ⟨F, env, r, q⟩ => ?_
  unfold ev at q
  refine ⟨F, env, r, q.bind'.imp fun d env' F' H' r' s' q' v hv => ?_⟩
  dsimp only at q'
  split at q'
  · cases hv
    exact ⟨_, rfl, q'.now r' (Step.refl _ _ _ _) _ (.int _)⟩
  · exact q'.elim
theorem Cop.bool {o : Cop} {x y d : D} (h : o.f x y = some d) : ∃ k, d = .bool k := by
  have not_b : ∀ {z : Option D} {w : D}, notD z = some w → ∃ k, w = .bool k := fun {z w} h => by
    unfold notD at h
    split at h
    · cases h; exact ⟨_, rfl⟩
    · cases h
  cases o with
  | eq => unfold Cop.f eqD at h; dsimp only at h; split at h; · cases h; exact ⟨_, rfl⟩
          · split at h; · cases h; exact ⟨_, rfl⟩
            · cases h
  | ne => unfold Cop.f neD at h; dsimp only at h; split at h; · cases h; exact ⟨_, rfl⟩
          · split at h; · cases h; exact ⟨_, rfl⟩
            · cases h
  | lt =>
    unfold Cop.f ltD at h; dsimp only at h
    split at h
    · cases h; exact ⟨_, rfl⟩
    · cases h; exact ⟨_, rfl⟩
    · unfold lexInts at h
      split at h
      · cases h; exact ⟨_, rfl⟩
      · cases h
    · cases h
  | le => unfold Cop.f leD at h; dsimp only at h; split at h; · cases h; exact ⟨_, rfl⟩
          · cases h
  | gt => unfold Cop.f gtD at h; dsimp only at h; split at h; · cases h; exact ⟨_, rfl⟩
          · cases h
  | ge => unfold Cop.f geD at h; dsimp only at h; split at h; · cases h; exact ⟨_, rfl⟩
          · cases h
  | is =>
    unfold Cop.f isD at h; dsimp only at h
    split at h
    · cases h; exact ⟨_, rfl⟩
    · cases h; exact ⟨_, rfl⟩
    · cases h
  | isnot => exact not_b h
  | isin =>
    unfold Cop.f inD at h; dsimp only at h
    split at h
    · split at h
      · cases h; exact ⟨_, rfl⟩
      · cases h
    · split at h
      · cases h; exact ⟨_, rfl⟩
      · cases h
    · cases h; exact ⟨_, rfl⟩
    · cases h
  | notin => exact not_b h
theorem res_bool {fr : Bool} {env : En} {σ : L2.St} {Hs F H : Hp} {k : Bool} : ResOk fr p env σ Hs F H (.bl k) (.bool k) := by
  cases fr <;> exact .bl k
/-- the comparing itself -/
theorem cmp_core {o : Cop} {ta : TE} (C : Cxt p G cl CX Ex sc X) (h2 : (peekOf a).isSome = true → ta = tVar ((peekOf a).getD 0)) (h3 : peekOf a = none → ∀ σ H Q, TR p cl Ex G a σ H Q → ta σ H Q)
    {σ : L2.St} {F H : Hp} {env : En} {R : Bool → Hp → Prop} (r : Rel p env σ F H) (q : Po p cl Ex env σ F H (ev G (.cmp o a b) env) fun d _ _ H' => ∀ k, d = .bool k → R k H') :
    tOp (rOp X.K o.f) ta (TV p cl Ex G b) σ H fun z H' => ∃ k, z = .bl k ∧ R k H' := by
  unfold ev at q
  refine two_of (R := fun v u H2 => rOp X.K o.f v u H2 _) h2 h3 (fun _ _ _ z => z) r ?_
  refine q.bind'.imp fun d env' F' H' r' s' q' v u hv hu => ?_
  obtain ⟨d2, e, k⟩ := q'.ret1
  obtain ⟨kb, rfl⟩ := Cop.bool e
  rw [C.k]
  refine ⟨F', _, _, _, r'.hr.sub, hv, hu, e, ⟨fun w hw _ => ?_, (fun _ _ _ z => nomatch z), (fun _ _ _ z => nomatch z)⟩⟩
  cases hw
  exact ⟨kb, rfl, k F' H' r' (Step.refl _ _ _ _) kb rfl⟩
theorem s_cmp {o : Cop} (C : Cxt p G cl CX Ex sc X) (hm : behindInMarks o.op eb = false) (ha : Opd X p cl Ex G a ea) (hb : PE X eb (TV p cl Ex G b)) :
    PE X (.Compare ea [o.op] [eb] pos) (TB p cl Ex G (.cmp o a b)) ∧ PT X (.Compare ea [o.op] [eb] pos) (TT_ p cl Ex G (.cmp o a b)) := by
  obtain ⟨ta, h1, h2, h3⟩ := ha
  refine ⟨⟨fun pins s σ H Q I ⟨F, env, r, q⟩ => ?_⟩, PT.weak (pt_cmpR (Cop.rule C.un o) h1 hb hm) fun σ H Q ⟨F, env, r, q⟩ => ?_⟩
  · refine thn ((pe_cmpR (Cop.rule C.un o) h1 hb hm).run pins s σ H _ I (cmp_core (R := fun k H' => Q (.bl k) H') C h2 h3 r (q.imp fun d env' F' H' _ _ k kb e => k _ (by subst e; exact res_bool)))) fun u s' ⟨v, H', I', rv, k, e, q'⟩ => ?_
    exact ⟨v, H', I', rv, by rw [e]; exact q'⟩
  · exact cmp_core (R := Q) C h2 h3 r (q.imp fun d env' F' H' _ _ ⟨k, e1, e2⟩ kb e => by subst e; cases e1; exact e2)
theorem chain_core {o o' : Cop} (C : Cxt p G cl CX Ex sc X) {σ : L2.St} {F H : Hp} {env : En} {R : Bool → Hp → Prop} (r : Rel p env σ F H) (q : Po p cl Ex env σ F H (ev G (.chain o o' a b c) env) fun d _ _ H' => ∀ k, d = .bool k → R k H') :
    tChain (rOp X.K o.f) (rOp X.K o'.f) (TR p cl Ex G a) (TR p cl Ex G b) (TR p cl Ex G c) σ H fun z H' => ∃ k, z = .bl k ∧ R k H' := by
  unfold ev at q
  refine two_r (R := fun v u H2 => rOp X.K o.f v u H2 _) r ?_
  refine q.bind'.imp fun d env' F' H' r' s' q' v u hv hu => ?_
  dsimp only at q'
  rw [C.k]
  split at q'
  · rename_i e
    refine ⟨F', _, _, _, r'.hr.sub, .rp hv, .rp hu, e, ⟨fun w hw _ => ?_, (fun _ _ _ z => nomatch z), (fun _ _ _ z => nomatch z)⟩⟩
    cases hw
    refine ⟨true, rfl, ?_⟩
    refine iteT ?_
    refine ⟨F', env', r', q'.bind'.imp fun t env2 F2 H2 r2 s2 q2 w hw => ?_⟩
    obtain ⟨d2, e2, k⟩ := q2.ret1
    obtain ⟨kb, rfl⟩ := Cop.bool e2
    refine ⟨F2, _, _, _, r2.hr.sub, .rp (hu.mono s2.sub), .rp hw, e2, ⟨fun w hw _ => ?_, (fun _ _ _ z => nomatch z), (fun _ _ _ z => nomatch z)⟩⟩
    cases hw
    exact ⟨kb, rfl, k F2 H2 r2 (Step.refl _ _ _ _) kb rfl⟩
  · rename_i e
    refine ⟨F', _, _, _, r'.hr.sub, .rp hv, .rp hu, e, ⟨fun w hw _ => ?_, (fun _ _ _ z => nomatch z), (fun _ _ _ z => nomatch z)⟩⟩
    cases hw
    refine ⟨false, rfl, ?_⟩
    refine iteF ?_
    exact ⟨false, rfl, q'.now r' (Step.refl _ _ _ _) false rfl⟩
  · exact q'.elim
theorem s_chain {o o' : Cop} (C : Cxt p G cl CX Ex sc X) (hm : behindInMarks o'.op ec = false) (ha : PE X ea (TR p cl Ex G a)) (hb : PE X eb (TR p cl Ex G b)) (hc : PE X ec (TR p cl Ex G c)) :
    PE X (.Compare ea [o.op, o'.op] [eb, ec] pos) (TB p cl Ex G (.chain o o' a b c)) ∧ PT X (.Compare ea [o.op, o'.op] [eb, ec] pos) (TT_ p cl Ex G (.chain o o' a b c)) := by
  have hl : lastMarks [o.op, o'.op] [eb, ec] = false := by
    show lastMarks [o'.op] [ec] = false
    exact hm
  refine ⟨⟨fun pins s σ H Q I ⟨F, env, r, q⟩ => ?_⟩, PT.weak (pt_chain (Cop.rule C.un o) (Cop.rule C.un o') ha hb hc hl) fun σ H Q ⟨F, env, r, q⟩ => ?_⟩
  · refine thn ((pe_chain (Cop.rule C.un o) (Cop.rule C.un o') ha hb hc hl).run pins s σ H _ I (chain_core (R := fun k H' => Q (.bl k) H') C r (q.imp fun d env' F' H' _ _ k kb e => k _ (by subst e; exact res_bool)))) fun u s' ⟨v, H', I', rv, k, e, q'⟩ => ?_
    exact ⟨v, H', I', rv, by rw [e]; exact q'⟩
  · exact chain_core (R := Q) C r (q.imp fun d env' F' H' _ _ ⟨k, e1, e2⟩ kb e => by subst e; cases e1; exact e2)

/-! ### truth -/
theorem tru_of {K : PySem.W.Frag} {F H : Hp} {v : V} {d : D} {k : Bool} (sm : Same F H) (h : Rp K F v d) (e : tru d = some k) : TruV K v H k := by
  unfold tru at e
  cases h with
  | non => cases e; rfl
  | bl b => cases e; rfl
  | int i => cases e; rfl
  | str x =>
    dsimp only at e
    split at e
    · cases e; exact ⟨by assumption, rfl⟩
    · cases e
  | lst r a =>
    cases e
    refine .inl ⟨_, sql_same sm r, ?_⟩
    cases a <;> rfl
  | tup r a =>
    cases e
    refine .inr (.inl ⟨_, sqt_same sm r, ?_⟩)
    cases a <;> rfl
theorem s_truth (C : Cxt p G cl CX Ex sc X) (ha : PE X e (TR p cl Ex G m)) (he : ∀ whole, isTrue e X.env whole = (do let v ← whole; standAt e.pos; holding [v] (truthy v))) : PT X e (TT_ p cl Ex G m) := by
  refine PT.weak (pt_truth ha he) fun σ H Q ⟨F, env, r, q⟩ => ?_
  refine ⟨F, env, r, q.imp fun d env' F' H' r' s' ⟨k, e1, e2⟩ v hv => ⟨k, ?_, e2⟩⟩
  rw [C.k]
  exact tru_of r'.hr.sub hv e1
theorem s_and {x y : PySem.Expr} {rs : List PySem.Expr} (C : Cxt p G cl CX Ex sc X) (ha : PE X x (TR p cl Ex G a)) (hb : PE X (.BoolOp .And (y :: rs) pos) (TR p cl Ex G b)) : PE X (.BoolOp .And (x :: y :: rs) pos) (TB p cl Ex G (.and_ a b)) := by
  refine PE.weak (pe_andT ha hb) fun σ H Q ⟨F, env, r, q⟩ => ?_
  unfold ev at q
  refine ⟨F, env, r, q.bind'.imp fun d env' F' H' r' s' q' v hv => ?_⟩
  dsimp only at q'
  rw [C.k]
  split at q'
  · rename_i e
    refine ⟨true, tru_of r'.hr.sub hv e, ?_⟩
    refine iteT ?_
    exact ⟨F', env', r', q'.imp fun d2 env2 F2 H2 r2 s2 k v2 h2 => k v2 h2⟩
  · rename_i e
    refine ⟨false, tru_of r'.hr.sub hv e, ?_⟩
    refine iteF ?_
    exact q'.now r' (Step.refl _ _ _ _) v hv
  · exact q'.elim
theorem s_or {x y : PySem.Expr} {rs : List PySem.Expr} (C : Cxt p G cl CX Ex sc X) (ha : PE X x (TR p cl Ex G a)) (hb : PE X (.BoolOp .Or (y :: rs) pos) (TR p cl Ex G b)) : PE X (.BoolOp .Or (x :: y :: rs) pos) (TB p cl Ex G (.or_ a b)) := by
  refine PE.weak (pe_orT ha hb) fun σ H Q ⟨F, env, r, q⟩ => ?_
  unfold ev at q
  refine ⟨F, env, r, q.bind'.imp fun d env' F' H' r' s' q' v hv => ?_⟩
  dsimp only at q'
  rw [C.k]
  split at q'
  · rename_i e
    refine ⟨true, tru_of r'.hr.sub hv e, ?_⟩
    refine iteT ?_
    exact q'.now r' (Step.refl _ _ _ _) v hv
  · rename_i e
    refine ⟨false, tru_of r'.hr.sub hv e, ?_⟩
    refine iteF ?_
    exact ⟨F', env', r', q'.imp fun d2 env2 F2 H2 r2 s2 k v2 h2 => k v2 h2⟩
  · exact q'.elim
theorem s_one {x : PySem.Expr} {op : BoolOp} (ha : PE X x (TR p cl Ex G a)) : PE X (.BoolOp op [x] pos) (TB p cl Ex G (.one a)) := by
  refine PE.weak (pe_one ha) fun σ H Q ⟨F, env, r, q⟩ => ?_
  unfold ev at q
  exact ⟨F, env, r, q.imp fun d env' F' H' r' s' k v hv => k v hv⟩
theorem w_and {x y : PySem.Expr} {rs : List PySem.Expr} (ha : PT X x (TT_ p cl Ex G a)) (hb : PW X (.BoolOp .And (y :: rs) pos) (TT_ p cl Ex G b)) : PW X (.BoolOp .And (x :: y :: rs) pos) (TT_ p cl Ex G (.and_ a b)) := by
  refine ⟨fun wh pins s σ H Q I ⟨F, env, r, q⟩ => (pw_and ha hb).run wh pins s σ H Q I ?_⟩
  unfold ev at q
  refine ⟨F, env, r, q.bind'.imp fun d env' F' H' r' s' q' => ?_⟩
  dsimp only at q'
  split at q'
  · rename_i e
    refine ⟨true, e, ?_⟩
    refine iteT ?_
    exact ⟨F', env', r', q'⟩
  · rename_i e
    refine ⟨false, e, ?_⟩
    refine iteF ?_
    obtain ⟨k, e1, e2⟩ := q'.now r' (Step.refl _ _ _ _)
    rw [e] at e1; cases e1
    exact e2
  · exact q'.elim
theorem w_or {x y : PySem.Expr} {rs : List PySem.Expr} (ha : PT X x (TT_ p cl Ex G a)) (hb : PW X (.BoolOp .Or (y :: rs) pos) (TT_ p cl Ex G b)) : PW X (.BoolOp .Or (x :: y :: rs) pos) (TT_ p cl Ex G (.or_ a b)) := by
  refine ⟨fun wh pins s σ H Q I ⟨F, env, r, q⟩ => (pw_or ha hb).run wh pins s σ H Q I ?_⟩
  unfold ev at q
  refine ⟨F, env, r, q.bind'.imp fun d env' F' H' r' s' q' => ?_⟩
  dsimp only at q'
  split at q'
  · rename_i e
    refine ⟨true, e, ?_⟩
    refine iteT ?_
    obtain ⟨k, e1, e2⟩ := q'.now r' (Step.refl _ _ _ _)
    rw [e] at e1; cases e1
    exact e2
  · rename_i e
    refine ⟨false, e, ?_⟩
    refine iteF ?_
    exact ⟨F', env', r', q'⟩
  · exact q'.elim
theorem w_one {x : PySem.Expr} {op : BoolOp} (ha : PT X x (TT_ p cl Ex G a)) : PW X (.BoolOp op [x] pos) (TT_ p cl Ex G (.one a)) := by
  refine ⟨fun wh pins s σ H Q I ⟨F, env, r, q⟩ => ?_⟩
  unfold ev at q
  cases op with
  | And => exact (pw_and1 ha).run wh pins s σ H Q I ⟨F, env, r, q⟩
  | Or => exact (pw_or1 ha).run wh pins s σ H Q I ⟨F, env, r, q⟩
theorem s_not (C : Cxt p G cl CX Ex sc X) (ha : PE X ea (TR p cl Ex G a)) : PE X (.UnaryOp .Not ea pos) (TB p cl Ex G (.not_ a)) := by
  refine PE.weak (pe_notT ha) fun σ H Q ⟨F, env, r, q⟩ => ?_
  unfold ev at q
  refine ⟨F, env, r, q.bind'.imp fun d env' F' H' r' s' q' v hv => ?_⟩
  dsimp only at q'
  rw [C.k]
  split at q'
  · rename_i k e
    exact ⟨k, tru_of r'.hr.sub hv e, q'.now r' (Step.refl _ _ _ _) _ res_bool⟩
  · exact q'.elim
theorem t_not (ha : PT X ea (TT_ p cl Ex G a)) : PT X (.UnaryOp .Not ea pos) (TT_ p cl Ex G (.not_ a)) := by
  refine PT.weak (pt_not ha) fun σ H Q ⟨F, env, r, q⟩ => ?_
  unfold ev at q
  refine ⟨F, env, r, q.bind'.imp fun d env' F' H' r' s' q' => ?_⟩
  dsimp only at q'
  split at q'
  · rename_i k e
    obtain ⟨k2, e1, e2⟩ := q'.now r' (Step.refl _ _ _ _)
    cases e1
    exact ⟨k, e, e2⟩
  · exact q'.elim
theorem s_ite (hc : PT X ec (TT_ p cl Ex G c)) (ha : PE X ea (TR p cl Ex G a)) (hb : PE X eb (TR p cl Ex G b)) : PE X (.IfExp ec ea eb pos) (TB p cl Ex G (.ite c a b)) := by
  refine PE.weak (pe_ifExp hc ha hb) fun σ H Q ⟨F, env, r, q⟩ => ?_
  unfold ev at q
  refine ⟨F, env, r, q.bind'.imp fun d env' F' H' r' s' q' => ?_⟩
  dsimp only at q'
  split at q'
  · rename_i e
    refine ⟨true, e, ?_⟩
    refine iteT ?_
    exact ⟨F', env', r', q'.imp fun d2 env2 F2 H2 r2 s2 k v2 h2 => k v2 h2⟩
  · rename_i e
    refine ⟨false, e, ?_⟩
    refine iteF ?_
    exact ⟨F', env', r', q'.imp fun d2 env2 F2 H2 r2 s2 k v2 h2 => k v2 h2⟩
  · exact q'.elim
theorem t_ite (hc : PT X ec (TT_ p cl Ex G c)) (ha : PT X ea (TT_ p cl Ex G a)) (hb : PT X eb (TT_ p cl Ex G b)) : PT X (.IfExp ec ea eb pos) (TT_ p cl Ex G (.ite c a b)) := by
  refine ⟨fun pins s σ H Q I ⟨F, env, r, q⟩ => ?_⟩
  unfold ev at q
  show wpAny _ _ (do if ← isTrue ec X.env (eval ec X.env) then isTrue ea X.env (eval ea X.env) else isTrue eb X.env (eval eb X.env)) _ _ _
  refine wpAny_bind (thn (hc.run pins s σ H (fun k H1 => if k = true then TT_ p cl Ex G a σ H1 Q else TT_ p cl Ex G b σ H1 Q) I ⟨F, env, r, q.bind'.imp fun d env' F' H' r' s' q' => ?_⟩) fun k s1 ⟨H1, I1, q1⟩ => ?_)
  · dsimp only at q'
    split at q'
    · rename_i e
      refine ⟨true, e, ?_⟩
      refine iteT ?_
      exact ⟨F', env', r', q'⟩
    · rename_i e
      refine ⟨false, e, ?_⟩
      refine iteF ?_
      exact ⟨F', env', r', q'⟩
    · exact q'.elim
  · cases k with
    | true => exact ha.run pins s1 σ H1 Q I1 q1
    | false => exact hb.run pins s1 σ H1 Q I1 q1

/-! ### displays, arguments -/
theorem a_nil : PA X [] (TAv p cl Ex G .nil) ∧ PA X [] (TAr p cl Ex G .nil) := by
  refine ⟨PA.weak pa_nil fun σ H Q ⟨F, env, r, q⟩ => ?_, PA.weak pa_nil fun σ H Q ⟨F, env, r, q⟩ => ?_⟩
  · obtain ⟨ds, e, k⟩ := q.now r (Step.refl _ _ _ _)
    cases e
    exact k [] .nil
  · obtain ⟨ds, e, k⟩ := q.now r (Step.refl _ _ _ _)
    cases e
    exact k [] .nil
theorem a_consR {x : PySem.Expr} {xs : List PySem.Expr} (hp : peekOf a = none) (hs : starEach (x :: xs) X.env = (false, eval x X.env) :: starEach xs X.env) (ha : PE X x (TR p cl Ex G a)) (hb : PA X xs (TAr p cl Ex G b)) : PA X (x :: xs) (TAr p cl Ex G (.cons a b)) := by
  refine PA.weak (pa_cons ha hb hs) fun σ H Q ⟨F, env, r, q⟩ => ?_
  unfold ev two at q
  rw [hp] at q
  dsimp only at q
  rw [Rs.bind_assoc] at q
  refine ⟨F, env, r, q.bind'.imp fun d env1 F1 H1 r1 s1 q1 v hv => ?_⟩
  rw [Rs.bind_assoc] at q1
  refine ⟨F1, env1, r1, q1.bind'.imp fun d2 env2 F2 H2 r2 s2 q2 => ?_⟩
  dsimp only [Rs.bind] at q2
  split at q2
  · rename_i l
    refine ⟨l, rfl, fun vs hvs => ?_⟩
    obtain ⟨ds, e, k⟩ := q2.now r2 (Step.refl _ _ _ _)
    cases e
    exact k _ (.cons (hv.mono s2.sub) hvs)
  · exact q2.elim
theorem a_consV {x : PySem.Expr} {xs : List PySem.Expr} (hs : starEach (x :: xs) X.env = (false, eval x X.env) :: starEach xs X.env) (ha : Opd X p cl Ex G a x) (hb : PA X xs (TAv p cl Ex G b)) : PA X (x :: xs) (TAv p cl Ex G (.cons a b)) := by
  obtain ⟨ta, h1, h2, h3⟩ := ha
  refine PA.weak (pa_cons h1 hb hs) fun σ H Q ⟨F, env, r, q⟩ => ?_
  unfold ev two at q
  cases ep : peekOf a with
  | none =>
    rw [ep] at q
    dsimp only at q
    rw [Rs.bind_assoc] at q
    refine h3 ep _ _ _ ⟨F, env, r, q.bind'.imp fun d env1 F1 H1 r1 s1 q1 v hv => ?_⟩
    rw [Rs.bind_assoc] at q1
    refine ⟨F1, env1, r1, q1.bind'.imp fun d2 env2 F2 H2 r2 s2 q2 => ?_⟩
    dsimp only [Rs.bind] at q2
    split at q2
    · rename_i l
      refine ⟨l, rfl, fun vs hvs => ?_⟩
      obtain ⟨ds, e, k⟩ := q2.now r2 (Step.refl _ _ _ _)
      cases e
      exact k _ (.cons (.rp (hv.mono s2.sub)) hvs)
    · exact q2.elim
  | some i =>
    rw [ep] at q
    have et : ta = tVar i := by rw [h2 (by rw [ep]; rfl), ep]; rfl
    rw [et]
    dsimp only at q
    split at q
    · rename_i hi
      obtain ⟨l0, hl0⟩ := Option.isSome_iff_exists.mp hi
      obtain ⟨a0, e2, _⟩ := r.peek hl0
      rw [Rs.bind_assoc] at q
      refine ⟨_, e2, F, env, r, q.bind'.imp fun d2 env2 F2 H2 r2 s2 q2 => ?_⟩
      dsimp only at q2
      cases el : peekAt env2 i with
      | none => rw [el] at q2; exact q2.elim
      | some l =>
        rw [el] at q2
        dsimp only [Rs.bind] at q2
        obtain ⟨a1, e3, e4⟩ := r2.peek el
        rw [e2] at e3; cases e3
        split at q2
        · rename_i l'
          refine ⟨l', rfl, fun vs hvs => ?_⟩
          obtain ⟨ds, e, k⟩ := q2.now r2 (Step.refl _ _ _ _)
          cases e
          exact k _ (.cons e4 hvs)
        · exact q2.elim
    · exact q.elim
theorem s_tup {xs : List PySem.Expr} {k : Nat} (ha : PA X xs (TAr p cl Ex G a)) : PE X (.Tuple xs k pos) (TB p cl Ex G (.tup a)) := by
  refine PE.weak (pe_tup ha) fun σ H Q ⟨F, env, r, q⟩ => ?_
  unfold ev at q
  refine ⟨F, env, r, q.bind'.imp fun d env' F' H' r' s' q' => ?_⟩
  dsimp only at q'
  split at q'
  · rename_i l
    refine ⟨l, rfl, fun vs hvs => ?_⟩
    split at q'
    · rename_i hl
      refine ⟨by rw [hvs.length]; exact hl, fun u hu => ?_⟩
      have sf : Same F' (upd F' u (.tup vs)) := same_upd (none_of_same r'.hr.sub hu)
      exact q' _ _ (r'.give hu) (Step.give r'.hr.sub hu) _ (Rp.tup (SqT.of upd_same) (hvs.mono sf))
    · exact q'.elim
  · exact q'.elim
theorem s_lst {xs : List PySem.Expr} (ha : PA X xs (TAr p cl Ex G a)) : PE X (.List xs pos) (TB p cl Ex G (.lst a)) := by
  refine PE.weak (pe_lst ha) fun σ H Q ⟨F, env, r, q⟩ => ?_
  unfold ev at q
  refine ⟨F, env, r, q.bind.imp fun d env' F' H' r' s' q' => ?_⟩
  dsimp only at q'
  split at q'
  · rename_i l
    refine ⟨l, rfl, fun vs hvs => ?_⟩
    split at q'
    · rename_i hl
      refine ⟨by rw [hvs.length]; exact hl, fun u hu => ?_⟩
      refine q' _ _ (r'.alloc hu) (Step.alloc hu) (s'.trans (Step.alloc hu)) _ ?_
      refine ⟨u, vs, rfl, upd_same, none_of_same r'.hr.sub hu, ?_, ?_, r'.not_own hu, hvs⟩
      · exact Decidable.byContradiction fun z => r'.hr.there u z hu
      · exact Decidable.byContradiction fun z => s'.there u z hu
    · exact q'.elim
  · exact q'.elim
/-- an answer that is new, from Out -/
theorem new_of {env env' : En} {σ : L2.St} {F H F' H' : Hp} {o : Option D} {Q : VK} (hf : isFresh G m = true) (r' : Rel p env' σ F' H') (s' : Step env σ F H env' F' H')
    (q' : Po p cl Ex env' σ F' H' (ret1 o env') fun d env'' F'' H'' => ∀ v, ResOk (isFresh G m) p env'' σ H F'' H'' v d → Q v H'') : ∃ d, o = some d ∧ Out p.K F' H' d Q := by
  obtain ⟨d2, e, k⟩ := q'.ret1
  rw [hf] at k
  exact ⟨d2, e, out_of r' s' fun F'' H'' r2 s2 v2 hv2 => k F'' H'' r2 s2 v2 hv2⟩
theorem s_idx {pos : Pos} (C : Cxt p G cl CX Ex sc X) (hpl : PlainIx eb) (ha : Opd X p cl Ex G a ea) (hb : PE X eb (TR p cl Ex G b)) : PE X (.Subscript ea eb pos) (TB p cl Ex G (.idx a b)) := by
  obtain ⟨ta, h1, h2, h3⟩ := ha
  refine PE.weak (pe_ix ix_idxD h1 (PE.v hb) hpl) fun σ H Q ⟨F, env, r, q⟩ => ?_
  unfold ev at q
  refine two_of (R := fun v u H2 => rOpX X.K idxD v u H2 Q) h2 h3 (fun _ _ _ z => z) r ?_
  refine q.bind'.imp fun d env' F' H' r' s' q' v u hv hu => ?_
  obtain ⟨d2, e, k⟩ := q'.ret1
  rw [C.k]
  exact ⟨F', _, _, d2, r'.hr.sub, hv, hu, e, fun w hw => k F' H' r' (Step.refl _ _ _ _) w hw⟩
theorem Bi.rule (C : Cxt p G cl CX Ex sc X) (bb : Bi) {x : PySem.Expr} {xs : List PySem.Expr} {t : TA} {p1 pos : Pos} (hg : Gl X bb.nm) (ha : PA X (x :: xs) t)
    (he : starEach (x :: xs) X.env = (false, eval x X.env) :: starEach xs X.env) (hpl : (backTo pos (starEach xs X.env)).any (·.1) = false) : PE X (.Call (.Name bb.nm p1) (x :: xs) [] pos) (tCB (rCl X.K bb.f) t) := by
  have bl : ∀ s : Str, s ∈ bltNames → X.mg s = none := C.blt
  cases bb with
  | len => exact pe_callB cl_len hg (bl _ (by decide)) (by decide +kernel) ha (by decide) (by decide) he hpl
  | abs => exact pe_callB cl_abs hg (bl _ (by decide)) (by decide +kernel) ha (by decide) (by decide) he hpl
  | int => exact pe_callTy cl_int hg (bl _ (by decide)) (by decide +kernel) ha (by decide) (by decide) he hpl
  | list => exact pe_callTy cl_list hg (bl _ (by decide)) (by decide +kernel) ha (by decide) (by decide) he hpl
  | tuple => exact pe_callTy cl_tuple hg (bl _ (by decide)) (by decide +kernel) ha (by decide) (by decide) he hpl
  | all => exact pe_callB (cl_all C.calm) hg (bl _ (by decide)) (by decide +kernel) ha (by decide) (by decide) he hpl
  | any => exact pe_callB (cl_any C.calm) hg (bl _ (by decide)) (by decide +kernel) ha (by decide) (by decide) he hpl
  | sum => exact pe_callB (cl_sum C.calm) hg (bl _ (by decide)) (by decide +kernel) ha (by decide) (by decide) he hpl
  | max => exact pe_callB (cl_max C.calm C.un) hg (bl _ (by decide)) (by decide +kernel) ha (by decide) (by decide) he hpl
  | min => exact pe_callB (cl_min C.calm C.un) hg (bl _ (by decide)) (by decide +kernel) ha (by decide) (by decide) he hpl
  | sorted => exact pe_callB (cl_sorted C.un) hg (bl _ (by decide)) (by decide +kernel) ha (by decide) (by decide) he hpl
  | str => exact pe_callTy cl_str hg (bl _ (by decide)) (by decide +kernel) ha (by decide) (by decide) he hpl
theorem s_bi (C : Cxt p G cl CX Ex sc X) (bb : Bi) {x : PySem.Expr} {xs : List PySem.Expr} {p1 pos : Pos} (hg : Gl X bb.nm) (ha : PA X (x :: xs) (TAv p cl Ex G a))
    (he : starEach (x :: xs) X.env = (false, eval x X.env) :: starEach xs X.env) (hpl : (backTo pos (starEach xs X.env)).any (·.1) = false) : PE X (.Call (.Name bb.nm p1) (x :: xs) [] pos) (TB p cl Ex G (.bi bb a)) := by
  refine PE.weak (Bi.rule C bb hg ha he hpl) fun σ H Q ⟨F, env, r, q⟩ => ?_
  unfold ev at q
  refine ⟨F, env, r, q.bind'.imp fun d env' F' H' r' s' q' => ?_⟩
  dsimp only at q'
  split at q'
  · rename_i l
    refine ⟨l, rfl, fun vs hvs => ?_⟩
    obtain ⟨d2, e, o⟩ := new_of (m := .bi bb a) rfl r' s' q'
    rw [C.k]
    exact ⟨F', _, d2, r'.hr.sub, hvs, e, o⟩
  · exact q'.elim
end
end Rv

set_option Elab.async false
set_option linter.all false
set_option maxRecDepth 100000
set_option maxHeartbeats 4000000
/-! Rv6d: dicts whose keys are tuples of ints and texts. -/
namespace Rv
open PySem PySem.Spec PyProof.Rows L2
abbrev tk (X : Cx) : HeapKind X.prog X.w (List Key) := PySem.tupleKind (mixKind X.prog X.w)
/-- the dict at a: its entries' keys are tuples that stand -/
def DicK (X : Cx) (H : Hp) (a : Addr) (ys : List (List Key × Addr × Value)) : Prop :=
  ∃ es ep, H a = some (dicO a es ep) ∧ es.toList = ys.map (entryOfKey (tk X)) ∧ (ys.map (·.1)).Nodup ∧ ∀ y ∈ ys, SqT X.K H y.2.1 (y.1.map kV)
section
variable {X : Cx} {pins : List (Addr × Obj)} {σ : L2.St} {H : Hp} {s : Shared} {a b : Addr} {k : List Key} {ys : List (List Key × Addr × Value)} {A : Around} {E : Value → Shared → Prop}
theorem key_at (I : Inv X pins σ H s) (h : SqT X.K H b (k.map kV)) : (tk X).is s.heap k b := by
  obtain ⟨its, r, ⟨o, h1, h2, n, h3⟩, _⟩ := I.tuple h
  exact ⟨o, its.toArray, n, h1, h2, h3, by simpa using items_are r⟩
theorem dic_at (I : Inv X pins σ H s) (d : DicK X H a ys) : s.heap.DictOfH (tk X) a ys ∧ (a == sysModules) = false := by
  obtain ⟨es, ep, h1, h2, h3, h4⟩ := d
  obtain ⟨⟨⟨o, g1, g2, g3⟩, g4⟩, _⟩ := I.hok a _ h1
  exact ⟨⟨o, es, ep, g1, g2, g3, h2, fun y hy => key_at I (h4 y hy), h3⟩, g4⟩
theorem dicO_ok {P : Program} {w : World} {H : Hp} {h : Heap} {es : Array DictEntry} {ep : Nat} (r : DT.Raw h a es ep) (hs : (a == sysModules) = false) : ObjOk P w H h a (dicO a es ep) :=
  ⟨⟨r, hs⟩, let ⟨o, e, _⟩ := r; ⟨o, e⟩, fun h1 h2 ⟨r1, q⟩ k => ⟨r1.at' k, q⟩⟩
theorem dic_in (hu : A.units + 1 < cLine) {Q : Value → Shared → Prop} (I : Inv X pins σ H s) (d : DicK X H a ys) (hk : SqT X.K H b (k.map kV)) (h : ∀ s', Inv X pins σ H s' → Q (.bool (atKey ys k).isSome) s') :
    wpAny (model X.prog X.w) A (compareOp .In (.ref b) (.ref a)) Q E s :=
  wpAny_in_heap (tupleKind_room_in1 hu) (key_at I hk) (dic_at I d).2 (dic_at I d).1 (h _ (I.tok _))
theorem dic_notIn (hu : A.units + 1 < cLine) {Q : Value → Shared → Prop} (I : Inv X pins σ H s) (d : DicK X H a ys) (hk : SqT X.K H b (k.map kV)) (h : ∀ s', Inv X pins σ H s' → Q (.bool (!(atKey ys k).isSome)) s') :
    wpAny (model X.prog X.w) A (compareOp .NotIn (.ref b) (.ref a)) Q E s :=
  wpAny_notIn_heap (tupleKind_room_in1 hu) (key_at I hk) (dic_at I d).2 (dic_at I d).1 (h _ (I.tok _))
theorem dic_get (hu : A.units + 1 < cLine) {Q : Value → Shared → Prop} (I : Inv X pins σ H s) (d : DicK X H a ys) (hk : SqT X.K H b (k.map kV)) (h : ∀ s', Inv X pins σ H s' → Q (((atKey ys k).map (·.2)).getD .none) s') :
    wpAny (model X.prog X.w) A (call (.builtin "dict.get") [.ref a, .ref b]) Q E s := by
  obtain ⟨dd, hd⟩ := dic_at I d
  exact call_meetsIn PySem.F.slot_dict_get dd.typeIs PySem.F.entry_dict_get (PySem.F.args_dict_get_2 _ _) (meetsH_dict_get (tk X) a b hd) ⟨tupleKind_room_in1 hu, k, ys, key_at I hk, dd, h _ (I.tok _)⟩
theorem dic_set (hu : A.units + 1 < cLine) {Q : Unit → Shared → Prop} {u : Value} (I : Inv X pins σ H s) (d : DicK X H a ys) (hk : SqT X.K H b (k.map kV)) (hl : ys.length ≤ sizeLine)
    (h : ∀ es ep s', es.toList = (storedH ys k b u).map (entryOfKey (tk X)) → ((storedH ys k b u).map (·.1)).Nodup → Inv X pins σ (upd H a (dicO a es ep)) s' → Q () s') :
    wpAny (model X.prog X.w) A (setItem (.ref a) (.ref b) u) Q E s := by
  obtain ⟨dd, hd⟩ := dic_at I d
  obtain ⟨es0, ep0, h1, _⟩ := d
  refine wpAny_setItem_heap (hsz := hl) (tupleKind_room_in1 hu) (key_at I hk) dd fun h' dd' hs => ?_
  obtain ⟨q, es, ep, hq, h2, h3, h4, _, h5⟩ := dd'
  exact h es ep _ h4 h5 (d_write I (by rw [h1]; exact True.intro) hs ⟨q, hq⟩ (dicO_ok ⟨q, hq, h2, h3⟩ hd))
/-- {k: v} -/
def tDisp1 (X : Cx) (tkk tv : TE) : TE := fun σ H Q => ∀ q, H q = none → tkk σ (upd H q (dicO q #[] 0)) fun y H1 => tv σ H1 fun v H2 =>
  ∃ b k, H2 q = some (dicO q #[] 0) ∧ y = .ref b ∧ SqT X.K H2 b (k.map kV) ∧ ∀ es ep u, RelV v u → es.toList = [(k, b, u)].map (entryOfKey (tk X)) → Q (.ref q) (upd H2 q (dicO q es ep))
theorem pe_disp1 {ek ev : PySem.Expr} {pos : Pos} {tkk tv : TE} (hu : X.A.units + 1 < cLine) (hk : PE X ek tkk) (hv : PE X ev tv) : PE X (.Dict [some ek] [ev] pos) (tDisp1 X tkk tv) := by
  refine ⟨fun pins s σ H Q I q => ?_⟩
  have hn := I.hok.fresh (Nat.le_refl s.heap.objs.size)
  have hsys : (s.heap.objs.size == sysModules) = false := beq_eq_false_iff_ne.mpr (Ne.symm (Nat.ne_of_lt I.big))
  have I1 := I.laid (a := s.heap.objs.size) (o := dicO s.heap.objs.size #[] 0) (h' := s.heap.push { cls := .type "dict", data := .dict #[] }) (t' := s.toks) (fun _ _ q => Heap.get?_push_of_some _ q) (Nat.le_refl _) (dicO_ok ⟨_, Heap.get?_push_size _ rfl, ⟨rfl, rfl, rfl⟩, rfl⟩ hsys)
  refine wpAny_Dict_any rfl rfl (by simp) (Nat.le_of_ble_eq_true rfl) (pairTrees_cons_walk (thn (hk.run pins _ σ _ _ I1 (q _ hn)) fun u s1 ⟨y, H1, I2, ry, q1⟩ => thn (hv.run pins s1 σ H1 _ I2 q1) fun w s2 ⟨v, H2, I3, rv, b, k, e1, e2, e3, e4⟩ => pairTrees_nil_walk ?_))
  subst e2
  cases (show u = Value.ref b from ry)
  obtain ⟨dd, _⟩ := dic_at (ys := []) I3 ⟨#[], 0, e1, rfl, List.nodup_nil, fun y hy => nomatch hy⟩
  refine wpAny_storeAllH (knd := tk X) (by show X.A.units < cLine; omega) [(.ref b, w)] [(k, b, w)] [] s2 _ ⟨rfl, rfl, key_at I3 e3, trivial⟩ dd (by rw [sizeLine_eq]; exact Nat.le_of_ble_eq_true rfl) fun h' tk' dd' hs' => ?_
  obtain ⟨o, es, ep, hq, h2, h3, h4, _, h5⟩ := dd'
  exact ⟨.ref s.heap.objs.size, _, d_write I3 (by rw [e1]; exact True.intro) hs' ⟨o, hq⟩ (dicO_ok ⟨o, hq, h2, h3⟩ hsys), rfl, e4 es ep w rv h4⟩
theorem pe_dnewD {pos : Pos} : PE X (.Dict [] [] pos) (fun _ H Q => ∀ q, H q = none → Q (.ref q) (upd H q (dicO q #[] 0))) := ⟨fun pins s σ H Q I h => by
  have hsys : (s.heap.objs.size == sysModules) = false := beq_eq_false_iff_ne.mpr (Ne.symm (Nat.ne_of_lt I.big))
  exact wpAny_Dict_empty ⟨.ref s.heap.objs.size, _, I.laid (a := s.heap.objs.size) (o := dicO s.heap.objs.size #[] 0) (t' := s.toks) (fun _ _ q => Heap.get?_push_of_some _ q) (Nat.le_refl _) (dicO_ok ⟨_, Heap.get?_push_size _ rfl, ⟨rfl, rfl, rfl⟩, rfl⟩ hsys), rfl, h _ (I.hok.fresh (Nat.le_refl _))⟩⟩
end
/-! ### the table that is kept, the table that stands -/
section
variable {K : PySem.W.Frag} {F F' H : Hp}
theorem KyR.val {kvs : List (List Key × D)} {ys : List (List Key × Addr × Value)} (r : Paired (KyR K F) kvs ys) (k : List Key) :
    (lookD kvs k = none ∧ atKey ys k = none) ∨ ∃ d b u v, lookD kvs k = some d ∧ atKey ys k = some (b, u) ∧ RelV v u ∧ Rp K F v d := by
  induction r with
  | nil => exact .inl ⟨rfl, rfl⟩
  | @cons p q ps qs h t ih =>
    obtain ⟨h1, _, v, h2, h3⟩ := h
    by_cases e : p.1 = k
    · have e' : q.1 = k := h1.symm.trans e
      exact .inr ⟨p.2, q.2.1, q.2.2, v, by simp [lookD, List.find?_cons, e], by simp [atKey, List.find?_cons, e'], h2, h3⟩
    · have e' : ¬ q.1 = k := fun z => e (h1.trans z)
      have b1 : lookD (p :: ps) k = lookD ps k := by simp [lookD, List.find?_cons, e]
      have b2 : atKey (q :: qs) k = atKey qs k := by simp [atKey, List.find?_cons, e']
      rw [b1, b2]; exact ih
theorem KyR.some_eq {kvs : List (List Key × D)} {ys : List (List Key × Addr × Value)} (r : Paired (KyR K F) kvs ys) (k : List Key) : (atKey ys k).isSome = (lookD kvs k).isSome := by
  rcases KyR.val r k with ⟨h1, h2⟩ | ⟨d, b, u, v, h1, h2, _⟩ <;> rw [h1, h2] <;> rfl
theorem KyR.put {kvs : List (List Key × D)} {ys : List (List Key × Addr × Value)} (r : Paired (KyR K F) kvs ys) (k : List Key) {b : Addr} {v : V} {u : Value} {d : D} (hb : SqT K F b (k.map kV)) (ru : RelV v u) (rv : Rp K F v d) :
    Paired (KyR K F) (putD kvs k d) (storedH ys k b u) := by
  have repl : ∀ {kvs : List (List Key × D)} {ys : List (List Key × Addr × Value)}, Paired (KyR K F) kvs ys → Paired (KyR K F) (kvs.map fun kv => if kv.1 = k then (kv.1, d) else kv) (ys.map (putAt k u)) := fun {kvs ys} r => by
    induction r with
    | nil => exact .nil
    | @cons p q ps qs h t ih =>
      rw [List.map_cons, List.map_cons]
      refine .cons ?_ ih
      obtain ⟨h1, h2, w, h3, h4⟩ := h
      unfold putAt
      by_cases e : p.1 = k
      · rw [if_pos e, if_pos (h1.symm.trans e)]; exact ⟨h1, h2, v, ru, rv⟩
      · rw [if_neg e, if_neg (fun z => e (h1.trans z))]; exact ⟨h1, h2, w, h3, h4⟩
  have e := KyR.some_eq r k
  unfold putD storedH
  rw [e]
  by_cases q : (lookD kvs k).isSome = true
  · rw [if_pos q, if_pos q]; exact repl r
  · rw [if_neg q, if_neg q]; exact Paired.snoc r ⟨rfl, hb, v, ru, rv⟩
theorem keys_rp : ∀ {ds : List D} {ks : List Key} {xs : List V}, keysOf ds = some ks → RpAll K F xs ds → xs = ks.map kV
  | [], ks, xs, h, r => by cases h; cases r; rfl
  | .int i :: ds, ks, xs, h, r => by
    unfold keysOf at h
    cases e : keysOf ds with
    | none => rw [e] at h; cases h
    | some ks' =>
      rw [e] at h; cases h
      cases r with
      | cons a t => cases a; rw [keys_rp e t]; rfl
  | .str x :: ds, ks, xs, h, r => by
    unfold keysOf at h
    cases e : keysOf ds with
    | none => rw [e] at h; cases h
    | some ks' =>
      rw [e] at h; cases h
      cases r with
      | cons a t => cases a; rw [keys_rp e t]; rfl
  | .none :: _, _, _, h, _ => by cases h
  | .bool _ :: _, _, _, h, _ => by cases h
  | .list _ :: _, _, _, h, _ => by cases h
  | .tuple _ :: _, _, _, h, _ => by cases h
  | .dict _ :: _, _, _, h, _ => by cases h
theorem rp_key {v : V} {d : D} {ks : List Key} (h : keyOf d = some ks) (r : Rp K F v d) : ∃ b, v = .ref b ∧ SqT K F b (ks.map kV) := by
  cases d with
  | tuple ds =>
    cases r with
    | tup q a =>
      have := keys_rp (show keysOf ds = some ks from h) a
      subst this
      exact ⟨_, rfl, q⟩
  | _ => cases h
end
section
variable {X : Cx} {p : Pm} {cl : Str → Value} {Ex : XK} {G : Genv} {CX : CXT} {sc : Scope} {env : En} {σ : L2.St} {F H : Hp} {i : Nat} {kvs : List (List Key × D)} {k : E}
theorem mem_paired {α β : Type} {R : α → β → Prop} {l : List α} {m : List β} (h : Paired R l m) {y : β} (hy : y ∈ m) : ∃ x, R x y := by
  induction h with
  | nil => cases hy
  | cons h t ih =>
    rcases List.mem_cons.mp hy with e | hy
    · subst e; exact ⟨_, h⟩
    · exact ih hy
theorem dic_rel (C : Cxt p G cl CX Ex sc X) (r : Rel p env σ F H) (h : dicAt env i = some kvs) : ∃ a ys, env[i]? = some (.dic kvs) ∧ σ[i]? = some (some (V.ref a)) ∧ F a = none ∧ DicK X H a ys ∧ Paired (KyR p.K F) kvs ys := by
  have he : env[i]? = some (.dic kvs) := by
    unfold dicAt at h
    split at h
    · rename_i k e; cases h; exact e
    · cases h
  obtain ⟨a, e1, e2, e3, es, ep, ys, h1, h2, h3, h4⟩ := r.dio i _ he rfl
  refine ⟨a, ys, he, e1, e2, ⟨es, ep, h1, ?_, h3, fun y hy => ?_⟩, h4⟩
  · rw [h2, C.hs]; rfl
  · obtain ⟨x, _, q, _⟩ := mem_paired h4 hy
    rw [C.k]; exact sqt_same r.hr.sub q
theorem dicAt_some {env : En} {i : Nat} {kvs : List (List Key × D)} (h : env[i]? = some (.dic kvs)) : dicAt env i = some kvs := by unfold dicAt; rw [h]
/-- k in the dict, k not in it -/
def tDin (X : Cx) (neg : Bool) (i : Nat) (tkk : TE) : TE := fun σ H Q => tkk σ H fun v H1 => ∃ a b ks ys, σ[i]? = some (some (V.ref a)) ∧ DicK X H1 a ys ∧ v = .ref b ∧ SqT X.K H1 b (ks.map kV) ∧ Q (.bl (if neg then !(atKey ys ks).isSome else (atKey ys ks).isSome)) H1
theorem pc_dic {neg : Bool} {ek : PySem.Expr} {x : Str} {px : Pos} {tkk : TE} (hu : X.A.units + 1 < cLine) (hk : PE X ek tkk) (hx : PE X (.Name x px) (tVar i)) : PC X (if neg then CmpOp.NotIn else CmpOp.In) ek (.Name x px) (tDin X neg i tkk) := by
  refine ⟨fun pins s σ H Q I h => ?_⟩
  refine thn (hk.run pins s σ H _ I h) fun iv s1 ⟨y, H1, I1, ry, a, b, ks, ys, e1, dk, ey, hky, q1⟩ => thn (hx.run pins s1 σ H1 (fun v H2 => v = .ref a ∧ H2 = H1) I1 ⟨_, e1, rfl, rfl⟩) fun u s2 ⟨x, H2, I2, rx, e3, e4⟩ => ?_
  subst e3; subst e4; subst ey
  obtain rfl : u = Value.ref a := rx
  obtain rfl : iv = Value.ref b := ry
  cases neg with
  | false => exact dic_in hu I2 dk hky fun s3 I3 => ⟨V.bl (atKey ys ks).isSome, _, I3, rfl, q1⟩
  | true => exact dic_notIn hu I2 dk hky fun s3 I3 => ⟨V.bl (!(atKey ys ks).isSome), _, I3, rfl, q1⟩
theorem din_core {neg : Bool} (C : Cxt p G cl CX Ex sc X) {R : Bool → Hp → Prop} (r : Rel p env σ F H) (q : Po p cl Ex env σ F H (ev G (.din neg k i) env) fun d _ _ H' => ∀ kb, d = .bool kb → R kb H') :
    tDin X neg i (TR p cl Ex G k) σ H fun z H' => ∃ kb, z = .bl kb ∧ R kb H' := by
  unfold ev at q
  refine ⟨F, env, r, q.bind'.imp fun d env' F' H' r' s' q' v hv => ?_⟩
  dsimp only at q'
  split at q'
  · rename_i ks kvs e1 e2
    obtain ⟨a, ys, _, g1, _, g2, g3⟩ := dic_rel C r' e2
    obtain ⟨b, rfl, hb⟩ := rp_key e1 hv
    refine ⟨a, b, ks, ys, g1, g2, rfl, by rw [C.k]; exact sqt_same r'.hr.sub hb, _, rfl, ?_⟩
    rw [KyR.some_eq g3]
    exact q'.now r' (Step.refl _ _ _ _) _ rfl
  · exact q'.elim
theorem s_din {neg : Bool} {ek : PySem.Expr} {x : Str} {px pos : Pos} (C : Cxt p G cl CX Ex sc X) (h1 : nmB X.N i x = true) (h2 : visB sc x = true) (hk : PE X ek (TR p cl Ex G k)) :
    PE X (.Compare ek [if neg then CmpOp.NotIn else CmpOp.In] [.Name x px] pos) (TB p cl Ex G (.din neg k i)) ∧ PT X (.Compare ek [if neg then CmpOp.NotIn else CmpOp.In] [.Name x px] pos) (TT_ p cl Ex G (.din neg k i)) := by
  obtain ⟨n1, n2, n3⟩ := nm_at h1
  have hu : X.A.units + 1 < cLine := by have := C.un; omega
  have hpc := pc_dic (neg := neg) hu hk (pe_var (pos := px) n1 (vis_of C.sc h2) n2 n3)
  have hm : behindInMarks (if neg then CmpOp.NotIn else CmpOp.In) (.Name x px) = false := by cases neg <;> rfl
  refine ⟨⟨fun pins s σ H Q I ⟨F, env, r, q⟩ => ?_⟩, PT.weak (pt_cmp hpc hm) fun σ H Q ⟨F, env, r, q⟩ => ?_⟩
  · refine thn ((pe_cmp hpc hm).run pins s σ H _ I (din_core (R := fun k H' => Q (.bl k) H') C r (q.imp fun d env' F' H' _ _ k kb e => k _ (by subst e; exact res_bool)))) fun u s' ⟨v, H', I', rv, k, e, q'⟩ => ?_
    exact ⟨v, H', I', rv, by rw [e]; exact q'⟩
  · exact din_core (R := Q) C r (q.imp fun d env' F' H' _ _ ⟨k, e1, e2⟩ kb e => by subst e; cases e1; exact e2)
/-- the dict's get -/
theorem s_dget {x : Str} {v : PySem.Expr} {px ap pos : Pos} (C : Cxt p G cl CX Ex sc X) (h1 : nmB X.N i x = true) (h2 : visB sc x = true) (hl : (ap.endLine == pos.line) = true) (hs : starEach [v] X.env = (false, eval v X.env) :: starEach [] X.env) (hk : PE X v (TR p cl Ex G k)) :
    PE X (.Call (.Attribute (.Name x px) "get" ap) [v] [] pos) (TB p cl Ex G (.dget i k)) := by
  obtain ⟨n1, n2, n3⟩ := nm_at h1
  have hu : X.A.units + 1 < cLine := by have := C.un; omega
  have hx := pe_var (pos := px) n1 (vis_of C.sc h2) n2 n3
  have hst : backTo pos (starEach [v] X.env) = [(false, eval v X.env)] := by rw [hs]; rfl
  refine ⟨fun pins s σ H Q I ⟨F, env, r, q⟩ => ?_⟩
  unfold ev at q
  split at q
  case isFalse => exact q.elim
  rename_i hi
  obtain ⟨kvs0, hk0⟩ := Option.isSome_iff_exists.mp hi
  obtain ⟨a, ys0, _, g1, _, g2, _⟩ := dic_rel C r hk0
  refine wpAny_Call_method (by rfl) (by rw [hst]; rfl) hl PySem.F.plainAttrs_dict PySem.F.slot_dict_get PySem.F.type_dict_get (thn (hx.run pins s σ H (fun v H2 => v = .ref a ∧ H2 = H) I ⟨_, g1, rfl, rfl⟩) fun u s1 ⟨x, H1, I1, rx, e3, e4⟩ => ?_)
  subst e3; subst e4
  obtain rfl : u = Value.ref a := rx
  obtain ⟨dd, _⟩ := dic_at I1 g2
  refine ⟨dd.typeIs, fun b z => ?_, ?_⟩
  · cases z
    obtain ⟨ob, _, _, q1, q2, _⟩ := dd
    exact ⟨ob, q1, q2.2.1⟩
  rw [hst]
  refine Calls.callWith_builtin rfl (Calls.evalArgs_plain (Calls.spliced_cons (thn (hk.run pins s1 σ _ (fun y H2 => ∃ b ks ys, DicK X H2 a ys ∧ y = .ref b ∧ SqT X.K H2 b (ks.map kV) ∧ ∃ w, RelV w (((atKey ys ks).map (·.2)).getD .none) ∧ Q w H2) I1 ⟨F, env, r, q.bind'.imp fun d env' F' H' r' s' q' v hv => ?_⟩) fun iv s2 ⟨y, H2, I2, ry, b, ks, ys, dk, ey, hky, q2⟩ => Calls.spliced_nil ?_)))
  · dsimp only at q'
    split at q'
    · rename_i ks kvs e1 e2
      obtain ⟨a', ys, _, g1', _, g2', g3⟩ := dic_rel C r' e2
      rw [g1] at g1'; cases g1'
      obtain ⟨b, rfl, hb⟩ := rp_key e1 hv
      refine ⟨b, ks, ys, g2', rfl, by rw [C.k]; exact sqt_same r'.hr.sub hb, ?_⟩
      rcases KyR.val g3 ks with ⟨l1, l2⟩ | ⟨d1, b1, u1, v1, l1, l2, l3, l4⟩
      · rw [l1] at q'; rw [l2]
        exact ⟨.non, rfl, q'.now r' (Step.refl _ _ _ _) _ (.non)⟩
      · rw [l1] at q'; rw [l2]
        exact ⟨v1, l3, q'.now r' (Step.refl _ _ _ _) _ l4⟩
    · exact q'.elim
  · subst ey
    obtain rfl : iv = Value.ref b := ry
    obtain ⟨w, hw, q3⟩ := q2
    exact dic_get hu I2 dk hky fun s3 I3 => ⟨w, H2, I3, hw, q3⟩
end
end Rv

set_option Elab.async false
set_option linter.all false
set_option maxRecDepth 100000
set_option maxHeartbeats 4000000
/-! Rv7: slices, isinstance, calls. -/
namespace HT
open PySem PySem.Spec PyProof.Rows L2
section
variable {prog : Program} {w : World} {A : Around} {E : Value → Shared → Prop} {s : Shared}
theorem places_rev (n : Nat) : Builtin.Slice.slicePlaces ((n : Int) - 1) (-1) (-1) = n := by
  unfold Builtin.Slice.slicePlaces
  have h1 : ¬ ((-1 : Int) > 0) := by omega
  simp only [h1, if_false]
  split
  · have : ((n : Int) - 1 - -1 - 1) / (- -1) + 1 = n := by
      have e : (- -1 : Int) = 1 := by omega
      rw [e, Int.ediv_one]; omega
    rw [this]; omega
  · omega
theorem sliceApplied_rev {sl : Addr} {vl vu vs : Value} {n : Nat} {Q : Int × Int × Nat → Shared → Prop} (hs : s.heap.IsSliceOf sl vl vu vs) (pl : IsPart vl none) (pu : IsPart vu none) (ps : IsPart vs (some (-1)))
    (h : Q ((n : Int) - 1, -1, n) s) : wpAny (model prog w) A (Builtin.Slice.sliceApplied (.ref sl) (pure (n : Int))) Q E s := by
  obtain ⟨os, hos, hcs, hds⟩ := id hs
  unfold Builtin.Slice.sliceApplied Builtin.Slice.sliceFields
  refine wpAny_bind (wpAny_bind (wpAny_field hos hds (x := vl) rfl (wpAny_bind (wpAny_field hos hds (x := vu) rfl (wpAny_bind (wpAny_field hos hds (x := vs) rfl (wpAny_pure ?_)))))))
  refine wpAny_bind (slicePart_ ps ?_)
  show wpAny _ _ (if ((-1 : Int) == 0) = true then _ else _) _ _ s
  rw [if_neg (by decide)]
  refine wpAny_bind (slicePart_ pl (wpAny_bind (slicePart_ pu (wpAny_bind (wpAny_pure ?_)))))
  show wpAny _ _ (match Builtin.Slice.sliceAdjust none none (-1) (n : Int) with | (lo, hi) => pure (lo, (-1 : Int), Builtin.Slice.slicePlaces lo hi (-1))) _ _ s
  have e : Builtin.Slice.sliceAdjust none none (-1) (n : Int) = ((n : Int) - 1, -1) := rfl
  rw [e]
  show wpAny _ _ (pure ((n : Int) - 1, (-1 : Int), Builtin.Slice.slicePlaces ((n : Int) - 1) (-1) (-1))) _ _ s
  rw [places_rev]
  exact wpAny_pure h
theorem filterMap_congr' {α β : Type} {f g : α → Option β} : ∀ {l : List α}, (∀ a ∈ l, f a = g a) → l.filterMap f = l.filterMap g
  | [], _ => rfl
  | a :: l, h => by
    rw [List.filterMap_cons, List.filterMap_cons, h a List.mem_cons_self, filterMap_congr' fun b hb => h b (List.mem_cons_of_mem _ hb)]
theorem pick_rev (xs : Array Value) : ((List.range xs.size).filterMap fun (m : Nat) => xs[(((xs.size : Nat) : Int) - 1 + (m : Int) * (-1)).toNat]?).toArray = xs.toList.reverse.toArray := by
  have e : ∀ m ∈ List.range xs.size, (fun (m : Nat) => xs[(((xs.size : Nat) : Int) - 1 + (m : Int) * (-1)).toNat]?) m = (fun m => xs[xs.size - 1 - m]?) m := fun m hm => by
    have := List.mem_range.mp hm
    show xs[(((xs.size : Nat) : Int) - 1 + (m : Int) * (-1)).toNat]? = xs[xs.size - 1 - m]?
    have : (((xs.size : Nat) : Int) - 1 + (m : Int) * (-1)).toNat = xs.size - 1 - m := by omega
    rw [this]
  rw [filterMap_congr' e]
  have e2 : (fun m => xs[xs.size - 1 - m]?) = (fun i => xs[i]?) ∘ fun k => xs.size - 1 - k := rfl
  rw [e2, ← List.filterMap_map, PySem.W.krv_range, List.filterMap_reverse, PySem.W.krv_all]
theorem getItem_tuple_rev {t sl : Addr} {items : Array Value} {vl vu vs : Value} {Q : Value → Shared → Prop} (ht : IsTup s.heap t items) (hs : s.heap.IsSliceOf sl vl vu vs) (pl : IsPart vl none) (pu : IsPart vu none) (ps : IsPart vs (some (-1)))
    (h : Q (.ref s.heap.objs.size) { s with heap := s.heap.push { cls := .type "tuple", data := .seq items.toList.reverse.toArray } })
    (hsz : items.size ≤ sizeLine) : wpAny (model prog w) A (getItem (.ref t) (.ref sl)) Q E s := by
  have htake : sizeOk (.seq items.toList.reverse.toArray) := by
    show items.toList.reverse.toArray.size ≤ sizeLine
    rw [List.size_toArray, List.length_reverse, Array.length_toList]
    exact hsz
  obtain ⟨os, hos, hcs, hds⟩ := id hs
  have hTs : s.TypeIs (.ref sl) "slice" := ⟨os, hos, hcs⟩
  unfold getItem
  try with_reducible refine wpAny_holding ?_
  first | refine wpAny_bind (wpAny_pure ?_) | skip
  refine wpAny_bind (wpAny_sequenceKey ht.typeIs (by decide) ?_)
  refine wpAny_bind (wpAny_callSpecial?_slot (name := Str.ofString "__getitem__") ht.typeIs PyProof.Rows.slot_tuple_getitem
    (wpAny_call_entry PyProof.Rows.slot_tuple_getitem ht.typeIs entry_tuple_getitem ?_ (args_tuple_getitem _ _)))
  show wpAny _ _ (Builtin.Tuple.tupleItemsOf (.ref t) >>= _) _ _ s
  refine wpAny_bind (tupleItemsOf_ ht ?_)
  refine wpAny_bind (wpAny_typeOf hTs ?_)
  rw [if_pos (by decide)]
  refine wpAny_bind (sliceApplied_rev hs pl pu ps ?_)
  have hno : ¬ (((((items.size : Nat) : Int) - 1) == 0 && (-1 : Int) == 1 && items.size == items.size) = true) := by
    intro q
    rw [Bool.and_eq_true, Bool.and_eq_true] at q
    exact absurd q.1.2 (by decide)
  show wpAny _ _ (if (((((items.size : Nat) : Int) - 1) == 0 && (-1 : Int) == 1 && items.size == items.size) = true) then _ else _) _ _ s
  rw [if_neg hno, pick_rev]
  first
    | exact wpAny_bind (m := Builtin.Tuple.tupleExact _) (wpAny_newObj_type (wpAny_pure ⟨_, rfl, wpAny_pure h⟩) htake)
    | exact wpAny_bind (m := Builtin.Tuple.tupleExact _) (wpAny_newObj_type (wpAny_bind (wpAny_pure (wpAny_pure ⟨_, rfl, wpAny_pure h⟩))) htake)
    | exact wpAny_bind (wpAny_bind (m := Builtin.Tuple.tupleExact _) (wpAny_newObj_type (wpAny_pure (wpAny_pure ⟨_, rfl, wpAny_pure h⟩)) htake))
    | exact wpAny_bind (wpAny_bind (m := Builtin.Tuple.tupleExact _) (wpAny_newObj_type (wpAny_pure ⟨_, rfl, wpAny_pure h⟩) htake))
end
end HT
namespace Rv
open PySem PySem.Spec PyProof.Rows L2
section
variable {X : Cx}
def tRevA (K : PySem.W.Frag) (te : TE) : TE := fun σ H Q => te σ H fun x H1 => ∃ a xs, x = .ref a ∧ ((SqL K H1 a xs ∧ ∀ p, H1 p = none → Q (.ref p) (upd H1 p (.lst xs.reverse))) ∨ (SqT K H1 a xs ∧ ∀ p, H1 p = none → Q (.ref p) (upd H1 p (.tup xs.reverse))))
theorem pe_revA {e : PySem.Expr} {te : TE} {k : Nat} {p1 p2 p3 pos : Pos} (he : PE X e te) : PE X (.Subscript e (.Slice none none (some (.UnaryOp .USub (.Constant (.int 1) k p1) p2)) p3) pos) (tRevA X.K te) := by
  refine ⟨fun pins s σ H Q I h => ?_⟩
  refine Subscript_ (thn (he.run pins s σ H _ I h) fun v s1 ⟨x, H1, I1, r1, q1⟩ => ?_)
  obtain ⟨a, xs, ex, hx⟩ := q1
  subst ex
  cases r1
  have hst : PO X (some (.UnaryOp .USub (.Constant (.int 1) k p1) p2)) (tPart (tUn (rU fun i => .int (-i)) (tC (.int 1)))) := po_some (pe_un un_neg pe_int)
  refine wpAny_Slice (thn (po_none.run pins s1 σ H1 (fun o H2 => o = none ∧ H2 = H1) I1 ⟨rfl, rfl⟩) fun vl s2 ⟨l, H2, I2, pl, el, e2⟩ => ?_)
  subst el e2
  refine thn (po_none.run pins s2 σ H2 (fun o H3 => o = none ∧ H3 = H2) I2 ⟨rfl, rfl⟩) fun vu s3 ⟨u, H3, I3, pu, eu, e3⟩ => ?_
  subst eu e3
  refine thn (hst.run pins s3 σ H3 (fun o H4 => o = some (-1) ∧ H4 = H3) I3 ⟨1, rfl, -1, rfl, rfl, rfl⟩) fun vs s4 ⟨o, H4, I4, ps, eo, e4⟩ => ?_
  subst eo e4
  have I5 : Inv X pins σ H4 { s4 with heap := s4.heap.push { cls := .type "slice", data := .fields #[vl, vu, vs] } } := I4.kept (t' := s4.toks) fun b ob q => Heap.get?_push_of_some _ q
  show wpAny (model X.prog X.w) X.A (subscriptTail e (.Slice none none (some (.UnaryOp .USub (.Constant (.int 1) k p1) p2)) p3) (.ref a) (.ref s4.heap.objs.size)) (EP X pins σ Q) X.xe { s4 with heap := s4.heap.push { cls := .type "slice", data := .fields #[vl, vu, vs] } }
  rcases hx with ⟨hx, q⟩ | ⟨hx, q⟩
  · obtain ⟨its, r, ht, hz⟩ := I5.list hx
    have hlen := r.length
    refine tail_any (ops := [.ref a, .ref s4.heap.objs.size]) ht.isList.typeIs (PySem.slot_list_getitem.lookup) ?_ (by with_unfolding_all rfl)
    refine wpAny_getItem_list_slice ht.isList (Heap.IsSliceOf.new _ vl vu vs) pl pu ps (by decide) ?_ (by rw [List.size_toArray]; omega)
    rw [PySem.W.krv_pick]
    refine ⟨.ref _, _, I5.laid (t' := s4.toks) (o := .lst xs.reverse) (fun b ob q => Heap.get?_push_of_some _ q) (Nat.le_refl _) ?_, rfl, q _ (I5.hok.fresh (Nat.le_refl _))⟩
    exact ⟨by rw [List.length_reverse]; exact hz, _, 0, r.reverse, Heap.get?_push_size _ rfl⟩
  · obtain ⟨its, r, ht, hz⟩ := I5.tuple hx
    have hlen := r.length
    refine tail_any (ops := [.ref a, .ref s4.heap.objs.size]) ht.typeIs (PyProof.Rows.slot_tuple_getitem.lookup) ?_ (by with_unfolding_all rfl)
    refine HT.getItem_tuple_rev ht (Heap.IsSliceOf.new _ vl vu vs) pl pu ps ?_ (by rw [List.size_toArray]; omega)
    refine ⟨.ref _, _, I5.laid (t' := s4.toks) (o := .tup xs.reverse) (fun b ob q => Heap.get?_push_of_some _ q) (Nat.le_refl _) ?_, rfl, q _ (I5.hok.fresh (Nat.le_refl _))⟩
    exact ⟨by rw [List.length_reverse]; exact hz, _, r.reverse, IsTup.new _ _⟩
end
section
variable {X : Cx} {p : Pm} {cl : Str → Value} {Ex : XK} {G : Genv} {CX : CXT} {sc : Scope} {m a b c lo hi : E} {e ea eb ec : PySem.Expr} {pos : Pos}
theorem s_rev {k : Nat} {p1 p2 p3 : Pos} (C : Cxt p G cl CX Ex sc X) (ha : PE X ea (TV p cl Ex G a)) : PE X (.Subscript ea (.Slice none none (some (.UnaryOp .USub (.Constant (.int 1) k p1) p2)) p3) pos) (TB p cl Ex G (.rev a)) := by
  refine PE.weak (pe_revA ha) fun σ H Q ⟨F, env, r, q⟩ => ?_
  unfold ev at q
  refine ⟨F, env, r, q.bind'.imp fun d env' F' H' r' s' q' v hv => ?_⟩
  dsimp only at q'
  have out : ∀ {d2 : D}, (∀ F'' H'', Rel p env' σ F'' H'' → Step env' σ F' H' env' F'' H'' → ∀ v, ResOk true p env' σ H F'' H'' v d2 → Q v H'') → Out p.K F' H' d2 Q := fun {d2} k => out_of r' s' k
  split at q'
  · obtain ⟨a, xs, rfl, h1, h2⟩ := hv.list r'.hr.sub
    rw [← C.k] at h1
    exact ⟨a, xs, rfl, .inl ⟨h1, fun u hu => (out q').lst u _ _ rfl hu h2.reverse⟩⟩
  · obtain ⟨a, xs, rfl, h1, h2⟩ := hv.tuple r'.hr.sub
    rw [← C.k] at h1
    exact ⟨a, xs, rfl, .inr ⟨h1, fun u hu => (out q').tup u _ _ rfl hu h2.reverse⟩⟩
  · exact q'.elim

/-! ### slices -/
def TO_ (p : Pm) (cl : Str → Value) (Ex : XK) (G : Genv) (m : E) : TO := fun σ H Q => ∃ F env, Rel p env σ F H ∧ Po p cl Ex env σ F H (partI (isNil m) (ev G m) env) fun o _ _ H' => Q o H'
theorem o_none (h : isNil m = true) : PO X none (TO_ p cl Ex G m) := ⟨fun pins s σ H Q I ⟨F, env, r, q⟩ => po_none.run pins s σ H Q I (by
  unfold partI at q
  rw [if_pos h] at q
  exact q.now r (Step.refl _ _ _ _))⟩
theorem o_some (h : isNil m = false) (ha : PE X e (TR p cl Ex G m)) : PO X (some e) (TO_ p cl Ex G m) := ⟨fun pins s σ H Q I ⟨F, env, r, q⟩ => (po_some ha).run pins s σ H Q I (by
  unfold partI at q
  rw [if_neg (by rw [h]; exact Bool.false_ne_true)] at q
  refine ⟨F, env, r, q.bind'.imp fun d env' F' H' r' s' q' v hv => ?_⟩
  dsimp only at q'
  split at q'
  · cases hv
    exact ⟨_, rfl, q'.now r' (Step.refl _ _ _ _)⟩
  · exact q'.elim)⟩
theorem s_sl {lo' hi' : Option PySem.Expr} {p2 : Pos} (C : Cxt p G cl CX Ex sc X) (ha : Opd X p cl Ex G a ea) (hl : PO X lo' (TO_ p cl Ex G lo)) (hh : PO X hi' (TO_ p cl Ex G hi)) : PE X (.Subscript ea (.Slice lo' hi' none p2) pos) (TB p cl Ex G (.sl a lo hi)) := by
  obtain ⟨ta, h1, h2, h3⟩ := ha
  refine PE.weak (pe_slice sl_dD h1 hl hh) fun σ H Q ⟨F, env, r, q⟩ => ?_
  unfold ev at q
  cases ep : peekOf a with
  | none =>
    rw [ep] at q
    refine h3 ep _ _ _ ⟨F, env, r, q.bind.imp fun d env1 F1 H1 r1 s1 q1 v hv => ?_⟩
    refine ⟨F1, env1, r1, q1.bind.imp fun l env2 F2 H2 r2 s2 q2 => ?_⟩
    refine ⟨F2, env2, r2, q2.bind.imp fun h env3 F3 H3 r3 s3 q3 => ?_⟩
    have s03 := (s1.trans s2).trans s3
    obtain ⟨d2, e, k⟩ := q3.ret1
    rw [C.k]
    refine ⟨F3, _, d2, r3.hr.sub, .rp (hv.mono (s2.sub.trans s3.sub)), e, out_of r3 s03 fun F'' H'' r4 s4 v2 hv2 => k F'' H'' r4 s4 (s3.trans s4) ((s2.trans s3).trans s4) (s03.trans s4) v2 hv2⟩
  | some i =>
    rw [ep] at q
    have et : ta = tVar i := by rw [h2 (by rw [ep]; rfl), ep]; rfl
    rw [et]
    dsimp only at q
    split at q
    · rename_i hi
      obtain ⟨l0, hl0⟩ := Option.isSome_iff_exists.mp hi
      obtain ⟨a0, e2, _⟩ := r.peek hl0
      refine ⟨_, e2, F, env, r, q.bind.imp fun l env2 F2 H2 r2 s2 q2 => ?_⟩
      refine ⟨F2, env2, r2, q2.bind.imp fun h env3 F3 H3 r3 s3 q3 => ?_⟩
      dsimp only at q3
      cases el : peekAt env3 i with
      | none => rw [el] at q3; exact q3.elim
      | some d =>
        rw [el] at q3
        dsimp only at q3
        obtain ⟨a1, e3, e4⟩ := r3.peek el
        rw [e2] at e3; cases e3
        obtain ⟨d2, e, k⟩ := q3.ret1
        rw [C.k]
        exact ⟨F3, _, d2, r3.hr.sub, e4, e, out_of r3 (s2.trans s3) fun F'' H'' r4 s4 v2 hv2 => k F'' H'' r4 s4 (s3.trans s4) ((s2.trans s3).trans s4) v2 hv2⟩
    · exact q.elim

/-! ### isinstance -/
theorem Ty.boot (t : Ty) : bootBuiltins (Str.ofString t.nm) = some (.type t.nm) := by cases t <;> decide +kernel
theorem Ty.blt (t : Ty) : Str.ofString t.nm ∈ bltNames := by cases t <;> decide +kernel
def tyNm : D → String
  | .none => "NoneType"
  | .bool _ => "bool"
  | .int _ => "int"
  | .str _ => "str"
  | .list _ => "list"
  | .tuple _ => "tuple"
  | .dict _ => "dict"
theorem tyx_of {K : PySem.W.Frag} {F H : Hp} {v : V} {d : D} (sm : Same F H) (h : Rp K F v d) : TyX K H v (.type (tyNm d)) := by
  cases h with
  | non => exact .base .non
  | bl b => exact .base (.bl b)
  | int i => exact .base (.int i)
  | str x => exact .base (.str x)
  | lst r a =>
    rcases r with (r | ⟨o, r⟩) | ⟨o, its, n, h1, h2, _⟩
    · exact .base (.lst (sm _ _ r))
    · exact .base (.frz (sm _ _ r))
    · exact .kList h1 h2
  | tup r a =>
    rcases r with (r | ⟨o, r⟩) | ⟨o, its, n, h1, h2, _⟩
    · exact .base (.tup (sm _ _ r))
    · exact .fTuple (sm _ _ r)
    · exact .kTuple h1 h2
theorem isi_tab (d : D) (t : Ty) (x : D) (h : isiD d t = some x) : ∃ k, x = .bool k ∧ kitB (tyNm d) t.nm = some k := by
  cases d <;> cases t <;> first
    | (exfalso; exact nomatch (show (none : Option D) = some x from h))
    | (cases h; exact ⟨true, rfl, by simp only [tyNm, Ty.nm]; decide +kernel⟩)
    | (cases h; exact ⟨false, rfl, by simp only [tyNm, Ty.nm]; decide +kernel⟩)
theorem s_isi {t : Ty} {p1 p2 pos : Pos} (C : Cxt p G cl CX Ex sc X) (hg : Gl X "isinstance") (hg2 : Gl X (Str.ofString t.nm)) (hs : starEach [ea, .Name (Str.ofString t.nm) p2] X.env = (false, eval ea X.env) :: starEach [.Name (Str.ofString t.nm) p2] X.env)
    (ha : PE X ea (TR p cl Ex G a)) : PE X (.Call (.Name "isinstance" p1) [ea, .Name (Str.ofString t.nm) p2] [] pos) (TB p cl Ex G (.isi a t)) := by
  have hn : (Str.ofString t.nm) ≠ "__name__" := by cases t <;> decide +kernel
  have hd : ((Str.ofString t.nm) == ("__debug__" : Str)) = false := by cases t <;> decide +kernel
  have ht : PE X (.Name (Str.ofString t.nm) p2) (tC (.ty t.nm)) := pe_bltn (v := .ty t.nm) hg2 (C.blt _ (Ty.blt t)) (Ty.boot t) rfl hn hd
  refine PE.weak (pe_callB call_isi hg (C.blt _ (by decide)) (by decide +kernel) (pa_cons ha (pa_cons ht pa_nil) hs) (by decide) (by decide) hs rfl) fun σ H Q ⟨F, env, r, q⟩ => ?_
  unfold ev at q
  refine ⟨F, env, r, q.bind'.imp fun d env' F' H' r' s' q' v hv => ?_⟩
  obtain ⟨d2, e, k⟩ := q'.ret1
  obtain ⟨kb, rfl, hk⟩ := isi_tab _ _ _ e
  refine ⟨v, .ty t.nm, .type (tyNm d), .type t.nm, kb, rfl, .ty _, ?_, kit_ty hk, k F' H' r' (Step.refl _ _ _ _) _ res_bool⟩
  rw [C.k]
  exact tyx_of r'.hr.sub hv

/-! ### calls -/
theorem CStep.same {mu : Option Addr} {F H F' H' : Hp} (sm : Same F H) (c : CStep mu F H F' H') : Same F F' := fun b o e => by
  rw [c.kf b (by rw [sm b o e]; simp)]
  exact e
theorem CStep.hrel {mu : Option Addr} {F H F' H' : Hp} (r : HRel p F H) (c : CStep mu F H F' H') (hm : ∀ b o, mu = some b → p.H0 b = some o → ∃ i, p.mu = some (i, b)) : HRel p F' H' :=
  ⟨c.sub, fun b o e n => c.keep b o (r.old b o e n) fun z => by
    obtain ⟨i, q⟩ := hm b o z e
    exact n i q, fun b e => (c.kf b (r.there b e)).trans (r.oldf b e), fun b e => c.there b (r.there b e)⟩
theorem Rel.called {env : En} {σ : L2.St} {F H F' H' : Hp} (r : Rel p env σ F H) (c : CStep none F H F' H') : Rel p env σ F' H' ∧ Step env σ F H env F' H' := by
  have sf := c.same r.hr.sub
  refine ⟨⟨c.hrel r.hr fun b o z => (nomatch z), fun i d e => ?_, fun i l e => ?_, r.inj, r.new, r.bor, r.mub, r.len, fun i s e hd => ?_⟩, ⟨fun b o e _ => c.keep b o e (fun z => nomatch z), fun b e _ => c.kf b e, c.there, fun _ z => z, sf⟩⟩
  · obtain ⟨v, e1, e2⟩ := r.pdo i d e
    exact ⟨v, e1, e2.mono sf⟩
  · obtain ⟨a, xs, e1, e2, e3, e4⟩ := r.owo i l e
    exact ⟨a, xs, e1, c.keep a _ e2 (fun z => nomatch z), by rw [c.kf a (by rw [e2]; simp)]; exact e3, e4.mono sf⟩
  · obtain ⟨a, e1, e2, e3, e4⟩ := r.dio i s e hd
    obtain ⟨o, e5⟩ := e4.some
    exact ⟨a, e1, by rw [c.kf a (by rw [e5]; simp)]; exact e2, e3, e4.keep (fun o h => c.keep a _ h (fun z => nomatch z)) sf⟩
theorem res_of {fr : Bool} {env env' : En} {σ : L2.St} {Hs F1 H1 F' H' : Hp} {v : V} {d : D} (r1 : Rel p env' σ F1 H1) (hth : ∀ b, Hs b ≠ none → H1 b ≠ none) (hno : ∀ b, H1 b = none → ¬ Own env σ b)
    (h : ResF p.K fr H1 F' H' v d) : ResOk fr p env σ Hs F' H' v d := by
  cases fr with
  | false => exact h
  | true =>
    cases d with
    | list l =>
      obtain ⟨a, xs, e1, e2, e3, e4, e5⟩ := h
      exact ⟨a, xs, e1, e2, e3, Decidable.byContradiction fun z => r1.hr.there a z e4, Decidable.byContradiction fun z => hth a z e4, hno a e4, e5⟩
    | _ => exact h
theorem isFresh_call {f : Nat} {es : E} {fs : FSem} (h : G.fn f = some fs) : isFresh G (.call f es) = fs.fr := by
  show (match G.fn f with | some fs => fs.fr | none => false) = fs.fr
  rw [h]
theorem isFresh_callm {f i : Nat} {es : E} {fs : FSem} (h : G.fn f = some fs) : isFresh G (.callm f i es) = fs.fr := by
  show (match G.fn f with | some fs => fs.fr | none => false) = fs.fr
  rw [h]
/-- the promise asked, from what is wanted -/
theorem call_core {f : Nat} {es : E} {fs : FSem} (hf : G.fn f = some fs) {σ : L2.St} {H : Hp} {Q : VK} (h : TB p cl Ex G (.call f es) σ H Q) : TAr p cl Ex G es σ H fun vs H1 => spOf p.K cl fs vs H1 Q Ex := by
  obtain ⟨F, env, r, q⟩ := h
  unfold ev at q
  rw [hf] at q
  refine ⟨F, env, r, q.bind.imp fun d env1 F1 H1 r1 s1 q1 => ?_⟩
  dsimp only at q1
  split at q1
  · rename_i l fs' el
    cases el
    refine ⟨l, rfl, fun vs hvs => ?_⟩
    split at q1
    · exact q1.elim
    · rename_i hb
      simp only [Bool.or_eq_true, Bool.not_eq_true', not_or, Bool.not_eq_true, Bool.not_eq_false, beq_iff_eq] at hb
      refine ⟨F1, l, none, r1.hr.sub, by rw [hvs.length]; exact hb.2, ?_, ?_⟩
      · unfold ArgsOk
        rw [hb.1]
        exact ⟨rfl, hvs⟩
      · cases e : fs.f l with
        | ok w =>
          obtain ⟨d2, l2⟩ := w
          rw [e] at q1
          intro v F' H' c _ res
          obtain ⟨r2, s2⟩ := r1.called c
          rw [isFresh_call hf] at q1
          exact q1 F' H' r2 s2 (s1.trans s2) v (res_of r1 s1.there (fun b hb => r1.not_own hb) res)
        | exc c0 =>
          rw [e] at q1
          intro F' H' c
          exact q1 F' H' (c.hrel r1.hr fun b o z => (nomatch z))
        | bot => rw [e] at q1; exact q1.elim
  · exact q1.elim
theorem s_call {f : Nat} {es : E} {x : Str} {p1 : Pos} {y : PySem.Expr} {ys : List PySem.Expr} (C : Cxt p G cl CX Ex sc X) (hf : (G.fn f).isSome = true) (hx : G.fnm f = x) (hg : Gl X x) (hd : dbg x = false) (ha : PA X (y :: ys) (TAr p cl Ex G es))
    (he : starEach (y :: ys) X.env = (false, eval y X.env) :: starEach ys X.env) (hpl : (backTo pos (starEach ys X.env)).any (·.1) = false) : PE X (.Call (.Name x p1) (y :: ys) [] pos) (TB p cl Ex G (.call f es)) := by
  subst hx
  obtain ⟨fs, hf⟩ := Option.isSome_iff_exists.mp hf
  obtain ⟨fa, fd, ps, k, F, hr, hm, hk, hb⟩ := (C.fns f fs hf).ex
  refine PE.weak (pe_call F hr hg hm hk hb .nil C.pass ha (dbg_of hd).1 he hpl) fun σ H Q h => ?_
  obtain ⟨F, env, r, q⟩ := call_core hf h
  exact ⟨F, env, r, q.imp fun d env' F' H' _ _ ⟨ds, e, k⟩ => ⟨ds, e, fun vs hvs => by
    show spOf p.K cl fs (vs ++ []) H' Q Ex
    rw [List.append_nil]; exact k vs hvs⟩⟩
theorem s_call0 {f : Nat} {x : Str} {p1 : Pos} (C : Cxt p G cl CX Ex sc X) (hf : (G.fn f).isSome = true) (hx : G.fnm f = x) (hg : Gl X x) (hd : dbg x = false) : PE X (.Call (.Name x p1) [] [] pos) (TB p cl Ex G (.call f .nil)) := by
  subst hx
  obtain ⟨fs, hf⟩ := Option.isSome_iff_exists.mp hf
  obtain ⟨fa, fd, ps, k, F, hr, hm, hk, hb⟩ := (C.fns f fs hf).ex
  refine PE.weak (pe_call0 F hr hg hm hk hb .nil C.pass (dbg_of hd).1) fun σ H Q h => ?_
  obtain ⟨F, env, r, q⟩ := call_core hf h
  obtain ⟨ds, e, k⟩ := q.now r (Step.refl _ _ _ _)
  cases e
  exact k [] .nil

/-! ### a def that changes its first argument -/
theorem upd_self {H : Hp} {a : Addr} {o : HO} (h : H a = some o) : upd H a o = H := by
  funext b
  by_cases e : b = a
  · subst e; rw [upd_same, h]
  · rw [upd_ne e]
theorem setHeld_cases {env : En} {i : Nat} {c : List D} (h : heldAt env i = some c) (l : List D) : ∃ s, setHeld env i l = env.set i s ∧ ((∃ m, env[i]? = some (.own m) ∧ s = .own l) ∨ (∃ m, env[i]? = some (.bor m) ∧ s = .bor l)) := by
  unfold heldAt at h
  unfold setHeld
  cases e : env[i]? with
  | none => rw [e] at h; cases h
  | some s =>
    rw [e] at h
    cases s with
    | no => cases h
    | pd d => cases h
    | own m => exact ⟨_, rfl, .inl ⟨m, rfl, rfl⟩⟩
    | bor m => exact ⟨_, rfl, .inr ⟨m, rfl, rfl⟩⟩
    | dic m => cases h
    | dik m => cases h
theorem Rel.calledM {env : En} {σ : L2.St} {F H F' H' : Hp} {i : Nat} {c l' : List D} {a : Addr} (r : Rel p env σ F H) (hh : heldAt env i = some c) (hσ : σ[i]? = some (some (.ref a))) (cs : CStep (some a) F H F' H') (mo : MutOk p.K (some a) F' H' l') :
    Rel p (setHeld env i l') σ F' H' ∧ Step env σ F H (setHeld env i l') F' H' := by
  obtain ⟨xs', m1, m2⟩ := mo
  obtain ⟨a0, xs, e1, e2, e3, e4⟩ := r.owo i c hh
  rw [hσ] at e1; cases e1
  obtain ⟨s, es, hs⟩ := setHeld_cases hh l'
  have f'a : F' a = none := (cs.kf a (by rw [e2]; simp)).trans e3
  have cs0 : CStep none F H F' (upd H' a (.lst xs)) := ⟨fun b o e => by
      have nb : b ≠ a := fun z => by rw [z, f'a] at e; cases e
      rw [upd_ne nb]; exact cs.sub b o e, fun b o e _ => by
      by_cases nb : b = a
      · subst nb; rw [upd_same]; rw [e2] at e; exact e
      · rw [upd_ne nb]; exact cs.keep b o e fun z => nb (Option.some.inj z).symm, cs.kf, fun b e => by
      by_cases nb : b = a
      · subst nb; rw [upd_same]; intro z; cases z
      · rw [upd_ne nb]; exact cs.there b e⟩
  obtain ⟨r1, s1⟩ := r.called cs0
  obtain ⟨r2, s2⟩ := r1.write hh hs hσ m2
  rw [upd_upd, upd_self m1] at r2 s2
  rw [es]
  exact ⟨r2, s1.trans s2⟩
theorem callm_core {f i : Nat} {es : E} {fs : FSem} (hf : G.fn f = some fs) {σ : L2.St} {H : Hp} {Q : VK} (h : TB p cl Ex G (.callm f i es) σ H Q) : tVar i σ H fun v H1 => TAr p cl Ex G es σ H1 fun vs H2 => spOf p.K cl fs (v :: vs) H2 Q Ex := by
  obtain ⟨F, env, r, q⟩ := h
  unfold ev at q
  rw [hf] at q
  split at q
  · rename_i hi
    obtain ⟨l0, hl0⟩ := Option.isSome_iff_exists.mp hi
    obtain ⟨a0, xs0, e2, _⟩ := r.owo i l0 hl0
    refine ⟨_, e2, F, env, r, q.bind.imp fun d env1 F1 H1 r1 s1 q1 => ?_⟩
    dsimp only at q1
    split at q1
    · rename_i l fs' c el hc
      cases el
      obtain ⟨a1, xs1, e3, e4, e5, e6⟩ := r1.owo i c hc
      rw [e2] at e3; cases e3
      refine ⟨l, rfl, fun vs hvs => ?_⟩
      split at q1
      · rename_i hb
        simp only [Bool.and_eq_true, beq_iff_eq] at hb
        refine ⟨F1, .list c :: l, some a0, r1.hr.sub, by rw [List.length_cons, hvs.length]; exact hb.2, ?_, ?_⟩
        · unfold ArgsOk
          rw [hb.1]
          exact ⟨a0, xs1, c, vs, l, rfl, rfl, rfl, e4, e5, e6, hvs⟩
        · cases e : fs.f (.list c :: l) with
          | ok w =>
            obtain ⟨d2, l2⟩ := w
            rw [e] at q1
            intro v F' H' cs mo res
            obtain ⟨r2, s2⟩ := r1.calledM hc e2 cs mo
            rw [isFresh_callm hf] at q1
            refine q1 F' H' r2 s2 (s1.trans s2) v (res_of r1 s1.there (fun b hb o => ?_) res)
            exact r1.not_own hb (s2.owl b o)
          | exc c0 =>
            rw [e] at q1
            intro F' H' cs
            refine q1 F' H' (cs.hrel r1.hr fun b o z hb0 => ?_)
            have : a0 = b := Option.some.inj z
            subst this
            unfold heldAt at hc
            cases ei : env1[i]? with
            | none => rw [ei] at hc; cases hc
            | some s =>
              rw [ei] at hc
              cases s with
              | no => cases hc
              | pd d => cases hc
              | own m => rw [r1.new i m a0 ei e2] at hb0; cases hb0
              | bor m =>
                obtain ⟨b, q1, q2⟩ := r1.bor i m ei
                rw [e2] at q2; cases q2
                exact ⟨i, q1⟩
              | dic m => cases hc
              | dik m => cases hc
          | bot => rw [e] at q1; exact q1.elim
      · exact q1.elim
    · exact q1.elim
  · exact q.elim
theorem s_callm {f i : Nat} {es : E} {x y : Str} {p1 p2 : Pos} {ys : List PySem.Expr} (C : Cxt p G cl CX Ex sc X) (hf : (G.fn f).isSome = true) (hx : G.fnm f = x) (hg : Gl X x) (hd : dbg x = false) (h1 : nmB X.N i y = true) (h2 : visB sc y = true)
    (ha : PA X ys (TAr p cl Ex G es)) (hpl : (backTo pos (starEach ys X.env)).any (·.1) = false) : PE X (.Call (.Name x p1) (.Name y p2 :: ys) [] pos) (TB p cl Ex G (.callm f i es)) := by
  subst hx
  obtain ⟨fs, hf⟩ := Option.isSome_iff_exists.mp hf
  obtain ⟨fa, fd, ps, k, F, hr, hm, hk, hb⟩ := (C.fns f fs hf).ex
  obtain ⟨n1, n2, n3⟩ := nm_at h1
  have hs : starEach (PySem.Expr.Name y p2 :: ys) X.env = (false, eval (.Name y p2) X.env) :: starEach ys X.env := rfl
  refine PE.weak (pe_call F hr hg hm hk hb .nil C.pass (pa_cons (pe_var n1 (vis_of C.sc h2) n2 n3) ha hs) (dbg_of hd).1 hs hpl) fun σ H Q h => ?_
  obtain ⟨v, e, F, env, r, q⟩ := callm_core hf h
  exact ⟨v, e, F, env, r, q.imp fun d env' F' H' _ _ ⟨ds, e, k⟩ => ⟨ds, e, fun vs hvs => by
    show spOf p.K cl fs ((v :: vs) ++ []) H' Q Ex
    rw [List.append_nil]; exact k vs hvs⟩⟩
theorem s_pop {i : Nat} {x : Str} {p1 ap : Pos} (C : Cxt p G cl CX Ex sc X) (h1 : nmB X.N i x = true) (h2 : visB sc x = true) (hl : (ap.endLine == pos.line) = true) : PE X (.Call (.Attribute (.Name x p1) "pop" ap) [] [] pos) (TB p cl Ex G (.pop i)) := by
  obtain ⟨n1, n2, n3⟩ := nm_at h1
  refine PE.weak (pe_bm0 PySem.F.plainAttrs_list PySem.F.slot_list_pop PySem.F.type_list_pop mt_pop (pe_var n1 (vis_of C.sc h2) n2 n3) rfl hl) fun σ H Q ⟨F, env, r, q⟩ => ?_
  unfold ev at q
  cases hc : heldAt env i with
  | none => rw [hc] at q; exact q.elim
  | some l =>
    rw [hc] at q
    obtain ⟨a, xs, e1, e2, e3, e4⟩ := r.owo i l hc
    dsimp only at q
    cases hg : l.getLast? with
    | none => rw [hg] at q; exact q.elim
    | some d =>
      rw [hg] at q
      have hg' : l[l.length - 1]? = some d := by rw [← List.getLast?_eq_getElem?]; exact hg
      obtain ⟨v, g1, g2⟩ := e4.get' hg'
      refine ⟨.ref a, e1, .inl ⟨rfl, _, .inl (.inl e2)⟩, a, xs, v, rfl, rfl, e2, by rw [e4.length]; exact g1, ?_⟩
      obtain ⟨s, es, hs⟩ := setHeld_cases hc l.dropLast
      have e5 : RpAll p.K F xs.dropLast l.dropLast := by
        rw [List.dropLast_eq_take, List.dropLast_eq_take, e4.length]; exact e4.take _
      obtain ⟨r2, s2⟩ := r.write hc hs e1 e5
      rw [← es] at r2 s2
      refine q F _ r2 s2 v ?_
      cases d <;> exact g2
/-! ### sorted(set(..)), methods of lists -/
theorem s_sset {p1 p2 q2 : Pos} (C : Cxt p G cl CX Ex sc X) (hg : Gl X "sorted") (hg2 : Gl X "set") (hs : starEach [ea] X.env = [(false, eval ea X.env)]) (ha : PE X ea (TR p cl Ex G a)) :
    PE X (.Call (.Name "sorted" p1) [.Call (.Name "set" p2) [ea] [] q2] [] pos) (TB p cl Ex G (.sset a)) := by
  refine PE.weak (pe_callB (cr_sortedSet C.calm) hg (C.blt _ (by decide +kernel)) (by decide +kernel) (pa_cons (pe_callTy (cr_setI C.calm) hg2 (C.blt _ (by decide +kernel)) (by decide +kernel) (pa_cons ha pa_nil hs) (by decide) (by decide) hs rfl) pa_nil rfl) (by decide) (by decide) rfl rfl) fun σ H Q ⟨F, env, r, q⟩ => ?_
  unfold ev at q
  refine ⟨F, env, r, q.bind'.imp fun d env' F' H' r' s' q' v hv => ?_⟩
  dsimp only at q'
  split at q'
  · rename_i l
    split at q'
    · rename_i ns hns
      split at q'
      · rename_i hlt
        have := intsD_some hns; subst this
        cases hv with
        | lst hq hr =>
          rename_i b xs
          have := hr.ints; subst this
          refine ⟨b, ns, rfl, by rw [C.k]; exact sql_same r'.hr.sub hq, by have := hlt.1; unfold scanBound; omega, fun t c ht hc hcn => ?_⟩
          refine ⟨t, _, c, rfl, upd_same, by rw [← hcn (sdI ns) (sdI_nodup ns) fun k => sdI_mem]; exact hlt.2, fun ms u h1 h2 h3 hu => ?_⟩
          have e : ms = sdI ns := sdI_of h1 fun k => by rw [h2]; simp
          subst e
          have r1 := r'.alloc (o := SetO X.w t (fun j => decide (j ∈ ns)) c) ht
          have sA : Step env' σ F' H' env' F' (upd H' t (SetO X.w t (fun j => decide (j ∈ ns)) c)) := Step.alloc ht
          refine (out_of r1 (s'.trans sA) (Q := Q) (d := .list ((sdI ns).map PyData.int)) fun F'' H'' r2 s2 v2 hv2 => ?_).lst u _ _ rfl hu (RpAll.of_ints _)
          exact (show ∀ F'' H'', Rel p env' σ F'' H'' → Step env' σ F' H' env' F'' H'' → ∀ v, ResOk true p env' σ H F'' H'' v (.list ((sdI ns).map PyData.int)) → Q v H'' from q') F'' H'' r2 (sA.trans s2) v2 hv2
      · exact q'.elim
    · exact q'.elim
  · exact q'.elim
theorem Mt.some {m : Mt} {o x d : D} (h : m.f o x = some d) : ∃ (l : List D) (ns : List Int) (k : Int), o = .list l ∧ intsD? l = some ns ∧ x = .int k ∧ ((m = .count ∧ d = .int (ns.count k : Nat)) ∨ (m = .index ∧ k ∈ ns ∧ d = .int (ns.idxOf k : Nat))) := by
  unfold Mt.f at h
  split at h
  · rename_i l k
    split at h
    · rename_i ns hns
      split at h
      · cases h; exact ⟨l, ns, k, rfl, hns, rfl, .inl ⟨rfl, rfl⟩⟩
      · split at h
        · cases h; exact ⟨l, ns, k, rfl, hns, rfl, .inr ⟨rfl, by assumption, rfl⟩⟩
        · cases h
    · cases h
  · cases h
theorem flat_ints (ns : List Int) : (ns.map V.int).all flatV = true := by
  rw [List.all_eq_true]
  intro v hv
  obtain ⟨n, _, rfl⟩ := List.mem_map.mp hv
  rfl
theorem idx_of {ns : List Int} {k : Int} (h : k ∈ ns) : ns[ns.idxOf k]? = some k ∧ ∀ m, m < ns.idxOf k → ns[m]? ≠ some k := by
  have hl := List.idxOf_lt_length_of_mem h
  refine ⟨by rw [List.getElem?_eq_getElem hl]; exact congrArg some (List.getElem_idxOf hl), fun m hm e => ?_⟩
  obtain ⟨hm2, e2⟩ := List.getElem?_eq_some_iff.mp e
  exact absurd (List.not_of_lt_findIdx hm) (by rw [e2]; simp)
theorem s_meth {m : Mt} {x v : PySem.Expr} {ap : Pos} (C : Cxt p G cl CX Ex sc X) (hb : plainBase x = true) (hl : (ap.endLine == pos.line) = true) (hs : starEach [v] X.env = (false, eval v X.env) :: starEach [] X.env) (ha : Opd X p cl Ex G a x) (hbv : PE X v (TR p cl Ex G b)) :
    PE X (.Call (.Attribute x m.nm ap) [v] [] pos) (TB p cl Ex G (.meth m a b)) := by
  obtain ⟨ta, h1, h2, h3⟩ := ha
  have hbase : attributeBase x m.nm X.env (eval x X.env) = eval x X.env := by
    cases x <;> first | (cases hb; done) | (cases m <;> rfl) | skip
    rename_i f args kws ps
    cases args with
    | nil => cases hb
    | cons y ys => cases m <;> (cases f <;> rfl)
  have fin : ∀ {env env' : En} {σ : L2.St} {F H F' H' : Hp} {o x1 : D} {u w : V} {Q : VK}, Rel p env' σ F' H' → Vw p.K F' H' u o → Rp p.K F' w x1 → (∃ d, m.f o x1 = some d ∧ ∀ F'' H'', Rel p env' σ F'' H'' → Step env' σ F' H' env' F'' H'' → ∀ v, ResOk false p env' σ H F'' H'' v d → Q v H'') →
      (m = .count → rCntI X.K u [w] H' Q) ∧ (m = .index → rIndex X.K u [w] H' Q) := fun {env env' σ F H F' H' o x1 u w Q} r' hu hw ⟨d, e, k⟩ => by
    obtain ⟨l, ns, kk, rfl, hns, rfl, hm⟩ := Mt.some e
    have := intsD_some hns; subst this
    obtain ⟨a0, xs, rfl, q1, q2⟩ := hu.list r'.hr.sub
    have := q2.ints; subst this
    cases hw
    rw [← C.k] at q1
    rcases hm with ⟨rfl, rfl⟩ | ⟨rfl, hk, rfl⟩
    · exact ⟨fun _ => ⟨a0, ns, kk, rfl, rfl, q1, k F' H' r' (Step.refl _ _ _ _) _ (.int _)⟩, fun z => by cases z⟩
    · obtain ⟨i1, i2⟩ := idx_of hk
      refine ⟨fun z => by (cases z), fun _ => ⟨a0, ns.map V.int, .int kk, ns.idxOf kk, .int kk, rfl, rfl, q1, rfl, flat_ints ns, by rw [List.getElem?_map, i1]; rfl, by simp [eqV], fun j z hj hz => ?_, k F' H' r' (Step.refl _ _ _ _) _ (.int _)⟩⟩
      rw [List.getElem?_map] at hz
      cases hj2 : ns[j]? with
      | none => rw [hj2] at hz; cases hz
      | some n =>
        rw [hj2] at hz; cases hz
        have : n ≠ kk := fun z => i2 j hj (by rw [hj2, z])
        simp [eqV, this]
  have core : ∀ {r : V → List V → Hp → VK → Prop}, (∀ {u w : V} {H' : Hp} {Q : VK}, ((m = .count → rCntI X.K u [w] H' Q) ∧ (m = .index → rIndex X.K u [w] H' Q)) → r u [w] H' Q) → ∀ σ H Q, TB p cl Ex G (.meth m a b) σ H Q → tBM X.K "list" r ta (tCons (TR p cl Ex G b) tNil) σ H Q := fun {r} hr σ H Q ⟨F, env, rr, q⟩ => by
    unfold ev at q
    cases ep : peekOf a with
    | none =>
      rw [ep] at q
      refine h3 ep _ _ _ ⟨F, env, rr, q.bind'.imp fun d env1 F1 H1 r1 s1 q1 v hv => ?_⟩
      dsimp only at q1
      split at q1
      · rename_i l
        have hvl : ∃ a0 xs, v = .ref a0 ∧ SqL p.K F1 a0 xs := by
          cases hv with
          | lst hq hr => exact ⟨_, _, rfl, hq⟩
        obtain ⟨a0, xs0, rfl, hq0⟩ := hvl
        refine ⟨.inl ⟨rfl, _, by rw [C.k]; exact sql_same r1.hr.sub hq0⟩, F1, env1, r1, q1.bind'.imp fun d2 env2 F2 H2 r2 s2 q2 w hw => ?_⟩
        exact hr (fin (env := env) (F := F) (H := H) r2 (.rp (hv.mono s2.sub)) hw q2.ret1)
      · exact q1.elim
    | some i =>
      rw [ep] at q
      have et : ta = tVar i := by rw [h2 (by rw [ep]; rfl), ep]; rfl
      rw [et]
      dsimp only at q
      split at q
      · rename_i l0 hl0
        obtain ⟨v0, e2, hv0⟩ := rr.peek hl0
        obtain ⟨a0, xs0, rfl, hq0, _⟩ := hv0.list rr.hr.sub
        refine ⟨_, e2, .inl ⟨rfl, _, by rw [C.k]; exact hq0⟩, F, env, rr, q.bind'.imp fun d2 env2 F2 H2 r2 s2 q2 w hw => ?_⟩
        dsimp only at q2
        split at q2
        · rename_i d1 hd1
          obtain ⟨v1, e3, hv1⟩ := r2.peek hd1
          rw [e2] at e3; cases e3
          exact hr (fin (env := env) (F := F) (H := H) r2 hv1 hw q2.ret1)
        · exact q2.elim
      · exact q.elim
  cases m with
  | count => exact PE.weak (pe_bm PySem.F.plainAttrs_list PySem.F.slot_list_count PySem.F.type_list_count mt_lcount h1 (pa_cons hbv pa_nil hs) hbase (by rw [hs]; rfl) hl hs rfl) (core fun h => h.1 rfl)
  | index => exact PE.weak (pe_bm PySem.F.plainAttrs_list PySem.F.slot_list_index PySem.F.type_list_index mt_index h1 (pa_cons hbv pa_nil hs) hbase (by rw [hs]; rfl) hl hs rfl) (core fun h => h.2 rfl)
end
end Rv

set_option Elab.async false
set_option linter.all false
set_option maxRecDepth 100000
set_option maxHeartbeats 4000000
/-! Rv8: enumerate of a tuple; what is walked. -/
namespace PySem
open Sem (wp)
open AutoSeq1 (wpAny_loadPart')
theorem meets_enumerate_newT8 (l : Addr) (items : Array Value) (n : Nat) (dct : Option Addr) (sl : Array (Option Value)) :
    Meets (Builtin.«enumerate.__new__» ⟨[.type "enumerate", .ref l], []⟩) (fun _ R s => s.heap.get? l = some { cls := .type "tuple", dict := dct, data := .seq items n, slots := sl } ∧
      R (.ok (.ret (.ref (s.heap.push { cls := .type "tuple_iterator", data := .fields #[.ref l, .int 0 0] }).objs.size)))
        { s with heap := (s.heap.push { cls := .type "tuple_iterator", data := .fields #[.ref l, .int 0 0] }).push { cls := .type "enumerate", data := .fields #[.none, .bool false, .ref s.heap.objs.size, rawInt 0, .none, .none] } }) :=
  .of_wp fun prog w A R s h => by
    obtain ⟨hp, g, d, tk, os⟩ := s; obtain ⟨hl, h⟩ := h
    have hsub := sub_enumerate
    have hL : Heap.IsTuple (Shared.heap ⟨hp, g, d, tk, os⟩) l items := ⟨_, hl, rfl, n, rfl⟩
    wp_walk using wpAny_loadPart' hl
    refine wpAny_stack_any fun st => wpAny_pure ?_
    split
    · rename_i c _ _ _ _ _
      cases (c == Value.type "enumerate")
      · wp_walk using wpAny_loadPart' hl, wpAny_pyIter_tuple hL
        exact ⟨_, rfl, h⟩
      · wp_walk using wpAny_loadPart' hl, wpAny_pyIter_tuple hL
        exact ⟨_, rfl, h⟩
    · wp_walk using wpAny_loadPart' hl, wpAny_pyIter_tuple hL
      exact ⟨_, rfl, h⟩
section
variable {prog : Program} {w : World} {A : Around} {E : Value → Shared → Prop} {s : Shared}
theorem call_enumerate_tuple8 {l : Addr} {items : Array Value} {Q : Value → Shared → Prop} (hL : s.heap.IsTuple l items)
    (h : ∀ h', IsEnum h' (s.heap.objs.size + 1) s.heap.objs.size 0 .none → h'.IsTupleIter s.heap.objs.size l 0 → h'.objs.size = s.heap.objs.size + 2 →
      (∀ b o, s.heap.get? b = some o → h'.get? b = some o) → Q (.ref (s.heap.objs.size + 1)) { s with heap := h' }) :
    wpAny (model prog w) A (call (.type "enumerate") [.ref l]) Q E s := by
  obtain ⟨⟨c, dct, dt, sl⟩, hl, hc, n, hd⟩ := hL
  replace hc : c = .type "tuple" := hc
  replace hd : dt = .seq items n := hd
  subst hc hd
  refine callType_new F.called_enumerate (by decide) (F.typeCall_enumerate_1 _) (F.newCall_enumerate_1 _) (fun obj => F.args_object_init_2 obj _) F.entry_enumerate_new
    (meets_enumerate_newT8 l items n dct sl) ⟨hl, ?_⟩
  have hz : (s.heap.push { cls := .type "tuple_iterator", data := .fields #[.ref l, .int 0 0] }).objs.size = s.heap.objs.size + 1 := Heap.size_push ..
  show _ ∧ _
  rw [hz]
  have he : IsEnum ((s.heap.push { cls := .type "tuple_iterator", data := .fields #[.ref l, .int 0 0] }).push
      { cls := .type "enumerate", data := .fields #[.none, .bool false, .ref s.heap.objs.size, rawInt 0, .none, .none] }) (s.heap.objs.size + 1) s.heap.objs.size 0 .none := by
    have := Heap.get?_push_size (s.heap.push { cls := .type "tuple_iterator", data := .fields #[.ref l, .int 0 0] })
      (o := { cls := .type "enumerate", data := .fields #[.none, .bool false, .ref s.heap.objs.size, rawInt 0, .none, .none] }) rfl
    rw [hz] at this; exact this
  refine ⟨⟨_, he, rfl⟩, h _ he ⟨_, Heap.get?_push_of_some _ (Heap.get?_push_size _ rfl), rfl, rfl⟩ (by rw [Heap.size_push, hz]) fun b o x => Heap.get?_push_of_some _ (Heap.get?_push_of_some _ x)⟩
end
end PySem
namespace L2
open PySem PySem.Spec PyProof.Rows
def IteT (K : PySem.W.Frag) (a : Addr) : It :=
  ⟨fun i H => ∃ (xs : List V) (x : V), SqT K H a xs ∧ xs[i]? = some x, fun i H v H' => ∃ T x, v = .ref T ∧ H T = none ∧ H' = upd H T (.tup [.int (i : Nat), x]) ∧ ∀ xs, SqT K H a xs → xs[i]? = some x, fun i H => ∃ xs : List V, SqT K H a xs ∧ xs.length = i⟩
theorem tup_ne_iter {h : Heap} {a it : Addr} {items : Array Value} {i : Nat} (t : h.IsTuple a items) (q : h.IsTupleIter it a i) : a ≠ it := by
  obtain ⟨o, e1, e2, _⟩ := t
  obtain ⟨o', e3, e4, _⟩ := q
  intro z
  subst z
  have e3' : o = o' := Option.some.inj (e1.symm.trans e3)
  rw [← e3', e2] at e4
  exact absurd (Value.type.inj e4) (by decide)
theorem tup_ne_enum {h : Heap} {a e it : Addr} {items : Array Value} {i : Int} {old : Value} (t : h.IsTuple a items) (q : IsEnum h e it i old) : e ≠ a := by
  obtain ⟨o, e1, e2, _⟩ := t
  intro z
  subst z
  have q' := Option.some.inj (e1.symm.trans q)
  rw [q'] at e2
  exact absurd (Value.type.inj e2) (by decide)
theorem turn_enumT {P : Program} {w : World} {K : PySem.W.Frag} {elts : List Expr} {kk : Nat} {tpos : Pos} (a e it : Addr) :
    Turn P w K (.Tuple elts kk tpos) (IteT K a) [e, it] e (fun i h => (∃ old, IsEnum h e it ((i : Nat) : Int) old) ∧ h.IsTupleIter it a i ∧ e ≠ it) where
  mem := by simp
  obj := fun i h st b hb => by
    obtain ⟨⟨old, he⟩, ⟨o, ho, hc, hd⟩, _⟩ := st
    have e' : b = e ∨ b = it := by simpa using hb
    rcases e' with z | z
    · rw [z]; exact ⟨_, he, fun v q => nomatch q⟩
    · rw [z]; exact ⟨o, ho, fun v q => by rw [hd] at q; cases q⟩
  keep := fun i h h' st k => let ⟨⟨old, he⟩, hi, hne⟩ := st; ⟨⟨old, k e (by simp) _ he⟩, hi.at fun o q => k it (by simp) o q, hne⟩
  item := by
    intro X hP hw hK hc i pins s σ H E I hf st hg
    subst hP hw hK
    obtain ⟨⟨old, he⟩, hit, hne⟩ := st
    obtain ⟨xs, x, hq, hx⟩ := hg
    obtain ⟨its, rv, p, hz⟩ := I.tuple hq
    obtain ⟨u, hu, ru⟩ := rv.get hx
    have hel : e < s.heap.objs.size := Heap.lt_size he
    have hil : it < s.heap.objs.size := by obtain ⟨_, q, _⟩ := hit; exact Heap.lt_size q
    have hat := tup_ne_iter p hit
    have hea := tup_ne_enum p he
    have hlt : i < its.toArray.size := by rw [List.size_toArray]; exact (List.getElem?_eq_some_iff.mp hu).1
    refine wpAny_pyNext_enum_itemD (Draws.tuple (prog := X.prog) (w := X.w) (A := X.A.in1) (I.ok.hd hc) it a hat its.toArray) he ⟨hit, p⟩ hlt hne (by intro z; rcases List.mem_cons.mp z with z | z; exact hne z; exact hea (List.mem_singleton.mp z)) fun u' h' tk hu' ho st' hT hsz hk => ?_
    have eu : u' = u := by
      have hu' : its.toArray[i]? = some u' := hu'
      rw [List.getElem?_toArray, hu] at hu'
      exact (Option.some.inj hu').symm
    subst eu
    refine ⟨_, rfl, wpAny_letOwnedTupleGo_enum (s := { s with heap := h', toks := tk + 1 }) ho fun h'' he' sb => ?_⟩
    have hT2 : h''.get? s.heap.objs.size = some { cls := .type "tuple", data := .seq #[.int i tk, u'] } := (sb.2 _ (Nat.ne_of_gt hel)).trans hT
    have new : ObjOk X.prog X.w (upd H s.heap.objs.size (.tup [.int (i : Nat), x])) h'' s.heap.objs.size (.tup [.int (i : Nat), x]) :=
      ⟨by show 2 ≤ sizeLine; decide, [.int i tk, u'], .cons ⟨_, rfl⟩ (.cons ru .nil), ⟨_, hT2, rfl, _, rfl⟩⟩
    have I1 : Inv X pins σ (upd H s.heap.objs.size (.tup [.int (i : Nat), x])) { s with heap := h'', toks := tk + 1 } :=
      I.turnedNew (ch := [e, it]) (fun b ob hb q => (sb.2 b (fun z => hb (by simp [z]))).trans (hk b ob (fun z => hb (by simp [z])) (fun z => hb (by simp [z])) q)) hf (Nat.le_refl _) new
    refine ⟨.ref s.heap.objs.size, _, I1, rfl, ⟨_, x, rfl, I.hok.fresh (Nat.le_refl _), rfl, fun ys hy => by rw [I.tuple_inj hy hq]; exact hx⟩, ⟨⟨u', ?_⟩, st'.1.at fun o q => (sb.2 it (Ne.symm hne)).trans q, hne⟩, fun b hb => ?_⟩
    · have e1 : ((i + 1 : Nat) : Int) = (i : Int) + 1 := by omega
      rw [e1]; exact he'
    · have hb' : b < s.heap.objs.size := by
        have e' : b = e ∨ b = it := by simpa using hb
        rcases e' with z | z
        · rw [z]; exact hel
        · rw [z]; exact hil
      rw [upd_ne (Nat.ne_of_lt hb')]
      exact (hf b hb).1
  done := by
    intro X hP hw hK hc i pins s σ H E I hf st hg
    subst hP hw hK
    obtain ⟨⟨old, he⟩, hit, hne⟩ := st
    obtain ⟨xs, hq, hx⟩ := hg
    obtain ⟨its, rv, p, hz⟩ := I.tuple hq
    obtain ⟨f0, f1, f2, f3, f4, f5⟩ := hf it (by simp)
    have hl := rv.length
    have hat := tup_ne_iter p hit
    have hi : its.toArray.size = i := by rw [List.size_toArray]; omega
    have D := Draws.tuple (prog := X.prog) (w := X.w) (A := X.A.in1) (I.ok.hd hc) it a hat its.toArray
    rw [hi] at D
    exact wpAny_pyNext_enum_endD D he ⟨hit, p⟩ fun h' eb => ⟨rfl, I.turned (t' := s.toks) (fun b o hb q => eb b o hb q) f0 f1 f3 f4 f5⟩
  self := fun A i s Q E st h => let ⟨⟨_, he⟩, _⟩ := st; wpAny_pyIter_enum he h
def iEnumT (K : PySem.W.Frag) (ta : TA) : TI := fun σ H R => ta σ H fun vs H1 => ∃ a xs, vs = [.ref a] ∧ SqT K H1 a xs ∧ R (IteT K a) H1
theorem pi_enumT {X : Cx} {e : Expr} {ta : TA} {p pos tpos : Pos} {elts : List Expr} {kk : Nat} (hg : Gl X "enumerate") (hm : X.mg "enumerate" = none) (ha : PA X [e] ta) (hs : starEach [e] X.env = [(false, eval e X.env)] := by rfl) :
    PI X (.Tuple elts kk tpos) (.Call (.Name "enumerate" p) [e] [] pos) (iEnumT X.K ta) := by
  refine ⟨fun pins s σ H R I h => ?_⟩
  refine Call_ (ld_blt I hg hm boot_enumerate (PyProof.Rows.callWith_type1 (thn (ha.run pos pins s σ H _ I h) fun us s1 ⟨vs, H1, I1, r1, q1⟩ => ?_) hs rfl))
  obtain ⟨a, xs, ex, hq, q⟩ := q1
  subst ex
  cases r1 with
  | cons r rr =>
    cases rr
    cases r
    obtain ⟨its, rv, p', hz⟩ := I1.tuple hq
    refine call_enumerate_tuple8 p' fun h' he hit hsz hk => wpAny_pyIter_enum he ?_
    have I2 : Inv X pins σ H1 { s1 with heap := h' } := I1.kept (t' := s1.toks) hk
    refine ⟨s1.heap.objs.size + 1, [s1.heap.objs.size + 1, s1.heap.objs.size], _, _, H1, rfl, I2, turn_enumT a (s1.heap.objs.size + 1) s1.heap.objs.size, ⟨⟨.none, he⟩, hit, Nat.succ_ne_self _⟩, fun b hb => ?_, q⟩
    have e' : b = s1.heap.objs.size + 1 ∨ b = s1.heap.objs.size := by simpa using hb
    have hle : s1.heap.objs.size ≤ b := by
      rcases e' with z | z
      · rw [z]; exact Nat.le_add_right _ _
      · rw [z]; exact Nat.le_refl _
    exact I1.fpOk hle (I1.hok.fresh hle)
theorem walk_enumT {K : PySem.W.Frag} {a : Addr} {xs : List V} : Walk (IteT K a) xs.length (fun H => SqT K H a xs) (YPair (fun i => some (.int (i : Nat))) (fun i => xs[i]?)) := by
  refine ⟨fun i _ hi q => ⟨xs, xs[i], q, by simp [hi]⟩, fun _ q => ⟨xs, q, rfl⟩, fun i H v H' _ q y => ?_⟩
  obtain ⟨T, x, h1, h2, h3, h4⟩ := y
  exact ⟨T, .int (i : Nat), x, h1, h2, h3, rfl, h4 xs q⟩
theorem walk_zipT {K : PySem.W.Frag} {a b : Addr} {xs ys : List V} {n : Nat} (hn : n = min xs.length ys.length) : Walk (RZ.ItzT K a b) n (fun H => SqT K H a xs ∧ SqT K H b ys) (YPair (fun i => xs[i]?) (fun i => ys[i]?)) := by
  subst hn
  refine ⟨fun i _ hi q => ?_, fun _ q => ⟨xs, ys, q.1, q.2, by omega⟩, fun i H v H' _ q y => ?_⟩
  · have h1 : i < xs.length := by omega
    have h2 : i < ys.length := by omega
    exact ⟨xs, ys, xs[i], ys[i], q.1, q.2, by simp [h1], by simp [h2]⟩
  · obtain ⟨T, x, z, h1, h2, h3, h4, h5⟩ := y
    exact ⟨T, x, z, h1, h2, h3, h4 xs q.1, h5 ys q.2⟩
end L2

set_option Elab.async false
set_option linter.all false
set_option maxRecDepth 100000
set_option maxHeartbeats 4000000
/-! Rv9: targets, what is walked, comprehensions. -/
namespace Rv
open PySem PySem.Spec PyProof.Rows L2

/-! ### steps by what is owned -/
structure Stp (O : Addr → Prop) (F H : Hp) (O' : Addr → Prop) (F' H' : Hp) : Prop where
  keep : ∀ b o, H b = some o → ¬ O b → H' b = some o
  kf : ∀ b, H b ≠ none → ¬ O b → F' b = F b
  there : ∀ b, H b ≠ none → H' b ≠ none
  owl : ∀ b, O' b → O b
  sub : Same F F'
section
variable {O O' O'' : Addr → Prop} {F H F' H' F'' H'' : Hp} {p : Pm} {env env' env2 : En} {σ σ2 : L2.St}
theorem Stp.refl : Stp O F H O F H := ⟨fun _ _ h _ => h, fun _ _ _ => rfl, fun _ h => h, fun _ h => h, Same.refl F⟩
theorem Stp.trans (a : Stp O F H O' F' H') (b : Stp O' F' H' O'' F'' H'') : Stp O F H O'' F'' H'' :=
  ⟨fun c o h n => b.keep c o (a.keep c o h n) fun z => n (a.owl c z), fun c h n => (b.kf c (a.there c h) fun z => n (a.owl c z)).trans (a.kf c h n), fun c h => b.there c (a.there c h), fun c z => a.owl c (b.owl c z), a.sub.trans b.sub⟩
theorem Stp.less (a : Stp O F H O' F' H') (h : ∀ b, O'' b → O' b) : Stp O F H O'' F' H' := ⟨a.keep, a.kf, a.there, fun b z => a.owl b (h b z), a.sub⟩
theorem Step.stp (s : Step env σ F H env' F' H') : Stp (Own env σ) F H (Own env' σ) F' H' := ⟨s.keep, s.kf, s.there, s.owl, s.sub⟩
theorem Stp.step (s : Stp (Own env σ) F H (Own env' σ) F' H') : Step env σ F H env' F' H' := ⟨s.keep, s.kf, s.there, s.owl, s.sub⟩
/-- at what was not there, anything may stand -/
theorem Stp.poke (a : Stp O F H O' F' H') {q : Addr} {o : HO} (hq : H q = none) : Stp O F H O' F' (upd H' q o) := by
  refine ⟨fun b x e n => ?_, a.kf, fun b e => ?_, a.owl, a.sub⟩
  · have hb : b ≠ q := ne_of_none e hq
    rw [upd_ne hb]; exact a.keep b x e n
  · have hb : b ≠ q := fun z => e (by rw [z]; exact hq)
    rw [upd_ne hb]; exact a.there b e
theorem Rel.poke (r : Rel p env σ F H) {q : Addr} {o : HO} (h0 : p.H0 q = none) (hf : F q = none) (hn : ¬ Own env σ q) : Rel p env σ F (upd H q o) := by
  refine ⟨⟨fun b u e => ?_, fun b u e n => ?_, r.hr.oldf, fun b e => ?_⟩, r.pdo, fun i l e => ?_, r.inj, r.new, r.bor, r.mub, r.len, fun i s e hd => ?_⟩
  · have hb : b ≠ q := ne_of_none e hf
    rw [upd_ne hb]; exact r.hr.sub b u e
  · have hb : b ≠ q := ne_of_none e h0
    rw [upd_ne hb]; exact r.hr.old b u e n
  · by_cases hb : b = q
    · rw [hb, upd_same]; intro z; cases z
    · rw [upd_ne hb]; exact r.hr.there b e
  · obtain ⟨a, xs, e1, e2, e3, e4⟩ := r.owo i l e
    have hb : a ≠ q := fun z => hn ⟨i, owns_held e, by rw [← z]; exact e1⟩
    exact ⟨a, xs, e1, by rw [upd_ne hb]; exact e2, e3, e4⟩
  · obtain ⟨a, e1, e2, e3, e4⟩ := r.dio i s e hd
    have hb : a ≠ q := fun z => hn ⟨i, owns_d e hd, by rw [← z]; exact e1⟩
    exact ⟨a, e1, e2, e3, by rw [upd_ne hb]; exact e4⟩
theorem Rel.alter (r : Rel p env σ F H) (hl : env2.length = σ2.length)
    (h : ∀ i, (env2[i]? = env[i]? ∧ σ2[i]? = σ[i]?) ∨ ((∀ a, p.mu ≠ some (i, a)) ∧ (env2[i]? = some .no ∨ ∃ d v, env2[i]? = some (.pd d) ∧ σ2[i]? = some (some v) ∧ Rp p.K F v d))) :
    Rel p env2 σ2 F H ∧ ∀ b, Own env2 σ2 b → Own env σ b := by
  have held : ∀ i l, heldAt env2 i = some l → heldAt env i = some l ∧ env2[i]? = env[i]? ∧ σ2[i]? = σ[i]? := fun i l e => by
    unfold heldAt at e ⊢
    rcases h i with ⟨h1, h2⟩ | ⟨_, h1 | ⟨d, v, h1, _⟩⟩
    · rw [h1] at e; exact ⟨e, h1, h2⟩
    · rw [h1] at e; cases e
    · rw [h1] at e; cases e
  have own : ∀ i a, OwnAt env2 σ2 i a → OwnAt env σ i a := fun i a ⟨o1, o2⟩ => by
    unfold ownsAt at o1
    rcases h i with ⟨h1, h2⟩ | ⟨_, h1 | ⟨d, v, h1, _⟩⟩
    · exact ⟨by unfold ownsAt; rw [← h1]; exact o1, by rw [← h2]; exact o2⟩
    · rw [h1] at o1; cases o1
    · rw [h1] at o1; cases o1
  refine ⟨⟨r.hr, fun i d e => ?_, fun i l e => ?_, fun i j a x y => r.inj i j a (own i a x) (own j a y), fun i l a e q => ?_, fun i l e => ?_, fun i a e => ?_, hl, fun i s e hd => ?_⟩, fun b ⟨i, o⟩ => ⟨i, own i b o⟩⟩
  · rcases h i with ⟨h1, h2⟩ | ⟨_, h1 | ⟨d', v, h1, h2, h3⟩⟩
    · rw [h1] at e; rw [h2]; exact r.pdo i d e
    · rw [h1] at e; cases e
    · rw [h1] at e; cases e; exact ⟨v, h2, h3⟩
  · obtain ⟨q1, _, q3⟩ := held i l e
    rw [q3]; exact r.owo i l q1
  · obtain ⟨q1, q2, q3⟩ := held i l (by unfold heldAt; rw [e]; rfl)
    exact r.new i l a (by rw [← q2]; exact e) (by rw [← q3]; exact q)
  · obtain ⟨q1, q2, q3⟩ := held i l (by unfold heldAt; rw [e]; rfl)
    rw [q3]; exact r.bor i l (by rw [← q2]; exact e)
  · obtain ⟨l, q⟩ := r.mub i a e
    rcases h i with ⟨h1, h2⟩ | ⟨h1, _⟩
    · exact ⟨l, by rw [h1]; exact q⟩
    · exact absurd e (h1 a)
  · rcases h i with ⟨h1, h2⟩ | ⟨_, h1 | ⟨d', v, h1, h2, h3⟩⟩
    · rw [h1] at e; rw [h2]; exact r.dio i s e hd
    · rw [h1] at e; cases e; cases hd
    · rw [h1] at e; cases e; cases hd

/-! ### wiped slots -/
theorem wipeE_length : ∀ (vs : List Nat), (wipeE env vs).length = env.length
  | [] => rfl
  | v :: vs => by unfold wipeE; rw [List.length_set, wipeE_length vs]
theorem wipeE_in {i : Nat} : ∀ {vs : List Nat}, i ∈ vs → i < env.length → (wipeE env vs)[i]? = some .no
  | v :: vs, h, hl => by
    unfold wipeE
    by_cases e : v = i
    · subst e
      exact List.getElem?_set_self (by rw [wipeE_length]; exact hl)
    · rw [List.getElem?_set_ne e]
      rcases List.mem_cons.mp h with z | z
      · exact absurd z.symm e
      · exact wipeE_in z hl
theorem wipeE_out {i : Nat} : ∀ {vs : List Nat}, i ∉ vs → (wipeE env vs)[i]? = env[i]?
  | [], _ => rfl
  | v :: vs, h => by
    unfold wipeE
    rw [List.getElem?_set_ne fun z => h (by rw [z]; exact List.mem_cons_self)]
    exact wipeE_out fun z => h (List.mem_cons_of_mem _ z)
theorem wipeS_in {i : Nat} : ∀ {vs : List Nat}, i ∈ vs → i < σ.length → (wipe σ vs)[i]? = some none
  | v :: vs, h, hl => by
    unfold wipe
    by_cases e : v = i
    · subst e
      exact List.getElem?_set_self (by rw [wipe_length]; exact hl)
    · rw [List.getElem?_set_ne e]
      rcases List.mem_cons.mp h with z | z
      · exact absurd z.symm e
      · exact wipeS_in z hl
theorem wipeS_out {i : Nat} : ∀ {vs : List Nat}, i ∉ vs → (wipe σ vs)[i]? = σ[i]?
  | [], _ => rfl
  | v :: vs, h => by
    unfold wipe
    rw [List.getElem?_set_ne fun z => h (by rw [z]; exact List.mem_cons_self)]
    exact wipeS_out fun z => h (List.mem_cons_of_mem _ z)
theorem wipe_eq {vs : List Nat} (hl : σ2.length = σ.length) (h : ∀ i, i ∉ vs → σ2[i]? = σ[i]?) : wipe σ2 vs = wipe σ vs := by
  refine List.ext_getElem? fun i => ?_
  by_cases hi : i ∈ vs
  · by_cases hs : i < σ.length
    · rw [wipeS_in hi hs, wipeS_in hi (by rw [hl]; exact hs)]
    · rw [List.getElem?_eq_none (by rw [wipe_length]; omega), List.getElem?_eq_none (by rw [wipe_length]; omega)]
  · rw [wipeS_out hi, wipeS_out hi]; exact h i hi
theorem restE_length {env0 : En} : ∀ (vs : List Nat), (restE env env0 vs).length = env.length
  | [] => rfl
  | v :: vs => by unfold restE; rw [List.length_set, restE_length vs]
theorem restE_in {env0 : En} (hl : env0.length = env.length) {i : Nat} : ∀ {vs : List Nat}, i ∈ vs → (restE env env0 vs)[i]? = env0[i]?
  | v :: vs, h => by
    unfold restE
    by_cases e : v = i
    · subst e
      by_cases hv : v < env.length
      · rw [List.getElem?_set_self (by rw [restE_length]; exact hv), List.getElem?_eq_getElem (by rw [hl]; exact hv), List.getD_eq_getElem?_getD, List.getElem?_eq_getElem (by rw [hl]; exact hv)]; rfl
      · rw [List.getElem?_eq_none (by rw [List.length_set, restE_length]; omega), List.getElem?_eq_none (by omega)]
    · rw [List.getElem?_set_ne e]
      rcases List.mem_cons.mp h with z | z
      · exact absurd z.symm e
      · exact restE_in hl z
theorem restE_out {env0 : En} {i : Nat} : ∀ {vs : List Nat}, i ∉ vs → (restE env env0 vs)[i]? = env[i]?
  | [], _ => rfl
  | v :: vs, h => by
    unfold restE
    rw [List.getElem?_set_ne fun z => h (by rw [z]; exact List.mem_cons_self)]
    exact restE_out fun z => h (List.mem_cons_of_mem _ z)
theorem noHeld_at {vs : List Nat} (h : noHeld env vs = true) {i : Nat} (hi : i ∈ vs) : ownsAt env i = false := by
  unfold noHeld at h
  have := List.all_eq_true.mp h i hi
  simpa using this
/-- no mutated parameter among them -/
theorem Rel.nomu (r : Rel p env σ F H) {vs : List Nat} (h : noHeld env vs = true) : ∀ i ∈ vs, ∀ a, p.mu ≠ some (i, a) := fun i hi a e => by
  obtain ⟨l, q⟩ := r.mub i a e
  have := noHeld_at h hi
  unfold ownsAt at this
  rw [q] at this; cases this
theorem Rel.wiped (r : Rel p env σ2 F H) {vs : List Nat} (hm : ∀ i ∈ vs, ∀ a, p.mu ≠ some (i, a)) (hw : wipe σ2 vs = wipe σ vs) : Rel p (wipeE env vs) (wipe σ vs) F H ∧ ∀ b, Own (wipeE env vs) (wipe σ vs) b → Own env σ2 b := by
  rw [← hw]
  refine r.alter (by rw [wipeE_length, wipe_length]; exact r.len) fun i => ?_
  by_cases hi : i ∈ vs
  · by_cases hl : i < env.length
    · exact .inr ⟨hm i hi, .inl (wipeE_in hi hl)⟩
    · have hl2 : ¬ i < σ2.length := by rw [← r.len]; exact hl
      exact .inl ⟨by rw [List.getElem?_eq_none (by rw [wipeE_length]; omega), List.getElem?_eq_none (by omega)], by rw [List.getElem?_eq_none (by rw [wipe_length]; omega), List.getElem?_eq_none (by omega)]⟩
  · exact .inl ⟨wipeE_out hi, wipeS_out hi⟩
theorem wipe_wipe {vs : List Nat} : wipe (wipe σ vs) vs = wipe σ vs := wipe_eq (wipe_length σ vs) fun i hi => wipeS_out hi
/-- the block is over: its slots as they were -/
theorem Rel.rested {env0 : En} {F0 H0 : Hp} (r : Rel p env (wipe σ vs) F H) (r0 : Rel p env0 σ F0 H0) (hs : Same F0 F) (hn : noHeld env0 vs = true) : Rel p (restE env env0 vs) σ F H ∧ ∀ b, Own (restE env env0 vs) σ b → Own env (wipe σ vs) b := by
  have hl : env0.length = env.length := by rw [r.len, r0.len, wipe_length]
  refine r.alter (by rw [restE_length, ← hl]; exact r0.len) fun i => ?_
  by_cases hi : i ∈ vs
  · have e := restE_in hl hi
    by_cases hl2 : i < env0.length
    · refine .inr ⟨r0.nomu hn i hi, ?_⟩
      rw [e]
      have hh := noHeld_at hn hi
      have ge := List.getElem?_eq_getElem hl2
      cases q : env0[i] with
      | no => exact .inl (by rw [ge, q])
      | pd d =>
        obtain ⟨v, q1, q2⟩ := r0.pdo i d (by rw [ge, q])
        exact .inr ⟨d, v, by rw [ge, q], q1, q2.mono hs⟩
      | own l => unfold ownsAt at hh; rw [ge, q] at hh; cases hh
      | bor l => unfold ownsAt at hh; rw [ge, q] at hh; cases hh
      | dic l => unfold ownsAt at hh; rw [ge, q] at hh; cases hh
      | dik l => unfold ownsAt at hh; rw [ge, q] at hh; cases hh
    · refine .inl ⟨by rw [e, List.getElem?_eq_none (by omega), List.getElem?_eq_none (by omega)], ?_⟩
      rw [List.getElem?_eq_none (by rw [← r0.len]; omega), List.getElem?_eq_none (by rw [wipe_length, ← r0.len]; omega)]
  · exact .inl ⟨restE_out hi, (wipeS_out hi).symm⟩
end

/-! ### targets -/
def TGo (p : Pm) (t : Tg) : TG := fun v σ H Q => ∃ F env d env', Rel p env σ F H ∧ Rp p.K F v d ∧ asgT t d env = some env' ∧
  ∀ σ', Rel p env' σ' F H → (∀ b, Own env' σ' b → Own env σ b) → (∀ vs, tgIn vs t = true → ∀ i, i ∉ vs → σ'[i]? = σ[i]?) → Q σ' H
def TGso (p : Pm) (t : Tg) : TGs := fun us σ H Q => ∃ F env ds env', Rel p env σ F H ∧ RpAll p.K F us ds ∧ asgL t ds env = some env' ∧
  ∀ σ', Rel p env' σ' F H → (∀ b, Own env' σ' b → Own env σ b) → (∀ vs, tgIn vs t = true → ∀ i, i ∉ vs → σ'[i]? = σ[i]?) → Q σ' H
section
variable {X : Cx} {p : Pm} {N : List Str} {raw : Scope} {pos : Pos}
theorem PG.weak {e : PySem.Expr} {t t' : TG} (h : PG X e t) (hw : ∀ v σ H Q, t' v σ H Q → t v σ H Q) : PG X e t' := ⟨fun pins s σ H v u Q I r q => h.run pins s σ H v u Q I r (hw v σ H Q q)⟩
theorem PGs.weak {e : List PySem.Expr} {t t' : TGs} (h : PGs X e t) (hw : ∀ v σ H Q, t' v σ H Q → t v σ H Q) : PGs X e t' := ⟨fun pins s σ H v u Q I r q => h.run pins s σ H v u Q I r (hw v σ H Q q)⟩
theorem Rel.setPd {env : En} {σ : L2.St} {F H : Hp} (r : Rel p env σ F H) {i : Nat} {d : D} {v : V} (hv : Rp p.K F v d) (hi : i < env.length) (hb : ∀ l, env[i]? ≠ some (.bor l)) :
    Rel p (env.set i (.pd d)) (σ.set i (some v)) F H ∧ ∀ b, Own (env.set i (.pd d)) (σ.set i (some v)) b → Own env σ b := by
  refine r.alter (by rw [List.length_set, List.length_set]; exact r.len) fun j => ?_
  by_cases e : i = j
  · subst e
    refine .inr ⟨fun a z => ?_, .inr ⟨d, v, List.getElem?_set_self hi, List.getElem?_set_self (by rw [← r.len]; exact hi), hv⟩⟩
    obtain ⟨l, q⟩ := r.mub i a z
    exact hb l q
  · exact .inl ⟨List.getElem?_set_ne e, List.getElem?_set_ne e⟩
theorem okGs_len : ∀ (t : Tg) (es : List PySem.Expr) (ds : List D) (env env' : En), okGs N raw t es = true → asgL t ds env = some env' → es.length = ds.length
  | .nil, [], [], _, _, _, _ => rfl
  | .nil, [], _ :: _, _, _, _, h => by unfold asgL at h; cases h
  | .nil, _ :: _, _, _, _, h, _ => by unfold okGs at h; cases h
  | .cons a r, [], _, _, _, h, _ => by unfold okGs at h; cases h
  | .cons a r, e :: es, [], _, _, _, h => by unfold asgL at h; cases h
  | .cons a r, e :: es, d :: ds, env, env', h, g => by
    unfold okGs at h
    unfold asgL at g
    simp only [Bool.and_eq_true] at h
    split at g
    · rename_i e1 he
      simp only [List.length_cons]
      rw [okGs_len r es ds e1 env' h.2 g]
    · cases g
  | .nm _, es, _, _, _, h, _ => by unfold okGs at h; cases es <;> cases h
  | .tup _, es, _, _, _, h, _ => by unfold okGs at h; cases es <;> cases h
theorem okGs_plain {env : Env} : ∀ (t : Tg) (es : List PySem.Expr), okGs N raw t es = true → (assignEach es env).length = es.length ∧ (assignEach es env).findIdx? (·.1) = none
  | .nil, [], _ => ⟨rfl, rfl⟩
  | .nil, _ :: _, h => by unfold okGs at h; cases h
  | .cons a r, [], h => by unfold okGs at h; cases h
  | .cons a r, e :: es, h => by
    unfold okGs at h
    simp only [Bool.and_eq_true] at h
    obtain ⟨i1, i2⟩ := okGs_plain (env := env) r es h.2
    have he : assignEach (e :: es) env = (false, assign e env) :: assignEach es env := by
      have h1 := h.1
      cases a <;> cases e <;> first | rfl | (unfold okG at h1; cases h1)
    rw [he]
    refine ⟨by simp [i1], ?_⟩
    rw [List.findIdx?_cons, i2]; rfl
  | .nm _, es, h => by unfold okGs at h; cases es <;> cases h
  | .tup _, es, h => by unfold okGs at h; cases es <;> cases h
theorem g_ok (hc : X.calm = true) (hN : X.N.Nodup) (hk : X.K = p.K) (hraw : ∀ x, locB raw x = true → Loc X.env.scope x ∧ (X.fn x = true ∨ X.env.scope.names.lookup x = some .local)) (t : Tg) :
    (∀ e, okG X.N raw t e = true → PG X e (TGo p t)) ∧ (∀ es, okGs X.N raw t es = true → PGs X es (TGso p t)) := by
  induction t with
  | nm i =>
    refine ⟨fun e h => ?_, fun es h => ?_⟩
    · unfold okG at h
      cases e <;> try cases h
      rename_i x ps
      simp only [Bool.and_eq_true] at h
      obtain ⟨n1, n2, n3⟩ := nm_at h.1
      obtain ⟨l1, l2⟩ := hraw _ h.2
      refine PG.weak (pg_name hN n1 l1 l2) fun v σ H Q ⟨F, env, d, env', r, rv, ha, q⟩ => ?_
      unfold asgT at ha
      split at ha
      · cases ha
      · rename_i s hs1 hs2
        cases ha
        have hi : i < env.length := get_lt hs2
        obtain ⟨r2, o2⟩ := r.setPd rv hi fun l z => by rw [hs2] at z; cases z; exact hs1 l rfl
        refine q _ r2 o2 fun vs hv j hj => List.getElem?_set_ne fun z => hj ?_
        unfold tgIn at hv
        rw [← z]; exact List.contains_iff_mem.mp hv
      · cases ha
    · unfold okGs at h
      cases es <;> cases h
  | tup l ih =>
    refine ⟨fun e h => ?_, fun es h => ?_⟩
    · unfold okG at h
      cases e <;> try cases h
      rename_i es k ps
      obtain ⟨i1, i2⟩ := okGs_plain (env := X.env) l es h
      refine PG.weak (pg_tup (n := es.length) hc (ih.2 es h) i1 i2) fun v σ H Q ⟨F, env, d, env', r, rv, ha, q⟩ => ?_
      cases d with
      | tuple ds' =>
        unfold asgT at ha
        cases rv with
        | tup hq hr =>
          rename_i xs a
          rw [hk]
          exact ⟨_, _, rfl, sqt_same r.hr.sub hq, by rw [hr.length, okGs_len _ _ _ _ _ h ha], F, env, ds', env', r, hr, ha, fun σ' r' o' f => q σ' r' o' fun vs hv => f vs (by unfold tgIn at hv; exact hv)⟩
      | _ => unfold asgT at ha; cases ha
    · unfold okGs at h
      cases es <;> cases h
  | nil =>
    refine ⟨fun e h => ?_, fun es h => ?_⟩
    · unfold okG at h
      cases e <;> cases h
    · cases es with
      | nil =>
        refine PGs.weak pgs_nil fun us σ H Q ⟨F, env, ds, env', r, rv, ha, q⟩ => ?_
        unfold asgL at ha
        split at ha
        · cases ha
          cases rv
          exact ⟨rfl, q σ r (fun _ z => z) fun _ _ _ _ => rfl⟩
        · rename_i z; cases z
        · cases ha
      | cons _ _ => unfold okGs at h; cases h
  | cons a b iha ihb =>
    refine ⟨fun e h => ?_, fun es h => ?_⟩
    · unfold okG at h
      cases e <;> cases h
    · cases es with
      | nil => unfold okGs at h; cases h
      | cons e es =>
        unfold okGs at h
        simp only [Bool.and_eq_true] at h
        have he : (assignEach (e :: es) X.env).map (·.2) = assign e X.env :: (assignEach es X.env).map (·.2) := by
          have h1 := h.1
          cases a <;> cases e <;> first | rfl | (unfold okG at h1; cases h1)
        refine PGs.weak (pgs_cons (iha.1 e h.1) (ihb.2 es h.2) he) fun us σ H Q ⟨F, env, ds, env', r, rv, ha, q⟩ => ?_
        cases ds with
        | nil => unfold asgL at ha; cases ha
        | cons d ds' =>
          unfold asgL at ha
          split at ha
          · rename_i e1 he1
            cases rv with
            | cons r1 rr =>
              refine ⟨_, _, rfl, F, env, d, e1, r, r1, he1, fun σ1 r2 o2 f2 => ⟨F, e1, ds', env', r2, rr, ha, fun σ2 r3 o3 f3 => q σ2 r3 (fun b z => o2 b (o3 b z)) fun vs hv i hi => ?_⟩⟩
              unfold tgIn at hv
              simp only [Bool.and_eq_true] at hv
              rw [f3 vs hv.2 i hi, f2 vs hv.1 i hi]
          · cases ha
end
end Rv

set_option Elab.async false
set_option linter.all false
set_option maxRecDepth 100000
set_option maxHeartbeats 4000000
/-! Rv10: what is walked, comprehensions. -/
namespace Rv
open PySem PySem.Spec PyProof.Rows L2

/-! ### what is walked -/
def YR (K : PySem.W.Frag) (F' : Hp) (ds : List D) (i : Nat) (H1 : Hp) (x : V) (H2 : Hp) : Prop :=
  (H2 = H1 ∧ ∃ d, ds[i]? = some d ∧ Rp K F' x d) ∨ (∃ (T : Addr) (vs : List V) (es : List D), x = .ref T ∧ H1 T = none ∧ H2 = upd H1 T (.tup vs) ∧ ds[i]? = some (.tuple es) ∧ RpAll K F' vs es)
def WalkR (K : PySem.W.Frag) (F' : Hp) (J : It) (ds : List D) : Prop :=
  ∃ (Gd : Hp → Prop) (Y : Nat → Hp → V → Hp → Prop), Walk J ds.length Gd Y ∧ (∀ H'', Same F' H'' → Gd H'') ∧ ∀ i H1 x H2, i < ds.length → Y i H1 x H2 → YR K F' ds i H1 x H2
def TI_ (p : Pm) (cl : Str → Value) (Ex : XK) (G : Genv) (m : E) : TI := fun σ H R => ∃ F env, Rel p env σ F H ∧ Po p cl Ex env σ F H (ev G m env) fun d _ F' H' => ∃ ds, itemsOf d = some ds ∧ ∀ J, WalkR p.K F' J ds → R J H'
section
variable {K : PySem.W.Frag} {F : Hp} {a b : Addr} {xs ys : List V} {ds es : List D}
theorem walkR_list (h : SqL K F a xs) (r : RpAll K F xs ds) : WalkR K F (Itl K a) ds := by
  have hl := r.length
  rw [WalkR, ← hl]
  refine ⟨fun H => SqL K H a xs, YAt xs, walk_list, fun H'' s => ?_, fun i H1 x H2 hi (y : YAt xs i H1 x H2) => .inl ⟨y.1, let ⟨d, q1, q2⟩ := r.get y.2; ⟨d, q1, q2⟩⟩⟩
  rcases h with h | h
  · exact .inl (rd_same s h)
  · exact .inr h
theorem walkR_tup (h : SqT K F a xs) (r : RpAll K F xs ds) : WalkR K F (Itt K a) ds := by
  have hl := r.length
  rw [WalkR, ← hl]
  exact ⟨fun H => SqT K H a xs, YAt xs, walk_tup, fun H'' s => sqt_same s h, fun i H1 x H2 hi (y : YAt xs i H1 x H2) => .inl ⟨y.1, let ⟨d, q1, q2⟩ := r.get y.2; ⟨d, q1, q2⟩⟩⟩
theorem rngD_length (lo hi : Int) : (rngD lo hi).length = (hi - lo).toNat := by unfold rngD; rw [List.length_map, List.length_range]
theorem walkR_range {lo hi : Int} : WalkR K F (Itr lo (hi - lo).toNat) (rngD lo hi) := by
  refine ⟨fun _ => True, YFn fun i => .int (lo + i), by rw [rngD_length]; exact walk_range, fun _ _ => trivial, fun i H1 x H2 hi (y : YFn (fun i => V.int (lo + i)) i H1 x H2) => .inl ⟨y.1, .int (lo + (i : Int)), ?_, by rw [y.2]; exact .int _⟩⟩
  rw [rngD_length] at hi
  unfold rngD
  rw [List.getElem?_map, List.getElem?_range hi]; rfl
theorem zip_get {i : Nat} {x y : D} (h1 : ds[i]? = some x) (h2 : es[i]? = some y) : (List.zipWith (fun d e => PyData.tuple [d, e]) ds es)[i]? = some (.tuple [x, y]) := by
  rw [List.getElem?_zipWith, h1, h2]
theorem pairR {n : Nat} {fx fy : Nat → Option V} {i : Nat} {H1 H2 : Hp} {v : V} {J : List D} (y : YPair fx fy i H1 v H2) (h : ∀ x z, fx i = some x → fy i = some z → ∃ d e, J[i]? = some (.tuple [d, e]) ∧ Rp K F x d ∧ Rp K F z e) : YR K F J i H1 v H2 := by
  obtain ⟨T, x, z, h1, h2, h3, h4, h5⟩ := y
  obtain ⟨d, e, q1, q2, q3⟩ := h x z h4 h5
  exact .inr ⟨T, [x, z], [d, e], h1, h2, h3, q1, .cons q2 (.cons q3 .nil)⟩
theorem walkR_zip (h1 : SqL K F a xs) (h2 : SqL K F b ys) (r1 : RpAll K F xs ds) (r2 : RpAll K F ys es) : WalkR K F (Itz K a b) (List.zipWith (fun d e => PyData.tuple [d, e]) ds es) := by
  refine ⟨_, _, walk_zip (xs := xs) (ys := ys) (by rw [List.length_zipWith, r1.length, r2.length]), fun H'' s => ⟨?_, ?_⟩, fun i H1 x H2 hi y => pairR (n := 0) y fun x z e1 e2 => ?_⟩
  · rcases h1 with h | h; exact .inl (rd_same s h); exact .inr h
  · rcases h2 with h | h; exact .inl (rd_same s h); exact .inr h
  · obtain ⟨d, q1, q2⟩ := r1.get e1
    obtain ⟨e, q3, q4⟩ := r2.get e2
    exact ⟨d, e, zip_get q1 q3, q2, q4⟩
theorem walkR_zipT (h1 : SqT K F a xs) (h2 : SqT K F b ys) (r1 : RpAll K F xs ds) (r2 : RpAll K F ys es) : WalkR K F (RZ.ItzT K a b) (List.zipWith (fun d e => PyData.tuple [d, e]) ds es) := by
  refine ⟨_, _, walk_zipT (xs := xs) (ys := ys) (by rw [List.length_zipWith, r1.length, r2.length]), fun H'' s => ⟨sqt_same s h1, sqt_same s h2⟩, fun i H1 x H2 hi y => pairR (n := 0) y fun x z e1 e2 => ?_⟩
  obtain ⟨d, q1, q2⟩ := r1.get e1
  obtain ⟨e, q3, q4⟩ := r2.get e2
  exact ⟨d, e, zip_get q1 q3, q2, q4⟩
theorem enum_get {i : Nat} {x : D} (h1 : ds[i]? = some x) : (List.zipWith (fun (k : Nat) e => PyData.tuple [.int (k : Int), e]) (List.range ds.length) ds)[i]? = some (.tuple [.int (i : Int), x]) := by
  have hi : i < ds.length := (List.getElem?_eq_some_iff.mp h1).1
  rw [List.getElem?_zipWith, h1, List.getElem?_range hi]
theorem walkR_enum (h1 : SqL K F a xs) (r1 : RpAll K F xs ds) : WalkR K F (Ite K a) (List.zipWith (fun (k : Nat) e => PyData.tuple [.int (k : Int), e]) (List.range ds.length) ds) := by
  refine ⟨fun H => SqL K H a xs, YPair (fun i => some (.int (i : Nat))) (fun i => xs[i]?), ?_, fun H'' s => ?_, fun i H1 x H2 hi y => pairR (n := 0) y fun x z e1 e2 => ?_⟩
  · have e : (List.zipWith (fun (k : Nat) e => PyData.tuple [.int (k : Int), e]) (List.range ds.length) ds).length = xs.length := by rw [List.length_zipWith, List.length_range, Nat.min_self, r1.length]
    rw [e]; exact walk_enum
  · rcases h1 with h | h; exact .inl (rd_same s h); exact .inr h
  · obtain ⟨d, q1, q2⟩ := r1.get e2
    cases e1
    exact ⟨_, d, enum_get q1, .int _, q2⟩
theorem walkR_enumT (h1 : SqT K F a xs) (r1 : RpAll K F xs ds) : WalkR K F (IteT K a) (List.zipWith (fun (k : Nat) e => PyData.tuple [.int (k : Int), e]) (List.range ds.length) ds) := by
  refine ⟨fun H => SqT K H a xs, YPair (fun i => some (.int (i : Nat))) (fun i => xs[i]?), ?_, fun H'' s => ?_, fun i H1 x H2 hi y => pairR (n := 0) y fun x z e1 e2 => ?_⟩
  · have e : (List.zipWith (fun (k : Nat) e => PyData.tuple [.int (k : Int), e]) (List.range ds.length) ds).length = xs.length := by rw [List.length_zipWith, List.length_range, Nat.min_self, r1.length]
    rw [e]; exact walk_enumT
  · exact sqt_same s h1
  · obtain ⟨d, q1, q2⟩ := r1.get e2
    cases e1
    exact ⟨_, d, enum_get q1, .int _, q2⟩
end
section
variable {X : Cx} {p : Pm} {cl : Str → Value} {Ex : XK} {G : Genv} {CX : CXT} {sc : Scope} {m a b : E} {e ea eb tg : PySem.Expr} {pos p1 : Pos}
theorem PI.weak {t t' : TI} (h : PI X tg e t) (hw : ∀ σ H Q, t' σ H Q → t σ H Q) : PI X tg e t' := ⟨fun pins s σ H Q I q => h.run pins s σ H Q I (hw σ H Q q)⟩
theorem i_seq (C : Cxt p G cl CX Ex sc X) (ha : PE X e (TR p cl Ex G m)) : PI X tg e (TI_ p cl Ex G m) := by
  refine ⟨fun pins s σ H R I h => ?_⟩
  obtain ⟨F, env, r, q⟩ := h
  cases hev : ev G m env with
  | bot => rw [hev] at q; exact q.elim
  | exc c =>
    rw [hev] at q
    exact (pi_list ha).run pins s σ H R I ⟨F, env, r, by rw [hev]; exact q⟩
  | ok dd =>
    obtain ⟨d, env'⟩ := dd
    rw [hev] at q
    cases d with
    | list l =>
      refine (pi_list ha).run pins s σ H R I ⟨F, env, r, ?_⟩
      rw [hev]
      intro F' H' r' s' v hv
      obtain ⟨ds, e1, q'⟩ := q F' H' r' s'
      cases e1
      cases hv with
      | lst hq hr =>
        rename_i a xs
        rw [C.k]
        exact ⟨_, rfl, ⟨xs, sql_same r'.hr.sub hq⟩, q' _ (walkR_list hq hr)⟩
    | tuple l =>
      refine (pi_tup ha).run pins s σ H R I ⟨F, env, r, ?_⟩
      rw [hev]
      intro F' H' r' s' v hv
      obtain ⟨ds, e1, q'⟩ := q F' H' r' s'
      cases e1
      cases hv with
      | tup hq hr =>
        rename_i a xs
        rw [C.k]
        exact ⟨_, rfl, ⟨xs, sqt_same r'.hr.sub hq⟩, q' _ (walkR_tup hq hr)⟩
    | _ =>
      refine (pi_list ha).run pins s σ H R I ⟨F, env, r, ?_⟩
      rw [hev]
      intro F' H' r' s' v hv
      obtain ⟨ds, e1, q'⟩ := q F' H' r' s'
      cases e1
theorem rngOk_of {i : Int} (h : rngOk i = true) : -(2 ^ 62) ≤ i ∧ i < 2 ^ 62 := by
  unfold rngOk at h
  simp only [Bool.and_eq_true, decide_eq_true_eq] at h
  exact h
theorem Po.map {α β : Type} {env : En} {σ : L2.St} {F H : Hp} {r : Rs (α × En)} {g : α → β} {k : β → En → Hp → Hp → Prop} (h : Po p cl Ex env σ F H r fun d env' F' H' => k (g d) env' F' H') : Po p cl Ex env σ F H (r.bind fun q => .ok (g q.1, q.2)) k := by
  cases r with
  | ok q => obtain ⟨d, env'⟩ := q; exact h
  | exc c => exact h
  | bot => exact h
theorem ev_cons1 (hp : peekOf a = none) (env : En) : ev G (.cons a .nil) env = (ev G a env).bind fun r => .ok (.list [r.1], r.2) := by
  simp only [ev, two, hp]
  cases ev G a env with
  | ok q => rfl
  | exc c => rfl
  | bot => rfl
theorem ev_cons2 (hp : peekOf a = none) (hq : peekOf b = none) (env : En) : ev G (.cons a (.cons b .nil)) env = (two (ev G a) (ev G b) none env).bind fun r => .ok (.list [r.1.1, r.1.2], r.2) := by
  simp only [ev, two, hp, hq]
  cases ev G a env with
  | ok q =>
    simp only [Rs.bind]
    cases ev G b q.2 with
    | ok q2 => rfl
    | exc c => rfl
    | bot => rfl
  | exc c => rfl
  | bot => rfl
/-- one argument -/
theorem un_of {K : D → En → Hp → Hp → Prop} {f : D × En → Rs (D × En)} {R : List V → Hp → Prop} (hp : peekOf a = none) {env : En} {σ : L2.St} {F H : Hp} (r : Rel p env σ F H) (q : Po p cl Ex env σ F H ((ev G a env).bind f) K)
    (hR : ∀ d v env1 F1 H1, ev G a env = .ok (d, env1) → Rel p env1 σ F1 H1 → Rp p.K F1 v d → Po p cl Ex env1 σ F1 H1 (f (d, env1)) K → R [v] H1) : TAr p cl Ex G (.cons a .nil) σ H R := by
  refine ⟨F, env, r, ?_⟩
  rw [ev_cons1 hp]
  refine Po.map (g := fun d : D => PyData.list [d]) ?_
  have q' := q.bind'
  cases e : ev G a env with
  | bot => rw [e] at q'; exact q'
  | exc c => rw [e] at q'; exact q'
  | ok dd =>
    obtain ⟨d, env1⟩ := dd
    rw [e] at q'
    intro F1 H1 r1 s1
    refine ⟨[d], rfl, fun vs hv => ?_⟩
    cases hv with
    | cons h1 h2 => cases h2; exact hR _ _ _ _ _ e r1 h1 (q' F1 H1 r1 s1)
theorem bi_of {K : D → En → Hp → Hp → Prop} {f : (D × D) × En → Rs (D × En)} {R : List V → Hp → Prop} (hp : peekOf a = none) (hq : peekOf b = none) {env : En} {σ : L2.St} {F H : Hp} (r : Rel p env σ F H) (q : Po p cl Ex env σ F H ((two (ev G a) (ev G b) none env).bind f) K)
    (hR : ∀ d e v u env1 F1 H1, Rel p env1 σ F1 H1 → Rp p.K F1 v d → Rp p.K F1 u e → Po p cl Ex env1 σ F1 H1 (f ((d, e), env1)) K → R [v, u] H1) : TAr p cl Ex G (.cons a (.cons b .nil)) σ H R := by
  refine ⟨F, env, r, ?_⟩
  rw [ev_cons2 hp hq]
  refine Po.map (g := fun d : D × D => PyData.list [d.1, d.2]) (q.bind'.imp fun d env1 F1 H1 r1 s1 q1 => ⟨[d.1, d.2], rfl, fun vs hv => ?_⟩)
  cases hv with
  | cons h1 h2 => cases h2 with | cons h2 h3 => cases h3; exact hR _ _ _ _ _ _ _ r1 h1 h2 q1
theorem i_rng1 (C : Cxt p G cl CX Ex sc X) (hp : peekOf a = none) (hg : Gl X "range") (ha : PA X [ea] (TAr p cl Ex G (.cons a .nil))) (hs : starEach [ea] X.env = [(false, eval ea X.env)]) : PI X tg (.Call (.Name "range" p1) [ea] [] pos) (TI_ p cl Ex G (.rng1 a)) := by
  refine PI.weak (pi_range1 hg (C.blt _ (by decide +kernel)) ha hs) fun σ H R ⟨F, env, r, q⟩ => ?_
  unfold ev at q
  refine un_of hp r q fun d v env1 F1 H1 _ r1 rv q1 => ?_
  cases d <;> try exact q1.elim
  rename_i j _
  cases rv
  dsimp only at q1
  split at q1
  · rename_i hj
    obtain ⟨j1, j2⟩ := rngOk_of hj
    obtain ⟨ds, e1, q2⟩ := q1.now r1 (Step.refl _ _ _ _)
    cases e1
    refine ⟨j, rfl, j1, j2, ?_⟩
    have w := walkR_range (K := p.K) (F := F1) (lo := 0) (hi := j)
    rw [show j - 0 = j by omega] at w
    exact q2 _ w
  · exact q1.elim
theorem i_rng2 (C : Cxt p G cl CX Ex sc X) (hp : peekOf a = none) (hq : peekOf b = none) (hg : Gl X "range") (ha : PA X [ea, eb] (TAr p cl Ex G (.cons a (.cons b .nil)))) (hs : starEach [ea, eb] X.env = [(false, eval ea X.env), (false, eval eb X.env)]) (hs2 : starEach [eb] X.env = [(false, eval eb X.env)]) : PI X tg (.Call (.Name "range" p1) [ea, eb] [] pos) (TI_ p cl Ex G (.rng2 a b)) := by
  refine PI.weak (pi_range2 hg (C.blt _ (by decide +kernel)) ha hs hs2) fun σ H R ⟨F, env, r, q⟩ => ?_
  unfold ev at q
  refine bi_of hp hq r q fun d e v u env1 F1 H1 r1 rv ru q1 => ?_
  cases d <;> try exact q1.elim
  rename_i j
  cases e <;> try exact q1.elim
  rename_i k
  cases rv
  cases ru
  dsimp only at q1
  split at q1
  · rename_i hj
    simp only [Bool.and_eq_true] at hj
    obtain ⟨j1, j2⟩ := rngOk_of hj.1
    obtain ⟨k1, k2⟩ := rngOk_of hj.2
    obtain ⟨ds, e1, q2⟩ := q1.now r1 (Step.refl _ _ _ _)
    cases e1
    exact ⟨j, k, rfl, ⟨j1, j2, k1, k2⟩, q2 _ walkR_range⟩
  · exact q1.elim
theorem i_zip {elts : List PySem.Expr} {kk : Nat} {tpos : Pos} (C : Cxt p G cl CX Ex sc X) (hp : peekOf a = none) (hq : peekOf b = none) (hg : Gl X "zip") (ha : PA X [ea, eb] (TAr p cl Ex G (.cons a (.cons b .nil)))) (hs : starEach [ea, eb] X.env = (false, eval ea X.env) :: starEach [eb] X.env) (hs2 : ((backTo pos (starEach [eb] X.env)).any fun x => x.fst) = false) : PI X (.Tuple elts kk tpos) (.Call (.Name "zip" p1) [ea, eb] [] pos) (TI_ p cl Ex G (.zip a b)) := by
  refine PI.weak (RZ.pi_zipA hg (C.blt _ (by decide +kernel)) ha hs hs2) fun σ H R ⟨F, env, r, q⟩ => ?_
  unfold ev at q
  refine bi_of hp hq r q fun d e v u env1 F1 H1 r1 rv ru q1 => ?_
  cases d <;> try exact q1.elim
  · cases e <;> try exact q1.elim
    obtain ⟨ds, e1, q2⟩ := q1.now r1 (Step.refl _ _ _ _)
    cases e1
    cases rv with
    | lst hq1 hr1 =>
      cases ru with
      | lst hq2 hr2 =>
        rw [C.k]
        exact ⟨_, _, _, _, rfl, .inl ⟨sql_same r1.hr.sub hq1, sql_same r1.hr.sub hq2, q2 _ (walkR_zip hq1 hq2 hr1 hr2)⟩⟩
  · cases e <;> try exact q1.elim
    obtain ⟨ds, e1, q2⟩ := q1.now r1 (Step.refl _ _ _ _)
    cases e1
    cases rv with
    | tup hq1 hr1 =>
      cases ru with
      | tup hq2 hr2 =>
        rw [C.k]
        exact ⟨_, _, _, _, rfl, .inr ⟨sqt_same r1.hr.sub hq1, sqt_same r1.hr.sub hq2, q2 _ (walkR_zipT hq1 hq2 hr1 hr2)⟩⟩
theorem i_enum {elts : List PySem.Expr} {kk : Nat} {tpos : Pos} (C : Cxt p G cl CX Ex sc X) (hp : peekOf a = none) (hg : Gl X "enumerate") (ha : PA X [ea] (TAr p cl Ex G (.cons a .nil))) (hs : starEach [ea] X.env = [(false, eval ea X.env)]) : PI X (.Tuple elts kk tpos) (.Call (.Name "enumerate" p1) [ea] [] pos) (TI_ p cl Ex G (.enum a)) := by
  have hm := C.blt "enumerate" (by decide +kernel)
  refine ⟨fun pins s σ H R I h => ?_⟩
  obtain ⟨F, env, r, q⟩ := h
  unfold ev at q
  by_cases hk : ∃ l env1, ev G a env = .ok (.tuple l, env1)
  · obtain ⟨l, env0, hev⟩ := hk
    refine (pi_enumT (elts := elts) (kk := kk) (tpos := tpos) hg hm ha hs).run pins s σ H R I (un_of hp r q fun d v env1 F1 H1 e r1 rv q1 => ?_)
    rw [hev] at e; cases e
    obtain ⟨ds, e1, q2⟩ := q1.now r1 (Step.refl _ _ _ _)
    cases e1
    cases rv with
    | tup hq1 hr1 =>
      rw [C.k]
      exact ⟨_, _, rfl, sqt_same r1.hr.sub hq1, q2 _ (walkR_enumT hq1 hr1)⟩
  · refine (pi_enum (elts := elts) (kk := kk) (tpos := tpos) hg hm ha hs).run pins s σ H R I (un_of hp r q fun d v env1 F1 H1 e r1 rv q1 => ?_)
    cases d <;> try exact q1.elim
    · obtain ⟨ds, e1, q2⟩ := q1.now r1 (Step.refl _ _ _ _)
      cases e1
      cases rv with
      | lst hq1 hr1 =>
        rw [C.k]
        exact ⟨_, _, rfl, sql_same r1.hr.sub hq1, q2 _ (walkR_enum hq1 hr1)⟩
    · exact absurd ⟨_, _, e⟩ hk

/-! ### comprehensions -/
def tC (p : Pm) (cl : Str → Value) (Ex : XK) (G : Genv) (m : E) : TT := fun σ H Q => ∃ F env, Rel p env σ F H ∧ Po p cl Ex env σ F H (condF (isNil m) (ev G m) env) fun d _ _ H' => ∃ k, tru d = some k ∧ Q k H'
theorem tC_nil (h : isNil m = true) : PTs X [] (tC p cl Ex G m) := ⟨fun pins s σ H Q I ⟨F, env, r, q⟩ => pts_nil.run pins s σ H Q I (by
  rw [h] at q
  obtain ⟨k, e, q'⟩ := (show Po p cl Ex env σ F H (.ok (PyData.bool true, env)) _ from q).now r (Step.refl _ _ _ _)
  cases e
  exact q')⟩
theorem tC_one (h : isNil m = false) (ha : PT X e (TT_ p cl Ex G m)) : PTs X [e] (tC p cl Ex G m) := ⟨fun pins s σ H Q I ⟨F, env, r, q⟩ => (pts_one ha).run pins s σ H Q I ⟨F, env, r, by rw [h] at q; exact q⟩⟩
theorem cgo_noexc {asg : D → En → Option En} {cond elt : En → Rs (D × En)} {vs : List Nat} : ∀ (xs : List D) (env : En) (acc : List D) (c : Str), cgo asg cond elt vs xs env acc ≠ .exc c
  | [], env, acc, c => by unfold cgo; intro z; cases z
  | x :: xs, env, acc, c => by
    unfold cgo
    split
    · intro z; cases z
    · rename_i e1 _
      cases cond e1 with
      | exc c => intro z; cases z
      | bot => intro z; cases z
      | ok r =>
        simp only [Rs.nox, Rs.bind]
        split
        · cases elt r.2 with
          | exc c => intro z; cases z
          | bot => intro z; cases z
          | ok q => exact cgo_noexc xs _ _ c
        · exact cgo_noexc xs _ _ c
        · intro z; cases z
theorem cgo_cons {asg : D → En → Option En} {cond elt : En → Rs (D × En)} {vs : List Nat} {x : D} {xs : List D} {env : En} {acc : List D} {out : List D × En} (h : cgo asg cond elt vs (x :: xs) env acc = .ok out) :
    ∃ e1 c e2 k, asg x env = some e1 ∧ cond e1 = .ok (c, e2) ∧ tru c = some k ∧ (k = true → ∃ y e3, elt e2 = .ok (y, e3) ∧ cgo asg cond elt vs xs (wipeE e3 vs) (acc ++ [y]) = .ok out) ∧ (k = false → cgo asg cond elt vs xs (wipeE e2 vs) acc = .ok out) := by
  unfold cgo at h
  split at h
  · cases h
  · rename_i e1 h1
    cases h2 : cond e1 with
    | exc c => rw [h2] at h; cases h
    | bot => rw [h2] at h; cases h
    | ok r =>
      obtain ⟨c, e2⟩ := r
      rw [h2] at h
      simp only [Rs.nox, Rs.bind] at h
      split at h
      · rename_i ht
        refine ⟨e1, c, e2, true, h1, h2, ht, fun _ => ?_, fun z => Bool.noConfusion z⟩
        cases h3 : elt e2 with
        | exc c => rw [h3] at h; cases h
        | bot => rw [h3] at h; cases h
        | ok q => obtain ⟨y, e3⟩ := q; rw [h3] at h; exact ⟨y, e3, rfl, h⟩
      · rename_i ht
        exact ⟨e1, c, e2, false, h1, h2, ht, fun z => Bool.noConfusion z, fun _ => h⟩
      · cases h
mutual
theorem asgT_len : ∀ {t : Tg} {d : D} {env env' : En}, asgT t d env = some env' → env'.length = env.length
  | .nm i, d, env, env', h => by
    unfold asgT at h
    split at h
    · cases h
    · cases h; rw [List.length_set]
    · cases h
  | .tup l, .tuple ds, env, env', h => by unfold asgT at h; exact asgL_len h
  | .tup l, .none, env, env', h => by unfold asgT at h; cases h
  | .tup l, .bool _, env, env', h => by unfold asgT at h; cases h
  | .tup l, .int _, env, env', h => by unfold asgT at h; cases h
  | .tup l, .str _, env, env', h => by unfold asgT at h; cases h
  | .tup l, .list _, env, env', h => by unfold asgT at h; cases h
  | .tup l, .dict _, env, env', h => by unfold asgT at h; cases h
  | .nil, d, env, env', h => by unfold asgT at h; cases h
  | .cons _ _, d, env, env', h => by unfold asgT at h; cases h
theorem asgL_len : ∀ {t : Tg} {ds : List D} {env env' : En}, asgL t ds env = some env' → env'.length = env.length
  | .nil, [], env, env', h => by unfold asgL at h; cases h; rfl
  | .nil, _ :: _, env, env', h => by unfold asgL at h; cases h
  | .cons a r, [], env, env', h => by unfold asgL at h; cases h
  | .cons a r, d :: ds, env, env', h => by
    unfold asgL at h
    split at h
    · rename_i e1 he
      rw [asgL_len h, asgT_len he]
    · cases h
  | .nm _, ds, env, env', h => by unfold asgL at h; cases h
  | .tup _, ds, env, env', h => by unfold asgL at h; cases h
end
theorem YR.rel {env : En} {σ : L2.St} {F H H' : Hp} {ds : List D} {i : Nat} {x : V} {F1 : Hp} (r : Rel p env σ F H) (hs : Same F1 F) (y : YR p.K F1 ds i H x H') : ∃ F' d, Rel p env σ F' H' ∧ Stp (Own env σ) F H (Own env σ) F' H' ∧ ds[i]? = some d ∧ Rp p.K F' x d ∧ (∀ b o, H b = some o → H' b = some o) ∧ (∀ b, H b ≠ none → F' b = F b) := by
  rcases y with ⟨rfl, d, h1, h2⟩ | ⟨T, vs, es, rfl, h1, rfl, h2, h3⟩
  · exact ⟨F, d, r, .refl, h1, h2.mono hs, fun _ _ e => e, fun _ _ => rfl⟩
  · have sf : Same F (upd F T (.tup vs)) := same_upd (none_of_same r.hr.sub h1)
    refine ⟨upd F T (.tup vs), _, r.give h1, (Step.give r.hr.sub h1).stp, h2, .tup (SqT.of upd_same) (h3.mono (hs.trans sf)), fun b o e => ?_, fun b e => ?_⟩
    · rw [upd_ne (ne_of_none e h1)]; exact e
    · rw [upd_ne fun z => e (by rw [z]; exact h1)]
theorem lc_core' {elt : E} {tg : Tg} {it cond : E} {own : List (Str × Nat)} {σ : L2.St} {H : Hp} {Q : VK} (htg : tgIn (own.map (·.2)) tg = true)
    (h : TB p cl Ex G (.lc elt tg it cond own) σ H Q) : tLc (TI_ p cl Ex G it) (TGo p tg) (tC p cl (fun _ _ _ => False) G cond) (TR p cl (fun _ _ _ => False) G elt) (own.map (·.2)) σ H Q := by
  obtain ⟨F, env, r, q⟩ := h
  unfold ev at q
  generalize hvs : own.map (·.2) = vs at q htg ⊢
  refine ⟨F, env, r, q.bind'.imp fun d env1 F1 H1 r1 s1 q1 => ?_⟩
  cases hds : itemsOf d with
  | none => dsimp only at q1; rw [hds] at q1; exact q1.elim
  | some ds =>
  refine ⟨ds, rfl, fun J wk D hD => ?_⟩
  dsimp only at q1
  rw [hds] at q1
  dsimp only at q1
  split at q1
  case isFalse => exact q1.elim
  rename_i hif
  simp only [Bool.and_eq_true, decide_eq_true_eq] at hif
  obtain ⟨hnh, hlen⟩ := hif
  have hmu := r1.nomu hnh
  cases hcg : cgo (asgT tg) (condF (isNil cond) (ev G cond)) (ev G elt) vs ds (wipeE env1 vs) [] with
  | bot => rw [hcg] at q1; exact q1.elim
  | exc c => exact absurd hcg (cgo_noexc _ _ _ _)
  | ok out =>
  obtain ⟨accF, envF⟩ := out
  rw [hcg] at q1
  replace q1 : Po p cl Ex env1 σ F1 H1 (.ok (PyData.list accF, restE envF env1 vs)) _ := q1
  obtain ⟨Gd, Y, wk, hGd, hY⟩ := wk
  have dF : F1 D = none := none_of_same r1.hr.sub hD
  have d0 : p.H0 D = none := Decidable.byContradiction fun z => r1.hr.there D z hD
  have dOwn : ¬ Own env1 σ D := r1.not_own hD
  obtain ⟨rw1, ow1⟩ := r1.wiped (σ := σ) hmu rfl
  let O0 := Own env1 σ
  refine lc_it wk (fun i H => ∃ F env acc accD, Rel p env (wipe σ vs) F H ∧ Stp (Own env1 σ) F1 H1 (Own env (wipe σ vs)) F H ∧ H D = some (.lst acc) ∧ F D = none ∧ RpAll p.K F acc accD ∧ acc.length ≤ i ∧
      cgo (asgT tg) (condF (isNil cond) (ev G cond)) (ev G elt) vs (ds.drop i) env accD = .ok (accF, envF)) ?_ ?_ ?_ ?_
  · refine ⟨F1, wipeE env1 vs, [], [], rw1.poke d0 dF (fun z => dOwn (ow1 _ z)), (Stp.refl.less ow1).poke hD, upd_same, dF, .nil, Nat.le_refl _, hcg⟩
  · intro i H _ ⟨F, env, acc, accD, r, s, _⟩
    exact hGd H (s.sub.trans r.hr.sub)
  · intro i x H H' hi ⟨F, env, acc, accD, r, s, e1, e2, e3, e4, e5⟩ hy
    obtain ⟨F2, dx, r2, s2, g1, g2, g3, g4⟩ := YR.rel r s.sub (hY i H x H' hi hy)
    have hdrop : ds.drop i = dx :: ds.drop (i + 1) := by
      have hlt := (List.getElem?_eq_some_iff.mp g1)
      obtain ⟨h1, h2⟩ := hlt
      rw [List.drop_eq_getElem_cons h1, h2]
    rw [hdrop] at e5
    obtain ⟨en1, c, en2, k, a1, a2, a3, a4, a5⟩ := cgo_cons e5
    refine ⟨F2, env, dx, en1, r2, g2, a1, fun σ2 r3 o3 f3 => ?_⟩
    have hw : wipe σ2 vs = wipe (wipe σ vs) vs := wipe_eq (by rw [← r3.len, ← r2.len]; exact asgT_len a1) (f3 vs htg)
    rw [wipe_wipe] at hw
    refine ⟨hw, F2, en1, r3, ?_⟩
    rw [a2]
    intro F3 H3 r4 s4
    have nOwn2 : ∀ {F H en τ}, (Rel p en τ F H) → (∀ b, Own en τ b → Own env1 σ b) → ¬ Own en τ D := fun _ o z => dOwn (o _ z)
    have o1 : ∀ b, Own en1 σ2 b → Own env1 σ b := fun b z => s.owl b (o3 b z)
    have S2 : Stp (Own env1 σ) F1 H1 (Own en1 σ2) F2 H' := (s.trans s2).less o3
    have S3 : Stp (Own env1 σ) F1 H1 (Own en2 σ2) F3 H3 := S2.trans s4.stp
    have D2 : H' D = some (.lst acc) := g3 D _ e1
    have D3 : H3 D = some (.lst acc) := s4.keep D _ D2 fun z => dOwn (o1 _ z)
    have F3D : F3 D = none := by
      rw [s4.kf D (by rw [D2]; intro z; cases z) fun z => dOwn (o1 _ z), g4 D (by rw [e1]; intro z; cases z)]
      exact e2
    refine ⟨k, a3, ?_⟩
    cases k with
    | false =>
      rw [if_neg Bool.false_ne_true]
      obtain ⟨r5, o5⟩ := r4.wiped hmu hw
      exact ⟨F3, wipeE en2 vs, acc, accD, r5, S3.less o5, D3, F3D, e3.mono (s2.sub.trans s4.sub), Nat.le_succ_of_le e4, a5 rfl⟩
    | true =>
      rw [if_pos rfl]
      obtain ⟨y, en3, b1, b2⟩ := a4 rfl
      refine ⟨F3, en2, r4, ?_⟩
      rw [b1]
      intro F4 H4 r5 s5 v hv
      have S4 : Stp (Own env1 σ) F1 H1 (Own en3 σ2) F4 H4 := S3.trans s5.stp
      have D4 : H4 D = some (.lst acc) := s5.keep D _ D3 fun z => dOwn (S3.owl _ z)
      have F4D : F4 D = none := by
        rw [s5.kf D (by rw [D3]; intro z; cases z) fun z => dOwn (S3.owl _ z)]
        exact F3D
      refine ⟨acc, D4, Nat.lt_of_le_of_lt e4 (Nat.lt_of_lt_of_le hi hlen), ?_⟩
      obtain ⟨r6, o6⟩ := r5.wiped hmu hw
      exact ⟨F4, wipeE en3 vs, acc ++ [v], accD ++ [y], r6.poke d0 F4D (fun z => dOwn (S4.owl _ (o6 _ z))), (S4.less o6).poke hD, upd_same, F4D,
        (e3.mono ((s2.sub.trans s4.sub).trans s5.sub)).snoc hv, by rw [List.length_append]; exact Nat.add_le_add_right e4 1, b2⟩
  · intro H ⟨F, env, acc, accD, r, s, e1, e2, e3, e4, e5⟩
    rw [List.drop_length] at e5
    unfold cgo at e5
    cases e5
    obtain ⟨r7, o7⟩ := r.rested r1 s.sub hnh
    refine q1 F H r7 (Stp.step (s.less o7)) _ ?_
    unfold ResOk
    have hF : isFresh G (.lc elt tg it cond own) = true := rfl
    rw [hF]
    exact ⟨D, acc, rfl, e1, e2, d0, Decidable.byContradiction fun z => s1.there D z hD, fun z => dOwn (s.owl _ (o7 _ z)), e3⟩
end
end Rv

set_option Elab.async false
set_option linter.all false
set_option maxRecDepth 100000
set_option maxHeartbeats 4000000
/-! Rv10d: a walk of a dict's keys; all items of all items. -/
namespace Rv
open PySem PySem.Spec PyProof.Rows L2
/-- the keys of the dict at d -/
def Itq (d : Addr) (es : Array DictEntry) (ep : Nat) (ys : List (List Key × Addr × Value)) : It :=
  ⟨fun i H => H d = some (dicO d es ep) ∧ i < ys.length, fun i H x H' => H' = H ∧ ∃ y, ys[i]? = some y ∧ x = .ref y.2.1, fun i H => H d = some (dicO d es ep) ∧ ys.length ≤ i⟩
section
variable {P : Program} {w : World} {K : PySem.W.Frag} {tg : PySem.Expr} {d : Addr} {es : Array DictEntry} {ep : Nat} {ys : List (List Key × Addr × Value)}
theorem turn_dic (it : Addr) (he : es.toList.map (fun e => e.key) = ys.map fun y => Value.ref y.2.1) : Turn P w K tg (Itq d es ep ys) [it] it (fun i h => h.IsKeyIter it d i ys.length ep) := by
  have hsz : es.size = ys.length := by
    have := congrArg List.length he
    rwa [List.length_map, List.length_map, Array.length_toList] at this
  have one : ∀ b : Addr, b ∈ [it] → b = it := fun b hb => by simpa using hb
  refine ⟨by simp, fun i h st b hb => ?_, fun i h h' st k => st.at fun o e => k it (by simp) o e, ?_, ?_, fun A i s Q E st h => wpAny_pyIter_keyiter st h⟩
  · obtain rfl := one b hb
    obtain ⟨o, e, c, dd⟩ := st
    exact ⟨o, e, fun v z => by rw [dd] at z; cases z⟩
  · intro X hP hw hK hc i pins s σ H E I hf st hg
    subst hP hw hK
    obtain ⟨hd, hi⟩ := hg
    obtain ⟨f0, f1, f2, f3, f4, f5⟩ := hf it (by simp)
    obtain ⟨⟨⟨o, ho, hx, hdt⟩, hs⟩, _⟩ := I.hok d _ hd
    have hi' : i < es.size := by omega
    have hen : es[i]? = some es[i] := Array.getElem?_eq_getElem hi'
    have hkey : es[i].key = Value.ref ys[i].2.1 := by
      have := congrArg (fun l => l[i]?) he
      simp only [List.getElem?_map, Array.getElem?_toList, hen, List.getElem?_eq_getElem hi, Option.map_some, Option.some.injEq] at this
      exact this
    refine next_key_item st ho hdt hsz hen fun h' st' sb => ?_
    have I1 : Inv X pins σ H { s with heap := h' } := I.turned (t' := s.toks) (fun b ob hb e => (sb.2 b hb).trans e) f0 f1 f3 f4 f5
    obtain ⟨oi, e, c, dd⟩ := id st'
    exact ⟨es[i].key, rfl, go_of (s := { s with heap := h' }) e c dd (by decide) ⟨.ref ys[i].2.1, H, I1, hkey, ⟨rfl, ys[i], List.getElem?_eq_getElem hi, rfl⟩, st', fun b hb => (hf b hb).1⟩⟩
  · intro X hP hw hK hc i pins s σ H E I hf st hg
    subst hP hw hK
    obtain ⟨hd, hi⟩ := hg
    obtain ⟨f0, f1, f2, f3, f4, f5⟩ := hf it (by simp)
    obtain ⟨⟨⟨o, ho, hx, hdt⟩, hs⟩, _⟩ := I.hok d _ hd
    exact next_key_end (I.ok.hd hc) st ho hdt hsz hi fun h' eb => ⟨rfl, I.turned (t' := s.toks) (fun b ob hb e => eb b ob hb e) f0 f1 f3 f4 f5⟩
end
section
variable {X : Cx} {p : Pm} {cl : Str → Value} {Ex : XK} {G : Genv} {CX : CXT} {sc : Scope} {env env1 : En} {σ : L2.St} {F H : Hp} {i j k : Nat} {kvs : List (List Key × D)} {tg : PySem.Expr} {m it : E}
theorem rp_keys {K : PySem.W.Frag} {F : Hp} : ∀ ks : List Key, RpAll K F (ks.map kV) (ks.map kD)
  | [] => .nil
  | .inl i :: r => .cons (.int i) (rp_keys r)
  | .inr x :: r => .cons (.str x) (rp_keys r)
theorem get_paired {α β : Type} {R : α → β → Prop} {l : List α} {m : List β} (h : Paired R l m) {i : Nat} {y : β} (hy : m[i]? = some y) : ∃ x, l[i]? = some x ∧ R x y := by
  induction h generalizing i with
  | nil => cases hy
  | cons h t ih =>
    cases i with
    | zero => cases hy; exact ⟨_, rfl, h⟩
    | succ i => exact ih hy
/-- a dict that is walked is changed no more -/
theorem Rel.freezeD (r : Rel p env σ F H) (h : env[i]? = some (.dic kvs)) : ∃ a es ep ys, σ[i]? = some (some (V.ref a)) ∧ H a = some (dicO a es ep) ∧ es.toList.map (fun e => e.key) = ys.map (fun y => Value.ref y.2.1) ∧ Paired (KyR p.K (upd F a (dicO a es ep))) kvs ys ∧
    Rel p (env.set i .no) σ (upd F a (dicO a es ep)) H ∧ Step env σ F H (env.set i .no) (upd F a (dicO a es ep)) H := by
  have hi := get_lt h
  obtain ⟨a, e1, e2, e3, es, ep, ys, g1, g2, g3, g4⟩ := r.dio i _ h rfl
  have oi : OwnAt env σ i a := ⟨owns_d h rfl, e1⟩
  have hmu : ∀ b, p.mu ≠ some (i, b) := fun b z => by
    obtain ⟨l, q⟩ := r.mub i b z
    rw [h] at q; cases q
  obtain ⟨r2, o2⟩ := r.alter (env2 := env.set i .no) (σ2 := σ) (by rw [List.length_set]; exact r.len) fun j => by
    by_cases e : i = j
    · subst e; exact .inr ⟨hmu, .inl (List.getElem?_set_self hi)⟩
    · exact .inl ⟨List.getElem?_set_ne e, rfl⟩
  have hn : ¬ Own (env.set i .no) σ a := fun ⟨j, o1, o3⟩ => by
    rw [ownsAt_set hi] at o1
    by_cases e : i = j
    · rw [if_pos e] at o1; cases o1
    · rw [if_neg e] at o1; exact e (r.inj i j a oi ⟨o1, o3⟩)
  have sf : Same F (upd F a (dicO a es ep)) := same_upd e2
  refine ⟨a, es, ep, ys, e1, g1, ?_, Paired.mapP g4 fun x y ⟨q1, q2, v, q3, q4⟩ => ⟨q1, sqt_same sf q2, v, q3, q4.mono sf⟩, r2.freeze g1 e2 e3 hn, ⟨fun b u e n => e, fun b e n => ?_, fun _ e => e, o2, sf⟩⟩
  · rw [g2, List.map_map]; rfl
  · have hb : b ≠ a := fun z => n ⟨i, by rw [z]; exact oi⟩
    rw [upd_ne hb]
theorem s_dkeys {x : Str} {px : Pos} (C : Cxt p G cl CX Ex sc X) (h1 : nmB X.N i x = true) (h2 : visB sc x = true) : PI X tg (.Name x px) (TI_ p cl Ex G (.dkeys i)) := by
  obtain ⟨n1, n2, n3⟩ := nm_at h1
  refine ⟨fun pins s σ H R I ⟨F, env, r, q⟩ => ?_⟩
  unfold ev at q
  cases hk : dicAt env i with
  | none => rw [hk] at q; exact q.elim
  | some kvs =>
    rw [hk] at q
    obtain ⟨a, ys0, he, _⟩ := dic_rel C r hk
    obtain ⟨a, es, ep, ys, g1, g2, g3, g4, r2, s2⟩ := r.freezeD he
    obtain ⟨ds, e1, q'⟩ := q _ H r2 s2
    cases e1
    refine thn ((pe_var (pos := px) n1 (vis_of C.sc h2) n2 n3).run pins s σ H (fun v H2 => v = .ref a ∧ H2 = H) I ⟨_, g1, rfl, rfl⟩) fun u s1 ⟨y, H1, I1, rx, e3, e4⟩ => ?_
    subst e3; subst e4
    obtain rfl : u = Value.ref a := rx
    obtain ⟨⟨⟨o, ho, hx, hdt⟩, hs⟩, _⟩ := I1.hok a _ g2
    have hsz : es.size = ys.length := by
      have := congrArg List.length g3
      rwa [List.length_map, List.length_map, Array.length_toList] at this
    have hl : (kvs.map fun kv => PyData.tuple (kv.1.map kD)).length = ys.length := by rw [List.length_map]; exact Paired.length g4
    refine iter_keys hs ho hx hdt (pi_one (tk := s1.toks) I1 _ (turn_dic _ g3) ⟨_, Heap.get?_push_size _ rfl, rfl, by rw [hsz] <;> rfl⟩ (q' _ ?_))
    refine ⟨fun H => H a = some (dicO a es ep), fun i H x H' => H' = H ∧ ∃ y, ys[i]? = some y ∧ x = .ref y.2.1, ?_, fun H'' sm => sm a _ upd_same, fun i H1 x H2 hi ⟨y1, y, y2, y3⟩ => .inl ⟨y1, ?_⟩⟩
    · rw [hl]
      exact ⟨fun _ _ hi q => ⟨q, hi⟩, fun _ q => ⟨q, Nat.le_refl _⟩, fun _ _ _ _ _ _ y => y⟩
    · obtain ⟨kv, z1, z2, z3, _⟩ := get_paired g4 y2
      subst y3
      exact ⟨_, by rw [List.getElem?_map, z1]; rfl, .tup (by rw [← z2] at z3; exact z3) (rp_keys kv.1)⟩
/-! ### all items of all items -/
/-- over what stands in a name, a list or a tuple -/
def iEi (K : PySem.W.Frag) (j : Nat) : TI := fun σ H R => ∃ a xs, σ[j]? = some (some (V.ref a)) ∧ ((SqL K H a xs ∧ R (Itl K a) H) ∨ (SqT K H a xs ∧ R (Itt K a) H))
theorem pi_ei {e : PySem.Expr} (h : PE X e (tVar j)) : PI X tg e (iEi X.K j) := by
  refine ⟨fun pins s σ H R I ⟨a, xs, h1, q⟩ => ?_⟩
  rcases q with ⟨h2, q⟩ | ⟨h2, q⟩
  · exact (pi_list h).run pins s σ H R I ⟨_, h1, a, rfl, ⟨xs, h2⟩, q⟩
  · exact (pi_tup h).run pins s σ H R I ⟨_, h1, a, rfl, ⟨xs, h2⟩, q⟩
theorem restE_wipeE {vs : List Nat} : restE (wipeE env vs) env vs = env := by
  refine List.ext_getElem? fun i => ?_
  by_cases hi : i ∈ vs
  · exact restE_in (by rw [wipeE_length]) hi
  · rw [restE_out hi, wipeE_out hi]
theorem flat_in {K : PySem.W.Frag} {F : Hp} {x : V} {d : D} {l : List D} (r : Rp K F x d) (h : itemsOf d = some l) : ∃ a xs, x = .ref a ∧ (SqL K F a xs ∨ SqT K F a xs) ∧ RpAll K F xs l := by
  cases d with
  | list m =>
    cases h
    cases r with
    | lst q a => exact ⟨_, _, rfl, .inl q, a⟩
  | tuple m =>
    cases h
    cases r with
    | tup q a => exact ⟨_, _, rfl, .inr q, a⟩
  | _ => cases h
theorem flatD_cons {d : D} {r m : List D} (h : flatD (d :: r) = some m) : ∃ x y, itemsOf d = some x ∧ flatD r = some y ∧ m = x ++ y := by
  unfold flatD at h
  cases h1 : itemsOf d with
  | none => rw [h1] at h; cases h
  | some x =>
    cases h2 : flatD r with
    | none => rw [h1, h2] at h; cases h
    | some y => rw [h1, h2] at h; cases h; exact ⟨x, y, rfl, rfl, rfl⟩
/-- the inner walk -/
theorem inner_it {J1 : It} {n1 : Nat} {G1 : Hp → Prop} {xs : List V} {k : Nat} {σ2 : L2.St} {H4 : Hp} {D : Addr} {Nx : Hp → Prop} (w : Walk J1 n1 G1 (YAt xs)) (hk : k < σ2.length) (Pv : Nat → Hp → Prop) (h0 : Pv 0 H4) (hG : ∀ i H, Pv i H → G1 H)
    (hs : ∀ i x H, i < n1 → Pv i H → xs[i]? = some x → ∃ acc, H D = some (.lst acc) ∧ acc.length < sizeLine ∧ Pv (i + 1) (upd H D (.lst (acc ++ [x])))) (hd : ∀ H, Pv n1 H → Nx H) :
    ∃ W1 : Nat → Nat → Hp → Prop, (∃ m, W1 0 m H4) ∧ ∀ j q H, W1 j q H →
      (J1.stop j H ∧ Nx H) ∨ (J1.go j H ∧ ∃ Nx1 : Hp → Prop, (∀ H', Nx1 H' → ∃ k', k' < q ∧ W1 (j + 1) k' H') ∧ ∀ x H', J1.yld j H x H' → gName k x (wipe σ2 [k]) H' fun σ3 H5 => wipe σ3 [k] = wipe σ2 [k] ∧ tYes σ3 H5 fun b H6 =>
        if b = true then tVar k σ3 H6 fun y H7 => ∃ acc, H7 D = some (.lst acc) ∧ acc.length < sizeLine ∧ Nx1 (upd H7 D (.lst (acc ++ [y]))) else Nx1 H6) := by
  refine ⟨fun i m H => m = n1 - i ∧ i ≤ n1 ∧ Pv i H, ⟨n1, by simp, Nat.zero_le _, h0⟩, ?_⟩
  rintro i m H ⟨rfl, hi, p⟩
  have q := hG i H p
  by_cases hlt : i < n1
  · refine .inr ⟨w.goes i H hlt q, Pv (i + 1), fun H' p' => ⟨n1 - (i + 1), by omega, rfl, hlt, p'⟩, fun x H' y => ?_⟩
    obtain ⟨e1, e2⟩ : YAt xs i H x H' := w.yields i H x H' hlt q y
    subst e1
    refine ⟨?_, ?_⟩
    · show ((((σ2.set k none).set k (some x)).set k none) : L2.St) = σ2.set k none
      rw [List.set_set, List.set_set]
    · unfold tYes
      dsimp only
      rw [if_pos rfl]
      refine ⟨x, ?_, hs i x H' hlt p e2⟩
      rw [List.getElem?_set_self (by rw [wipe_length]; exact hk)]
  · have e : i = n1 := by omega
    subst e
    exact .inl ⟨w.stops H q, hd H p⟩
theorem lc_flat {K : PySem.W.Frag} (hK : K = p.K) {own : List (Str × Nat)} {Q : VK} (hj : j ∈ own.map (·.2)) (hjk : j ≠ k)
    (h : TB p cl Ex G (.flat it own j k) σ H Q) : tLc2 (TI_ p cl Ex G it) (gName j) tYes (iEi K j) (gName k) tYes (tVar k) (own.map (·.2)) [k] σ H Q := by
  subst hK
  obtain ⟨F, env, r, q⟩ := h
  unfold ev at q
  generalize hvs : own.map (·.2) = vs at q hj ⊢
  refine ⟨F, env, r, q.bind'.imp fun d env1 F1 H1 r1 s1 q1 => ?_⟩
  cases hds : itemsOf d with
  | none => dsimp only at q1; rw [hds] at q1; exact q1.elim
  | some ds =>
  refine ⟨ds, rfl, fun J wk D hD => ?_⟩
  dsimp only at q1
  rw [hds] at q1
  dsimp only at q1
  cases hm : flatD ds with
  | none => rw [hm] at q1; exact q1.elim
  | some m =>
  rw [hm] at q1
  dsimp only at q1
  split at q1
  case isFalse => exact q1.elim
  rename_i hif
  simp only [Bool.and_eq_true, decide_eq_true_eq] at hif
  obtain ⟨⟨hnh, hlen⟩, hj2, hk2⟩ := hif
  have hmu := r1.nomu hnh
  replace q1 : Po p cl Ex env1 σ F1 H1 (.ok (PyData.list m, env1)) _ := q1
  obtain ⟨Gd, Y, wk, hGd, hY⟩ := wk
  have dF : F1 D = none := none_of_same r1.hr.sub hD
  have d0 : p.H0 D = none := Decidable.byContradiction fun z => r1.hr.there D z hD
  have dOwn : ¬ Own env1 σ D := r1.not_own hD
  obtain ⟨rw1, ow1⟩ := r1.wiped (σ := σ) hmu rfl
  have hlσ : env1.length = σ.length := r1.len
  let We := wipeE env1 vs
  let Ws := wipe σ vs
  let Pv : Nat → Hp → Prop := fun i H => ∃ F acc accD rest, Rel p We Ws F H ∧ Stp (Own env1 σ) F1 H1 (Own We Ws) F H ∧ H D = some (.lst acc) ∧ F D = none ∧ RpAll p.K F acc accD ∧ flatD (ds.drop i) = some rest ∧ accD ++ rest = m
  refine ⟨fun i m H => m = ds.length - i ∧ i ≤ ds.length ∧ Pv i H, ⟨ds.length, by simp, Nat.zero_le _, F1, [], [], m, rw1.poke d0 dF (fun z => dOwn (ow1 _ z)), (Stp.refl.less ow1).poke hD, upd_same, dF, .nil, hm, rfl⟩, ?_⟩
  rintro i mm H ⟨rfl, hi, pv⟩
  obtain ⟨F, acc, accD, rest, r, s, e1, e2, e3, e4, e5⟩ := pv
  have hg : Gd H := hGd H (s.sub.trans r.hr.sub)
  by_cases hlt : i < ds.length
  · refine .inr ⟨wk.goes i H hlt hg, Pv (i + 1), fun H' p' => ⟨ds.length - (i + 1), by omega, rfl, hlt, p'⟩, fun x H' y => ?_⟩
    obtain ⟨F2, dx, r2, s2, g1, g2, g3, g4⟩ := YR.rel r s.sub (hY i H x H' hlt (wk.yields i H x H' hlt hg y))
    have hdrop : ds.drop i = dx :: ds.drop (i + 1) := by
      obtain ⟨h1, h2⟩ := List.getElem?_eq_some_iff.mp g1
      rw [List.drop_eq_getElem_cons h1, h2]
    rw [hdrop] at e4
    obtain ⟨l, rest', f1, f2, f3⟩ := flatD_cons e4
    subst f3
    obtain ⟨a, xs, rfl, hax, hxl⟩ := flat_in g2 f1
    have hw : wipe ((Ws : L2.St).set j (some (V.ref a))) vs = Ws := by
      show wipe ((wipe σ vs).set j (some (V.ref a))) vs = wipe σ vs
      refine wipe_eq (by rw [List.length_set, wipe_length]) fun b hb => ?_
      have : j ≠ b := fun z => hb (z ▸ hj)
      rw [List.getElem?_set_ne this]
      exact wipe_out hb
    refine ⟨hw, ?_⟩
    unfold tYes
    dsimp only
    rw [if_pos rfl]
    have F2D : F2 D = none := by
      rw [g4 D (by rw [e1]; intro z; cases z)]; exact e2
    let P1 : Nat → Hp → Prop := fun t H => ∃ acc accD, Rel p We Ws F2 H ∧ Stp (Own env1 σ) F1 H1 (Own We Ws) F2 H ∧ H D = some (.lst acc) ∧ RpAll p.K F2 acc accD ∧ accD ++ (l.drop t ++ rest') = m
    have p10 : P1 0 H' := ⟨acc, accD, r2, s.trans s2, g3 D _ e1, e3.mono s2.sub, by rw [List.drop_zero]; exact e5⟩
    have hxl2 := hxl.length
    have hs1 : ∀ t x H, t < xs.length → P1 t H → xs[t]? = some x → ∃ acc, H D = some (.lst acc) ∧ acc.length < sizeLine ∧ P1 (t + 1) (upd H D (.lst (acc ++ [x]))) := by
      intro t x H ht ⟨acc, accD, r3, s3, c1, c2, c3⟩ hx
      obtain ⟨dd, hdd, hrp⟩ := hxl.get hx
      have hd2 : l.drop t = dd :: l.drop (t + 1) := by
        obtain ⟨h1, h2⟩ := List.getElem?_eq_some_iff.mp hdd
        rw [List.drop_eq_getElem_cons h1, h2]
      rw [hd2] at c3
      refine ⟨acc, c1, ?_, acc ++ [x], accD ++ [dd], r3.poke d0 F2D (fun z => dOwn (s3.owl _ z)), s3.poke hD, upd_same, c2.snoc hrp, ?_⟩
      · have := congrArg List.length c3
        simp only [List.length_append, List.length_cons] at this
        rw [c2.length]
        exact Nat.lt_of_lt_of_le (by omega) hlen
      · rw [← c3]; simp
    have hd1 : ∀ H, P1 xs.length H → Pv (i + 1) H := fun H ⟨acc, accD, r3, s3, c1, c2, c3⟩ => by
      rw [hxl2, List.drop_length, List.nil_append] at c3
      exact ⟨F2, acc, accD, rest', r3, s3, c1, F2D, c2, f2, c3⟩
    have hkl : k < ((Ws : L2.St).set j (some (V.ref a))).length := by
      rw [List.length_set]; show k < (wipe σ vs).length; rw [wipe_length, ← hlσ]; exact hk2
    refine ⟨a, xs, ?_, ?_⟩
    · show ((wipe σ vs).set j (some (V.ref a)))[j]? = _
      rw [List.getElem?_set_self (by rw [wipe_length, ← hlσ]; exact hj2)]
    · rcases hax with hax | hax
      · refine .inl ⟨sql_same r2.hr.sub hax, inner_it walk_list hkl P1 p10 (fun t H ⟨_, _, r3, _⟩ => sql_same r3.hr.sub hax) hs1 hd1⟩
      · refine .inr ⟨sqt_same r2.hr.sub hax, inner_it walk_tup hkl P1 p10 (fun t H ⟨_, _, r3, _⟩ => sqt_same r3.hr.sub hax) hs1 hd1⟩
  · have e : i = ds.length := by omega
    subst e
    refine .inl ⟨wk.stops H hg, ?_⟩
    rw [List.drop_length] at e4
    cases e4
    rw [List.append_nil] at e5
    subst e5
    obtain ⟨r7, o7⟩ := r.rested r1 s.sub hnh
    have r7 : Rel p (restE (wipeE env1 vs) env1 vs) σ F H := r7
    have o7 : ∀ b, Own (restE (wipeE env1 vs) env1 vs) σ b → _ := o7
    rw [restE_wipeE] at r7 o7
    refine q1 F H r7 (Stp.step (s.less o7)) _ ?_
    unfold ResOk
    have hF : isFresh G (.flat it own j k) = true := rfl
    rw [hF]
    exact ⟨D, acc, rfl, e1, e2, d0, Decidable.byContradiction fun z => s1.there D z hD, fun z => dOwn (s.owl _ (o7 _ z)), e3⟩
theorem dikAt_some {env : En} {i : Nat} {kvs : List (Key × D)} (h : dikAt env i = some kvs) : env[i]? = some (.dik kvs) := by
  unfold dikAt at h
  split at h
  · rename_i k e; cases h; exact e
  · cases h
theorem dik_rel {kvs : List (Key × D)} (r : Rel p env σ F H) (h : dikAt env i = some kvs) : ∃ a ys, env[i]? = some (.dik kvs) ∧ σ[i]? = some (some (V.ref a)) ∧ F a = none ∧ H a = some (.dK ys) ∧ Paired (fun (x : Key × D) (y : Key × V) => x.1 = y.1 ∧ Rp p.K F y.2 x.2) kvs ys := by
  have he := dikAt_some h
  obtain ⟨a, e1, e2, e3, ys, h1, h2⟩ := r.dio i _ he rfl
  exact ⟨a, ys, he, e1, e2, h1, h2⟩
theorem keyInts_keys {K : PySem.W.Frag} {kvs : List (Key × D)} {ys : List (Key × V)} {ks : List Int} (h : keyInts kvs = some ks) (r : Paired (fun (x : Key × D) (y : Key × V) => x.1 = y.1 ∧ Rp K F y.2 x.2) kvs ys) : ys.map (·.1) = ks.map Sum.inl := by
  induction r generalizing ks with
  | nil => cases h; rfl
  | @cons x y xs ys hxy t ih =>
    obtain ⟨k, d⟩ := x
    cases k with
    | inr z => cases h
    | inl z =>
      unfold keyInts at h
      cases hk : keyInts xs with
      | none => rw [hk] at h; cases h
      | some ks' =>
        rw [hk] at h; cases h
        rw [List.map_cons, List.map_cons, ih hk, ← hxy.1]
theorem s_ksort {x : Str} {p1 px pos : Pos} (C : Cxt p G cl CX Ex sc X) (hg : Gl X "sorted") (h1 : nmB X.N i x = true) (h2 : visB sc x = true) :
    PE X (.Call (.Name "sorted" p1) [.Name x px] [] pos) (TB p cl Ex G (.ksort i)) := by
  obtain ⟨n1, n2, n3⟩ := nm_at h1
  refine PE.weak (pe_callB (call_sortedDI C.calm) hg (C.blt _ (by decide +kernel)) (by decide +kernel) (pa_cons (pe_var n1 (vis_of C.sc h2) n2 n3) pa_nil rfl) (by decide) (by decide) rfl rfl) fun σ H Q ⟨F, env, r, q⟩ => ?_
  unfold ev at q
  split at q
  · rename_i kvs hk
    split at q
    · rename_i ks hks
      split at q
      · rename_i hc
        simp only [Bool.and_eq_true, decide_eq_true_eq] at hc
        obtain ⟨a, ys, he, g1, g2, g3, g4⟩ := dik_rel r hk
        refine ⟨.ref a, g1, a, ys, ks, rfl, .inl g3, keyInts_keys hks g4, hc.2, fun ms u w1 w2 hu => ?_⟩
        have w3 : ms.Pairwise (· < ·) := by
          have nd : ms.Nodup := w1.nodup_iff.mpr hc.1
          refine (List.Pairwise.and w2 nd).imp fun {a b} h => ?_
          have := h.1; have := h.2; omega
        have e : ms = sdI ks := sdI_of w3 fun k => w1.mem_iff
        subst e
        exact (out_of r (Step.refl _ _ _ _) (Q := Q) (d := .list ((sdI ks).map PyData.int)) fun F'' H'' r2 s2 v2 hv2 => (show ∀ F'' H'', Rel p env σ F'' H'' → Step env σ F H env F'' H'' → ∀ v, ResOk true p env σ H F'' H'' v (.list ((sdI ks).map PyData.int)) → Q v H'' from q) F'' H'' r2 s2 v2 hv2).lst u _ _ rfl hu (RpAll.of_ints _)
      · exact q.elim
    · exact q.elim
  · exact q.elim
/-! ### d.update(dict(pairs)) -/
def putQ (kvs : List (Key × D)) (k : Key) (v : D) : List (Key × D) :=
  if (kvs.any fun kv => decide (kv.1 = k)) = true then kvs.map (fun kv => if kv.1 = k then (kv.1, v) else kv) else kvs ++ [(k, v)]
def mergQ (kvs more : List (Key × D)) : List (Key × D) := more.foldl (fun acc kv => putQ acc kv.1 kv.2) kvs
def pairsD : List D → Option (List (Key × D))
  | [] => some []
  | .tuple [.int i, d] :: r => (pairsD r).map ((.inl i, d) :: ·)
  | .tuple [.str x, d] :: r => (pairsD r).map ((.inr x, d) :: ·)
  | _ => none
def prsOf : D → Option (List (Key × D))
  | .list l => pairsD l
  | _ => none
def KqR (K : PySem.W.Frag) (F : Hp) (x : Key × D) (y : Key × V) : Prop := x.1 = y.1 ∧ Rp K F y.2 x.2
theorem KqR.put {K : PySem.W.Frag} {kvs : List (Key × D)} {ys : List (Key × V)} (r : Paired (KqR K F) kvs ys) (k : Key) {d : D} {v : V} (h : Rp K F v d) : Paired (KqR K F) (putQ kvs k d) (putK ys k v) := by
  have e : (kvs.any fun kv => decide (kv.1 = k)) = (ys.any fun kv => decide (kv.1 = k)) := by
    induction r with
    | nil => rfl
    | cons h t ih => rw [List.any_cons, List.any_cons, ih, h.1]
  have repl : Paired (KqR K F) (kvs.map fun kv => if kv.1 = k then (kv.1, d) else kv) (ys.map fun kv => if kv.1 = k then (kv.1, v) else kv) := by
    clear e
    induction r with
    | nil => exact .nil
    | @cons p q ps qs h1 t ih =>
      rw [List.map_cons, List.map_cons]
      refine .cons ?_ ih
      by_cases e : p.1 = k
      · rw [if_pos e, if_pos (h1.1.symm.trans e)]; exact ⟨h1.1, h⟩
      · rw [if_neg e, if_neg (fun z => e (h1.1.trans z))]; exact h1
  unfold putQ putK
  rw [e]
  split
  · exact repl
  · exact Paired.snoc r ⟨rfl, h⟩
theorem KqR.merge {K : PySem.W.Frag} {more : List (Key × D)} {ms : List (Key × V)} (r : Paired (KqR K F) more ms) : ∀ {kvs : List (Key × D)} {ys : List (Key × V)}, Paired (KqR K F) kvs ys → Paired (KqR K F) (mergQ kvs more) (mergeK ys ms) := by
  induction r with
  | nil => exact fun h => h
  | @cons p q ps qs h t ih =>
    intro kvs ys r2
    have : Paired (KqR K F) (putQ kvs p.1 p.2) (putK ys q.1 q.2) := by rw [h.1]; exact KqR.put r2 q.1 h.2
    exact ih this
theorem pairs_rp {K : PySem.W.Frag} : ∀ {ds : List D} {more : List (Key × D)} {xs : List V}, pairsD ds = some more → RpAll K F xs ds → ∃ ps ms, xs = ps.map V.ref ∧ Paired (fun p (kv : Key × V) => SqT K F p [kV kv.1, kv.2]) ps ms ∧ Paired (KqR K F) more ms
  | [], more, xs, h, r => by cases h; cases r; exact ⟨[], [], rfl, .nil, .nil⟩
  | .tuple [.int i, d] :: ds, more, xs, h, r => by
    unfold pairsD at h
    cases e : pairsD ds with
    | none => rw [e] at h; cases h
    | some m =>
      rw [e] at h; cases h
      cases r with
      | cons a t =>
        obtain ⟨ps, ms, h1, h2, h3⟩ := pairs_rp e t
        cases a with
        | tup q w =>
          cases w with
          | cons w1 w2 =>
            cases w1
            cases w2 with
            | cons w3 w4 =>
              cases w4
              exact ⟨_ :: ps, (.inl i, _) :: ms, by rw [h1]; rfl, .cons q h2, .cons ⟨rfl, w3⟩ h3⟩
  | .tuple [.str i, d] :: ds, more, xs, h, r => by
    unfold pairsD at h
    cases e : pairsD ds with
    | none => rw [e] at h; cases h
    | some m =>
      rw [e] at h; cases h
      cases r with
      | cons a t =>
        obtain ⟨ps, ms, h1, h2, h3⟩ := pairs_rp e t
        cases a with
        | tup q w =>
          cases w with
          | cons w1 w2 =>
            cases w1
            cases w2 with
            | cons w3 w4 =>
              cases w4
              exact ⟨_ :: ps, (.inr i, _) :: ms, by rw [h1]; rfl, .cons q h2, .cons ⟨rfl, w3⟩ h3⟩
  | .none :: _, _, _, h, _ => by cases h
  | .bool _ :: _, _, _, h, _ => by cases h
  | .int _ :: _, _, _, h, _ => by cases h
  | .str _ :: _, _, _, h, _ => by cases h
  | .list _ :: _, _, _, h, _ => by cases h
  | .dict _ :: _, _, _, h, _ => by cases h
  | .tuple [] :: _, _, _, h, _ => by cases h
  | .tuple [x] :: _, _, _, h, _ => by cases x <;> (unfold pairsD at h; cases h)
  | .tuple (.none :: _ :: _) :: _, _, _, h, _ => by unfold pairsD at h; cases h
  | .tuple (.bool _ :: _ :: _) :: _, _, _, h, _ => by unfold pairsD at h; cases h
  | .tuple (.list _ :: _ :: _) :: _, _, _, h, _ => by unfold pairsD at h; cases h
  | .tuple (.tuple _ :: _ :: _) :: _, _, _, h, _ => by unfold pairsD at h; cases h
  | .tuple (.dict _ :: _ :: _) :: _, _, _, h, _ => by unfold pairsD at h; cases h
  | .tuple (.int _ :: _ :: _ :: _) :: _, _, _, h, _ => by unfold pairsD at h; cases h
  | .tuple (.str _ :: _ :: _ :: _) :: _, _, _, h, _ => by unfold pairsD at h; cases h
def tKupd (i : Nat) (tv : TE) : TE := fun σ H Q => ∃ a, σ[i]? = some (some (V.ref a)) ∧ (∃ kvs, H a = some (.dK kvs)) ∧ tv σ H fun y H1 => ∃ b ks ms, y = .ref b ∧ a ≠ b ∧ H1 a = some (.dK ks) ∧ H1 b = some (.dK ms) ∧ ks.length + ms.length ≤ sizeLine ∧ Q .non (upd H1 a (.dK (mergeK ks ms)))
theorem pe_kupd {x : Str} {v : PySem.Expr} {px ap pos : Pos} {tv : TE} (hx : PE X (.Name x px) (tVar i)) (hl : (ap.endLine == pos.line) = true) (hs : starEach [v] X.env = (false, eval v X.env) :: starEach [] X.env) (hv : PE X v tv) :
    PE X (.Call (.Attribute (.Name x px) "update" ap) [v] [] pos) (tKupd i tv) := by
  have hst : backTo pos (starEach [v] X.env) = [(false, eval v X.env)] := by rw [hs]; rfl
  refine ⟨fun pins s σ H Q I ⟨a, g1, ⟨kvs0, g2⟩, q⟩ => ?_⟩
  refine wpAny_Call_method (by rfl) (by rw [hst]; rfl) hl PySem.F.plainAttrs_dict PySem.F.slot_dict_update PySem.F.type_dict_update (thn (hx.run pins s σ H (fun v H2 => v = .ref a ∧ H2 = H) I ⟨_, g1, rfl, rfl⟩) fun u s1 ⟨x, H1, I1, rx, e3, e4⟩ => ?_)
  subst e3; subst e4
  obtain rfl : u = Value.ref a := rx
  obtain ⟨_, _, _, _, dd⟩ := dk_of I1.hok g2
  refine ⟨dd.typeIs, fun b z => ?_, ?_⟩
  · cases z
    obtain ⟨ob, _, _, q1, q2, _⟩ := dd
    exact ⟨ob, q1, q2.2.1⟩
  rw [hst]
  refine Calls.callWith_builtin rfl (Calls.evalArgs_plain (Calls.spliced_cons (thn (hv.run pins s1 σ _ _ I1 q) fun iv s2 ⟨y, H2, I2, ry, b, ks, ms, e1, hab, h1, h2, h3, q2⟩ => Calls.spliced_nil ?_)))
  subst e1
  obtain rfl : iv = Value.ref b := ry
  obtain ⟨z1, m1, vs1, r1, d1⟩ := dk_of I2.hok h1
  obtain ⟨z2, m2, vs2, r2, d2⟩ := dk_of I2.hok h2
  refine call_meetsIn PySem.F.slot_dict_update d1.typeIs PySem.F.entry_dict_update (PySem.F.args_dict_update_2 _ _) (meets_dict_update (mixKind X.prog X.w) a b hab m2) ⟨vs1, vs2, d1, d2, by rw [← r1.length, ← r2.length]; exact h3, fun h' hm _ hsb => ?_⟩
  refine ⟨.non, _, d_write I2 (by rw [h1]; exact True.intro) hsb ?_ (dk_new (Nat.le_trans (length_mergeK ms ks) h3) m1 (KV.merge r2 r1) hm), rfl, q2⟩
  obtain ⟨o, _, _, ho, _⟩ := hm
  exact ⟨o, ho⟩
end
end Rv

set_option Elab.async false
set_option linter.all false
set_option maxRecDepth 100000
set_option maxHeartbeats 4000000
/-! Rv11: every expression that okE lets pass is read as ev says. -/
namespace Rv
open PySem PySem.Spec PyProof.Rows L2

theorem _root_.L2.PE.r {X : Cx} {p : Pm} {cl : Str → Value} {Ex : XK} {G : Genv} {m : E} {e : PySem.Expr} (h : PE X e (TB p cl Ex G m)) : PE X e (TR p cl Ex G m) := Rv.PE.r h
theorem _root_.L2.PE.v {X : Cx} {p : Pm} {cl : Str → Value} {Ex : XK} {G : Genv} {m : E} {e : PySem.Expr} (h : PE X e (TR p cl Ex G m)) : PE X e (TV p cl Ex G m) := Rv.PE.v h
/-! ### what the text's shape gives -/
section
variable {env : Env} {pos : Pos}
theorem star_cons {x : PySem.Expr} {xs : List PySem.Expr} (h : starred x = false) : starEach (x :: xs) env = (false, eval x env) :: starEach xs env := by
  cases x <;> first | rfl | cases h
theorem back_any {xs : List (Bool × Sem Value)} (h : xs.any (·.1) = false) : (backTo pos xs).any (·.1) = false := by
  unfold backTo
  rw [List.any_map]
  exact h
def noStar : List PySem.Expr → Bool
  | [] => true
  | x :: xs => !starred x && noStar xs
theorem noStar_any : ∀ {xs : List PySem.Expr}, noStar xs = true → (starEach xs env).any (·.1) = false
  | [], _ => rfl
  | x :: xs, h => by
    unfold noStar at h
    simp only [Bool.and_eq_true, Bool.not_eq_true'] at h
    rw [star_cons h.1, List.any_cons, noStar_any h.2]; rfl
theorem noStar_back {xs : List PySem.Expr} (h : noStar xs = true) : (backTo pos (starEach xs env)).any (·.1) = false := back_any (noStar_any h)
def plainT : PySem.Expr → Bool
  | .UnaryOp .Not _ _ => false
  | .BoolOp _ _ _ => false
  | .IfExp _ _ _ _ => false
  | .Compare _ _ _ _ => false
  | _ => true
theorem plainT_he {e : PySem.Expr} (h : plainT e = true) : ∀ whole, isTrue e env whole = (do let v ← whole; standAt e.pos; holding [v] (truthy v)) := by
  cases e <;> first | (intro whole; rfl) | cases h | skip
  rename_i op x ps
  cases op <;> first | (intro whole; rfl) | cases h
theorem plainIx_of {e : PySem.Expr} (h : plainIx e = true) : PlainIx e := by
  cases e <;> first | (intro o i; rfl) | cases h
theorem set_none {i : PySem.Expr} (h : notSetB i = true) : ∀ x, foldedSetIterable i env x = pure x := by
  intro x
  cases i <;> first | rfl | cases h
theorem relS_lookup {scope sc : Scope} {x : Str} {k : NameKind} (h : scope.names.lookup x = some k) (hk : k ≠ .free) : (relS scope sc).names.lookup x = some k := by
  show List.lookup x (scope.names.map _) = some k
  generalize scope.names = l at h
  induction l with
  | nil => cases h
  | cons y r ih =>
    obtain ⟨n, j⟩ := y
    rw [List.lookup_cons] at h
    rw [List.map_cons]
    dsimp only
    cases hb : x == n with
    | true =>
      rw [hb] at h
      cases h
      have hf : (k == NameKind.free) = false := by cases k <;> first | rfl | exact absurd rfl hk
      rw [hf, Bool.false_and, Bool.false_and, if_neg Bool.false_ne_true, List.lookup_cons, hb]
    | false =>
      rw [hb] at h
      split
      · rw [List.lookup_cons, hb]; exact ih h
      · rw [List.lookup_cons, hb]; exact ih h
end

section
variable {G : Genv} {N : List Str}
theorem okE_noStar {m : E} : ∀ {md : Md} {sc : Scope} {xs : List PySem.Expr}, okE G N m md sc (.l xs) = true → noStar xs = true := by
  induction m with
  | nil => intro md sc xs h; cases xs <;> first | rfl | cases h
  | cons a r _ ih =>
    intro md sc xs h
    cases xs with
    | nil => cases h
    | cons x xs =>
      have h : (!starred x && okE G N a md sc (.e x) && okE G N r md sc (.l xs)) = true := h
      simp only [Bool.and_eq_true] at h
      show (!starred x && noStar xs) = true
      rw [h.1.1, ih h.2]; rfl
  | peek i => intro md sc xs h; cases md <;> cases h
  | dkeys i => intro md sc xs h; cases md <;> cases h
  | _ => intro md sc xs h; cases h

/-- all that is asked of an expression -/
structure Okx (G : Genv) (N : List Str) (m : E) : Prop where
  a : ∀ {X : Cx} {p : Pm} {cl : Str → Value} {CX : CXT} {Ex : XK} {sc : Scope}, Cxt p G cl CX Ex sc X → X.N = N → ∀ e, okE G N m .pl sc (.e e) = true → PE X e (TB p cl Ex G m)
  t : ∀ {X : Cx} {p : Pm} {cl : Str → Value} {CX : CXT} {Ex : XK} {sc : Scope}, Cxt p G cl CX Ex sc X → X.N = N → ∀ e, okE G N m .pl sc (.e e) = true → PT X e (TT_ p cl Ex G m)
  w : ∀ {X : Cx} {p : Pm} {cl : Str → Value} {CX : CXT} {Ex : XK} {sc : Scope}, Cxt p G cl CX Ex sc X → X.N = N → ∀ op xs pos, okE G N m .pl sc (.e (.BoolOp op xs pos)) = true → PW X (.BoolOp op xs pos) (TT_ p cl Ex G m)
  o : ∀ {X : Cx} {p : Pm} {cl : Str → Value} {CX : CXT} {Ex : XK} {sc : Scope}, Cxt p G cl CX Ex sc X → X.N = N → ∀ e, okE G N m .pk sc (.e e) = true → Opd X p cl Ex G m e ∧ PE X e (TV p cl Ex G m)
  r : ∀ {X : Cx} {p : Pm} {cl : Str → Value} {CX : CXT} {Ex : XK} {sc : Scope}, Cxt p G cl CX Ex sc X → X.N = N → ∀ xs, okE G N m .pl sc (.l xs) = true → PA X xs (TAr p cl Ex G m)
  v : ∀ {X : Cx} {p : Pm} {cl : Str → Value} {CX : CXT} {Ex : XK} {sc : Scope}, Cxt p G cl CX Ex sc X → X.N = N → ∀ xs, okE G N m .pk sc (.l xs) = true → PA X xs (TAv p cl Ex G m)
  i : ∀ {X : Cx} {p : Pm} {cl : Str → Value} {CX : CXT} {Ex : XK} {sc : Scope}, Cxt p G cl CX Ex sc X → X.N = N → ∀ e tg (t : Tg) raw, okE G N m .it sc (.e e) = true → okG N raw t tg = true → itTg m t = true → PI X tg e (TI_ p cl Ex G m)
abbrev PropA (G : Genv) (N : List Str) (m : E) : Prop := ∀ {X : Cx} {p : Pm} {cl : Str → Value} {CX : CXT} {Ex : XK} {sc : Scope}, Cxt p G cl CX Ex sc X → X.N = N → ∀ e, okE G N m .pl sc (.e e) = true → PE X e (TB p cl Ex G m)
abbrev PropT (G : Genv) (N : List Str) (m : E) : Prop := ∀ {X : Cx} {p : Pm} {cl : Str → Value} {CX : CXT} {Ex : XK} {sc : Scope}, Cxt p G cl CX Ex sc X → X.N = N → ∀ e, okE G N m .pl sc (.e e) = true → PT X e (TT_ p cl Ex G m)
abbrev PropW (G : Genv) (N : List Str) (m : E) : Prop := ∀ {X : Cx} {p : Pm} {cl : Str → Value} {CX : CXT} {Ex : XK} {sc : Scope}, Cxt p G cl CX Ex sc X → X.N = N → ∀ op xs pos, okE G N m .pl sc (.e (.BoolOp op xs pos)) = true → PW X (.BoolOp op xs pos) (TT_ p cl Ex G m)
theorem Okx.mk1 {m : E} (hp : peekOf m = none) (hk : ∀ sc x, okE G N m .pk sc x = okE G N m .pl sc x) (hi : ∀ sc x, okE G N m .it sc x = okE G N m .pl sc x) (hl : ∀ sc xs, okE G N m .pl sc (.l xs) = false)
    (ha : PropA G N m) (ht : PropT G N m) (hw : PropW G N m) : Okx G N m where
  a := ha
  t := ht
  w := hw
  o := fun C hN e h => by
    rw [hk] at h
    have q := ha C hN e h
    exact ⟨⟨_, q.r, fun z => by rw [hp] at z; (cases z), fun _ _ _ _ z => z⟩, q.r.v⟩
  r := fun C hN xs h => by rw [hl] at h; cases h
  v := fun C hN xs h => by rw [hk, hl] at h; cases h
  i := fun C hN e tg t raw h _ _ => by
    rw [hi] at h
    exact i_seq C (ha C hN e h).r
/-- .. whose truth is that of its value -/
theorem Okx.mk2 {m : E} (hp : peekOf m = none) (hk : ∀ sc x, okE G N m .pk sc x = okE G N m .pl sc x) (hi : ∀ sc x, okE G N m .it sc x = okE G N m .pl sc x) (hl : ∀ sc xs, okE G N m .pl sc (.l xs) = false)
    (hpl : ∀ sc e, okE G N m .pl sc (.e e) = true → plainT e = true) (ha : PropA G N m) : Okx G N m :=
  Okx.mk1 hp hk hi hl ha (fun C hN e h => s_truth C (ha C hN e h).r (plainT_he (hpl _ _ h))) fun C hN op xs pos h => by
    have := hpl _ _ h
    cases this
/-- what can only be walked -/
theorem Okx.mk3 {m : E} (hp : ∀ sc x, okE G N m .pl sc x = false) (hk : ∀ sc x, okE G N m .pk sc x = false)
    (hi : ∀ {X : Cx} {p : Pm} {cl : Str → Value} {CX : CXT} {Ex : XK} {sc : Scope}, Cxt p G cl CX Ex sc X → X.N = N → ∀ e tg (t : Tg) raw, okE G N m .it sc (.e e) = true → okG N raw t tg = true → itTg m t = true → PI X tg e (TI_ p cl Ex G m)) : Okx G N m where
  a := fun _ _ _ h => by rw [hp] at h; cases h
  t := fun _ _ _ h => by rw [hp] at h; cases h
  w := fun _ _ _ _ _ h => by rw [hp] at h; cases h
  o := fun _ _ _ h => by rw [hk] at h; cases h
  r := fun _ _ _ h => by rw [hp] at h; cases h
  v := fun _ _ _ h => by rw [hk] at h; cases h
  i := hi
theorem Okx.opd {m : E} (q : Okx G N m) {X : Cx} {p : Pm} {cl : Str → Value} {CX : CXT} {Ex : XK} {sc : Scope} (C : Cxt p G cl CX Ex sc X) (hN : X.N = N) {e : PySem.Expr} (h : okE G N m .pk sc (.e e) = true) : Opd X p cl Ex G m e := (q.o C hN e h).1
theorem Okx.vw {m : E} (q : Okx G N m) {X : Cx} {p : Pm} {cl : Str → Value} {CX : CXT} {Ex : XK} {sc : Scope} (C : Cxt p G cl CX Ex sc X) (hN : X.N = N) {e : PySem.Expr} (h : okE G N m .pk sc (.e e) = true) : PE X e (TV p cl Ex G m) := (q.o C hN e h).2
theorem tuple_of {N : List Str} {raw : Scope} {t : Tg} {tg : PySem.Expr} (h : okG N raw t tg = true) (ht : itTg (.enum .nil) t = true) : ∃ es k ps, tg = .Tuple es k ps := by
  cases t <;> try cases ht
  cases tg <;> first | exact ⟨_, _, _, rfl⟩ | (unfold okG at h; cases h)

theorem okx (m : E) : Okx G N m := by
  induction m with
  | var i =>
    refine .mk2 rfl (fun _ _ => rfl) (fun _ _ => rfl) (fun _ _ => rfl) (fun sc e h => ?_) fun {X p cl CX Ex sc} C hN e h => ?_
    · cases e <;> first | rfl | cases h
    · cases e <;> try cases h
      have h : (nmB N i _ && visB sc _) = true := h
      simp only [Bool.and_eq_true] at h
      subst hN
      exact s_var C h.1 h.2
  | peek i =>
    refine ⟨fun _ _ _ h => (by cases h), fun _ _ _ h => (by cases h), fun _ _ _ _ _ h => (by cases h), fun {X p cl CX Ex sc} C hN e h => ?_, fun _ _ _ h => (by cases h), fun _ _ _ h => (by cases h), fun _ _ _ _ _ _ h => (by cases h)⟩
    cases e <;> try cases h
    have h : (nmB N i _ && visB sc _) = true := h
    simp only [Bool.and_eq_true] at h
    subst hN
    obtain ⟨n1, n2, n3⟩ := nm_at h.1
    exact ⟨⟨tVar i, pe_var n1 (vis_of C.sc h.2) n2 n3, fun _ => rfl, fun z => (by cases z)⟩, s_peek C h.1 h.2⟩
  | ci i =>
    refine .mk2 rfl (fun _ _ => rfl) (fun _ _ => rfl) (fun _ _ => rfl) (fun sc e h => ?_) fun {X p cl CX Ex sc} C hN e h => ?_
    · cases e <;> first | rfl | cases h
    · cases e <;> try cases h
      exact s_const h
  | cs i =>
    refine .mk2 rfl (fun _ _ => rfl) (fun _ _ => rfl) (fun _ _ => rfl) (fun sc e h => ?_) fun {X p cl CX Ex sc} C hN e h => ?_
    · cases e <;> first | rfl | cases h
    · cases e <;> try cases h
      exact s_const h
  | cb i =>
    refine .mk2 rfl (fun _ _ => rfl) (fun _ _ => rfl) (fun _ _ => rfl) (fun sc e h => ?_) fun {X p cl CX Ex sc} C hN e h => ?_
    · cases e <;> first | rfl | cases h
    · cases e <;> try cases h
      exact s_const h
  | cn =>
    refine .mk2 rfl (fun _ _ => rfl) (fun _ _ => rfl) (fun _ _ => rfl) (fun sc e h => ?_) fun {X p cl CX Ex sc} C hN e h => ?_
    · cases e <;> first | rfl | cases h
    · cases e <;> try cases h
      exact s_const h
  | glb n =>
    refine .mk2 rfl (fun _ _ => rfl) (fun _ _ => rfl) (fun _ _ => rfl) (fun sc e h => ?_) fun {X p cl CX Ex sc} C hN e h => ?_
    · cases e <;> first | rfl | cases h
    · cases e <;> try cases h
      have h : ((G.gnm n == _) && glB sc _ && !dbg _) = true := h
      simp only [Bool.and_eq_true, beq_iff_eq, Bool.not_eq_true'] at h
      exact s_glb C h.1.1 h.1.2 h.2
  | bin o a b iha ihb =>
    refine .mk2 rfl (fun _ _ => rfl) (fun _ _ => rfl) (fun _ _ => rfl) (fun sc e h => ?_) fun {X p cl CX Ex sc} C hN e h => ?_
    · cases e <;> first | rfl | cases h
    · cases e <;> try cases h
      rename_i l op r ps
      have h : ((o.op == op) && okE G N a .pk sc (.e l) && okE G N b .pk sc (.e r)) = true := h
      simp only [Bool.and_eq_true] at h
      have ho : o.op = op := by have := h.1.1; cases o <;> cases op <;> first | rfl | cases this
      subst ho
      exact s_bin C (iha.opd C hN h.1.2) (ihb.vw C hN h.2)
  | neg a iha =>
    refine .mk2 rfl (fun _ _ => rfl) (fun _ _ => rfl) (fun _ _ => rfl) (fun sc e h => ?_) fun {X p cl CX Ex sc} C hN e h => ?_
    · cases e <;> first | rfl | cases h | skip
      rename_i op _ _
      cases op <;> first | rfl | cases h
    · cases e <;> try cases h
      rename_i op x ps
      cases op <;> try cases h
      exact s_neg (iha.a C hN _ h).r
  | cmp o a b iha ihb =>
    have hh : ∀ {X : Cx} {p : Pm} {cl : Str → Value} {CX : CXT} {Ex : XK} {sc : Scope}, Cxt p G cl CX Ex sc X → X.N = N → ∀ e, okE G N (.cmp o a b) .pl sc (.e e) = true → PE X e (TB p cl Ex G (.cmp o a b)) ∧ PT X e (TT_ p cl Ex G (.cmp o a b)) := fun {X p cl CX Ex sc} C hN e h => by
      unfold okE kCmp at h
      split at h
      · rename_i z
        cases z
        simp only [Bool.and_eq_true, Bool.not_eq_true'] at h
        rename_i l op r ps
        have ho : o.op = op := by have := h.1.1.1; cases o <;> cases op <;> first | rfl | cases this
        subst ho
        exact s_cmp C h.1.1.2 (iha.opd C hN h.1.2) (ihb.vw C hN h.2)
      · cases h
    exact .mk1 rfl (fun _ _ => rfl) (fun _ _ => rfl) (fun _ _ => rfl) (fun C hN e h => (hh C hN e h).1) (fun C hN e h => (hh C hN e h).2) fun _ _ _ _ _ h => by cases h
  | chain o q a b c iha ihb ihc =>
    have hh : ∀ {X : Cx} {p : Pm} {cl : Str → Value} {CX : CXT} {Ex : XK} {sc : Scope}, Cxt p G cl CX Ex sc X → X.N = N → ∀ e, okE G N (.chain o q a b c) .pl sc (.e e) = true → PE X e (TB p cl Ex G (.chain o q a b c)) ∧ PT X e (TT_ p cl Ex G (.chain o q a b c)) := fun {X p cl CX Ex sc} C hN e h => by
      unfold okE kChain at h
      split at h
      · rename_i z
        cases z
        rename_i l op oq m r ps
        simp only [Bool.and_eq_true, Bool.not_eq_true'] at h
        obtain ⟨⟨⟨⟨⟨⟨h1, h2⟩, h3⟩, h4⟩, h5⟩, h6⟩, h7⟩ := h
        have ho : o.op = op := by cases o <;> cases op <;> first | rfl | cases h1
        have hq : q.op = oq := by cases q <;> cases oq <;> first | rfl | cases h2
        subst ho hq
        exact s_chain C h4 (iha.a C hN _ h5).r (ihb.a C hN _ h6).r (ihc.a C hN _ h7).r
      · cases h
    exact .mk1 rfl (fun _ _ => rfl) (fun _ _ => rfl) (fun _ _ => rfl) (fun C hN e h => (hh C hN e h).1) (fun C hN e h => (hh C hN e h).2) fun _ _ _ _ _ h => by cases h
  | and_ a b iha ihb =>
    have hh : ∀ {X : Cx} {p : Pm} {cl : Str → Value} {CX : CXT} {Ex : XK} {sc : Scope}, Cxt p G cl CX Ex sc X → X.N = N → ∀ e, okE G N (.and_ a b) .pl sc (.e e) = true → PE X e (TB p cl Ex G (.and_ a b)) ∧ PW X e (TT_ p cl Ex G (.and_ a b)) := fun {X p cl CX Ex sc} C hN e h => by
      unfold okE kAnd at h
      split at h
      · rename_i z
        cases z
        simp only [Bool.and_eq_true] at h
        exact ⟨s_and C (iha.a C hN _ h.1).r (ihb.a C hN _ h.2).r, w_and (iha.t C hN _ h.1) (ihb.w C hN _ _ _ h.2)⟩
      · cases h
    exact .mk1 rfl (fun _ _ => rfl) (fun _ _ => rfl) (fun _ _ => rfl) (fun C hN e h => (hh C hN e h).1) (fun C hN e h => (hh C hN e h).2.pt) fun C hN op xs pos h => (hh C hN _ h).2
  | or_ a b iha ihb =>
    have hh : ∀ {X : Cx} {p : Pm} {cl : Str → Value} {CX : CXT} {Ex : XK} {sc : Scope}, Cxt p G cl CX Ex sc X → X.N = N → ∀ e, okE G N (.or_ a b) .pl sc (.e e) = true → PE X e (TB p cl Ex G (.or_ a b)) ∧ PW X e (TT_ p cl Ex G (.or_ a b)) := fun {X p cl CX Ex sc} C hN e h => by
      unfold okE kOr at h
      split at h
      · rename_i z
        cases z
        simp only [Bool.and_eq_true] at h
        exact ⟨s_or C (iha.a C hN _ h.1).r (ihb.a C hN _ h.2).r, w_or (iha.t C hN _ h.1) (ihb.w C hN _ _ _ h.2)⟩
      · cases h
    exact .mk1 rfl (fun _ _ => rfl) (fun _ _ => rfl) (fun _ _ => rfl) (fun C hN e h => (hh C hN e h).1) (fun C hN e h => (hh C hN e h).2.pt) fun C hN op xs pos h => (hh C hN _ h).2
  | one a iha =>
    have hh : ∀ {X : Cx} {p : Pm} {cl : Str → Value} {CX : CXT} {Ex : XK} {sc : Scope}, Cxt p G cl CX Ex sc X → X.N = N → ∀ e, okE G N (.one a) .pl sc (.e e) = true → PE X e (TB p cl Ex G (.one a)) ∧ PW X e (TT_ p cl Ex G (.one a)) := fun {X p cl CX Ex sc} C hN e h => by
      unfold okE kOne at h
      split at h
      · rename_i z
        cases z
        exact ⟨s_one (iha.a C hN _ h).r, w_one (iha.t C hN _ h)⟩
      · cases h
    exact .mk1 rfl (fun _ _ => rfl) (fun _ _ => rfl) (fun _ _ => rfl) (fun C hN e h => (hh C hN e h).1) (fun C hN e h => (hh C hN e h).2.pt) fun C hN op xs pos h => (hh C hN _ h).2
  | not_ a iha =>
    have hh : ∀ {X : Cx} {p : Pm} {cl : Str → Value} {CX : CXT} {Ex : XK} {sc : Scope}, Cxt p G cl CX Ex sc X → X.N = N → ∀ e, okE G N (.not_ a) .pl sc (.e e) = true → PE X e (TB p cl Ex G (.not_ a)) ∧ PT X e (TT_ p cl Ex G (.not_ a)) := fun {X p cl CX Ex sc} C hN e h => by
      unfold okE kNot at h
      split at h
      · rename_i z
        cases z
        exact ⟨s_not C (iha.a C hN _ h).r, t_not (iha.t C hN _ h)⟩
      · cases h
    exact .mk1 rfl (fun _ _ => rfl) (fun _ _ => rfl) (fun _ _ => rfl) (fun C hN e h => (hh C hN e h).1) (fun C hN e h => (hh C hN e h).2) fun _ _ _ _ _ h => by cases h
  | ite c a b ihc iha ihb =>
    have hh : ∀ {X : Cx} {p : Pm} {cl : Str → Value} {CX : CXT} {Ex : XK} {sc : Scope}, Cxt p G cl CX Ex sc X → X.N = N → ∀ e, okE G N (.ite c a b) .pl sc (.e e) = true → PE X e (TB p cl Ex G (.ite c a b)) ∧ PT X e (TT_ p cl Ex G (.ite c a b)) := fun {X p cl CX Ex sc} C hN e h => by
      unfold okE kIte at h
      split at h
      · rename_i z
        cases z
        simp only [Bool.and_eq_true] at h
        exact ⟨s_ite (ihc.t C hN _ h.1.1) (iha.a C hN _ h.1.2).r (ihb.a C hN _ h.2).r, t_ite (ihc.t C hN _ h.1.1) (iha.t C hN _ h.1.2) (ihb.t C hN _ h.2)⟩
      · cases h
    exact .mk1 rfl (fun _ _ => rfl) (fun _ _ => rfl) (fun _ _ => rfl) (fun C hN e h => (hh C hN e h).1) (fun C hN e h => (hh C hN e h).2) fun _ _ _ _ _ h => by cases h
  | tup es ih =>
    refine .mk2 rfl (fun _ _ => rfl) (fun _ _ => rfl) (fun _ _ => rfl) (fun sc e h => ?_) fun {X p cl CX Ex sc} C hN e h => ?_
    · cases e <;> first | rfl | cases h
    · cases e <;> try cases h
      exact s_tup (ih.r C hN _ h)
  | lst es ih =>
    refine .mk2 rfl (fun _ _ => rfl) (fun _ _ => rfl) (fun _ _ => rfl) (fun sc e h => ?_) fun {X p cl CX Ex sc} C hN e h => ?_
    · cases e <;> first | rfl | cases h
    · cases e <;> try cases h
      exact s_lst (ih.r C hN _ h)
  | nil =>
    refine ⟨fun _ _ _ h => (by cases h), fun _ _ _ h => (by cases h), fun _ _ _ _ _ h => (by cases h), fun _ _ _ h => (by cases h), fun C hN xs h => ?_, fun C hN xs h => ?_, fun _ _ _ _ _ _ h => (by cases h)⟩
    · cases xs with
      | nil => exact a_nil.2
      | cons _ _ => cases h
    · cases xs with
      | nil => exact a_nil.1
      | cons _ _ => cases h
  | cons a r iha ihr =>
    refine ⟨fun _ _ _ h => (by cases h), fun _ _ _ h => (by cases h), fun _ _ _ _ _ h => (by cases h), fun _ _ _ h => (by cases h), fun {X p cl CX Ex sc} C hN xs h => ?_, fun {X p cl CX Ex sc} C hN xs h => ?_, fun _ _ _ _ _ _ h => (by cases h)⟩
    · cases xs with
      | nil => cases h
      | cons x xs =>
        have h : (!starred x && okE G N a .pl sc (.e x) && okE G N r .pl sc (.l xs)) = true := h
        simp only [Bool.and_eq_true, Bool.not_eq_true'] at h
        have hp : peekOf a = none := by
          cases a <;> first | rfl | exact absurd h.1.2 (by intro z; cases z)
        exact a_consR hp (star_cons h.1.1) (iha.a C hN _ h.1.2).r (ihr.r C hN _ h.2)
    · cases xs with
      | nil => cases h
      | cons x xs =>
        have h : (!starred x && okE G N a .pk sc (.e x) && okE G N r .pk sc (.l xs)) = true := h
        simp only [Bool.and_eq_true, Bool.not_eq_true'] at h
        exact a_consV (star_cons h.1.1) (iha.opd C hN h.1.2) (ihr.v C hN _ h.2)
  | idx a i iha ihi =>
    refine .mk2 rfl (fun _ _ => rfl) (fun _ _ => rfl) (fun _ _ => rfl) (fun sc e h => ?_) fun {X p cl CX Ex sc} C hN e h => ?_
    · cases e <;> first | rfl | cases h
    · cases e <;> try cases h
      rename_i x ix ps
      have h : (plainIx ix && okE G N a .pk sc (.e x) && okE G N i .pl sc (.e ix)) = true := h
      simp only [Bool.and_eq_true] at h
      exact s_idx C (plainIx_of h.1.1) (iha.opd C hN h.1.2) (ihi.a C hN _ h.2).r
  | sl a lo hi iha ihl ihh =>
    refine .mk2 rfl (fun _ _ => rfl) (fun _ _ => rfl) (fun _ _ => rfl) (fun sc e h => ?_) fun {X p cl CX Ex sc} C hN e h => ?_
    · cases e <;> first | rfl | cases h
    · unfold okE kSl at h
      split at h
      · rename_i z
        cases z
        rename_i x l hh ps1 ps2
        simp only [Bool.and_eq_true] at h
        refine s_sl C (iha.opd C hN h.1.1) ?_ ?_
        · have h2 := h.1.2
          cases l with
          | none => exact o_none h2
          | some e =>
            have h2 : (!isNil lo && okE G N lo .pl sc (.e e)) = true := h2
            simp only [Bool.and_eq_true, Bool.not_eq_true'] at h2
            exact o_some h2.1 (ihl.a C hN _ h2.2).r
        · have h2 := h.2
          cases hh with
          | none => exact o_none h2
          | some e =>
            have h2 : (!isNil hi && okE G N hi .pl sc (.e e)) = true := h2
            simp only [Bool.and_eq_true, Bool.not_eq_true'] at h2
            exact o_some h2.1 (ihh.a C hN _ h2.2).r
      · cases h
  | rev a iha =>
    refine .mk2 rfl (fun _ _ => rfl) (fun _ _ => rfl) (fun _ _ => rfl) (fun sc e h => ?_) fun {X p cl CX Ex sc} C hN e h => ?_
    · cases e <;> first | rfl | cases h
    · unfold okE kRev at h
      split at h
      · rename_i z
        cases z
        exact s_rev C (iha.vw C hN h)
      · cases h
  | bi bb es ih =>
    refine .mk2 rfl (fun _ _ => rfl) (fun _ _ => rfl) (fun _ _ => rfl) (fun sc e h => ?_) fun {X p cl CX Ex sc} C hN e h => ?_
    · cases e <;> first | rfl | cases h
    · unfold okE kBi at h
      split at h
      · rename_i z
        cases z
        rename_i f p1 x xs ps
        simp only [Bool.and_eq_true, beq_iff_eq] at h
        obtain ⟨⟨h1, h2⟩, h3⟩ := h
        subst h1
        have hs := okE_noStar h3
        have hs' : (!starred x && noStar xs) = true := hs
        simp only [Bool.and_eq_true, Bool.not_eq_true'] at hs'
        exact s_bi C bb (gl_of C.sc h2) (ih.v C hN _ h3) (star_cons hs'.1) (noStar_back hs'.2)
      · cases h
  | isi a t ih =>
    refine .mk2 rfl (fun _ _ => rfl) (fun _ _ => rfl) (fun _ _ => rfl) (fun sc e h => ?_) fun {X p cl CX Ex sc} C hN e h => ?_
    · cases e <;> first | rfl | cases h
    · unfold okE kIsi at h
      split at h
      · rename_i z
        cases z
        simp only [Bool.and_eq_true, beq_iff_eq, Bool.not_eq_true'] at h
        obtain ⟨⟨⟨⟨⟨h1, h2⟩, h3⟩, h4⟩, h5⟩, h6⟩ := h
        subst h1 h3
        exact s_isi C (gl_of C.sc h2) (gl_of C.sc h4) (star_cons h5) (ih.a C hN _ h6).r
      · cases h
  | call f es ih =>
    refine .mk2 rfl (fun _ _ => rfl) (fun _ _ => rfl) (fun _ _ => rfl) (fun sc e h => ?_) fun {X p cl CX Ex sc} C hN e h => ?_
    · cases e <;> first | rfl | cases h
    · unfold okE kCall at h
      split at h
      · rename_i z
        cases z
        rename_i x p1 xs ps
        simp only [Bool.and_eq_true, beq_iff_eq, Bool.not_eq_true'] at h
        obtain ⟨⟨⟨⟨h1, h2⟩, h3⟩, h4⟩, h5⟩ := h
        cases xs with
        | nil =>
          have he : es = .nil := by
            cases es <;> first | rfl | cases h5
          subst he
          exact s_call0 C h1 h2 (gl_of C.sc h3) h4
        | cons y ys =>
          have hs' : (!starred y && noStar ys) = true := okE_noStar h5
          simp only [Bool.and_eq_true, Bool.not_eq_true'] at hs'
          exact s_call C h1 h2 (gl_of C.sc h3) h4 (ih.r C hN _ h5) (star_cons hs'.1) (noStar_back hs'.2)
      · cases h
  | callm f i es ih =>
    refine .mk2 rfl (fun _ _ => rfl) (fun _ _ => rfl) (fun _ _ => rfl) (fun sc e h => ?_) fun {X p cl CX Ex sc} C hN e h => ?_
    · cases e <;> first | rfl | cases h
    · unfold okE kCallm at h
      split at h
      · rename_i z
        cases z
        simp only [Bool.and_eq_true, beq_iff_eq, Bool.not_eq_true'] at h
        obtain ⟨⟨⟨⟨⟨⟨h1, h2⟩, h3⟩, h4⟩, h5⟩, h6⟩, h7⟩ := h
        subst hN
        exact s_callm C h1 h2 (gl_of C.sc h3) h4 h5 h6 (ih.r C rfl _ h7) (noStar_back (okE_noStar h7))
      · cases h
  | lc elt tg it cond own ihe ihi ihc =>
    refine .mk2 rfl (fun _ _ => rfl) (fun _ _ => rfl) (fun _ _ => rfl) (fun sc e h => ?_) fun {X p cl CX Ex sc} C hN e h => ?_
    · cases e <;> first | rfl | cases h
    · unfold okE kLc at h
      split at h
      · rename_i z
        cases z
        rename_i e t i ifs as scope ps
        simp only [Bool.and_eq_true, beq_iff_eq] at h
        obtain ⟨⟨⟨⟨⟨⟨⟨⟨h1, h2⟩, h3⟩, h4⟩, h5⟩, h6⟩, h7⟩, h8⟩, h9⟩ := h
        subst hN h1
        have hb := blkOk_by h2
        rw [← C.sc] at hb
        have CB : ∀ (s : Shared) (H : Hp) (Cc : Addr) (cll : List (Str × Addr)) (fp : List Addr), Cxt p G cl CX (fun _ _ _ => False) (relS scope sc) (X.blk s H scope (compEnvC scope cll Cc X.env) fp) := fun s H Cc cll fp =>
          ⟨C.k, C.calm, C.nd, by rw [← C.sc]; rfl, C.un, C.glb, C.blt, fun f fs z => ⟨(C.fns f fs z).ex⟩, fun _ _ _ _ _ _ _ z => absurd z (C.cx0 _ _ _ _ _), hb.kind, C.cx0, C.hs⟩
        refine PE.weak (pe_lc C.calm C.nd (ihi.i C rfl _ _ tg scope h7 h6 h3) hb (fun s H Cc cll fp => (g_ok (CB s H Cc cll fp).calm (CB s H Cc cll fp).nd (CB s H Cc cll fp).k (fun x hx => ?_) tg).1 _ h6) (fun s H Cc cll fp => ?_) (fun s H Cc cll fp => (ihe.a (CB s H Cc cll fp) rfl _ h9).r) (set_none h4)) fun σ H Q q => lc_core' h5 q
        · show L2.Loc (relS scope X.env.scope) x ∧ ((scope.names.lookup x == some .cell) = true ∨ (relS scope X.env.scope).names.lookup x = some .local)
          unfold locB at hx
          split at hx
          · rename_i e1
            have := relS_lookup (sc := X.env.scope) e1 (by intro z; cases z)
            exact ⟨.inl this, .inr this⟩
          · rename_i e1
            have := relS_lookup (sc := X.env.scope) e1 (by intro z; cases z)
            exact ⟨.inr this, .inl (by rw [e1]; rfl)⟩
          · cases hx
        · cases ifs with
          | nil => exact tC_nil h8
          | cons c r =>
            cases r with
            | nil =>
              have h8 : (!isNil cond && okE G X.N cond .pl (relS scope sc) (.e c)) = true := h8
              simp only [Bool.and_eq_true, Bool.not_eq_true'] at h8
              exact tC_one h8.1 (ihc.t (CB s H Cc cll fp) rfl _ h8.2)
            | cons _ _ => cases h8
      · cases h
  | pop i =>
    refine .mk2 rfl (fun _ _ => rfl) (fun _ _ => rfl) (fun _ _ => rfl) (fun sc e h => ?_) fun {X p cl CX Ex sc} C hN e h => ?_
    · cases e <;> first | rfl | cases h
    · unfold okE kPop at h
      split at h
      · rename_i z
        cases z
        simp only [Bool.and_eq_true, beq_iff_eq] at h
        obtain ⟨⟨⟨h1, h2⟩, h3⟩, h4⟩ := h
        subst hN h3
        exact s_pop C h1 h2 (beq_iff_eq.mpr h4)
      · cases h
  | sset a iha =>
    refine .mk2 rfl (fun _ _ => rfl) (fun _ _ => rfl) (fun _ _ => rfl) (fun sc e h => ?_) fun {X p cl CX Ex sc} C hN e h => ?_
    · cases e <;> first | rfl | cases h
    · unfold okE kSset at h
      split at h
      · rename_i z
        cases z
        simp only [Bool.and_eq_true, beq_iff_eq, Bool.not_eq_true'] at h
        obtain ⟨⟨⟨⟨⟨h1, h2⟩, h3⟩, h4⟩, h5⟩, h6⟩ := h
        subst h1 h3
        exact s_sset C (gl_of C.sc h2) (gl_of C.sc h4) (star_cons h5) (iha.a C hN _ h6).r
      · cases h
  | meth m a b iha ihb =>
    refine .mk2 rfl (fun _ _ => rfl) (fun _ _ => rfl) (fun _ _ => rfl) (fun sc e h => ?_) fun {X p cl CX Ex sc} C hN e h => ?_
    · cases e <;> first | rfl | cases h
    · unfold okE kMeth at h
      split at h
      · rename_i z
        cases z
        simp only [Bool.and_eq_true, beq_iff_eq, Bool.not_eq_true'] at h
        obtain ⟨⟨⟨⟨⟨h1, h2⟩, h3⟩, h4⟩, h5⟩, h6⟩ := h
        subst h1
        exact s_meth C h3 (beq_iff_eq.mpr h2) (star_cons h4) (iha.opd C hN h5) (ihb.a C hN _ h6).r
      · cases h
  | din neg k i ihk =>
    have hh : ∀ {X : Cx} {p : Pm} {cl : Str → Value} {CX : CXT} {Ex : XK} {sc : Scope}, Cxt p G cl CX Ex sc X → X.N = N → ∀ e, okE G N (.din neg k i) .pl sc (.e e) = true → PE X e (TB p cl Ex G (.din neg k i)) ∧ PT X e (TT_ p cl Ex G (.din neg k i)) := fun {X p cl CX Ex sc} C hN e h => by
      unfold okE kDin at h
      split at h
      · rename_i z
        cases z
        simp only [Bool.and_eq_true, beq_iff_eq] at h
        obtain ⟨⟨⟨h1, h2⟩, h3⟩, h4⟩ := h
        subst h1; subst hN
        exact s_din C h2 h3 (ihk.a C rfl _ h4).r
      · cases h
    exact .mk1 rfl (fun _ _ => rfl) (fun _ _ => rfl) (fun _ _ => rfl) (fun C hN e h => (hh C hN e h).1) (fun C hN e h => (hh C hN e h).2) fun _ _ _ _ _ h => by cases h
  | dget i k ihk =>
    refine .mk2 rfl (fun _ _ => rfl) (fun _ _ => rfl) (fun _ _ => rfl) (fun sc e h => ?_) fun {X p cl CX Ex sc} C hN e h => ?_
    · cases e <;> first | rfl | cases h
    · unfold okE kDget at h
      split at h
      · rename_i z
        cases z
        simp only [Bool.and_eq_true, beq_iff_eq, Bool.not_eq_true'] at h
        obtain ⟨⟨⟨⟨⟨h1, h2⟩, h3⟩, h4⟩, h5⟩, h6⟩ := h
        subst h1; subst hN
        exact s_dget C h2 h3 (beq_iff_eq.mpr h4) (star_cons h5) (ihk.a C rfl _ h6).r
      · cases h
  | dkeys i =>
    refine .mk3 (fun sc x => rfl) (fun sc x => rfl) fun {X p cl CX Ex sc} C hN e tg t raw h ht hi => ?_
    replace h : kVar N sc i (.e e) = true := h
    unfold kVar at h
    split at h
    · rename_i z
      cases z
      have h2 := Bool.and_eq_true_iff.mp h
      subst hN
      exact s_dkeys C h2.1 h2.2
    · cases h
  | ksort i =>
    refine .mk2 rfl (fun _ _ => rfl) (fun _ _ => rfl) (fun _ _ => rfl) (fun sc e h => ?_) fun {X p cl CX Ex sc} C hN e h => ?_
    · cases e <;> first | rfl | cases h
    · unfold okE kKsort at h
      split at h
      · rename_i z
        cases z
        simp only [Bool.and_eq_true, beq_iff_eq] at h
        obtain ⟨⟨⟨h1, h2⟩, h3⟩, h4⟩ := h
        subst h1; subst hN
        exact s_ksort C (gl_of C.sc h2) h3 h4
      · cases h
  | flat it own j k ihi =>
    refine .mk2 rfl (fun _ _ => rfl) (fun _ _ => rfl) (fun _ _ => rfl) (fun sc e h => ?_) fun {X p cl CX Ex sc} C hN e h => ?_
    · cases e <;> first | rfl | cases h
    · unfold okE kFlat at h
      split at h
      · rename_i e0
        cases e0
        rename_i z zp x xp i a0 y yp x2 x2p a1 scope ps
        simp only [Bool.and_eq_true, beq_iff_eq, bne_iff_ne, List.contains_iff_mem] at h
        obtain ⟨⟨⟨⟨⟨⟨⟨⟨⟨⟨h1, h2⟩, h3⟩, h4⟩, h5⟩, htt⟩, h6⟩, ⟨h7, h8⟩, h9⟩, ⟨h10, h11⟩, h12⟩, ⟨h13, h14⟩, h15⟩, h16⟩ := h
        subst hN h1 h2 h3 h4
        have hb := blkOk_by h5
        rw [← C.sc] at hb
        obtain ⟨m1, m2, m3⟩ := nm_at h10
        obtain ⟨n1, n2, n3⟩ := nm_at h13
        have lc : ∀ {w : Str} (hw : locB scope w = true), L2.Loc (relS scope X.env.scope) w ∧ ((scope.names.lookup w == some .cell) = true ∨ (relS scope X.env.scope).names.lookup w = some .local) := fun {w} hw => by
          unfold locB at hw
          split at hw
          · rename_i e1
            have := relS_lookup (sc := X.env.scope) e1 (by intro z; cases z)
            exact ⟨.inl this, .inr this⟩
          · rename_i e1
            have := relS_lookup (sc := X.env.scope) e1 (by intro z; cases z)
            exact ⟨.inr this, .inl (by rw [e1]; rfl)⟩
          · cases hw
        have vs : ∀ {w : Str} (s : Shared) (H : Hp) (Cc : Addr) (cll : List (Str × Addr)) (fp : List Addr) (hw : visB (relS scope sc) w = true), Vis (X.blk s H scope (compEnvC scope cll Cc X.env) fp).env.scope w := fun s H Cc cll fp hw => vis_of (by rw [← C.sc]; rfl) hw
        refine PE.weak (pe_lc2 C.calm C.nd (ihi.i C rfl _ _ (.nm j) scope h16 (by show (nmB X.N j _ && locB scope _) = true; rw [h10, h11]; rfl) htt) hb (vs1 := [k]) (by intro w hw; simp only [List.mem_singleton] at hw; subst hw; exact h8) (fun s H Cc cll fp => pg_name C.nd m1 (lc h11).1 (lc h11).2) (fun s H Cc cll fp => pts_nil) (fun s H Cc cll fp => pi_ei (pe_var (X := X.blk s H scope (compEnvC scope cll Cc X.env) fp) m1 (vs s H Cc cll fp h12) m2 m3))
          (fun s H Cc cll fp => pg_name C.nd n1 (lc h14).1 (lc h14).2) (fun s H Cc cll fp => pts_nil) (fun s H Cc cll fp => pe_var (X := X.blk s H scope (compEnvC scope cll Cc X.env) fp) n1 (vs s H Cc cll fp h15) n2 n3) (set_none h6)) fun σ H Q q => lc_flat (K := X.K) C.k h7 h9 q
      · cases h
  | rng1 a iha =>
    refine .mk3 (fun sc x => ?_) (fun sc x => ?_) fun {X p cl CX Ex sc} C hN e tg t raw h ht hi => ?_
    · unfold okE kFn1; split <;> rfl
    · unfold okE kFn1; split <;> rfl
    · unfold okE kFn1 at h
      split at h
      · rename_i z
        cases z
        simp only [Bool.and_eq_true, beq_iff_eq, Bool.not_eq_true'] at h
        obtain ⟨⟨⟨⟨_, h2⟩, h3⟩, h4⟩, h5⟩ := h
        subst h2
        have hp : peekOf a = none := by
          cases a <;> first | rfl | exact absurd h5 (by intro z; cases z)
        exact i_rng1 C hp (gl_of C.sc h3) (a_consR hp (star_cons h4) (iha.a C hN _ h5).r a_nil.2) (star_cons h4)
      · cases h
  | rng2 a b iha ihb =>
    refine .mk3 (fun sc x => ?_) (fun sc x => ?_) fun {X p cl CX Ex sc} C hN e tg t raw h ht hi => ?_
    · unfold okE kFn2; split <;> rfl
    · unfold okE kFn2; split <;> rfl
    · unfold okE kFn2 at h
      split at h
      · rename_i z
        cases z
        simp only [Bool.and_eq_true, beq_iff_eq, Bool.not_eq_true'] at h
        obtain ⟨⟨⟨⟨⟨⟨_, h2⟩, h3⟩, h4⟩, h4'⟩, h5⟩, h6⟩ := h
        subst h2
        have hp : peekOf a = none := by
          cases a <;> first | rfl | exact absurd h5 (by intro z; cases z)
        have hq : peekOf b = none := by
          cases b <;> first | rfl | exact absurd h6 (by intro z; cases z)
        exact i_rng2 C hp hq (gl_of C.sc h3) (a_consR hp (star_cons h4) (iha.a C hN _ h5).r (a_consR hq (star_cons h4') (ihb.a C hN _ h6).r a_nil.2)) (by rw [star_cons h4, star_cons h4']; rfl) (star_cons h4')
      · cases h
  | zip a b iha ihb =>
    refine .mk3 (fun sc x => ?_) (fun sc x => ?_) fun {X p cl CX Ex sc} C hN e tg t raw h ht hi => ?_
    · unfold okE kFn2; split <;> rfl
    · unfold okE kFn2; split <;> rfl
    · unfold okE kFn2 at h
      split at h
      · rename_i z
        cases z
        simp only [Bool.and_eq_true, beq_iff_eq, Bool.not_eq_true'] at h
        obtain ⟨⟨⟨⟨⟨⟨_, h2⟩, h3⟩, h4⟩, h4'⟩, h5⟩, h6⟩ := h
        subst h2
        have hp : peekOf a = none := by
          cases a <;> first | rfl | exact absurd h5 (by intro z; cases z)
        have hq : peekOf b = none := by
          cases b <;> first | rfl | exact absurd h6 (by intro z; cases z)
        obtain ⟨es, k, ps, rfl⟩ := tuple_of ht hi
        exact i_zip C hp hq (gl_of C.sc h3) (a_consR hp (star_cons h4) (iha.a C hN _ h5).r (a_consR hq (star_cons h4') (ihb.a C hN _ h6).r a_nil.2)) (star_cons h4) (noStar_back (xs := [_]) (by show (!starred _ && true) = true; rw [h4']; rfl))
      · cases h
  | enum a iha =>
    refine .mk3 (fun sc x => ?_) (fun sc x => ?_) fun {X p cl CX Ex sc} C hN e tg t raw h ht hi => ?_
    · unfold okE kFn1; split <;> rfl
    · unfold okE kFn1; split <;> rfl
    · unfold okE kFn1 at h
      split at h
      · rename_i z
        cases z
        simp only [Bool.and_eq_true, beq_iff_eq, Bool.not_eq_true'] at h
        obtain ⟨⟨⟨⟨_, h2⟩, h3⟩, h4⟩, h5⟩ := h
        subst h2
        have hp : peekOf a = none := by
          cases a <;> first | rfl | exact absurd h5 (by intro z; cases z)
        obtain ⟨es, k, ps, rfl⟩ := tuple_of ht hi
        exact i_enum C hp (gl_of C.sc h3) (a_consR hp (star_cons h4) (iha.a C hN _ h5).r a_nil.2) (star_cons h4)
      · cases h
end
end Rv

set_option Elab.async false
set_option linter.all false
set_option maxRecDepth 100000
set_option maxHeartbeats 4000000
/-! Rv12: statements: the language, its evaluator, its tie to the text. -/
namespace Rv
open PySem PySem.Spec PyProof.Rows L2

inductive S where
  | nil | seq (a b : S)
  | skip
  | set (o : Bool) (i : Nat) (e : E)
  | asg (t : Tg) (e : E)
  | par2 (i : Nat) (o : Bool) (a : E) (j : Nat) (q : Bool) (b : E)
  | par3 (i : Nat) (o : Bool) (a : E) (j : Nat) (q : Bool) (b : E) (k : Nat) (w : Bool) (c : E)
  | parT (t : Tg) (a : E) (j : Nat) (q : Bool) (b : E)
  | dnew (i : Nat) | dput (i : Nat) (k e : E)
  | knew (i : Nat) | kupd (i : Nat) (e : E)
  | parD (i : Nat) (k v : E) (j : Nat) (q : Bool) (b : E)
  | aug (i : Nat) (sub : Bool) (e : E)
  | expr (e : E)
  | app (i : Nat) (e : E)
  | seti (i : Nat) (ix e : E)
  | if_ (c : E) (a b : S)
  | while_ (n : Nat) (c : E) (b : S)
  | for_ (t : Tg) (it : E) (b : S)
  | ret (e : E) | retO (i : Nat) | retN
  | brk | cont | never
inductive So where
  | nx (env : En)
  | rt (d : D) (env : En)
  | bk (env : En)
  | ct (env : En)
  | exc (c : Str)
  | bot
def after {α : Type} (r : Rs (α × En)) (k : α → En → So) : So :=
  match r with
  | .ok q => k q.1 q.2
  | .exc c => .exc c
  | .bot => .bot
def So.then (r : So) (k : En → So) : So :=
  match r with
  | .nx e => k e
  | r => r
def mkSl (o : Bool) (d : D) : Sl :=
  match o, d with
  | true, .list l => .own l
  | _, d => .pd d
def setS (env : En) (i : Nat) (s : Sl) : Option En :=
  match env[i]? with
  | none => none
  | some (.bor _) => none
  | some _ => some (env.set i s)
def oNx (o : Option En) : So :=
  match o with
  | some e => .nx e
  | none => .bot
def augD (sub : Bool) (x y : D) : Option D :=
  match x, y with
  | .int i, .int j => some (.int (if sub then i - j else i + j))
  | _, _ => none
def setD (l : List D) (k d : D) : Option (List D) :=
  match k with
  | .int i => (ixN l.length i).map fun j => l.set j d
  | _ => none
def isListD : D → Bool
  | .list _ => true
  | _ => false
def forGo (asg : D → En → Option En) (body : En → So) : List D → En → So
  | [], env => .nx env
  | x :: xs, env => match asg x env with
    | none => .bot
    | some e1 => match body e1 with
      | .nx e2 => forGo asg body xs e2
      | .ct e2 => forGo asg body xs e2
      | .bk e2 => .nx e2
      | .rt d e2 => .rt d e2
      | .exc c => .exc c
      | .bot => .bot
def whGo (cond : En → Rs (D × En)) (body : En → So) : Nat → En → So
  | 0, _ => .bot
  | n + 1, env => after (cond env) fun d e1 => match tru d with
    | some true => match body e1 with
      | .nx e2 => whGo cond body n e2
      | .ct e2 => whGo cond body n e2
      | .bk e2 => .nx e2
      | .rt d e2 => .rt d e2
      | .exc c => .exc c
      | .bot => .bot
    | some false => .nx e1
    | none => .bot
def dputS (fe fk : En → Rs (D × En)) (i : Nat) (env : En) : So := after (fe env) fun d e1 => if (dicAt e1 i).isSome then after (fk e1) fun kd e2 => match dicAt e2 i, keyOf kd with
    | some kvs, some ks => if kvs.length < sizeLine then .nx (e2.set i (.dic (putD kvs ks d))) else .bot
    | _, _ => .bot
  else .bot
def parDS (fk fv fb : En → Rs (D × En)) (i j : Nat) (q : Bool) (env : En) : So := after (fk env) fun kd e1 => after (fv e1) fun vd e2 => match keyOf kd with
  | some ks => after (fb e2) fun bd e3 => oNx ((setS e3 i (.dic [(ks, vd)])).bind fun e4 => setS e4 j (mkSl q bd))
  | none => .bot
def kupdS (fe : En → Rs (D × En)) (i : Nat) (env : En) : So := if (dikAt env i).isSome then after (fe env) fun d e1 => match dikAt e1 i, prsOf d with
    | some kvs, some more => if kvs.length + more.length ≤ sizeLine then .nx (e1.set i (.dik (mergQ kvs (mergQ [] more)))) else .bot
    | _, _ => .bot
  else .bot
def evS (G : Genv) (fr : Bool) : S → En → So
  | .nil, env => .nx env
  | .seq a b, env => (evS G fr a env).then fun e => evS G fr b e
  | .skip, env => .nx env
  | .set o i e, env => after (ev G e env) fun d e1 => oNx (setS e1 i (mkSl o d))
  | .asg t e, env => after (ev G e env) fun d e1 => oNx (asgT t d e1)
  | .par2 i o a j q b, env => after (ev G a env) fun d e1 => after (ev G b e1) fun d2 e2 => oNx ((setS e2 i (mkSl o d)).bind fun e3 => setS e3 j (mkSl q d2))
  | .par3 i o a j q b k w c, env => after (ev G a env) fun d e1 => after (ev G b e1) fun d2 e2 => after (ev G c e2) fun d3 e3 =>
      oNx ((setS e3 i (mkSl o d)).bind fun e4 => (setS e4 j (mkSl q d2)).bind fun e5 => setS e5 k (mkSl w d3))
  | .parT t a j q b, env => after (ev G a env) fun d e1 => after (ev G b e1) fun d2 e2 => oNx ((asgT t d e2).bind fun e3 => setS e3 j (mkSl q d2))
  | .dnew i, env => oNx (setS env i (.dic []))
  | .dput i k e, env => dputS (ev G e) (ev G k) i env
  | .knew i, env => oNx (setS env i (.dik []))
  | .kupd i e, env => kupdS (ev G e) i env
  | .parD i k v j q b, env => parDS (ev G k) (ev G v) (ev G b) i j q env
  | .aug i sub e, env => match env[i]? with
    | some (.pd x) => after (ev G e env) fun d e1 => match augD sub x d with
      | some z => oNx (setS e1 i (.pd z))
      | none => .bot
    | _ => .bot
  | .expr e, env => after (ev G e env) fun _ e1 => .nx e1
  | .app i e, env => if (heldAt env i).isSome then after (ev G e env) fun d e1 => match heldAt e1 i with
      | some l => if l.length < sizeLine then .nx (setHeld e1 i (l ++ [d])) else .bot
      | none => .bot
    else .bot
  | .seti i ix e, env => after (ev G e env) fun d e1 => if (heldAt e1 i).isSome then after (ev G ix e1) fun k e2 => match heldAt e2 i with
      | some l => match setD l k d with
        | some l2 => .nx (setHeld e2 i l2)
        | none => .bot
      | none => .bot
    else .bot
  | .if_ c a b, env => after (ev G c env) fun d e1 => match tru d with
    | some true => evS G fr a e1
    | some false => evS G fr b e1
    | none => .bot
  | .while_ n c b, env => whGo (ev G c) (evS G fr b) n env
  | .for_ t it b, env => after (ev G it env) fun d e1 => match itemsOf d with
    | some l => forGo (asgT t) (evS G fr b) l e1
    | none => .bot
  | .ret e, env => after (ev G e env) fun d e1 => if fr && !isFresh G e && isListD d then .bot else .rt d e1
  | .retO i, env => if fr then match env[i]? with
      | some (.own l) => .rt (.list l) env
      | _ => .bot
    else .bot
  | .retN, env => .rt .none env
  | .brk, env => .bk env
  | .cont, env => .ct env
  | .never, _ => .bot

/-! ### what is wanted behind a statement -/
def RtOk (fr : Bool) (p : Pm) (F H : Hp) (v : V) (d : D) : Prop :=
  match fr, d with
  | true, .list l => ∃ a xs, v = .ref a ∧ H a = some (.lst xs) ∧ F a = none ∧ p.H0 a = none ∧ RpAll p.K F xs l
  | _, _ => Rp p.K F v d
def Ps (p : Pm) (cl : Str → Value) (Ex : XK) (fr : Bool) (F : Hp) (r : So) (D : Ends) : Prop :=
  match r with
  | .nx env => ∀ σ' F' H', Rel p env σ' F' H' → Same F F' → D.nx σ' H'
  | .rt d env => ∀ v σ' F' H', Rel p env σ' F' H' → Same F F' → RtOk fr p F' H' v d → D.rt v H'
  | .bk env => ∀ σ' F' H', Rel p env σ' F' H' → Same F F' → D.bk σ' H'
  | .ct env => ∀ σ' F' H', Rel p env σ' F' H' → Same F F' → D.ct σ' H'
  | .exc c => ∀ F' H', HRel p F' H' → Ex (cl c) none H'
  | .bot => False
def TSo (p : Pm) (cl : Str → Value) (Ex : XK) (G : Genv) (fr : Bool) (m : S) : TS := fun D σ H => ∃ F env, Rel p env σ F H ∧ Ps p cl Ex fr F (evS G fr m env) D
section
variable {p : Pm} {cl : Str → Value} {Ex : XK} {fr : Bool} {env : En} {σ : L2.St} {F H F' : Hp} {α : Type} {G : Genv} {m : E} {D : Ends}
theorem Ps.mono {r : So} (h : Ps p cl Ex fr F r D) (s : Same F F') : Ps p cl Ex fr F' r D := by
  cases r with
  | nx env => exact fun σ' F'' H' r s' => h σ' F'' H' r (s.trans s')
  | rt d env => exact fun v σ' F'' H' r s' => h v σ' F'' H' r (s.trans s')
  | bk env => exact fun σ' F'' H' r s' => h σ' F'' H' r (s.trans s')
  | ct env => exact fun σ' F'' H' r s' => h σ' F'' H' r (s.trans s')
  | exc c => exact h
  | bot => exact h
/-- an expression, then the rest -/
theorem Ps.after {r : Rs (α × En)} {k : α → En → So} (h : Ps p cl Ex fr F (after r k) D) : Po p cl Ex env σ F H r fun a e1 F1 H1 => Ps p cl Ex fr F1 (k a e1) D := by
  cases r with
  | ok q => exact fun F1 H1 r1 s1 => Ps.mono h s1.sub
  | exc c => exact h
  | bot => exact h
theorem Ps.oNx {o : Option En} (h : Ps p cl Ex fr F (oNx o) D) : ∃ e, o = some e ∧ Ps p cl Ex fr F (.nx e) D := by
  cases o with
  | none => exact h.elim
  | some e => exact ⟨e, rfl, h⟩
/-! ### what waits to be stored -/
def Pend (p : Pm) (env : En) (σ : L2.St) (Hs F H : Hp) (s : Sl) (v : V) : Prop :=
  match s with
  | .pd d => Rp p.K F v d
  | .own l => Fresh p env σ Hs F H v l
  | .dic kvs => ∃ a, v = .ref a ∧ F a = none ∧ p.H0 a = none ∧ Hs a = none ∧ ¬ Own env σ a ∧ DicS p F a (H a) (.dic kvs)
  | .dik kvs => ∃ a, v = .ref a ∧ F a = none ∧ p.H0 a = none ∧ Hs a = none ∧ ¬ Own env σ a ∧ DicS p F a (H a) (.dik kvs)
  | _ => False
theorem TB.pend (o : Bool) (ho : o = true → isFresh G m = true) {Q : VK} (r : Rel p env σ F H) (h : Po p cl Ex env σ F H (ev G m env) fun d env' F' H' => ∀ v, Pend p env' σ H F' H' (mkSl o d) v → Q v H') : TB p cl Ex G m σ H Q := by
  refine ⟨F, env, r, ?_⟩
  cases o with
  | false => exact h.frozen (k := fun _ _ _ _ => True)
  | true =>
    refine h.imp fun d env' F' H' r' s' q v hv => q v ?_
    rw [ho rfl] at hv
    unfold ResOk at hv
    cases d <;> exact hv
theorem setS_some {env e : En} {i : Nat} {s : Sl} (h : setS env i s = some e) : e = env.set i s ∧ i < env.length ∧ ∀ l, env[i]? ≠ some (.bor l) := by
  unfold setS at h
  split at h
  · cases h
  · cases h
  · rename_i s' hs hs2
    cases h
    exact ⟨rfl, get_lt hs2, fun l z => by rw [hs2] at z; cases z; exact hs l rfl⟩
theorem Rel.setSl (r : Rel p env σ F H) {i : Nat} {s : Sl} {v : V} {Hs : Hp} (hp : Pend p env σ Hs F H s v) (hi : i < env.length) (hb : ∀ l, env[i]? ≠ some (.bor l)) :
    Rel p (env.set i s) (σ.set i (some v)) F H ∧ ∀ b, Own (env.set i s) (σ.set i (some v)) b → Own env σ b ∨ (s.owns = true ∧ v = .ref b) := by
  cases s with
  | no => exact hp.elim
  | bor l => exact hp.elim
  | pd d =>
    obtain ⟨r2, o2⟩ := r.setPd hp hi hb
    exact ⟨r2, fun b z => .inl (o2 b z)⟩
  | own l =>
    obtain ⟨a, xs, rfl, e1, e2, e3, e4, e5, e6⟩ := hp
    have hσ : i < σ.length := by rw [← r.len]; exact hi
    have own : ∀ j b, OwnAt (env.set i (.own l)) (σ.set i (some (.ref a))) j b → (j ≠ i ∧ OwnAt env σ j b) ∨ (j = i ∧ b = a) := fun j b ⟨o1, o2⟩ => by
      by_cases e : i = j
      · subst e
        rw [List.getElem?_set_self hσ] at o2
        cases o2
        exact .inr ⟨rfl, rfl⟩
      · rw [ownsAt_set hi, if_neg e] at o1
        rw [List.getElem?_set_ne e] at o2
        exact .inl ⟨fun z => e z.symm, o1, o2⟩
    refine ⟨⟨r.hr, fun j d e => ?_, fun j m e => ?_, fun j k b x y => ?_, fun j m b e q => ?_, fun j m e => ?_, fun j b e => ?_, by rw [List.length_set, List.length_set]; exact r.len, fun j t e hd => ?_⟩, fun b ⟨j, o⟩ => ?_⟩
    · by_cases ej : i = j
      · subst ej; rw [List.getElem?_set_self hi] at e; cases e
      · rw [List.getElem?_set_ne ej] at e ⊢; exact r.pdo j d e
    · rw [heldAt_set hi] at e
      by_cases ej : i = j
      · subst ej
        rw [if_pos rfl] at e
        cases e
        exact ⟨a, xs, List.getElem?_set_self hσ, e1, e2, e6⟩
      · rw [if_neg ej] at e
        rw [List.getElem?_set_ne ej]; exact r.owo j m e
    · rcases own j b x with ⟨h1, h2⟩ | ⟨h1, h2⟩ <;> rcases own k b y with ⟨h3, h4⟩ | ⟨h3, h4⟩
      · exact r.inj j k b h2 h4
      · rw [h4] at h2; exact absurd ⟨j, h2⟩ e5
      · rw [h2] at h4; exact absurd ⟨k, h4⟩ e5
      · rw [h1, h3]
    · by_cases ej : i = j
      · subst ej
        rw [List.getElem?_set_self hσ] at q
        cases q
        exact e3
      · rw [List.getElem?_set_ne ej] at e q; exact r.new j m b e q
    · by_cases ej : i = j
      · subst ej; rw [List.getElem?_set_self hi] at e; cases e
      · rw [List.getElem?_set_ne ej] at e ⊢; exact r.bor j m e
    · obtain ⟨m, q⟩ := r.mub j b e
      have ej : i ≠ j := fun z => by subst z; exact hb m q
      exact ⟨m, by rw [List.getElem?_set_ne ej]; exact q⟩
    · by_cases ej : i = j
      · subst ej; rw [List.getElem?_set_self hi] at e; cases e; cases hd
      · rw [List.getElem?_set_ne ej] at e ⊢; exact r.dio j t e hd
    · rcases own j b o with ⟨h1, h2⟩ | ⟨h1, h2⟩
      · exact .inl ⟨j, h2⟩
      · rw [h2]; exact .inr ⟨rfl, rfl⟩
  | dic kvs0 =>
    obtain ⟨a, rfl, e1, e2, e3, e4, e5⟩ := hp
    have hσ : i < σ.length := by rw [← r.len]; exact hi
    have own : ∀ j b, OwnAt (env.set i (.dic kvs0)) (σ.set i (some (.ref a))) j b → (j ≠ i ∧ OwnAt env σ j b) ∨ (j = i ∧ b = a) := fun j b ⟨o1, o2⟩ => by
      by_cases e : i = j
      · subst e
        rw [List.getElem?_set_self hσ] at o2
        cases o2
        exact .inr ⟨rfl, rfl⟩
      · rw [ownsAt_set hi, if_neg e] at o1
        rw [List.getElem?_set_ne e] at o2
        exact .inl ⟨fun z => e z.symm, o1, o2⟩
    refine ⟨⟨r.hr, fun j d e => ?_, fun j m e => ?_, fun j k b x y => ?_, fun j m b e q => ?_, fun j m e => ?_, fun j b e => ?_, by rw [List.length_set, List.length_set]; exact r.len, fun j t e hd => ?_⟩, fun b ⟨j, o⟩ => ?_⟩
    · by_cases ej : i = j
      · subst ej; rw [List.getElem?_set_self hi] at e; cases e
      · rw [List.getElem?_set_ne ej] at e ⊢; exact r.pdo j d e
    · rw [heldAt_set hi] at e
      by_cases ej : i = j
      · rw [if_pos ej] at e; cases e
      · rw [if_neg ej] at e
        rw [List.getElem?_set_ne ej]; exact r.owo j m e
    · rcases own j b x with ⟨h1, h2⟩ | ⟨h1, h2⟩ <;> rcases own k b y with ⟨h3, h4⟩ | ⟨h3, h4⟩
      · exact r.inj j k b h2 h4
      · rw [h4] at h2; exact absurd ⟨j, h2⟩ e4
      · rw [h2] at h4; exact absurd ⟨k, h4⟩ e4
      · rw [h1, h3]
    · by_cases ej : i = j
      · subst ej; rw [List.getElem?_set_self hi] at e; cases e
      · rw [List.getElem?_set_ne ej] at e q; exact r.new j m b e q
    · by_cases ej : i = j
      · subst ej; rw [List.getElem?_set_self hi] at e; cases e
      · rw [List.getElem?_set_ne ej] at e ⊢; exact r.bor j m e
    · obtain ⟨m, q⟩ := r.mub j b e
      have ej : i ≠ j := fun z => by subst z; exact hb m q
      exact ⟨m, by rw [List.getElem?_set_ne ej]; exact q⟩
    · by_cases ej : i = j
      · subst ej; rw [List.getElem?_set_self hi] at e; cases e
        exact ⟨a, List.getElem?_set_self hσ, e1, e2, e5⟩
      · rw [List.getElem?_set_ne ej] at e ⊢; exact r.dio j t e hd
    · rcases own j b o with ⟨h1, h2⟩ | ⟨h1, h2⟩
      · exact .inl ⟨j, h2⟩
      · rw [h2]; exact .inr ⟨rfl, rfl⟩
  | dik kvs0 =>
    obtain ⟨a, rfl, e1, e2, e3, e4, e5⟩ := hp
    have hσ : i < σ.length := by rw [← r.len]; exact hi
    have own : ∀ j b, OwnAt (env.set i (.dik kvs0)) (σ.set i (some (.ref a))) j b → (j ≠ i ∧ OwnAt env σ j b) ∨ (j = i ∧ b = a) := fun j b ⟨o1, o2⟩ => by
      by_cases e : i = j
      · subst e
        rw [List.getElem?_set_self hσ] at o2
        cases o2
        exact .inr ⟨rfl, rfl⟩
      · rw [ownsAt_set hi, if_neg e] at o1
        rw [List.getElem?_set_ne e] at o2
        exact .inl ⟨fun z => e z.symm, o1, o2⟩
    refine ⟨⟨r.hr, fun j d e => ?_, fun j m e => ?_, fun j k b x y => ?_, fun j m b e q => ?_, fun j m e => ?_, fun j b e => ?_, by rw [List.length_set, List.length_set]; exact r.len, fun j t e hd => ?_⟩, fun b ⟨j, o⟩ => ?_⟩
    · by_cases ej : i = j
      · subst ej; rw [List.getElem?_set_self hi] at e; cases e
      · rw [List.getElem?_set_ne ej] at e ⊢; exact r.pdo j d e
    · rw [heldAt_set hi] at e
      by_cases ej : i = j
      · rw [if_pos ej] at e; cases e
      · rw [if_neg ej] at e
        rw [List.getElem?_set_ne ej]; exact r.owo j m e
    · rcases own j b x with ⟨h1, h2⟩ | ⟨h1, h2⟩ <;> rcases own k b y with ⟨h3, h4⟩ | ⟨h3, h4⟩
      · exact r.inj j k b h2 h4
      · rw [h4] at h2; exact absurd ⟨j, h2⟩ e4
      · rw [h2] at h4; exact absurd ⟨k, h4⟩ e4
      · rw [h1, h3]
    · by_cases ej : i = j
      · subst ej; rw [List.getElem?_set_self hi] at e; cases e
      · rw [List.getElem?_set_ne ej] at e q; exact r.new j m b e q
    · by_cases ej : i = j
      · subst ej; rw [List.getElem?_set_self hi] at e; cases e
      · rw [List.getElem?_set_ne ej] at e ⊢; exact r.bor j m e
    · obtain ⟨m, q⟩ := r.mub j b e
      have ej : i ≠ j := fun z => by subst z; exact hb m q
      exact ⟨m, by rw [List.getElem?_set_ne ej]; exact q⟩
    · by_cases ej : i = j
      · subst ej; rw [List.getElem?_set_self hi] at e; cases e
        exact ⟨a, List.getElem?_set_self hσ, e1, e2, e5⟩
      · rw [List.getElem?_set_ne ej] at e ⊢; exact r.dio j t e hd
    · rcases own j b o with ⟨h1, h2⟩ | ⟨h1, h2⟩
      · exact .inl ⟨j, h2⟩
      · rw [h2]; exact .inr ⟨rfl, rfl⟩
theorem Pend.step {env' : En} {H' Hs : Hp} {s : Sl} {v : V} (h : Pend p env σ Hs F H s v) (st : Step env σ F H env' F' H') : Pend p env' σ Hs F' H' s v := by
  cases s with
  | no => exact h
  | bor l => exact h
  | pd d =>
    have h : Rp p.K F v d := h
    exact h.mono st.sub
  | own l =>
    obtain ⟨a, xs, rfl, e1, e2, e3, e4, e5, e6⟩ := h
    exact ⟨a, xs, rfl, st.keep a _ e1 e5, by rw [st.kf a (by rw [e1]; intro z; cases z) e5]; exact e2, e3, e4, fun z => e5 (st.owl a z), e6.mono st.sub⟩
  | dic kvs =>
    obtain ⟨a, rfl, e1, e2, e3, e4, e5⟩ := h
    obtain ⟨o, e6⟩ := e5.some
    exact ⟨a, rfl, by rw [st.kf a (by rw [e6]; intro z; cases z) e4]; exact e1, e2, e3, fun z => e4 (st.owl a z), e5.keep (fun o h => st.keep a _ h e4) st.sub⟩
  | dik kvs =>
    obtain ⟨a, rfl, e1, e2, e3, e4, e5⟩ := h
    obtain ⟨o, e6⟩ := e5.some
    exact ⟨a, rfl, by rw [st.kf a (by rw [e6]; intro z; cases z) e4]; exact e1, e2, e3, fun z => e4 (st.owl a z), e5.keep (fun o h => st.keep a _ h e4) st.sub⟩
/-- .. while another one is stored -/
theorem Pend.set {Hs : Hp} {s t : Sl} {v u : V} {i : Nat} (h : Pend p env σ Hs F H s v) (ow : ∀ b, Own (env.set i t) (σ.set i (some u)) b → Own env σ b ∨ (t.owns = true ∧ u = .ref b))
    (hne : ∀ a, t.owns = true → u = .ref a → Hs a ≠ none) : Pend p (env.set i t) (σ.set i (some u)) Hs F H s v := by
  cases s with
  | no => exact h
  | bor l => exact h
  | pd d => exact h
  | own l =>
    obtain ⟨a, xs, rfl, e1, e2, e3, e4, e5, e6⟩ := h
    refine ⟨a, xs, rfl, e1, e2, e3, e4, fun z => ?_, e6⟩
    rcases ow a z with z | ⟨z1, z2⟩
    · exact e5 z
    · exact hne a z1 z2 e4
  | dic kvs =>
    obtain ⟨a, rfl, e1, e2, e3, e4, e5⟩ := h
    refine ⟨a, rfl, e1, e2, e3, fun z => ?_, e5⟩
    rcases ow a z with z | ⟨z1, z2⟩
    · exact e4 z
    · exact hne a z1 z2 e3
  | dik kvs =>
    obtain ⟨a, rfl, e1, e2, e3, e4, e5⟩ := h
    refine ⟨a, rfl, e1, e2, e3, fun z => ?_, e5⟩
    rcases ow a z with z | ⟨z1, z2⟩
    · exact e4 z
    · exact hne a z1 z2 e3
theorem Pend.there {Hs : Hp} {s : Sl} {v : V} (h : Pend p env σ Hs F H s v) : ∀ a, s.owns = true → v = .ref a → H a ≠ none := by
  rintro a ho rfl
  cases s with
  | no => cases ho
  | pd d => cases ho
  | bor l => exact h.elim
  | own l =>
    obtain ⟨b, xs, e0, e1, _⟩ := h
    cases e0
    rw [e1]; intro z; cases z
  | dic kvs =>
    obtain ⟨b, e0, _, _, _, _, e5⟩ := h
    cases e0
    obtain ⟨o, e6⟩ := e5.some
    rw [e6]; intro z; cases z
  | dik kvs =>
    obtain ⟨b, e0, _, _, _, _, e5⟩ := h
    cases e0
    obtain ⟨o, e6⟩ := e5.some
    rw [e6]; intro z; cases z
/-- a dict's object is written -/
theorem Rel.writeD (r : Rel p env σ F H) {i : Nat} {s s' : Sl} {a : Addr} {ob : HO} (h : env[i]? = some s) (hs : s.isD = true) (hs' : s'.isD = true) (hσ : σ[i]? = some (some (.ref a))) (new : DicS p F a (some ob) s') :
    Rel p (env.set i s') σ F (upd H a ob) := by
  have hi := get_lt h
  obtain ⟨b, e1, e2, e3, e4⟩ := r.dio i s h hs
  rw [hσ] at e1; cases e1
  have oi : OwnAt env σ i a := ⟨owns_d h hs, hσ⟩
  have back : ∀ j b, OwnAt (env.set i s') σ j b → OwnAt env σ j b := fun j b ⟨o1, o2⟩ => by
    rw [ownsAt_set hi] at o1
    by_cases e : i = j
    · subst e; rw [hσ] at o2; cases o2; exact oi
    · rw [if_neg e] at o1; exact ⟨o1, o2⟩
  refine ⟨⟨fun b u e => ?_, fun b u e n => ?_, r.hr.oldf, fun b e => ?_⟩, fun j d e => ?_, fun j m e => ?_, fun j k b oj ok => r.inj j k b (back j b oj) (back k b ok), fun j m b e q => ?_, fun j m e => ?_, fun j b e => ?_, by rw [List.length_set]; exact r.len, fun j t e hd => ?_⟩
  · have hb : b ≠ a := fun z => by rw [z, e2] at e; cases e
    rw [upd_ne hb]; exact r.hr.sub b u e
  · have hb : b ≠ a := fun z => by rw [z, e3] at e; cases e
    rw [upd_ne hb]; exact r.hr.old b u e n
  · by_cases hb : b = a
    · subst hb; rw [upd_same]; intro z; cases z
    · rw [upd_ne hb]; exact r.hr.there b e
  · by_cases ej : i = j
    · subst ej; rw [List.getElem?_set_self hi] at e; cases e; cases hs'
    · rw [List.getElem?_set_ne ej] at e; exact r.pdo j d e
  · rw [heldAt_set hi] at e
    by_cases ej : i = j
    · rw [if_pos ej] at e; cases s' <;> first | (cases hs'; done) | (cases e; done)
    · rw [if_neg ej] at e
      obtain ⟨b, ys, q1, q2, q3, q4⟩ := r.owo j m e
      have na : b ≠ a := fun z => ej (r.inj i j a oi ⟨owns_held e, by rw [← z]; exact q1⟩)
      exact ⟨b, ys, q1, by rw [upd_ne na]; exact q2, q3, q4⟩
  · by_cases ej : i = j
    · subst ej; rw [List.getElem?_set_self hi] at e; cases e; cases hs'
    · rw [List.getElem?_set_ne ej] at e; exact r.new j m b e q
  · by_cases ej : i = j
    · subst ej; rw [List.getElem?_set_self hi] at e; cases e; cases hs'
    · rw [List.getElem?_set_ne ej] at e; exact r.bor j m e
  · obtain ⟨m, q⟩ := r.mub j b e
    have ej : i ≠ j := fun z => by subst z; rw [h] at q; cases q; cases hs
    exact ⟨m, by rw [List.getElem?_set_ne ej]; exact q⟩
  · by_cases ej : i = j
    · subst ej; rw [List.getElem?_set_self hi] at e; cases e
      exact ⟨a, hσ, e2, e3, by rw [upd_same]; exact new⟩
    · rw [List.getElem?_set_ne ej] at e
      obtain ⟨b, q1, q2, q3, q4⟩ := r.dio j t e hd
      have na : b ≠ a := fun z => ej (r.inj i j a oi ⟨owns_d e hd, by rw [← z]; exact q1⟩)
      exact ⟨b, q1, q2, q3, by rw [upd_ne na]; exact q4⟩
end
end Rv

set_option Elab.async false
set_option linter.all false
set_option maxRecDepth 100000
set_option maxHeartbeats 4000000
/-! Rv13: every statement that okS lets pass does as evS says. -/
namespace Rv
open PySem PySem.Spec PyProof.Rows L2

inductive Sr where
  | s (x : Stmt)
  | b (xs : List Stmt)
def compOf : PySem.Expr → Option Scope
  | .ListComp _ _ s _ => some s
  | .SetComp _ _ s _ => some s
  | .DictComp _ _ _ s _ => some s
  | _ => none
def localB (sc : Scope) (x : Str) : Bool := match sc.names.lookup x with
  | some .local => true
  | _ => false
def oneGen : PySem.Expr → Bool
  | .ListComp _ [_] _ _ => true
  | _ => false
def swOk (sc : Scope) (x : Str) (px : Pos) (v : PySem.Expr) : Bool := match compOf v with
  | none => true
  | some s => if localB sc x then (px.line == v.pos.line) && !(s.names.any fun (n, k) => n == x && (k == .local || k == .cell)) && oneGen v else true
def isTuple : PySem.Expr → Bool
  | .Tuple _ _ _ => true
  | _ => false
def isNameE : PySem.Expr → Bool
  | .Name _ _ => true
  | _ => false
def noSwap (ts : List PySem.Expr) (v : PySem.Expr) : Bool := match v with
  | .Tuple vs _ _ => !(ts.length == 2 || ts.length == 3) || vs.length != ts.length || !(ts.all isNameE) || vs.all (foldedForSure 8)
  | _ => true
section
variable (N : List Str) (G : Genv) (fr : Bool) (sc : Scope) (f1 f2 f3 : Ar → Bool) (g1 g2 : Sr → Bool)
def cNil : Sr → Bool
  | .b [] => true
  | _ => false
def cSeq : Sr → Bool
  | .b (st :: r) => g1 (.s st) && g2 (.b r)
  | _ => false
def cSkip : Sr → Bool
  | .s (.Pass _) => true
  | .s (.Expr (.Constant (.str _) _ _) _) => true
  | _ => false
def cSet (o fs : Bool) (i : Nat) : Sr → Bool
  | .s (.Assign [.Name x px] v _) => nmB N i x && locB sc x && (!o || fs) && swOk sc x px v && f1 (.e v)
  | _ => false
def cAsg (t : Tg) : Sr → Bool
  | .s (.Assign [.Tuple es k pt] v _) => okG N sc t (.Tuple es k pt) && noSwap es v && f1 (.e v)
  | _ => false
def cPar2 (i : Nat) (o fa : Bool) (j : Nat) (q fb : Bool) : Sr → Bool
  | .s (.Assign [.Tuple [.Name x px, .Name y py] _ _] (.Tuple [a, b] _ _) _) => nmB N i x && nmB N j y && localB sc x && localB sc y && (py.line == px.line) && (i != j) && (x != y) && !starred a && !starred b &&
      !(foldedForSure 8 a && foldedForSure 8 b) && !(constantsAlone 8 a && constantsAlone 8 b) && (!o || fa) && (!q || fb) && f1 (.e a) && f2 (.e b)
  | _ => false
def cPar3 (i : Nat) (o fa : Bool) (j : Nat) (q fb : Bool) (k : Nat) (w fc : Bool) : Sr → Bool
  | .s (.Assign [.Tuple [.Name x px, .Name y py, .Name z pz] _ _] (.Tuple [a, b, c] _ _) _) => nmB N i x && nmB N j y && nmB N k z && localB sc x && localB sc y && localB sc z && (py.line == px.line) && (pz.line == px.line) &&
      (i != j) && (i != k) && (j != k) && (x != y) && (x != z) && (y != z) && !starred a && !starred b && !starred c &&
      !(foldedForSure 8 a && foldedForSure 8 b && foldedForSure 8 c) && !(constantsAlone 8 a && constantsAlone 8 b && constantsAlone 8 c) && (!o || fa) && (!q || fb) && (!w || fc) && f1 (.e a) && f2 (.e b) && f3 (.e c)
  | _ => false
def cParT (t : Tg) (j : Nat) (q fb : Bool) : Sr → Bool
  | .s (.Assign [.Tuple [tg, .Name y py] kt pt] (.Tuple [a, b] k2 pt2) _) => okG N sc t tg && nmB N j y && locB sc y && noSwap [tg, .Name y py] (.Tuple [a, b] k2 pt2) && !starred a && !starred b && (!q || fb) && f1 (.e a) && f2 (.e b)
  | _ => false
def cDnew (i : Nat) : Sr → Bool
  | .s (.Assign [.Name x px] (.Dict [] [] _) _) => nmB N i x && locB sc x
  | _ => false
def cDput (i : Nat) : Sr → Bool
  | .s (.Assign [.Subscript (.Name x _) ix _] v _) => nmB N i x && visB sc x && f1 (.e ix) && f2 (.e v)
  | _ => false
def cKupd (i : Nat) : Sr → Bool
  | .s (.Expr (.Call (.Attribute (.Name x _) m ap) [.Call (.Name f _) [v] [] _] [] cp) _) => (m == ("update" : Str)) && (f == ("dict" : Str)) && glB sc f && nmB N i x && visB sc x && (ap.endLine == cp.line) && !starred v && f1 (.e v)
  | _ => false
def cParD (i j : Nat) (q fb : Bool) : Sr → Bool
  | .s (.Assign [.Tuple [.Name x px, .Name y py] _ _] (.Tuple [.Dict [some ek] [ev] pd, b] _ _) _) => nmB N i x && nmB N j y && localB sc x && localB sc y && (py.line == px.line) && (i != j) && (x != y) && !starred b &&
      !(foldedForSure 8 (.Dict [some ek] [ev] pd) && foldedForSure 8 b) && !(constantsAlone 8 (.Dict [some ek] [ev] pd) && constantsAlone 8 b) && (!q || fb) && f1 (.e ek) && f2 (.e ev) && f3 (.e b)
  | _ => false
def cAug (i : Nat) (sub : Bool) : Sr → Bool
  | .s (.AugAssign (.Name x _) op v _) => ((if sub then Operator.Sub else Operator.Add) == op) && nmB N i x && locB sc x && f1 (.e v)
  | _ => false
def cExpr : Sr → Bool
  | .s (.Expr v _) => (compOf v).isNone && f1 (.e v)
  | _ => false
def cApp (i : Nat) : Sr → Bool
  | .s (.Expr (.Call (.Attribute (.Name x _) m ap) [v] [] cp) _) => (m == ("append" : Str)) && nmB N i x && visB sc x && (ap.endLine == cp.line) && !starred v && f1 (.e v)
  | _ => false
def cSeti (i : Nat) : Sr → Bool
  | .s (.Assign [.Subscript (.Name x _) ix _] v _) => nmB N i x && visB sc x && plainIx ix && f1 (.e ix) && f2 (.e v)
  | _ => false
def cIf : Sr → Bool
  | .s (.If c a b _) => f1 (.e c) && g1 (.b a) && g2 (.b b)
  | _ => false
def cWhile : Sr → Bool
  | .s (.While c b [] _) => f1 (.e c) && g1 (.b b)
  | _ => false
def cFor (t : Tg) (tt : Bool) : Sr → Bool
  | .s (.For tg it b [] _) => okG N sc t tg && tt && notSetB it && f1 (.e it) && g1 (.b b)
  | _ => false
def cRet : Sr → Bool
  | .s (.Return (some v) _) => f1 (.e v)
  | _ => false
def cRetO (i : Nat) : Sr → Bool
  | .s (.Return (some (.Name x _)) _) => nmB N i x && visB sc x
  | _ => false
def cRetN : Sr → Bool
  | .s (.Return none _) => true
  | _ => false
def cBrk : Sr → Bool
  | .s (.Break _) => true
  | _ => false
def cCont : Sr → Bool
  | .s (.Continue _) => true
  | _ => false
end
def okS (G : Genv) (N : List Str) (sc : Scope) : S → Sr → Bool
  | .nil, x => cNil x
  | .seq a b, x => cSeq (okS G N sc a) (okS G N sc b) x
  | .skip, x => cSkip x
  | .set o i e, x => cSet N sc (okE G N e .pl sc) o (isFresh G e) i x
  | .asg t e, x => cAsg N sc (okE G N e .pl sc) t x
  | .par2 i o a j q b, x => cPar2 N sc (okE G N a .pl sc) (okE G N b .pl sc) i o (isFresh G a) j q (isFresh G b) x
  | .par3 i o a j q b k w c, x => cPar3 N sc (okE G N a .pl sc) (okE G N b .pl sc) (okE G N c .pl sc) i o (isFresh G a) j q (isFresh G b) k w (isFresh G c) x
  | .parT t a j q b, x => cParT N sc (okE G N a .pl sc) (okE G N b .pl sc) t j q (isFresh G b) x
  | .dnew i, x => cDnew N sc i x
  | .dput i k e, x => cDput N sc (okE G N k .pl sc) (okE G N e .pl sc) i x
  | .knew i, x => cDnew N sc i x
  | .kupd i e, x => cKupd N sc (okE G N e .pl sc) i x
  | .parD i k v j q b, x => cParD N sc (okE G N k .pl sc) (okE G N v .pl sc) (okE G N b .pl sc) i j q (isFresh G b) x
  | .aug i sub e, x => cAug N sc (okE G N e .pl sc) i sub x
  | .expr e, x => cExpr (okE G N e .pl sc) x
  | .app i e, x => cApp N sc (okE G N e .pl sc) i x
  | .seti i ix e, x => cSeti N sc (okE G N ix .pl sc) (okE G N e .pl sc) i x
  | .if_ c a b, x => cIf (okE G N c .pl sc) (okS G N sc a) (okS G N sc b) x
  | .while_ _ c b, x => cWhile (okE G N c .pl sc) (okS G N sc b) x
  | .for_ t it b, x => cFor N sc (okE G N it .it sc) (okS G N sc b) t (itTg it t) x
  | .ret e, x => cRet (okE G N e .pl sc) x
  | .retO i, x => cRetO N sc i x
  | .retN, x => cRetN x
  | .brk, x => cBrk x
  | .cont, x => cCont x
  | .never, _ => true

/-! ### how stores are swapped -/
section
variable {env : Env} {l : Nat}
theorem sw_no {v : PySem.Expr} {t : Option PySem.Expr} (h : compOf v = none) : swapsWith v t l env = pure false := by
  cases v <;> first | rfl | cases h
theorem sw_far {v t : PySem.Expr} (h : ∀ x p, t ≠ .Name x p) : swapsWith v (some t) l env = pure false := by
  cases t <;> first | (cases v <;> rfl) | exact absurd rfl (h _ _)
theorem sw_tup {v : PySem.Expr} {es : List PySem.Expr} {k : Nat} {pt : Pos} : swapsWithSole [.Tuple es k pt] v l env = pure false := by cases v <;> rfl
theorem sw_sub {v a b : PySem.Expr} {pt : Pos} : swapsWithSole [.Subscript a b pt] v l env = pure false := by cases v <;> rfl
theorem sw_cell {v : PySem.Expr} {x : Str} {px : Pos} (h : env.scope.names.lookup x = some .cell) : swapsWith v (some (.Name x px)) l env = pure false := by
  have hk : (env.kindOf x == some NameKind.local) = false := by
    have : env.kindOf x = some .cell := h
    rw [this]; rfl
  cases v <;> first | rfl | (simp only [swapsWith, hk, Bool.and_false, Bool.false_and] <;> rfl)
theorem star_fun : (fun (e : PySem.Expr) => match e with | .Starred .. => true | _ => false) = starred := by
  funext e; cases e <;> rfl
end

section
variable {X : Cx} {p : Pm} {cl : Str → Value} {Ex : XK} {G : Genv} {CX : CXT} {sc : Scope} {fr : Bool}
theorem PS.weak {st : Stmt} {t t' : TS} (h : PS X st t) (hw : ∀ D σ H, t' D σ H → t D σ H) : PS X st t' := ⟨fun pins s σ H D I q => h.run pins s σ H D I (hw D σ H q)⟩
theorem PSs.weak {st : List Stmt} {t t' : TS} (h : PSs X st t) (hw : ∀ D σ H, t' D σ H → t D σ H) : PSs X st t' := ⟨fun pins s σ H D I q => h.run pins s σ H D I (hw D σ H q)⟩
/-- the parts of a comprehension -/
theorem lc_parts {elt : E} {tg : Tg} {it cond : E} {own : List (Str × Nat)} {e t i : PySem.Expr} {ifs : List PySem.Expr} {as : Int} {scope : Scope} {ps : Pos} (C : Cxt p G cl CX Ex sc X)
    (ho : okE G X.N (.lc elt tg it cond own) .pl sc (.e (.ListComp e [⟨t, i, ifs, as⟩] scope ps)) = true) : as = 0 ∧ PI X t i (TI_ p cl Ex G it) ∧ BlkOk X.N X.env.scope scope own ∧
    (∀ (s : Shared) (H : Hp) (Cc : Addr) (cll : List (Str × Addr)) (fp : List Addr), PG (X.blk s H scope (compEnvC scope cll Cc X.env) fp) t (TGo p tg)) ∧
    (∀ (s : Shared) (H : Hp) (Cc : Addr) (cll : List (Str × Addr)) (fp : List Addr), PTs (X.blk s H scope (compEnvC scope cll Cc X.env) fp) ifs (tC p cl (fun _ _ _ => False) G cond)) ∧
    (∀ (s : Shared) (H : Hp) (Cc : Addr) (cll : List (Str × Addr)) (fp : List Addr), PE (X.blk s H scope (compEnvC scope cll Cc X.env) fp) e (TR p cl (fun _ _ _ => False) G elt)) ∧
    (∀ x, foldedSetIterable i X.env x = pure x) ∧ tgIn (own.map (·.2)) tg = true := by
  have ho : ((as == 0) && blkC X.N sc scope own && itTg it tg && notSetB i && tgIn (own.map (·.2)) tg && okG X.N scope tg t && okE G X.N it .it sc (.e i) && ifsB (isNil cond) (okE G X.N cond .pl (relS scope sc)) ifs && okE G X.N elt .pl (relS scope sc) (.e e)) = true := ho
  simp only [Bool.and_eq_true, beq_iff_eq] at ho
  obtain ⟨⟨⟨⟨⟨⟨⟨⟨h1, h2⟩, h3⟩, h4⟩, h5⟩, h6⟩, h7⟩, h8⟩, h9⟩ := ho
  have hb := blkOk_by h2
  rw [← C.sc] at hb
  have CB : ∀ (s : Shared) (H : Hp) (Cc : Addr) (cll : List (Str × Addr)) (fp : List Addr), Cxt p G cl CX (fun _ _ _ => False) (relS scope sc) (X.blk s H scope (compEnvC scope cll Cc X.env) fp) := fun s H Cc cll fp =>
    ⟨C.k, C.calm, C.nd, by rw [← C.sc]; rfl, C.un, C.glb, C.blt, fun f fs z => ⟨(C.fns f fs z).ex⟩, fun _ _ _ _ _ _ _ z => absurd z (C.cx0 _ _ _ _ _), hb.kind, C.cx0, C.hs⟩
  refine ⟨h1, (okx it).i C rfl _ _ tg scope h7 h6 h3, hb, fun s H Cc cll fp => (g_ok (CB s H Cc cll fp).calm (CB s H Cc cll fp).nd (CB s H Cc cll fp).k (fun x hx => ?_) tg).1 _ h6, fun s H Cc cll fp => ?_, fun s H Cc cll fp => ((okx elt).a (CB s H Cc cll fp) rfl _ h9).r, set_none h4, h5⟩
  · show L2.Loc (relS scope X.env.scope) x ∧ ((scope.names.lookup x == some .cell) = true ∨ (relS scope X.env.scope).names.lookup x = some .local)
    unfold locB at hx
    split at hx
    · rename_i e1
      have := relS_lookup (sc := X.env.scope) e1 (by intro z; cases z)
      exact ⟨.inl this, .inr this⟩
    · rename_i e1
      have := relS_lookup (sc := X.env.scope) e1 (by intro z; cases z)
      exact ⟨.inr this, .inl (by rw [e1]; rfl)⟩
    · cases hx
  · cases ifs with
    | nil => exact tC_nil h8
    | cons c r =>
      cases r with
      | nil =>
        have h8 : (!isNil cond && okE G X.N cond .pl (relS scope sc) (.e c)) = true := h8
        simp only [Bool.and_eq_true, Bool.not_eq_true'] at h8
        exact tC_one h8.1 ((okx cond).t (CB s H Cc cll fp) rfl _ h8.2)
      | cons _ _ => cases h8
/-- name = e, a comprehension too -/
def tName (p : Pm) (cl : Str → Value) (Ex : XK) (G : Genv) (m : E) (i : Nat) : TS := fun D σ H => TB p cl Ex G m σ H fun v H1 => D.nx (σ.set i (some v)) H1
theorem localB_of {x : Str} (h : localB sc x = true) : sc.names.lookup x = some .local := by
  unfold localB at h
  split at h
  · assumption
  · cases h
abbrev HRaw (X : Cx) (sc : Scope) : Prop := ∀ x, locB sc x = true → L2.Loc X.env.scope x ∧ (X.fn x = true ∨ X.env.scope.names.lookup x = some .local)
theorem comp_lc {N : List Str} {m : E} {v : PySem.Expr} {s : Scope} (hc : compOf v = some s) (ho : okE G N m .pl sc (.e v) = true) (h1 : oneGen v = true) : ∃ elt tg it cond own, m = .lc elt tg it cond own := by
  unfold oneGen at h1
  split at h1
  · cases m <;> first | exact ⟨_, _, _, _, _, rfl⟩ | (cases ho; done) | skip
    unfold okE kFlat at ho
    split at ho
    · rename_i z; cases z
    · cases ho
  · cases h1
theorem p_set {m : E} {i : Nat} {x : Str} {px pos : Pos} {v : PySem.Expr} (C : Cxt p G cl CX Ex sc X) (hraw : HRaw X sc) (h1 : nmB X.N i x = true) (h2 : locB sc x = true) (hs : swOk sc x px v = true) (ho : okE G X.N m .pl sc (.e v) = true) :
    PS X (.Assign [.Name x px] v pos) (tName p cl Ex G m i) := by
  obtain ⟨n1, n2, n3⟩ := nm_at h1
  obtain ⟨l1, l2⟩ := hraw _ h2
  have ha := (okx (G := G) (N := X.N) m).a C rfl _ ho
  unfold swOk at hs
  cases hc : compOf v with
  | none =>
    exact PS.weak (ps_set C.nd n1 l1 ha (sw_no hc) l2) fun D σ H q => q
  | some s =>
    rw [hc] at hs
    dsimp only at hs
    by_cases hs1 : localB sc x = true
    case neg =>
      have hcell : X.env.scope.names.lookup x = some .cell := by
        rcases l1 with e | e
        · exfalso
          rw [C.sc] at e
          exact hs1 (by unfold localB; rw [e])
        · exact e
      exact PS.weak (ps_set C.nd n1 l1 ha (sw_cell hcell) l2) fun D σ H q => q
    rw [if_pos hs1] at hs
    simp only [Bool.and_eq_true, beq_iff_eq, Bool.not_eq_true'] at hs
    obtain ⟨⟨hs2, hs3⟩, hs4⟩ := hs
    have hl := localB_of hs1
    obtain ⟨elt, tg, it, cond, own, rfl⟩ := comp_lc hc ho hs4
    have ho' := ho
    unfold okE kLc at ho
    split at ho
    · rename_i z
      cases z
      cases hc
      obtain ⟨h0, q1, q2, q3, q4, q5, q6, q7⟩ := lc_parts C ho'
      subst h0
      rw [← C.sc] at hl
      exact PS.weak (ps_setLc C.calm C.nd n1 hl (sw_true C.kind hl (beq_iff_eq.mpr hs2) hs3) q1 q2 q3 q4 q5 q6) fun D σ H q => lc_core' q7 q
    · cases ho
/-- names stored from the right -/
theorem dups2 {x y : Str} (h : x ≠ y) : ([x, y].eraseDups.length != [x, y].length) = false := by
  have e1 : (y == x) = false := by rw [beq_eq_false_iff_ne]; exact Ne.symm h
  simp [List.eraseDups, List.eraseDupsBy, List.eraseDupsBy.loop, e1]
theorem dups3 {x y z : Str} (h : x ≠ y) (h2 : x ≠ z) (h3 : y ≠ z) : ([x, y, z].eraseDups.length != [x, y, z].length) = false := by
  have e1 : (y == x) = false := by rw [beq_eq_false_iff_ne]; exact Ne.symm h
  have e2 : (z == x) = false := by rw [beq_eq_false_iff_ne]; exact Ne.symm h2
  have e3 : (z == y) = false := by rw [beq_eq_false_iff_ne]; exact Ne.symm h3
  simp [List.eraseDups, List.eraseDupsBy, List.eraseDupsBy.loop, e1, e2, e3]
theorem any_st {vs : List PySem.Expr} (h : vs.any starred = false) (f : PySem.Expr → Bool) (hf : ∀ e, f e = starred e) : vs.any f = false := by
  rw [← h]; congr 1; funext e; exact hf e
theorem fm_names {env : Env} (f : PySem.Expr → Option Str) (l : Nat) (hf : ∀ e, f e = match e with | .Name id pos => if env.kindOf id == some .local && pos.line == l then some id else none | _ => none) :
    ∀ (xs : List (Str × Pos)), (∀ x ∈ xs, env.kindOf x.1 = some .local ∧ x.2.line = l) → (xs.map fun x => PySem.Expr.Name x.1 x.2).filterMap f = xs.map (·.1)
  | [], _ => rfl
  | x :: xs, h => by
    obtain ⟨h1, h2⟩ := h x List.mem_cons_self
    rw [List.map_cons, List.filterMap_cons, hf]
    dsimp only
    rw [h1, h2, if_pos (by simp), fm_names f l hf xs fun y hy => h y (List.mem_cons_of_mem _ hy)]
    rfl
theorem swap_gen {env : Env} {xs : List (Str × Pos)} {vs : List PySem.Expr} {pt : Pos} {kt k2 pt2} (hk : env.scope.kind = .function) (hlen : xs.length = 2 ∨ xs.length = 3) (hvl : vs.length = xs.length)
    (hx : ∀ x ∈ xs, env.kindOf x.1 = some .local ∧ x.2.line = ((xs.head?.map fun y => y.2.line).getD 0)) (hd : ((xs.map (·.1)).eraseDups.length != (xs.map (·.1)).length) = false)
    (hs : vs.any starred = false) (hf : vs.all (foldedForSure 8) = false) (hc : vs.all (constantsAlone 8) = false) :
    swappedStores [.Tuple (xs.map fun x => PySem.Expr.Name x.1 x.2) kt pt] (.Tuple vs k2 pt2) env = pure (some (xs.map (·.1))) := by
  have hb : env.blockKind = .function := by unfold Env.blockKind; rw [hk]; rfl
  simp only [swappedStores, hb]
  rw [if_neg (by rw [List.length_map, hvl]; rcases hlen with h | h <;> rw [h] <;> simp), if_neg (by rw [any_st hs _ (by intro e; cases e <;> rfl)]; exact Bool.false_ne_true)]
  have hh : ((xs.map fun x => PySem.Expr.Name x.1 x.2).head?.map (·.pos.line)).getD 0 = (xs.head?.map fun y => y.2.line).getD 0 := by
    cases xs with
    | nil => rfl
    | cons x xs => rfl
  rw [hh, fm_names (env := env) _ ((xs.head?.map fun y => y.2.line).getD 0) (by intro e; cases e <;> rfl) xs hx]
  rw [if_neg (by rw [hd, List.length_map, List.length_map]; simp), if_neg (by rw [hf]; exact Bool.false_ne_true)]
  rw [hc]
  rfl
theorem names_short {env : Env} (f : PySem.Expr → Option Str) (l : Nat) (hf : ∀ e, f e = match e with | .Name id pos => if env.kindOf id == some .local && pos.line == l then some id else none | _ => none) :
    ∀ (ts : List PySem.Expr), ts.all isNameE = false → (ts.filterMap f).length < ts.length
  | [], h => by cases h
  | t :: ts, h => by
    rw [List.filterMap_cons]
    have le : (ts.filterMap f).length ≤ ts.length := List.length_filterMap_le f ts
    by_cases ht : isNameE t = true
    · have h2 : ts.all isNameE = false := by rw [List.all_cons, ht, Bool.true_and] at h; exact h
      have ih := names_short f l hf ts h2
      split
      · rw [List.length_cons]; omega
      · rw [List.length_cons, List.length_cons]; omega
    · have e : f t = none := by
        rw [hf]
        cases t <;> first | rfl | exact absurd rfl ht
      rw [e, List.length_cons]; dsimp only; omega
theorem no_swap {env : Env} {ts : List PySem.Expr} {v : PySem.Expr} {k : Nat} {pt : Pos} (h : noSwap ts v = true) : swappedStores [.Tuple ts k pt] v env = pure none := by
  cases v <;> first | rfl | skip
  rename_i vs k2 pt2
  unfold noSwap at h
  simp only [Bool.or_eq_true, Bool.not_eq_true', bne_iff_ne] at h
  simp only [swappedStores]
  split
  · rfl
  · rename_i h1
    split
    · rfl
    · rename_i h2
      split
      · rfl
      · rename_i h3
        rcases h with ((h | h) | h) | h
        · exact absurd (by rw [h]; simp) h1
        · exact absurd (by simp [h]) h1
        · refine absurd ?_ h3
          rw [Bool.or_eq_true]
          refine .inl (bne_iff_ne.mpr (Nat.ne_of_lt (names_short (env := env) _ ((ts.head?.map (·.pos.line)).getD 0) ?_ ts h)))
          intro e; cases e <;> rfl
        · rw [if_pos h]
/-! ### statements -/
theorem PSs.cons_ok {st : Stmt} {rest : List Stmt} {a b : S} (h1 : PS X st (TSo p cl Ex G fr a)) (h2 : PSs X rest (TSo p cl Ex G fr b)) : PSs X (st :: rest) (TSo p cl Ex G fr (.seq a b)) :=
  PSs.weak (pss_cons h1 h2) fun D σ H ⟨F, env, r, q⟩ => ⟨F, env, r, by
    unfold evS at q
    cases e : evS G fr a env with
    | nx e1 =>
      rw [e] at q
      exact fun σ' F' H' r' s' => ⟨F', e1, r', Ps.mono q s'⟩
    | rt d e1 => rw [e] at q; exact q
    | bk e1 => rw [e] at q; exact q
    | ct e1 => rw [e] at q; exact q
    | exc c => rw [e] at q; exact q
    | bot => rw [e] at q; exact q⟩
structure Oks (G : Genv) (N : List Str) (fr : Bool) (m : S) : Prop where
  s : ∀ {X : Cx} {p : Pm} {cl : Str → Value} {CX : CXT} {Ex : XK} {sc : Scope}, Cxt p G cl CX Ex sc X → X.N = N → HRaw X sc → PassesOwn (model X.prog X.w) X.A X.env X.xe → ∀ st, okS G N sc m (.s st) = true → PS X st (TSo p cl Ex G fr m)
  b : ∀ {X : Cx} {p : Pm} {cl : Str → Value} {CX : CXT} {Ex : XK} {sc : Scope}, Cxt p G cl CX Ex sc X → X.N = N → HRaw X sc → PassesOwn (model X.prog X.w) X.A X.env X.xe → ∀ sts, okS G N sc m (.b sts) = true → PSs X sts (TSo p cl Ex G fr m)
variable {N : List Str}
theorem Oks.mk1 {m : S} (hb : ∀ sc sts, okS G N sc m (.b sts) = false)
    (h : ∀ {X : Cx} {p : Pm} {cl : Str → Value} {CX : CXT} {Ex : XK} {sc : Scope}, Cxt p G cl CX Ex sc X → X.N = N → HRaw X sc → PassesOwn (model X.prog X.w) X.A X.env X.xe → ∀ st, okS G N sc m (.s st) = true → PS X st (TSo p cl Ex G fr m)) : Oks G N fr m :=
  ⟨h, fun _ _ _ _ sts z => by rw [hb] at z; cases z⟩
theorem Rel.lt {env : En} {σ : L2.St} {F H : Hp} (r : Rel p env σ F H) {i : Nat} (h : i < env.length) : i < σ.length := by rw [← r.len]; exact h
/-- d[k] = v -/
def tDput (X : Cx) (i : Nat) (ty tv : TE) : TS := fun D σ H => tv σ H fun v H1 => ∃ a, σ[i]? = some (some (V.ref a)) ∧ ty σ H1 fun y H2 => ∃ b ks ys, DicK X H2 a ys ∧ ys.length ≤ sizeLine ∧ y = .ref b ∧ SqT X.K H2 b (ks.map kV) ∧
  ∀ es ep u, RelV v u → es.toList = (storedH ys ks b u).map (entryOfKey (tk X)) → ((storedH ys ks b u).map (·.1)).Nodup → D.nx σ (upd H2 a (dicO a es ep))
theorem ps_dput1 {i : Nat} {x : Str} {px pos pos' : Pos} {ik value : PySem.Expr} {ty tv : TE} (hu : X.A.units + 1 < cLine) (hx : PE X (.Name x px) (tVar i)) (hi : PE X ik ty) (hv : PE X value tv) (hs : swapsWith value (some (.Subscript (.Name x px) ik pos')) pos.line X.env = pure false) :
    PS X (.Assign [.Subscript (.Name x px) ik pos'] value pos) (tDput X i ty tv) := by
  refine ⟨fun pins s σ H D I h => ?_⟩
  refine wpAny_Assign_Subscript (thn (hv.run pins s σ H _ I h) fun r s1 ⟨v, H1, I1, rv, a, e1, q1⟩ => thn (hx.run pins s1 σ H1 (fun v H2 => v = .ref a ∧ H2 = H1) I1 ⟨_, e1, rfl, rfl⟩) fun u s2 ⟨x, H2, I2, rx, e3, e4⟩ => ?_) hs
  subst e3; subst e4
  obtain rfl : u = Value.ref a := rx
  refine thn (hi.run pins s2 σ _ _ I2 q1) fun iv s3 ⟨y, H3, I3, ry, b, ks, ys, dk, hl, ey, hky, q2⟩ => ?_
  subst ey
  obtain rfl : iv = Value.ref b := ry
  exact dic_set hu I3 dk hky hl fun es ep s4 g1 g2 I4 => ⟨σ, _, I4, q2 es ep r rv g1 g2⟩
theorem oks (m : S) : Oks G N fr m := by
  induction m with
  | nil =>
    refine ⟨fun _ _ _ _ st h => (by cases h), fun {X p cl CX Ex sc} C hN hr hp sts h => ?_⟩
    cases sts with
    | nil => exact PSs.weak pss_nil fun D σ H ⟨F, env, r, q⟩ => q σ F H r (Same.refl F)
    | cons _ _ => cases h
  | seq a b iha ihb =>
    refine ⟨fun _ _ _ _ st h => (by cases h), fun {X p cl CX Ex sc} C hN hr hp sts h => ?_⟩
    cases sts with
    | nil => cases h
    | cons st rest =>
      have h : (okS G N sc a (.s st) && okS G N sc b (.b rest)) = true := h
      simp only [Bool.and_eq_true] at h
      exact PSs.cons_ok (iha.s C hN hr hp _ h.1) (ihb.b C hN hr hp _ h.2)
  | skip =>
    refine .mk1 (fun _ _ => rfl) fun {X p cl CX Ex sc} C hN hr hp st h => ?_
    unfold okS cSkip at h
    split at h
    · rename_i z; cases z
      exact PS.weak ps_pass fun D σ H ⟨F, env, r, q⟩ => q σ F H r (Same.refl F)
    · rename_i z; cases z
      exact PS.weak ps_doc fun D σ H ⟨F, env, r, q⟩ => q σ F H r (Same.refl F)
    · cases h
  | set o i e =>
    refine .mk1 (fun _ _ => rfl) fun {X p cl CX Ex sc} C hN hr hp st h => ?_
    unfold okS cSet at h
    split at h
    · rename_i z; cases z
      rename_i x px v pos
      simp only [Bool.and_eq_true] at h
      obtain ⟨⟨⟨⟨h1, h2⟩, h3⟩, h4⟩, h5⟩ := h
      subst hN
      refine PS.weak (p_set C hr h1 h2 h4 h5) fun D σ H ⟨F, env, r, q⟩ => ?_
      unfold evS at q
      refine TB.pend o (fun z => ?_) r ((Ps.after q).imp fun d env1 F1 H1 r1 s1 q1 v pv => ?_)
      · rw [z] at h3; exact h3
      · obtain ⟨e2, h6, q2⟩ := Ps.oNx q1
        obtain ⟨rfl, hi, hb⟩ := setS_some h6
        exact q2 _ F1 H1 (r1.setSl pv hi hb).1 (Same.refl _)
    · cases h
  | asg t e =>
    refine .mk1 (fun _ _ => rfl) fun {X p cl CX Ex sc} C hN hr hp st h => ?_
    unfold okS cAsg at h
    split at h
    · rename_i z; cases z
      rename_i es k pt v pos
      simp only [Bool.and_eq_true] at h
      obtain ⟨⟨h1, h2⟩, h3⟩ := h
      subst hN
      refine PS.weak (ps_asg ((okx e).a C rfl _ h3).r ((g_ok C.calm C.nd C.k hr t).1 _ h1) sw_tup (no_swap h2) rfl) fun D σ H ⟨F, env, r, q⟩ => ?_
      unfold evS at q
      refine ⟨F, env, r, (Ps.after q).imp fun d env1 F1 H1 r1 s1 q1 v hv => ?_⟩
      obtain ⟨e2, h6, q2⟩ := Ps.oNx q1
      exact ⟨F1, env1, d, e2, r1, hv, h6, fun σ' r' _ _ => q2 σ' F1 H1 r' (Same.refl _)⟩
    · cases h
  | par2 i o a j o2 b =>
    refine .mk1 (fun _ _ => rfl) fun {X p cl CX Ex sc} C hN hr hp st h => ?_
    unfold okS cPar2 at h
    split at h
    · rename_i z; cases z
      rename_i x px y py kt pt ea eb k2 pt2 pos
      simp only [Bool.and_eq_true, bne_iff_ne, Bool.not_eq_true', beq_iff_eq] at h
      obtain ⟨⟨⟨⟨⟨⟨⟨⟨⟨⟨⟨⟨⟨⟨h1, h2⟩, h3⟩, h4⟩, h5⟩, h6⟩, h7⟩, h8⟩, h9⟩, h10⟩, h11⟩, h12⟩, h13⟩, h14⟩, h15⟩ := h
      subst hN
      have hlx := localB_of h3
      have hly := localB_of h4
      rw [← C.sc] at hlx hly
      have hw := swap_gen (env := X.env) (xs := [(x, px), (y, py)]) (vs := [ea, eb]) (kt := kt) (pt := pt) (k2 := k2) (pt2 := pt2) C.kind (.inl rfl) rfl
        (by intro z hz; simp only [List.mem_cons, List.mem_nil_iff, or_false] at hz; rcases hz with rfl | rfl; exact ⟨hlx, rfl⟩; exact ⟨hly, h5⟩) (dups2 h7) (by simp [h8, h9]) (by simpa using h10) (by simpa using h11)
      refine PS.weak (ps_par C.calm C.nd (nm_at h1).1 (nm_at h2).1 h6 hlx hly (pa_cons ((okx a).a C rfl _ h14) (pa_cons ((okx b).a C rfl _ h15) pa_nil (star_cons h9)) (star_cons h8)) hw rfl) fun D σ H ⟨F, env, r, q⟩ => ?_
      unfold evS at q
      refine TB.pend o (fun z => by rw [z] at h12; exact h12) r ((Ps.after q).imp fun d env1 F1 H1 r1 s1 q1 v pv => ?_)
      refine TB.pend o2 (fun z => by rw [z] at h13; exact h13) r1 ((Ps.after q1).imp fun d2 env2 F2 H2 r2 s2 q2 u pu => ?_)
      obtain ⟨e2, h16, q3⟩ := Ps.oNx q2
      cases h17 : setS env2 i (mkSl o d) with
      | none => rw [h17] at h16; cases h16
      | some e3 =>
        rw [h17] at h16
        obtain ⟨rfl, hi, hb⟩ := setS_some h17
        obtain ⟨rfl, hj, hb2⟩ := setS_some h16
        have pv2 := pv.step s2
        obtain ⟨r3, o3⟩ := r2.setSl pv2 hi hb
        have pu2 := pu.set o3 fun a z1 z2 => pv.there a z1 z2
        obtain ⟨r4, o4⟩ := r3.setSl pu2 hj hb2
        exact ⟨v, u, rfl, q3 _ F2 H2 r4 (Same.refl _)⟩
    · cases h
  | par3 i o a j oq b k w c =>
    refine .mk1 (fun _ _ => rfl) fun {X p cl CX Ex sc} C hN hr hp st h => ?_
    unfold okS cPar3 at h
    split at h
    · rename_i z; cases z
      rename_i x px y py z pz kt pt ea eb ec k2 pt2 pos
      simp only [Bool.and_eq_true, bne_iff_ne, Bool.not_eq_true', beq_iff_eq] at h
      obtain ⟨⟨⟨⟨⟨⟨⟨⟨⟨⟨⟨⟨⟨⟨⟨⟨⟨⟨⟨⟨⟨⟨⟨⟨h1, h2⟩, h3⟩, l1⟩, l2⟩, l3⟩, g1⟩, g2⟩, n1⟩, n2⟩, n3⟩, m1⟩, m2⟩, m3⟩, s1⟩, s2⟩, s3⟩, hf⟩, hc⟩, o1⟩, o2⟩, o3⟩, a1⟩, a2⟩, a3⟩ := h
      subst hN
      have hlx := localB_of l1
      have hly := localB_of l2
      have hlz := localB_of l3
      rw [← C.sc] at hlx hly hlz
      have hw := swap_gen (env := X.env) (xs := [(x, px), (y, py), (z, pz)]) (vs := [ea, eb, ec]) (kt := kt) (pt := pt) (k2 := k2) (pt2 := pt2) C.kind (.inr rfl) rfl
        (by intro z hz; simp only [List.mem_cons, List.mem_nil_iff, or_false] at hz; rcases hz with rfl | rfl | rfl; exact ⟨hlx, rfl⟩; exact ⟨hly, g1⟩; exact ⟨hlz, g2⟩) (dups3 m1 m2 m3) (by simp [s1, s2, s3]) (by simpa [Bool.and_assoc] using hf) (by simpa [Bool.and_assoc] using hc)
      refine PS.weak (ps_par3 C.calm C.nd (nm_at h1).1 (nm_at h2).1 (nm_at h3).1 n1 n2 n3 hlx hly hlz (pa_cons ((okx a).a C rfl _ a1) (pa_cons ((okx b).a C rfl _ a2) (pa_cons ((okx c).a C rfl _ a3) pa_nil (star_cons s3)) (star_cons s2)) (star_cons s1)) hw rfl) fun D σ H ⟨F, env, r, q⟩ => ?_
      unfold evS at q
      refine TB.pend o (fun z => by rw [z] at o1; exact o1) r ((Ps.after q).imp fun d env1 F1 H1 r1 s1 q1 v pv => ?_)
      refine TB.pend oq (fun z => by rw [z] at o2; exact o2) r1 ((Ps.after q1).imp fun d2 env2 F2 H2 r2 s2 q2 u pu => ?_)
      refine TB.pend w (fun z => by rw [z] at o3; exact o3) r2 ((Ps.after q2).imp fun d3 env3 F3 H3 r3 s3 q3 t pt => ?_)
      obtain ⟨e2, h16, q4⟩ := Ps.oNx q3
      cases h17 : setS env3 i (mkSl o d) with
      | none => rw [h17] at h16; cases h16
      | some e4 =>
        rw [h17] at h16
        replace h16 : ((setS e4 j (mkSl oq d2)).bind fun e5 => setS e5 k (mkSl w d3)) = some e2 := h16
        cases h18 : setS e4 j (mkSl oq d2) with
        | none => rw [h18] at h16; cases h16
        | some e5 =>
          rw [h18] at h16
          obtain ⟨rfl, hi, hb⟩ := setS_some h17
          obtain ⟨rfl, hj, hb2⟩ := setS_some h18
          obtain ⟨rfl, hk, hb3⟩ := setS_some h16
          have pv2 := (pv.step s2).step s3
          have pu2 := pu.step s3
          obtain ⟨r4, ow4⟩ := r3.setSl pv2 hi hb
          have pu3 := pu2.set ow4 fun a z1 z2 => pv.there a z1 z2
          have pt3 := pt.set ow4 fun a z1 z2 => (pv.step s2).there a z1 z2
          obtain ⟨r5, ow5⟩ := r4.setSl pu3 hj hb2
          have pt4 := pt3.set ow5 fun a z1 z2 => pu.there a z1 z2
          obtain ⟨r6, ow6⟩ := r5.setSl pt4 hk hb3
          exact ⟨v, u, t, rfl, q4 _ F3 H3 r6 (Same.refl _)⟩
    · cases h
  | parT t a j o2 b =>
    refine .mk1 (fun _ _ => rfl) fun {X p cl CX Ex sc} C hN hr hp st h => ?_
    unfold okS cParT at h
    split at h
    · rename_i z; cases z
      rename_i tg y py kt pt ea eb k2 pt2 pos
      simp only [Bool.and_eq_true, Bool.not_eq_true'] at h
      obtain ⟨⟨⟨⟨⟨⟨⟨⟨h1, h2⟩, h3⟩, h4⟩, h5⟩, h6⟩, h7⟩, h8⟩, h9⟩ := h
      subst hN
      obtain ⟨n1, n2, n3⟩ := nm_at h2
      obtain ⟨l1, l2⟩ := hr _ h3
      have ea1 : ∀ es : List PySem.Expr, assignEach (tg :: es) X.env = (false, assign tg X.env) :: assignEach es X.env := fun es => by
        have h1 := h1
        cases t <;> cases tg <;> first | rfl | (unfold okG at h1; cases h1)
      have hlen : (assignEach [tg, .Name y py] X.env).length = 2 := by rw [ea1]; rfl
      have hst : (assignEach [tg, .Name y py] X.env).findIdx? (·.1) = none := by rw [ea1]; rfl
      refine PS.weak (ps_asg (pe_tup (pa_cons ((okx a).a C rfl _ h8).r (pa_cons ((okx b).a C rfl _ h9) pa_nil (star_cons h6)) (star_cons h5))) (pg_tup (n := 2) C.calm (pgs_cons ((g_ok C.calm C.nd C.k hr t).1 _ h1) (pgs_cons (pg_name C.nd n1 l1 l2) pgs_nil rfl) (by rw [ea1]; rfl)) hlen hst) sw_tup (no_swap h4) rfl) fun D σ H ⟨F, env, r, q⟩ => ?_
      unfold evS at q
      refine ⟨F, env, r, (Ps.after q).imp fun d env1 F1 H1 r1 s1 q1 v pv => ?_⟩
      refine TB.pend o2 (fun z => by rw [z] at h7; exact h7) r1 ((Ps.after q1).imp fun d2 env2 F2 H2 r2 s2 q2 u pu => ?_)
      obtain ⟨e2, h16, q3⟩ := Ps.oNx q2
      refine ⟨by show 2 ≤ sizeLine; rw [PySem.sizeLine_eq]; decide, fun w hw => ?_⟩
      have r3 := r2.alloc (o := .tup [v, u]) hw
      cases h17 : asgT t d env2 with
      | none => rw [h17] at h16; cases h16
      | some e3 =>
        rw [h17] at h16
        obtain ⟨rfl, hj, hb2⟩ := setS_some h16
        refine ⟨w, [v, u], rfl, SqT.of upd_same, rfl, v, [u], rfl, F2, env2, d, e3, r3, pv.mono s2.sub, h17, fun σ3 r4 o4 _ => ?_⟩
        have pu3 := pu.step (Step.alloc (env := env2) (σ := σ) (F := F2) (o := .tup [v, u]) hw)
        have pu4 : Pend p e3 σ3 H1 F2 (upd H2 w (.tup [v, u])) (mkSl o2 d2) u := by
          cases hm : mkSl o2 d2 with
          | no => rw [hm] at pu3; exact pu3
          | bor l => rw [hm] at pu3; exact pu3
          | pd d => rw [hm] at pu3; exact pu3
          | own l =>
            rw [hm] at pu3
            obtain ⟨a, xs, g0, g1, g2, g3, g4, g5, g6⟩ := pu3
            exact ⟨a, xs, g0, g1, g2, g3, g4, fun z => g5 (o4 a z), g6⟩
          | dic kvs =>
            rw [hm] at pu3
            obtain ⟨a, g0, g1, g2, g3, g4, g5⟩ := pu3
            exact ⟨a, g0, g1, g2, g3, fun z => g4 (o4 a z), g5⟩
          | dik kvs =>
            rw [hm] at pu3
            obtain ⟨a, g0, g1, g2, g3, g4, g5⟩ := pu3
            exact ⟨a, g0, g1, g2, g3, fun z => g4 (o4 a z), g5⟩
        obtain ⟨r5, o5⟩ := r4.setSl pu4 hj hb2
        exact ⟨u, [], rfl, ⟨rfl, q3 _ F2 _ r5 (Same.refl _)⟩⟩
    · cases h
  | dnew i =>
    refine .mk1 (fun _ _ => rfl) fun {X p cl CX Ex sc} C hN hr hp st h => ?_
    unfold okS cDnew at h
    split at h
    · rename_i z; cases z
      rename_i x px pd pos
      simp only [Bool.and_eq_true] at h
      obtain ⟨h1, h2⟩ := h
      subst hN
      obtain ⟨n1, n2, n3⟩ := nm_at h1
      obtain ⟨l1, l2⟩ := hr _ h2
      refine PS.weak (ps_set C.nd n1 l1 pe_dnewD (sw_no rfl) l2) fun D σ H ⟨F, env, r, q⟩ => ?_
      unfold evS at q
      obtain ⟨e2, h6, q2⟩ := Ps.oNx q
      obtain ⟨rfl, hi, hb⟩ := setS_some h6
      intro a ha
      have r1 := r.alloc (o := dicO a #[] 0) ha
      have pd : Pend p env σ H F (upd H a (dicO a #[] 0)) (.dic []) (.ref a) := ⟨a, rfl, none_of_same r.hr.sub ha, Decidable.byContradiction fun z => r.hr.there a z ha, ha, r.not_own ha, #[], 0, [], upd_same, rfl, List.nodup_nil, .nil⟩
      exact q2 _ F _ (r1.setSl pd hi hb).1 (Same.refl _)
    · cases h
  | dput i k e =>
    refine .mk1 (fun _ _ => rfl) fun {X p cl CX Ex sc} C hN hr hp st h => ?_
    unfold okS cDput at h
    split at h
    · rename_i z; cases z
      rename_i x px ix ps v pos
      simp only [Bool.and_eq_true] at h
      obtain ⟨⟨⟨h1, h2⟩, h3⟩, h4⟩ := h
      subst hN
      obtain ⟨n1, n2, n3⟩ := nm_at h1
      refine PS.weak (ps_dput1 (by have := C.un; omega) (pe_var n1 (vis_of C.sc h2) n2 n3) ((okx k).a C rfl _ h3).r ((okx e).a C rfl _ h4).r (sw_far fun _ _ z => nomatch z)) fun D σ H ⟨F, env, r, q⟩ => ?_
      unfold evS dputS at q
      refine ⟨F, env, r, (Ps.after q).imp fun d env1 F1 H1 r1 s1 q1 v hv => ?_⟩
      split at q1
      case isFalse => exact q1.elim
      rename_i hi
      obtain ⟨kvs0, hk0⟩ := Option.isSome_iff_exists.mp hi
      obtain ⟨a, ys0, _, g1, _, _, _⟩ := dic_rel C r1 hk0
      refine ⟨a, g1, F1, env1, r1, (Ps.after q1).imp fun kd env2 F2 H2 r2 s2 q2 y hy => ?_⟩
      split at q2
      · rename_i kvs ks e1 e2
        split at q2
        · rename_i hlen
          obtain ⟨a', ys, he, g1', _, g2, g3⟩ := dic_rel C r2 e1
          rw [g1] at g1'; cases g1'
          obtain ⟨b, rfl, hb⟩ := rp_key e2 hy
          refine ⟨b, ks, ys, g2, by rw [← Paired.length g3]; omega, rfl, by rw [C.k]; exact sqt_same r2.hr.sub hb, fun es ep u hu w1 w2 => ?_⟩
          exact q2 σ F2 _ (r2.writeD he rfl rfl g1 ⟨es, ep, _, rfl, by rw [w1, C.hs]; rfl, w2, KyR.put g3 ks hb hu (hv.mono s2.sub)⟩) (Same.refl _)
        · exact q2.elim
      · exact q2.elim
    · cases h
  | knew i =>
    refine .mk1 (fun _ _ => rfl) fun {X p cl CX Ex sc} C hN hr hp st h => ?_
    unfold okS cDnew at h
    split at h
    · rename_i z; cases z
      rename_i x px pd pos
      simp only [Bool.and_eq_true] at h
      obtain ⟨h1, h2⟩ := h
      subst hN
      obtain ⟨n1, n2, n3⟩ := nm_at h1
      obtain ⟨l1, l2⟩ := hr _ h2
      refine PS.weak (ps_set C.nd n1 l1 pe_dnewK (sw_no rfl) l2) fun D σ H ⟨F, env, r, q⟩ => ?_
      unfold evS at q
      obtain ⟨e2, h6, q2⟩ := Ps.oNx q
      obtain ⟨rfl, hi, hb⟩ := setS_some h6
      intro a ha
      have r1 := r.alloc (o := .dK []) ha
      have pd : Pend p env σ H F (upd H a (.dK [])) (.dik []) (.ref a) := ⟨a, rfl, none_of_same r.hr.sub ha, Decidable.byContradiction fun z => r.hr.there a z ha, ha, r.not_own ha, [], upd_same, .nil⟩
      exact q2 _ F _ (r1.setSl pd hi hb).1 (Same.refl _)
    · cases h
  | kupd i e =>
    refine .mk1 (fun _ _ => rfl) fun {X p cl CX Ex sc} C hN hr hp st h => ?_
    unfold okS cKupd at h
    split at h
    · rename_i z; cases z
      rename_i x px m ap f p2 v q2 cp pos
      simp only [Bool.and_eq_true, beq_iff_eq, Bool.not_eq_true'] at h
      obtain ⟨⟨⟨⟨⟨⟨⟨h1, h2⟩, h3⟩, h4⟩, h5⟩, h6⟩, h7⟩, h8⟩ := h
      subst hN h1 h2
      obtain ⟨n1, n2, n3⟩ := nm_at h4
      refine PS.weak (ps_expr (pe_kupd (pe_var n1 (vis_of C.sc h5) n2 n3) (beq_iff_eq.mpr h6) rfl (pe_callTy (call_dictP C.calm) (gl_of C.sc h3) (C.blt _ (by decide +kernel)) (by decide +kernel) (pa_cons ((okx e).a C rfl _ h8).r pa_nil (star_cons h7)) (by decide) (by decide) (star_cons h7) rfl))) fun D σ H ⟨F, env, r, q⟩ => ?_
      unfold evS kupdS at q
      split at q
      case isFalse => exact q.elim
      rename_i hi
      obtain ⟨kvs0, hk0⟩ := Option.isSome_iff_exists.mp hi
      obtain ⟨a, ys0, _, g1, _, g2, _⟩ := dik_rel r hk0
      refine ⟨a, g1, ⟨_, g2⟩, F, env, r, (Ps.after q).imp fun d e1 F1 H1 r1 s1 q1 w hw => ?_⟩
      split at q1
      case h_2 => exact q1.elim
      rename_i kvs more k1 k2
      split at q1
      case isFalse => exact q1.elim
      rename_i hlen
      obtain ⟨a', ys, he, g1', _, g3, g4⟩ := dik_rel r1 k1
      rw [g1] at g1'; cases g1'
      unfold prsOf at k2
      split at k2
      case h_2 => cases k2
      rename_i l
      cases hw with
      | lst hq hr2 =>
        rename_i b xs
        obtain ⟨ps, ms, w1, w2, w3⟩ := pairs_rp k2 hr2
        subst w1
        refine ⟨b, ps, ms, rfl, by rw [C.k]; exact sql_same r1.hr.sub hq, Paired.mapP w2 fun x y z => by rw [C.k]; exact sqt_same r1.hr.sub z, fun t ht => ?_⟩
        have r2 := r1.alloc (o := .dK (mergeK [] ms)) ht
        have hat : a ≠ t := ne_of_none g3 ht
        have lm : ms.length = more.length := (Paired.length w3).symm
        have ly : ys.length = kvs.length := (Paired.length g4).symm
        refine ⟨t, ys, mergeK [] ms, rfl, hat, by rw [upd_ne hat]; exact g3, upd_same, ?_, ?_⟩
        · have := length_mergeK ms []
          rw [List.length_nil] at this
          omega
        · exact q1 σ F1 _ (r2.writeD he rfl rfl g1 ⟨_, rfl, KqR.merge (KqR.merge w3 .nil) g4⟩) (Same.refl _)
    · cases h
  | parD i k v j o2 b =>
    refine .mk1 (fun _ _ => rfl) fun {X p cl CX Ex sc} C hN hr hp st h => ?_
    unfold okS cParD at h
    split at h
    · rename_i z; cases z
      rename_i x px y py kt pt ek ev0 pd eb k2 pt2 pos
      simp only [Bool.and_eq_true, bne_iff_ne, Bool.not_eq_true', beq_iff_eq] at h
      obtain ⟨⟨⟨⟨⟨⟨⟨⟨⟨⟨⟨⟨⟨h1, h2⟩, h3⟩, h4⟩, h5⟩, h6⟩, h7⟩, h9⟩, h10⟩, h11⟩, h13⟩, h14⟩, h15⟩, h16⟩ := h
      subst hN
      have hlx := localB_of h3
      have hly := localB_of h4
      rw [← C.sc] at hlx hly
      have hw := swap_gen (env := X.env) (xs := [(x, px), (y, py)]) (vs := [.Dict [some ek] [ev0] pd, eb]) (kt := kt) (pt := pt) (k2 := k2) (pt2 := pt2) C.kind (.inl rfl) rfl
        (by intro z hz; simp only [List.mem_cons, List.mem_nil_iff, or_false] at hz; rcases hz with rfl | rfl; exact ⟨hlx, rfl⟩; exact ⟨hly, h5⟩) (dups2 h7) (by rw [List.any_cons, List.any_cons, h9]; rfl) (by simpa using h10) (by simpa using h11)
      refine PS.weak (ps_par C.calm C.nd (nm_at h1).1 (nm_at h2).1 h6 hlx hly (pa_cons (pe_disp1 (by have := C.un; omega) ((okx k).a C rfl _ h14).r ((okx v).a C rfl _ h15).r) (pa_cons ((okx b).a C rfl _ h16) pa_nil (star_cons h9)) rfl) hw rfl) fun D σ H ⟨F, env, r, q⟩ => ?_
      unfold evS parDS at q
      intro a ha
      have r0 := r.alloc (o := dicO a #[] 0) ha
      have d0 : p.H0 a = none := Decidable.byContradiction fun z => r.hr.there a z ha
      have hF := none_of_same r.hr.sub ha
      have no := r.not_own ha
      refine ⟨F, env, r0, (Ps.after q).imp fun kd env1 F1 H1 r1 s1 q1 y py => ?_⟩
      refine ⟨F1, env1, r1, (Ps.after q1).imp fun vd env2 F2 H2 r2 s2 q2 w pw => ?_⟩
      split at q2
      · rename_i ks hk
        obtain ⟨c, rfl, hc⟩ := rp_key hk py
        have a1 : H1 a = some (dicO a #[] 0) := s1.keep a _ upd_same no
        have no1 : ¬ Own env1 σ a := fun z => no (s1.owl a z)
        have a2 : H2 a = some (dicO a #[] 0) := s2.keep a _ a1 no1
        have no2 : ¬ Own env2 σ a := fun z => no1 (s2.owl a z)
        have f1 : F1 a = none := (s1.kf a (by rw [upd_same]; intro z; cases z) no).trans hF
        have f2 : F2 a = none := (s2.kf a (by rw [a1]; intro z; cases z) no1).trans f1
        have hc2 := sqt_same s2.sub hc
        refine ⟨c, ks, a2, rfl, by rw [C.k]; exact sqt_same r2.hr.sub hc2, fun es ep u ru w1 => ?_⟩
        have r3 := r2.poke (o := dicO a es ep) d0 f2 no2
        have pv : Pend p env2 σ H F2 (upd H2 a (dicO a es ep)) (.dic [(ks, vd)]) (.ref a) :=
          ⟨a, rfl, f2, d0, ha, no2, es, ep, [(ks, c, u)], upd_same, by rw [w1, C.hs]; rfl, by simp, .cons ⟨rfl, hc2, w, ru, pw⟩ .nil⟩
        refine TB.pend o2 (fun z => by rw [z] at h13; exact h13) r3 ((Ps.after q2).imp fun d2 env3 F3 H3 r4 s3 q3 u2 pu => ?_)
        obtain ⟨e2, h18, q4⟩ := Ps.oNx q3
        cases h17 : setS env3 i (.dic [(ks, vd)]) with
        | none => rw [h17] at h18; cases h18
        | some e3 =>
          rw [h17] at h18
          obtain ⟨rfl, hi, hb⟩ := setS_some h17
          obtain ⟨rfl, hj, hb2⟩ := setS_some h18
          have pv2 := pv.step s3
          obtain ⟨r5, o3⟩ := r4.setSl pv2 hi hb
          have pu2 := pu.set o3 fun a z1 z2 => pv.there a z1 z2
          obtain ⟨r6, o4⟩ := r5.setSl pu2 hj hb2
          exact ⟨.ref a, u2, rfl, q4 _ F3 H3 r6 (Same.refl _)⟩
      · exact q2.elim
    · cases h
  | aug i sub e =>
    refine .mk1 (fun _ _ => rfl) fun {X p cl CX Ex sc} C hN hr hp st h => ?_
    unfold okS cAug at h
    split at h
    · rename_i z; cases z
      rename_i x px op v pos
      simp only [Bool.and_eq_true] at h
      obtain ⟨⟨⟨h1, h2⟩, h3⟩, h4⟩ := h
      subst hN
      obtain ⟨l1, l2⟩ := hr _ h3
      have red : ∀ {ti : TIp}, PIp X op ti → (∀ x y : Int, ∀ H1 (Q : VK), Q (.int (if sub then x - y else x + y)) H1 → ti (.int x) (.int y) H1 Q) → PS X (.AugAssign (.Name x px) op v pos) (TSo p cl Ex G fr (.aug i sub e)) := fun {ti} hip hti => by
        refine PS.weak (ps_aug C.nd (nm_at h2).1 l1 ((okx e).a C rfl _ h4).r hip l2) fun D σ H ⟨F, env, r, q⟩ => ?_
        unfold evS at q
        split at q
        · rename_i x0 he
          obtain ⟨vx, e1, e2⟩ := r.pdo i x0 he
          refine ⟨vx, e1, F, env, r, (Ps.after q).imp fun d env1 F1 H1 r1 s1 q1 v hv => ?_⟩
          cases ha : augD sub x0 d with
          | none => rw [ha] at q1; exact q1.elim
          | some z =>
            rw [ha] at q1
            obtain ⟨e3, h6, q2⟩ := Ps.oNx q1
            obtain ⟨rfl, hi, hb⟩ := setS_some h6
            unfold augD at ha
            split at ha
            · cases ha
              cases e2
              cases hv
              exact hti _ _ _ _ (q2 _ F1 H1 (r1.setPd (.int _) hi hb).1 (Same.refl _))
            · cases ha
        · exact q.elim
      cases sub with
      | true =>
        cases op <;> first | (cases h1; done) | skip
        exact red ip_sub fun x y H1 Q hq => ⟨x, y, rfl, rfl, hq⟩
      | false =>
        cases op <;> first | (cases h1; done) | skip
        exact red ip_add fun x y H1 Q hq => ⟨x, y, rfl, rfl, hq⟩
    · cases h
  | expr e =>
    refine .mk1 (fun _ _ => rfl) fun {X p cl CX Ex sc} C hN hr hp st h => ?_
    unfold okS cExpr at h
    split at h
    · rename_i z; cases z
      simp only [Bool.and_eq_true, Option.isNone_iff_eq_none] at h
      refine PS.weak (ps_expr ((okx e).a C hN _ h.2).r (sw_no h.1)) fun D σ H ⟨F, env, r, q⟩ => ?_
      unfold evS at q
      exact ⟨F, env, r, (Ps.after q).imp fun d env1 F1 H1 r1 s1 q1 v hv => q1 σ F1 H1 r1 (Same.refl _)⟩
    · cases h
  | app i e =>
    refine .mk1 (fun _ _ => rfl) fun {X p cl CX Ex sc} C hN hr hp st h => ?_
    unfold okS cApp at h
    split at h
    · rename_i z; cases z
      rename_i x px m ap v cp pos
      simp only [Bool.and_eq_true, beq_iff_eq, Bool.not_eq_true'] at h
      obtain ⟨⟨⟨⟨⟨h1, h2⟩, h3⟩, h4⟩, h5⟩, h6⟩ := h
      subst hN h1
      obtain ⟨n1, n2, n3⟩ := nm_at h2
      have hst : starEach [v] X.env = (false, eval v X.env) :: starEach [] X.env := star_cons h5
      refine PS.weak (ps_expr (pe_bm PySem.F.plainAttrs_list PySem.F.slot_list_append PySem.F.type_list_append mt_append (pe_var n1 (vis_of C.sc h3) n2 n3) (pa_cons ((okx e).a C rfl _ h6).r pa_nil hst) rfl (by rw [hst]; rfl) (beq_iff_eq.mpr h4) hst rfl) rfl) fun D σ H ⟨F, env, r, q⟩ => ?_
      unfold evS at q
      split at q
      · rename_i hh
        obtain ⟨l0, hl0⟩ := Option.isSome_iff_exists.mp hh
        obtain ⟨a, xs, e1, e2, e3, e4⟩ := r.owo i l0 hl0
        refine ⟨.ref a, e1, .inl ⟨rfl, _, .inl (.inl e2)⟩, F, env, r, (Ps.after q).imp fun d env1 F1 H1 r1 s1 q1 v hv => ?_⟩
        cases hl : heldAt env1 i with
        | none => rw [hl] at q1; exact q1.elim
        | some l =>
          rw [hl] at q1
          dsimp only at q1
          split at q1
          · rename_i hz
            obtain ⟨a1, xs1, g1, g2, g3, g4⟩ := r1.owo i l hl
            rw [e1] at g1; cases g1
            obtain ⟨s, es, hs⟩ := setHeld_cases hl (l ++ [d])
            obtain ⟨r2, s2⟩ := r1.write hl hs e1 (g4.snoc hv)
            rw [← es] at r2
            exact ⟨a, xs1, v, rfl, rfl, g2, by rw [g4.length]; exact hz, q1 σ F1 _ r2 (Same.refl _)⟩
          · exact q1.elim
      · exact q.elim
    · cases h
  | seti i ix e =>
    refine .mk1 (fun _ _ => rfl) fun {X p cl CX Ex sc} C hN hr hp st h => ?_
    unfold okS cSeti at h
    split at h
    · rename_i z; cases z
      rename_i x px ei ps v pos
      simp only [Bool.and_eq_true] at h
      obtain ⟨⟨⟨⟨h1, h2⟩, h3⟩, h4⟩, h5⟩ := h
      subst hN
      obtain ⟨n1, n2, n3⟩ := nm_at h1
      refine PS.weak (ps_asg ((okx e).a C rfl _ h5).r (pg_sub (pe_var n1 (vis_of C.sc h2) n2 n3) ((okx ix).a C rfl _ h4).r set_list ?_) sw_sub ?_ rfl) fun D σ H ⟨F, env, r, q⟩ => ?_
      · intro v; cases ei <;> first | rfl | (cases h3; done)
      · cases v <;> rfl
      · unfold evS at q
        refine ⟨F, env, r, (Ps.after q).imp fun d env1 F1 H1 r1 s1 q1 v hv => ?_⟩
        split at q1
        · rename_i hh
          obtain ⟨l0, hl0⟩ := Option.isSome_iff_exists.mp hh
          obtain ⟨a, xs, e1, e2, e3, e4⟩ := r1.owo i l0 hl0
          refine ⟨.ref a, e1, F1, env1, r1, (Ps.after q1).imp fun k env2 F2 H2 r2 s2 q2 u hu => ?_⟩
          cases hl : heldAt env2 i with
          | none => rw [hl] at q2; exact q2.elim
          | some l =>
            rw [hl] at q2
            dsimp only at q2
            cases hd : setD l k d with
            | none => rw [hd] at q2; exact q2.elim
            | some l2 =>
              rw [hd] at q2
              unfold setD at hd
              split at hd
              · rename_i n
                cases hu
                obtain ⟨a1, xs1, g1, g2, g3, g4⟩ := r2.owo i l hl
                rw [e1] at g1; cases g1
                cases hx : ixN l.length n with
                | none => rw [hx] at hd; cases hd
                | some j =>
                  rw [hx] at hd
                  cases hd
                  obtain ⟨s, es, hs⟩ := setHeld_cases hl (l.set j d)
                  obtain ⟨r3, s3⟩ := r2.write hl hs e1 (g4.set j (hv.mono s2.sub))
                  rw [← es] at r3
                  exact ⟨a, xs1, n, j, rfl, rfl, g2, by rw [g4.length]; exact hx, q2 σ F2 _ r3 (Same.refl _)⟩
              · cases hd
        · exact q1.elim
    · cases h
  | if_ c a b iha ihb =>
    refine .mk1 (fun _ _ => rfl) fun {X p cl CX Ex sc} C hN hr hp st h => ?_
    unfold okS cIf at h
    split at h
    · rename_i z; cases z
      simp only [Bool.and_eq_true] at h
      refine PS.weak (ps_if ((okx c).t C hN _ h.1.1) (iha.b C hN hr hp _ h.1.2) (ihb.b C hN hr hp _ h.2)) fun D σ H ⟨F, env, r, q⟩ => ?_
      unfold evS at q
      refine ⟨F, env, r, (Ps.after q).imp fun d env1 F1 H1 r1 s1 q1 => ?_⟩
      cases ht : tru d with
      | none => rw [ht] at q1; exact q1.elim
      | some k =>
        rw [ht] at q1
        refine ⟨k, rfl, ?_⟩
        cases k with
        | true => rw [if_pos rfl]; exact ⟨F1, env1, r1, q1⟩
        | false => rw [if_neg Bool.false_ne_true]; exact ⟨F1, env1, r1, q1⟩
    · cases h
  | while_ n c b ihb =>
    refine .mk1 (fun _ _ => rfl) fun {X p cl CX Ex sc} C hN hr hp st h => ?_
    unfold okS cWhile at h
    split at h
    · rename_i z; cases z
      simp only [Bool.and_eq_true] at h
      refine PS.weak (ps_while hp ((okx c).t C hN _ h.1) (ihb.b C hN hr hp _ h.2)) fun D σ H ⟨F, env, r, q⟩ => ?_
      unfold evS at q
      refine ⟨fun m σ H => ∃ F env, Rel p env σ F H ∧ Ps p cl Ex fr F (whGo (ev G c) (evS G fr b) m env) D, ⟨n, F, env, r, q⟩, ?_⟩
      rintro m σ H ⟨F, env, r, q⟩
      cases m with
      | zero => exact q.elim
      | succ m =>
        unfold whGo at q
        refine ⟨F, env, r, (Ps.after q).imp fun d env1 F1 H1 r1 s1 q1 => ?_⟩
        cases ht : tru d with
        | none => rw [ht] at q1; exact q1.elim
        | some k =>
          rw [ht] at q1
          refine ⟨k, rfl, ?_⟩
          cases k with
          | false => rw [if_neg Bool.false_ne_true]; exact q1 σ F1 H1 r1 (Same.refl _)
          | true =>
            rw [if_pos rfl]
            refine ⟨fun σ H => ∃ F env, Rel p env σ F H ∧ Ps p cl Ex fr F (whGo (ev G c) (evS G fr b) m env) D, fun σ' H' w => ⟨m, Nat.lt_succ_self m, w⟩, F1, env1, r1, ?_⟩
            dsimp only at q1
            cases hb : evS G fr b env1 with
            | nx e2 => rw [hb] at q1; exact fun σ' F' H' r' s' => ⟨F', e2, r', Ps.mono q1 s'⟩
            | ct e2 => rw [hb] at q1; exact fun σ' F' H' r' s' => ⟨F', e2, r', Ps.mono q1 s'⟩
            | bk e2 => rw [hb] at q1; exact q1
            | rt d2 e2 => rw [hb] at q1; exact q1
            | exc c2 => rw [hb] at q1; exact q1
            | bot => rw [hb] at q1; exact q1
    · cases h
  | for_ t it b ihb =>
    refine .mk1 (fun _ _ => rfl) fun {X p cl CX Ex sc} C hN hr hp st h => ?_
    unfold okS cFor at h
    split at h
    · rename_i z; cases z
      simp only [Bool.and_eq_true] at h
      obtain ⟨⟨⟨⟨h1, h2⟩, h3⟩, h4⟩, h5⟩ := h
      subst hN
      refine PS.weak (ps_for hp C.calm ((okx it).i C rfl _ _ t sc h4 h1 h2) ((g_ok C.calm C.nd C.k hr t).1 _ h1) (ihb.b C rfl hr hp _ h5) (set_none h3)) fun D σ H ⟨F, env, r, q⟩ => ?_
      unfold evS at q
      refine ⟨F, env, r, (Ps.after q).imp fun d env1 F1 H1 r1 s1 q1 => ?_⟩
      cases hds : itemsOf d with
      | none => rw [hds] at q1; exact q1.elim
      | some ds =>
        rw [hds] at q1
        refine ⟨ds, rfl, fun J wk => ?_⟩
        obtain ⟨Gd, Y, wk, hGd, hY⟩ := wk
        refine for_it wk (fun i σ H => ∃ F env, Rel p env σ F H ∧ Same F1 F ∧ Ps p cl Ex fr F (forGo (asgT t) (evS G fr b) (ds.drop i) env) D) ⟨F1, env1, r1, Same.refl _, q1⟩ ?_ ?_ ?_
        · intro i σ H _ ⟨F, env, r, s, _⟩
          exact hGd H (s.trans r.hr.sub)
        · intro i x σ H H' hi ⟨F, env, r, s, q⟩ hy
          obtain ⟨F2, dx, r2, s2, g1, g2, g3, g4⟩ := YR.rel r s (hY i H x H' hi hy)
          have hdrop : ds.drop i = dx :: ds.drop (i + 1) := by
            have hlt := (List.getElem?_eq_some_iff.mp g1)
            obtain ⟨h1, h2⟩ := hlt
            rw [List.drop_eq_getElem_cons h1, h2]
          rw [hdrop] at q
          unfold forGo at q
          cases ha : asgT t dx env with
          | none => rw [ha] at q; exact q.elim
          | some e1 =>
            rw [ha] at q
            refine ⟨F2, env, dx, e1, r2, g2, ha, fun σ' r' _ _ => ⟨F2, e1, r', ?_⟩⟩
            dsimp only at q
            have sF := s.trans s2.sub
            cases hb : evS G fr b e1 with
            | nx e2 => rw [hb] at q; exact fun σ' F' H' r' s' => ⟨F', e2, r', sF.trans s', Ps.mono q (s2.sub.trans s')⟩
            | ct e2 => rw [hb] at q; exact fun σ' F' H' r' s' => ⟨F', e2, r', sF.trans s', Ps.mono q (s2.sub.trans s')⟩
            | bk e2 => rw [hb] at q; exact fun σ' F' H' r' s' => q σ' F' H' r' (s2.sub.trans s')
            | rt d2 e2 => rw [hb] at q; exact fun v σ' F' H' r' s' => q v σ' F' H' r' (s2.sub.trans s')
            | exc c2 => rw [hb] at q; exact q
            | bot => rw [hb] at q; exact q
        · intro σ H ⟨F, env, r, s, q⟩
          rw [List.drop_length] at q
          unfold forGo at q
          exact q σ F H r (Same.refl _)
    · cases h
  | ret e =>
    refine .mk1 (fun _ _ => rfl) fun {X p cl CX Ex sc} C hN hr hp st h => ?_
    unfold okS cRet at h
    split at h
    · rename_i z; cases z
      refine PS.weak (ps_ret ((okx e).a C hN _ h)) fun D σ H ⟨F, env, r, q⟩ => ?_
      unfold evS at q
      refine ⟨F, env, r, ?_⟩
      have q' := Ps.after (env := env) (σ := σ) (H := H) q
      cases fr with
      | false =>
        refine (q'.imp (k' := fun d _ F' H' => ∀ v, Rp p.K F' v d → D.rt v H') fun d env1 F1 H1 r1 s1 q1 v hv => ?_).frozen (k := fun _ _ _ _ => True)
        exact q1 v σ F1 H1 r1 (Same.refl _) hv
      | true =>
        by_cases hf : isFresh G e = true
        · refine q'.imp fun d env1 F1 H1 r1 s1 q1 v hv => ?_
          rw [hf] at q1 hv
          refine q1 v σ F1 H1 r1 (Same.refl _) ?_
          unfold ResOk at hv
          unfold RtOk
          cases d with
          | list l =>
            obtain ⟨a, xs, g1, g2, g3, g4, g5, g6, g7⟩ := hv
            exact ⟨a, xs, g1, g2, g3, g4, g7⟩
          | _ => exact hv
        · have hf' : isFresh G e = false := by simpa using hf
          refine q'.imp fun d env1 F1 H1 r1 s1 q1 v hv => ?_
          rw [hf'] at q1 hv
          cases d with
          | list l => exact q1.elim
          | _ => exact q1 v σ F1 H1 r1 (Same.refl _) hv
    · cases h
  | retO i =>
    refine .mk1 (fun _ _ => rfl) fun {X p cl CX Ex sc} C hN hr hp st h => ?_
    unfold okS cRetO at h
    split at h
    · rename_i z; cases z
      simp only [Bool.and_eq_true] at h
      subst hN
      obtain ⟨n1, n2, n3⟩ := nm_at h.1
      refine PS.weak (ps_ret (pe_var n1 (vis_of C.sc h.2) n2 n3)) fun D σ H ⟨F, env, r, q⟩ => ?_
      unfold evS at q
      cases fr with
      | false => exact q.elim
      | true =>
        rw [if_pos rfl] at q
        split at q
        · rename_i l he
          obtain ⟨a, xs, e1, e2, e3, e4⟩ := r.owo i l (by unfold heldAt; rw [he]; rfl)
          exact ⟨_, e1, q _ σ F H r (Same.refl _) ⟨a, xs, rfl, e2, e3, r.new i l a he e1, e4⟩⟩
        · exact q.elim
    · cases h
  | retN =>
    refine .mk1 (fun _ _ => rfl) fun {X p cl CX Ex sc} C hN hr hp st h => ?_
    unfold okS cRetN at h
    split at h
    · rename_i z; cases z
      refine PS.weak ps_retN fun D σ H ⟨F, env, r, q⟩ => q _ σ F H r (Same.refl _) ?_
      unfold RtOk
      cases fr <;> exact .non
    · cases h
  | brk =>
    refine .mk1 (fun _ _ => rfl) fun {X p cl CX Ex sc} C hN hr hp st h => ?_
    unfold okS cBrk at h
    split at h
    · rename_i z; cases z
      exact PS.weak ps_break fun D σ H ⟨F, env, r, q⟩ => q σ F H r (Same.refl _)
    · cases h
  | cont =>
    refine .mk1 (fun _ _ => rfl) fun {X p cl CX Ex sc} C hN hr hp st h => ?_
    unfold okS cCont at h
    split at h
    · rename_i z; cases z
      exact PS.weak ps_continue fun D σ H ⟨F, env, r, q⟩ => q σ F H r (Same.refl _)
    · cases h
  | never => exact ⟨fun C hN hr hp st h => PS.weak ps_never fun D σ H ⟨F, env, r, q⟩ => q, fun C hN hr hp st h => PSs.weak pss_never fun D σ H ⟨F, env, r, q⟩ => q⟩
end
end Rv

set_option Elab.async false
set_option linter.all false
set_option maxRecDepth 100000
set_option maxHeartbeats 4000000
/-! Rv14: defs, the table of defs, the law. -/
namespace Rv
open PySem PySem.Spec PyProof.Rows L2
open C8 (scC fnScope_by)

structure Fn where
  nm : Str
  st : Stmt
  N : List Str
  ps : List Str
  mu : Bool
  fr : Bool
  body : S
def startE (mu : Bool) (n : Nat) (ds : List D) : En :=
  (match mu, ds with
    | true, .list l :: r => Sl.bor l :: r.map Sl.pd
    | _, ds => ds.map Sl.pd) ++ List.replicate (n - ds.length) Sl.no
def held0 (mu : Bool) (e : En) : List D := if mu then (heldAt e 0).getD [] else []
def outF (mu : Bool) (r : So) : Rs (D × List D) :=
  match r with
  | .rt d e => .ok (d, held0 mu e)
  | .nx e => .ok (.none, held0 mu e)
  | .exc c => .exc c
  | _ => .bot
def semF (G : Genv) (f : Fn) : FSem := ⟨f.mu, f.fr, f.ps.length, fun ds => outF f.mu (evS G f.fr f.body (startE f.mu f.N.length ds))⟩

/-! ### the state at a def's entry -/
theorem get_pad {α β : Type} {A : List α} {n : Nat} {z : α} {i : Nat} {s : α} (h : (A ++ List.replicate n z)[i]? = some s) (hs : s ≠ z) : A[i]? = some s := by
  by_cases hi : i < A.length
  · rw [List.getElem?_append_left hi] at h; exact h
  · rw [List.getElem?_append_right (by omega)] at h
    have := List.mem_of_getElem? h
    exact absurd (List.eq_of_mem_replicate this) hs
theorem start_at {N : List Str} {vs : List V} {i : Nat} {v : V} (h : vs[i]? = some v) : (L2.start N vs)[i]? = some (some v) := by
  have hi : i < vs.length := (List.getElem?_eq_some_iff.mp h).1
  unfold L2.start
  rw [List.getElem?_append_left (by rw [List.length_map]; exact hi), List.getElem?_map, h]; rfl
theorem start_length {N : List Str} {vs : List V} (h : vs.length ≤ N.length) : (L2.start N vs).length = N.length := by
  unfold L2.start
  rw [List.length_append, List.length_map, List.length_replicate]; omega
theorem rel_start {hs : List Key → Int} {K : PySem.W.Frag} {H F : Hp} {N : List Str} {mu : Bool} {vs : List V} {ds : List D} {ma : Option Addr} (sm : Same F H) (ha : ArgsOk K mu F H vs ds ma) (hl : vs.length ≤ N.length) :
    Rel ⟨K, H, F, ma.map fun a => (0, a), hs⟩ (startE mu N.length ds) (L2.start N vs) F H := by
  have hr : HRel ⟨K, H, F, ma.map fun a => (0, a), hs⟩ F H := ⟨sm, fun _ _ e _ => e, fun _ _ => rfl, fun _ e => e⟩
  cases mu with
  | false =>
    obtain ⟨rfl, hv⟩ := ha
    have nh : ∀ i l, heldAt (startE false N.length ds) i ≠ some l := fun i l e => by
      unfold heldAt at e
      cases q : (startE false N.length ds)[i]? with
      | none => rw [q] at e; cases e
      | some s =>
        rw [q] at e
        cases s with
        | no => cases e
        | pd d => cases e
        | own m =>
          have := get_pad (β := Nat) q (by intro z; cases z)
          rw [List.getElem?_map] at this
          cases z : ds[i]? with
          | none => rw [z] at this; cases this
          | some d => rw [z] at this; cases this
        | bor m =>
          have := get_pad (β := Nat) q (by intro z; cases z)
          rw [List.getElem?_map] at this
          cases z : ds[i]? with
          | none => rw [z] at this; cases this
          | some d => rw [z] at this; cases this
        | dic m => cases e
        | dik m => cases e
    have nd : ∀ (i : Nat) (s : Sl), (startE false N.length ds)[i]? = some s → s.isD = true → False := fun i s q hd => by
      have := get_pad (β := Nat) q (by intro z; subst z; cases hd)
      rw [List.getElem?_map] at this
      cases z : ds[i]? with
      | none => rw [z] at this; cases this
      | some d => rw [z] at this; cases this; cases hd
    refine ⟨hr, fun i d e => ?_, fun i l e => absurd e (nh i l), fun i j a o _ => ?_, fun i l a e => ?_, fun i l e => ?_, fun i a e => ?_, ?_, fun i s e hd => (nd i s e hd).elim⟩
    · have := get_pad (β := Nat) e (by intro z; cases z)
      rw [List.getElem?_map] at this
      cases z : ds[i]? with
      | none => rw [z] at this; cases this
      | some d' =>
        rw [z] at this; cases this
        obtain ⟨v, q1, q2⟩ := hv.get' z
        exact ⟨v, start_at q1, q2⟩
    · rcases owns_cases o.1 with ⟨l, hl⟩ | ⟨s, hk, hd⟩
      · exact absurd hl (nh i l)
      · exact (nd i s hk hd).elim
    · exact absurd (show heldAt _ i = some l by unfold heldAt; rw [e]; rfl) (nh i l)
    · exact absurd (show heldAt _ i = some l by unfold heldAt; rw [e]; rfl) (nh i l)
    · cases e
    · rw [start_length hl]
      show (ds.map Sl.pd ++ List.replicate (N.length - ds.length) Sl.no).length = _
      have := hv.length
      rw [List.length_append, List.length_map, List.length_replicate]; omega
  | true =>
    obtain ⟨a, xs, l, ws, es, rfl, rfl, rfl, h1, h2, h3, h4⟩ := ha
    have hlen := h4.length
    have at0 : (startE true N.length (.list l :: es))[0]? = some (.bor l) := rfl
    have s0 : (start N (V.ref a :: ws))[0]? = some (some (V.ref a)) := start_at rfl
    have atS : ∀ i s, (startE true N.length (.list l :: es))[i + 1]? = some s → s ≠ .no → ∃ d, es[i]? = some d ∧ s = .pd d := fun i s e hs => by
      have e : ((Sl.bor l :: es.map Sl.pd) ++ List.replicate (N.length - (es.length + 1)) Sl.no)[i + 1]? = some s := e
      have := get_pad (β := Nat) e hs
      rw [List.getElem?_cons_succ, List.getElem?_map] at this
      cases z : es[i]? with
      | none => rw [z] at this; cases this
      | some d => rw [z] at this; cases this; exact ⟨d, rfl, rfl⟩
    have h0 : ∀ i m, heldAt (startE true N.length (.list l :: es)) i = some m → i = 0 ∧ m = l := fun i m e => by
      unfold heldAt at e
      cases i with
      | zero => rw [at0] at e; cases e; exact ⟨rfl, rfl⟩
      | succ i =>
        cases q : (startE true N.length (.list l :: es))[i + 1]? with
        | none => rw [q] at e; cases e
        | some s =>
          rw [q] at e
          by_cases hs : s = .no
          · subst hs; cases e
          · obtain ⟨d, _, rfl⟩ := atS i s q hs
            cases e
    have nd : ∀ (i : Nat) (s : Sl), (startE true N.length (.list l :: es))[i]? = some s → s.isD = true → False := fun i s q hd => by
      cases i with
      | zero => rw [at0] at q; cases q; cases hd
      | succ i =>
        obtain ⟨d, _, z⟩ := atS i s q (by intro z; subst z; cases hd)
        subst z; cases hd
    refine ⟨hr, fun i d e => ?_, fun i m e => ?_, fun i j b o o' => ?_, fun i m b e => ?_, fun i m e => ?_, fun i b e => ?_, ?_, fun i s e hd => (nd i s e hd).elim⟩
    · cases i with
      | zero => rw [at0] at e; cases e
      | succ i =>
        obtain ⟨d', q, e'⟩ := atS i _ e (by intro z; cases z)
        cases e'
        obtain ⟨v, q1, q2⟩ := h4.get' q
        exact ⟨v, start_at (vs := V.ref a :: ws) (by rw [List.getElem?_cons_succ]; exact q1), q2⟩
    · obtain ⟨rfl, rfl⟩ := h0 i m e
      exact ⟨a, xs, s0, h1, h2, h3⟩
    · rcases owns_cases o.1 with ⟨m, hm⟩ | ⟨s, hk, hd⟩
      · rcases owns_cases o'.1 with ⟨m', hm'⟩ | ⟨s, hk, hd⟩
        · rw [(h0 _ _ hm).1, (h0 _ _ hm').1]
        · exact (nd _ s hk hd).elim
      · exact (nd _ s hk hd).elim
    · cases i with
      | zero => rw [at0] at e; cases e
      | succ i =>
        obtain ⟨d', q, e'⟩ := atS i _ e (by intro z; cases z)
        cases e'
    · obtain ⟨rfl, rfl⟩ := h0 i m (by unfold heldAt; rw [e]; rfl)
      exact ⟨a, rfl, s0⟩
    · cases e
      exact ⟨l, rfl⟩
    · rw [start_length hl]
      show ((Sl.bor l :: es.map Sl.pd) ++ List.replicate (N.length - (es.length + 1)) Sl.no).length = _
      have hl2 : ws.length + 1 ≤ N.length := hl
      rw [List.length_append, List.length_cons, List.length_map, List.length_replicate]; omega

/-! ### what stands behind the top -/
structure Gok (P : Program) (w : World) (K : PySem.W.Frag) (mg : Str → Option Value) (base : Heap) (cl : Str → Value) (k : Nat) (G : Genv) : Prop where
  glb : ∀ n d, G.gl n = some d → ∃ u v, mg (G.gnm n) = some u ∧ RelV v u ∧ ∀ F, Rp K F v d
  blt : ∀ x ∈ bltNames, mg x = none
  fns : ∀ i fs, G.fn i = some fs → ∃ (a : Addr) (fd : FuncData) (ps : List Str), FnOk P w K mg base CX0 k a fd ps (spOf K cl fs) ∧ mg (G.fnm i) = some (.ref a) ∧ PySem.W.keepIn K (.ref a) = true ∧ L2.Binds K fd ps []
theorem hrel_cstep {hs : List Key → Int} {K : PySem.W.Frag} {H F F' H' : Hp} {ma : Option Addr} (r : HRel ⟨K, H, F, ma.map fun a => (0, a), hs⟩ F' H') : CStep ma F H F' H' :=
  ⟨r.sub, fun b o e n => r.old b o e fun i z => n (by
    cases ma with
    | none => cases z
    | some a => cases z; rfl), r.oldf, r.there⟩
section
variable {P : Program} {w : World} {K : PySem.W.Frag} {mg : Str → Option Value} {base : Heap} {cl : Str → Value} {k : Nat} {G : Genv}
theorem fn_ok {f : Fn} {a : Addr} {fd : FuncData} (F : Fun K f.nm f.nm f.st a fd) (g : Gok P w K mg base cl k G) (sc : scC f.N f.ps (defScope f.st) = true) (chk : okS G f.N (defScope f.st) f.body (.b (defBody f.st)) = true) :
    FnOk P w K mg base CX0 (k + 1) a fd f.ps (spOf K cl (semF G f)) := by
  have S := fnScope_by sc
  refine F.ok S (fun vs H Q E h => let ⟨_, _, _, _, hl, _⟩ := h; hl) fun cdv A outer s H vs Q E hr hsp => ?_
  obtain ⟨F0, ds, ma, sm, hl, ha, hres⟩ := hsp
  have hpl : f.ps.length ≤ f.N.length := by have := congrArg List.length S.pre; rw [List.length_take] at this; omega
  let p : Pm := ⟨K, H, F0, ma.map fun a => (0, a), (PySem.tupleKind (mixKind P w)).hash⟩
  let X := (cxOf CX0 P w K mg base f.N f.nm (defScope f.st) a cdv A outer s H E).nox
  have C : Cxt p G cl CX0 E (defScope f.st) X := ⟨rfl, rfl, S.nd, rfl, by have := hr.un; show (A.deeper _).units + 65 < cLine; omega, g.glb, g.blt, fun i fs hi => by
    obtain ⟨a', fd', ps', h1, h2, h3, h4⟩ := g.fns i fs hi
    exact ⟨a', fd', ps', k, h1, hr, h2, h3, h4⟩, (fun _ _ _ _ _ _ _ z => z.elim), S.kind, fun _ _ _ _ _ z => z, rfl⟩
  have hraw : HRaw X (defScope f.st) := fun x hx => by
    unfold locB at hx
    split at hx
    · rename_i e; exact ⟨.inl e, .inl rfl⟩
    · rename_i e; exact ⟨.inr e, .inl rfl⟩
    · cases hx
  refine ⟨TSo p cl E G f.fr f.body, (oks f.body).b C rfl hraw PassesOwn.never _ chk, F0, startE f.mu f.N.length ds, rel_start sm ha (by rw [hl]; exact hpl), ?_⟩
  have mo : ∀ {env' σ' F' H'}, Rel p env' σ' F' H' → MutOk K ma F' H' (held0 f.mu env') := fun {env' σ' F' H'} r => by
    cases ma with
    | none => trivial
    | some b =>
      have hmu : f.mu = true := by
        cases e : f.mu with
        | true => rfl
        | false =>
          have ha' : ArgsOk K f.mu F0 H vs ds (some b) := ha
          rw [e] at ha'
          cases ha'.1
      obtain ⟨l, q⟩ := r.mub 0 b rfl
      obtain ⟨b', q1, q2⟩ := r.bor 0 l q
      cases q1
      have hh : heldAt env' 0 = some l := by unfold heldAt; rw [q]; rfl
      obtain ⟨b'', xs, q3, q4, q5, q6⟩ := r.owo 0 l hh
      rw [q2] at q3; cases q3
      refine ⟨xs, q4, ?_⟩
      unfold held0
      rw [if_pos hmu, hh]
      exact q6
  have hres : (match outF f.mu (evS G f.fr f.body (startE f.mu f.N.length ds)) with
    | .ok (r, l) => ∀ v F' H', CStep ma F0 H F' H' → MutOk K ma F' H' l → ResF K f.fr H F' H' v r → Q v H'
    | .exc c => ∀ F' H', CStep ma F0 H F' H' → E (cl c) none H'
    | .bot => False) := hres
  cases e : evS G f.fr f.body (startE f.mu f.N.length ds) with
  | nx env' =>
    rw [e] at hres
    exact fun σ' F' H' r _ => hres _ F' H' (hrel_cstep r.hr) (mo r) (by unfold ResF; cases f.fr <;> exact .non)
  | rt d env' =>
    rw [e] at hres
    refine fun v σ' F' H' r _ rv => hres _ F' H' (hrel_cstep r.hr) (mo r) ?_
    unfold RtOk at rv
    unfold ResF
    cases hfr : f.fr with
    | false => rw [hfr] at rv; exact rv
    | true =>
      rw [hfr] at rv
      cases d with
      | list l =>
        obtain ⟨b, xs, g1, g2, g3, g4, g5⟩ := rv
        exact ⟨b, xs, g1, g2, g3, g4, g5⟩
      | _ => exact rv
  | bk env' => rw [e] at hres; exact hres.elim
  | ct env' => rw [e] at hres; exact hres.elim
  | exc c => rw [e] at hres; exact fun F' H' r => hres F' H' (hrel_cstep r)
  | bot => rw [e] at hres; exact hres.elim

/-! ### the table of defs -/
def mkG (gl : List (Str × D)) (L : List (Str × FSem)) : Genv := ⟨fun i => (L[i]?).map (·.2), fun i => ((L[i]?).map (·.1)).getD "", fun i => (gl[i]?).map (·.2), fun i => ((gl[i]?).map (·.1)).getD ""⟩
/-- a def of the module, called with each parameter given -/
structure Df (K : PySem.W.Frag) (mg : Str → Option Value) (nm : Str) (st : Stmt) (ps : List Str) : Prop where
  ex : ∃ (f : Addr) (fd : FuncData), Fun K nm nm st f fd ∧ mg nm = some (.ref f) ∧ L2.Binds K fd ps []
theorem Gok.start {gl : List (Str × D)} (hg : ∀ p ∈ gl, ∃ u v, mg p.1 = some u ∧ RelV v u ∧ ∀ F, Rp K F v p.2) (hb : ∀ x ∈ bltNames, mg x = none) : Gok P w K mg base cl 0 (mkG gl []) := by
  refine ⟨fun n d h => ?_, hb, fun i fs h => ?_⟩
  · have h : (gl[n]?).map (·.2) = some d := h
    show ∃ u v, mg (((gl[n]?).map (·.1)).getD "") = some u ∧ _
    cases e : gl[n]? with
    | none => rw [e] at h; cases h
    | some q =>
      rw [e] at h; cases h
      obtain ⟨u, v, h1, h2, h3⟩ := hg q (List.mem_of_getElem? e)
      exact ⟨u, v, h1, h2, h3⟩
  · have h : (([] : List (Str × FSem))[i]?).map (·.2) = some fs := h
    cases h
theorem Gok.add {gl : List (Str × D)} {L : List (Str × FSem)} {f : Fn} (g : Gok P w K mg base cl k (mkG gl L)) (d : Df K mg f.nm f.st f.ps) (sc : scC f.N f.ps (defScope f.st) = true) (chk : okS (mkG gl L) f.N (defScope f.st) f.body (.b (defBody f.st)) = true) :
    Gok P w K mg base cl (k + 1) (mkG gl (L ++ [(f.nm, semF (mkG gl L) f)])) := by
  refine ⟨g.glb, g.blt, fun i fs h => ?_⟩
  have h : ((L ++ [(f.nm, semF (mkG gl L) f)])[i]?).map (·.2) = some fs := h
  show ∃ a fd ps, _ ∧ mg ((((L ++ [(f.nm, semF (mkG gl L) f)])[i]?).map (·.1)).getD "") = _ ∧ _
  by_cases hi : i < L.length
  · rw [List.getElem?_append_left hi] at h ⊢
    obtain ⟨a, fd, ps, h1, h2, h3, h4⟩ := g.fns i fs h
    exact ⟨a, fd, ps, h1.mono (Nat.le_succ k), h2, h3, h4⟩
  · rw [List.getElem?_append_right (by omega)] at h ⊢
    cases e : i - L.length with
    | zero =>
      rw [e] at h
      cases h
      obtain ⟨a, fd, h1, h2, h4⟩ := d.ex
      exact ⟨a, fd, f.ps, fn_ok h1 g sc chk, h2, h1.kp, h4⟩
    | succ n => rw [e] at h; cases h
/-- from what the head's end tells of a def -/
theorem df_mk {h : Heap} {nm : Str} {st : Stmt} {ps : List Str} {f : Addr} {oc : Value} {od an : Option Addr} {osl : Array (Option Value)} {kV doc pm cdv ct : Value} (X : K.In h) (G : h.Ns mainGlobals mg) (hb : ∀ (kV doc pm : Value) (an : Option Addr) (cdv ct : Value) (us : List Value), us.length = ps.length → bindArgs (PySem.W.fnOf nm nm (defArgs st) (defBody st) (defScope st) .none kV doc pm an cdv ct) ⟨us, []⟩ = pure (ps.zip us))
    (a : PySem.W.nsIn K mainGlobals nm = some (some (.ref f))) (l : K.lookup f = some ⟨oc, od, .func (PySem.W.fnOf nm nm (defArgs st) (defBody st) (defScope st) .none kV doc pm an cdv ct), osl⟩) (c : PySem.W.codeIn K cdv nm = true) (k : PySem.W.keepIn K (.ref f) = true) : Df K mg nm st ps :=
  ⟨f, _, fun_mk l c k, PySem.W.mg_of X G a, (fun_mk l c k).binds hb⟩
/-- the last def -/
theorem df_last {h : Heap} {nm : Str} {st : Stmt} {fa f : Addr} {oc : Value} {od an : Option Addr} {osl : Array (Option Value)} {kV doc pm cdv ct : Value} (X : K.In h) (G : h.Ns mainGlobals mg) (hfa : mg nm = some (.ref fa))
    (a : PySem.W.nsIn K mainGlobals nm = some (some (.ref f))) (l : K.lookup f = some ⟨oc, od, .func (PySem.W.fnOf nm nm (defArgs st) (defBody st) (defScope st) .none kV doc pm an cdv ct), osl⟩) (c : PySem.W.codeIn K cdv nm = true) (k : PySem.W.keepIn K (.ref f) = true) :
    Fun K nm nm st fa (PySem.W.fnOf nm nm (defArgs st) (defBody st) (defScope st) .none kV doc pm an cdv ct) := by
  have e := hfa.symm.trans (PySem.W.mg_of X G a)
  cases e
  exact fun_mk l c k
/-- the law's promise -/
theorem law_sp {fs : FSem} {n : Nat} (h1 : fs.mu = false) (h2 : fs.fr = false) (h3 : fs.ar = 1) (hL : ∀ ns : List Int, ns.length ≤ n → fs.f [.list (ns.map PyData.int)] = .ok (.bool true, [])) (H : Hp) (a : Addr) (ns : List Int) (hl : ns.length ≤ n) (hS : SqL K H a (ns.map V.int)) :
    spOf K cl fs [.ref a] H (fun v _ => v = .bl true) fun _ _ _ => False := by
  refine ⟨H, [.list (ns.map PyData.int)], none, Same.refl H, h3.symm, ?_, ?_⟩
  · rw [h1]
    exact ⟨rfl, .cons (.lst hS (RpAll.of_ints ns)) .nil⟩
  · rw [hL ns hl]
    intro v F' H' _ _ hr
    rw [h2] at hr
    have hr : Rp K F' v (.bool true) := hr
    cases hr
    rfl
end
end Rv

set_option Elab.async false
set_option linter.all false
set_option maxRecDepth 100000
set_option maxHeartbeats 4000000
/-! Rv15: rules that run the evaluator. -/
namespace Rv
open PySem

@[irreducible] def Ev (G : Genv) (e : E) (env : En) (d : D) (env' : En) : Prop := ev G e env = .ok (d, env')
@[irreducible] def Evs (G : Genv) (fr : Bool) (s : S) (env : En) (r : So) : Prop := evS G fr s env = r
section
variable {G : Genv} {fr : Bool} {env e1 e2 e3 e4 : En} {a b c es : E} {d x y z w : D} {i j n f : Nat} {k m : Bool} {l : List D}
theorem Ev.ok (h : Ev G a env d e1) : ev G a env = .ok (d, e1) := by unfold Ev at h; exact h
theorem Ev.of (h : ev G a env = .ok (d, e1)) : Ev G a env d e1 := by unfold Ev; exact h
theorem Evs.ok {s : S} {r : So} (h : Evs G fr s env r) : evS G fr s env = r := by unfold Evs at h; exact h
theorem Evs.of {s : S} {r : So} (h : evS G fr s env = r) : Evs G fr s env r := by unfold Evs; exact h
theorem Ev.var (h : env[i]? = some (.pd d)) : Ev G (.var i) env d env := by unfold Ev ev; rw [h]
theorem Ev.varO (h : env[i]? = some (.own l)) : Ev G (.var i) env (.list l) (env.set i (.pd (.list l))) := by unfold Ev ev; rw [h]
theorem Ev.peek (h : peekAt env i = some d) : Ev G (.peek i) env d env := by unfold Ev ev; rw [h]
theorem Ev.ci {i : Int} : Ev G (.ci i) env (.int i) env := by unfold Ev; rfl
theorem Ev.cs {i : Str} : Ev G (.cs i) env (.str i) env := by unfold Ev; rfl
theorem Ev.cb {i : Bool} : Ev G (.cb i) env (.bool i) env := by unfold Ev; rfl
theorem Ev.cn : Ev G .cn env .none env := by unfold Ev; rfl
theorem Ev.glb (h : G.gl n = some d) : Ev G (.glb n) env d env := by unfold Ev ev; rw [h]; rfl
theorem two_ok {fa fb : En → Rs (D × En)} (ha : fa env = .ok (x, e1)) (hb : fb e1 = .ok (y, e2)) : two fa fb none env = .ok ((x, y), e2) := by
  unfold two; dsimp only; rw [ha]; show (fb e1).bind _ = _; rw [hb]; rfl
theorem two_okP {fa fb : En → Rs (D × En)} (hb : fb env = .ok (y, e2)) (h1 : (peekAt env i).isSome = true) (h2 : peekAt e2 i = some x) : two fa fb (some i) env = .ok ((x, y), e2) := by
  unfold two; dsimp only; rw [if_pos h1, hb]; show (match peekAt e2 i with | some d => _ | none => _) = _; rw [h2]
theorem Ev.bin {o : Bop} (hp : peekOf a = none) (ha : Ev G a env x e1) (hb : Ev G b e1 y e2) (ho : o.f x y = some d) : Ev G (.bin o a b) env d e2 := by
  unfold Ev ev; rw [hp, two_ok (Ev.ok ha) (Ev.ok hb)]; show ret1 (o.f x y) e2 = _; rw [ho]; rfl
theorem Ev.binP {o : Bop} (hb : Ev G b env y e2) (h1 : (peekAt env i).isSome = true) (h2 : peekAt e2 i = some x) (ho : o.f x y = some d) : Ev G (.bin o (.peek i) b) env d e2 := by
  unfold Ev ev; rw [show peekOf (.peek i) = some i from rfl, two_okP (Ev.ok hb) h1 h2]; show ret1 (o.f x y) e2 = _; rw [ho]; rfl
theorem Ev.cmp {o : Cop} (hp : peekOf a = none) (ha : Ev G a env x e1) (hb : Ev G b e1 y e2) (ho : o.f x y = some d) : Ev G (.cmp o a b) env d e2 := by
  unfold Ev ev; rw [hp, two_ok (Ev.ok ha) (Ev.ok hb)]; show ret1 (o.f x y) e2 = _; rw [ho]; rfl
theorem Ev.cmpP {o : Cop} (hb : Ev G b env y e2) (h1 : (peekAt env i).isSome = true) (h2 : peekAt e2 i = some x) (ho : o.f x y = some d) : Ev G (.cmp o (.peek i) b) env d e2 := by
  unfold Ev ev; rw [show peekOf (.peek i) = some i from rfl, two_okP (Ev.ok hb) h1 h2]; show ret1 (o.f x y) e2 = _; rw [ho]; rfl
theorem Ev.neg {i : Int} (ha : Ev G a env (.int i) e1) : Ev G (.neg a) env (.int (-i)) e1 := by
  unfold Ev ev; rw [show ev G a env = _ from Ev.ok ha]; rfl
theorem Ev.chain {o q : Cop} (ha : Ev G a env x e1) (hb : Ev G b e1 y e2) (ho : o.f x y = some (.bool k)) (hc : k = true → ∃ z, Ev G c e2 z e2 ∧ q.f y z = some (.bool m)) : Ev G (.chain o q a b c) env (.bool (k && m)) e2 := by
  unfold Ev ev; rw [two_ok (Ev.ok ha) (Ev.ok hb)]
  show (match o.f x y with | some (.bool true) => _ | some (.bool false) => _ | _ => _) = _
  rw [ho]
  cases k with
  | false => rfl
  | true =>
    obtain ⟨z, h1, h2⟩ := hc rfl
    show (ev G c e2).bind _ = _
    rw [show ev G c e2 = _ from Ev.ok h1]
    show ret1 (q.f y z) e2 = _
    rw [h2]; rfl
theorem Ev.andB (ha : Ev G a env x e1) (ht : tru x = some k) (hx : k = false → x = .bool false) (hb : k = true → Ev G b e1 (.bool m) e1) : Ev G (.and_ a b) env (.bool (k && m)) e1 := by
  unfold Ev ev; rw [show ev G a env = _ from Ev.ok ha]
  show (match tru x with | some true => _ | some false => _ | none => _) = _
  rw [ht]
  cases k with
  | false => rw [hx rfl]; rfl
  | true => exact Ev.ok (hb rfl)
theorem Ev.orB (ha : Ev G a env x e1) (ht : tru x = some k) (hx : k = true → x = .bool true) (hb : k = false → Ev G b e1 (.bool m) e1) : Ev G (.or_ a b) env (.bool (k || m)) e1 := by
  unfold Ev ev; rw [show ev G a env = _ from Ev.ok ha]
  show (match tru x with | some true => _ | some false => _ | none => _) = _
  rw [ht]
  cases k with
  | true => rw [hx rfl]; rfl
  | false => exact Ev.ok (hb rfl)
theorem Ev.andT (ha : Ev G a env x e1) (ht : tru x = some true) (hb : Ev G b e1 d e2) : Ev G (.and_ a b) env d e2 := by
  unfold Ev ev; rw [show ev G a env = _ from Ev.ok ha]; show (match tru x with | some true => _ | some false => _ | none => _) = _; rw [ht]; exact Ev.ok hb
theorem Ev.andF (ha : Ev G a env x e1) (ht : tru x = some false) : Ev G (.and_ a b) env x e1 := by
  unfold Ev ev; rw [show ev G a env = _ from Ev.ok ha]; show (match tru x with | some true => _ | some false => _ | none => _) = _; rw [ht]
theorem Ev.orF (ha : Ev G a env x e1) (ht : tru x = some false) (hb : Ev G b e1 d e2) : Ev G (.or_ a b) env d e2 := by
  unfold Ev ev; rw [show ev G a env = _ from Ev.ok ha]; show (match tru x with | some true => _ | some false => _ | none => _) = _; rw [ht]; exact Ev.ok hb
theorem Ev.orT (ha : Ev G a env x e1) (ht : tru x = some true) : Ev G (.or_ a b) env x e1 := by
  unfold Ev ev; rw [show ev G a env = _ from Ev.ok ha]; show (match tru x with | some true => _ | some false => _ | none => _) = _; rw [ht]
theorem Ev.one (ha : Ev G a env x e1) : Ev G (.one a) env x e1 := by unfold Ev ev; exact Ev.ok ha
theorem Ev.not (ha : Ev G a env x e1) (ht : tru x = some k) : Ev G (.not_ a) env (.bool (!k)) e1 := by
  unfold Ev ev; rw [show ev G a env = _ from Ev.ok ha]; show (match tru x with | some k => _ | none => _) = _; rw [ht]
theorem Ev.notb (ha : Ev G a env (.bool k) e1) : Ev G (.not_ a) env (.bool (!k)) e1 := Ev.not ha rfl
theorem Ev.andb (ha : Ev G a env (.bool k) e1) (hb : k = true → Ev G b e1 (.bool m) e1) : Ev G (.and_ a b) env (.bool (k && m)) e1 := Ev.andB ha rfl (fun z => by rw [z]) hb
theorem Ev.orb (ha : Ev G a env (.bool k) e1) (hb : k = false → Ev G b e1 (.bool m) e1) : Ev G (.or_ a b) env (.bool (k || m)) e1 := Ev.orB ha rfl (fun z => by rw [z]) hb
theorem Ev.ite (hc : Ev G c env x e1) (ht : tru x = some k) (ha : k = true → Ev G a e1 y e2) (hb : k = false → Ev G b e1 z e2) : Ev G (.ite c a b) env (if k then y else z) e2 := by
  unfold Ev ev; rw [show ev G c env = _ from Ev.ok hc]; show (match tru x with | some true => _ | some false => _ | none => _) = _; rw [ht]
  cases k with
  | true => exact Ev.ok (ha rfl)
  | false => exact Ev.ok (hb rfl)
theorem Ev.iteT (hc : Ev G c env x e1) (ht : tru x = some true) (ha : Ev G a e1 y e2) : Ev G (.ite c a b) env y e2 := by
  unfold Ev ev; rw [show ev G c env = _ from Ev.ok hc]; show (match tru x with | some true => _ | some false => _ | none => _) = _; rw [ht]; exact Ev.ok ha
theorem Ev.iteF (hc : Ev G c env x e1) (ht : tru x = some false) (hb : Ev G b e1 y e2) : Ev G (.ite c a b) env y e2 := by
  unfold Ev ev; rw [show ev G c env = _ from Ev.ok hc]; show (match tru x with | some true => _ | some false => _ | none => _) = _; rw [ht]; exact Ev.ok hb
theorem Ev.nil : Ev G .nil env (.list []) env := by unfold Ev; rfl
theorem Ev.cons (hp : peekOf a = none) (ha : Ev G a env x e1) (hb : Ev G b e1 (.list l) e2) : Ev G (.cons a b) env (.list (x :: l)) e2 := by
  unfold Ev ev; rw [hp, two_ok (Ev.ok ha) (Ev.ok hb)]; rfl
theorem Ev.consP (hb : Ev G b env (.list l) e2) (h1 : (peekAt env i).isSome = true) (h2 : peekAt e2 i = some x) : Ev G (.cons (.peek i) b) env (.list (x :: l)) e2 := by
  unfold Ev ev; rw [show peekOf (.peek i) = some i from rfl, two_okP (Ev.ok hb) h1 h2]; rfl
theorem Ev.tup (h : Ev G es env (.list l) e1) (hl : l.length ≤ sizeLine) : Ev G (.tup es) env (.tuple l) e1 := by
  unfold Ev ev; rw [show ev G es env = _ from Ev.ok h]; show (if l.length ≤ sizeLine then _ else _) = _; rw [if_pos hl]
theorem Ev.lst (h : Ev G es env (.list l) e1) (hl : l.length ≤ sizeLine) : Ev G (.lst es) env (.list l) e1 := by
  unfold Ev ev; rw [show ev G es env = _ from Ev.ok h]; show (if l.length ≤ sizeLine then _ else _) = _; rw [if_pos hl]
theorem Ev.idx (hp : peekOf a = none) (ha : Ev G a env x e1) (hb : Ev G b e1 y e2) (ho : idxD x y = some d) : Ev G (.idx a b) env d e2 := by
  unfold Ev ev; rw [hp, two_ok (Ev.ok ha) (Ev.ok hb)]; show ret1 (idxD x y) e2 = _; rw [ho]; rfl
theorem Ev.idxP (hb : Ev G b env y e2) (h1 : (peekAt env i).isSome = true) (h2 : peekAt e2 i = some x) (ho : idxD x y = some d) : Ev G (.idx (.peek i) b) env d e2 := by
  unfold Ev ev; rw [show peekOf (.peek i) = some i from rfl, two_okP (Ev.ok hb) h1 h2]; show ret1 (idxD x y) e2 = _; rw [ho]; rfl
/-- a part of a slice -/
@[irreducible] def Evp (G : Genv) (e : E) (env : En) (o : Option Int) (env' : En) : Prop := partI (isNil e) (ev G e) env = .ok (o, env')
theorem Evp.ok {o : Option Int} (h : Evp G a env o e1) : partI (isNil a) (ev G a) env = .ok (o, e1) := by unfold Evp at h; exact h
theorem Evp.nil : Evp G .nil env none env := by unfold Evp; rfl
theorem Evp.some {i : Int} (hn : isNil a = false) (h : Ev G a env (.int i) e1) : Evp G a env (some i) e1 := by
  unfold Evp partI; rw [hn, if_neg Bool.false_ne_true, show ev G a env = _ from Ev.ok h]; rfl
theorem Ev.sl {o q : Option Int} (hp : peekOf a = none) (ha : Ev G a env x e1) (hb : Evp G b e1 o e2) (hc : Evp G c e2 q e3) (ho : slD x o q = some d) : Ev G (.sl a b c) env d e3 := by
  unfold Ev ev; rw [hp, show ev G a env = _ from Ev.ok ha]
  show (partI (isNil b) (ev G b) e1).bind _ = _
  rw [show partI (isNil b) (ev G b) e1 = _ from Evp.ok hb]
  show (partI (isNil c) (ev G c) e2).bind _ = _
  rw [show partI (isNil c) (ev G c) e2 = _ from Evp.ok hc]
  show ret1 (slD x o q) e3 = _
  rw [ho]; rfl
theorem Ev.slP {o q : Option Int} (h1 : (peekAt env i).isSome = true) (hb : Evp G b env o e2) (hc : Evp G c e2 q e3) (h2 : peekAt e3 i = some x) (ho : slD x o q = some d) : Ev G (.sl (.peek i) b c) env d e3 := by
  unfold Ev ev; rw [show peekOf (.peek i) = some i from rfl]; dsimp only
  rw [if_pos h1, show partI (isNil b) (ev G b) env = _ from Evp.ok hb]
  show (partI (isNil c) (ev G c) e2).bind _ = _
  rw [show partI (isNil c) (ev G c) e2 = _ from Evp.ok hc]
  show (match peekAt e3 i with | some d => _ | none => _) = _
  rw [h2]
  show ret1 (slD x o q) e3 = _
  rw [ho]; rfl
theorem Ev.revL (ha : Ev G a env (.list l) e1) : Ev G (.rev a) env (.list l.reverse) e1 := by unfold Ev ev; rw [show ev G a env = _ from Ev.ok ha]; rfl
theorem Ev.revT (ha : Ev G a env (.tuple l) e1) : Ev G (.rev a) env (.tuple l.reverse) e1 := by unfold Ev ev; rw [show ev G a env = _ from Ev.ok ha]; rfl
theorem Ev.bi {o : Bi} (h : Ev G es env (.list l) e1) (ho : o.f l = some d) : Ev G (.bi o es) env d e1 := by
  unfold Ev ev; rw [show ev G es env = _ from Ev.ok h]; show ret1 (o.f l) e1 = _; rw [ho]; rfl
theorem Ev.isi {t : Ty} (h : Ev G a env x e1) (ho : isiD x t = some d) : Ev G (.isi a t) env d e1 := by
  unfold Ev ev; rw [show ev G a env = _ from Ev.ok h]; show ret1 (isiD x t) e1 = _; rw [ho]; rfl
theorem Ev.call {fs : FSem} {r : List D} (hf : G.fn f = some fs) (h : Ev G es env (.list l) e1) (hm : (fs.mu || !(l.length == fs.ar)) = false) (hr : fs.f l = .ok (d, r)) : Ev G (.call f es) env d e1 := by
  unfold Ev ev; rw [show ev G es env = _ from Ev.ok h]
  show (match PyData.list l, G.fn f with | .list l, some fs => _ | _, _ => _) = _
  rw [hf]; dsimp only
  rw [hm, if_neg Bool.false_ne_true, hr]; rfl
theorem Ev.callm {fs : FSem} {c r : List D} (hf : G.fn f = some fs) (h0 : (heldAt env i).isSome = true) (h : Ev G es env (.list l) e1) (hc : heldAt e1 i = some c) (hm : (fs.mu && (l.length + 1 == fs.ar)) = true) (hr : fs.f (.list c :: l) = .ok (d, r)) : Ev G (.callm f i es) env d (setHeld e1 i r) := by
  unfold Ev ev; rw [if_pos h0, show ev G es env = _ from Ev.ok h]
  show (match PyData.list l, G.fn f, heldAt e1 i with | .list l, some fs, some c => _ | _, _, _ => _) = _
  rw [hf, hc]; dsimp only
  rw [if_pos hm, hr]; rfl
theorem Ev.sset {ns : List Int} (h : Ev G a env (.list (ns.map PyData.int)) e1) (hl : ns.length < 4000) (hd : (sdI ns).length < 64) : Ev G (.sset a) env (.list ((sdI ns).map PyData.int)) e1 := by
  have hi : ∀ ns : List Int, intsD? (ns.map PyData.int) = some ns := fun ns => by
    induction ns with
    | nil => rfl
    | cons x r ih => rw [List.map_cons]; unfold intsD?; rw [ih]; rfl
  unfold Ev ev; rw [show ev G a env = _ from Ev.ok h]
  show (match intsD? (ns.map PyData.int) with | some ns => _ | none => _) = _
  rw [hi]; dsimp only; rw [if_pos ⟨hl, hd⟩]
theorem Ev.meth {m : Mt} (hp : peekOf a = none) (ha : Ev G a env (.list l) e1) (hb : Ev G b e1 y e2) (ho : m.f (.list l) y = some d) : Ev G (.meth m a b) env d e2 := by
  unfold Ev ev; rw [hp]; dsimp only; rw [show ev G a env = _ from Ev.ok ha]
  show ((ev G b e1).bind fun r => ret1 (m.f (.list l) r.1) r.2) = _
  rw [show ev G b e1 = _ from Ev.ok hb]; show ret1 (m.f (.list l) y) e2 = _; rw [ho]; rfl
theorem Ev.methP {m : Mt} (h0 : peekAt env i = some (.list l)) (hb : Ev G b env y e2) (h2 : peekAt e2 i = some x) (ho : m.f x y = some d) : Ev G (.meth m (.peek i) b) env d e2 := by
  unfold Ev ev; rw [show peekOf (.peek i) = some i from rfl]; dsimp only; rw [h0]; dsimp only
  rw [show ev G b env = _ from Ev.ok hb]
  show (match peekAt e2 i with | some d => _ | none => _) = _
  rw [h2]; show ret1 (m.f x y) e2 = _; rw [ho]; rfl
theorem Ev.dkeys {kvs : List (List L2.Key × D)} (h : dicAt env i = some kvs) : Ev G (.dkeys i) env (.list (kvs.map fun kv => .tuple (kv.1.map kD))) (env.set i .no) := by
  unfold Ev ev; rw [h]
theorem Ev.ksort {kvs : List (L2.Key × D)} {ks : List Int} (h : dikAt env i = some kvs) (h2 : keyInts kvs = some ks) (h3 : ks.Nodup) (h4 : ks.length < 64) : Ev G (.ksort i) env (.list ((sdI ks).map PyData.int)) env := by
  unfold Ev ev; rw [h]; dsimp only; rw [h2]; dsimp only; rw [decide_eq_true h3, decide_eq_true h4]; rfl
theorem Ev.flat {j k : Nat} {m : List D} {own : List (Str × Nat)} (h : Ev G a env d e1) (hi : itemsOf d = some l) (hm : flatD l = some m) (hn : noHeld e1 (own.map (·.2)) = true) (hl : m.length ≤ sizeLine) (hj : j < e1.length) (hk : k < e1.length) : Ev G (.flat a own j k) env (.list m) e1 := by
  unfold Ev ev; rw [show ev G a env = _ from Ev.ok h]
  show (match itemsOf d with | some l => _ | none => _) = _
  rw [hi]; dsimp only; rw [hm]; dsimp only; rw [hn, decide_eq_true hl, decide_eq_true hj, decide_eq_true hk]; rfl
theorem Ev.din {neg : Bool} {ks : List L2.Key} {kvs : List (List L2.Key × D)} (h : Ev G a env d e1) (hk : keyOf d = some ks) (hd : dicAt e1 i = some kvs) : Ev G (.din neg a i) env (.bool (if neg then !(lookD kvs ks).isSome else (lookD kvs ks).isSome)) e1 := by
  unfold Ev ev; rw [show ev G a env = _ from Ev.ok h]
  show (match keyOf d, dicAt e1 i with | some ks, some kvs => _ | _, _ => _) = _
  rw [hk, hd]
theorem Ev.dget {ks : List L2.Key} {kvs kv0 : List (List L2.Key × D)} (h0 : dicAt env i = some kv0) (h : Ev G a env d e1) (hk : keyOf d = some ks) (hd : dicAt e1 i = some kvs) : Ev G (.dget i a) env ((lookD kvs ks).getD .none) e1 := by
  unfold Ev ev; rw [h0, if_pos (show (some kv0).isSome = true from rfl), show ev G a env = _ from Ev.ok h]
  show (match keyOf d, dicAt e1 i with | some ks, some kvs => _ | _, _ => _) = _
  rw [hk, hd]
theorem Ev.rng1 {i : Int} (h : Ev G a env (.int i) e1) (ho : rngOk i = true) : Ev G (.rng1 a) env (.list (rngD 0 i)) e1 := by
  unfold Ev ev; rw [show ev G a env = _ from Ev.ok h]; show (if rngOk i = true then _ else _) = _; rw [if_pos ho]
theorem Ev.rng2 {i j : Int} (h : Ev G a env (.int i) e1) (h2 : Ev G b e1 (.int j) e2) (ho : (rngOk i && rngOk j) = true) : Ev G (.rng2 a b) env (.list (rngD i j)) e2 := by
  unfold Ev ev; rw [two_ok (Ev.ok h) (Ev.ok h2)]; show (if (rngOk i && rngOk j) = true then _ else _) = _; rw [if_pos ho]
theorem Ev.zipL {l r : List D} (h : Ev G a env (.list l) e1) (h2 : Ev G b e1 (.list r) e2) : Ev G (.zip a b) env (.list (List.zipWith (fun d e => PyData.tuple [d, e]) l r)) e2 := by
  unfold Ev ev; rw [two_ok (Ev.ok h) (Ev.ok h2)]; rfl
theorem Ev.zipT {l r : List D} (h : Ev G a env (.tuple l) e1) (h2 : Ev G b e1 (.tuple r) e2) : Ev G (.zip a b) env (.list (List.zipWith (fun d e => PyData.tuple [d, e]) l r)) e2 := by
  unfold Ev ev; rw [two_ok (Ev.ok h) (Ev.ok h2)]; rfl
theorem Ev.enum (h : Ev G a env x e1) (hl : itemsOf x = some l) : Ev G (.enum a) env (.list (List.zipWith (fun (k : Nat) e => PyData.tuple [.int (k : Int), e]) (List.range l.length) l)) e1 := by
  unfold Ev ev; rw [show ev G a env = _ from Ev.ok h]; show (match itemsOf x with | some x => _ | none => _) = _; rw [hl]
theorem Ev.lc {elt it cond : E} {tg : Tg} {own : List (Str × Nat)} {r : List D} (h : Ev G it env x e1) (hl : itemsOf x = some l) (hn : (noHeld e1 (own.map (·.2)) && decide (l.length ≤ sizeLine)) = true)
    (hg : cgo (asgT tg) (condF (isNil cond) (ev G cond)) (ev G elt) (own.map (·.2)) l (wipeE e1 (own.map (·.2))) [] = .ok (r, e2)) (hr : restE e2 e1 (own.map (·.2)) = e3) : Ev G (.lc elt tg it cond own) env (.list r) e3 := by
  unfold Ev ev; rw [show ev G it env = _ from Ev.ok h]
  show (match itemsOf x with | some l => _ | none => _) = _
  rw [hl]; dsimp only; rw [if_pos hn, hg]; subst hr; rfl
/-! ### comprehensions -/
/-- the block leaves the names as they were -/
theorem cgo_map {asg : D → En → Option En} {cond elt : En → Rs (D × En)} {vs : List Nat} {env : En} (f : D → D) (p : D → Bool) : ∀ (xs : List D) (acc : List D),
    (∀ x ∈ xs, ∃ e1 c e2, asg x env = some e1 ∧ cond e1 = .ok (c, e2) ∧ tru c = some (p x) ∧ (p x = false → wipeE e2 vs = env) ∧ (p x = true → ∃ e3, elt e2 = .ok (f x, e3) ∧ wipeE e3 vs = env)) →
    cgo asg cond elt vs xs env acc = .ok (acc ++ (xs.filter p).map f, env)
  | [], acc, _ => by unfold cgo; simp
  | x :: xs, acc, h => by
    obtain ⟨e1, c, e2, h1, h2, h3, h4, h5⟩ := h x List.mem_cons_self
    have ih := fun acc => cgo_map f p xs acc fun y hy => h y (List.mem_cons_of_mem _ hy)
    unfold cgo
    rw [h1]; dsimp only; rw [h2]
    show (match tru c with | some true => _ | some false => _ | none => _) = _
    rw [h3]
    cases hp : p x with
    | false =>
      show cgo _ _ _ _ _ (wipeE e2 vs) _ = _
      rw [h4 hp, ih, List.filter_cons_of_neg (by rw [hp]; exact Bool.false_ne_true)]
    | true =>
      obtain ⟨e3, g1, g2⟩ := h5 hp
      show ((elt e2).nox.bind fun q => _) = _
      rw [g1]
      show cgo _ _ _ _ _ (wipeE e3 vs) _ = _
      rw [g2, ih, List.filter_cons_of_pos hp, List.map_cons, List.append_assoc]; rfl
theorem cgo_all {asg : D → En → Option En} {cond elt : En → Rs (D × En)} {vs : List Nat} {env : En} (f : D → D) (xs : List D)
    (h : ∀ x ∈ xs, ∃ e1 c e2 e3, asg x env = some e1 ∧ cond e1 = .ok (c, e2) ∧ tru c = some true ∧ elt e2 = .ok (f x, e3) ∧ wipeE e3 vs = env) :
    cgo asg cond elt vs xs env [] = .ok (xs.map f, env) := by
  have := cgo_map (asg := asg) (cond := cond) (elt := elt) (vs := vs) (env := env) f (fun _ => true) xs [] fun x hx => by
    obtain ⟨e1, c, e2, e3, h1, h2, h3, h4, h5⟩ := h x hx
    exact ⟨e1, c, e2, h1, h2, h3, fun z => Bool.noConfusion z, fun _ => ⟨e3, h4, h5⟩⟩
  rw [List.nil_append, List.filter_eq_self.mpr fun _ _ => rfl] at this
  exact this
/-- .. by an invariant of what is made and of the names -/
theorem cgo_inv {asg : D → En → Option En} {cond elt : En → Rs (D × En)} {vs : List Nat} (P : List D → List D → En → Prop) : ∀ (xs : List D) (acc : List D) (env : En), P xs acc env →
    (∀ x xs acc env, P (x :: xs) acc env → ∃ e1 c e2 k, asg x env = some e1 ∧ cond e1 = .ok (c, e2) ∧ tru c = some k ∧ (k = false → P xs acc (wipeE e2 vs)) ∧ (k = true → ∃ y e3, elt e2 = .ok (y, e3) ∧ P xs (acc ++ [y]) (wipeE e3 vs))) →
    ∃ out e, cgo asg cond elt vs xs env acc = .ok (out, e) ∧ P [] out e
  | [], acc, env, h, _ => ⟨acc, env, rfl, h⟩
  | x :: xs, acc, env, h, hs => by
    obtain ⟨e1, c, e2, k, h1, h2, h3, h4, h5⟩ := hs x xs acc env h
    cases k with
    | false =>
      obtain ⟨out, e, g1, g2⟩ := cgo_inv P xs acc _ (h4 rfl) hs
      refine ⟨out, e, ?_, g2⟩
      unfold cgo
      rw [h1]; dsimp only; rw [h2]
      show (match tru c with | some true => _ | some false => _ | none => _) = _
      rw [h3]
      exact g1
    | true =>
      obtain ⟨y, e3, q1, q2⟩ := h5 rfl
      obtain ⟨out, e, g1, g2⟩ := cgo_inv P xs (acc ++ [y]) _ q2 hs
      refine ⟨out, e, ?_, g2⟩
      unfold cgo
      rw [h1]; dsimp only; rw [h2]
      show (match tru c with | some true => _ | some false => _ | none => _) = _
      rw [h3]
      show ((elt e2).nox.bind fun q => _) = _
      rw [q1]
      exact g1
/-! ### statements -/
variable {r : So} {s t : S}
theorem after_ok {k : D → En → So} : after (.ok (x, e1)) k = k x e1 := rfl
theorem Evs.nil : Evs G fr .nil env (.nx env) := by unfold Evs; rfl
theorem Evs.skip : Evs G fr .skip env (.nx env) := by unfold Evs; rfl
theorem Evs.seq (h1 : Evs G fr s env (.nx e1)) (h2 : Evs G fr t e1 r) : Evs G fr (.seq s t) env r := by
  unfold Evs evS; rw [show evS G fr s env = _ from Evs.ok h1]; exact Evs.ok h2
theorem Evs.seqX (h1 : Evs G fr s env r) (h2 : ∀ e, r ≠ .nx e) : Evs G fr (.seq s t) env r := by
  unfold Evs evS; rw [show evS G fr s env = _ from Evs.ok h1]
  cases r <;> first | rfl | exact absurd rfl (h2 _)
theorem Evs.set {o : Bool} (h : Ev G a env d e1) (hs : setS e1 i (mkSl o d) = some e2) : Evs G fr (.set o i a) env (.nx e2) := by
  unfold Evs evS; rw [show ev G a env = _ from Ev.ok h]; show oNx (setS e1 i (mkSl o d)) = _; rw [hs]; rfl
theorem Evs.asg {tg : Tg} (h : Ev G a env d e1) (hs : asgT tg d e1 = some e2) : Evs G fr (.asg tg a) env (.nx e2) := by
  unfold Evs evS; rw [show ev G a env = _ from Ev.ok h]; show oNx (asgT tg d e1) = _; rw [hs]; rfl
theorem Evs.par2 {o q : Bool} (h : Ev G a env x e1) (h2 : Ev G b e1 y e2) (hs : setS e2 i (mkSl o x) = some e3) (hs2 : setS e3 j (mkSl q y) = some e4) : Evs G fr (.par2 i o a j q b) env (.nx e4) := by
  unfold Evs evS
  rw [show ev G a env = _ from Ev.ok h, after_ok, show ev G b e1 = _ from Ev.ok h2, after_ok, hs]
  show oNx (setS e3 j (mkSl q y)) = _
  rw [hs2]; rfl
theorem Evs.parT {tg : Tg} {q : Bool} (h : Ev G a env x e1) (h2 : Ev G b e1 y e2) (hs : asgT tg x e2 = some e3) (hs2 : setS e3 j (mkSl q y) = some e4) : Evs G fr (.parT tg a j q b) env (.nx e4) := by
  unfold Evs evS
  rw [show ev G a env = _ from Ev.ok h, after_ok, show ev G b e1 = _ from Ev.ok h2, after_ok, hs]
  show oNx (setS e3 j (mkSl q y)) = _
  rw [hs2]; rfl
theorem Evs.dnew (hs : setS env i (.dic []) = some e1) : Evs G fr (.dnew i) env (.nx e1) := by unfold Evs evS; rw [hs]; rfl
theorem Evs.knew (hs : setS env i (.dik []) = some e1) : Evs G fr (.knew i) env (.nx e1) := by unfold Evs evS; rw [hs]; rfl
theorem Evs.kupd {kvs kv0 more : List (L2.Key × D)} (h0 : dikAt env i = some kv0) (h : Ev G a env d e1) (hd : dikAt e1 i = some kvs) (hm : prsOf d = some more) (hl : kvs.length + more.length ≤ sizeLine) : Evs G fr (.kupd i a) env (.nx (e1.set i (.dik (mergQ kvs (mergQ [] more))))) := by
  unfold Evs evS kupdS; rw [h0, if_pos (show (some kv0).isSome = true from rfl), show ev G a env = _ from Ev.ok h, after_ok, hd, hm]; dsimp only; rw [if_pos hl]
theorem Evs.dput {ks : List L2.Key} {kvs kv0 : List (List L2.Key × D)} (h : Ev G b env d e1) (h0 : dicAt e1 i = some kv0) (h2 : Ev G a e1 x e2) (hd : dicAt e2 i = some kvs) (hk : keyOf x = some ks) (hl : kvs.length < sizeLine) : Evs G fr (.dput i a b) env (.nx (e2.set i (.dic (putD kvs ks d)))) := by
  unfold Evs evS dputS; rw [show ev G b env = _ from Ev.ok h, after_ok, h0, if_pos (show (some kv0).isSome = true from rfl), show ev G a e1 = _ from Ev.ok h2, after_ok, hd, hk]; dsimp only; rw [if_pos hl]
theorem Evs.parD {q : Bool} {ks : List L2.Key} (h : Ev G a env x e1) (h2 : Ev G b e1 y e2) (hk : keyOf x = some ks) (h3 : Ev G c e2 z e3) {e5 : En} (hs : setS e3 i (.dic [(ks, y)]) = some e4) (hs2 : setS e4 j (mkSl q z) = some e5) : Evs G fr (.parD i a b j q c) env (.nx e5) := by
  unfold Evs evS parDS; rw [show ev G a env = _ from Ev.ok h, after_ok, show ev G b e1 = _ from Ev.ok h2, after_ok, hk]; dsimp only; rw [show ev G c e2 = _ from Ev.ok h3, after_ok, hs]
  show oNx (setS e4 j (mkSl q z)) = _
  rw [hs2]; rfl
theorem Evs.par3 {o q w' : Bool} {e5 e6 : En} (h : Ev G a env x e1) (h2 : Ev G b e1 y e2) (h3 : Ev G c e2 z e3) (hs : setS e3 i (mkSl o x) = some e4) (hs2 : setS e4 j (mkSl q y) = some e5) (hs3 : setS e5 n (mkSl w' z) = some e6) : Evs G fr (.par3 i o a j q b n w' c) env (.nx e6) := by
  unfold Evs evS
  rw [show ev G a env = _ from Ev.ok h, after_ok, show ev G b e1 = _ from Ev.ok h2, after_ok, show ev G c e2 = _ from Ev.ok h3, after_ok, hs]
  show oNx ((setS e4 j (mkSl q y)).bind fun e5 => setS e5 n (mkSl w' z)) = _
  rw [hs2]
  show oNx (setS e5 n (mkSl w' z)) = _
  rw [hs3]; rfl
theorem Evs.aug {sub : Bool} (hx : env[i]? = some (.pd x)) (h : Ev G a env y e1) (hz : augD sub x y = some z) (hs : setS e1 i (.pd z) = some e2) : Evs G fr (.aug i sub a) env (.nx e2) := by
  unfold Evs evS; rw [hx]; dsimp only; rw [show ev G a env = _ from Ev.ok h]
  show (match augD sub x y with | some z => _ | none => _) = _
  rw [hz]; show oNx (setS e1 i (.pd z)) = _; rw [hs]; rfl
theorem Evs.expr (h : Ev G a env d e1) : Evs G fr (.expr a) env (.nx e1) := by unfold Evs evS; rw [show ev G a env = _ from Ev.ok h]; rfl
theorem Evs.app {l : List D} (h0 : (heldAt env i).isSome = true) (h : Ev G a env d e1) (h1 : heldAt e1 i = some l) (hl : l.length < sizeLine) : Evs G fr (.app i a) env (.nx (setHeld e1 i (l ++ [d]))) := by
  unfold Evs evS; rw [if_pos h0, show ev G a env = _ from Ev.ok h]
  show (match heldAt e1 i with | some l => _ | none => _) = _
  rw [h1]; dsimp only; rw [if_pos hl]
theorem Evs.seti {l l2 : List D} (h : Ev G b env d e1) (h0 : (heldAt e1 i).isSome = true) (hk : Ev G a e1 x e2) (h1 : heldAt e2 i = some l) (hs : setD l x d = some l2) : Evs G fr (.seti i a b) env (.nx (setHeld e2 i l2)) := by
  unfold Evs evS; rw [show ev G b env = _ from Ev.ok h]
  show (if (heldAt e1 i).isSome then _ else _) = _
  rw [if_pos h0, show ev G a e1 = _ from Ev.ok hk]
  show (match heldAt e2 i with | some l => _ | none => _) = _
  rw [h1]; dsimp only; rw [hs]
theorem Evs.ifT (h : Ev G c env x e1) (ht : tru x = some true) (h2 : Evs G fr s e1 r) : Evs G fr (.if_ c s t) env r := by
  unfold Evs evS; rw [show ev G c env = _ from Ev.ok h]; show (match tru x with | some true => _ | some false => _ | none => _) = _; rw [ht]; exact Evs.ok h2
theorem Evs.ifF (h : Ev G c env x e1) (ht : tru x = some false) (h2 : Evs G fr t e1 r) : Evs G fr (.if_ c s t) env r := by
  unfold Evs evS; rw [show ev G c env = _ from Ev.ok h]; show (match tru x with | some true => _ | some false => _ | none => _) = _; rw [ht]; exact Evs.ok h2
theorem Evs.if_ (h : Ev G c env x e1) (ht : tru x = some k) (h1 : k = true → Evs G fr s e1 r) (h2 : k = false → Evs G fr t e1 r) : Evs G fr (.if_ c s t) env r := by
  cases k with
  | true => exact .ifT h ht (h1 rfl)
  | false => exact .ifF h ht (h2 rfl)
theorem Evs.ret (h : Ev G a env d e1) (hf : (fr && !isFresh G a && isListD d) = false) : Evs G fr (.ret a) env (.rt d e1) := by
  unfold Evs evS; rw [show ev G a env = _ from Ev.ok h]; show (if (fr && !isFresh G a && isListD d) = true then _ else _) = _; rw [hf, if_neg Bool.false_ne_true]
theorem Evs.retO {l : List D} (h : env[i]? = some (.own l)) : Evs G true (.retO i) env (.rt (.list l) env) := by
  unfold Evs evS; rw [if_pos rfl, h]
theorem Evs.retN : Evs G fr .retN env (.rt .none env) := by unfold Evs; rfl
theorem Evs.brk : Evs G fr .brk env (.bk env) := by unfold Evs; rfl
theorem Evs.cont : Evs G fr .cont env (.ct env) := by unfold Evs; rfl
/-- a loop by an invariant: what is left, the names -/
theorem forGo_inv {asg : D → En → Option En} {body : En → So} (P : List D → En → Prop) : ∀ (xs : List D) (env : En), P xs env →
    (∀ x xs env, P (x :: xs) env → ∃ e1 e2, asg x env = some e1 ∧ (body e1 = .nx e2 ∨ body e1 = .ct e2) ∧ P xs e2) → ∃ e, forGo asg body xs env = .nx e ∧ P [] e
  | [], env, h, _ => ⟨env, rfl, h⟩
  | x :: xs, env, h, hs => by
    obtain ⟨e1, e2, h1, h2, h3⟩ := hs x xs env h
    obtain ⟨e, g1, g2⟩ := forGo_inv P xs e2 h3 hs
    refine ⟨e, ?_, g2⟩
    unfold forGo
    rw [h1]; dsimp only
    rcases h2 with h2 | h2 <;> (rw [h2]; exact g1)
theorem Evs.for_ {tg : Tg} {it : E} {l : List D} (h : Ev G it env x e1) (hl : itemsOf x = some l) (hg : forGo (asgT tg) (evS G fr s) l e1 = r) : Evs G fr (.for_ tg it s) env r := by
  unfold Evs evS; rw [show ev G it env = _ from Ev.ok h]; show (match itemsOf x with | some l => _ | none => _) = _; rw [hl]; exact hg
theorem whGo_T {cond : En → Rs (D × En)} {body : En → So} {n : Nat} (h : cond env = .ok (x, e1)) (ht : tru x = some true) (hb : body e1 = .nx e2 ∨ body e1 = .ct e2) : whGo cond body (n + 1) env = whGo cond body n e2 := by
  show after (cond env) _ = _
  rw [h]; show (match tru x with | some true => _ | some false => _ | none => _) = _; rw [ht]; dsimp only
  rcases hb with hb | hb <;> rw [hb]
theorem whGo_F {cond : En → Rs (D × En)} {body : En → So} {n : Nat} (h : cond env = .ok (x, e1)) (ht : tru x = some false) : whGo cond body (n + 1) env = .nx e1 := by
  show after (cond env) _ = _
  rw [h]; show (match tru x with | some true => _ | some false => _ | none => _) = _; rw [ht]
/-- a while by an invariant and a measure below the fuel -/
theorem whGo_inv {cond : En → Rs (D × En)} {body : En → So} (P : Nat → En → Prop) (R : En → Prop) (hs : ∀ m env, P m env → ∃ x e1 k, cond env = .ok (x, e1) ∧ tru x = some k ∧ (k = false → R e1) ∧ (k = true → ∃ e2 m', (body e1 = .nx e2 ∨ body e1 = .ct e2) ∧ m' < m ∧ P m' e2)) :
    ∀ (n m : Nat) (env : En), m < n → P m env → ∃ e, whGo cond body n env = .nx e ∧ R e
  | 0, m, env, h, _ => absurd h (Nat.not_lt_zero m)
  | n + 1, m, env, h, hp => by
    obtain ⟨x, e1, k, h1, h2, h3, h4⟩ := hs m env hp
    cases k with
    | false => exact ⟨e1, whGo_F h1 h2, h3 rfl⟩
    | true =>
      obtain ⟨e2, m', g1, g2, g3⟩ := h4 rfl
      obtain ⟨e, q1, q2⟩ := whGo_inv P R hs n m' e2 (by omega) g3
      exact ⟨e, by rw [whGo_T h1 h2 g1]; exact q1, q2⟩
theorem Evs.while_ (h : whGo (ev G c) (evS G fr s) n env = r) : Evs G fr (.while_ n c s) env r := by unfold Evs evS; exact h
/-- a def's answer -/
theorem sem_rt {F : Fn} {ds r' : List D} (h : Evs G F.fr F.body (startE F.mu F.N.length ds) (.rt d e1)) (hh : held0 F.mu e1 = r') : (semF G F).f ds = .ok (d, r') := by
  show outF F.mu (evS G F.fr F.body (startE F.mu F.N.length ds)) = _
  rw [show evS G F.fr F.body _ = _ from Evs.ok h, ← hh]; rfl
theorem sem_rt2 {F : Fn} {ds r' : List D} (h : ∃ e1, Evs G F.fr F.body (startE F.mu F.N.length ds) (.rt d e1) ∧ held0 F.mu e1 = r') : (semF G F).f ds = .ok (d, r') := let ⟨_, h1, h2⟩ := h; sem_rt h1 h2
theorem sem_nx {F : Fn} {ds r' : List D} (h : Evs G F.fr F.body (startE F.mu F.N.length ds) (.nx e1)) (hh : held0 F.mu e1 = r') : (semF G F).f ds = .ok (.none, r') := by
  show outF F.mu (evS G F.fr F.body (startE F.mu F.N.length ds)) = _
  rw [show evS G F.fr F.body _ = _ from Evs.ok h, ← hh]; rfl
end
/-! ### side facts -/
theorem mulOk_l {i j : Int} (h1 : -(2 ^ 64) < i) (h2 : i < 2 ^ 64) : mulOk i j = true := by unfold mulOk; rw [decide_eq_true h1, decide_eq_true h2]; rfl
theorem mulOk_r {i j : Int} (h1 : -(2 ^ 64) < j) (h2 : j < 2 ^ 64) : mulOk i j = true := by unfold mulOk; rw [decide_eq_true h1, decide_eq_true h2, Bool.true_and, Bool.or_true, Bool.true_or]
theorem mul_l {i j : Int} (h1 : -(2 ^ 64) < i) (h2 : i < 2 ^ 64) : Bop.mul.f (.int i) (.int j) = some (.int (i * j)) := by
  show (if mulOk i j = true then _ else _) = _; rw [if_pos (mulOk_l h1 h2)]
theorem mul_r {i j : Int} (h1 : -(2 ^ 64) < j) (h2 : j < 2 ^ 64) : Bop.mul.f (.int i) (.int j) = some (.int (i * j)) := by
  show (if mulOk i j = true then _ else _) = _; rw [if_pos (mulOk_r h1 h2)]
theorem mod_p {i j : Int} (h : 0 < j) : Bop.mod.f (.int i) (.int j) = some (.int (i % j)) := by show (if 0 < j then _ else _) = _; rw [if_pos h]
theorem fdiv_p {i j : Int} (h : 0 < j) (h2 : j.natAbs.log2 < 9000) : Bop.fdiv.f (.int i) (.int j) = some (.int (i / j)) := by show (if 0 < j ∧ j.natAbs.log2 < 9000 then _ else _) = _; rw [if_pos ⟨h, h2⟩]
theorem log2_small {n : Nat} (h : n < 2 ^ 64) : n.log2 < 9000 := by
  by_cases h0 : n = 0
  · subst h0; decide
  · have := (Nat.log2_lt h0).mpr h; omega
end Rv

set_option Elab.async false
set_option linter.all false
set_option maxRecDepth 100000
set_option maxHeartbeats 4000000
namespace K38
open PySem Rv
def topS (i : Nat) : Stmt := PySem.Challenge.pw_leadlights_k38_whole_rests_of_bends.main.body.getD i (.Pass ⟨0, 0, 0, 0⟩)
def b_is_whole : S := .seq (.ret (.and_ (.isi (.var 0) .int) (.one (.not_ (.isi (.var 0) .bool))))) .nil
def f_is_whole : Fn := ⟨"is_whole", topS 6, ["value"], ["value"], false, false, b_is_whole⟩
def b_fits_whole : S := .seq (.ret (.and_ (.call 0 (.cons (.var 0) .nil)) (.one (.chain .le .le (.var 1) (.var 0) (.var 2))))) .nil
def f_fits_whole : Fn := ⟨"fits_whole", topS 7, ["value", "low", "high"], ["value", "low", "high"], false, false, b_fits_whole⟩
def b_is_tuple_of : S := .seq (.ret (.and_ (.isi (.var 0) .tuple) (.one (.chain .le .le (.var 1) (.bi .len (.cons (.peek 0) .nil)) (.var 2))))) .nil
def f_is_tuple_of : Fn := ⟨"is_tuple_of", topS 8, ["value", "least", "most"], ["value", "least", "most"], false, false, b_is_tuple_of⟩
def b_touch_by : S := .seq (.set false 4 (.bin .add (.bin .add (.bin .add (.peek 0) (.peek 1)) (.peek 2)) (.peek 3))) (.seq (.ret (.cmp .eq (.bin .mul (.peek 4) (.peek 4)) (.bin .mul (.ci 2) (.bin .add (.bin .add (.bin .add (.bin .mul (.peek 0) (.peek 0)) (.bin .mul (.peek 1) (.peek 1))) (.bin .mul (.peek 2) (.peek 2))) (.bin .mul (.peek 3) (.peek 3)))))) .nil)
def f_touch_by : Fn := ⟨"touch_by", topS 13, ["one", "two", "three", "four", "whole"], ["one", "two", "three", "four"], false, false, b_touch_by⟩
def b_fits_four : S := .seq (.if_ (.or_ (.not_ (.call 2 (.cons (.var 0) (.cons (.ci 4) (.cons (.ci 4) .nil))))) (.one (.not_ (.bi .all (.cons (.lc (.call 1 (.cons (.var 1) (.cons (.neg (.glb 0)) (.cons (.glb 0) .nil)))) (.nm 1) (.var 0) .nil [("one", 1)]) .nil))))) (.seq (.ret (.cb false)) .nil) (.nil)) (.seq (.ret (.and_ (.call 3 (.cons (.idx (.peek 0) (.ci 0)) (.cons (.idx (.peek 0) (.ci 1)) (.cons (.idx (.peek 0) (.ci 2)) (.cons (.idx (.peek 0) (.ci 3)) .nil))))) (.one (.cmp .gt (.bi .sum (.cons (.peek 0) .nil)) (.ci 0))))) .nil)
def f_fits_four : Fn := ⟨"fits_four", topS 14, ["value", "one"], ["value"], false, false, b_fits_four⟩
def b_need_four : S := .seq (.if_ (.not_ (.call 4 (.cons (.var 0) .nil))) (.seq (.never) .nil) (.nil)) .nil
def f_need_four : Fn := ⟨"need_four", topS 15, ["value"], ["value"], false, false, b_need_four⟩
def b_fifth_in : S := .seq (.ret (.bin .sub (.bin .mul (.ci 2) (.bin .sub (.bi .sum (.cons (.peek 0) .nil)) (.idx (.peek 0) (.var 1)))) (.idx (.peek 0) (.var 1)))) .nil
def f_fifth_in : Fn := ⟨"fifth_in", topS 16, ["four", "place"], ["four", "place"], false, false, b_fifth_in⟩
def b_swapped : S := .seq (.ret (.bin .add (.bin .add (.sl (.peek 0) .nil (.var 1)) (.tup (.cons (.call 6 (.cons (.var 0) (.cons (.var 1) .nil))) .nil))) (.sl (.peek 0) (.bin .add (.peek 1) (.ci 1)) .nil))) .nil
def f_swapped : Fn := ⟨"swapped", topS 17, ["four", "place"], ["four", "place"], false, false, b_swapped⟩
def b_lower_in : S := .seq (.set false 1 (.lc (.var 2) (.nm 2) (.rng1 (.ci 4)) (.cmp .lt (.call 6 (.cons (.var 0) (.cons (.var 2) .nil))) (.idx (.peek 0) (.var 2))) [("place", 2)])) (.seq (.ret (.ite (.cmp .ne (.peek 1) (.lst (.nil))) (.idx (.peek 1) (.ci 0)) (.cn))) .nil)
def f_lower_in : Fn := ⟨"lower_in", topS 18, ["four", "some", "place"], ["four"], false, false, b_lower_in⟩
def b_down_in : S := .seq (.par2 1 true (.lst (.nil)) 2 false (.call 8 (.cons (.var 0) .nil))) (.seq (.while_ 1000000 (.cmp .isnot (.peek 2) (.cn)) (.seq (.set false 0 (.call 7 (.cons (.var 0) (.cons (.var 2) .nil)))) (.seq (.app 1 (.var 2)) (.seq (.set false 2 (.call 8 (.cons (.var 0) .nil))) .nil)))) (.seq (.ret (.tup (.cons (.var 1) (.cons (.var 0) .nil)))) .nil))
def f_down_in : Fn := ⟨"down_in", topS 19, ["four", "found", "place"], ["four"], false, false, b_down_in⟩
def b_fits_places : S := .seq (.ret (.and_ (.call 2 (.cons (.var 0) (.cons (.ci 0) (.cons (.glb 2) .nil)))) (.one (.bi .all (.cons (.lc (.call 1 (.cons (.var 1) (.cons (.ci 0) (.cons (.ci 3) .nil)))) (.nm 1) (.var 0) .nil [("one", 1)]) .nil))))) .nil
def f_fits_places : Fn := ⟨"fits_places", topS 20, ["value", "one"], ["value"], false, false, b_fits_places⟩
def b_behind : S := .seq (.for_ (.nm 2) (.var 1) (.seq (.set false 0 (.call 7 (.cons (.var 0) (.cons (.var 2) .nil)))) .nil)) (.seq (.ret (.var 0)) .nil)
def f_behind : Fn := ⟨"behind", topS 21, ["four", "places", "place"], ["four", "places"], false, false, b_behind⟩
def b_net_in : S := .seq (.set false 2 (.idx (.call 9 (.cons (.var 0) .nil)) (.ci 1))) (.seq (.par2 3 true (.lc (.var 9) (.nm 9) (.var 2) (.cmp .le (.peek 9) (.peek 1)) [("one", 9)]) 4 false (.lst (.cons (.tup (.cons (.var 2) (.cons (.cn) .nil))) .nil))) (.seq (.while_ 1000000 (.cmp .ne (.peek 4) (.lst (.nil))) (.seq (.set true 5 (.lst (.nil))) (.seq (.for_ (.tup (.cons (.nm 6) (.cons (.nm 7) .nil))) (.var 4) (.seq (.for_ (.nm 8) (.rng1 (.ci 4)) (.seq (.set false 10 (.call 7 (.cons (.var 6) (.cons (.var 8) .nil)))) (.seq (.if_ (.and_ (.cmp .ne (.peek 8) (.peek 7)) (.one (.cmp .le (.idx (.peek 10) (.var 8)) (.peek 1)))) (.seq (.app 3 (.idx (.peek 10) (.var 8))) (.seq (.app 5 (.tup (.cons (.var 10) (.cons (.var 8) .nil)))) .nil)) (.nil)) .nil))) .nil)) (.seq (.set false 4 (.var 5)) .nil)))) (.seq (.ret (.bi .sorted (.cons (.peek 3) .nil))) .nil)))
def f_net_in : Fn := ⟨"net_in", topS 22, ["four", "bound", "first", "found", "line", "later", "own", "last", "place", "one", "new"], ["four", "bound"], false, false, b_net_in⟩
def b_exchanged : S := .seq (.expr (.call 5 (.cons (.var 0) .nil))) (.seq (.if_ (.not_ (.call 10 (.cons (.var 1) .nil))) (.seq (.never) .nil) (.nil)) (.seq (.ret (.call 11 (.cons (.var 0) (.cons (.var 1) .nil)))) .nil))
def f_exchanged : Fn := ⟨"exchanged", topS 23, ["four", "places"], ["four", "places"], false, false, b_exchanged⟩
def b_need_bounded : S := .seq (.expr (.call 5 (.cons (.var 0) .nil))) (.seq (.if_ (.cmp .ge (.bi .min (.cons (.idx (.call 9 (.cons (.var 0) .nil)) (.ci 1)) .nil)) (.ci 0)) (.seq (.never) .nil) (.nil)) (.seq (.if_ (.not_ (.call 1 (.cons (.var 1) (.cons (.ci 0) (.cons (.glb 1) .nil))))) (.seq (.never) .nil) (.nil)) .nil))
def f_need_bounded : Fn := ⟨"need_bounded", topS 24, ["four", "bound"], ["four", "bound"], false, false, b_need_bounded⟩
def b_net_bends : S := .seq (.expr (.call 14 (.cons (.var 0) (.cons (.var 1) .nil)))) (.seq (.ret (.bi .tuple (.cons (.sset (.call 12 (.cons (.var 0) (.cons (.var 1) .nil)))) .nil))) .nil)
def f_net_bends : Fn := ⟨"net_bends", topS 25, ["four", "bound"], ["four", "bound"], false, false, b_net_bends⟩
def b_rests_of : S := .seq (.expr (.call 5 (.cons (.var 0) .nil))) (.seq (.if_ (.not_ (.call 1 (.cons (.var 1) (.cons (.ci 1) (.cons (.ci 12) .nil))))) (.seq (.never) .nil) (.nil)) (.seq (.set false 2 (.bi .tuple (.cons (.lc (.bin .mod (.peek 8) (.peek 1)) (.nm 8) (.idx (.call 9 (.cons (.var 0) .nil)) (.ci 1)) .nil [("one", 8)]) .nil))) (.seq (.parD 3 (.var 2) (.cb true) 4 true (.lst (.cons (.var 2) .nil))) (.seq (.while_ 1000000 (.cmp .ne (.peek 4) (.lst (.nil))) (.seq (.set false 5 (.pop 4)) (.seq (.for_ (.nm 6) (.rng1 (.ci 4)) (.seq (.set false 7 (.bi .tuple (.cons (.lc (.bin .mod (.peek 8) (.peek 1)) (.nm 8) (.call 7 (.cons (.var 5) (.cons (.var 6) .nil))) .nil [("one", 8)]) .nil))) (.seq (.if_ (.din true (.var 7) 3) (.seq (.dput 3 (.var 7) (.cb true)) (.seq (.app 4 (.var 7)) .nil)) (.nil)) .nil))) .nil))) (.seq (.ret (.bi .tuple (.cons (.sset (.flat (.dkeys 3) [("own", 9), ("one", 8)] 9 8)) .nil))) .nil)))))
def f_rests_of : Fn := ⟨"rests_of", topS 26, ["four", "modulus", "start", "known", "line", "here", "place", "new", "one", "own"], ["four", "modulus"], false, false, b_rests_of⟩
def b_law_cup : S := .seq (.set false 1 (.bi .abs (.cons (.idx (.bin .add (.bi .list (.cons (.peek 0) .nil)) (.lst (.cons (.ci 0) .nil))) (.ci 0)) .nil))) (.seq (.ret (.lst (.cons (.ite (.cmp .ge (.peek 1) (.bin .pow (.ci 10) (.ci 18))) (.bin .fdiv (.peek 1) (.ci 191)) (.ci 0)) (.cons (.bin .add (.bin .mod (.bi .int (.cons (.bin .add (.bin .mul (.peek 1) (.ci 523)) (.ci 4831)) .nil)) (.ci 2077503719)) (.ci 353)) .nil)))) .nil)
def f_law_cup : Fn := ⟨"_law_cup", topS 28, ["script", "cell"], ["script"], false, true, b_law_cup⟩
def b_law_roll : S := .seq (.if_ (.cmp .gt (.idx (.peek 0) (.ci 0)) (.ci 0)) (.seq (.set false 3 (.bin .mod (.bi .int (.cons (.idx (.peek 0) (.ci 0)) .nil)) (.peek 1))) (.seq (.seti 0 (.ci 0) (.bin .fdiv (.idx (.peek 0) (.ci 0)) (.peek 1))) (.seq (.ret (.var 3)) .nil))) (.nil)) (.seq (.seti 0 (.ci 1) (.bin .mod (.bi .int (.cons (.bin .add (.bin .mul (.idx (.peek 0) (.ci 1)) (.ci 31883)) (.ci 8699)) .nil)) (.ci 2147483549))) (.seq (.set false 2 (.bin .mod (.bi .int (.cons (.bin .mul (.idx (.peek 0) (.ci 1)) (.bin .add (.idx (.peek 0) (.ci 1)) (.ci 463))) .nil)) (.ci 2147483563))) (.seq (.ret (.bin .mod (.bi .int (.cons (.bin .fdiv (.peek 2) (.ci 1103)) .nil)) (.peek 1))) .nil)))
def f_law_roll : Fn := ⟨"_law_roll", topS 29, ["cup", "many", "deep", "found"], ["cup", "many"], true, false, b_law_roll⟩
def b_law_some : S := .seq (.ret (.idx (.peek 1) (.callm 18 0 (.cons (.bi .len (.cons (.peek 1) .nil)) .nil)))) .nil
def f_law_some : Fn := ⟨"_law_some", topS 30, ["cup", "things"], ["cup", "things"], true, false, b_law_some⟩
def b_law_same (self : Nat) : S := .seq (.if_ (.isi (.var 1) .tuple) (.seq (.if_ (.or_ (.not_ (.isi (.var 0) .tuple)) (.one (.cmp .ne (.bi .len (.cons (.peek 0) .nil)) (.bi .len (.cons (.peek 1) .nil))))) (.seq (.ret (.cb false)) .nil) (.nil)) (.seq (.ret (.bi .all (.cons (.lc (.call self (.cons (.idx (.peek 0) (.var 2)) (.cons (.idx (.peek 1) (.var 2)) .nil))) (.nm 2) (.rng1 (.bi .len (.cons (.peek 1) .nil))) .nil [("at", 2)]) .nil))) .nil)) (.nil)) (.seq (.if_ (.cmp .is (.peek 1) (.cn)) (.seq (.ret (.cmp .is (.peek 0) (.cn))) .nil) (.nil)) (.seq (.if_ (.isi (.var 1) .bool) (.seq (.ret (.ite (.var 1) (.cmp .is (.peek 0) (.cb true)) (.cmp .is (.peek 0) (.cb false)))) .nil) (.nil)) (.seq (.if_ (.isi (.var 1) .int) (.seq (.ret (.and_ (.isi (.var 0) .int) (.and_ (.not_ (.isi (.var 0) .bool)) (.one (.cmp .eq (.bi .int (.cons (.peek 0) .nil)) (.peek 1)))))) .nil) (.nil)) (.seq (.ret (.and_ (.isi (.var 0) .str) (.one (.cmp .eq (.bi .str (.cons (.peek 0) .nil)) (.peek 1))))) .nil))))
def f_law_same_0 : Fn := ⟨"_law_same", topS 31, ["told", "due", "at"], ["told", "due"], false, false, .never⟩
def f_law_same_1 : Fn := ⟨"_law_same", topS 31, ["told", "due", "at"], ["told", "due"], false, false, b_law_same 20⟩
def f_law_same_2 : Fn := ⟨"_law_same", topS 31, ["told", "due", "at"], ["told", "due"], false, false, b_law_same 21⟩
def f_law_same_3 : Fn := ⟨"_law_same", topS 31, ["told", "due", "at"], ["told", "due"], false, false, b_law_same 22⟩
def f_law_same_4 : Fn := ⟨"_law_same", topS 31, ["told", "due", "at"], ["told", "due"], false, false, b_law_same 23⟩
def b_law_turned : S := .seq (.set false 2 (.lst (.nil))) (.seq (.for_ (.nm 3) (.var 1) (.seq (.set false 4 (.callm 18 0 (.cons (.bin .add (.bi .len (.cons (.peek 2) .nil)) (.ci 1)) .nil))) (.seq (.set false 2 (.bin .add (.bin .add (.sl (.peek 2) .nil (.var 4)) (.lst (.cons (.var 3) .nil))) (.sl (.peek 2) (.var 4) .nil))) .nil))) (.seq (.ret (.var 2)) .nil))
def f_law_turned : Fn := ⟨"_law_turned", topS 32, ["cup", "things", "found", "one", "at"], ["cup", "things"], true, false, b_law_turned⟩
def b_law_swapped : S := .seq (.set false 2 (.lc (.var 4) (.tup (.cons (.nm 3) (.cons (.nm 4) .nil))) (.enum (.var 0)) (.cmp .ne (.peek 3) (.peek 1)) [("at", 3), ("one", 4)])) (.seq (.ret (.bi .tuple (.cons (.lc (.ite (.cmp .eq (.peek 3) (.peek 1)) (.bin .sub (.bin .mul (.ci 2) (.bi .sum (.cons (.peek 2) .nil))) (.peek 4)) (.var 4)) (.tup (.cons (.nm 3) (.cons (.nm 4) .nil))) (.enum (.var 0)) .nil [("at", 3), ("one", 4)]) .nil))) .nil)
def f_law_swapped : Fn := ⟨"_law_swapped", topS 33, ["four", "place", "rest", "at", "one"], ["four", "place"], false, false, b_law_swapped⟩
def b_law_given : S := .seq (.set false 2 (.lst (.cons (.tup (.cons (.neg (.ci 1)) (.cons (.ci 2) (.cons (.ci 2) (.cons (.ci 3) .nil))))) (.cons (.tup (.cons (.neg (.ci 2)) (.cons (.ci 3) (.cons (.ci 6) (.cons (.ci 7) .nil))))) (.cons (.tup (.cons (.neg (.ci 3)) (.cons (.ci 4) (.cons (.ci 12) (.cons (.ci 13) .nil))))) (.cons (.tup (.cons (.neg (.ci 3)) (.cons (.ci 5) (.cons (.ci 8) (.cons (.ci 8) .nil))))) (.cons (.tup (.cons (.neg (.ci 4)) (.cons (.ci 5) (.cons (.ci 20) (.cons (.ci 21) .nil))))) (.cons (.tup (.cons (.neg (.ci 4)) (.cons (.ci 8) (.cons (.ci 9) (.cons (.ci 9) .nil))))) (.cons (.tup (.cons (.neg (.ci 6)) (.cons (.ci 10) (.cons (.ci 15) (.cons (.ci 19) .nil))))) (.cons (.tup (.cons (.ci 0) (.cons (.ci 0) (.cons (.ci 1) (.cons (.ci 1) .nil))))) (.cons (.tup (.cons (.neg (.ci 2)) (.cons (.ci 4) (.cons (.ci 4) (.cons (.ci 6) .nil))))) (.cons (.tup (.cons (.ci 0) (.cons (.ci 0) (.cons (.ci 3) (.cons (.ci 3) .nil))))) .nil)))))))))))) (.seq (.set false 3 (.bi .tuple (.cons (.callm 25 0 (.cons (.bi .list (.cons (.callm 19 0 (.cons (.var 2) .nil)) .nil)) .nil)) .nil))) (.seq (.set false 4 (.var 3)) (.seq (.for_ (.nm 5) (.rng1 (.callm 18 0 (.cons (.bin .add (.peek 1) (.ci 1)) .nil))) (.seq (.set false 6 (.call 26 (.cons (.var 4) (.cons (.callm 18 0 (.cons (.ci 4) .nil)) .nil)))) (.seq (.set false 4 (.ite (.cmp .le (.bi .max (.cons (.peek 6) .nil)) (.ci 60000)) (.var 6) (.var 4))) .nil))) (.seq (.ret (.tup (.cons (.var 3) (.cons (.var 4) .nil)))) .nil))))
def f_law_given : Fn := ⟨"_law_given", topS 34, ["cup", "steps", "rows", "first", "four", "turn", "new"], ["cup", "steps"], true, false, b_law_given⟩
def b_law_rests : S := .seq (.set false 2 (.bi .tuple (.cons (.lc (.bin .mod (.bi .int (.cons (.peek 9) .nil)) (.peek 1)) (.nm 9) (.var 0) .nil [("one", 9)]) .nil))) (.seq (.parD 5 (.var 2) (.cb true) 6 true (.lst (.cons (.var 2) .nil))) (.seq (.while_ 1000000 (.cmp .ne (.peek 6) (.lst (.nil))) (.seq (.par2 4 false (.idx (.peek 6) (.neg (.ci 1))) 6 true (.sl (.peek 6) .nil (.neg (.ci 1)))) (.seq (.for_ (.nm 7) (.rng1 (.ci 4)) (.seq (.set false 8 (.bi .tuple (.cons (.lc (.bin .mod (.bi .int (.cons (.peek 9) .nil)) (.peek 1)) (.nm 9) (.call 26 (.cons (.var 4) (.cons (.var 7) .nil))) .nil [("one", 9)]) .nil))) (.seq (.if_ (.din true (.var 8) 5) (.seq (.dput 5 (.var 8) (.cb true)) (.seq (.app 6 (.var 8)) .nil)) (.nil)) .nil))) .nil))) (.seq (.knew 3) (.seq (.for_ (.nm 4) (.dkeys 5) (.seq (.kupd 3 (.lc (.tup (.cons (.var 9) (.cons (.cb true) .nil))) (.nm 9) (.var 4) .nil [("one", 9)])) .nil)) (.seq (.ret (.bi .tuple (.cons (.ksort 3) .nil))) .nil)))))
def f_law_rests : Fn := ⟨"_law_rests", topS 35, ["four", "modulus", "start", "found", "own", "seen", "line", "place", "new", "one"], ["four", "modulus"], false, false, b_law_rests⟩
def b_law : S := .seq (.set true 1 (.call 17 (.cons (.var 0) .nil))) (.seq (.for_ (.nm 2) (.rng1 (.ci 3)) (.seq (.asg (.tup (.cons (.nm 8) (.cons (.nm 6) .nil))) (.callm 27 1 (.cons (.ci 4) .nil))) (.seq (.set false 3 (.bin .add (.ci 1) (.callm 19 1 (.cons (.lst (.cons (.ci 1) (.cons (.ci 2) (.cons (.ci 3) (.cons (.ci 5) (.cons (.callm 18 1 (.cons (.ci 6) .nil)) .nil)))))) .nil)))) (.seq (.set false 4 (.call 16 (.cons (.var 6) (.cons (.var 3) .nil)))) (.seq (.if_ (.or_ (.not_ (.call 24 (.cons (.var 4) (.cons (.call 28 (.cons (.var 6) (.cons (.var 3) .nil))) .nil)))) (.one (.not_ (.call 24 (.cons (.call 16 (.cons (.var 8) (.cons (.var 3) .nil))) (.cons (.var 4) .nil)))))) (.seq (.ret (.cb false)) .nil) (.nil)) (.seq (.set false 5 (.bi .tuple (.cons (.lc (.callm 18 1 (.cons (.ci 4) .nil)) (.nm 2) (.rng1 (.ci 8)) .nil [("turn", 2)]) .nil))) (.seq (.if_ (.cmp .ne (.lc (.var 9) (.nm 9) (.call 13 (.cons (.var 6) (.cons (.var 5) .nil))) (.cmp .notin (.bin .mod (.bi .int (.cons (.peek 9) .nil)) (.peek 3)) (.peek 4)) [("one", 9)]) (.lst (.nil))) (.seq (.ret (.cb false)) .nil) (.nil)) (.seq (.if_ (.and_ (.cmp .lt (.bi .min (.cons (.peek 8) .nil)) (.ci 0)) (.one (.cmp .ne (.lc (.var 10) (.nm 10) (.call 15 (.cons (.var 6) (.cons (.ci 40) .nil))) (.cmp .notin (.bin .mod (.bi .int (.cons (.peek 10) .nil)) (.peek 3)) (.peek 4)) [("bend", 10)]) (.lst (.nil))))) (.seq (.ret (.cb false)) .nil) (.nil)) .nil)))))))) (.seq (.asg (.tup (.cons (.nm 6) (.cons (.nm 7) .nil))) (.callm 19 1 (.cons (.lst (.cons (.tup (.cons (.tup (.cons (.neg (.ci 1)) (.cons (.ci 2) (.cons (.ci 2) (.cons (.ci 3) .nil))))) (.cons (.tup (.cons (.ci 2) (.cons (.ci 3) (.cons (.ci 6) (.cons (.ci 11) .nil))))) .nil))) (.cons (.tup (.cons (.tup (.cons (.neg (.ci 3)) (.cons (.ci 5) (.cons (.ci 8) (.cons (.ci 8) .nil))))) (.cons (.tup (.cons (.ci 0) (.cons (.ci 5) (.cons (.ci 8) (.cons (.ci 9) .nil))))) .nil))) (.cons (.tup (.cons (.tup (.cons (.ci 0) (.cons (.ci 0) (.cons (.ci 1) (.cons (.ci 1) .nil))))) (.cons (.tup (.cons (.ci 0) (.cons (.ci 1) (.cons (.ci 4) (.cons (.ci 9) .nil))))) .nil))) .nil)))) .nil))) (.seq (.ret (.call 24 (.cons (.call 16 (.cons (.var 6) (.cons (.ci 12) .nil))) (.cons (.var 7) .nil)))) .nil)))
def f_law : Fn := ⟨"law", topS 36, ["script", "cup", "turn", "modulus", "told", "places", "four", "due", "first", "one", "bend"], ["script"], false, false, b_law⟩
def gl : List (Str × D) := [(("FAR" : Str), .int 1000000), (("BOUND" : Str), .int 300), (("WAY" : Str), .int 40)]
def L0 : List (Str × FSem) := []
def sem0 : FSem := semF (mkG gl L0) f_is_whole
def L1 : List (Str × FSem) := L0 ++ [(("is_whole" : Str), sem0)]
def sem1 : FSem := semF (mkG gl L1) f_fits_whole
def L2 : List (Str × FSem) := L1 ++ [(("fits_whole" : Str), sem1)]
def sem2 : FSem := semF (mkG gl L2) f_is_tuple_of
def L3 : List (Str × FSem) := L2 ++ [(("is_tuple_of" : Str), sem2)]
def sem3 : FSem := semF (mkG gl L3) f_touch_by
def L4 : List (Str × FSem) := L3 ++ [(("touch_by" : Str), sem3)]
def sem4 : FSem := semF (mkG gl L4) f_fits_four
def L5 : List (Str × FSem) := L4 ++ [(("fits_four" : Str), sem4)]
def sem5 : FSem := semF (mkG gl L5) f_need_four
def L6 : List (Str × FSem) := L5 ++ [(("need_four" : Str), sem5)]
def sem6 : FSem := semF (mkG gl L6) f_fifth_in
def L7 : List (Str × FSem) := L6 ++ [(("fifth_in" : Str), sem6)]
def sem7 : FSem := semF (mkG gl L7) f_swapped
def L8 : List (Str × FSem) := L7 ++ [(("swapped" : Str), sem7)]
def sem8 : FSem := semF (mkG gl L8) f_lower_in
def L9 : List (Str × FSem) := L8 ++ [(("lower_in" : Str), sem8)]
def sem9 : FSem := semF (mkG gl L9) f_down_in
def L10 : List (Str × FSem) := L9 ++ [(("down_in" : Str), sem9)]
def sem10 : FSem := semF (mkG gl L10) f_fits_places
def L11 : List (Str × FSem) := L10 ++ [(("fits_places" : Str), sem10)]
def sem11 : FSem := semF (mkG gl L11) f_behind
def L12 : List (Str × FSem) := L11 ++ [(("behind" : Str), sem11)]
def sem12 : FSem := semF (mkG gl L12) f_net_in
def L13 : List (Str × FSem) := L12 ++ [(("net_in" : Str), sem12)]
def sem13 : FSem := semF (mkG gl L13) f_exchanged
def L14 : List (Str × FSem) := L13 ++ [(("exchanged" : Str), sem13)]
def sem14 : FSem := semF (mkG gl L14) f_need_bounded
def L15 : List (Str × FSem) := L14 ++ [(("need_bounded" : Str), sem14)]
def sem15 : FSem := semF (mkG gl L15) f_net_bends
def L16 : List (Str × FSem) := L15 ++ [(("net_bends" : Str), sem15)]
def sem16 : FSem := semF (mkG gl L16) f_rests_of
def L17 : List (Str × FSem) := L16 ++ [(("rests_of" : Str), sem16)]
def sem17 : FSem := semF (mkG gl L17) f_law_cup
def L18 : List (Str × FSem) := L17 ++ [(("_law_cup" : Str), sem17)]
def sem18 : FSem := semF (mkG gl L18) f_law_roll
def L19 : List (Str × FSem) := L18 ++ [(("_law_roll" : Str), sem18)]
def sem19 : FSem := semF (mkG gl L19) f_law_some
def L20 : List (Str × FSem) := L19 ++ [(("_law_some" : Str), sem19)]
def sem20 : FSem := semF (mkG gl L20) f_law_same_0
def L21 : List (Str × FSem) := L20 ++ [(("_law_same" : Str), sem20)]
def sem21 : FSem := semF (mkG gl L21) f_law_same_1
def L22 : List (Str × FSem) := L21 ++ [(("_law_same" : Str), sem21)]
def sem22 : FSem := semF (mkG gl L22) f_law_same_2
def L23 : List (Str × FSem) := L22 ++ [(("_law_same" : Str), sem22)]
def sem23 : FSem := semF (mkG gl L23) f_law_same_3
def L24 : List (Str × FSem) := L23 ++ [(("_law_same" : Str), sem23)]
def sem24 : FSem := semF (mkG gl L24) f_law_same_4
def L25 : List (Str × FSem) := L24 ++ [(("_law_same" : Str), sem24)]
def sem25 : FSem := semF (mkG gl L25) f_law_turned
def L26 : List (Str × FSem) := L25 ++ [(("_law_turned" : Str), sem25)]
def sem26 : FSem := semF (mkG gl L26) f_law_swapped
def L27 : List (Str × FSem) := L26 ++ [(("_law_swapped" : Str), sem26)]
def sem27 : FSem := semF (mkG gl L27) f_law_given
def L28 : List (Str × FSem) := L27 ++ [(("_law_given" : Str), sem27)]
def sem28 : FSem := semF (mkG gl L28) f_law_rests
def L29 : List (Str × FSem) := L28 ++ [(("_law_rests" : Str), sem28)]
def sem29 : FSem := semF (mkG gl L29) f_law
def L30 : List (Str × FSem) := L29 ++ [(("law" : Str), sem29)]
theorem sc0 : C8.scC f_is_whole.N f_is_whole.ps (L2.defScope f_is_whole.st) = true := by decide +kernel
theorem ck0 : okS (mkG gl L0) f_is_whole.N (L2.defScope f_is_whole.st) f_is_whole.body (.b (L2.defBody f_is_whole.st)) = true := by decide +kernel
theorem sc1 : C8.scC f_fits_whole.N f_fits_whole.ps (L2.defScope f_fits_whole.st) = true := by decide +kernel
theorem ck1 : okS (mkG gl L1) f_fits_whole.N (L2.defScope f_fits_whole.st) f_fits_whole.body (.b (L2.defBody f_fits_whole.st)) = true := by decide +kernel
theorem sc2 : C8.scC f_is_tuple_of.N f_is_tuple_of.ps (L2.defScope f_is_tuple_of.st) = true := by decide +kernel
theorem ck2 : okS (mkG gl L2) f_is_tuple_of.N (L2.defScope f_is_tuple_of.st) f_is_tuple_of.body (.b (L2.defBody f_is_tuple_of.st)) = true := by decide +kernel
theorem sc3 : C8.scC f_touch_by.N f_touch_by.ps (L2.defScope f_touch_by.st) = true := by decide +kernel
theorem ck3 : okS (mkG gl L3) f_touch_by.N (L2.defScope f_touch_by.st) f_touch_by.body (.b (L2.defBody f_touch_by.st)) = true := by decide +kernel
theorem sc4 : C8.scC f_fits_four.N f_fits_four.ps (L2.defScope f_fits_four.st) = true := by decide +kernel
theorem ck4 : okS (mkG gl L4) f_fits_four.N (L2.defScope f_fits_four.st) f_fits_four.body (.b (L2.defBody f_fits_four.st)) = true := by decide +kernel
theorem sc5 : C8.scC f_need_four.N f_need_four.ps (L2.defScope f_need_four.st) = true := by decide +kernel
theorem ck5 : okS (mkG gl L5) f_need_four.N (L2.defScope f_need_four.st) f_need_four.body (.b (L2.defBody f_need_four.st)) = true := by decide +kernel
theorem sc6 : C8.scC f_fifth_in.N f_fifth_in.ps (L2.defScope f_fifth_in.st) = true := by decide +kernel
theorem ck6 : okS (mkG gl L6) f_fifth_in.N (L2.defScope f_fifth_in.st) f_fifth_in.body (.b (L2.defBody f_fifth_in.st)) = true := by decide +kernel
theorem sc7 : C8.scC f_swapped.N f_swapped.ps (L2.defScope f_swapped.st) = true := by decide +kernel
theorem ck7 : okS (mkG gl L7) f_swapped.N (L2.defScope f_swapped.st) f_swapped.body (.b (L2.defBody f_swapped.st)) = true := by decide +kernel
theorem sc8 : C8.scC f_lower_in.N f_lower_in.ps (L2.defScope f_lower_in.st) = true := by decide +kernel
theorem ck8 : okS (mkG gl L8) f_lower_in.N (L2.defScope f_lower_in.st) f_lower_in.body (.b (L2.defBody f_lower_in.st)) = true := by decide +kernel
theorem sc9 : C8.scC f_down_in.N f_down_in.ps (L2.defScope f_down_in.st) = true := by decide +kernel
theorem ck9 : okS (mkG gl L9) f_down_in.N (L2.defScope f_down_in.st) f_down_in.body (.b (L2.defBody f_down_in.st)) = true := by decide +kernel
theorem sc10 : C8.scC f_fits_places.N f_fits_places.ps (L2.defScope f_fits_places.st) = true := by decide +kernel
theorem ck10 : okS (mkG gl L10) f_fits_places.N (L2.defScope f_fits_places.st) f_fits_places.body (.b (L2.defBody f_fits_places.st)) = true := by decide +kernel
theorem sc11 : C8.scC f_behind.N f_behind.ps (L2.defScope f_behind.st) = true := by decide +kernel
theorem ck11 : okS (mkG gl L11) f_behind.N (L2.defScope f_behind.st) f_behind.body (.b (L2.defBody f_behind.st)) = true := by decide +kernel
theorem sc12 : C8.scC f_net_in.N f_net_in.ps (L2.defScope f_net_in.st) = true := by decide +kernel
theorem ck12 : okS (mkG gl L12) f_net_in.N (L2.defScope f_net_in.st) f_net_in.body (.b (L2.defBody f_net_in.st)) = true := by decide +kernel
theorem sc13 : C8.scC f_exchanged.N f_exchanged.ps (L2.defScope f_exchanged.st) = true := by decide +kernel
theorem ck13 : okS (mkG gl L13) f_exchanged.N (L2.defScope f_exchanged.st) f_exchanged.body (.b (L2.defBody f_exchanged.st)) = true := by decide +kernel
theorem sc14 : C8.scC f_need_bounded.N f_need_bounded.ps (L2.defScope f_need_bounded.st) = true := by decide +kernel
theorem ck14 : okS (mkG gl L14) f_need_bounded.N (L2.defScope f_need_bounded.st) f_need_bounded.body (.b (L2.defBody f_need_bounded.st)) = true := by decide +kernel
theorem sc15 : C8.scC f_net_bends.N f_net_bends.ps (L2.defScope f_net_bends.st) = true := by decide +kernel
theorem ck15 : okS (mkG gl L15) f_net_bends.N (L2.defScope f_net_bends.st) f_net_bends.body (.b (L2.defBody f_net_bends.st)) = true := by decide +kernel
theorem sc16 : C8.scC f_rests_of.N f_rests_of.ps (L2.defScope f_rests_of.st) = true := by decide +kernel
theorem ck16 : okS (mkG gl L16) f_rests_of.N (L2.defScope f_rests_of.st) f_rests_of.body (.b (L2.defBody f_rests_of.st)) = true := by decide +kernel
theorem sc17 : C8.scC f_law_cup.N f_law_cup.ps (L2.defScope f_law_cup.st) = true := by decide +kernel
theorem ck17 : okS (mkG gl L17) f_law_cup.N (L2.defScope f_law_cup.st) f_law_cup.body (.b (L2.defBody f_law_cup.st)) = true := by decide +kernel
theorem sc18 : C8.scC f_law_roll.N f_law_roll.ps (L2.defScope f_law_roll.st) = true := by decide +kernel
theorem ck18 : okS (mkG gl L18) f_law_roll.N (L2.defScope f_law_roll.st) f_law_roll.body (.b (L2.defBody f_law_roll.st)) = true := by decide +kernel
theorem sc19 : C8.scC f_law_some.N f_law_some.ps (L2.defScope f_law_some.st) = true := by decide +kernel
theorem ck19 : okS (mkG gl L19) f_law_some.N (L2.defScope f_law_some.st) f_law_some.body (.b (L2.defBody f_law_some.st)) = true := by decide +kernel
theorem sc20 : C8.scC f_law_same_0.N f_law_same_0.ps (L2.defScope f_law_same_0.st) = true := by decide +kernel
theorem ck20 : okS (mkG gl L20) f_law_same_0.N (L2.defScope f_law_same_0.st) f_law_same_0.body (.b (L2.defBody f_law_same_0.st)) = true := by decide +kernel
theorem sc21 : C8.scC f_law_same_1.N f_law_same_1.ps (L2.defScope f_law_same_1.st) = true := by decide +kernel
theorem ck21 : okS (mkG gl L21) f_law_same_1.N (L2.defScope f_law_same_1.st) f_law_same_1.body (.b (L2.defBody f_law_same_1.st)) = true := by decide +kernel
theorem sc22 : C8.scC f_law_same_2.N f_law_same_2.ps (L2.defScope f_law_same_2.st) = true := by decide +kernel
theorem ck22 : okS (mkG gl L22) f_law_same_2.N (L2.defScope f_law_same_2.st) f_law_same_2.body (.b (L2.defBody f_law_same_2.st)) = true := by decide +kernel
theorem sc23 : C8.scC f_law_same_3.N f_law_same_3.ps (L2.defScope f_law_same_3.st) = true := by decide +kernel
theorem ck23 : okS (mkG gl L23) f_law_same_3.N (L2.defScope f_law_same_3.st) f_law_same_3.body (.b (L2.defBody f_law_same_3.st)) = true := by decide +kernel
theorem sc24 : C8.scC f_law_same_4.N f_law_same_4.ps (L2.defScope f_law_same_4.st) = true := by decide +kernel
theorem ck24 : okS (mkG gl L24) f_law_same_4.N (L2.defScope f_law_same_4.st) f_law_same_4.body (.b (L2.defBody f_law_same_4.st)) = true := by decide +kernel
theorem sc25 : C8.scC f_law_turned.N f_law_turned.ps (L2.defScope f_law_turned.st) = true := by decide +kernel
theorem ck25 : okS (mkG gl L25) f_law_turned.N (L2.defScope f_law_turned.st) f_law_turned.body (.b (L2.defBody f_law_turned.st)) = true := by decide +kernel
theorem sc26 : C8.scC f_law_swapped.N f_law_swapped.ps (L2.defScope f_law_swapped.st) = true := by decide +kernel
theorem ck26 : okS (mkG gl L26) f_law_swapped.N (L2.defScope f_law_swapped.st) f_law_swapped.body (.b (L2.defBody f_law_swapped.st)) = true := by decide +kernel
theorem sc27 : C8.scC f_law_given.N f_law_given.ps (L2.defScope f_law_given.st) = true := by decide +kernel
theorem ck27 : okS (mkG gl L27) f_law_given.N (L2.defScope f_law_given.st) f_law_given.body (.b (L2.defBody f_law_given.st)) = true := by decide +kernel
theorem sc28 : C8.scC f_law_rests.N f_law_rests.ps (L2.defScope f_law_rests.st) = true := by decide +kernel
theorem ck28 : okS (mkG gl L28) f_law_rests.N (L2.defScope f_law_rests.st) f_law_rests.body (.b (L2.defBody f_law_rests.st)) = true := by decide +kernel
theorem sc29 : C8.scC f_law.N f_law.ps (L2.defScope f_law.st) = true := by decide +kernel
theorem ck29 : okS (mkG gl L29) f_law.N (L2.defScope f_law.st) f_law.body (.b (L2.defBody f_law.st)) = true := by decide +kernel
theorem bi0 : ∀ (kV doc pm : Value) (an : Option Addr) (cdv ct : Value) (us : List Value), us.length = [("value" : Str)].length → bindArgs (PySem.W.fnOf "is_whole" "is_whole" (L2.defArgs f_is_whole.st) (L2.defBody f_is_whole.st) (L2.defScope f_is_whole.st) .none kV doc pm an cdv ct) ⟨us, []⟩ = pure ((["value"] : List Str).zip us) := fun _ _ _ _ _ _ us hl => match us, hl with | [_], _ => rfl
theorem bi1 : ∀ (kV doc pm : Value) (an : Option Addr) (cdv ct : Value) (us : List Value), us.length = [("value" : Str), ("low" : Str), ("high" : Str)].length → bindArgs (PySem.W.fnOf "fits_whole" "fits_whole" (L2.defArgs f_fits_whole.st) (L2.defBody f_fits_whole.st) (L2.defScope f_fits_whole.st) .none kV doc pm an cdv ct) ⟨us, []⟩ = pure ((["value", "low", "high"] : List Str).zip us) := fun _ _ _ _ _ _ us hl => match us, hl with | [_, _, _], _ => rfl
theorem bi2 : ∀ (kV doc pm : Value) (an : Option Addr) (cdv ct : Value) (us : List Value), us.length = [("value" : Str), ("least" : Str), ("most" : Str)].length → bindArgs (PySem.W.fnOf "is_tuple_of" "is_tuple_of" (L2.defArgs f_is_tuple_of.st) (L2.defBody f_is_tuple_of.st) (L2.defScope f_is_tuple_of.st) .none kV doc pm an cdv ct) ⟨us, []⟩ = pure ((["value", "least", "most"] : List Str).zip us) := fun _ _ _ _ _ _ us hl => match us, hl with | [_, _, _], _ => rfl
theorem bi3 : ∀ (kV doc pm : Value) (an : Option Addr) (cdv ct : Value) (us : List Value), us.length = [("one" : Str), ("two" : Str), ("three" : Str), ("four" : Str)].length → bindArgs (PySem.W.fnOf "touch_by" "touch_by" (L2.defArgs f_touch_by.st) (L2.defBody f_touch_by.st) (L2.defScope f_touch_by.st) .none kV doc pm an cdv ct) ⟨us, []⟩ = pure ((["one", "two", "three", "four"] : List Str).zip us) := fun _ _ _ _ _ _ us hl => match us, hl with | [_, _, _, _], _ => rfl
theorem bi4 : ∀ (kV doc pm : Value) (an : Option Addr) (cdv ct : Value) (us : List Value), us.length = [("value" : Str)].length → bindArgs (PySem.W.fnOf "fits_four" "fits_four" (L2.defArgs f_fits_four.st) (L2.defBody f_fits_four.st) (L2.defScope f_fits_four.st) .none kV doc pm an cdv ct) ⟨us, []⟩ = pure ((["value"] : List Str).zip us) := fun _ _ _ _ _ _ us hl => match us, hl with | [_], _ => rfl
theorem bi5 : ∀ (kV doc pm : Value) (an : Option Addr) (cdv ct : Value) (us : List Value), us.length = [("value" : Str)].length → bindArgs (PySem.W.fnOf "need_four" "need_four" (L2.defArgs f_need_four.st) (L2.defBody f_need_four.st) (L2.defScope f_need_four.st) .none kV doc pm an cdv ct) ⟨us, []⟩ = pure ((["value"] : List Str).zip us) := fun _ _ _ _ _ _ us hl => match us, hl with | [_], _ => rfl
theorem bi6 : ∀ (kV doc pm : Value) (an : Option Addr) (cdv ct : Value) (us : List Value), us.length = [("four" : Str), ("place" : Str)].length → bindArgs (PySem.W.fnOf "fifth_in" "fifth_in" (L2.defArgs f_fifth_in.st) (L2.defBody f_fifth_in.st) (L2.defScope f_fifth_in.st) .none kV doc pm an cdv ct) ⟨us, []⟩ = pure ((["four", "place"] : List Str).zip us) := fun _ _ _ _ _ _ us hl => match us, hl with | [_, _], _ => rfl
theorem bi7 : ∀ (kV doc pm : Value) (an : Option Addr) (cdv ct : Value) (us : List Value), us.length = [("four" : Str), ("place" : Str)].length → bindArgs (PySem.W.fnOf "swapped" "swapped" (L2.defArgs f_swapped.st) (L2.defBody f_swapped.st) (L2.defScope f_swapped.st) .none kV doc pm an cdv ct) ⟨us, []⟩ = pure ((["four", "place"] : List Str).zip us) := fun _ _ _ _ _ _ us hl => match us, hl with | [_, _], _ => rfl
theorem bi8 : ∀ (kV doc pm : Value) (an : Option Addr) (cdv ct : Value) (us : List Value), us.length = [("four" : Str)].length → bindArgs (PySem.W.fnOf "lower_in" "lower_in" (L2.defArgs f_lower_in.st) (L2.defBody f_lower_in.st) (L2.defScope f_lower_in.st) .none kV doc pm an cdv ct) ⟨us, []⟩ = pure ((["four"] : List Str).zip us) := fun _ _ _ _ _ _ us hl => match us, hl with | [_], _ => rfl
theorem bi9 : ∀ (kV doc pm : Value) (an : Option Addr) (cdv ct : Value) (us : List Value), us.length = [("four" : Str)].length → bindArgs (PySem.W.fnOf "down_in" "down_in" (L2.defArgs f_down_in.st) (L2.defBody f_down_in.st) (L2.defScope f_down_in.st) .none kV doc pm an cdv ct) ⟨us, []⟩ = pure ((["four"] : List Str).zip us) := fun _ _ _ _ _ _ us hl => match us, hl with | [_], _ => rfl
theorem bi10 : ∀ (kV doc pm : Value) (an : Option Addr) (cdv ct : Value) (us : List Value), us.length = [("value" : Str)].length → bindArgs (PySem.W.fnOf "fits_places" "fits_places" (L2.defArgs f_fits_places.st) (L2.defBody f_fits_places.st) (L2.defScope f_fits_places.st) .none kV doc pm an cdv ct) ⟨us, []⟩ = pure ((["value"] : List Str).zip us) := fun _ _ _ _ _ _ us hl => match us, hl with | [_], _ => rfl
theorem bi11 : ∀ (kV doc pm : Value) (an : Option Addr) (cdv ct : Value) (us : List Value), us.length = [("four" : Str), ("places" : Str)].length → bindArgs (PySem.W.fnOf "behind" "behind" (L2.defArgs f_behind.st) (L2.defBody f_behind.st) (L2.defScope f_behind.st) .none kV doc pm an cdv ct) ⟨us, []⟩ = pure ((["four", "places"] : List Str).zip us) := fun _ _ _ _ _ _ us hl => match us, hl with | [_, _], _ => rfl
theorem bi12 : ∀ (kV doc pm : Value) (an : Option Addr) (cdv ct : Value) (us : List Value), us.length = [("four" : Str), ("bound" : Str)].length → bindArgs (PySem.W.fnOf "net_in" "net_in" (L2.defArgs f_net_in.st) (L2.defBody f_net_in.st) (L2.defScope f_net_in.st) .none kV doc pm an cdv ct) ⟨us, []⟩ = pure ((["four", "bound"] : List Str).zip us) := fun _ _ _ _ _ _ us hl => match us, hl with | [_, _], _ => rfl
theorem bi13 : ∀ (kV doc pm : Value) (an : Option Addr) (cdv ct : Value) (us : List Value), us.length = [("four" : Str), ("places" : Str)].length → bindArgs (PySem.W.fnOf "exchanged" "exchanged" (L2.defArgs f_exchanged.st) (L2.defBody f_exchanged.st) (L2.defScope f_exchanged.st) .none kV doc pm an cdv ct) ⟨us, []⟩ = pure ((["four", "places"] : List Str).zip us) := fun _ _ _ _ _ _ us hl => match us, hl with | [_, _], _ => rfl
theorem bi14 : ∀ (kV doc pm : Value) (an : Option Addr) (cdv ct : Value) (us : List Value), us.length = [("four" : Str), ("bound" : Str)].length → bindArgs (PySem.W.fnOf "need_bounded" "need_bounded" (L2.defArgs f_need_bounded.st) (L2.defBody f_need_bounded.st) (L2.defScope f_need_bounded.st) .none kV doc pm an cdv ct) ⟨us, []⟩ = pure ((["four", "bound"] : List Str).zip us) := fun _ _ _ _ _ _ us hl => match us, hl with | [_, _], _ => rfl
theorem bi15 : ∀ (kV doc pm : Value) (an : Option Addr) (cdv ct : Value) (us : List Value), us.length = [("four" : Str), ("bound" : Str)].length → bindArgs (PySem.W.fnOf "net_bends" "net_bends" (L2.defArgs f_net_bends.st) (L2.defBody f_net_bends.st) (L2.defScope f_net_bends.st) .none kV doc pm an cdv ct) ⟨us, []⟩ = pure ((["four", "bound"] : List Str).zip us) := fun _ _ _ _ _ _ us hl => match us, hl with | [_, _], _ => rfl
theorem bi16 : ∀ (kV doc pm : Value) (an : Option Addr) (cdv ct : Value) (us : List Value), us.length = [("four" : Str), ("modulus" : Str)].length → bindArgs (PySem.W.fnOf "rests_of" "rests_of" (L2.defArgs f_rests_of.st) (L2.defBody f_rests_of.st) (L2.defScope f_rests_of.st) .none kV doc pm an cdv ct) ⟨us, []⟩ = pure ((["four", "modulus"] : List Str).zip us) := fun _ _ _ _ _ _ us hl => match us, hl with | [_, _], _ => rfl
theorem bi17 : ∀ (kV doc pm : Value) (an : Option Addr) (cdv ct : Value) (us : List Value), us.length = [("script" : Str)].length → bindArgs (PySem.W.fnOf "_law_cup" "_law_cup" (L2.defArgs f_law_cup.st) (L2.defBody f_law_cup.st) (L2.defScope f_law_cup.st) .none kV doc pm an cdv ct) ⟨us, []⟩ = pure ((["script"] : List Str).zip us) := fun _ _ _ _ _ _ us hl => match us, hl with | [_], _ => rfl
theorem bi18 : ∀ (kV doc pm : Value) (an : Option Addr) (cdv ct : Value) (us : List Value), us.length = [("cup" : Str), ("many" : Str)].length → bindArgs (PySem.W.fnOf "_law_roll" "_law_roll" (L2.defArgs f_law_roll.st) (L2.defBody f_law_roll.st) (L2.defScope f_law_roll.st) .none kV doc pm an cdv ct) ⟨us, []⟩ = pure ((["cup", "many"] : List Str).zip us) := fun _ _ _ _ _ _ us hl => match us, hl with | [_, _], _ => rfl
theorem bi19 : ∀ (kV doc pm : Value) (an : Option Addr) (cdv ct : Value) (us : List Value), us.length = [("cup" : Str), ("things" : Str)].length → bindArgs (PySem.W.fnOf "_law_some" "_law_some" (L2.defArgs f_law_some.st) (L2.defBody f_law_some.st) (L2.defScope f_law_some.st) .none kV doc pm an cdv ct) ⟨us, []⟩ = pure ((["cup", "things"] : List Str).zip us) := fun _ _ _ _ _ _ us hl => match us, hl with | [_, _], _ => rfl
theorem bi20 : ∀ (kV doc pm : Value) (an : Option Addr) (cdv ct : Value) (us : List Value), us.length = [("told" : Str), ("due" : Str)].length → bindArgs (PySem.W.fnOf "_law_same" "_law_same" (L2.defArgs f_law_same_0.st) (L2.defBody f_law_same_0.st) (L2.defScope f_law_same_0.st) .none kV doc pm an cdv ct) ⟨us, []⟩ = pure ((["told", "due"] : List Str).zip us) := fun _ _ _ _ _ _ us hl => match us, hl with | [_, _], _ => rfl
theorem bi21 : ∀ (kV doc pm : Value) (an : Option Addr) (cdv ct : Value) (us : List Value), us.length = [("cup" : Str), ("things" : Str)].length → bindArgs (PySem.W.fnOf "_law_turned" "_law_turned" (L2.defArgs f_law_turned.st) (L2.defBody f_law_turned.st) (L2.defScope f_law_turned.st) .none kV doc pm an cdv ct) ⟨us, []⟩ = pure ((["cup", "things"] : List Str).zip us) := fun _ _ _ _ _ _ us hl => match us, hl with | [_, _], _ => rfl
theorem bi22 : ∀ (kV doc pm : Value) (an : Option Addr) (cdv ct : Value) (us : List Value), us.length = [("four" : Str), ("place" : Str)].length → bindArgs (PySem.W.fnOf "_law_swapped" "_law_swapped" (L2.defArgs f_law_swapped.st) (L2.defBody f_law_swapped.st) (L2.defScope f_law_swapped.st) .none kV doc pm an cdv ct) ⟨us, []⟩ = pure ((["four", "place"] : List Str).zip us) := fun _ _ _ _ _ _ us hl => match us, hl with | [_, _], _ => rfl
theorem bi23 : ∀ (kV doc pm : Value) (an : Option Addr) (cdv ct : Value) (us : List Value), us.length = [("cup" : Str), ("steps" : Str)].length → bindArgs (PySem.W.fnOf "_law_given" "_law_given" (L2.defArgs f_law_given.st) (L2.defBody f_law_given.st) (L2.defScope f_law_given.st) .none kV doc pm an cdv ct) ⟨us, []⟩ = pure ((["cup", "steps"] : List Str).zip us) := fun _ _ _ _ _ _ us hl => match us, hl with | [_, _], _ => rfl
theorem bi24 : ∀ (kV doc pm : Value) (an : Option Addr) (cdv ct : Value) (us : List Value), us.length = [("four" : Str), ("modulus" : Str)].length → bindArgs (PySem.W.fnOf "_law_rests" "_law_rests" (L2.defArgs f_law_rests.st) (L2.defBody f_law_rests.st) (L2.defScope f_law_rests.st) .none kV doc pm an cdv ct) ⟨us, []⟩ = pure ((["four", "modulus"] : List Str).zip us) := fun _ _ _ _ _ _ us hl => match us, hl with | [_, _], _ => rfl
theorem bi25 : ∀ (kV doc pm : Value) (an : Option Addr) (cdv ct : Value) (us : List Value), us.length = [("script" : Str)].length → bindArgs (PySem.W.fnOf "law" "law" (L2.defArgs f_law.st) (L2.defBody f_law.st) (L2.defScope f_law.st) .none kV doc pm an cdv ct) ⟨us, []⟩ = pure ((["script"] : List Str).zip us) := fun _ _ _ _ _ _ us hl => match us, hl with | [_], _ => rfl
abbrev semLaw : FSem := sem29
set_option maxHeartbeats 0 in
theorem all_mk {P : Program} {w : World} {K : PySem.W.Frag} {h : Heap} {mg : Str → Option Value} {fa : Addr} (X : K.In h) (G : h.Ns mainGlobals mg) (hfa : mg "law" = some (.ref fa))
    {r0 : Addr} {oc0 : Value} {od0 an0 : Option Addr} {sl0 : Array (Option Value)} {kV0 dc0 pm0 cd0 ct0 : Value}
    {r1 : Addr} {oc1 : Value} {od1 an1 : Option Addr} {sl1 : Array (Option Value)} {kV1 dc1 pm1 cd1 ct1 : Value}
    {r2 : Addr} {oc2 : Value} {od2 an2 : Option Addr} {sl2 : Array (Option Value)} {kV2 dc2 pm2 cd2 ct2 : Value}
    {r3 : Addr} {oc3 : Value} {od3 an3 : Option Addr} {sl3 : Array (Option Value)} {kV3 dc3 pm3 cd3 ct3 : Value}
    {r4 : Addr} {oc4 : Value} {od4 an4 : Option Addr} {sl4 : Array (Option Value)} {kV4 dc4 pm4 cd4 ct4 : Value}
    {r5 : Addr} {oc5 : Value} {od5 an5 : Option Addr} {sl5 : Array (Option Value)} {kV5 dc5 pm5 cd5 ct5 : Value}
    {r6 : Addr} {oc6 : Value} {od6 an6 : Option Addr} {sl6 : Array (Option Value)} {kV6 dc6 pm6 cd6 ct6 : Value}
    {r7 : Addr} {oc7 : Value} {od7 an7 : Option Addr} {sl7 : Array (Option Value)} {kV7 dc7 pm7 cd7 ct7 : Value}
    {r8 : Addr} {oc8 : Value} {od8 an8 : Option Addr} {sl8 : Array (Option Value)} {kV8 dc8 pm8 cd8 ct8 : Value}
    {r9 : Addr} {oc9 : Value} {od9 an9 : Option Addr} {sl9 : Array (Option Value)} {kV9 dc9 pm9 cd9 ct9 : Value}
    {r10 : Addr} {oc10 : Value} {od10 an10 : Option Addr} {sl10 : Array (Option Value)} {kV10 dc10 pm10 cd10 ct10 : Value}
    {r11 : Addr} {oc11 : Value} {od11 an11 : Option Addr} {sl11 : Array (Option Value)} {kV11 dc11 pm11 cd11 ct11 : Value}
    {r12 : Addr} {oc12 : Value} {od12 an12 : Option Addr} {sl12 : Array (Option Value)} {kV12 dc12 pm12 cd12 ct12 : Value}
    {r13 : Addr} {oc13 : Value} {od13 an13 : Option Addr} {sl13 : Array (Option Value)} {kV13 dc13 pm13 cd13 ct13 : Value}
    {r14 : Addr} {oc14 : Value} {od14 an14 : Option Addr} {sl14 : Array (Option Value)} {kV14 dc14 pm14 cd14 ct14 : Value}
    {r15 : Addr} {oc15 : Value} {od15 an15 : Option Addr} {sl15 : Array (Option Value)} {kV15 dc15 pm15 cd15 ct15 : Value}
    {r16 : Addr} {oc16 : Value} {od16 an16 : Option Addr} {sl16 : Array (Option Value)} {kV16 dc16 pm16 cd16 ct16 : Value}
    {r17 : Addr} {oc17 : Value} {od17 an17 : Option Addr} {sl17 : Array (Option Value)} {kV17 dc17 pm17 cd17 ct17 : Value}
    {r18 : Addr} {oc18 : Value} {od18 an18 : Option Addr} {sl18 : Array (Option Value)} {kV18 dc18 pm18 cd18 ct18 : Value}
    {r19 : Addr} {oc19 : Value} {od19 an19 : Option Addr} {sl19 : Array (Option Value)} {kV19 dc19 pm19 cd19 ct19 : Value}
    {r20 : Addr} {oc20 : Value} {od20 an20 : Option Addr} {sl20 : Array (Option Value)} {kV20 dc20 pm20 cd20 ct20 : Value}
    {r21 : Addr} {oc21 : Value} {od21 an21 : Option Addr} {sl21 : Array (Option Value)} {kV21 dc21 pm21 cd21 ct21 : Value}
    {r22 : Addr} {oc22 : Value} {od22 an22 : Option Addr} {sl22 : Array (Option Value)} {kV22 dc22 pm22 cd22 ct22 : Value}
    {r23 : Addr} {oc23 : Value} {od23 an23 : Option Addr} {sl23 : Array (Option Value)} {kV23 dc23 pm23 cd23 ct23 : Value}
    {r24 : Addr} {oc24 : Value} {od24 an24 : Option Addr} {sl24 : Array (Option Value)} {kV24 dc24 pm24 cd24 ct24 : Value}
    {r25 : Addr} {oc25 : Value} {od25 an25 : Option Addr} {sl25 : Array (Option Value)} {kV25 dc25 pm25 cd25 ct25 : Value}
    (a0 : PySem.W.nsIn K mainGlobals "is_whole" = some (some (.ref r0))) (l0 : K.lookup r0 = some ⟨oc0, od0, .func (PySem.W.fnOf "is_whole" "is_whole" (L2.defArgs f_is_whole.st) (L2.defBody f_is_whole.st) (L2.defScope f_is_whole.st) .none kV0 dc0 pm0 an0 cd0 ct0), sl0⟩) (c0 : PySem.W.codeIn K cd0 "is_whole" = true) (k0 : PySem.W.keepIn K (.ref r0) = true)
    (a1 : PySem.W.nsIn K mainGlobals "fits_whole" = some (some (.ref r1))) (l1 : K.lookup r1 = some ⟨oc1, od1, .func (PySem.W.fnOf "fits_whole" "fits_whole" (L2.defArgs f_fits_whole.st) (L2.defBody f_fits_whole.st) (L2.defScope f_fits_whole.st) .none kV1 dc1 pm1 an1 cd1 ct1), sl1⟩) (c1 : PySem.W.codeIn K cd1 "fits_whole" = true) (k1 : PySem.W.keepIn K (.ref r1) = true)
    (a2 : PySem.W.nsIn K mainGlobals "is_tuple_of" = some (some (.ref r2))) (l2 : K.lookup r2 = some ⟨oc2, od2, .func (PySem.W.fnOf "is_tuple_of" "is_tuple_of" (L2.defArgs f_is_tuple_of.st) (L2.defBody f_is_tuple_of.st) (L2.defScope f_is_tuple_of.st) .none kV2 dc2 pm2 an2 cd2 ct2), sl2⟩) (c2 : PySem.W.codeIn K cd2 "is_tuple_of" = true) (k2 : PySem.W.keepIn K (.ref r2) = true)
    (a3 : PySem.W.nsIn K mainGlobals "touch_by" = some (some (.ref r3))) (l3 : K.lookup r3 = some ⟨oc3, od3, .func (PySem.W.fnOf "touch_by" "touch_by" (L2.defArgs f_touch_by.st) (L2.defBody f_touch_by.st) (L2.defScope f_touch_by.st) .none kV3 dc3 pm3 an3 cd3 ct3), sl3⟩) (c3 : PySem.W.codeIn K cd3 "touch_by" = true) (k3 : PySem.W.keepIn K (.ref r3) = true)
    (a4 : PySem.W.nsIn K mainGlobals "fits_four" = some (some (.ref r4))) (l4 : K.lookup r4 = some ⟨oc4, od4, .func (PySem.W.fnOf "fits_four" "fits_four" (L2.defArgs f_fits_four.st) (L2.defBody f_fits_four.st) (L2.defScope f_fits_four.st) .none kV4 dc4 pm4 an4 cd4 ct4), sl4⟩) (c4 : PySem.W.codeIn K cd4 "fits_four" = true) (k4 : PySem.W.keepIn K (.ref r4) = true)
    (a5 : PySem.W.nsIn K mainGlobals "need_four" = some (some (.ref r5))) (l5 : K.lookup r5 = some ⟨oc5, od5, .func (PySem.W.fnOf "need_four" "need_four" (L2.defArgs f_need_four.st) (L2.defBody f_need_four.st) (L2.defScope f_need_four.st) .none kV5 dc5 pm5 an5 cd5 ct5), sl5⟩) (c5 : PySem.W.codeIn K cd5 "need_four" = true) (k5 : PySem.W.keepIn K (.ref r5) = true)
    (a6 : PySem.W.nsIn K mainGlobals "fifth_in" = some (some (.ref r6))) (l6 : K.lookup r6 = some ⟨oc6, od6, .func (PySem.W.fnOf "fifth_in" "fifth_in" (L2.defArgs f_fifth_in.st) (L2.defBody f_fifth_in.st) (L2.defScope f_fifth_in.st) .none kV6 dc6 pm6 an6 cd6 ct6), sl6⟩) (c6 : PySem.W.codeIn K cd6 "fifth_in" = true) (k6 : PySem.W.keepIn K (.ref r6) = true)
    (a7 : PySem.W.nsIn K mainGlobals "swapped" = some (some (.ref r7))) (l7 : K.lookup r7 = some ⟨oc7, od7, .func (PySem.W.fnOf "swapped" "swapped" (L2.defArgs f_swapped.st) (L2.defBody f_swapped.st) (L2.defScope f_swapped.st) .none kV7 dc7 pm7 an7 cd7 ct7), sl7⟩) (c7 : PySem.W.codeIn K cd7 "swapped" = true) (k7 : PySem.W.keepIn K (.ref r7) = true)
    (a8 : PySem.W.nsIn K mainGlobals "lower_in" = some (some (.ref r8))) (l8 : K.lookup r8 = some ⟨oc8, od8, .func (PySem.W.fnOf "lower_in" "lower_in" (L2.defArgs f_lower_in.st) (L2.defBody f_lower_in.st) (L2.defScope f_lower_in.st) .none kV8 dc8 pm8 an8 cd8 ct8), sl8⟩) (c8 : PySem.W.codeIn K cd8 "lower_in" = true) (k8 : PySem.W.keepIn K (.ref r8) = true)
    (a9 : PySem.W.nsIn K mainGlobals "down_in" = some (some (.ref r9))) (l9 : K.lookup r9 = some ⟨oc9, od9, .func (PySem.W.fnOf "down_in" "down_in" (L2.defArgs f_down_in.st) (L2.defBody f_down_in.st) (L2.defScope f_down_in.st) .none kV9 dc9 pm9 an9 cd9 ct9), sl9⟩) (c9 : PySem.W.codeIn K cd9 "down_in" = true) (k9 : PySem.W.keepIn K (.ref r9) = true)
    (a10 : PySem.W.nsIn K mainGlobals "fits_places" = some (some (.ref r10))) (l10 : K.lookup r10 = some ⟨oc10, od10, .func (PySem.W.fnOf "fits_places" "fits_places" (L2.defArgs f_fits_places.st) (L2.defBody f_fits_places.st) (L2.defScope f_fits_places.st) .none kV10 dc10 pm10 an10 cd10 ct10), sl10⟩) (c10 : PySem.W.codeIn K cd10 "fits_places" = true) (k10 : PySem.W.keepIn K (.ref r10) = true)
    (a11 : PySem.W.nsIn K mainGlobals "behind" = some (some (.ref r11))) (l11 : K.lookup r11 = some ⟨oc11, od11, .func (PySem.W.fnOf "behind" "behind" (L2.defArgs f_behind.st) (L2.defBody f_behind.st) (L2.defScope f_behind.st) .none kV11 dc11 pm11 an11 cd11 ct11), sl11⟩) (c11 : PySem.W.codeIn K cd11 "behind" = true) (k11 : PySem.W.keepIn K (.ref r11) = true)
    (a12 : PySem.W.nsIn K mainGlobals "net_in" = some (some (.ref r12))) (l12 : K.lookup r12 = some ⟨oc12, od12, .func (PySem.W.fnOf "net_in" "net_in" (L2.defArgs f_net_in.st) (L2.defBody f_net_in.st) (L2.defScope f_net_in.st) .none kV12 dc12 pm12 an12 cd12 ct12), sl12⟩) (c12 : PySem.W.codeIn K cd12 "net_in" = true) (k12 : PySem.W.keepIn K (.ref r12) = true)
    (a13 : PySem.W.nsIn K mainGlobals "exchanged" = some (some (.ref r13))) (l13 : K.lookup r13 = some ⟨oc13, od13, .func (PySem.W.fnOf "exchanged" "exchanged" (L2.defArgs f_exchanged.st) (L2.defBody f_exchanged.st) (L2.defScope f_exchanged.st) .none kV13 dc13 pm13 an13 cd13 ct13), sl13⟩) (c13 : PySem.W.codeIn K cd13 "exchanged" = true) (k13 : PySem.W.keepIn K (.ref r13) = true)
    (a14 : PySem.W.nsIn K mainGlobals "need_bounded" = some (some (.ref r14))) (l14 : K.lookup r14 = some ⟨oc14, od14, .func (PySem.W.fnOf "need_bounded" "need_bounded" (L2.defArgs f_need_bounded.st) (L2.defBody f_need_bounded.st) (L2.defScope f_need_bounded.st) .none kV14 dc14 pm14 an14 cd14 ct14), sl14⟩) (c14 : PySem.W.codeIn K cd14 "need_bounded" = true) (k14 : PySem.W.keepIn K (.ref r14) = true)
    (a15 : PySem.W.nsIn K mainGlobals "net_bends" = some (some (.ref r15))) (l15 : K.lookup r15 = some ⟨oc15, od15, .func (PySem.W.fnOf "net_bends" "net_bends" (L2.defArgs f_net_bends.st) (L2.defBody f_net_bends.st) (L2.defScope f_net_bends.st) .none kV15 dc15 pm15 an15 cd15 ct15), sl15⟩) (c15 : PySem.W.codeIn K cd15 "net_bends" = true) (k15 : PySem.W.keepIn K (.ref r15) = true)
    (a16 : PySem.W.nsIn K mainGlobals "rests_of" = some (some (.ref r16))) (l16 : K.lookup r16 = some ⟨oc16, od16, .func (PySem.W.fnOf "rests_of" "rests_of" (L2.defArgs f_rests_of.st) (L2.defBody f_rests_of.st) (L2.defScope f_rests_of.st) .none kV16 dc16 pm16 an16 cd16 ct16), sl16⟩) (c16 : PySem.W.codeIn K cd16 "rests_of" = true) (k16 : PySem.W.keepIn K (.ref r16) = true)
    (a17 : PySem.W.nsIn K mainGlobals "_law_cup" = some (some (.ref r17))) (l17 : K.lookup r17 = some ⟨oc17, od17, .func (PySem.W.fnOf "_law_cup" "_law_cup" (L2.defArgs f_law_cup.st) (L2.defBody f_law_cup.st) (L2.defScope f_law_cup.st) .none kV17 dc17 pm17 an17 cd17 ct17), sl17⟩) (c17 : PySem.W.codeIn K cd17 "_law_cup" = true) (k17 : PySem.W.keepIn K (.ref r17) = true)
    (a18 : PySem.W.nsIn K mainGlobals "_law_roll" = some (some (.ref r18))) (l18 : K.lookup r18 = some ⟨oc18, od18, .func (PySem.W.fnOf "_law_roll" "_law_roll" (L2.defArgs f_law_roll.st) (L2.defBody f_law_roll.st) (L2.defScope f_law_roll.st) .none kV18 dc18 pm18 an18 cd18 ct18), sl18⟩) (c18 : PySem.W.codeIn K cd18 "_law_roll" = true) (k18 : PySem.W.keepIn K (.ref r18) = true)
    (a19 : PySem.W.nsIn K mainGlobals "_law_some" = some (some (.ref r19))) (l19 : K.lookup r19 = some ⟨oc19, od19, .func (PySem.W.fnOf "_law_some" "_law_some" (L2.defArgs f_law_some.st) (L2.defBody f_law_some.st) (L2.defScope f_law_some.st) .none kV19 dc19 pm19 an19 cd19 ct19), sl19⟩) (c19 : PySem.W.codeIn K cd19 "_law_some" = true) (k19 : PySem.W.keepIn K (.ref r19) = true)
    (a20 : PySem.W.nsIn K mainGlobals "_law_same" = some (some (.ref r20))) (l20 : K.lookup r20 = some ⟨oc20, od20, .func (PySem.W.fnOf "_law_same" "_law_same" (L2.defArgs f_law_same_0.st) (L2.defBody f_law_same_0.st) (L2.defScope f_law_same_0.st) .none kV20 dc20 pm20 an20 cd20 ct20), sl20⟩) (c20 : PySem.W.codeIn K cd20 "_law_same" = true) (k20 : PySem.W.keepIn K (.ref r20) = true)
    (a21 : PySem.W.nsIn K mainGlobals "_law_turned" = some (some (.ref r21))) (l21 : K.lookup r21 = some ⟨oc21, od21, .func (PySem.W.fnOf "_law_turned" "_law_turned" (L2.defArgs f_law_turned.st) (L2.defBody f_law_turned.st) (L2.defScope f_law_turned.st) .none kV21 dc21 pm21 an21 cd21 ct21), sl21⟩) (c21 : PySem.W.codeIn K cd21 "_law_turned" = true) (k21 : PySem.W.keepIn K (.ref r21) = true)
    (a22 : PySem.W.nsIn K mainGlobals "_law_swapped" = some (some (.ref r22))) (l22 : K.lookup r22 = some ⟨oc22, od22, .func (PySem.W.fnOf "_law_swapped" "_law_swapped" (L2.defArgs f_law_swapped.st) (L2.defBody f_law_swapped.st) (L2.defScope f_law_swapped.st) .none kV22 dc22 pm22 an22 cd22 ct22), sl22⟩) (c22 : PySem.W.codeIn K cd22 "_law_swapped" = true) (k22 : PySem.W.keepIn K (.ref r22) = true)
    (a23 : PySem.W.nsIn K mainGlobals "_law_given" = some (some (.ref r23))) (l23 : K.lookup r23 = some ⟨oc23, od23, .func (PySem.W.fnOf "_law_given" "_law_given" (L2.defArgs f_law_given.st) (L2.defBody f_law_given.st) (L2.defScope f_law_given.st) .none kV23 dc23 pm23 an23 cd23 ct23), sl23⟩) (c23 : PySem.W.codeIn K cd23 "_law_given" = true) (k23 : PySem.W.keepIn K (.ref r23) = true)
    (a24 : PySem.W.nsIn K mainGlobals "_law_rests" = some (some (.ref r24))) (l24 : K.lookup r24 = some ⟨oc24, od24, .func (PySem.W.fnOf "_law_rests" "_law_rests" (L2.defArgs f_law_rests.st) (L2.defBody f_law_rests.st) (L2.defScope f_law_rests.st) .none kV24 dc24 pm24 an24 cd24 ct24), sl24⟩) (c24 : PySem.W.codeIn K cd24 "_law_rests" = true) (k24 : PySem.W.keepIn K (.ref r24) = true)
    (a25 : PySem.W.nsIn K mainGlobals "law" = some (some (.ref r25))) (l25 : K.lookup r25 = some ⟨oc25, od25, .func (PySem.W.fnOf "law" "law" (L2.defArgs f_law.st) (L2.defBody f_law.st) (L2.defScope f_law.st) .none kV25 dc25 pm25 an25 cd25 ct25), sl25⟩) (c25 : PySem.W.codeIn K cd25 "law" = true) (k25 : PySem.W.keepIn K (.ref r25) = true)
    (z_len : PySem.W.nsIn K mainGlobals "len" = some none)
    (z_abs : PySem.W.nsIn K mainGlobals "abs" = some none)
    (z_int : PySem.W.nsIn K mainGlobals "int" = some none)
    (z_list : PySem.W.nsIn K mainGlobals "list" = some none)
    (z_tuple : PySem.W.nsIn K mainGlobals "tuple" = some none)
    (z_all : PySem.W.nsIn K mainGlobals "all" = some none)
    (z_any : PySem.W.nsIn K mainGlobals "any" = some none)
    (z_sum : PySem.W.nsIn K mainGlobals "sum" = some none)
    (z_max : PySem.W.nsIn K mainGlobals "max" = some none)
    (z_min : PySem.W.nsIn K mainGlobals "min" = some none)
    (z_isinstance : PySem.W.nsIn K mainGlobals "isinstance" = some none)
    (z_bool : PySem.W.nsIn K mainGlobals "bool" = some none)
    (z_str : PySem.W.nsIn K mainGlobals "str" = some none)
    (z_range : PySem.W.nsIn K mainGlobals "range" = some none)
    (z_zip : PySem.W.nsIn K mainGlobals "zip" = some none)
    (z_enumerate : PySem.W.nsIn K mainGlobals "enumerate" = some none)
    (z_sorted : PySem.W.nsIn K mainGlobals "sorted" = some none)
    (z_set : PySem.W.nsIn K mainGlobals "set" = some none)
    (z_dict : PySem.W.nsIn K mainGlobals "dict" = some none)
    {t0 : Tok} (glb0 : PySem.W.nsIn K mainGlobals "FAR" = some (some (.int 1000000 t0)))
    {t1 : Tok} (glb1 : PySem.W.nsIn K mainGlobals "BOUND" = some (some (.int 300 t1)))
    {t2 : Tok} (glb2 : PySem.W.nsIn K mainGlobals "WAY" = some (some (.int 40 t2)))
    : ∃ fd : FuncData, (∀ (s : Shared) (v : Value), BindsTo s fd ⟨[v], []⟩ [("script", v)]) ∧ ∀ base : Heap, K.In base → base.Ns mainGlobals mg → L2.FnOk P w K mg base L2.CX0 30 fa fd ["script"] (spOf K (fun _ => .none) semLaw) := by
  have d0 : Df K mg "is_whole" f_is_whole.st ["value"] := df_mk X G bi0 a0 l0 c0 k0
  have d1 : Df K mg "fits_whole" f_fits_whole.st ["value", "low", "high"] := df_mk X G bi1 a1 l1 c1 k1
  have d2 : Df K mg "is_tuple_of" f_is_tuple_of.st ["value", "least", "most"] := df_mk X G bi2 a2 l2 c2 k2
  have d3 : Df K mg "touch_by" f_touch_by.st ["one", "two", "three", "four"] := df_mk X G bi3 a3 l3 c3 k3
  have d4 : Df K mg "fits_four" f_fits_four.st ["value"] := df_mk X G bi4 a4 l4 c4 k4
  have d5 : Df K mg "need_four" f_need_four.st ["value"] := df_mk X G bi5 a5 l5 c5 k5
  have d6 : Df K mg "fifth_in" f_fifth_in.st ["four", "place"] := df_mk X G bi6 a6 l6 c6 k6
  have d7 : Df K mg "swapped" f_swapped.st ["four", "place"] := df_mk X G bi7 a7 l7 c7 k7
  have d8 : Df K mg "lower_in" f_lower_in.st ["four"] := df_mk X G bi8 a8 l8 c8 k8
  have d9 : Df K mg "down_in" f_down_in.st ["four"] := df_mk X G bi9 a9 l9 c9 k9
  have d10 : Df K mg "fits_places" f_fits_places.st ["value"] := df_mk X G bi10 a10 l10 c10 k10
  have d11 : Df K mg "behind" f_behind.st ["four", "places"] := df_mk X G bi11 a11 l11 c11 k11
  have d12 : Df K mg "net_in" f_net_in.st ["four", "bound"] := df_mk X G bi12 a12 l12 c12 k12
  have d13 : Df K mg "exchanged" f_exchanged.st ["four", "places"] := df_mk X G bi13 a13 l13 c13 k13
  have d14 : Df K mg "need_bounded" f_need_bounded.st ["four", "bound"] := df_mk X G bi14 a14 l14 c14 k14
  have d15 : Df K mg "net_bends" f_net_bends.st ["four", "bound"] := df_mk X G bi15 a15 l15 c15 k15
  have d16 : Df K mg "rests_of" f_rests_of.st ["four", "modulus"] := df_mk X G bi16 a16 l16 c16 k16
  have d17 : Df K mg "_law_cup" f_law_cup.st ["script"] := df_mk X G bi17 a17 l17 c17 k17
  have d18 : Df K mg "_law_roll" f_law_roll.st ["cup", "many"] := df_mk X G bi18 a18 l18 c18 k18
  have d19 : Df K mg "_law_some" f_law_some.st ["cup", "things"] := df_mk X G bi19 a19 l19 c19 k19
  have d20 : Df K mg "_law_same" f_law_same_0.st ["told", "due"] := df_mk X G bi20 a20 l20 c20 k20
  have d21 : Df K mg "_law_turned" f_law_turned.st ["cup", "things"] := df_mk X G bi21 a21 l21 c21 k21
  have d22 : Df K mg "_law_swapped" f_law_swapped.st ["four", "place"] := df_mk X G bi22 a22 l22 c22 k22
  have d23 : Df K mg "_law_given" f_law_given.st ["cup", "steps"] := df_mk X G bi23 a23 l23 c23 k23
  have d24 : Df K mg "_law_rests" f_law_rests.st ["four", "modulus"] := df_mk X G bi24 a24 l24 c24 k24
  have F := df_last (st := f_law.st) X G hfa a25 l25 c25 k25
  have hb : ∀ x ∈ bltNames, mg x = none := by
    intro x hx
    simp only [bltNames, List.mem_cons, List.mem_nil_iff, or_false] at hx
    rcases hx with rfl | rfl | rfl | rfl | rfl | rfl | rfl | rfl | rfl | rfl | rfl | rfl | rfl | rfl | rfl | rfl | rfl | rfl | rfl
    · exact PySem.W.mg_none_of X G z_len
    · exact PySem.W.mg_none_of X G z_abs
    · exact PySem.W.mg_none_of X G z_int
    · exact PySem.W.mg_none_of X G z_list
    · exact PySem.W.mg_none_of X G z_tuple
    · exact PySem.W.mg_none_of X G z_all
    · exact PySem.W.mg_none_of X G z_any
    · exact PySem.W.mg_none_of X G z_sum
    · exact PySem.W.mg_none_of X G z_max
    · exact PySem.W.mg_none_of X G z_min
    · exact PySem.W.mg_none_of X G z_isinstance
    · exact PySem.W.mg_none_of X G z_bool
    · exact PySem.W.mg_none_of X G z_str
    · exact PySem.W.mg_none_of X G z_range
    · exact PySem.W.mg_none_of X G z_zip
    · exact PySem.W.mg_none_of X G z_enumerate
    · exact PySem.W.mg_none_of X G z_sorted
    · exact PySem.W.mg_none_of X G z_set
    · exact PySem.W.mg_none_of X G z_dict
  have hg : ∀ p ∈ gl, ∃ u v, mg p.1 = some u ∧ L2.RelV v u ∧ ∀ F, Rp K F v p.2 := by
    intro p hp
    simp only [gl, List.mem_cons, List.mem_nil_iff, or_false] at hp
    rcases hp with rfl | rfl | rfl
    · exact ⟨_, .int 1000000, PySem.W.mg_of X G glb0, ⟨_, rfl⟩, fun _ => .int _⟩
    · exact ⟨_, .int 300, PySem.W.mg_of X G glb1, ⟨_, rfl⟩, fun _ => .int _⟩
    · exact ⟨_, .int 40, PySem.W.mg_of X G glb2, ⟨_, rfl⟩, fun _ => .int _⟩
  refine ⟨PySem.W.fnOf "law" "law" (L2.defArgs f_law.st) (L2.defBody f_law.st) (L2.defScope f_law.st) .none kV25 dc25 pm25 an25 cd25 ct25, fun s v => .of_eq rfl, fun base _ _ => ?_⟩
  have g0 : Gok P w K mg base (fun _ => .none) 0 (mkG gl L0) := Gok.start hg hb
  have g1' : Gok P w K mg base (fun _ => .none) 1 (mkG gl L1) := g0.add (f := f_is_whole) d0 sc0 ck0
  have g2' : Gok P w K mg base (fun _ => .none) 2 (mkG gl L2) := g1'.add (f := f_fits_whole) d1 sc1 ck1
  have g3' : Gok P w K mg base (fun _ => .none) 3 (mkG gl L3) := g2'.add (f := f_is_tuple_of) d2 sc2 ck2
  have g4' : Gok P w K mg base (fun _ => .none) 4 (mkG gl L4) := g3'.add (f := f_touch_by) d3 sc3 ck3
  have g5' : Gok P w K mg base (fun _ => .none) 5 (mkG gl L5) := g4'.add (f := f_fits_four) d4 sc4 ck4
  have g6' : Gok P w K mg base (fun _ => .none) 6 (mkG gl L6) := g5'.add (f := f_need_four) d5 sc5 ck5
  have g7' : Gok P w K mg base (fun _ => .none) 7 (mkG gl L7) := g6'.add (f := f_fifth_in) d6 sc6 ck6
  have g8' : Gok P w K mg base (fun _ => .none) 8 (mkG gl L8) := g7'.add (f := f_swapped) d7 sc7 ck7
  have g9' : Gok P w K mg base (fun _ => .none) 9 (mkG gl L9) := g8'.add (f := f_lower_in) d8 sc8 ck8
  have g10' : Gok P w K mg base (fun _ => .none) 10 (mkG gl L10) := g9'.add (f := f_down_in) d9 sc9 ck9
  have g11' : Gok P w K mg base (fun _ => .none) 11 (mkG gl L11) := g10'.add (f := f_fits_places) d10 sc10 ck10
  have g12' : Gok P w K mg base (fun _ => .none) 12 (mkG gl L12) := g11'.add (f := f_behind) d11 sc11 ck11
  have g13' : Gok P w K mg base (fun _ => .none) 13 (mkG gl L13) := g12'.add (f := f_net_in) d12 sc12 ck12
  have g14' : Gok P w K mg base (fun _ => .none) 14 (mkG gl L14) := g13'.add (f := f_exchanged) d13 sc13 ck13
  have g15' : Gok P w K mg base (fun _ => .none) 15 (mkG gl L15) := g14'.add (f := f_need_bounded) d14 sc14 ck14
  have g16' : Gok P w K mg base (fun _ => .none) 16 (mkG gl L16) := g15'.add (f := f_net_bends) d15 sc15 ck15
  have g17' : Gok P w K mg base (fun _ => .none) 17 (mkG gl L17) := g16'.add (f := f_rests_of) d16 sc16 ck16
  have g18' : Gok P w K mg base (fun _ => .none) 18 (mkG gl L18) := g17'.add (f := f_law_cup) d17 sc17 ck17
  have g19' : Gok P w K mg base (fun _ => .none) 19 (mkG gl L19) := g18'.add (f := f_law_roll) d18 sc18 ck18
  have g20' : Gok P w K mg base (fun _ => .none) 20 (mkG gl L20) := g19'.add (f := f_law_some) d19 sc19 ck19
  have g21' : Gok P w K mg base (fun _ => .none) 21 (mkG gl L21) := g20'.add (f := f_law_same_0) d20 sc20 ck20
  have g22' : Gok P w K mg base (fun _ => .none) 22 (mkG gl L22) := g21'.add (f := f_law_same_1) d20 sc21 ck21
  have g23' : Gok P w K mg base (fun _ => .none) 23 (mkG gl L23) := g22'.add (f := f_law_same_2) d20 sc22 ck22
  have g24' : Gok P w K mg base (fun _ => .none) 24 (mkG gl L24) := g23'.add (f := f_law_same_3) d20 sc23 ck23
  have g25' : Gok P w K mg base (fun _ => .none) 25 (mkG gl L25) := g24'.add (f := f_law_same_4) d20 sc24 ck24
  have g26' : Gok P w K mg base (fun _ => .none) 26 (mkG gl L26) := g25'.add (f := f_law_turned) d21 sc25 ck25
  have g27' : Gok P w K mg base (fun _ => .none) 27 (mkG gl L27) := g26'.add (f := f_law_swapped) d22 sc26 ck26
  have g28' : Gok P w K mg base (fun _ => .none) 28 (mkG gl L28) := g27'.add (f := f_law_given) d23 sc27 ck27
  have g29' : Gok P w K mg base (fun _ => .none) 29 (mkG gl L29) := g28'.add (f := f_law_rests) d24 sc28 ck28
  exact fn_ok F g29' sc29 ck29
end K38

namespace K38
open PySem Rv
local macro_rules | `(tactic| walk_at "op") => `(tactic| first
  | (show Bop.f Bop.add (PyData.int _) (PyData.int _) = some _; exact rfl) | (show Bop.f Bop.sub (PyData.int _) (PyData.int _) = some _; exact rfl)
  | (show Bop.f Bop.mul (PyData.int _) (PyData.int _) = some _; first | exact mul_l (by omega) (by omega) | exact mul_r (by omega) (by omega))
  | (show Bop.f Bop.mod _ _ = some _; exact mod_p (by omega)) | (show Bop.f Bop.fdiv _ _ = some _; exact fdiv_p (by omega) (log2_small (by omega))))
local macro_rules | `(tactic| walk_at "ee") => `(tactic| first
  | apply Ev.ci | apply Ev.cb | apply Ev.cn | apply Ev.cs | apply Ev.nil | apply Ev.peek | apply Ev.var | apply Ev.binP | apply Ev.bin | apply Ev.consP | apply Ev.cons
  | apply Ev.cmpP | apply Ev.cmp | apply Ev.idxP | apply Ev.idx | apply Ev.call | apply Ev.callm | apply Ev.bi | apply Ev.glb | apply Ev.one | apply Ev.neg | apply Ev.tup | apply Ev.lst
  | apply Ev.slP | apply Ev.sl | apply Ev.isi | apply Ev.rng1 | apply Ev.rng2 | apply Ev.not | apply Ev.varO)
local macro_rules | `(tactic| walk_at "e") => `(tactic| first
  | (show Ev _ _ _ _ _; walk_at "ee")
  | (show peekOf _ = none; exact rfl) | (show Option.isSome _ = true; exact rfl) | (show peekAt _ _ = some _; exact rfl)
  | (show Bop.f _ _ _ = some _; walk_at "op")
  | (show Cop.f _ (PyData.int _) (PyData.int _) = some _; exact rfl)
  | (show Evp _ _ _ _ _; first | apply Evp.nil | apply Evp.some)
  | (show (_ : Option _) = some _; exact rfl) | (show isNil _ = false; exact rfl)
  | (show (_ || _) = false; exact rfl) | (show (_ && _) = true; exact rfl) | (show List.length _ ≤ sizeLine; exact Nat.le_of_ble_eq_true rfl))
local macro_rules | `(tactic| walk_at "s") => `(tactic| first
  | (show Evs _ _ _ _ _; first | (apply Evs.seqX (Evs.ret ?_ rfl) (fun _ z => nomatch z)) | (apply Evs.seqX (Evs.retO rfl) (fun _ z => nomatch z)) | apply Evs.seq | apply Evs.nil | apply Evs.skip | apply Evs.set | apply Evs.asg | apply Evs.par2 | apply Evs.par3 | apply Evs.expr | apply Evs.seti | apply Evs.app)
  | walk_at "e")

def isI : D → Bool
  | .int _ => true
  | _ => false
def noD : D → Bool
  | .dict _ => false
  | _ => true
def fitW (d : D) (lo hi : Int) : Bool := match d with
  | .int i => decide (lo ≤ i) && decide (i ≤ hi)
  | _ => false
theorem is_whole_ok {d : D} (h : noD d = true) : sem0.f [d] = Rs.ok (.bool (isI d), []) := by
  cases d <;> first | rfl | cases h
theorem fits_whole_ok {d : D} {lo hi : Int} (h : noD d = true) : sem1.f [d, .int lo, .int hi] = Rs.ok (.bool (fitW d lo hi), []) := by
  apply sem_rt (F := f_fits_whole) (e1 := [Sl.pd d, .pd (.int lo), .pd (.int hi)])
  case h =>
    show Evs _ _ b_fits_whole [Sl.pd d, .pd (.int lo), .pd (.int hi)] _
    unfold b_fits_whole
    refine Evs.seqX (Evs.ret ?_ rfl) (fun _ z => nomatch z)
    have e : fitW d lo hi = (isI d && fitW d lo hi) := by cases d <;> rfl
    rw [e]
    refine Ev.andB (e1 := [Sl.pd d, .pd (.int lo), .pd (.int hi)]) (x := .bool (isI d)) ?_ rfl (fun z => by rw [z]) fun z => ?_
    · apply Ev.call
      · rfl
      · repeat' walk_at "s"
      · rfl
      · exact is_whole_ok h
    · cases d <;> try cases z
      rename_i i
      refine Ev.one ?_
      exact Ev.chain (Ev.var rfl) (Ev.var rfl) rfl fun _ => ⟨_, Ev.var rfl, rfl⟩
  case hh => rfl
def tupN (d : D) (a b : Nat) : Bool := match d with
  | .tuple l => decide (a ≤ l.length) && decide (l.length ≤ b)
  | _ => false
def isT : D → Bool
  | .tuple _ => true
  | _ => false
theorem is_tuple_of_ok {d : D} {a b : Nat} (h : noD d = true) : sem2.f [d, .int a, .int b] = Rs.ok (.bool (tupN d a b), []) := by
  apply sem_rt (F := f_is_tuple_of) (e1 := [Sl.pd d, .pd (.int a), .pd (.int b)])
  case h =>
    show Evs _ _ b_is_tuple_of [Sl.pd d, .pd (.int a), .pd (.int b)] _
    unfold b_is_tuple_of
    refine Evs.seqX (Evs.ret ?_ rfl) (fun _ z => nomatch z)
    have e : tupN d a b = (isT d && tupN d a b) := by cases d <;> rfl
    rw [e]
    refine Ev.andB (e1 := [Sl.pd d, .pd (.int a), .pd (.int b)]) (x := .bool (isT d)) ?_ rfl (fun z => by rw [z]) fun z => ?_
    · apply Ev.isi
      · repeat' walk_at "s"
      · cases d <;> first | rfl | cases h
    · cases d <;> try cases z
      rename_i l
      refine Ev.one ?_
      have e : tupN (.tuple l) a b = (decide ((a : Int) ≤ (l.length : Nat)) && decide (((l.length : Nat) : Int) ≤ b)) := by
        show (decide (a ≤ l.length) && decide (l.length ≤ b)) = _
        rw [show decide (a ≤ l.length) = decide ((a : Int) ≤ (l.length : Nat)) from decide_eq_decide.mpr (by omega), show decide (l.length ≤ b) = decide (((l.length : Nat) : Int) ≤ b) from decide_eq_decide.mpr (by omega)]
      rw [e]
      exact Ev.chain (Ev.var rfl) (Ev.bi (Ev.consP Ev.nil rfl rfl) rfl) rfl fun _ => ⟨_, Ev.var rfl, rfl⟩
  case hh => rfl
def Big (a : Int) : Prop := -(2^60) < a ∧ a < 2^60
theorem touch_ok {a b c d : Int} (ha : Big a) (hb : Big b) (hc : Big c) (hd : Big d) : sem3.f [.int a, .int b, .int c, .int d] = Rs.ok (.bool ((a+b+c+d)*(a+b+c+d) == 2 * (a*a+b*b+c*c+d*d)), []) := by
  unfold Big at ha hb hc hd
  apply sem_rt (F := f_touch_by)
  case h =>
    show Evs _ _ b_touch_by [Sl.pd (.int a), .pd (.int b), .pd (.int c), .pd (.int d), .no] _
    unfold b_touch_by
    repeat' walk_at "s"
  case hh => rfl
theorem boolsD_map (f : D → Bool) : ∀ l : List D, boolsD? (l.map fun x => PyData.bool (f x)) = some (l.map f)
  | [] => rfl
  | x :: r => by
    show (boolsD? (r.map fun x => PyData.bool (f x))).map (f x :: ·) = _
    rw [boolsD_map f r]; rfl
theorem all_map (f : D → Bool) (l : List D) : Bi.all.f [.list (l.map fun x => PyData.bool (f x))] = some (.bool (l.all f)) := by
  show (boolsD? (l.map fun x => PyData.bool (f x))).map (fun bs => PyData.bool (bs.all id)) = _
  rw [boolsD_map]
  show some (PyData.bool ((l.map f).all id)) = _
  rw [List.all_map]; rfl
def FAR : Int := 1000000
abbrev fitR (d : D) : Bool := fitW d (-1000000) 1000000
theorem lc_fit {G : Genv} {l : List D} {d : D} (hG : G.fn 1 = some sem1) (hg : G.gl 0 = some (.int 1000000)) (hn : ∀ x ∈ l, noD x = true) (hl : l.length ≤ sizeLine) (hd : itemsOf d = some l) :
    Ev G (.lc (.call 1 (.cons (.var 1) (.cons (.neg (.glb 0)) (.cons (.glb 0) .nil)))) (.nm 1) (.var 0) .nil [("one", 1)]) [Sl.pd d, .no] (.list (l.map fun x => .bool (fitR x))) [Sl.pd d, .no] := by
  refine Ev.lc (e1 := [Sl.pd d, .no]) (e2 := [Sl.pd d, .no]) (Ev.var rfl) hd ?_ ?_ rfl
  · rw [Bool.and_eq_true]; exact ⟨rfl, decide_eq_true hl⟩
  · show cgo _ _ _ _ l [Sl.pd d, .no] [] = _
    refine cgo_all (fun x => .bool (fitR x)) l fun x hx => ⟨[Sl.pd d, .pd x], _, [Sl.pd d, .pd x], [Sl.pd d, .pd x], rfl, rfl, rfl, ?_, rfl⟩
    · refine Ev.ok ?_
      apply Ev.call hG
      · repeat' walk_at "s"
        all_goals exact hg
      · rfl
      · exact fits_whole_ok (hn x hx)
def isFour (d : D) : Bool := match d with
  | .tuple [.int a, .int b, .int c, .int e] => fitR (.int a) && fitR (.int b) && fitR (.int c) && fitR (.int e) && ((a+b+c+e)*(a+b+c+e) == 2 * (a*a+b*b+c*c+e*e)) && decide (0 < a+b+c+e)
  | _ => false
/-- no dict ahead, nor among the items -/
def noD1 (d : D) : Bool := match d with
  | .dict _ => false
  | .tuple l => l.all noD
  | _ => true
theorem noD_of {d : D} (h : noD1 d = true) : noD d = true := by cases d <;> first | rfl | cases h
theorem fitR_int {x : D} (h : fitR x = true) : ∃ i, x = .int i ∧ -1000000 ≤ i ∧ i ≤ 1000000 := by
  cases x <;> try cases h
  rename_i i
  have h : (decide (-1000000 ≤ i) && decide (i ≤ 1000000)) = true := h
  simp only [Bool.and_eq_true, decide_eq_true_eq] at h
  exact ⟨i, rfl, h.1, h.2⟩
theorem sum_four (a b c e : Int) : Bi.sum.f [.tuple [.int a, .int b, .int c, .int e]] = some (.int (a + b + c + e)) := by
  show some (PyData.int ([a, b, c, e].sum)) = _
  simp only [List.sum_cons, List.sum_nil]
  congr 2; omega
theorem fits_four_ok {d : D} (h : noD1 d = true) : sem4.f [d] = Rs.ok (.bool (isFour d), []) := by
  have hn := noD_of h
  have hT : Ev (mkG gl L4) (.not_ (.call 2 (.cons (.var 0) (.cons (.ci 4) (.cons (.ci 4) .nil))))) [Sl.pd d, .no] (.bool (!tupN d 4 4)) [Sl.pd d, .no] := by
    refine Ev.notb ?_
    apply Ev.call rfl
    · repeat' walk_at "s"
    · rfl
    · exact is_tuple_of_ok (a := 4) (b := 4) hn
  apply sem_rt (F := f_fits_four) (e1 := [Sl.pd d, .no])
  case hh => rfl
  case h =>
    show Evs _ _ b_fits_four [Sl.pd d, .no] _
    unfold b_fits_four
    by_cases ht : tupN d 4 4 = true
    · -- four items
      cases d <;> try cases ht
      rename_i l
      have hl : l.length = 4 := by
        have ht : (decide (4 ≤ l.length) && decide (l.length ≤ 4)) = true := ht
        simp only [Bool.and_eq_true, decide_eq_true_eq] at ht
        omega
      have hl2 : l.length ≤ sizeLine := by rw [hl]; decide
      have hA := all_map fitR l
      have hL := lc_fit (G := mkG gl L4) (l := l) (d := .tuple l) rfl rfl (fun x hx => List.all_eq_true.mp h x hx) hl2 rfl
      rw [ht] at hT
      by_cases hf : l.all fitR = true
      · rw [hf] at hA
        refine Evs.seq (Evs.ifF (e1 := [Sl.pd (.tuple l), .no]) (x := .bool false) (Ev.orF hT rfl (Ev.one (Ev.not (Ev.bi (Ev.cons rfl hL Ev.nil) hA) rfl))) rfl Evs.nil) ?_
        have hx : ∀ x ∈ l, fitR x = true := List.all_eq_true.mp hf
        match l, hl, hx with
        | [x, y, z, w], _, hx =>
          obtain ⟨a, rfl, a1, a2⟩ := fitR_int (hx x (by simp))
          obtain ⟨b, rfl, b1, b2⟩ := fitR_int (hx y (by simp))
          obtain ⟨c, rfl, c1, c2⟩ := fitR_int (hx z (by simp))
          obtain ⟨e, rfl, d1, d2⟩ := fitR_int (hx w (by simp))
          have e1 : isFour (.tuple [.int a, .int b, .int c, .int e]) = (((a+b+c+e)*(a+b+c+e) == 2 * (a*a+b*b+c*c+e*e)) && decide (0 < a+b+c+e)) := by
            show (fitR (.int a) && fitR (.int b) && fitR (.int c) && fitR (.int e) && _ && _) = _
            rw [hx _ (by simp), hx (.int b) (by simp), hx (.int c) (by simp), hx (.int e) (by simp)]
            simp only [Bool.true_and]
          rw [e1]
          refine Evs.seqX (Evs.ret ?_ rfl) (fun _ z => nomatch z)
          refine Ev.andB (e1 := [Sl.pd (.tuple [.int a, .int b, .int c, .int e]), .no]) (x := .bool ((a+b+c+e)*(a+b+c+e) == 2 * (a*a+b*b+c*c+e*e))) ?_ rfl (fun z => by rw [z]) fun _ => Ev.one ?_
          · apply Ev.call rfl
            · repeat' walk_at "s"
            · rfl
            · exact touch_ok ⟨by omega, by omega⟩ ⟨by omega, by omega⟩ ⟨by omega, by omega⟩ ⟨by omega, by omega⟩
          · exact Ev.cmp rfl (Ev.bi (Ev.consP Ev.nil rfl rfl) (sum_four a b c e)) Ev.ci rfl
      · have hf' : l.all fitR = false := by simpa using hf
        rw [hf'] at hA
        have e1 : isFour (.tuple l) = false := by
          unfold isFour
          split
          · rename_i a b c e z
            cases z
            have : (fitR (.int a) && (fitR (.int b) && (fitR (.int c) && (fitR (.int e) && true)))) = false := hf'
            simp only [Bool.and_true] at this
            simp only [Bool.and_assoc]
            rw [← Bool.and_assoc (fitR (.int c)), ← Bool.and_assoc (fitR (.int b)), ← Bool.and_assoc (fitR (.int a)), this]; rfl
          · rfl
        rw [e1]
        exact Evs.seqX (Evs.ifT (e1 := [Sl.pd (.tuple l), .no]) (x := .bool true) (Ev.orF hT rfl (Ev.one (Ev.not (Ev.bi (Ev.cons rfl hL Ev.nil) hA) rfl))) rfl (Evs.seqX (Evs.ret Ev.cb rfl) (fun _ z => nomatch z))) (fun _ z => nomatch z)
    · have ht' : tupN d 4 4 = false := by simpa using ht
      rw [ht'] at hT
      have e1 : isFour d = false := by
        unfold isFour
        split
        · exact absurd rfl ht
        · rfl
      rw [e1]
      exact Evs.seqX (Evs.ifT (x := .bool true) (Ev.orT hT rfl) rfl (Evs.seqX (Evs.ret Ev.cb rfl) (fun _ z => nomatch z))) (fun _ z => nomatch z)
theorem need_four_ok {d : D} (h : noD1 d = true) (hf : isFour d = true) : sem5.f [d] = Rs.ok (.none, []) := by
  apply sem_nx (F := f_need_four) (e1 := [Sl.pd d])
  case hh => rfl
  case h =>
    show Evs _ _ b_need_four [Sl.pd d] _
    unfold b_need_four
    refine Evs.seq (Evs.ifF (e1 := [Sl.pd d]) (x := .bool false) (Ev.not (x := .bool true) ?_ rfl) rfl Evs.nil) Evs.nil
    apply Ev.call rfl
    · repeat' walk_at "s"
    · rfl
    · rw [← hf]; exact fits_four_ok h
abbrev Q4 := Int × Int × Int × Int
def t4 (q : Q4) : D := .tuple [.int q.1, .int q.2.1, .int q.2.2.1, .int q.2.2.2]
def g4 (q : Q4) : Nat → Int
  | 0 => q.1
  | 1 => q.2.1
  | 2 => q.2.2.1
  | _ => q.2.2.2
def s4 (q : Q4) : Int := q.1 + q.2.1 + q.2.2.1 + q.2.2.2
def fif (q : Q4) (p : Nat) : Int := 2 * (s4 q - g4 q p) - g4 q p
def swp (q : Q4) : Nat → Q4
  | 0 => (fif q 0, q.2.1, q.2.2.1, q.2.2.2)
  | 1 => (q.1, fif q 1, q.2.2.1, q.2.2.2)
  | 2 => (q.1, q.2.1, fif q 2, q.2.2.2)
  | _ => (q.1, q.2.1, q.2.2.1, fif q 3)
theorem lt4 {p : Nat} (h : p < 4) : p = 0 ∨ p = 1 ∨ p = 2 ∨ p = 3 := by omega
theorem sum_t4 (q : Q4) : Bi.sum.f [t4 q] = some (.int (s4 q)) := sum_four _ _ _ _
theorem idx_t4 (q : Q4) {p : Nat} (h : p < 4) : idxD (t4 q) (.int (p : Int)) = some (.int (g4 q p)) := by
  rcases lt4 h with rfl | rfl | rfl | rfl <;> rfl
theorem fifth_in_ok (q : Q4) {p : Nat} (h : p < 4) : sem6.f [t4 q, .int (p : Int)] = Rs.ok (.int (fif q p), []) := by
  apply sem_rt (F := f_fifth_in) (e1 := [Sl.pd (t4 q), .pd (.int (p : Int))])
  case hh => rfl
  case h =>
    show Evs _ _ b_fifth_in [Sl.pd (t4 q), .pd (.int (p : Int))] _
    unfold b_fifth_in
    have hi := idx_t4 q h
    refine Evs.seqX (Evs.ret (Ev.bin rfl (Ev.bin rfl Ev.ci (Ev.bin rfl (Ev.bi (Ev.consP Ev.nil rfl rfl) (sum_t4 q)) (Ev.idxP (Ev.var rfl) rfl rfl hi) rfl) (mul_l (by omega) (by omega))) (Ev.idxP (Ev.var rfl) rfl rfl hi) rfl) rfl) (fun _ z => nomatch z)
theorem sw_sl (q : Q4) {p : Nat} (h : p < 4) : ∃ x y, slD (t4 q) none (some (p : Int)) = some (.tuple x) ∧ slD (t4 q) (some ((p : Int) + 1)) none = some (.tuple y) ∧ .tuple ((x ++ [.int (fif q p)]) ++ y) = t4 (swp q p) ∧ x.length ≤ 4 ∧ y.length ≤ 4 := by
  rcases lt4 h with rfl | rfl | rfl | rfl
  · exact ⟨[], [.int q.2.1, .int q.2.2.1, .int q.2.2.2], rfl, rfl, rfl, by simp, by simp⟩
  · exact ⟨[.int q.1], [.int q.2.2.1, .int q.2.2.2], rfl, rfl, rfl, by simp, by simp⟩
  · exact ⟨[.int q.1, .int q.2.1], [.int q.2.2.2], rfl, rfl, rfl, by simp, by simp⟩
  · exact ⟨[.int q.1, .int q.2.1, .int q.2.2.1], [], rfl, rfl, rfl, by simp, by simp⟩
theorem add_tup {x y : List D} (h : x.length + y.length ≤ sizeLine) : Bop.add.f (.tuple x) (.tuple y) = some (.tuple (x ++ y)) := by
  show (if x.length + y.length ≤ sizeLine then _ else _) = _
  rw [if_pos h]
theorem add_lst {x y : List D} (h : x.length + y.length ≤ sizeLine) : Bop.add.f (.list x) (.list y) = some (.list (x ++ y)) := by
  show (if x.length + y.length ≤ sizeLine then _ else _) = _
  rw [if_pos h]
theorem swapped_ok (q : Q4) {p : Nat} (h : p < 4) : sem7.f [t4 q, .int (p : Int)] = Rs.ok (t4 (swp q p), []) := by
  obtain ⟨x, y, h1, h2, h3, h4, h5⟩ := sw_sl q h
  have hz := PySem.sizeLine_eq
  rw [← h3]
  apply sem_rt (F := f_swapped) (e1 := [Sl.pd (t4 q), .pd (.int (p : Int))])
  case hh => rfl
  case h =>
    show Evs _ _ b_swapped [Sl.pd (t4 q), .pd (.int (p : Int))] _
    unfold b_swapped
    have hc : Ev (mkG gl L7) (.call 6 (.cons (.var 0) (.cons (.var 1) .nil))) [Sl.pd (t4 q), .pd (.int (p : Int))] (.int (fif q p)) [Sl.pd (t4 q), .pd (.int (p : Int))] :=
      Ev.call rfl (Ev.cons rfl (Ev.var rfl) (Ev.cons rfl (Ev.var rfl) Ev.nil)) rfl (fifth_in_ok q h)
    exact Evs.seqX (Evs.ret (Ev.bin rfl (Ev.bin rfl (Ev.slP rfl Evp.nil (Evp.some rfl (Ev.var rfl)) rfl h1) (Ev.tup (Ev.cons rfl hc Ev.nil) (by show 1 ≤ _; omega)) (add_tup (by show x.length + 1 ≤ _; omega))) (Ev.slP rfl (Evp.some rfl (Ev.binP Ev.ci rfl rfl rfl)) Evp.nil rfl h2) (add_tup (by rw [List.length_append]; show x.length + 1 + y.length ≤ _; omega))) rfl) (fun _ z => nomatch z)
theorem noD_t4 (q : Q4) : noD1 (t4 q) = true := rfl
/-- places as data -/
def pl (ps : List Nat) : List D := ps.map fun p : Nat => PyData.int (p : Int)
def swpAll (q : Q4) : List Nat → Q4
  | [] => q
  | p :: ps => swpAll (swp q p) ps
theorem behind_ok (q : Q4) {ps : List Nat} (h : ∀ p ∈ ps, p < 4) : sem11.f [t4 q, .tuple (pl ps)] = Rs.ok (t4 (swpAll q ps), []) := by
  obtain ⟨e, h1, h2⟩ := forGo_inv (asg := asgT (.nm 2)) (body := evS (mkG gl L11) false (.seq (.set false 0 (.call 7 (.cons (.var 0) (.cons (.var 2) .nil)))) .nil))
    (fun xs env => ∃ qs r s, xs = pl qs ∧ (∀ p ∈ qs, p < 4) ∧ swpAll r qs = swpAll q ps ∧ env = [Sl.pd (t4 r), .pd (.tuple (pl ps)), s] ∧ ∀ l, s ≠ .bor l) (pl ps) [Sl.pd (t4 q), .pd (.tuple (pl ps)), .no] ⟨ps, q, .no, rfl, h, rfl, rfl, fun _ z => nomatch z⟩
    (fun x xs env ⟨qs, r, s, e1, e2, e3, e4, e5⟩ => by
      subst e4
      match qs, e1, e2, e3 with
      | [], e1, _, _ => cases e1
      | p :: qs, e1, e2, e3 =>
        cases e1
        have hp := e2 p List.mem_cons_self
        refine ⟨[Sl.pd (t4 r), .pd (.tuple (pl ps)), .pd (.int (p : Int))], [Sl.pd (t4 (swp r p)), .pd (.tuple (pl ps)), .pd (.int (p : Int))], ?_, .inl ?_, qs, swp r p, _, rfl, fun y hy => e2 y (List.mem_cons_of_mem _ hy), e3, rfl, fun _ z => nomatch z⟩
        · cases s <;> first | rfl | exact absurd rfl (e5 _)
        · exact Evs.ok (Evs.seq (Evs.set (Ev.call rfl (Ev.cons rfl (Ev.var rfl) (Ev.cons rfl (Ev.var rfl) Ev.nil)) rfl (swapped_ok r hp)) rfl) Evs.nil))
  obtain ⟨qs, r, s, e1, e2, e3, e4, e5⟩ := h2
  have hq : qs = [] := by cases qs <;> first | rfl | cases e1
  subst hq e4
  have e3 : r = swpAll q ps := e3
  subst e3
  apply sem_rt (F := f_behind)
  case h =>
    show Evs _ _ b_behind [Sl.pd (t4 q), .pd (.tuple (pl ps)), .no] _
    unfold b_behind
    exact Evs.seq (Evs.for_ (l := pl ps) (Ev.var rfl) rfl h1) (Evs.seqX (Evs.ret (Ev.var rfl) rfl) (fun _ z => nomatch z))
  case hh => rfl
theorem fits_places_ok {ps : List Nat} (h : ∀ p ∈ ps, p < 4) (hl : ps.length ≤ 40) : sem10.f [.tuple (pl ps)] = Rs.ok (.bool true, []) := by
  have hz := PySem.sizeLine_eq
  have hlen : (pl ps).length = ps.length := by unfold pl; rw [List.length_map]
  have ht : tupN (.tuple (pl ps)) 0 40 = true := by
    show (decide (0 ≤ (pl ps).length) && decide ((pl ps).length ≤ 40)) = true
    simp only [Bool.and_eq_true, decide_eq_true_eq]; omega
  have hc : cgo (asgT (.nm 1)) (condF (isNil .nil) (ev (mkG gl L10) .nil)) (ev (mkG gl L10) (.call 1 (.cons (.var 1) (.cons (.ci 0) (.cons (.ci 3) .nil))))) [1] (pl ps) [Sl.pd (.tuple (pl ps)), .no] [] = .ok ((pl ps).map fun x => .bool (fitW x 0 3), [Sl.pd (.tuple (pl ps)), .no]) := by
    refine cgo_all _ _ fun x hx => ⟨[Sl.pd (.tuple (pl ps)), .pd x], _, [Sl.pd (.tuple (pl ps)), .pd x], [Sl.pd (.tuple (pl ps)), .pd x], rfl, rfl, rfl, ?_, rfl⟩
    obtain ⟨p, _, rfl⟩ := List.mem_map.mp hx
    exact Ev.ok (Ev.call rfl (Ev.cons rfl (Ev.var rfl) (Ev.cons rfl Ev.ci (Ev.cons rfl Ev.ci Ev.nil))) rfl (fits_whole_ok rfl))
  have hA : (pl ps).all (fun x => fitW x 0 3) = true := by
    rw [List.all_eq_true]
    intro x hx
    obtain ⟨p, hp, rfl⟩ := List.mem_map.mp hx
    have := h p hp
    show (decide (0 ≤ (p : Int)) && decide ((p : Int) ≤ 3)) = true
    simp only [Bool.and_eq_true, decide_eq_true_eq]; omega
  have hB := all_map (fun x => fitW x 0 3) (pl ps)
  rw [hA] at hB
  apply sem_rt (F := f_fits_places) (e1 := [Sl.pd (.tuple (pl ps)), .no])
  case hh => rfl
  case h =>
    show Evs _ _ b_fits_places [Sl.pd (.tuple (pl ps)), .no] _
    unfold b_fits_places
    refine Evs.seqX (Evs.ret (Ev.andT (x := .bool true) (Ev.call (r := []) rfl (Ev.cons rfl (Ev.var rfl) (Ev.cons rfl Ev.ci (Ev.cons rfl (Ev.glb rfl) Ev.nil))) rfl ?_) rfl (Ev.one (Ev.bi (Ev.cons rfl (Ev.lc (e1 := [Sl.pd (.tuple (pl ps)), .no]) (Ev.var rfl) rfl ?_ hc rfl) Ev.nil) hB))) rfl) (fun _ z => nomatch z)
    · rw [← ht]; exact is_tuple_of_ok (a := 0) (b := 40) rfl
    · rw [Bool.and_eq_true]; exact ⟨rfl, decide_eq_true (by omega)⟩
theorem exchanged_ok (q : Q4) {ps : List Nat} (h : ∀ p ∈ ps, p < 4) (hl : ps.length ≤ 40) (hf : isFour (t4 q) = true) : sem13.f [t4 q, .tuple (pl ps)] = Rs.ok (t4 (swpAll q ps), []) := by
  apply sem_rt (F := f_exchanged) (e1 := [Sl.pd (t4 q), .pd (.tuple (pl ps))])
  case hh => rfl
  case h =>
    show Evs _ _ b_exchanged [Sl.pd (t4 q), .pd (.tuple (pl ps))] _
    unfold b_exchanged
    exact Evs.seq (Evs.expr (Ev.call rfl (Ev.cons rfl (Ev.var rfl) Ev.nil) rfl (need_four_ok (noD_t4 q) hf))) (Evs.seq (Evs.ifF (x := .bool false) (Ev.notb (k := true) (Ev.call rfl (Ev.cons rfl (Ev.var rfl) Ev.nil) rfl (fits_places_ok h hl))) rfl Evs.nil)
      (Evs.seqX (Evs.ret (Ev.call rfl (Ev.cons rfl (Ev.var rfl) (Ev.cons rfl (Ev.var rfl) Ev.nil)) rfl (behind_ok q h)) rfl) (fun _ z => nomatch z)))
/-- the pairs of enumerate(four) -/
def en4 (q : Q4) : List D := [.tuple [.int 0, .int q.1], .tuple [.int 1, .int q.2.1], .tuple [.int 2, .int q.2.2.1], .tuple [.int 3, .int q.2.2.2]]
def oth (q : Q4) : Nat → List Int
  | 0 => [q.2.1, q.2.2.1, q.2.2.2]
  | 1 => [q.1, q.2.2.1, q.2.2.2]
  | 2 => [q.1, q.2.1, q.2.2.2]
  | _ => [q.1, q.2.1, q.2.2.1]
def sndD : D → D
  | .tuple [_, y] => y
  | _ => .none
def neP (p : Nat) : D → Bool
  | .tuple [.int k, _] => !(k == (p : Int))
  | _ => false
def swF (p : Nat) (z : Int) : D → D
  | .tuple [.int k, .int y] => if (k == (p : Int)) then .int (2 * z - y) else .int y
  | _ => .none
theorem mem_en4 {q : Q4} {x : D} (h : x ∈ en4 q) : ∃ k y : Int, x = .tuple [.int k, .int y] := by
  unfold en4 at h
  simp only [List.mem_cons, List.mem_nil_iff, or_false] at h
  rcases h with rfl | rfl | rfl | rfl <;> exact ⟨_, _, rfl⟩
theorem ev_en4 {G : Genv} {q : Q4} {env : En} {e : E} (h : Ev G e env (t4 q) env) : Ev G (.enum e) env (.list (en4 q)) env := Ev.enum h rfl
theorem oth_of (q : Q4) {p : Nat} (h : p < 4) : ((en4 q).filter (neP p)).map sndD = (oth q p).map PyData.int := by
  rcases lt4 h with rfl | rfl | rfl | rfl <;> rfl
theorem sw_of (q : Q4) {p : Nat} (h : p < 4) : PyData.tuple ((en4 q).map (swF p (oth q p).sum)) = t4 (swp q p) := by
  obtain ⟨a, b, c, d⟩ := q
  rcases lt4 h with rfl | rfl | rfl | rfl
  · show PyData.tuple [.int (2 * [b, c, d].sum - a), .int b, .int c, .int d] = _
    simp only [t4, swp, fif, s4, g4, List.sum_cons, List.sum_nil]; congr 3; omega
  · show PyData.tuple [.int a, .int (2 * [a, c, d].sum - b), .int c, .int d] = _
    simp only [t4, swp, fif, s4, g4, List.sum_cons, List.sum_nil]; congr 4; omega
  · show PyData.tuple [.int a, .int b, .int (2 * [a, b, d].sum - c), .int d] = _
    simp only [t4, swp, fif, s4, g4, List.sum_cons, List.sum_nil]; congr 5; omega
  · show PyData.tuple [.int a, .int b, .int c, .int (2 * [a, b, c].sum - d)] = _
    simp only [t4, swp, fif, s4, g4, List.sum_cons, List.sum_nil]; congr 6; omega
theorem intsD_map : ∀ ns : List Int, intsD? (ns.map PyData.int) = some ns
  | [] => rfl
  | x :: r => by
    show (intsD? (r.map PyData.int)).map (x :: ·) = _
    rw [intsD_map r]; rfl
theorem sum_ints (ns : List Int) : Bi.sum.f [.list (ns.map PyData.int)] = some (.int ns.sum) := by
  show (intsD? (ns.map PyData.int)).map (fun ns => PyData.int ns.sum) = _
  rw [intsD_map]; rfl
theorem law_swapped_ok (q : Q4) {p : Nat} (h : p < 4) : sem26.f [t4 q, .int (p : Int)] = Rs.ok (t4 (swp q p), []) := by
  have hz := PySem.sizeLine_eq
  have h1 : cgo (asgT (.tup (.cons (.nm 3) (.cons (.nm 4) .nil)))) (condF (isNil (.cmp .ne (.peek 3) (.peek 1))) (ev (mkG gl L26) (.cmp .ne (.peek 3) (.peek 1)))) (ev (mkG gl L26) (.var 4)) [3, 4] (en4 q) [Sl.pd (t4 q), .pd (.int (p : Int)), .no, .no, .no] [] =
      .ok ([] ++ ((en4 q).filter (neP p)).map sndD, [Sl.pd (t4 q), .pd (.int (p : Int)), .no, .no, .no]) := by
    refine cgo_map sndD (neP p) _ _ fun x hx => ?_
    obtain ⟨k, y, rfl⟩ := mem_en4 hx
    exact ⟨[Sl.pd (t4 q), .pd (.int (p : Int)), .no, .pd (.int k), .pd (.int y)], _, _, rfl, Ev.ok (Ev.cmpP (Ev.peek rfl) rfl rfl rfl), rfl, fun _ => rfl, fun _ => ⟨_, Ev.ok (Ev.var rfl), rfl⟩⟩
  rw [List.nil_append, oth_of q h] at h1
  have h2 : cgo (asgT (.tup (.cons (.nm 3) (.cons (.nm 4) .nil)))) (condF (isNil .nil) (ev (mkG gl L26) .nil)) (ev (mkG gl L26) (.ite (.cmp .eq (.peek 3) (.peek 1)) (.bin .sub (.bin .mul (.ci 2) (.bi .sum (.cons (.peek 2) .nil))) (.peek 4)) (.var 4))) [3, 4] (en4 q)
      [Sl.pd (t4 q), .pd (.int (p : Int)), .pd (.list ((oth q p).map PyData.int)), .no, .no] [] = .ok ((en4 q).map (swF p (oth q p).sum), [Sl.pd (t4 q), .pd (.int (p : Int)), .pd (.list ((oth q p).map PyData.int)), .no, .no]) := by
    refine cgo_all _ _ fun x hx => ?_
    obtain ⟨k, y, rfl⟩ := mem_en4 hx
    refine ⟨[Sl.pd (t4 q), .pd (.int (p : Int)), .pd (.list ((oth q p).map PyData.int)), .pd (.int k), .pd (.int y)], _, [Sl.pd (t4 q), .pd (.int (p : Int)), .pd (.list ((oth q p).map PyData.int)), .pd (.int k), .pd (.int y)], [Sl.pd (t4 q), .pd (.int (p : Int)), .pd (.list ((oth q p).map PyData.int)), .pd (.int k), .pd (.int y)], rfl, rfl, rfl, Ev.ok ?_, rfl⟩
    exact Ev.ite (Ev.cmpP (Ev.peek rfl) rfl rfl rfl) rfl (fun _ => Ev.bin rfl (Ev.bin rfl Ev.ci (Ev.bi (Ev.consP Ev.nil rfl rfl) (sum_ints _)) (mul_l (by omega) (by omega))) (Ev.peek rfl) rfl) (fun _ => Ev.var rfl)
  apply sem_rt (F := f_law_swapped)
  case h =>
    show Evs _ _ b_law_swapped [Sl.pd (t4 q), .pd (.int (p : Int)), .no, .no, .no] _
    unfold b_law_swapped
    refine Evs.seq (Evs.set (Ev.lc (ev_en4 (Ev.var rfl)) rfl rfl h1 rfl) rfl) (Evs.seqX (Evs.ret (Ev.bi (l := [.list ((en4 q).map (swF p (oth q p).sum))]) (Ev.cons rfl (Ev.lc (ev_en4 (Ev.var rfl)) rfl rfl h2 rfl) Ev.nil) ?_) rfl) (fun _ z => nomatch z))
    show some (PyData.tuple ((en4 q).map (swF p (oth q p).sum))) = _
    rw [sw_of q h]
  case hh => rfl
/-- the law's cup -/
def Cup (l : List D) : Prop := ∃ a b : Int, l = [.int a, .int b] ∧ 0 ≤ a ∧ 0 ≤ b ∧ b < 2 ^ 40
theorem tru_dec {p : Prop} [Decidable p] (h : p) : tru (.bool (decide p)) = some true := by show some (decide p) = _; rw [decide_eq_true h]
theorem tru_decF {p : Prop} [Decidable p] (h : ¬ p) : tru (.bool (decide p)) = some false := by show some (decide p) = _; rw [decide_eq_false h]
theorem log2_nat {n : Nat} (h : n < 2 ^ 60) : (n : Int).natAbs.log2 < 9000 := log2_small (by show n < _; omega)
theorem roll_ok {c : List D} (hc : Cup c) {n : Nat} (h0 : 0 < n) (hn : n < 2 ^ 60) : ∃ (r : Nat) (c' : List D), r < n ∧ Cup c' ∧ sem18.f [.list c, .int (n : Int)] = Rs.ok (.int (r : Int), c') := by
  obtain ⟨a, b, rfl, ha, hb, hb2⟩ := hc
  have hn1 : (0 : Int) < n := by omega
  by_cases hA : 0 < a
  · have hr : 0 ≤ a % (n : Int) := Int.emod_nonneg _ (by omega)
    have hr2 : a % (n : Int) < n := Int.emod_lt_of_pos _ hn1
    refine ⟨(a % (n : Int)).toNat, [.int (a / (n : Int)), .int b], by omega, ⟨_, _, rfl, Int.ediv_nonneg ha (by omega), hb, hb2⟩, ?_⟩
    rw [Int.toNat_of_nonneg hr]
    apply sem_rt (F := f_law_roll) (e1 := [Sl.bor [.int (a / (n : Int)), .int b], .pd (.int (n : Int)), .no, .pd (.int (a % (n : Int)))])
    case hh => rfl
    case h =>
      show Evs _ _ b_law_roll [Sl.bor [.int a, .int b], .pd (.int (n : Int)), .no, .no] _
      unfold b_law_roll
      have hx : ∀ {s2 s3}, Ev (mkG gl L18) (.idx (.peek 0) (.ci 0)) [Sl.bor [.int a, .int b], .pd (.int (n : Int)), s2, s3] (.int a) [Sl.bor [.int a, .int b], .pd (.int (n : Int)), s2, s3] := Ev.idxP Ev.ci rfl rfl rfl
      exact Evs.seqX (Evs.ifT (Ev.cmp rfl hx Ev.ci rfl) (tru_dec hA) (Evs.seq (Evs.set (Ev.bin rfl (Ev.bi (Ev.cons rfl hx Ev.nil) rfl) (Ev.peek rfl) (mod_p hn1)) rfl)
        (Evs.seq (Evs.seti (l2 := [.int (a / (n : Int)), .int b]) (Ev.bin rfl hx (Ev.peek rfl) (fdiv_p hn1 (log2_nat hn))) rfl Ev.ci rfl rfl) (Evs.seqX (Evs.ret (Ev.var rfl) rfl) (fun _ z => nomatch z))))) (fun _ z => nomatch z)
  · have ha0 : a = 0 := by omega
    subst ha0
    generalize hb' : (b * 31883 + 8699) % 2147483549 = b'
    have p1 : 0 ≤ b' := by rw [← hb']; exact Int.emod_nonneg _ (by decide)
    have p2 : b' < 2147483549 := by rw [← hb']; exact Int.emod_lt_of_pos _ (by decide)
    generalize hd : (b' * (b' + 463)) % 2147483563 = d
    have p3 : 0 ≤ d := by rw [← hd]; exact Int.emod_nonneg _ (by decide)
    have hr : 0 ≤ (d / 1103) % (n : Int) := Int.emod_nonneg _ (by omega)
    have hr2 : (d / 1103) % (n : Int) < n := Int.emod_lt_of_pos _ hn1
    refine ⟨((d / 1103) % (n : Int)).toNat, [.int 0, .int b'], by omega, ⟨_, _, rfl, by omega, p1, by omega⟩, ?_⟩
    rw [Int.toNat_of_nonneg hr]
    apply sem_rt (F := f_law_roll) (e1 := [Sl.bor [.int 0, .int b'], .pd (.int (n : Int)), .pd (.int d), .no])
    case hh => rfl
    case h =>
      show Evs _ _ b_law_roll [Sl.bor [.int 0, .int b], .pd (.int (n : Int)), .no, .no] _
      unfold b_law_roll
      have h1 : Bop.mod.f (.int (b * 31883 + 8699)) (.int 2147483549) = some (.int b') := by rw [← hb']; exact mod_p (by decide)
      have h2 : Bop.mod.f (.int (b' * (b' + 463))) (.int 2147483563) = some (.int d) := by rw [← hd]; exact mod_p (by decide)
      have hy : ∀ {x s2}, Ev (mkG gl L18) (.idx (.peek 0) (.ci 1)) [Sl.bor [.int 0, .int x], .pd (.int (n : Int)), s2, .no] (.int x) [Sl.bor [.int 0, .int x], .pd (.int (n : Int)), s2, .no] := Ev.idxP Ev.ci rfl rfl rfl
      exact Evs.seq (Evs.ifF (Ev.cmp rfl (Ev.idxP Ev.ci rfl rfl rfl) Ev.ci rfl) (tru_decF (by omega)) Evs.nil)
        (Evs.seq (Evs.seti (l2 := [.int 0, .int b']) (Ev.bin rfl (Ev.bi (Ev.cons rfl (Ev.bin rfl (Ev.bin rfl hy Ev.ci (mul_r (by omega) (by omega))) Ev.ci rfl) Ev.nil) rfl) Ev.ci h1) rfl Ev.ci rfl rfl)
        (Evs.seq (Evs.set (Ev.bin rfl (Ev.bi (Ev.cons rfl (Ev.bin rfl hy (Ev.bin rfl hy Ev.ci rfl) (mul_l (by omega) (by omega))) Ev.nil) rfl) Ev.ci h2) rfl)
        (Evs.seqX (Evs.ret (Ev.bin rfl (Ev.bi (Ev.cons rfl (Ev.binP Ev.ci rfl rfl (fdiv_p (by omega) (log2_small (by decide)))) Ev.nil) rfl) (Ev.peek rfl) (mod_p hn1)) rfl) (fun _ z => nomatch z))))
theorem atI_nat' {l : List D} {r : Nat} (h : r < l.length) : L2.atI l (r : Int) = some l[r] := by
  unfold L2.atI L2.ixN
  rw [if_pos (by omega), if_pos (by omega)]
  show l[(r : Int).toNat]? = _
  rw [Int.toNat_natCast, List.getElem?_eq_getElem h]
theorem some_ok {c : List D} (hc : Cup c) {l : List D} (h0 : 0 < l.length) (hn : l.length < 2 ^ 60) : ∃ (x : D) (c' : List D), x ∈ l ∧ Cup c' ∧ sem19.f [.list c, .list l] = Rs.ok (x, c') := by
  obtain ⟨r, c', hr, hc', he⟩ := roll_ok hc h0 hn
  refine ⟨l[r], c', List.getElem_mem hr, hc', ?_⟩
  apply sem_rt (F := f_law_some) (e1 := [Sl.bor c', .pd (.list l)])
  case hh => rfl
  case h =>
    show Evs _ _ b_law_some [Sl.bor c, .pd (.list l)] _
    unfold b_law_some
    have h1 : idxD (.list l) (.int (r : Int)) = some l[r] := atI_nat' hr
    exact Evs.seqX (Evs.ret (Ev.idxP (Ev.callm rfl rfl (Ev.cons rfl (Ev.bi (Ev.consP Ev.nil rfl rfl) rfl) Ev.nil) rfl rfl he) rfl rfl h1) rfl) (fun _ z => nomatch z)
theorem cut_lo (l : List D) {r : Nat} (h : r ≤ l.length) : cutD l none (some (r : Int)) = l.take r := by
  unfold cutD
  rw [show HT.sIx l.length l.length (some (r : Int)) = min r l.length from HT.sIx_nat _ _ _, HT.sIx_none, List.drop_zero, Nat.sub_zero, Nat.min_eq_left h]
theorem cut_hi (l : List D) {r : Nat} (h : r ≤ l.length) : cutD l (some (r : Int)) none = l.drop r := by
  unfold cutD
  rw [show HT.sIx l.length 0 (some (r : Int)) = min r l.length from HT.sIx_nat _ _ _, HT.sIx_none, Nat.min_eq_left h, List.take_of_length_le (by rw [List.length_drop]; exact Nat.le_refl _)]
theorem perm_ins {α : Type} (l : List α) (x : α) (r : Nat) : (l.take r ++ [x] ++ l.drop r).Perm (x :: l) := by
  have h1 : (l.take r ++ [x] ++ l.drop r) = l.take r ++ (x :: l.drop r) := by simp
  rw [h1]
  have h2 := List.perm_middle (a := x) (l₁ := l.take r) (l₂ := l.drop r)
  rw [List.take_append_drop] at h2
  exact h2
theorem turned_ok {c : List D} (hc : Cup c) {l : List D} (hl : l.length ≤ 1000) : ∃ (l' : List D) (c' : List D), l'.Perm l ∧ Cup c' ∧ sem25.f [.list c, .list l] = Rs.ok (.list l', c') := by
  have hz := PySem.sizeLine_eq
  obtain ⟨e, h1, h2⟩ := forGo_inv (asg := asgT (.nm 3)) (body := evS (mkG gl L25) false (.seq (.set false 4 (.callm 18 0 (.cons (.bin .add (.bi .len (.cons (.peek 2) .nil)) (.ci 1)) .nil))) (.seq (.set false 2 (.bin .add (.bin .add (.sl (.peek 2) .nil (.var 4)) (.lst (.cons (.var 3) .nil))) (.sl (.peek 2) (.var 4) .nil))) .nil)))
    (fun xs env => ∃ c f s t, Cup c ∧ (f ++ xs).Perm l ∧ env = [Sl.bor c, .pd (.list l), .pd (.list f), s, t] ∧ (∀ m, s ≠ .bor m) ∧ ∀ m, t ≠ .bor m) l [Sl.bor c, .pd (.list l), .pd (.list []), .no, .no] ⟨c, [], .no, .no, hc, List.Perm.refl _, rfl, (fun _ z => nomatch z), (fun _ z => nomatch z)⟩
    (fun x xs env ⟨c, f, s, t, q1, q2, q3, q4, q5⟩ => by
      subst q3
      have hlen := q2.length_eq
      rw [List.length_append, List.length_cons] at hlen
      obtain ⟨r, c', hr, hc', he⟩ := roll_ok q1 (n := f.length + 1) (Nat.succ_pos _) (by omega)
      refine ⟨[Sl.bor c, .pd (.list l), .pd (.list f), .pd x, t], [Sl.bor c', .pd (.list l), .pd (.list (f.take r ++ [x] ++ f.drop r)), .pd x, .pd (.int (r : Int))], ?_, .inl ?_, c', _, _, _, hc', ?_, rfl, (fun _ z => nomatch z), (fun _ z => nomatch z)⟩
      · cases s <;> first | rfl | exact absurd rfl (q4 _)
      · have ht : setS [Sl.bor c', .pd (.list l), .pd (.list f), .pd x, t] 4 (.pd (.int (r : Int))) = some [Sl.bor c', .pd (.list l), .pd (.list f), .pd x, .pd (.int (r : Int))] := by cases t <;> first | rfl | exact absurd rfl (q5 _)
        have g1 : slD (.list f) none (some (r : Int)) = some (.list (f.take r)) := by rw [← cut_lo f (by omega)]; rfl
        have g2 : slD (.list f) (some (r : Int)) none = some (.list (f.drop r)) := by rw [← cut_hi f (by omega)]; rfl
        refine Evs.ok (Evs.seq (Evs.set (e1 := [Sl.bor c', .pd (.list l), .pd (.list f), .pd x, t]) (Ev.callm rfl rfl (Ev.cons rfl (Ev.bin rfl (Ev.bi (Ev.consP Ev.nil rfl rfl) rfl) Ev.ci rfl) Ev.nil) rfl rfl he) ht) (Evs.seq (Evs.set (Ev.bin rfl (Ev.bin rfl (Ev.slP rfl Evp.nil (Evp.some rfl (Ev.var rfl)) rfl g1) (Ev.lst (Ev.cons rfl (Ev.var rfl) Ev.nil) ?_) (add_lst ?_)) (Ev.slP rfl (Evp.some rfl (Ev.var rfl)) Evp.nil rfl g2) (add_lst ?_)) rfl) Evs.nil))
        · show 1 ≤ _; omega
        · rw [List.length_take]; show _ + 1 ≤ _; omega
        · rw [List.length_append, List.length_take, List.length_drop]; show _ + 1 + _ ≤ _; omega
      · exact ((perm_ins f x r).append_right xs).trans ((List.perm_middle.symm).trans q2))
  obtain ⟨c', f, s, t, q1, q2, q3, _, _⟩ := h2
  subst q3
  rw [List.append_nil] at q2
  refine ⟨f, c', q2, q1, ?_⟩
  apply sem_rt (F := f_law_turned) (e1 := [Sl.bor c', .pd (.list l), .pd (.list f), s, t])
  case hh => rfl
  case h =>
    show Evs _ _ b_law_turned [Sl.bor c, .pd (.list l), .no, .no, .no] _
    unfold b_law_turned
    exact Evs.seq (Evs.set (Ev.lst Ev.nil (by show 0 ≤ _; omega)) rfl) (Evs.seq (Evs.for_ (l := l) (Ev.var rfl) rfl h1) (Evs.seqX (Evs.ret (Ev.var rfl) rfl) (fun _ z => nomatch z)))
theorem cup_ok {ns : List Int} (h : ns.length ≤ 63) : ∃ c, Cup c ∧ sem17.f [.list (ns.map PyData.int)] = Rs.ok (.list c, []) := by
  have hz := PySem.sizeLine_eq
  obtain ⟨x, hx⟩ : ∃ x : Int, L2.atI (ns.map PyData.int ++ [PyData.int 0]) 0 = some (.int x) := by
    cases ns with
    | nil => exact ⟨0, rfl⟩
    | cons y r => exact ⟨y, atI_nat' (l := (y :: r).map PyData.int ++ [PyData.int 0]) (r := 0) (by simp)⟩
  generalize hy : (if x < 0 then -x else x) = y
  have hy0 : 0 ≤ y := by rw [← hy]; split <;> omega
  have habs : Bi.abs.f [.int x] = some (.int y) := by rw [← hy]; rfl
  have hp : Bop.pow.f (.int 10) (.int 18) = some (.int (10 ^ 18)) := by
    show (if (0:Int) ≤ 18 ∧ (18:Int) ≤ 1000000 ∧ Int.natAbs 10 < 2 ^ 64 then some (PyData.int (10 ^ (18:Int).toNat)) else none) = _
    rw [if_pos (by decide)]; rfl
  have hm : Bop.mod.f (.int (y * 523 + 4831)) (.int 2077503719) = some (.int ((y * 523 + 4831) % 2077503719)) := mod_p (by decide)
  have m1 : 0 ≤ (y * 523 + 4831) % 2077503719 := Int.emod_nonneg _ (by decide)
  have m2 : (y * 523 + 4831) % 2077503719 < 2077503719 := Int.emod_lt_of_pos _ (by decide)
  refine ⟨[if decide ((10:Int) ^ 18 ≤ y) then PyData.int (y / 191) else PyData.int 0, .int ((y * 523 + 4831) % 2077503719 + 353)], ?_, ?_⟩
  · by_cases hb : (10:Int) ^ 18 ≤ y
    · rw [if_pos (decide_eq_true hb)]; exact ⟨_, _, rfl, Int.ediv_nonneg hy0 (by decide), by omega, by omega⟩
    · rw [if_neg (by rw [decide_eq_false hb]; exact Bool.false_ne_true)]; exact ⟨_, _, rfl, by omega, by omega, by omega⟩
  · apply sem_rt (F := f_law_cup) (e1 := [Sl.pd (.list (ns.map PyData.int)), .pd (.int y)])
    case hh => rfl
    case h =>
      show Evs _ _ b_law_cup [Sl.pd (.list (ns.map PyData.int)), .no] _
      unfold b_law_cup
      refine Evs.seq (Evs.set (Ev.bi (l := [.int x]) (Ev.cons rfl (Ev.idx (x := .list (ns.map PyData.int ++ [PyData.int 0])) rfl (Ev.bin rfl (Ev.bi (Ev.consP Ev.nil rfl rfl) rfl) (Ev.lst (Ev.cons rfl Ev.ci Ev.nil) ?_) (add_lst ?_)) Ev.ci hx) Ev.nil) habs) rfl) (Evs.seqX (Evs.ret (Ev.lst (Ev.cons rfl (Ev.ite (Ev.cmpP (Ev.bin rfl Ev.ci Ev.ci hp) rfl rfl rfl) rfl (fun _ => Ev.binP Ev.ci rfl rfl (fdiv_p (by decide) (log2_small (by decide)))) (fun _ => Ev.ci)) (Ev.cons rfl (Ev.bin rfl (Ev.bin rfl (Ev.bi (Ev.cons rfl (Ev.bin rfl (Ev.binP Ev.ci rfl rfl (mul_r (by omega) (by omega))) Ev.ci rfl) Ev.nil) rfl) Ev.ci hm) Ev.ci rfl) Ev.nil)) ?_) rfl) (fun _ z => nomatch z))
      · show 1 ≤ _; omega
      · rw [List.length_map]; show _ + 1 ≤ _; omega
      · show 2 ≤ _; omega
/-! ### four circles that touch -/
structure Des (q : Q4) : Prop where
  eq : s4 q * s4 q = 2 * (q.1 * q.1 + q.2.1 * q.2.1 + q.2.2.1 * q.2.2.1 + q.2.2.2 * q.2.2.2)
  pos : 0 < s4 q
theorem sq_nn (x : Int) : 0 ≤ x * x := by
  rcases Int.le_total 0 x with h | h
  · exact Int.mul_nonneg h h
  · have := Int.mul_nonneg (Int.neg_nonneg_of_nonpos h) (Int.neg_nonneg_of_nonpos h)
    rwa [Int.neg_mul_neg] at this
theorem sq_zero {x : Int} (h : x * x = 0) : x = 0 := by
  rcases Int.mul_eq_zero.mp h with h | h <;> exact h
theorem pair_nn {a b c d : Int} (h : (a+b+c+d)*(a+b+c+d) = 2*(a*a+b*b+c*c+d*d)) (hp : 0 < a+b+c+d) : 0 ≤ a + b := by
  by_cases hu : 0 ≤ a + b
  · exact hu
  · have h1 : (a-b)*(a-b)+(c-d)*(c-d) = 2*((a+b)*(c+d)) := by grind
    have h2 := Int.mul_neg_of_neg_of_pos (a := a + b) (b := c + d) (by omega) (by omega)
    have h3 := sq_nn (a - b)
    have h4 := sq_nn (c - d)
    omega
theorem des0 {a b c d : Int} (h : (a+b+c+d)*(a+b+c+d) = 2*(a*a+b*b+c*c+d*d)) (hp : 0 < a+b+c+d) (x : Int) (hx : x = 2*(b+c+d)-a) : (x+b+c+d)*(x+b+c+d) = 2*(x*x+b*b+c*c+d*d) ∧ 0 < x+b+c+d := by
  subst hx
  refine ⟨by grind, ?_⟩
  have h1 : (2*(b+c+d)-a+b+c+d)*(a+b+c+d) = 2*(b*b+c*c+d*d)+2*((b+c+d)*(b+c+d)) := by grind
  have hb := sq_nn b; have hc := sq_nn c; have hd := sq_nn d; have hs := sq_nn (b+c+d)
  by_cases hq : 0 < 2*(b+c+d)-a+b+c+d
  · exact hq
  · exfalso
    have h2 : (2*(b+c+d)-a+b+c+d)*(a+b+c+d) ≤ 0 := by
      by_cases hz : 2*(b+c+d)-a+b+c+d = 0
      · rw [hz, Int.zero_mul]; exact Int.le_refl 0
      · exact Int.le_of_lt (Int.mul_neg_of_neg_of_pos (by omega) hp)
    have b0 : b = 0 := sq_zero (by omega)
    have c0 : c = 0 := sq_zero (by omega)
    have d0 : d = 0 := sq_zero (by omega)
    subst b0 c0 d0
    have h3 : a * a = 0 := by simp at h; omega
    have := sq_zero h3
    omega
theorem Des.swp {q : Q4} (h : Des q) {p : Nat} (hp : p < 4) : Des (swp q p) := by
  obtain ⟨a, b, c, d⟩ := q
  obtain ⟨e, ps⟩ := h
  simp only [s4] at e ps
  rcases lt4 hp with rfl | rfl | rfl | rfl
  · obtain ⟨h1, h2⟩ := des0 (a := a) (b := b) (c := c) (d := d) e ps (fif (a, b, c, d) 0) (by simp only [fif, s4, g4]; omega)
    exact ⟨by simp only [K38.swp, s4]; exact h1, by simp only [K38.swp, s4]; exact h2⟩
  · obtain ⟨h1, h2⟩ := des0 (a := b) (b := a) (c := c) (d := d) (by grind) (by omega) (fif (a, b, c, d) 1) (by simp only [fif, s4, g4]; omega)
    exact ⟨by simp only [K38.swp, s4]; grind, by simp only [K38.swp, s4]; omega⟩
  · obtain ⟨h1, h2⟩ := des0 (a := c) (b := a) (c := b) (d := d) (by grind) (by omega) (fif (a, b, c, d) 2) (by simp only [fif, s4, g4]; omega)
    exact ⟨by simp only [K38.swp, s4]; grind, by simp only [K38.swp, s4]; omega⟩
  · obtain ⟨h1, h2⟩ := des0 (a := d) (b := a) (c := b) (d := c) (by grind) (by omega) (fif (a, b, c, d) 3) (by simp only [fif, s4, g4]; omega)
    exact ⟨by simp only [K38.swp, s4]; grind, by simp only [K38.swp, s4]; omega⟩
def Top (q : Q4) (m : Int) : Prop := q.1 ≤ m ∧ q.2.1 ≤ m ∧ q.2.2.1 ≤ m ∧ q.2.2.2 ≤ m
def Bot (q : Q4) (m : Int) : Prop := m ≤ q.1 ∧ m ≤ q.2.1 ∧ m ≤ q.2.2.1 ∧ m ≤ q.2.2.2
theorem Des.bot {q : Q4} (h : Des q) {m : Int} (ht : Top q m) : Bot q (-m) := by
  obtain ⟨a, b, c, d⟩ := q
  obtain ⟨e, ps⟩ := h
  simp only [s4] at e ps
  obtain ⟨t1, t2, t3, t4⟩ := ht
  simp only at t1 t2 t3 t4
  have h1 := pair_nn (a := a) (b := b) (c := c) (d := d) e ps
  have h2 := pair_nn (a := c) (b := d) (c := a) (d := b) (by grind) (by omega)
  refine ⟨?_, ?_, ?_, ?_⟩ <;> simp only <;> omega
theorem isFour_of {q : Q4} (h : Des q) (ht : Top q 1000000) : isFour (t4 q) = true := by
  have hb := h.bot ht
  obtain ⟨a, b, c, d⟩ := q
  obtain ⟨e, ps⟩ := h
  simp only [s4] at e ps
  obtain ⟨t1, t2, t3, t4⟩ := ht
  obtain ⟨b1, b2, b3, b4⟩ := hb
  simp only at t1 t2 t3 t4 b1 b2 b3 b4
  show (fitR (.int a) && fitR (.int b) && fitR (.int c) && fitR (.int d) && ((a+b+c+d)*(a+b+c+d) == 2 * (a*a+b*b+c*c+d*d)) && decide (0 < a+b+c+d)) = true
  have f : ∀ x : Int, -1000000 ≤ x → x ≤ 1000000 → fitR (.int x) = true := fun x h1 h2 => by
    show (decide (-1000000 ≤ x) && decide (x ≤ 1000000)) = true
    rw [decide_eq_true h1, decide_eq_true h2]; rfl
  rw [f a b1 t1, f b b2 t2, f c b3 t3, f d b4 t4, beq_iff_eq.mpr e, decide_eq_true ps]; rfl
theorem Des.swpAll {q : Q4} (h : Des q) : ∀ {ps : List Nat}, (∀ p ∈ ps, p < 4) → Des (swpAll q ps) := by
  intro ps
  induction ps generalizing q with
  | nil => intro _; exact h
  | cons p r ih => intro hp; exact ih (h.swp (hp p List.mem_cons_self)) fun x hx => hp x (List.mem_cons_of_mem _ hx)
/-- all of a four at most m -/
def mx (q : Q4) : Int := maxI q.1 [q.2.1, q.2.2.1, q.2.2.2]
theorem max_t4 (q : Q4) : Bi.max.f [t4 q] = some (.int (mx q)) := rfl
theorem mx_le {q : Q4} {m : Int} : mx q ≤ m ↔ Top q m := by
  obtain ⟨a, b, c, d⟩ := q
  show max (max (max a b) c) d ≤ m ↔ (a ≤ m ∧ b ≤ m ∧ c ≤ m ∧ d ≤ m)
  omega
/-! ### the law's own fours -/
theorem ints_perm {l : List D} {ns : List Int} (h : l.Perm (ns.map PyData.int)) : ∃ ms : List Int, l = ms.map PyData.int ∧ ms.Perm ns := by
  let f : D → Int := fun d => match d with | .int i => i | _ => 0
  have h1 : ∀ x ∈ l, x = PyData.int (f x) := fun x hx => by
    obtain ⟨n, _, rfl⟩ := List.mem_map.mp (h.mem_iff.mp hx)
    rfl
  refine ⟨l.map f, ?_, ?_⟩
  · rw [List.map_map]
    conv => lhs; rw [← List.map_id l]
    exact List.map_congr_left h1
  · have := h.map f
    rw [List.map_map] at this
    have e : (ns.map (f ∘ PyData.int)) = ns := by
      conv => rhs; rw [← List.map_id ns]
      exact List.map_congr_left fun _ _ => rfl
    rw [e] at this
    exact this
theorem sum_perm {a b : List Int} (h : a.Perm b) : a.sum = b.sum := by
  induction h with
  | nil => rfl
  | cons x _ ih => rw [List.sum_cons, List.sum_cons, ih]
  | swap x y l => simp only [List.sum_cons]; omega
  | trans _ _ ih1 ih2 => rw [ih1, ih2]
theorem four_perm {q : Q4} (h : Des q) {m : Int} (ht : Top q m) {l : List D} (hp : l.Perm [.int q.1, .int q.2.1, .int q.2.2.1, .int q.2.2.2]) : ∃ r : Q4, PyData.tuple l = t4 r ∧ Des r ∧ Top r m := by
  obtain ⟨ms, rfl, hm⟩ := ints_perm (ns := [q.1, q.2.1, q.2.2.1, q.2.2.2]) hp
  have hl := hm.length_eq
  match ms, hl, hm with
  | [a, b, c, d], _, hm =>
    refine ⟨(a, b, c, d), rfl, ?_, ?_⟩
    · have h1 := sum_perm hm
      have h2 := sum_perm (hm.map fun x => x * x)
      simp only [List.sum_cons, List.sum_nil, List.map_cons, List.map_nil] at h1 h2
      have e := h.eq
      have ps := h.pos
      simp only [s4] at e ps
      have h3 : a + b + c + d = q.1 + q.2.1 + q.2.2.1 + q.2.2.2 := by omega
      refine ⟨?_, ?_⟩ <;> simp only [s4]
      · rw [h3, e]; omega
      · omega
    · obtain ⟨t1, t2, t3, t4⟩ := ht
      have hx : ∀ x ∈ [a, b, c, d], x ≤ m := fun x hx => by
        have := hm.mem_iff.mp hx
        simp only [List.mem_cons, List.mem_nil_iff, or_false] at this
        rcases this with rfl | rfl | rfl | rfl <;> assumption
      exact ⟨hx a (by simp), hx b (by simp), hx c (by simp), hx d (by simp)⟩
theorem rng_ok {n : Nat} (h : n < 1000) : rngOk (n : Int) = true := by
  unfold rngOk
  rw [decide_eq_true (by omega), decide_eq_true (by omega)]; rfl
/-! ### told and due alike -/
def Sim : Nat → D → Prop
  | 0, _ => False
  | _ + 1, .none => True
  | _ + 1, .bool _ => True
  | _ + 1, .int _ => True
  | j + 1, .tuple l => l.length ≤ 1000 ∧ ∀ x ∈ l, Sim j x
  | _ + 1, _ => False
theorem mem_rngD {lo hi : Int} {x : D} (h : x ∈ rngD lo hi) : ∃ k : Nat, x = .int (lo + (k : Int)) ∧ (k : Int) < hi - lo := by
  unfold rngD at h
  obtain ⟨k, hk, rfl⟩ := List.mem_map.mp h
  have := List.mem_range.mp hk
  exact ⟨k, rfl, by omega⟩
theorem all_true {α : Type} (l : List α) : Bi.all.f [.list (l.map fun _ => PyData.bool true)] = some (.bool true) := by
  show (boolsD? (l.map fun _ => PyData.bool true)).map (fun bs => PyData.bool (bs.all id)) = _
  have : boolsD? (l.map fun _ => PyData.bool true) = some (l.map fun _ => true) := by
    induction l with
    | nil => rfl
    | cons x r ih => rw [List.map_cons]; unfold boolsD?; rw [ih]; rfl
  rw [this]
  show some (PyData.bool ((l.map fun _ => true).all id)) = _
  rw [List.all_map]
  congr 2
  rw [List.all_eq_true]; intro x _; rfl
theorem rng_ok' {n : Nat} (h : n ≤ 1000) : rngOk ((n : Nat) : Int) = true := by
  unfold rngOk
  rw [decide_eq_true (by omega), decide_eq_true (by omega)]; rfl
theorem same_step {G : Genv} {self : Nat} {fs : FSem} {j : Nat} (hf : G.fn self = some fs) (hm : fs.mu = false) (ha : fs.ar = 2) (ih : ∀ x, Sim j x → fs.f [x, x] = Rs.ok (.bool true, [])) {d : D} (hd : Sim (j + 1) d) :
    Evs G false (b_law_same self) [Sl.pd d, .pd d, .no] (.rt (.bool true) [Sl.pd d, .pd d, .no]) := by
  have hz := PySem.sizeLine_eq
  unfold b_law_same
  have two : ∀ n : Nat, (fs.mu || !(2 == fs.ar)) = false := fun _ => by rw [hm, ha]; rfl
  cases d with
  | tuple l =>
    obtain ⟨hl, hx⟩ := hd
    have hlen : Ev G (.bi .len (.cons (.peek 1) .nil)) [Sl.pd (.tuple l), .pd (.tuple l), .no] (.int (l.length : Nat)) [Sl.pd (.tuple l), .pd (.tuple l), .no] := Ev.bi (Ev.consP Ev.nil rfl rfl) rfl
    have hlen0 : Ev G (.bi .len (.cons (.peek 0) .nil)) [Sl.pd (.tuple l), .pd (.tuple l), .no] (.int (l.length : Nat)) [Sl.pd (.tuple l), .pd (.tuple l), .no] := Ev.bi (Ev.consP Ev.nil rfl rfl) rfl
    have hne : Cop.ne.f (.int ((l.length : Nat) : Int)) (.int (l.length : Nat)) = some (.bool false) := by
      show some (PyData.bool (!(((l.length : Nat) : Int) == (l.length : Nat)))) = _
      rw [beq_self_eq_true]; rfl
    have hc : cgo (asgT (.nm 2)) (condF (isNil .nil) (ev G .nil)) (ev G (.call self (.cons (.idx (.peek 0) (.var 2)) (.cons (.idx (.peek 1) (.var 2)) .nil)))) [2] (rngD 0 ((l.length : Nat) : Int)) [Sl.pd (.tuple l), .pd (.tuple l), .no] [] = .ok ((rngD 0 ((l.length : Nat) : Int)).map fun _ => .bool true, [Sl.pd (.tuple l), .pd (.tuple l), .no]) := by
      refine cgo_all _ _ fun x hx2 => ?_
      obtain ⟨k, rfl, hk⟩ := mem_rngD hx2
      have hk2 : k < l.length := by omega
      have hi : idxD (.tuple l) (.int (0 + (k : Int))) = some l[k] := by rw [Int.zero_add]; exact atI_nat' hk2
      refine ⟨[Sl.pd (.tuple l), .pd (.tuple l), .pd (.int (0 + (k : Int)))], _, [Sl.pd (.tuple l), .pd (.tuple l), .pd (.int (0 + (k : Int)))], [Sl.pd (.tuple l), .pd (.tuple l), .pd (.int (0 + (k : Int)))], rfl, rfl, rfl, Ev.ok ?_, rfl⟩
      exact Ev.call hf (Ev.cons rfl (Ev.idxP (Ev.var rfl) rfl rfl hi) (Ev.cons rfl (Ev.idxP (Ev.var rfl) rfl rfl hi) Ev.nil)) (two 0) (ih _ (hx _ (List.getElem_mem hk2)))
    exact Evs.seqX (Evs.ifT (x := .bool true) (Ev.isi (Ev.var rfl) rfl) rfl (Evs.seq (Evs.ifF (x := .bool false) (Ev.orF (x := .bool false) (Ev.notb (k := true) (Ev.isi (Ev.var rfl) rfl)) rfl (Ev.one (Ev.cmp rfl hlen0 hlen hne))) rfl Evs.nil)
      (Evs.seqX (Evs.ret (Ev.bi (Ev.cons rfl (Ev.lc (e1 := [Sl.pd (.tuple l), .pd (.tuple l), .no]) (Ev.rng1 hlen (rng_ok' hl)) rfl (by rw [Bool.and_eq_true]; exact ⟨rfl, decide_eq_true (by rw [rngD_length]; omega)⟩) hc rfl) Ev.nil) (all_true _)) rfl) (fun _ z => nomatch z)))) (fun _ z => nomatch z)
  | none => exact Evs.seq (Evs.ifF (x := .bool false) (Ev.isi (Ev.var rfl) rfl) rfl Evs.nil) (Evs.seqX (Evs.ifT (x := .bool true) (Ev.cmpP Ev.cn rfl rfl rfl) rfl (Evs.seqX (Evs.ret (Ev.cmpP Ev.cn rfl rfl rfl) rfl) (fun _ z => nomatch z))) (fun _ z => nomatch z))
  | bool b =>
    refine Evs.seq (Evs.ifF (x := .bool false) (Ev.isi (Ev.var rfl) rfl) rfl Evs.nil) (Evs.seq (Evs.ifF (x := .bool false) (Ev.cmpP Ev.cn rfl rfl rfl) rfl Evs.nil) (Evs.seqX (Evs.ifT (x := .bool true) (Ev.isi (Ev.var rfl) rfl) rfl (Evs.seqX (Evs.ret ?_ rfl) (fun _ z => nomatch z))) (fun _ z => nomatch z)))
    cases b with
    | true => exact Ev.iteT (Ev.var rfl) rfl (Ev.cmpP Ev.cb rfl rfl rfl)
    | false => exact Ev.iteF (Ev.var rfl) rfl (Ev.cmpP Ev.cb rfl rfl rfl)
  | int i =>
    have he : Cop.eq.f (.int i) (.int i) = some (.bool true) := by show some (PyData.bool (i == i)) = _; rw [beq_self_eq_true]
    exact Evs.seq (Evs.ifF (x := .bool false) (Ev.isi (Ev.var rfl) rfl) rfl Evs.nil) (Evs.seq (Evs.ifF (x := .bool false) (Ev.cmpP Ev.cn rfl rfl rfl) rfl Evs.nil) (Evs.seq (Evs.ifF (x := .bool false) (Ev.isi (Ev.var rfl) rfl) rfl Evs.nil) (Evs.seqX (Evs.ifT (x := .bool true) (Ev.isi (Ev.var rfl) rfl) rfl
      (Evs.seqX (Evs.ret (Ev.andT (x := .bool true) (Ev.isi (Ev.var rfl) rfl) rfl (Ev.andT (x := .bool true) (Ev.notb (k := false) (Ev.isi (Ev.var rfl) rfl)) rfl (Ev.one (Ev.cmp rfl (Ev.bi (Ev.consP Ev.nil rfl rfl) rfl) (Ev.peek rfl) he)))) rfl) (fun _ z => nomatch z))) (fun _ z => nomatch z))))
  | str x => exact hd.elim
  | list l => exact hd.elim
  | dict l => exact hd.elim
theorem same1 {d : D} (h : Sim 1 d) : sem21.f [d, d] = Rs.ok (.bool true, []) := sem_rt (F := f_law_same_1) (same_step (j := 0) (G := mkG gl L21) (fs := sem20) rfl rfl rfl (fun x z => (show False from z).elim) h) rfl
theorem same2 {d : D} (h : Sim 2 d) : sem22.f [d, d] = Rs.ok (.bool true, []) := sem_rt (F := f_law_same_2) (same_step (G := mkG gl L22) (fs := sem21) rfl rfl rfl (fun _ z => same1 z) h) rfl
theorem same3 {d : D} (h : Sim 3 d) : sem23.f [d, d] = Rs.ok (.bool true, []) := sem_rt (F := f_law_same_3) (same_step (G := mkG gl L23) (fs := sem22) rfl rfl rfl (fun _ z => same2 z) h) rfl
theorem same4 {d : D} (h : Sim 4 d) : sem24.f [d, d] = Rs.ok (.bool true, []) := sem_rt (F := f_law_same_4) (same_step (G := mkG gl L24) (fs := sem23) rfl rfl rfl (fun _ z => same3 z) h) rfl

/-! ### the law's own is_four -/
def okI (x : D) : Bool := noD x && x.canLay0 && decide (x.depth ≤ 60)
/-- no dict ahead; the items of a tuple can be laid -/
theorem canLay_all : ∀ {l : List D}, (∀ x ∈ l, x.canLay0 = true) → PyData.canLayAll0 l = true
  | [], _ => rfl
  | x :: r, h => by
    show (x.canLay0 && PyData.canLayAll0 r) = true
    rw [h x List.mem_cons_self, canLay_all fun y hy => h y (List.mem_cons_of_mem _ hy)]; rfl
theorem depth_all : ∀ {l : List D} {n : Nat}, (∀ x ∈ l, x.depth ≤ n) → PyData.depthAll l ≤ n
  | [], _, _ => Nat.zero_le _
  | x :: r, n, h => by
    show max x.depth (PyData.depthAll r) ≤ n
    exact Nat.max_le.mpr ⟨h x List.mem_cons_self, depth_all fun y hy => h y (List.mem_cons_of_mem _ hy)⟩
theorem shaped_list {l : List D} (h : ∀ x ∈ l, okI x = true) : SeqAt.shaped (.list l) = true := by
  unfold SeqAt.shaped
  rw [Bool.and_eq_true]
  have hh : ∀ x ∈ l, (noD x = true ∧ x.canLay0 = true) ∧ x.depth ≤ 60 := fun x hx => by
    have := h x hx
    unfold okI at this
    simpa only [Bool.and_eq_true, decide_eq_true_eq] using this
  refine ⟨canLay_all fun x hx => (hh x hx).1.2, decide_eq_true ?_⟩
  show PyData.depthAll l + 1 ≤ 64
  have := depth_all (n := 60) fun x hx => (hh x hx).2
  omega
theorem ne_nil {l : List D} (h : ∀ x ∈ l, okI x = true) : Cop.ne.f (.list l) (.list []) = some (.bool (!l.isEmpty)) := by
  show (if SeqAt.shaped (.list l) && SeqAt.shaped (.list []) then some (PyData.bool (!PyData.eqv (.list l) (.list []))) else none) = _
  rw [if_pos (by rw [shaped_list h]; decide)]
  cases l <;> rfl

/-! ### the tree of a net, in plain numbers -/
def BB (b y : Int) (L : List Int) : List Int := if y ≤ b then y :: L else []
theorem BB_count {b y1 y2 : Int} {L1 L2 : List Int} (e : y1 = y2) (h : ∀ v, L1.count v = L2.count v) (v : Int) : (BB b y1 L1).count v = (BB b y2 L2).count v := by
  subst e; unfold BB; split
  · rw [List.count_cons, List.count_cons, h v]
  · rfl
/-- the circles below one that was drawn last -/
def VV (b : Int) : Nat → Int → Int → Int → Int → List Int
  | 0, _, _, _, _ => [999]
  | n + 1, x, y, z, w => BB b (2*(x+z+w)-y) (VV b n (2*(x+z+w)-y) x z w) ++ (BB b (2*(x+y+w)-z) (VV b n (2*(x+y+w)-z) x y w) ++ BB b (2*(x+y+z)-w) (VV b n (2*(x+y+z)-w) x y z))
theorem VV_sym (b : Int) : ∀ (n : Nat) (x y z w v : Int), (VV b n x y z w).count v = (VV b n x z y w).count v ∧ (VV b n x y z w).count v = (VV b n x y w z).count v
  | 0, _, _, _, _, _ => ⟨rfl, rfl⟩
  | n + 1, x, y, z, w, v => by
    have i1 := fun x y z w v => (VV_sym b n x y z w v).1
    have i2 := fun x y z w v => (VV_sym b n x y z w v).2
    have ez : 2*(x+z+y)-w = 2*(x+y+z)-w := by omega
    have ew : 2*(x+w+z)-y = 2*(x+z+w)-y := by omega
    have h1 := BB_count (b := b) (y1 := 2*(x+y+z)-w) (y2 := 2*(x+z+y)-w) (L1 := VV b n (2*(x+y+z)-w) x y z) (L2 := VV b n (2*(x+z+y)-w) x z y) ez.symm (fun v => by rw [ez]; exact i2 _ _ _ _ v) v
    have h2 := BB_count (b := b) (y1 := 2*(x+z+w)-y) (y2 := 2*(x+w+z)-y) (L1 := VV b n (2*(x+z+w)-y) x z w) (L2 := VV b n (2*(x+w+z)-y) x w z) ew.symm (fun v => by rw [ew]; exact i2 _ _ _ _ v) v
    unfold VV
    simp only [List.count_append]
    constructor <;> omega
theorem s23 (b : Int) (n : Nat) (x y z w v : Int) : (VV b n x y z w).count v = (VV b n x z y w).count v := (VV_sym b n x y z w v).1
theorem s34 (b : Int) (n : Nat) (x y z w v : Int) : (VV b n x y z w).count v = (VV b n x y w z).count v := (VV_sym b n x y z w v).2
/-- the circles below the first four -/
def RR (b : Int) (n : Nat) (q : Q4) : List Int :=
  BB b (2*(q.2.1+q.2.2.1+q.2.2.2)-q.1) (VV b n (2*(q.2.1+q.2.2.1+q.2.2.2)-q.1) q.2.1 q.2.2.1 q.2.2.2) ++
  (BB b (2*(q.1+q.2.2.1+q.2.2.2)-q.2.1) (VV b n (2*(q.1+q.2.2.1+q.2.2.2)-q.2.1) q.1 q.2.2.1 q.2.2.2) ++
  (BB b (2*(q.1+q.2.1+q.2.2.2)-q.2.2.1) (VV b n (2*(q.1+q.2.1+q.2.2.2)-q.2.2.1) q.1 q.2.1 q.2.2.2) ++
  BB b (2*(q.1+q.2.1+q.2.2.1)-q.2.2.2) (VV b n (2*(q.1+q.2.1+q.2.2.1)-q.2.2.2) q.1 q.2.1 q.2.2.1)))
theorem RR01 (b : Int) (n : Nat) (x y z w v : Int) : (RR b n (x, y, z, w)).count v = (RR b n (y, x, z, w)).count v := by
  have e1 : 2*(y+x+w)-z = 2*(x+y+w)-z := by omega
  have e2 : 2*(y+x+z)-w = 2*(x+y+z)-w := by omega
  have h1 := BB_count (b := b) (y1 := 2*(y+x+w)-z) (L1 := VV b n (2*(y+x+w)-z) y x w) (L2 := VV b n (2*(x+y+w)-z) x y w) e1 (fun v => by rw [e1]; exact s23 b n _ _ _ _ v) v
  have h2 := BB_count (b := b) (y1 := 2*(y+x+z)-w) (L1 := VV b n (2*(y+x+z)-w) y x z) (L2 := VV b n (2*(x+y+z)-w) x y z) e2 (fun v => by rw [e2]; exact s23 b n _ _ _ _ v) v
  simp only [RR, List.count_append]
  omega
theorem RR12 (b : Int) (n : Nat) (x y z w v : Int) : (RR b n (x, y, z, w)).count v = (RR b n (x, z, y, w)).count v := by
  have e1 : 2*(z+y+w)-x = 2*(y+z+w)-x := by omega
  have e2 : 2*(x+z+y)-w = 2*(x+y+z)-w := by omega
  have h1 := BB_count (b := b) (y1 := 2*(z+y+w)-x) (L1 := VV b n (2*(z+y+w)-x) z y w) (L2 := VV b n (2*(y+z+w)-x) y z w) e1 (fun v => by rw [e1]; exact s23 b n _ _ _ _ v) v
  have h2 := BB_count (b := b) (y1 := 2*(x+z+y)-w) (L1 := VV b n (2*(x+z+y)-w) x z y) (L2 := VV b n (2*(x+y+z)-w) x y z) e2 (fun v => by rw [e2]; exact s34 b n _ _ _ _ v) v
  simp only [RR, List.count_append]
  omega
theorem RR23 (b : Int) (n : Nat) (x y z w v : Int) : (RR b n (x, y, z, w)).count v = (RR b n (x, y, w, z)).count v := by
  have e1 : 2*(y+w+z)-x = 2*(y+z+w)-x := by omega
  have e2 : 2*(x+w+z)-y = 2*(x+z+w)-y := by omega
  have h1 := BB_count (b := b) (y1 := 2*(y+w+z)-x) (L1 := VV b n (2*(y+w+z)-x) y w z) (L2 := VV b n (2*(y+z+w)-x) y z w) e1 (fun v => by rw [e1]; exact s34 b n _ _ _ _ v) v
  have h2 := BB_count (b := b) (y1 := 2*(x+w+z)-y) (L1 := VV b n (2*(x+w+z)-y) x w z) (L2 := VV b n (2*(x+z+w)-y) x z w) e2 (fun v => by rw [e2]; exact s34 b n _ _ _ _ v) v
  simp only [RR, List.count_append]
  omega
/-! ### the same four in another order -/
def li (q : Q4) : List Int := [q.1, q.2.1, q.2.2.1, q.2.2.2]
theorem pm_ind {P : Q4 → Prop} (h01 : ∀ a b c d, P (a, b, c, d) → P (b, a, c, d)) (h12 : ∀ a b c d, P (a, b, c, d) → P (a, c, b, d)) (h23 : ∀ a b c d, P (a, b, c, d) → P (a, b, d, c))
    {q r : Q4} (hp : (li r).Perm (li q)) (h : P q) : P r := by
  obtain ⟨a, b, c, d⟩ := q
  obtain ⟨x, y, z, w⟩ := r
  simp only [li] at hp
  have hx : ∃ b' c' d', P (x, b', c', d') ∧ [y, z, w].Perm [b', c', d'] := by
    have hm : x ∈ [a, b, c, d] := hp.mem_iff.mp List.mem_cons_self
    simp only [List.mem_cons, List.mem_nil_iff, or_false] at hm
    rcases hm with e | e | e | e
    · subst e; exact ⟨b, c, d, h, hp.cons_inv⟩
    · subst e; exact ⟨a, c, d, h01 _ _ _ _ h, (hp.trans (.swap ..)).cons_inv⟩
    · subst e; exact ⟨a, b, d, h01 _ _ _ _ (h12 _ _ _ _ h), (hp.trans (((List.Perm.swap ..).cons a).trans (.swap ..))).cons_inv⟩
    · subst e; exact ⟨a, b, c, h01 _ _ _ _ (h12 _ _ _ _ (h23 _ _ _ _ h)), (hp.trans ((((List.Perm.swap ..).cons b).cons a).trans (((List.Perm.swap ..).cons a).trans (.swap ..)))).cons_inv⟩
  obtain ⟨b', c', d', h, hp⟩ := hx
  have hy : ∃ c'' d'', P (x, y, c'', d'') ∧ [z, w].Perm [c'', d''] := by
    have hm : y ∈ [b', c', d'] := hp.mem_iff.mp List.mem_cons_self
    simp only [List.mem_cons, List.mem_nil_iff, or_false] at hm
    rcases hm with e | e | e
    · subst e; exact ⟨c', d', h, hp.cons_inv⟩
    · subst e; exact ⟨b', d', h12 _ _ _ _ h, (hp.trans (.swap ..)).cons_inv⟩
    · subst e; exact ⟨b', c', h12 _ _ _ _ (h23 _ _ _ _ h), (hp.trans (((List.Perm.swap ..).cons b').trans (.swap ..))).cons_inv⟩
  obtain ⟨c'', d'', h, hp⟩ := hy
  have hm : z ∈ [c'', d''] := hp.mem_iff.mp List.mem_cons_self
  simp only [List.mem_cons, List.mem_nil_iff, or_false] at hm
  rcases hm with e | e
  · subst e
    have := hp.cons_inv.mem_iff.mp List.mem_cons_self
    simp only [List.mem_cons, List.mem_nil_iff, or_false] at this
    subst this; exact h
  · subst e
    have := (hp.trans (.swap ..)).cons_inv.mem_iff.mp List.mem_cons_self
    simp only [List.mem_cons, List.mem_nil_iff, or_false] at this
    subst this; exact h23 _ _ _ _ h
/-- all bends up to b: the first four's, the others' -/
def net (b : Int) (q : Q4) : List Int := (li q).filter (fun y => decide (y ≤ b)) ++ RR b 63 q
theorem net_pm {b : Int} {q r : Q4} (hp : (li r).Perm (li q)) : (net b r).Perm (net b q) := by
  have h : ∀ v, (RR b 63 r).count v = (RR b 63 q).count v := pm_ind (P := fun r => ∀ v, (RR b 63 r).count v = (RR b 63 q).count v)
    (fun x y z w h v => by rw [← h, RR01]) (fun x y z w h v => by rw [← h, RR12]) (fun x y z w h v => by rw [← h, RR23]) hp fun _ => rfl
  exact (hp.filter _).append (List.perm_iff_count.mpr h)
/-! ### up to a lower bound -/
/-- the circle x was drawn last; no two of them are together below 0 -/
def Las (x y z w : Int) : Prop := y + z + w ≤ x ∧ 0 ≤ x + y ∧ 0 ≤ x + z ∧ 0 ≤ x + w ∧ 0 ≤ y + z ∧ 0 ≤ y + w ∧ 0 ≤ z + w
theorem VV_ge {b : Int} (hb : b ≤ 999) : ∀ {n : Nat} {x y z w : Int}, Las x y z w → x ≤ 999 → ∀ v ∈ VV b n x y z w, x ≤ v
  | 0, _, _, _, _, _, hx, v, hv => by
    unfold VV at hv
    rw [List.mem_singleton.mp hv]; exact hx
  | n + 1, x, y, z, w, h, hx, v, hv => by
    unfold Las at h
    have go : ∀ {t p q r : Int}, Las t p q r → x ≤ t → v ∈ BB b t (VV b n t p q r) → x ≤ v := fun {t p q r} hl ht hm => by
      unfold BB at hm
      split at hm
      · rcases List.mem_cons.mp hm with e | hm
        · omega
        · have := VV_ge hb hl (by omega) v hm; omega
      · cases hm
    unfold VV at hv
    rcases List.mem_append.mp hv with hv | hv
    · exact go (by unfold Las; omega) (by omega) hv
    · rcases List.mem_append.mp hv with hv | hv
      · exact go (by unfold Las; omega) (by omega) hv
      · exact go (by unfold Las; omega) (by omega) hv
theorem BB_cut {b c t : Int} (hc : c ≤ b) {L1 L2 : List Int} (h1 : t ≤ c → L1 = L2.filter fun v => decide (v ≤ c)) (h2 : c < t → ∀ v ∈ L2, t ≤ v) : BB c t L1 = (BB b t L2).filter fun v => decide (v ≤ c) := by
  unfold BB
  by_cases ht : t ≤ c
  · rw [if_pos ht, if_pos (Int.le_trans ht hc), List.filter_cons_of_pos (by exact decide_eq_true ht), h1 ht]
  · rw [if_neg ht]
    split
    · rw [List.filter_cons_of_neg (by rw [decide_eq_true_eq]; exact ht)]
      symm
      rw [List.filter_eq_nil_iff]
      intro v hv
      have := h2 (by omega) v hv
      rw [decide_eq_true_eq]; omega
    · rfl
theorem BB_mem {b t v : Int} {L : List Int} (ht : t ≤ b) (h : v ∉ BB b t L) : v ∉ L := by
  unfold BB at h
  rw [if_pos ht] at h
  exact fun z => h (List.mem_cons_of_mem _ z)
theorem VV_cut {b c : Int} (hc : c ≤ b) (hb : b ≤ 999) : ∀ {n : Nat} {x y z w : Int}, Las x y z w → 999 ∉ VV b n x y z w → VV c n x y z w = (VV b n x y z w).filter fun v => decide (v ≤ c)
  | 0, _, _, _, _, _, h => absurd (List.mem_singleton.mpr rfl) h
  | n + 1, x, y, z, w, hl, h => by
    unfold VV at h ⊢
    unfold Las at hl
    have m1 : ∀ {L1 L2 : List Int}, 999 ∉ L1 ++ L2 → 999 ∉ L1 ∧ 999 ∉ L2 := fun h => ⟨fun z => h (List.mem_append_left _ z), fun z => h (List.mem_append_right _ z)⟩
    obtain ⟨n1, n2⟩ := m1 h
    obtain ⟨n2, n3⟩ := m1 n2
    have go : ∀ {t p q r : Int}, Las t p q r → 999 ∉ BB b t (VV b n t p q r) → BB c t (VV c n t p q r) = (BB b t (VV b n t p q r)).filter fun v => decide (v ≤ c) := fun {t p q r} hl hm => by
      by_cases htb : t ≤ b
      · exact BB_cut hc (fun ht => VV_cut hc hb hl (BB_mem htb hm)) fun _ => VV_ge hb hl (by omega)
      · unfold BB; rw [if_neg htb, if_neg (by omega)]; rfl
    rw [List.filter_append, List.filter_append, go (by unfold Las; omega) n1, go (by unfold Las; omega) n2, go (by unfold Las; omega) n3]
/-- the first four: no exchange makes less -/
def Ro (q : Q4) : Prop := 2 * q.1 ≤ s4 q ∧ 2 * q.2.1 ≤ s4 q ∧ 2 * q.2.2.1 ≤ s4 q ∧ 2 * q.2.2.2 ≤ s4 q
def Nn (q : Q4) : Prop := 0 ≤ q.1 + q.2.1 ∧ 0 ≤ q.1 + q.2.2.1 ∧ 0 ≤ q.1 + q.2.2.2 ∧ 0 ≤ q.2.1 + q.2.2.1 ∧ 0 ≤ q.2.1 + q.2.2.2 ∧ 0 ≤ q.2.2.1 + q.2.2.2
theorem net_cut {b c : Int} (hc : c ≤ b) (hb : b ≤ 999) {q : Q4} (hr : Ro q) (hn : Nn q) (h : 999 ∉ RR b 63 q) : net c q = (net b q).filter fun v => decide (v ≤ c) := by
  obtain ⟨x, y, z, w⟩ := q
  simp only [Ro, Nn, s4] at hr hn
  unfold net
  rw [List.filter_append]
  congr 1
  · rw [List.filter_filter]
    apply List.filter_congr
    intro v _
    rw [Bool.eq_iff_iff, Bool.and_eq_true, decide_eq_true_eq, decide_eq_true_eq]; omega
  · unfold RR at h ⊢
    have m1 : ∀ {L1 L2 : List Int}, 999 ∉ L1 ++ L2 → 999 ∉ L1 ∧ 999 ∉ L2 := fun h => ⟨fun z => h (List.mem_append_left _ z), fun z => h (List.mem_append_right _ z)⟩
    obtain ⟨n1, n2⟩ := m1 h
    obtain ⟨n2, n3⟩ := m1 n2
    obtain ⟨n3, n4⟩ := m1 n3
    have go : ∀ {t p q r : Int}, Las t p q r → 999 ∉ BB b t (VV b 63 t p q r) → BB c t (VV c 63 t p q r) = (BB b t (VV b 63 t p q r)).filter fun v => decide (v ≤ c) := fun {t p q r} hl hm => by
      by_cases htb : t ≤ b
      · exact BB_cut hc (fun ht => VV_cut hc hb hl (BB_mem htb hm)) fun _ => VV_ge hb hl (by omega)
      · unfold BB; rw [if_neg htb, if_neg (by omega)]; rfl
    simp only [List.filter_append]
    simp only at n1 n2 n3 n4
    rw [go (by unfold Las; omega) n1, go (by unfold Las; omega) n2, go (by unfold Las; omega) n3, go (by unfold Las; omega) n4]

/-! ### the net as both texts walk it -/
abbrev Stt := Q4 × Nat
def kid (b : Int) (s : Stt) (p : Nat) : List Stt := if p ≠ s.2 ∧ fif s.1 p ≤ b then [(swp s.1 p, p)] else []
def kids (b : Int) (s : Stt) : List Stt := kid b s 0 ++ (kid b s 1 ++ (kid b s 2 ++ kid b s 3))
def bd (s : Stt) : Int := g4 s.1 s.2
def UU (b : Int) : Nat → Stt → List Int
  | 0, _ => [999]
  | n + 1, s => (kids b s).flatMap fun k => bd k :: UU b n k
theorem bd_swp (q : Q4) {p : Nat} (h : p < 4) : bd (swp q p, p) = fif q p := by
  rcases lt4 h with rfl | rfl | rfl | rfl <;> rfl
theorem kid_flat {b : Int} {q : Q4} {l p n : Nat} (h : p < 4) (hl : p ≠ l) : (kid b (q, l) p).flatMap (fun k => bd k :: UU b n k) = BB b (fif q p) (UU b n (swp q p, p)) := by
  unfold kid BB
  by_cases hb : fif q p ≤ b
  · rw [if_pos ⟨hl, hb⟩, if_pos hb]; simp [bd_swp q h]
  · rw [if_neg (fun z => hb z.2), if_neg hb]; rfl
theorem kid_self {b : Int} {q : Q4} {p : Nat} : kid b (q, p) p = [] := by unfold kid; rw [if_neg (fun z => z.1 rfl)]
theorem UU_VV {b : Int} : ∀ (n : Nat) (x y z w v : Int), (UU b n ((x, y, z, w), 0)).count v = (VV b n x y z w).count v ∧ (UU b n ((x, y, z, w), 1)).count v = (VV b n y x z w).count v ∧
    (UU b n ((x, y, z, w), 2)).count v = (VV b n z x y w).count v ∧ (UU b n ((x, y, z, w), 3)).count v = (VV b n w x y z).count v
  | 0, _, _, _, _, _ => ⟨rfl, rfl, rfl, rfl⟩
  | n + 1, x, y, z, w, v => by
    have i0 := fun x y z w v => (UU_VV (b := b) n x y z w v).1
    have i1 := fun x y z w v => (UU_VV (b := b) n x y z w v).2.1
    have i2 := fun x y z w v => (UU_VV (b := b) n x y z w v).2.2.1
    have i3 := fun x y z w v => (UU_VV (b := b) n x y z w v).2.2.2
    have e0 : fif (x, y, z, w) 0 = 2*(y+z+w)-x := by simp only [fif, s4, g4]; omega
    have e1 : fif (x, y, z, w) 1 = 2*(x+z+w)-y := by simp only [fif, s4, g4]; omega
    have e2 : fif (x, y, z, w) 2 = 2*(x+y+w)-z := by simp only [fif, s4, g4]; omega
    have e3 : fif (x, y, z, w) 3 = 2*(x+y+z)-w := by simp only [fif, s4, g4]; omega
    have k0 : swp (x, y, z, w) 0 = (2*(y+z+w)-x, y, z, w) := by simp only [swp, e0]
    have k1 : swp (x, y, z, w) 1 = (x, 2*(x+z+w)-y, z, w) := by simp only [swp, e1]
    have k2 : swp (x, y, z, w) 2 = (x, y, 2*(x+y+w)-z, w) := by simp only [swp, e2]
    have k3 : swp (x, y, z, w) 3 = (x, y, z, 2*(x+y+z)-w) := by simp only [swp, e3]
    unfold UU kids
    simp only [List.flatMap_append, List.count_append]
    refine ⟨?_, ?_, ?_, ?_⟩
    · rw [kid_self, kid_flat (by decide) (by decide), kid_flat (by decide) (by decide), kid_flat (by decide) (by decide), e1, e2, e3, k1, k2, k3]
      have h1 := BB_count (b := b) (y1 := 2*(x+z+w)-y) rfl (i1 x (2*(x+z+w)-y) z w) v
      have h2 := BB_count (b := b) (y1 := 2*(x+y+w)-z) rfl (i2 x y (2*(x+y+w)-z) w) v
      have h3 := BB_count (b := b) (y1 := 2*(x+y+z)-w) rfl (i3 x y z (2*(x+y+z)-w)) v
      unfold VV
      simp only [List.count_append, List.flatMap_nil, List.count_nil]
      omega
    · rw [kid_self, kid_flat (by decide) (by decide), kid_flat (by decide) (by decide), kid_flat (by decide) (by decide), e0, e2, e3, k0, k2, k3]
      have q2 : 2*(y+x+w)-z = 2*(x+y+w)-z := by omega
      have q3 : 2*(y+x+z)-w = 2*(x+y+z)-w := by omega
      have h1 := BB_count (b := b) (y1 := 2*(y+z+w)-x) rfl (i0 (2*(y+z+w)-x) y z w) v
      have h2 := BB_count (b := b) (y1 := 2*(x+y+w)-z) (y2 := 2*(y+x+w)-z) q2.symm (L2 := VV b n (2*(y+x+w)-z) y x w) (fun v => (i2 x y (2*(x+y+w)-z) w v).trans (by rw [q2]; exact s23 ..)) v
      have h3 := BB_count (b := b) (y1 := 2*(x+y+z)-w) (y2 := 2*(y+x+z)-w) q3.symm (L2 := VV b n (2*(y+x+z)-w) y x z) (fun v => (i3 x y z (2*(x+y+z)-w) v).trans (by rw [q3]; exact s23 ..)) v
      unfold VV
      simp only [List.count_append, List.flatMap_nil, List.count_nil]
      omega
    · rw [kid_self, kid_flat (by decide) (by decide), kid_flat (by decide) (by decide), kid_flat (by decide) (by decide), e0, e1, e3, k0, k1, k3]
      have q1 : 2*(z+y+w)-x = 2*(y+z+w)-x := by omega
      have q2 : 2*(z+x+w)-y = 2*(x+z+w)-y := by omega
      have q3 : 2*(z+x+y)-w = 2*(x+y+z)-w := by omega
      have h1 := BB_count (b := b) (y1 := 2*(y+z+w)-x) (y2 := 2*(z+y+w)-x) q1.symm (L2 := VV b n (2*(z+y+w)-x) z y w) (fun v => (i0 (2*(y+z+w)-x) y z w v).trans (by rw [q1]; exact s23 ..)) v
      have h2 := BB_count (b := b) (y1 := 2*(x+z+w)-y) (y2 := 2*(z+x+w)-y) q2.symm (L2 := VV b n (2*(z+x+w)-y) z x w) (fun v => (i1 x (2*(x+z+w)-y) z w v).trans (by rw [q2]; exact s23 ..)) v
      have h3 := BB_count (b := b) (y1 := 2*(x+y+z)-w) (y2 := 2*(z+x+y)-w) q3.symm (L2 := VV b n (2*(z+x+y)-w) z x y) (fun v => (i3 x y z (2*(x+y+z)-w) v).trans (by rw [q3]; exact (s34 ..).trans (s23 ..))) v
      unfold VV
      simp only [List.count_append, List.flatMap_nil, List.count_nil]
      omega
    · rw [kid_self, kid_flat (by decide) (by decide), kid_flat (by decide) (by decide), kid_flat (by decide) (by decide), e0, e1, e2, k0, k1, k2]
      have q1 : 2*(w+y+z)-x = 2*(y+z+w)-x := by omega
      have q2 : 2*(w+x+z)-y = 2*(x+z+w)-y := by omega
      have q3 : 2*(w+x+y)-z = 2*(x+y+w)-z := by omega
      have h1 := BB_count (b := b) (y1 := 2*(y+z+w)-x) (y2 := 2*(w+y+z)-x) q1.symm (L2 := VV b n (2*(w+y+z)-x) w y z) (fun v => (i0 (2*(y+z+w)-x) y z w v).trans (by rw [q1]; exact (s34 ..).trans (s23 ..))) v
      have h2 := BB_count (b := b) (y1 := 2*(x+z+w)-y) (y2 := 2*(w+x+z)-y) q2.symm (L2 := VV b n (2*(w+x+z)-y) w x z) (fun v => (i1 x (2*(x+z+w)-y) z w v).trans (by rw [q2]; exact (s34 ..).trans (s23 ..))) v
      have h3 := BB_count (b := b) (y1 := 2*(x+y+w)-z) (y2 := 2*(w+x+y)-z) q3.symm (L2 := VV b n (2*(w+x+y)-z) w x y) (fun v => (i2 x y (2*(x+y+w)-z) w v).trans (by rw [q3]; exact (s34 ..).trans (s23 ..))) v
      unfold VV
      simp only [List.count_append, List.flatMap_nil, List.count_nil]
      omega
theorem UU_RR {b : Int} (q : Q4) (v : Int) : (UU b 64 (q, 9)).count v = (RR b 63 q).count v := by
  obtain ⟨x, y, z, w⟩ := q
  have e0 : fif (x, y, z, w) 0 = 2*(y+z+w)-x := by simp only [fif, s4, g4]; omega
  have e1 : fif (x, y, z, w) 1 = 2*(x+z+w)-y := by simp only [fif, s4, g4]; omega
  have e2 : fif (x, y, z, w) 2 = 2*(x+y+w)-z := by simp only [fif, s4, g4]; omega
  have e3 : fif (x, y, z, w) 3 = 2*(x+y+z)-w := by simp only [fif, s4, g4]; omega
  have k0 : swp (x, y, z, w) 0 = (2*(y+z+w)-x, y, z, w) := by simp only [swp, e0]
  have k1 : swp (x, y, z, w) 1 = (x, 2*(x+z+w)-y, z, w) := by simp only [swp, e1]
  have k2 : swp (x, y, z, w) 2 = (x, y, 2*(x+y+w)-z, w) := by simp only [swp, e2]
  have k3 : swp (x, y, z, w) 3 = (x, y, z, 2*(x+y+z)-w) := by simp only [swp, e3]
  have h0 := BB_count (b := b) (y1 := 2*(y+z+w)-x) rfl (fun v => (UU_VV (b := b) 63 (2*(y+z+w)-x) y z w v).1) v
  have h1 := BB_count (b := b) (y1 := 2*(x+z+w)-y) rfl (fun v => (UU_VV (b := b) 63 x (2*(x+z+w)-y) z w v).2.1) v
  have h2 := BB_count (b := b) (y1 := 2*(x+y+w)-z) rfl (fun v => (UU_VV (b := b) 63 x y (2*(x+y+w)-z) w v).2.2.1) v
  have h3 := BB_count (b := b) (y1 := 2*(x+y+z)-w) rfl (fun v => (UU_VV (b := b) 63 x y z (2*(x+y+z)-w) v).2.2.2) v
  show ((kids b ((x, y, z, w), 9)).flatMap fun k => bd k :: UU b 63 k).count v = _
  unfold kids
  simp only [List.flatMap_append, List.count_append]
  rw [kid_flat (by decide) (by decide), kid_flat (by decide) (by decide), kid_flat (by decide) (by decide), kid_flat (by decide) (by decide), e0, e1, e2, e3, k0, k1, k2, k3]
  simp only [RR, List.count_append]
  omega
/-! ### a walk that ends -/
theorem flatMap_eq {α β : Type} {l : List α} {f g : α → List β} (h : ∀ x ∈ l, f x = g x) : l.flatMap f = l.flatMap g := by
  induction l with
  | nil => rfl
  | cons x r ih => rw [List.flatMap_cons, List.flatMap_cons, h x List.mem_cons_self, ih fun y hy => h y (List.mem_cons_of_mem _ hy)]
theorem UU_fix {b : Int} : ∀ {n : Nat} {s : Stt}, 999 ∉ UU b n s → UU b (n + 1) s = UU b n s
  | 0, s, h => absurd (List.mem_singleton.mpr rfl) h
  | n + 1, s, h => by
    show ((kids b s).flatMap fun k => bd k :: UU b (n + 1) k) = (kids b s).flatMap fun k => bd k :: UU b n k
    refine flatMap_eq fun k hk => ?_
    rw [UU_fix fun z => h (List.mem_flatMap.mpr ⟨k, hk, List.mem_cons_of_mem _ z⟩)]
def Cl (b : Int) (s : Stt) : Prop := 999 ∉ UU b 64 s
theorem Cl.eq {b : Int} {s : Stt} (h : Cl b s) : UU b 64 s = (kids b s).flatMap fun k => bd k :: UU b 64 k := (UU_fix h).symm
theorem Cl.kid {b : Int} {s k : Stt} (h : Cl b s) (hk : k ∈ kids b s) : Cl b k := fun z => h (by rw [h.eq]; exact List.mem_flatMap.mpr ⟨k, hk, List.mem_cons_of_mem _ z⟩)
theorem cons_flat {α : Type} (f : α → Int) (g : α → List Int) (v : Int) : ∀ l : List α, (l.flatMap fun k => f k :: g k).count v = (l.map f).count v + (l.flatMap g).count v
  | [] => rfl
  | x :: r => by
    have := cons_flat f g v r
    simp only [List.flatMap_cons, List.map_cons, List.count_cons, List.count_append]
    omega
theorem cons_flat_len {α : Type} (f : α → Int) (g : α → List Int) : ∀ l : List α, (l.flatMap fun k => f k :: g k).length = l.length + (l.flatMap g).length
  | [] => rfl
  | x :: r => by
    have := cons_flat_len f g r
    simp only [List.flatMap_cons, List.length_cons, List.length_append]
    omega
/-- what is still to be found -/
def rest (b : Int) (L : List Stt) : List Int := L.flatMap (UU b 64)
theorem rest_kids {b : Int} {L : List Stt} (h : ∀ s ∈ L, Cl b s) (v : Int) : ((L.flatMap (kids b)).map bd).count v + (rest b (L.flatMap (kids b))).count v = (rest b L).count v := by
  have e : rest b L = (L.flatMap (kids b)).flatMap fun k => bd k :: UU b 64 k := by
    unfold rest
    rw [List.flatMap_assoc]
    exact flatMap_eq fun s hs => (h s hs).eq
  rw [e, cons_flat]; rfl
theorem rest_len {b : Int} {L : List Stt} (h : ∀ s ∈ L, Cl b s) : (L.flatMap (kids b)).length + (rest b (L.flatMap (kids b))).length = (rest b L).length := by
  have e : rest b L = (L.flatMap (kids b)).flatMap fun k => bd k :: UU b 64 k := by
    unfold rest
    rw [List.flatMap_assoc]
    exact flatMap_eq fun s hs => (h s hs).eq
  rw [e, cons_flat_len]; rfl
theorem rest_app {b : Int} (L M : List Stt) : rest b (L ++ M) = rest b L ++ rest b M := by unfold rest; rw [List.flatMap_append]
theorem cl_kids {b : Int} {L : List Stt} (h : ∀ s ∈ L, Cl b s) : ∀ k ∈ L.flatMap (kids b), Cl b k := fun k hk => by
  obtain ⟨s, hs, hk⟩ := List.mem_flatMap.mp hk
  exact (h s hs).kid hk
/-! ### the nets of the law -/
def rows8 : List Q4 := [(-1, 2, 2, 3), (-2, 3, 6, 7), (-3, 4, 12, 13), (-3, 5, 8, 8), (-4, 5, 20, 21), (-4, 8, 9, 9), (-6, 10, 15, 19), (-2, 4, 4, 6)]
theorem rows8_ok : ∀ q ∈ rows8, 999 ∉ RR 60 63 q ∧ (net 60 q).length ≤ 1000 ∧ ((net 60 q).all fun v => v == q.1 || (decide (0 ≤ v) && decide (v ≤ 60))) = true := by decide +kernel

/-! ### the way down -/
theorem Des.nn {q : Q4} (h : Des q) : Nn q := by
  obtain ⟨a, b, c, d⟩ := q
  obtain ⟨e, ps⟩ := h
  simp only [s4] at e ps
  have h1 := pair_nn (a := a) (b := b) (c := c) (d := d) e ps
  have h2 := pair_nn (a := a) (b := c) (c := b) (d := d) (by grind) (by omega)
  have h3 := pair_nn (a := a) (b := d) (c := b) (d := c) (by grind) (by omega)
  have h4 := pair_nn (a := b) (b := c) (c := a) (d := d) (by grind) (by omega)
  have h5 := pair_nn (a := b) (b := d) (c := a) (d := c) (by grind) (by omega)
  have h6 := pair_nn (a := c) (b := d) (c := a) (d := b) (by grind) (by omega)
  exact ⟨h1, h2, h3, h4, h5, h6⟩
theorem Nn.one {q : Q4} (h : Nn q) {p r : Nat} (hp : p < 4) (hr : r < 4) (h1 : s4 q < 2 * g4 q p) (h2 : s4 q < 2 * g4 q r) : p = r := by
  obtain ⟨a, b, c, d⟩ := q
  simp only [Nn] at h
  rcases lt4 hp with rfl | rfl | rfl | rfl <;> rcases lt4 hr with rfl | rfl | rfl | rfl <;> simp only [s4, g4] at h1 h2 <;> first | rfl | (exfalso; omega)
theorem swp_swp (q : Q4) {p : Nat} (hp : p < 4) : swp (swp q p) p = q := by
  obtain ⟨a, b, c, d⟩ := q
  rcases lt4 hp with rfl | rfl | rfl | rfl <;> simp only [swp, fif, s4, g4, Prod.mk.injEq, true_and, and_true] <;> omega
theorem swp_same (q : Q4) {p : Nat} (hp : p < 4) (h : s4 q = 2 * g4 q p) : swp q p = q := by
  obtain ⟨a, b, c, d⟩ := q
  rcases lt4 hp with rfl | rfl | rfl | rfl <;> simp only [s4, g4] at h <;> simp only [swp, fif, s4, g4, Prod.mk.injEq, true_and, and_true] <;> omega
theorem swp_up (q : Q4) {p : Nat} (hp : p < 4) (h : 2 * g4 q p < s4 q) : s4 (swp q p) < 2 * g4 (swp q p) p := by
  obtain ⟨a, b, c, d⟩ := q
  rcases lt4 hp with rfl | rfl | rfl | rfl <;> simp only [s4, g4] at h <;> simp only [swp, fif, s4, g4] <;> omega
theorem Ro.not {q : Q4} (h : Ro q) {p : Nat} (hp : p < 4) : ¬ s4 q < 2 * g4 q p := by
  obtain ⟨h1, h2, h3, h4⟩ := h
  rcases lt4 hp with rfl | rfl | rfl | rfl <;> simp only [g4] <;> omega
theorem ro_or (q : Q4) : Ro q ∨ ∃ p, p < 4 ∧ s4 q < 2 * g4 q p := by
  by_cases h0 : s4 q < 2 * g4 q 0
  · exact .inr ⟨0, by decide, h0⟩
  by_cases h1 : s4 q < 2 * g4 q 1
  · exact .inr ⟨1, by decide, h1⟩
  by_cases h2 : s4 q < 2 * g4 q 2
  · exact .inr ⟨2, by decide, h2⟩
  by_cases h3 : s4 q < 2 * g4 q 3
  · exact .inr ⟨3, by decide, h3⟩
  simp only [g4] at h0 h1 h2 h3
  exact .inl ⟨by omega, by omega, by omega, by omega⟩
inductive Dn : Nat → Q4 → Q4 → Prop
  | root {q : Q4} (h : Ro q) : Dn 0 q q
  | step {n p : Nat} {q r : Q4} (hp : p < 4) (h : s4 q < 2 * g4 q p) (t : Dn n (swp q p) r) : Dn (n + 1) q r
theorem Dn.ro {n : Nat} {q r : Q4} (h : Dn n q r) : Ro r := by
  induction h with
  | root h => exact h
  | step _ _ _ ih => exact ih
/-- an exchange leads to the same first four, one step further at most -/
theorem Dn.swp {n : Nat} {q r : Q4} (hd : Des q) (h : Dn n q r) {p : Nat} (hp : p < 4) : ∃ m, m ≤ n + 1 ∧ Dn m (swp q p) r := by
  by_cases h1 : s4 q < 2 * g4 q p
  · cases h with
    | root h => exact absurd h1 (h.not hp)
    | step hp2 h2 t =>
      have := hd.nn.one hp hp2 h1 h2
      subst this
      exact ⟨_, by omega, t⟩
  · by_cases h2 : s4 q = 2 * g4 q p
    · rw [swp_same q hp h2]; exact ⟨n, by omega, h⟩
    · exact ⟨n + 1, Nat.le_refl _, .step hp (swp_up q hp (by omega)) (by rw [swp_swp q hp]; exact h)⟩
/-! ### in another order -/
theorem li_get (q : Q4) {p : Nat} (hp : p < 4) : (li q).Perm (g4 q p :: oth q p) := by
  obtain ⟨a, b, c, d⟩ := q
  rcases lt4 hp with rfl | rfl | rfl | rfl <;> simp only [li, g4, oth]
  · exact .refl _
  · exact .swap ..
  · exact ((List.Perm.swap ..).cons a).trans (.swap ..)
  · exact (((List.Perm.swap ..).cons b).cons a).trans (((List.Perm.swap ..).cons a).trans (.swap ..))
theorem li_swp (q : Q4) {p : Nat} (hp : p < 4) : (li (swp q p)).Perm (fif q p :: oth q p) := by
  have h := li_get (swp q p) hp
  have e1 : oth (swp q p) p = oth q p := by rcases lt4 hp with rfl | rfl | rfl | rfl <;> rfl
  have e2 : g4 (swp q p) p = fif q p := by rcases lt4 hp with rfl | rfl | rfl | rfl <;> rfl
  rw [e1, e2] at h
  exact h
theorem fif_oth (q : Q4) {p : Nat} (hp : p < 4) : fif q p = 2 * (oth q p).sum - g4 q p := by
  obtain ⟨a, b, c, d⟩ := q
  rcases lt4 hp with rfl | rfl | rfl | rfl <;> simp only [fif, s4, g4, oth, List.sum_cons, List.sum_nil] <;> omega
theorem s4_li (q : Q4) : s4 q = (li q).sum := by simp only [li, s4, List.sum_cons, List.sum_nil]; omega
theorem g4_mem (q : Q4) {p : Nat} (hp : p < 4) : g4 q p ∈ li q := by rcases lt4 hp with rfl | rfl | rfl | rfl <;> simp [li, g4]
theorem mem_g4 {q : Q4} {x : Int} (h : x ∈ li q) : ∃ p, p < 4 ∧ g4 q p = x := by
  simp only [li, List.mem_cons, List.mem_nil_iff, or_false] at h
  rcases h with h | h | h | h
  · exact ⟨0, by decide, h.symm⟩
  · exact ⟨1, by decide, h.symm⟩
  · exact ⟨2, by decide, h.symm⟩
  · exact ⟨3, by decide, h.symm⟩
theorem ro_li {q : Q4} : Ro q ↔ ∀ x ∈ li q, 2 * x ≤ (li q).sum := by
  rw [← s4_li]
  constructor
  · rintro ⟨h1, h2, h3, h4⟩ x hx
    simp only [li, List.mem_cons, List.mem_nil_iff, or_false] at hx
    rcases hx with rfl | rfl | rfl | rfl <;> assumption
  · intro h
    exact ⟨h _ (by simp [li]), h _ (by simp [li]), h _ (by simp [li]), h _ (by simp [li])⟩
theorem Ro.pm {q r : Q4} (h : Ro q) (hp : (li r).Perm (li q)) : Ro r := by
  rw [ro_li] at h ⊢
  intro x hx
  rw [sum_perm hp]
  exact h x (hp.mem_iff.mp hx)
theorem Dn.pm {n : Nat} {q r : Q4} (h : Dn n q r) : ∀ {q' : Q4}, (li q').Perm (li q) → ∃ r', (li r').Perm (li r) ∧ Dn n q' r' := by
  induction h with
  | root h => intro q' hp; exact ⟨q', hp, .root (h.pm hp)⟩
  | step hp h t ih =>
    rename_i n p q r
    intro q' hq
    obtain ⟨p', hp', e⟩ := mem_g4 (hq.mem_iff.mpr (g4_mem q hp))
    have ho : (oth q' p').Perm (oth q p) := by
      have := (li_get q' hp').symm.trans (hq.trans (li_get q hp))
      rw [e] at this
      exact this.cons_inv
    have hs : s4 q' = s4 q := by rw [s4_li, s4_li, sum_perm hq]
    have hf : fif q' p' = fif q p := by rw [fif_oth q' hp', fif_oth q hp, sum_perm ho, e]
    have hw : (li (K38.swp q' p')).Perm (li (K38.swp q p)) := ((li_swp q' hp').trans (by rw [hf]; exact ho.cons _)).trans (li_swp q hp).symm
    obtain ⟨r', h1, h2⟩ := ih hw
    exact ⟨r', h1, .step hp' (by rw [hs, e]; exact h) h2⟩
theorem Des.pm {q r : Q4} (h : Des q) (hp : (li r).Perm (li q)) : Des r := by
  have h1 := sum_perm hp
  have h2 := sum_perm (hp.map fun x => x * x)
  obtain ⟨a, b, c, d⟩ := q
  obtain ⟨x, y, z, w⟩ := r
  simp only [li, List.sum_cons, List.sum_nil, List.map_cons, List.map_nil] at h1 h2
  have e := h.eq
  have ps := h.pos
  simp only [s4] at e ps
  have h3 : x + y + z + w = a + b + c + d := by omega
  refine ⟨?_, ?_⟩ <;> simp only [s4]
  · rw [h3, e]; omega
  · omega
/-! ### the first fours of the law -/
def Fst8 (q : Q4) : Prop := ∃ r ∈ rows8, (li q).Perm (li r)
theorem Fst8.pm {q r : Q4} (h : Fst8 q) (hp : (li r).Perm (li q)) : Fst8 r := let ⟨x, h1, h2⟩ := h; ⟨x, h1, hp.trans h2⟩
theorem rows8_p : ∀ q ∈ rows8, Ro q ∧ Nn q ∧ Des q ∧ q.1 < 0 := by
  intro q hq
  simp only [rows8, List.mem_cons, List.mem_nil_iff, or_false] at hq
  rcases hq with rfl | rfl | rfl | rfl | rfl | rfl | rfl | rfl <;> exact ⟨by unfold Ro; decide, by unfold Nn; decide, ⟨by decide, by decide⟩, by decide⟩
theorem net_le {b : Int} {q : Q4} (hb : b ≤ 60) (h : Fst8 q) : ∃ r ∈ rows8, (net b q).Perm ((net 60 r).filter fun v => decide (v ≤ b)) := by
  obtain ⟨r, hr, hp⟩ := h
  obtain ⟨h1, h2, _, _⟩ := rows8_p r hr
  refine ⟨r, hr, ?_⟩
  rw [← net_cut hb (by decide) h1 h2 (rows8_ok r hr).1]
  exact net_pm hp
theorem net_facts {b : Int} {q : Q4} (hb : b ≤ 60) (h : Fst8 q) : (∀ v ∈ net b q, v ≤ b) ∧ (net b q).length ≤ 1000 ∧ ∃ m, ∀ v ∈ net b q, v = m ∨ (0 ≤ v ∧ v ≤ 60) := by
  obtain ⟨r, hr, hp⟩ := net_le hb h
  obtain ⟨_, h2, h3⟩ := rows8_ok r hr
  refine ⟨fun v hv => ?_, ?_, r.1, fun v hv => ?_⟩
  · exact of_decide_eq_true (List.mem_filter.mp (hp.mem_iff.mp hv)).2
  · rw [hp.length_eq]
    exact Nat.le_trans (List.length_filter_le ..) h2
  · have := List.all_eq_true.mp h3 v (List.mem_filter.mp (hp.mem_iff.mp hv)).1
    simpa only [Bool.or_eq_true, beq_iff_eq, Bool.and_eq_true, decide_eq_true_eq] using this
theorem net_at {b c : Int} {q : Q4} (hc : c ≤ b) (hb : b ≤ 60) (h : Fst8 q) {v : Int} (hv : v ≤ c) : (net c q).count v = (net b q).count v := by
  obtain ⟨r, hr, hp⟩ := h
  obtain ⟨h1, h2, _, _⟩ := rows8_p r hr
  have h3 := (rows8_ok r hr).1
  rw [(net_pm hp).count_eq, (net_pm hp).count_eq, net_cut (Int.le_trans hc hb) (by decide) h1 h2 h3, net_cut hb (by decide) h1 h2 h3, List.count_filter (by exact decide_eq_true hv), List.count_filter (by exact decide_eq_true (Int.le_trans hv hc))]
theorem cl_first {b : Int} {q : Q4} (hb : b ≤ 60) (h : Fst8 q) : Cl b (q, 9) := by
  intro z
  have h1 : 0 < (UU b 64 (q, 9)).count 999 := List.count_pos_iff.mpr z
  rw [UU_RR] at h1
  have h2 : 999 ∈ net b q := List.mem_append_right _ (List.count_pos_iff.mp h1)
  have := (net_facts hb h).1 _ h2
  omega
theorem start_count {b : Int} {q : Q4} (v : Int) : ((li q).filter fun y => decide (y ≤ b)).count v + (rest b [(q, 9)]).count v = (net b q).count v := by
  unfold net rest
  rw [List.count_append, List.flatMap_cons, List.flatMap_nil, List.append_nil, UU_RR]
/-! ### twice as great -/
def dbl (L : List Int) : List Int := L.map fun x => 2 * x
theorem BB_dbl {b y y2 : Int} {L L2 : List Int} (e : y2 = 2 * y) (h : y ≤ b → L2 = dbl L) : BB (2 * b) y2 L2 = dbl (BB b y L) := by
  subst e; unfold BB
  by_cases hy : y ≤ b
  · rw [if_pos hy, if_pos (by omega), h hy]; rfl
  · rw [if_neg hy, if_neg (by omega)]; rfl
theorem VV_dbl {b : Int} : ∀ {n : Nat} {x y z w : Int}, 999 ∉ VV b n x y z w → VV (2 * b) n (2 * x) (2 * y) (2 * z) (2 * w) = dbl (VV b n x y z w)
  | 0, _, _, _, _, h => absurd (List.mem_singleton.mpr rfl) h
  | n + 1, x, y, z, w, h => by
    unfold VV at h ⊢
    have m1 : ∀ {L1 L2 : List Int}, 999 ∉ L1 ++ L2 → 999 ∉ L1 ∧ 999 ∉ L2 := fun h => ⟨fun z => h (List.mem_append_left _ z), fun z => h (List.mem_append_right _ z)⟩
    obtain ⟨n1, n2⟩ := m1 h
    obtain ⟨n2, n3⟩ := m1 n2
    have a1 : ∀ {L1 L2 : List Int}, dbl (L1 ++ L2) = dbl L1 ++ dbl L2 := List.map_append
    have e1 : 2*(2*x+2*z+2*w)-2*y = 2 * (2*(x+z+w)-y) := by omega
    have e2 : 2*(2*x+2*y+2*w)-2*z = 2 * (2*(x+y+w)-z) := by omega
    have e3 : 2*(2*x+2*y+2*z)-2*w = 2 * (2*(x+y+z)-w) := by omega
    rw [e1, e2, e3, a1, a1, BB_dbl rfl fun t => VV_dbl (BB_mem t n1), BB_dbl rfl fun t => VV_dbl (BB_mem t n2), BB_dbl rfl fun t => VV_dbl (BB_mem t n3)]
theorem net_dbl {b : Int} {q : Q4} (h : 999 ∉ RR b 63 q) : net (2 * b) (2 * q.1, 2 * q.2.1, 2 * q.2.2.1, 2 * q.2.2.2) = dbl (net b q) := by
  obtain ⟨x, y, z, w⟩ := q
  have a1 : ∀ {L1 L2 : List Int}, dbl (L1 ++ L2) = dbl L1 ++ dbl L2 := List.map_append
  unfold net
  rw [a1]
  congr 1
  · show (dbl [x, y, z, w]).filter _ = _
    unfold dbl
    rw [List.filter_map]
    congr 1
    apply List.filter_congr
    intro v _
    show decide (2 * v ≤ 2 * b) = decide (v ≤ b)
    exact decide_eq_decide.mpr (by omega)
  · unfold RR at h ⊢
    have m1 : ∀ {L1 L2 : List Int}, 999 ∉ L1 ++ L2 → 999 ∉ L1 ∧ 999 ∉ L2 := fun h => ⟨fun z => h (List.mem_append_left _ z), fun z => h (List.mem_append_right _ z)⟩
    obtain ⟨n1, n2⟩ := m1 h
    obtain ⟨n2, n3⟩ := m1 n2
    obtain ⟨n3, n4⟩ := m1 n3
    simp only at n1 n2 n3 n4 ⊢
    have e0 : 2*(2*y+2*z+2*w)-2*x = 2 * (2*(y+z+w)-x) := by omega
    have e1 : 2*(2*x+2*z+2*w)-2*y = 2 * (2*(x+z+w)-y) := by omega
    have e2 : 2*(2*x+2*y+2*w)-2*z = 2 * (2*(x+y+w)-z) := by omega
    have e3 : 2*(2*x+2*y+2*z)-2*w = 2 * (2*(x+y+z)-w) := by omega
    rw [e0, e1, e2, e3, a1, a1, a1, BB_dbl rfl fun t => VV_dbl (BB_mem t n1), BB_dbl rfl fun t => VV_dbl (BB_mem t n2), BB_dbl rfl fun t => VV_dbl (BB_mem t n3), BB_dbl rfl fun t => VV_dbl (BB_mem t n4)]

/-! ### the walk down -/
/-- a name that no list is kept in -/
def op : Option D → Sl
  | none => .no
  | some d => .pd d
theorem rng4 : rngD 0 4 = [PyData.int ((0 : Nat) : Int), .int ((1 : Nat) : Int), .int ((2 : Nat) : Int), .int ((3 : Nat) : Int)] := rfl
theorem forGo_cons {asg : D → En → Option En} {body : En → So} {x : D} {xs : List D} {env e1 e2 : En} {r : So} (h1 : asg x env = some e1) (h2 : body e1 = .nx e2) (h3 : forGo asg body xs e2 = r) : forGo asg body (x :: xs) env = r := by
  unfold forGo; rw [h1]; dsimp only; rw [h2]; exact h3
theorem g4_swp (q : Q4) {p : Nat} (hp : p < 4) : g4 (swp q p) p = fif q p := by rcases lt4 hp with rfl | rfl | rfl | rfl <;> rfl
theorem fif_lt (q : Q4) {p : Nat} : fif q p < g4 q p ↔ s4 q < 2 * g4 q p := by unfold fif; omega
def lowL (q : Q4) : List Nat := (List.range 4).filter fun k => decide (s4 q < 2 * g4 q k)
def low (q : Q4) : D := match lowL q with
  | [] => .none
  | p :: _ => .int (p : Int)
theorem low_ro {q : Q4} (h : Ro q) : low q = .none := by
  have : lowL q = [] := by
    unfold lowL
    rw [List.filter_eq_nil_iff]
    intro p hp
    rw [decide_eq_true_eq]
    exact h.not (List.mem_range.mp hp)
  unfold low; rw [this]
theorem low_at {q : Q4} (hn : Nn q) {p : Nat} (hp : p < 4) (h : s4 q < 2 * g4 q p) : low q = .int (p : Int) := by
  have hm : p ∈ lowL q := List.mem_filter.mpr ⟨List.mem_range.mpr hp, decide_eq_true h⟩
  have hx : ∀ r ∈ lowL q, r = p := fun r hr => by
    obtain ⟨h1, h2⟩ := List.mem_filter.mp hr
    exact hn.one (List.mem_range.mp h1) hp (of_decide_eq_true h2) h
  unfold low
  cases hl : lowL q with
  | nil => rw [hl] at hm; cases hm
  | cons r t => rw [hx r (by rw [hl]; exact List.mem_cons_self)]
theorem okI_int (i : Int) : okI (.int i) = true := rfl
theorem lower_in_ok (q : Q4) : sem8.f [t4 q] = Rs.ok (low q, []) := by
  have hz := PySem.sizeLine_eq
  have hc : cgo (asgT (.nm 2)) (condF (isNil (.cmp .lt (.call 6 (.cons (.var 0) (.cons (.var 2) .nil))) (.idx (.peek 0) (.var 2)))) (ev (mkG gl L8) (.cmp .lt (.call 6 (.cons (.var 0) (.cons (.var 2) .nil))) (.idx (.peek 0) (.var 2))))) (ev (mkG gl L8) (.var 2)) [2] ((List.range 4).map fun k : Nat => PyData.int (k : Int)) [Sl.pd (t4 q), .no, .no] [] =
      .ok ([] ++ (((List.range 4).map fun k : Nat => PyData.int (k : Int)).filter fun x => match x with | .int k => decide (s4 q < 2 * g4 q k.toNat) | _ => false).map id, [Sl.pd (t4 q), .no, .no]) := by
    refine cgo_map id _ _ _ fun x hx => ?_
    obtain ⟨p, hp, rfl⟩ := List.mem_map.mp hx
    have hp := List.mem_range.mp hp
    refine ⟨[Sl.pd (t4 q), .no, .pd (.int (p : Int))], .bool (decide (fif q p < g4 q p)), [Sl.pd (t4 q), .no, .pd (.int (p : Int))], rfl, Ev.ok (Ev.cmp rfl (Ev.call rfl (Ev.cons rfl (Ev.var rfl) (Ev.cons rfl (Ev.var rfl) Ev.nil)) rfl (fifth_in_ok q hp)) (Ev.idxP (Ev.var rfl) rfl rfl (idx_t4 q hp)) rfl), ?_, fun _ => rfl, fun _ => ⟨_, Ev.ok (Ev.var rfl), rfl⟩⟩
    show some (decide (fif q p < g4 q p)) = some (decide (s4 q < 2 * g4 q ((p : Int).toNat)))
    rw [Int.toNat_natCast]
    exact congrArg some (decide_eq_decide.mpr (fif_lt q))
  rw [List.nil_append, List.map_id, List.filter_map] at hc
  have e : ((List.range 4).filter ((fun x => match x with | .int k => decide (s4 q < 2 * g4 q k.toNat) | _ => false) ∘ fun k : Nat => PyData.int (k : Int))) = lowL q := by
    unfold lowL
    apply List.filter_congr
    intro p _
    show decide (s4 q < 2 * g4 q ((p : Int).toNat)) = _
    rw [Int.toNat_natCast]
  rw [e] at hc
  have hN : Cop.ne.f (.list ((lowL q).map fun k : Nat => PyData.int (k : Int))) (.list []) = some (.bool (!((lowL q).map fun k : Nat => PyData.int (k : Int)).isEmpty)) := ne_nil fun x hx => by
    obtain ⟨p, _, rfl⟩ := List.mem_map.mp hx
    rfl
  apply sem_rt (F := f_lower_in) (e1 := [Sl.pd (t4 q), .pd (.list ((lowL q).map fun k : Nat => PyData.int (k : Int))), .no])
  case hh => rfl
  case h =>
    show Evs _ _ b_lower_in [Sl.pd (t4 q), .no, .no] _
    unfold b_lower_in
    refine Evs.seq (Evs.set (d := .list ((lowL q).map fun k : Nat => PyData.int (k : Int))) (Ev.lc (Ev.rng1 Ev.ci (by decide)) rfl rfl hc rfl) rfl) (Evs.seqX (Evs.ret ?_ rfl) (fun _ z => nomatch z))
    unfold low
    cases hl : lowL q with
    | nil =>
      rw [hl] at hN
      exact Ev.iteF (x := .bool false) (Ev.cmpP (Ev.lst Ev.nil (Nat.zero_le _)) rfl rfl hN) rfl Ev.cn
    | cons p t =>
      rw [hl] at hN
      exact Ev.iteT (x := .bool true) (Ev.cmpP (Ev.lst Ev.nil (Nat.zero_le _)) rfl rfl hN) rfl (Ev.idxP Ev.ci rfl rfl (atI_nat' (l := (p :: t).map fun k : Nat => PyData.int (k : Int)) (r := 0) (Nat.zero_lt_succ _)))
theorem down_go {n : Nat} {q r : Q4} (h : Dn n q r) : ∀ (fuel : Nat) (f : List D), Des q → n < fuel → f.length + n < 1000 → ∃ f', whGo (ev (mkG gl L9) (.cmp .isnot (.peek 2) (.cn))) (evS (mkG gl L9) false (.seq (.set false 0 (.call 7 (.cons (.var 0) (.cons (.var 2) .nil)))) (.seq (.app 1 (.var 2)) (.seq (.set false 2 (.call 8 (.cons (.var 0) .nil))) .nil)))) fuel [Sl.pd (t4 q), .own f, .pd (low q)] = .nx [Sl.pd (t4 r), .own f', .pd .none] := by
  induction h with
  | root h =>
    intro fuel f hd hf _
    obtain ⟨k, rfl⟩ : ∃ k, fuel = k + 1 := ⟨fuel - 1, by omega⟩
    rw [low_ro h]
    exact ⟨f, whGo_F (x := .bool false) (Ev.ok (Ev.cmpP Ev.cn rfl rfl rfl)) rfl⟩
  | step hp h t ih =>
    rename_i n p q r
    intro fuel f hd hf hl
    have hz := PySem.sizeLine_eq
    obtain ⟨k, rfl⟩ : ∃ k, fuel = k + 1 := ⟨fuel - 1, by omega⟩
    obtain ⟨f', e⟩ := ih k (f ++ [.int (p : Int)]) (hd.swp hp) (by omega) (by rw [List.length_append]; show f.length + 1 + n < 1000; omega)
    refine ⟨f', ?_⟩
    rw [low_at hd.nn hp h]
    rw [whGo_T (x := .bool true) (Ev.ok (Ev.cmpP Ev.cn rfl rfl rfl)) rfl (.inl (Evs.ok (Evs.seq (Evs.set (Ev.call rfl (Ev.cons rfl (Ev.var rfl) (Ev.cons rfl (Ev.var rfl) Ev.nil)) rfl (swapped_ok q hp)) rfl) (Evs.seq (Evs.app (l := f) rfl (Ev.var rfl) rfl (by omega)) (Evs.seq (Evs.set (Ev.call rfl (Ev.cons rfl (Ev.var rfl) Ev.nil) rfl (lower_in_ok _)) rfl) Evs.nil)))))]
    exact e
theorem down_in_ok {n : Nat} {q r : Q4} (h : Dn n q r) (hd : Des q) (hn : n < 900) : ∃ f, sem9.f [t4 q] = Rs.ok (.tuple [.list f, t4 r], []) := by
  have hz := PySem.sizeLine_eq
  obtain ⟨f, e⟩ := down_go h 1000000 [] hd (by omega) (by show 0 + n < 1000; omega)
  refine ⟨f, ?_⟩
  apply sem_rt (F := f_down_in) (e1 := [Sl.pd (t4 r), .pd (.list f), .pd .none])
  case hh => rfl
  case h =>
    show Evs _ _ b_down_in [Sl.pd (t4 q), .no, .no] _
    unfold b_down_in
    exact Evs.seq (Evs.par2 (Ev.lst Ev.nil (Nat.zero_le _)) (Ev.call rfl (Ev.cons rfl (Ev.var rfl) Ev.nil) rfl (lower_in_ok q)) rfl rfl) (Evs.seq (Evs.while_ e) (Evs.seqX (Evs.ret (Ev.tup (Ev.cons rfl (Ev.varO rfl) (Ev.cons rfl (Ev.var rfl) Ev.nil)) (by show 2 ≤ _; omega)) rfl) (fun _ z => nomatch z)))
/-! ### the law's own way down -/

/-! ### sorted -/
def sI (l : List Int) : List Int := l.mergeSort fun a b => decide (a ≤ b)
theorem srt_ints (l : List Int) : srt (l.map PyData.int) = (sI l).map PyData.int := by
  unfold srt sI
  rw [List.map_mergeSort (s := PySem.W.dataLe false id)]
  intro a _ b _
  have := congrFun (congrFun (PySem.W.dataLe_int fun x : Int => x) a) b
  exact this.symm
theorem sI_perm (l : List Int) : (sI l).Perm l := List.mergeSort_perm ..
theorem sI_eq {l m : List Int} (h : ∀ v, l.count v = m.count v) : sI l = sI m := by
  have t : ∀ l : List Int, (sI l).Pairwise fun a b => decide (a ≤ b) = true := fun l => List.pairwise_mergeSort (fun a b c h1 h2 => by simp only [decide_eq_true_eq] at *; omega) (fun a b => by simp only [Bool.or_eq_true, decide_eq_true_eq]; omega) l
  exact List.Perm.eq_of_pairwise (le := fun a b => decide (a ≤ b) = true) (fun a b _ _ h1 h2 => by simp only [decide_eq_true_eq] at h1 h2; omega) (t l) (t m) ((sI_perm l).trans ((List.perm_iff_count.mpr h).trans (sI_perm m).symm))
theorem sorted_ints {l : List Int} (h : l.length ≤ 4000) : Bi.sorted.f [.list (l.map PyData.int)] = some (.list ((sI l).map PyData.int)) := by
  have hz := PySem.sizeLine_eq
  have hs : sortOk (l.map PyData.int) = true := by
    unfold sortOk
    simp only [Bool.and_eq_true, List.all_eq_true, Bool.or_eq_true, decide_eq_true_eq]
    refine ⟨⟨⟨fun d hd e he => ?_, .inr fun d hd => ?_⟩, by rw [List.length_map]; omega⟩, fun d hd => ?_⟩
    · obtain ⟨a, _, rfl⟩ := List.mem_map.mp hd
      obtain ⟨b, _, rfl⟩ := List.mem_map.mp he
      rfl
    · obtain ⟨a, _, rfl⟩ := List.mem_map.mp hd
      rfl
    · obtain ⟨a, _, rfl⟩ := List.mem_map.mp hd
      show 0 ≤ 60; decide
  show (if sortOk (l.map PyData.int) then some (PyData.list (srt (l.map PyData.int))) else none) = _
  rw [if_pos hs, srt_ints]
/-! ### the net by levels -/
def eB (s : Stt) : D := .tuple [t4 s.1, if s.2 < 4 then .int (s.2 : Int) else .none]
def eD (s : Stt) : D := .tuple [t4 s.1, .int (s.2 : Int)]
def iB (s : Stt) : D := .int (bd s)
theorem ne_last (p l : Nat) : Cop.ne.f (.int (p : Int)) (.int (l : Int)) = some (.bool (decide (p ≠ l))) := by
  show some (PyData.bool (!((p : Int) == (l : Int)))) = _
  congr 2
  by_cases h : p = l
  · subst h; simp
  · rw [decide_eq_true h, show ((p : Int) == (l : Int)) = false from beq_eq_false_iff_ne.mpr (by omega)]; rfl
theorem ne_lastB {p l : Nat} (hp : p < 4) (hl : l < 4 ∨ l = 9) : Cop.ne.f (.int (p : Int)) (if l < 4 then .int (l : Int) else .none) = some (.bool (decide (p ≠ l))) := by
  by_cases h : l < 4
  · rw [if_pos h]; exact ne_last p l
  · rw [if_neg h, decide_eq_true (by omega)]; rfl
theorem kid_le (b : Int) (s : Stt) (p : Nat) : (kid b s p).length ≤ 1 := by unfold kid; split <;> simp
theorem kids_le (b : Int) (s : Stt) : (kids b s).length ≤ 4 := by
  have h0 := kid_le b s 0; have h1 := kid_le b s 1; have h2 := kid_le b s 2; have h3 := kid_le b s 3
  unfold kids; simp only [List.length_append]; omega
theorem kids_lt {b : Int} {s k : Stt} (h : k ∈ kids b s) : k.2 < 4 := by
  have go : ∀ {p : Nat}, p < 4 → k ∈ kid b s p → k.2 < 4 := fun {p} hp hm => by
    unfold kid at hm
    split at hm
    · rw [List.mem_singleton.mp hm]; exact hp
    · cases hm
  unfold kids at h
  rcases List.mem_append.mp h with h | h
  · exact go (by decide) h
  rcases List.mem_append.mp h with h | h
  · exact go (by decide) h
  rcases List.mem_append.mp h with h | h
  · exact go (by decide) h
  · exact go (by decide) h
abbrev NB : S := .seq (.set false 10 (.call 7 (.cons (.var 6) (.cons (.var 8) .nil)))) (.seq (.if_ (.and_ (.cmp .ne (.peek 8) (.peek 7)) (.one (.cmp .le (.idx (.peek 10) (.var 8)) (.peek 1)))) (.seq (.app 3 (.idx (.peek 10) (.var 8))) (.seq (.app 5 (.tup (.cons (.var 10) (.cons (.var 8) .nil)))) .nil)) (.nil)) .nil)
theorem kidB {a0 a2 a4 a9 : Sl} {o : Option D} {b : Int} {q : Q4} {l p : Nat} {F K : List D} (hp : p < 4) (hl : l < 4 ∨ l = 9) (hF : F.length < 9000) (hK : K.length < 9000) :
    evS (mkG gl L12) false NB [a0, .pd (.int b), a2, .own F, a4, .own K, .pd (t4 q), .pd (if l < 4 then .int (l : Int) else .none), .pd (.int (p : Int)), a9, op o] =
      .nx [a0, .pd (.int b), a2, .own (F ++ (kid b (q, l) p).map iB), a4, .own (K ++ (kid b (q, l) p).map eB), .pd (t4 q), .pd (if l < 4 then .int (l : Int) else .none), .pd (.int (p : Int)), a9, op (some (t4 (swp q p)))] := by
  have hz := PySem.sizeLine_eq
  have hset : setS [a0, .pd (.int b), a2, .own F, a4, .own K, .pd (t4 q), .pd (if l < 4 then .int (l : Int) else .none), .pd (.int (p : Int)), a9, op o] 10 (.pd (t4 (swp q p))) = some [a0, .pd (.int b), a2, .own F, a4, .own K, .pd (t4 q), .pd (if l < 4 then .int (l : Int) else .none), .pd (.int (p : Int)), a9, .pd (t4 (swp q p))] := by cases o <;> rfl
  have hi := idx_t4 (swp q p) hp
  rw [g4_swp q hp] at hi
  have hA : Ev (mkG gl L12) (.cmp .ne (.peek 8) (.peek 7)) [a0, .pd (.int b), a2, .own F, a4, .own K, .pd (t4 q), .pd (if l < 4 then .int (l : Int) else .none), .pd (.int (p : Int)), a9, .pd (t4 (swp q p))] (.bool (decide (p ≠ l))) [a0, .pd (.int b), a2, .own F, a4, .own K, .pd (t4 q), .pd (if l < 4 then .int (l : Int) else .none), .pd (.int (p : Int)), a9, .pd (t4 (swp q p))] := Ev.cmpP (Ev.peek rfl) rfl rfl (ne_lastB hp hl)
  refine Evs.ok (Evs.seq (Evs.set (Ev.call rfl (Ev.cons rfl (Ev.var rfl) (Ev.cons rfl (Ev.var rfl) Ev.nil)) rfl (swapped_ok q hp)) hset) (Evs.seq ?_ Evs.nil))
  by_cases h1 : p ≠ l
  · rw [decide_eq_true h1] at hA
    have hB : Ev (mkG gl L12) (.one (.cmp .le (.idx (.peek 10) (.var 8)) (.peek 1))) [a0, .pd (.int b), a2, .own F, a4, .own K, .pd (t4 q), .pd (if l < 4 then .int (l : Int) else .none), .pd (.int (p : Int)), a9, .pd (t4 (swp q p))] (.bool (decide (fif q p ≤ b))) [a0, .pd (.int b), a2, .own F, a4, .own K, .pd (t4 q), .pd (if l < 4 then .int (l : Int) else .none), .pd (.int (p : Int)), a9, .pd (t4 (swp q p))] :=
      Ev.one (Ev.cmp rfl (Ev.idxP (Ev.var rfl) rfl rfl hi) (Ev.peek rfl) rfl)
    have hC := Ev.andT hA rfl hB
    by_cases h2 : fif q p ≤ b
    · have e : kid b (q, l) p = [(swp q p, p)] := if_pos ⟨h1, h2⟩
      rw [e]
      have eb : eB (swp q p, p) = .tuple [t4 (swp q p), .int (p : Int)] := by unfold eB; rw [if_pos hp]
      have ei : iB (swp q p, p) = .int (fif q p) := by unfold iB; rw [bd_swp q hp]
      rw [List.map_cons, List.map_cons, List.map_nil, List.map_nil, eb, ei]
      exact Evs.ifT hC (tru_dec h2) (Evs.seq (Evs.app (l := F) rfl (Ev.idxP (Ev.var rfl) rfl rfl hi) rfl (by omega)) (Evs.seq (Evs.app (l := K) rfl (Ev.tup (Ev.cons rfl (Ev.var rfl) (Ev.cons rfl (Ev.var rfl) Ev.nil)) (by show 2 ≤ _; omega)) rfl (by omega)) Evs.nil))
    · have e : kid b (q, l) p = [] := if_neg (fun z => h2 z.2)
      rw [e, List.map_nil, List.map_nil, List.append_nil, List.append_nil]
      exact Evs.ifF hC (tru_decF h2) Evs.nil
  · have h0 : ¬ (p ≠ l) := h1
    rw [decide_eq_false h0] at hA
    have e : kid b (q, l) p = [] := if_neg (fun z => h1 z.1)
    rw [e, List.map_nil, List.map_nil, List.append_nil, List.append_nil]
    exact Evs.ifF (Ev.andF hA rfl) rfl Evs.nil
theorem kidsB {a0 a2 a4 a9 : Sl} {o8 o : Option D} {b : Int} {q : Q4} {l : Nat} {F K : List D} (hl : l < 4 ∨ l = 9) (hF : F.length + 4 < 9000) (hK : K.length + 4 < 9000) :
    forGo (asgT (.nm 8)) (evS (mkG gl L12) false NB) (rngD 0 4) [a0, .pd (.int b), a2, .own F, a4, .own K, .pd (t4 q), .pd (if l < 4 then .int (l : Int) else .none), op o8, a9, op o] =
      .nx [a0, .pd (.int b), a2, .own (F ++ (kids b (q, l)).map iB), a4, .own (K ++ (kids b (q, l)).map eB), .pd (t4 q), .pd (if l < 4 then .int (l : Int) else .none), op (some (.int ((3 : Nat) : Int))), a9, op (some (t4 (swp q 3)))] := by
  have k0 := kid_le b (q, l) 0; have k1 := kid_le b (q, l) 1; have k2 := kid_le b (q, l) 2
  have hs : ∀ {F K : List D} {o8 o : Option D} {d : D}, asgT (.nm 8) d [a0, .pd (.int b), a2, .own F, a4, .own K, .pd (t4 q), .pd (if l < 4 then .int (l : Int) else .none), op o8, a9, op o] = some [a0, .pd (.int b), a2, .own F, a4, .own K, .pd (t4 q), .pd (if l < 4 then .int (l : Int) else .none), op (some d), a9, op o] := fun {F K o8 o d} => by cases o8 <;> rfl
  rw [rng4]
  refine forGo_cons hs (kidB (p := 0) (by decide) hl (by omega) (by omega)) ?_
  refine forGo_cons (hs (o8 := some _)) (kidB (p := 1) (by decide) hl (by simp only [List.length_append, List.length_map]; omega) (by simp only [List.length_append, List.length_map]; omega)) ?_
  refine forGo_cons (hs (o8 := some _)) (kidB (p := 2) (by decide) hl (by simp only [List.length_append, List.length_map]; omega) (by simp only [List.length_append, List.length_map]; omega)) ?_
  refine forGo_cons (hs (o8 := some _)) (kidB (p := 3) (by decide) hl (by simp only [List.length_append, List.length_map]; omega) (by simp only [List.length_append, List.length_map]; omega)) ?_
  unfold kids
  simp only [List.map_append, List.append_assoc]
  rfl
theorem levB {a0 a2 a4 a9 : Sl} {b : Int} : ∀ (L : List Stt) (F K : List D) (o6 o7 o8 o : Option D), (∀ s ∈ L, s.2 < 4 ∨ s.2 = 9) → F.length + (L.flatMap (kids b)).length + 4 < 9000 → K.length + (L.flatMap (kids b)).length + 4 < 9000 →
    ∃ p6 p7 p8 p10, forGo (asgT (.tup (.cons (.nm 6) (.cons (.nm 7) .nil)))) (evS (mkG gl L12) false (.seq (.for_ (.nm 8) (.rng1 (.ci 4)) NB) .nil)) (L.map eB) [a0, .pd (.int b), a2, .own F, a4, .own K, op o6, op o7, op o8, a9, op o] =
      .nx [a0, .pd (.int b), a2, .own (F ++ (L.flatMap (kids b)).map iB), a4, .own (K ++ (L.flatMap (kids b)).map eB), op p6, op p7, op p8, a9, op p10]
  | [], F, K, o6, o7, o8, o, _, _, _ => ⟨o6, o7, o8, o, by simp only [List.map_nil, List.flatMap_nil, List.append_nil]; rfl⟩
  | s :: L, F, K, o6, o7, o8, o, hl, hF, hK => by
    obtain ⟨q, l⟩ := s
    rw [List.flatMap_cons, List.length_append] at hF hK
    have k4 := kids_le b (q, l)
    obtain ⟨p6, p7, p8, p10, e⟩ := levB (a0 := a0) (a2 := a2) (a4 := a4) (a9 := a9) (b := b) L (F ++ (kids b (q, l)).map iB) (K ++ (kids b (q, l)).map eB) (some (t4 q)) (some (if l < 4 then .int (l : Int) else .none)) (some (.int ((3 : Nat) : Int))) (some (t4 (swp q 3))) (fun s hs => hl s (List.mem_cons_of_mem _ hs)) (by rw [List.length_append, List.length_map]; omega) (by rw [List.length_append, List.length_map]; omega)
    refine ⟨p6, p7, p8, p10, ?_⟩
    rw [List.flatMap_cons, List.map_append, List.map_append, ← List.append_assoc, ← List.append_assoc, ← e]
    have hs : asgT (.tup (.cons (.nm 6) (.cons (.nm 7) .nil))) (eB (q, l)) [a0, .pd (.int b), a2, .own F, a4, .own K, op o6, op o7, op o8, a9, op o] = some [a0, .pd (.int b), a2, .own F, a4, .own K, .pd (t4 q), .pd (if l < 4 then .int (l : Int) else .none), op o8, a9, op o] := by cases o6 <;> cases o7 <;> rfl
    rw [List.map_cons]
    refine forGo_cons hs (Evs.ok (Evs.seq (Evs.for_ (Ev.rng1 Ev.ci (by decide)) rfl (kidsB (hl (q, l) List.mem_cons_self) (by omega) (by omega))) Evs.nil)) ?_
    rfl
theorem at_last (l : List D) (x : D) : idxD (.list (l ++ [x])) (.int (-1)) = some x := by
  show L2.atI (l ++ [x]) (-1) = _
  unfold L2.atI L2.ixN
  rw [if_neg (by decide), List.length_append, if_pos (by simp only [List.length_cons, List.length_nil]; omega)]
  show (l ++ [x])[(-1 + ((l.length + 1 : Nat) : Int)).toNat]? = _
  rw [show (-1 + ((l.length + 1 : Nat) : Int)).toNat = l.length from by omega, List.getElem?_append_right (Nat.le_refl _), Nat.sub_self]; rfl
theorem sl_last (l : List D) (x : D) : slD (.list (l ++ [x])) none (some (-1)) = some (.list l) := by
  show some (PyData.list (cutD (l ++ [x]) none (some (-1)))) = _
  unfold cutD
  rw [HT.sIx_none, List.drop_zero, Nat.sub_zero]
  have e : HT.sIx (l ++ [x]).length (l ++ [x]).length (some (-1)) = l.length := by
    show (if (-1 : Int) < 0 then ((-1 : Int) + ((l ++ [x]).length : Int)).toNat else min (-1 : Int).toNat (l ++ [x]).length) = _
    rw [if_pos (by decide), List.length_append]; show (-1 + ((l.length + 1 : Nat) : Int)).toNat = _; omega
  rw [e, List.take_left]

theorem okI_eB (s : Stt) : okI (eB s) = true := by
  unfold eB; split <;> rfl
theorem okI_eD (s : Stt) : okI (eD s) = true := rfl
theorem iB_map (K : List Stt) : K.map iB = (K.map bd).map PyData.int := by rw [List.map_map]; rfl
def leB (b : Int) : D → Bool
  | .int v => decide (v ≤ b)
  | _ => false
theorem fil_le (b : Int) (L : List Int) : ((L.map PyData.int).filter (leB b)) = (L.filter fun v => decide (v ≤ b)).map PyData.int := by
  rw [List.filter_map]; rfl
theorem net_len {b : Int} {r : Q4} : ((li r).filter fun y => decide (y ≤ b)).length + (rest b [(r, 9)]).length = (net b r).length := by
  have h : (((li r).filter fun y => decide (y ≤ b)) ++ rest b [(r, 9)]).Perm (net b r) := List.perm_iff_count.mpr fun v => by rw [List.count_append]; exact start_count v
  rw [← h.length_eq, List.length_append]
theorem net_in_ok {n : Nat} {q r : Q4} {b : Int} (h : Dn n q r) (hd : Des q) (hn : n < 900) (hF : Fst8 r) (hb : b ≤ 60) : sem12.f [t4 q, .int b] = Rs.ok (.list ((sI (net b r)).map PyData.int), []) := by
  have hz := PySem.sizeLine_eq
  obtain ⟨f, hdn⟩ := down_in_ok h hd hn
  obtain ⟨_, hlen, _⟩ := net_facts hb hF
  have hL := net_len (b := b) (r := r)
  have hc : cgo (asgT (.nm 9)) (condF (isNil (.cmp .le (.peek 9) (.peek 1))) (ev (mkG gl L12) (.cmp .le (.peek 9) (.peek 1)))) (ev (mkG gl L12) (.var 9)) [9] ((li r).map PyData.int) [Sl.pd (t4 q), .pd (.int b), .pd (t4 r), .no, .no, .no, .no, .no, .no, .no, .no] [] =
      .ok ([] ++ (((li r).map PyData.int).filter (leB b)).map id, [Sl.pd (t4 q), .pd (.int b), .pd (t4 r), .no, .no, .no, .no, .no, .no, .no, .no]) := by
    refine cgo_map id _ _ _ fun x hx => ?_
    obtain ⟨v, _, rfl⟩ := List.mem_map.mp hx
    exact ⟨[Sl.pd (t4 q), .pd (.int b), .pd (t4 r), .no, .no, .no, .no, .no, .no, .pd (.int v), .no], .bool (decide (v ≤ b)), [Sl.pd (t4 q), .pd (.int b), .pd (t4 r), .no, .no, .no, .no, .no, .no, .pd (.int v), .no], rfl, Ev.ok (Ev.cmpP (Ev.peek rfl) rfl rfl rfl), rfl, fun _ => rfl, fun _ => ⟨_, Ev.ok (Ev.var rfl), rfl⟩⟩
  rw [List.nil_append, List.map_id, fil_le] at hc
  obtain ⟨e, hw, F, o5, o6, o7, o8, o10, rfl, hcount⟩ := whGo_inv (cond := ev (mkG gl L12) (.cmp .ne (.peek 4) (.lst .nil))) (body := evS (mkG gl L12) false (.seq (.set true 5 (.lst (.nil))) (.seq (.for_ (.tup (.cons (.nm 6) (.cons (.nm 7) .nil))) (.var 4) (.seq (.for_ (.nm 8) (.rng1 (.ci 4)) NB) .nil)) (.seq (.set false 4 (.var 5)) .nil))))
    (fun m env => ∃ (F : List Int) (L : List Stt) (o5 o6 o7 o8 o10 : Option D), env = [Sl.pd (t4 q), .pd (.int b), .pd (t4 r), .own (F.map PyData.int), .pd (.list (L.map eB)), op o5, op o6, op o7, op o8, .no, op o10] ∧
      (∀ s ∈ L, Cl b s) ∧ (∀ s ∈ L, s.2 < 4 ∨ s.2 = 9) ∧ (∀ v, F.count v + (rest b L).count v = (net b r).count v) ∧ F.length + (rest b L).length = (net b r).length ∧ m = L.length + (rest b L).length)
    (fun env => ∃ (F : List Int) (o5 o6 o7 o8 o10 : Option D), env = [Sl.pd (t4 q), .pd (.int b), .pd (t4 r), .own (F.map PyData.int), .pd (.list []), op o5, op o6, op o7, op o8, .no, op o10] ∧ ∀ v, F.count v = (net b r).count v)
    (fun m env ⟨F, L, o5, o6, o7, o8, o10, e, c1, c2, c3, c4, c5⟩ => by
      subst e
      have hne := ne_nil (l := L.map eB) fun x hx => by
        obtain ⟨s, _, rfl⟩ := List.mem_map.mp hx
        exact okI_eB s
      refine ⟨.bool (!(L.map eB).isEmpty), _, !(L.map eB).isEmpty, Ev.ok (Ev.cmpP (Ev.lst Ev.nil (Nat.zero_le _)) rfl rfl hne), rfl, fun hk => ?_, fun hk => ?_⟩
      · cases L with
        | cons _ _ => cases hk
        | nil => exact ⟨F, o5, o6, o7, o8, o10, rfl, fun v => by rw [← c3 v]; rfl⟩
      · have hpos : 0 < L.length := by
          cases L with
          | nil => cases hk
          | cons _ _ => exact Nat.zero_lt_succ _
        have hrl := rest_len c1
        obtain ⟨p6, p7, p8, p10, hlev⟩ := levB (a0 := .pd (t4 q)) (a2 := .pd (t4 r)) (a4 := .pd (.list (L.map eB))) (a9 := .no) (b := b) L (F.map PyData.int) [] o6 o7 o8 o10 c2 (by rw [List.length_map]; omega) (by show 0 + _ + 4 < 9000; omega)
        rw [List.nil_append, iB_map, ← List.map_append] at hlev
        have hs5 : setS [Sl.pd (t4 q), .pd (.int b), .pd (t4 r), .own (F.map PyData.int), .pd (.list (L.map eB)), op o5, op o6, op o7, op o8, .no, op o10] 5 (.own []) = some [Sl.pd (t4 q), .pd (.int b), .pd (t4 r), .own (F.map PyData.int), .pd (.list (L.map eB)), .own [], op o6, op o7, op o8, .no, op o10] := by cases o5 <;> rfl
        refine ⟨[Sl.pd (t4 q), .pd (.int b), .pd (t4 r), .own ((F ++ (L.flatMap (kids b)).map bd).map PyData.int), .pd (.list ((L.flatMap (kids b)).map eB)), .pd (.list ((L.flatMap (kids b)).map eB)), op p6, op p7, op p8, .no, op p10], _, .inl (Evs.ok (Evs.seq (Evs.set (Ev.lst Ev.nil (Nat.zero_le _)) hs5) (Evs.seq (Evs.for_ (Ev.var rfl) rfl hlev) (Evs.seq (Evs.set (Ev.varO rfl) rfl) Evs.nil)))), ?_, F ++ (L.flatMap (kids b)).map bd, L.flatMap (kids b), some (.list ((L.flatMap (kids b)).map eB)), p6, p7, p8, p10, rfl, cl_kids c1, fun s hs => ?_, fun v => ?_, ?_, rfl⟩
        · omega
        · obtain ⟨t, _, ht⟩ := List.mem_flatMap.mp hs
          exact .inl (kids_lt ht)
        · have h1 := rest_kids c1 v
          have h2 := c3 v
          rw [List.count_append]; omega
        · rw [List.length_append, List.length_map]; omega)
    1000000 ([(r, 9)].length + (rest b [(r, 9)]).length) [Sl.pd (t4 q), .pd (.int b), .pd (t4 r), .own (((li r).filter fun v => decide (v ≤ b)).map PyData.int), .pd (.list [.tuple [t4 r, .none]]), .no, .no, .no, .no, .no, .no] (by show 1 + _ < 1000000; omega)
    ⟨(li r).filter fun v => decide (v ≤ b), [(r, 9)], none, none, none, none, none, rfl, fun s hs => by rw [List.mem_singleton.mp hs]; exact cl_first hb hF, fun s hs => by rw [List.mem_singleton.mp hs]; exact .inr rfl, fun v => start_count v, hL, rfl⟩
  have hsort := sorted_ints (l := F) (by rw [(List.perm_iff_count.mpr hcount).length_eq]; omega)
  rw [sI_eq hcount] at hsort
  apply sem_rt (F := f_net_in) (e1 := [Sl.pd (t4 q), .pd (.int b), .pd (t4 r), .own (F.map PyData.int), .pd (.list []), op o5, op o6, op o7, op o8, .no, op o10])
  case hh => rfl
  case h =>
    show Evs _ _ b_net_in [Sl.pd (t4 q), .pd (.int b), .no, .no, .no, .no, .no, .no, .no, .no, .no] _
    unfold b_net_in
    refine Evs.seq (Evs.set (Ev.idx rfl (Ev.call rfl (Ev.cons rfl (Ev.var rfl) Ev.nil) rfl hdn) Ev.ci rfl) rfl) (Evs.seq (Evs.par2 (Ev.lc (l := (li r).map PyData.int) (Ev.var rfl) rfl rfl hc rfl) (Ev.lst (Ev.cons rfl (Ev.tup (Ev.cons rfl (Ev.var rfl) (Ev.cons rfl Ev.cn Ev.nil)) (by show 2 ≤ _; omega)) Ev.nil) (by show 1 ≤ _; omega)) rfl rfl) (Evs.seq (Evs.while_ hw) (Evs.seqX (Evs.ret (Ev.bi (Ev.consP Ev.nil rfl rfl) hsort) rfl) (fun _ z => nomatch z))))

/-! ### what the package tells of a net -/
def mn (q : Q4) : Int := minI q.1 [q.2.1, q.2.2.1, q.2.2.2]
theorem min_t4 (q : Q4) : Bi.min.f [t4 q] = some (.int (mn q)) := rfl
theorem mn_eq (q : Q4) : mn q = min (min (min q.1 q.2.1) q.2.2.1) q.2.2.2 := rfl
theorem mn_lt {q : Q4} (h : Fst8 q) : mn q < 0 := by
  obtain ⟨r, hr, hp⟩ := h
  obtain ⟨_, _, _, h4⟩ := rows8_p r hr
  have hm : r.1 ∈ li q := hp.mem_iff.mpr (by simp [li])
  simp only [li, List.mem_cons, List.mem_nil_iff, or_false] at hm
  rw [mn_eq]; omega
def nt (b : Int) (q : Q4) : List Int := sI (net b q)
theorem nt_mem {b : Int} {q : Q4} {v : Int} : v ∈ nt b q ↔ v ∈ net b q := (sI_perm _).mem_iff
theorem nt_len {b : Int} {q : Q4} : (nt b q).length = (net b q).length := (sI_perm _).length_eq
theorem nt_pm {b : Int} {q r : Q4} (h : (li r).Perm (li q)) : nt b r = nt b q := sI_eq fun v => (net_pm h).count_eq v
theorem nt_unlike {b : Int} {q : Q4} (hb : b ≤ 60) (h : Fst8 q) : (sdI (nt b q)).length < 64 := by
  obtain ⟨_, _, m, hm⟩ := net_facts hb h
  have h1 := List.Nodup.length_le_of_subset (sdI_nodup (nt b q)) (l₂ := m :: (List.range 61).map Int.ofNat) fun v hv => by
    have := hm v (nt_mem.mp (sdI_mem.mp hv))
    rcases this with rfl | ⟨h0, h1⟩
    · exact List.mem_cons_self
    · exact List.mem_cons_of_mem _ (List.mem_map.mpr ⟨v.toNat, List.mem_range.mpr (by omega), by show ((v.toNat : Nat) : Int) = v; omega⟩)
  rw [List.length_cons, List.length_map, List.length_range] at h1
  omega
structure Gd (q r : Q4) : Prop where
  dn : ∃ n, n < 900 ∧ Dn n q r
  des : Des q
  top : Top q 1000000
  fst : Fst8 r
theorem Gd.in {q r : Q4} {b : Int} (h : Gd q r) (hb : b ≤ 60) : sem12.f [t4 q, .int b] = Rs.ok (.list ((nt b r).map PyData.int), []) := by
  obtain ⟨n, hn, hd⟩ := h.dn
  exact net_in_ok hd h.des hn h.fst hb
theorem Gd.need {q r : Q4} {b : Int} (h : Gd q r) (h0 : 0 ≤ b) (hb : b ≤ 60) : sem14.f [t4 q, .int b] = Rs.ok (.none, []) := by
  obtain ⟨n, hn, hd⟩ := h.dn
  obtain ⟨f, hf⟩ := down_in_ok hd h.des hn
  have hm := mn_lt h.fst
  have e : fitW (.int b) 0 300 = true := by
    show (decide (0 ≤ b) && decide (b ≤ 300)) = true
    simp only [Bool.and_eq_true, decide_eq_true_eq]; omega
  apply sem_nx (F := f_need_bounded) (e1 := [Sl.pd (t4 q), .pd (.int b)])
  case hh => rfl
  case h =>
    show Evs _ _ b_need_bounded [Sl.pd (t4 q), .pd (.int b)] _
    unfold b_need_bounded
    refine Evs.seq (Evs.expr (Ev.call rfl (Ev.cons rfl (Ev.var rfl) Ev.nil) rfl (need_four_ok (noD_t4 q) (isFour_of h.des h.top)))) (Evs.seq (Evs.ifF (x := .bool (decide (mn r ≥ 0))) (Ev.cmp rfl (Ev.bi (Ev.cons rfl (Ev.idx rfl (Ev.call rfl (Ev.cons rfl (Ev.var rfl) Ev.nil) rfl hf) Ev.ci rfl) Ev.nil) (min_t4 r)) Ev.ci rfl) (tru_decF (by omega)) Evs.nil) (Evs.seq (Evs.ifF (x := .bool false) (Ev.notb (k := true) (Ev.call (r := []) rfl (Ev.cons rfl (Ev.var rfl) (Ev.cons rfl Ev.ci (Ev.cons rfl (Ev.glb rfl) Ev.nil))) rfl ?_)) rfl Evs.nil) Evs.nil))
    rw [← e]; exact fits_whole_ok rfl
theorem Gd.bends {q r : Q4} {b : Int} (h : Gd q r) (h0 : 0 ≤ b) (hb : b ≤ 60) : sem15.f [t4 q, .int b] = Rs.ok (.tuple ((sdI (nt b r)).map PyData.int), []) := by
  have hl := (net_facts hb h.fst).2.1
  apply sem_rt (F := f_net_bends) (e1 := [Sl.pd (t4 q), .pd (.int b)])
  case hh => rfl
  case h =>
    show Evs _ _ b_net_bends [Sl.pd (t4 q), .pd (.int b)] _
    unfold b_net_bends
    exact Evs.seq (Evs.expr (Ev.call rfl (Ev.cons rfl (Ev.var rfl) (Ev.cons rfl (Ev.var rfl) Ev.nil)) rfl (h.need h0 hb))) (Evs.seqX (Evs.ret (Ev.bi (l := [.list ((sdI (nt b r)).map PyData.int)]) (Ev.cons rfl (Ev.sset (ns := nt b r) (Ev.call rfl (Ev.cons rfl (Ev.var rfl) (Ev.cons rfl (Ev.var rfl) Ev.nil)) rfl (h.in hb)) (by rw [nt_len]; omega) (nt_unlike hb h.fst)) Ev.nil) rfl) rfl) (fun _ z => nomatch z))
/-! ### the law's own fours -/
def rows10 : List Q4 := [(-1, 2, 2, 3), (-2, 3, 6, 7), (-3, 4, 12, 13), (-3, 5, 8, 8), (-4, 5, 20, 21), (-4, 8, 9, 9), (-6, 10, 15, 19), (0, 0, 1, 1), (-2, 4, 4, 6), (0, 0, 3, 3)]
theorem rows10_p : ∀ q ∈ rows10, Ro q ∧ Des q ∧ Top q 60000 ∧ (q ∈ rows8 ∨ ∀ x ∈ li q, 0 ≤ x) := by
  intro q hq
  simp only [rows10, List.mem_cons, List.mem_nil_iff, or_false] at hq
  rcases hq with rfl | rfl | rfl | rfl | rfl | rfl | rfl | rfl | rfl | rfl <;> exact ⟨by unfold Ro; decide, ⟨by decide, by decide⟩, by unfold Top; decide, by decide⟩
theorem Top.pm {q r : Q4} {m : Int} (h : Top q m) (hp : (li r).Perm (li q)) : Top r m := by
  obtain ⟨t1, t2, t3, t4⟩ := h
  have hx : ∀ x ∈ li r, x ≤ m := fun x hx => by
    have := hp.mem_iff.mp hx
    simp only [li, List.mem_cons, List.mem_nil_iff, or_false] at this
    rcases this with rfl | rfl | rfl | rfl <;> assumption
  exact ⟨hx _ (by simp [li]), hx _ (by simp [li]), hx _ (by simp [li]), hx _ (by simp [li])⟩
theorem perm_four {q : Q4} {l : List D} (hp : l.Perm ((li q).map PyData.int)) : ∃ r : Q4, PyData.tuple l = t4 r ∧ (li r).Perm (li q) := by
  obtain ⟨ms, rfl, hm⟩ := ints_perm hp
  have hl := hm.length_eq
  match ms, hl, hm with
  | [a, b, c, d], _, hm => exact ⟨(a, b, c, d), rfl, hm⟩
theorem given_ok {c : List D} (hc : Cup c) : ∃ (q1 q2 : Q4) (c' : List D) (n : Nat), n ≤ 4 ∧ Dn n q2 q1 ∧ Des q2 ∧ Top q2 60000 ∧ (∃ r ∈ rows10, (li q1).Perm (li r)) ∧ Cup c' ∧ sem27.f [.list c, .int 4] = Rs.ok (.tuple [t4 q1, t4 q2], c') := by
  have hz := PySem.sizeLine_eq
  obtain ⟨x, c1, hx, hc1, he1⟩ := some_ok hc (l := rows10.map t4) (by decide) (by decide)
  obtain ⟨q, hq, rfl⟩ := List.mem_map.mp hx
  obtain ⟨hro, hd, ht, _⟩ := rows10_p q hq
  obtain ⟨l', c2, hp, hc2, he2⟩ := turned_ok hc1 (l := (li q).map PyData.int) (by simp [li])
  obtain ⟨q1, e1, hpm⟩ := perm_four hp
  have hd1 := hd.pm hpm
  have ht1 := ht.pm hpm
  have hro1 := hro.pm hpm
  obtain ⟨r, c3, hr, hc3, he3⟩ := roll_ok hc2 (n := 5) (by decide) (by decide)
  obtain ⟨e, h1, h2⟩ := forGo_inv (asg := asgT (.nm 5)) (body := evS (mkG gl L27) false (.seq (.set false 6 (.call 26 (.cons (.var 4) (.cons (.callm 18 0 (.cons (.ci 4) .nil)) .nil)))) (.seq (.set false 4 (.ite (.cmp .le (.bi .max (.cons (.peek 6) .nil)) (.ci 60000)) (.var 6) (.var 4))) .nil)))
    (fun xs env => ∃ c q s t n, Cup c ∧ Des q ∧ Top q 60000 ∧ Dn n q q1 ∧ n + xs.length ≤ 4 ∧ env = [Sl.bor c, .pd (.int 4), .pd (.list (rows10.map t4)), .pd (t4 q1), .pd (t4 q), op s, op t]) (rngD 0 (r : Int)) [Sl.bor c3, .pd (.int 4), .pd (.list (rows10.map t4)), .pd (t4 q1), .pd (t4 q1), .no, .no]
    ⟨c3, q1, none, none, 0, hc3, hd1, ht1, .root hro1, by rw [rngD_length]; omega, rfl⟩
    (fun x xs env ⟨c, q, s, t, n, p1, p2, p3, p4, p5, p6⟩ => by
      subst p6
      obtain ⟨p, c', hp, hc', he⟩ := roll_ok p1 (n := 4) (by decide) (by decide)
      rw [List.length_cons] at p5
      have ht : setS [Sl.bor c', .pd (.int 4), .pd (.list (rows10.map t4)), .pd (t4 q1), .pd (t4 q), .pd x, op t] 6 (.pd (t4 (swp q p))) = some [Sl.bor c', .pd (.int 4), .pd (.list (rows10.map t4)), .pd (t4 q1), .pd (t4 q), .pd x, .pd (t4 (swp q p))] := by cases t <;> rfl
      have hA : Ev (mkG gl L27) (.ite (.cmp .le (.bi .max (.cons (.peek 6) .nil)) (.ci 60000)) (.var 6) (.var 4)) [Sl.bor c', .pd (.int 4), .pd (.list (rows10.map t4)), .pd (t4 q1), .pd (t4 q), .pd x, .pd (t4 (swp q p))]
          (if decide (mx (swp q p) ≤ 60000) then t4 (swp q p) else t4 q) [Sl.bor c', .pd (.int 4), .pd (.list (rows10.map t4)), .pd (t4 q1), .pd (t4 q), .pd x, .pd (t4 (swp q p))] :=
        Ev.ite (Ev.cmp rfl (Ev.bi (Ev.consP Ev.nil rfl rfl) (max_t4 _)) Ev.ci rfl) rfl (fun _ => Ev.var rfl) (fun _ => Ev.var rfl)
      have hB : ∃ r m, (if decide (mx (swp q p) ≤ 60000) then t4 (swp q p) else t4 q) = t4 r ∧ Des r ∧ Top r 60000 ∧ m ≤ n + 1 ∧ Dn m r q1 := by
        by_cases hm : mx (swp q p) ≤ 60000
        · obtain ⟨m, m1, m2⟩ := p4.swp p2 hp
          rw [if_pos (decide_eq_true hm)]; exact ⟨_, m, rfl, p2.swp hp, mx_le.mp hm, m1, m2⟩
        · rw [if_neg (by rw [decide_eq_false hm]; exact Bool.false_ne_true)]; exact ⟨_, n, rfl, p2, p3, by omega, p4⟩
      obtain ⟨r, m, hr, hr1, hr2, hr3, hr4⟩ := hB
      rw [hr] at hA
      refine ⟨[Sl.bor c, .pd (.int 4), .pd (.list (rows10.map t4)), .pd (t4 q1), .pd (t4 q), .pd x, op t], [Sl.bor c', .pd (.int 4), .pd (.list (rows10.map t4)), .pd (t4 q1), .pd (t4 r), .pd x, .pd (t4 (swp q p))], ?_, .inl ?_, c', r, some x, some (t4 (swp q p)), m, hc', hr1, hr2, hr4, by omega, rfl⟩
      · cases s <;> rfl
      · exact Evs.ok (Evs.seq (Evs.set (Ev.call rfl (Ev.cons rfl (Ev.var rfl) (Ev.cons rfl (Ev.callm rfl rfl (Ev.cons rfl Ev.ci Ev.nil) rfl rfl he) Ev.nil)) rfl (law_swapped_ok q hp)) ht) (Evs.seq (Evs.set hA rfl) Evs.nil)))
  obtain ⟨c', q2, s, t, n, p1, p2, p3, p4, p5, p6⟩ := h2
  subst p6
  refine ⟨q1, q2, c', n, p5, p4, p2, p3, ⟨q, hq, hpm⟩, p1, ?_⟩
  apply sem_rt (F := f_law_given) (e1 := [Sl.bor c', .pd (.int 4), .pd (.list (rows10.map t4)), .pd (t4 q1), .pd (t4 q2), op s, op t])
  case hh => rfl
  case h =>
    show Evs _ _ b_law_given [Sl.bor c, .pd (.int 4), .no, .no, .no, .no, .no] _
    unfold b_law_given
    have hrows : (rows10.map t4).length ≤ sizeLine := by show 10 ≤ _; omega
    refine Evs.seq (Evs.set (d := .list (rows10.map t4)) (e1 := [Sl.bor c, .pd (.int 4), .no, .no, .no, .no, .no]) ?_ rfl) ?_
    · refine Ev.lst ?_ hrows
      show Ev _ _ _ (.list [t4 (-1, 2, 2, 3), t4 (-2, 3, 6, 7), t4 (-3, 4, 12, 13), t4 (-3, 5, 8, 8), t4 (-4, 5, 20, 21), t4 (-4, 8, 9, 9), t4 (-6, 10, 15, 19), t4 (0, 0, 1, 1), t4 (-2, 4, 4, 6), t4 (0, 0, 3, 3)]) _
      have hn : ∀ {i : Int}, Ev (mkG gl L27) (.neg (.ci i)) [Sl.bor c, .pd (.int 4), .no, .no, .no, .no, .no] (.int (-i)) [Sl.bor c, .pd (.int 4), .no, .no, .no, .no, .no] := Ev.neg Ev.ci
      have h4 : (4 : Nat) ≤ sizeLine := by omega
      have hA : ∀ {a b c' d : Int} {ea eb ec ed : E}, peekOf ea = none → peekOf eb = none → peekOf ec = none → peekOf ed = none → Ev (mkG gl L27) ea [Sl.bor c, .pd (.int 4), .no, .no, .no, .no, .no] (.int a) [Sl.bor c, .pd (.int 4), .no, .no, .no, .no, .no] → Ev (mkG gl L27) eb [Sl.bor c, .pd (.int 4), .no, .no, .no, .no, .no] (.int b) [Sl.bor c, .pd (.int 4), .no, .no, .no, .no, .no] →
          Ev (mkG gl L27) ec [Sl.bor c, .pd (.int 4), .no, .no, .no, .no, .no] (.int c') [Sl.bor c, .pd (.int 4), .no, .no, .no, .no, .no] → Ev (mkG gl L27) ed [Sl.bor c, .pd (.int 4), .no, .no, .no, .no, .no] (.int d) [Sl.bor c, .pd (.int 4), .no, .no, .no, .no, .no] →
          Ev (mkG gl L27) (.tup (.cons ea (.cons eb (.cons ec (.cons ed .nil))))) [Sl.bor c, .pd (.int 4), .no, .no, .no, .no, .no] (t4 (a, b, c', d)) [Sl.bor c, .pd (.int 4), .no, .no, .no, .no, .no] :=
        fun h1 h2 h3 h5 g1 g2 g3 g5 => Ev.tup (Ev.cons h1 g1 (Ev.cons h2 g2 (Ev.cons h3 g3 (Ev.cons h5 g5 Ev.nil)))) h4
      exact Ev.cons rfl (hA rfl rfl rfl rfl hn Ev.ci Ev.ci Ev.ci) (Ev.cons rfl (hA rfl rfl rfl rfl hn Ev.ci Ev.ci Ev.ci) (Ev.cons rfl (hA rfl rfl rfl rfl hn Ev.ci Ev.ci Ev.ci) (Ev.cons rfl (hA rfl rfl rfl rfl hn Ev.ci Ev.ci Ev.ci) (Ev.cons rfl (hA rfl rfl rfl rfl hn Ev.ci Ev.ci Ev.ci) (Ev.cons rfl (hA rfl rfl rfl rfl hn Ev.ci Ev.ci Ev.ci) (Ev.cons rfl (hA rfl rfl rfl rfl hn Ev.ci Ev.ci Ev.ci)
        (Ev.cons rfl (hA rfl rfl rfl rfl Ev.ci Ev.ci Ev.ci Ev.ci) (Ev.cons rfl (hA rfl rfl rfl rfl hn Ev.ci Ev.ci Ev.ci) (Ev.cons rfl (hA rfl rfl rfl rfl Ev.ci Ev.ci Ev.ci Ev.ci) Ev.nil)))))))))
    · refine Evs.seq (Evs.set (d := t4 q1) (e1 := [Sl.bor c2, .pd (.int 4), .pd (.list (rows10.map t4)), .no, .no, .no, .no]) (Ev.bi (l := [.list l']) (Ev.cons rfl (Ev.callm rfl rfl (Ev.cons rfl (Ev.bi (Ev.cons rfl (Ev.callm rfl rfl (Ev.cons rfl (Ev.var rfl) Ev.nil) rfl rfl he1) Ev.nil) rfl) Ev.nil) rfl rfl he2) Ev.nil) ?_) rfl) ?_
      · show some (PyData.tuple l') = _; rw [e1]
      · exact Evs.seq (Evs.set (Ev.var rfl) rfl) (Evs.seq (Evs.for_ (l := rngD 0 (r : Int)) (Ev.rng1 (Ev.callm rfl rfl (Ev.cons rfl (Ev.binP Ev.ci rfl rfl rfl) Ev.nil) rfl rfl he3) (rng_ok (by omega))) rfl h1) (Evs.seqX (Evs.ret (Ev.tup (Ev.cons rfl (Ev.var rfl) (Ev.cons rfl (Ev.var rfl) Ev.nil)) (by show 2 ≤ _; omega)) rfl) (fun _ z => nomatch z)))

/-! ### fours of rests -/
def rm (m : Int) (q : Q4) : Q4 := (q.1 % m, q.2.1 % m, q.2.2.1 % m, q.2.2.2 % m)
theorem rm_rm (m : Int) (q : Q4) : rm m (rm m q) = rm m q := by
  simp only [rm, Int.emod_emod]
theorem fif_rm (m : Int) (q : Q4) {p : Nat} (hp : p < 4) : fif (rm m q) p % m = fif q p % m := by
  obtain ⟨a, b, c, d⟩ := q
  have ha := Int.emod_def a m; have hb := Int.emod_def b m; have hc := Int.emod_def c m; have hd := Int.emod_def d m
  generalize a / m = ka at ha; generalize b / m = kb at hb; generalize c / m = kc at hc; generalize d / m = kd at hd
  rcases lt4 hp with rfl | rfl | rfl | rfl
  · have e : fif (rm m (a, b, c, d)) 0 = fif (a, b, c, d) 0 + m * (ka - 2 * kb - 2 * kc - 2 * kd) := by
      simp only [fif, rm, s4, g4, ha, hb, hc, hd, Int.mul_sub, Int.mul_left_comm m 2]; omega
    rw [e, Int.add_mul_emod_self_left]
  · have e : fif (rm m (a, b, c, d)) 1 = fif (a, b, c, d) 1 + m * (kb - 2 * ka - 2 * kc - 2 * kd) := by
      simp only [fif, rm, s4, g4, ha, hb, hc, hd, Int.mul_sub, Int.mul_left_comm m 2]; omega
    rw [e, Int.add_mul_emod_self_left]
  · have e : fif (rm m (a, b, c, d)) 2 = fif (a, b, c, d) 2 + m * (kc - 2 * ka - 2 * kb - 2 * kd) := by
      simp only [fif, rm, s4, g4, ha, hb, hc, hd, Int.mul_sub, Int.mul_left_comm m 2]; omega
    rw [e, Int.add_mul_emod_self_left]
  · have e : fif (rm m (a, b, c, d)) 3 = fif (a, b, c, d) 3 + m * (kd - 2 * ka - 2 * kb - 2 * kc) := by
      simp only [fif, rm, s4, g4, ha, hb, hc, hd, Int.mul_sub, Int.mul_left_comm m 2]; omega
    rw [e, Int.add_mul_emod_self_left]
theorem rm_swp (m : Int) (q : Q4) {p : Nat} (hp : p < 4) : rm m (swp (rm m q) p) = rm m (swp q p) := by
  have h := fif_rm m q hp
  rcases lt4 hp with rfl | rfl | rfl | rfl <;> simp only [rm, swp, Int.emod_emod] at h ⊢ <;> rw [h]
inductive Rc (m : Int) (a : Q4) : Q4 → Prop
  | refl : Rc m a a
  | step {b : Q4} {p : Nat} (h : Rc m a b) (hp : p < 4) : Rc m a (rm m (swp b p))
theorem Rc.trans {m : Int} {a b c : Q4} (h1 : Rc m a b) (h2 : Rc m b c) : Rc m a c := by
  induction h2 with
  | refl => exact h1
  | step _ hp ih => exact .step ih hp
theorem Rc.red {m : Int} {a b : Q4} (h : Rc m a b) (ha : rm m a = a) : rm m b = b := by
  cases h with
  | refl => exact ha
  | step _ _ => exact rm_rm m _
theorem Rc.symm {m : Int} {a b : Q4} (h : Rc m a b) (ha : rm m a = a) : Rc m b a := by
  induction h with
  | refl => exact .refl
  | @step b p h hp ih =>
    have e : rm m (swp (rm m (swp b p)) p) = b := by rw [rm_swp m _ hp, swp_swp b hp, h.red ha]
    have : Rc m (rm m (swp b p)) b := by
      have z : Rc m (rm m (swp b p)) (rm m (swp (rm m (swp b p)) p)) := .step .refl hp
      rwa [e] at z
    exact this.trans ih
theorem Rc.one {m : Int} (q : Q4) {p : Nat} (hp : p < 4) : Rc m (rm m q) (rm m (swp q p)) := by
  rw [← rm_swp m q hp]; exact .step .refl hp
theorem Dn.rc {m : Int} {n : Nat} {q r : Q4} (h : Dn n q r) : Rc m (rm m q) (rm m r) := by
  induction h with
  | root _ => exact .refl
  | step hp _ _ ih => exact (Rc.one _ hp).trans ih
theorem swpAll_rc {m : Int} : ∀ (ps : List Nat) (q : Q4), (∀ p ∈ ps, p < 4) → Rc m (rm m q) (rm m (swpAll q ps))
  | [], q, _ => .refl
  | p :: ps, q, h => (Rc.one q (h p List.mem_cons_self)).trans (swpAll_rc ps (swp q p) fun x hx => h x (List.mem_cons_of_mem _ hx))
theorem li_rm (m : Int) (q : Q4) : li (rm m q) = (li q).map (· % m) := rfl
/-- the bends of a net: of fours that are reached -/
theorem kids_in {b : Int} {s k : Stt} (h : k ∈ kids b s) : ∃ p, p < 4 ∧ k = (swp s.1 p, p) := by
  have one : ∀ {p : Nat}, p < 4 → k ∈ kid b s p → ∃ p, p < 4 ∧ k = (swp s.1 p, p) := fun {p} hp h => by
    unfold kid at h
    split at h
    · exact ⟨p, hp, List.mem_singleton.mp h⟩
    · cases h
  unfold kids at h
  rcases List.mem_append.mp h with h | h
  · exact one (by decide) h
  · rcases List.mem_append.mp h with h | h
    · exact one (by decide) h
    · rcases List.mem_append.mp h with h | h
      · exact one (by decide) h
      · exact one (by decide) h
theorem UU_rc {m b : Int} : ∀ (n : Nat) (s : Stt) (v : Int), v ∈ UU b n s → v ≠ 999 → ∃ x, Rc m (rm m s.1) x ∧ v % m ∈ li x
  | 0, s, v, h, h9 => absurd (List.mem_singleton.mp h) h9
  | n + 1, s, v, h, h9 => by
    unfold UU at h
    obtain ⟨k, hk, hv⟩ := List.mem_flatMap.mp h
    obtain ⟨p, hp, rfl⟩ := kids_in hk
    rcases List.mem_cons.mp hv with e | hv
    · subst e
      exact ⟨_, Rc.one s.1 hp, by rw [li_rm]; exact List.mem_map_of_mem (g4_mem _ hp)⟩
    · obtain ⟨x, h1, h2⟩ := UU_rc n (swp s.1 p, p) v hv h9
      exact ⟨x, (Rc.one s.1 hp).trans h1, h2⟩
theorem net_rc {m b : Int} {q : Q4} {v : Int} (h : v ∈ net b q) (hb : b < 999) (hv : v ≤ b) : ∃ x, Rc m (rm m q) x ∧ v % m ∈ li x := by
  unfold net at h
  rcases List.mem_append.mp h with h | h
  · exact ⟨_, .refl, by rw [li_rm]; exact List.mem_map_of_mem (List.mem_filter.mp h).1⟩
  · have : v ∈ UU b 64 (q, 9) := by
      rw [← List.count_pos_iff, UU_RR, List.count_pos_iff]; exact h
    exact UU_rc 64 (q, 9) v this (by omega)
/-! ### the search -/
def addp (m : Int) (h : Q4) (x : List Q4 × List Q4) (p : Nat) : List Q4 × List Q4 := if rm m (swp h p) ∈ x.1 then x else (x.1 ++ [rm m (swp h p)], x.2 ++ [rm m (swp h p)])
def vis (m : Int) (h : Q4) (x : List Q4 × List Q4) : List Q4 × List Q4 := addp m h (addp m h (addp m h (addp m h x 0) 1) 2) 3
def go (m : Int) : Nat → List Q4 → List Q4 → Option (List Q4)
  | n, S, L => match L.getLast? with
    | none => some S
    | some h => match n with
      | 0 => none
      | n + 1 => go m n (vis m h (S, L.dropLast)).1 (vis m h (S, L.dropLast)).2
structure Iw (m : Int) (a : Q4) (h : Q4) (k : Nat) (x : List Q4 × List Q4) : Prop where
  mem : a ∈ x.1
  nd : x.1.Nodup
  hm : h ∈ x.1
  sub : ∀ y ∈ x.2, y ∈ x.1
  rc : ∀ y ∈ x.1, Rc m a y
  cl : ∀ y ∈ x.1, y ∈ x.2 ∨ y = h ∨ ∀ p < 4, rm m (swp y p) ∈ x.1
  hk : ∀ p < k, rm m (swp h p) ∈ x.1
theorem Iw.add {m : Int} {a h : Q4} {k : Nat} {x : List Q4 × List Q4} (w : Iw m a h k x) (hk : k < 4) : Iw m a h (k + 1) (addp m h x k) ∧ (addp m h x k).1.length + x.2.length = x.1.length + (addp m h x k).2.length ∧ x.1.length ≤ (addp m h x k).1.length := by
  unfold addp
  by_cases e : rm m (swp h k) ∈ x.1
  · rw [if_pos e]
    refine ⟨⟨w.mem, w.nd, w.hm, w.sub, w.rc, w.cl, fun p hp => ?_⟩, by omega, by omega⟩
    by_cases z : p = k
    · subst z; exact e
    · exact w.hk p (by omega)
  · rw [if_neg e]
    refine ⟨⟨List.mem_append_left _ w.mem, ?_, List.mem_append_left _ w.hm, fun y hy => ?_, fun y hy => ?_, fun y hy => ?_, fun p hp => ?_⟩, by simp only [List.length_append, List.length_cons, List.length_nil]; omega, by simp only [List.length_append]; omega⟩
    · rw [List.nodup_append]
      refine ⟨w.nd, by simp, fun y hy z hz => ?_⟩
      rw [List.mem_singleton.mp hz]
      exact fun q => e (q ▸ hy)
    · rcases List.mem_append.mp hy with hy | hy
      · exact List.mem_append_left _ (w.sub y hy)
      · exact List.mem_append_right _ hy
    · rcases List.mem_append.mp hy with hy | hy
      · exact w.rc y hy
      · rw [List.mem_singleton.mp hy]; exact .step (w.rc h w.hm) hk
    · rcases List.mem_append.mp hy with hy | hy
      · rcases w.cl y hy with z | z | z
        · exact .inl (List.mem_append_left _ z)
        · exact .inr (.inl z)
        · exact .inr (.inr fun p hp => List.mem_append_left _ (z p hp))
      · exact .inl (List.mem_append_right _ hy)
    · by_cases z : p = k
      · subst z; exact List.mem_append_right _ List.mem_cons_self
      · exact List.mem_append_left _ (w.hk p (by omega))
structure Iv (m : Int) (a : Q4) (S L : List Q4) : Prop where
  mem : a ∈ S
  nd : S.Nodup
  sub : ∀ y ∈ L, y ∈ S
  rc : ∀ y ∈ S, Rc m a y
  cl : ∀ y ∈ S, y ∈ L ∨ ∀ p < 4, rm m (swp y p) ∈ S
theorem Iv.vis {m : Int} {a h : Q4} {S L : List Q4} (w : Iv m a S (L ++ [h])) : Iv m a (vis m h (S, L)).1 (K38.vis m h (S, L)).2 ∧ (K38.vis m h (S, L)).1.length + L.length = S.length + (K38.vis m h (S, L)).2.length ∧ S.length ≤ (K38.vis m h (S, L)).1.length := by
  have w0 : Iw m a h 0 (S, L) := ⟨w.mem, w.nd, w.sub h (by simp), fun y hy => w.sub y (List.mem_append_left _ hy), w.rc, fun y hy => by
    rcases w.cl y hy with z | z
    · rcases List.mem_append.mp z with z | z
      · exact .inl z
      · exact .inr (.inl (List.mem_singleton.mp z))
    · exact .inr (.inr z), fun p hp => by omega⟩
  obtain ⟨w1, c1, d1⟩ := w0.add (k := 0) (by decide)
  obtain ⟨w2, c2, d2⟩ := w1.add (k := 1) (by decide)
  obtain ⟨w3, c3, d3⟩ := w2.add (k := 2) (by decide)
  obtain ⟨w4, c4, d4⟩ := w3.add (k := 3) (by decide)
  unfold K38.vis
  refine ⟨⟨w4.mem, w4.nd, w4.sub, w4.rc, fun y hy => ?_⟩, ?_, ?_⟩
  · rcases w4.cl y hy with z | z | z
    · exact .inl z
    · subst z; exact .inr w4.hk
    · exact .inr z
  · dsimp only at c1 d1; omega
  · dsimp only at c1 d1; omega
theorem last_cases {α : Type} {L : List α} {h : α} (e : L.getLast? = some h) : L = L.dropLast ++ [h] := by
  rw [List.getLast?_eq_some_iff] at e
  obtain ⟨M, rfl⟩ := e
  rw [List.dropLast_concat]
theorem go_some {m : Int} {a : Q4} {N : Nat} (hN : ∀ S : List Q4, S.Nodup → (∀ y ∈ S, Rc m a y) → S.length ≤ N) : ∀ (n : Nat) (S L : List Q4), Iv m a S L → 2 * (N - S.length) + L.length ≤ n → ∃ S', go m n S L = some S' ∧ Iv m a S' []
  | n, S, L, w, hn => by
    unfold go
    cases e : L.getLast? with
    | none =>
      have : L = [] := List.getLast?_eq_none_iff.mp e
      subst this
      exact ⟨S, rfl, w⟩
    | some h =>
      have eL := last_cases e
      have w' := w
      rw [eL] at w'
      obtain ⟨w2, h1, h2⟩ := w'.vis
      have h3 := hN _ w2.nd w2.rc
      have h4 := hN _ w.nd w.rc
      have h5 : L.length = L.dropLast.length + 1 := by
        have := congrArg List.length eL
        rwa [List.length_append] at this
      cases n with
      | zero => omega
      | succ n => exact go_some hN n _ _ w2 (by omega)
theorem Iv.all {m : Int} {a : Q4} {S : List Q4} (w : Iv m a S []) {y : Q4} : y ∈ S ↔ Rc m a y := by
  refine ⟨w.rc y, fun h => ?_⟩
  induction h with
  | refl => exact w.mem
  | step _ hp ih =>
    rcases w.cl _ ih with z | z
    · cases z
    · exact z _ hp
theorem Iv.start (m : Int) (a : Q4) : Iv m a [a] [a] := ⟨List.mem_cons_self, by simp, fun y h => h, fun y h => by rw [List.mem_singleton.mp h]; exact .refl, fun y h => .inl h⟩
/-! ### how many -/
theorem pig : ∀ (N : Nat) (l : List Nat), l.Nodup → (∀ x ∈ l, x < N) → l.length ≤ N
  | 0, l, _, h => by
    cases l with
    | nil => exact Nat.le_refl _
    | cons x r => exact absurd (h x List.mem_cons_self) (by omega)
  | N + 1, l, hd, h => by
    have h1 := pig N (l.erase N) (hd.erase _) fun x hx => by
      have := h x (List.mem_of_mem_erase hx)
      have : x ≠ N := fun z => by subst z; exact (hd.not_mem_erase) hx
      omega
    have h2 := List.length_erase (a := N) (l := l)
    split at h2 <;> omega
theorem nodup_map {α : Type} {l : List α} (f : α → Nat) (hd : l.Nodup) (hf : ∀ x ∈ l, ∀ y ∈ l, f x = f y → x = y) : (l.map f).Nodup := by
  rw [List.nodup_iff_pairwise_ne, List.pairwise_map]
  rw [List.nodup_iff_pairwise_ne] at hd
  exact hd.imp_of_mem fun hx hy h z => h (hf _ hx _ hy z)
/-- entries that are rests -/
def Rs_ (m : Int) (q : Q4) : Prop := ∀ x ∈ li q, 0 ≤ x ∧ x < m
theorem rs_rm {m : Int} (hm : 0 < m) (q : Q4) : Rs_ m (rm m q) := fun x hx => by
  rw [li_rm] at hx
  obtain ⟨y, _, rfl⟩ := List.mem_map.mp hx
  exact ⟨Int.emod_nonneg _ (by omega), Int.emod_lt_of_pos _ hm⟩
theorem Rc.rs {m : Int} (hm : 0 < m) {a b : Q4} (h : Rc m a b) (ha : Rs_ m a) : Rs_ m b := by
  cases h with
  | refl => exact ha
  | step _ _ => exact rs_rm hm _
theorem Rc.even {m : Int} (h2 : m % 2 = 0) {a b : Q4} (h : Rc m a b) (ha : s4 a % 2 = 0) : s4 b % 2 = 0 := by
  induction h with
  | refl => exact ha
  | @step b p h hp ih =>
    have e1 : ∀ x : Int, x % m % 2 = x % 2 := fun x => Int.emod_emod_of_dvd x (Int.dvd_of_emod_eq_zero h2)
    have e2 : ∀ q : Q4, s4 (rm m q) % 2 = s4 q % 2 := fun q => by
      have h1 := e1 q.1; have h2 := e1 q.2.1; have h3 := e1 q.2.2.1; have h4 := e1 q.2.2.2
      show (q.1 % m + q.2.1 % m + q.2.2.1 % m + q.2.2.2 % m) % 2 = (q.1 + q.2.1 + q.2.2.1 + q.2.2.2) % 2
      omega
    rw [e2]
    obtain ⟨x, y, z, w⟩ := b
    rcases lt4 hp with rfl | rfl | rfl | rfl <;> simp only [s4, swp, fif, g4] at ih ⊢ <;> omega
theorem small5 {S : List Q4} (hd : S.Nodup) (h : ∀ q ∈ S, Rs_ 5 q) : S.length ≤ 625 := by
  have := pig 625 (S.map fun q => (((q.1 * 5 + q.2.1) * 5 + q.2.2.1) * 5 + q.2.2.2).toNat) (nodup_map _ hd fun x hx y hy e => ?_) fun n hn => ?_
  · rwa [List.length_map] at this
  · obtain ⟨a, b, c, d⟩ := x
    obtain ⟨a', b', c', d'⟩ := y
    have h1 := h _ hx; have h2 := h _ hy
    simp only [Rs_, li, List.mem_cons, List.mem_nil_iff, or_false, forall_eq_or_imp, forall_eq] at h1 h2
    dsimp only at e
    simp only [Prod.mk.injEq]
    omega
  · obtain ⟨x, hx, rfl⟩ := List.mem_map.mp hn
    obtain ⟨a, b, c, d⟩ := x
    have h1 := h _ hx
    simp only [Rs_, li, List.mem_cons, List.mem_nil_iff, or_false, forall_eq_or_imp, forall_eq] at h1
    dsimp only
    omega
theorem small6 {S : List Q4} (hd : S.Nodup) (h : ∀ q ∈ S, Rs_ 6 q) (h2 : ∀ q ∈ S, s4 q % 2 = 0) : S.length ≤ 648 := by
  have := pig 648 (S.map fun q => (((q.1 * 6 + q.2.1) * 6 + q.2.2.1) * 3 + q.2.2.2 / 2).toNat) (nodup_map _ hd fun x hx y hy e => ?_) fun n hn => ?_
  · rwa [List.length_map] at this
  · have g1 := h2 _ hx; have g2 := h2 _ hy
    obtain ⟨a, b, c, d⟩ := x
    obtain ⟨a', b', c', d'⟩ := y
    have h1 := h _ hx; have h2 := h _ hy
    simp only [Rs_, li, List.mem_cons, List.mem_nil_iff, or_false, forall_eq_or_imp, forall_eq] at h1 h2
    dsimp only at e
    have e3 : a = a' ∧ b = b' ∧ c = c' ∧ d / 2 = d' / 2 := by clear g1 g2; omega
    obtain ⟨rfl, rfl, rfl, e4⟩ := e3
    dsimp only [s4] at g1 g2
    clear e h1 h2
    have e5 : d % 2 = d' % 2 := by clear e4; omega
    have e6 : d = d' := by clear g1 g2; omega
    rw [e6]
  · obtain ⟨x, hx, rfl⟩ := List.mem_map.mp hn
    obtain ⟨a, b, c, d⟩ := x
    have h1 := h _ hx
    simp only [Rs_, li, List.mem_cons, List.mem_nil_iff, or_false, forall_eq_or_imp, forall_eq] at h1
    dsimp only
    omega
/-- the rests that a search finds -/
def ent (S : List Q4) : List Int := sdI (S.flatMap li)
theorem ent_mem {S : List Q4} {v : Int} : v ∈ ent S ↔ ∃ x ∈ S, v ∈ li x := by unfold ent; rw [sdI_mem, List.mem_flatMap]
theorem ent_eq {S T : List Q4} (h : ∀ q, q ∈ S ↔ q ∈ T) : ent S = ent T := sdI_of (sdI_sorted _) fun v => by
  show v ∈ ent S ↔ _
  rw [ent_mem, List.mem_flatMap]
  exact ⟨fun ⟨x, h1, h2⟩ => ⟨x, (h x).mp h1, h2⟩, fun ⟨x, h1, h2⟩ => ⟨x, (h x).mpr h1, h2⟩⟩
theorem len12 {m : Int} (hm : m ≤ 12) {l : List Int} (hd : l.Nodup) (h : ∀ v ∈ l, 0 ≤ v ∧ v < m) : l.length ≤ 12 := by
  have := pig 12 (l.map Int.toNat) ?_ fun n hn => ?_
  · rwa [List.length_map] at this
  · rw [List.nodup_iff_pairwise_ne, List.pairwise_map]
    rw [List.nodup_iff_pairwise_ne] at hd
    exact hd.imp_of_mem fun hx hy z e => z (by have := h _ hx; have := h _ hy; omega)
  · obtain ⟨x, hx, rfl⟩ := List.mem_map.mp hn
    have := h x hx
    omega
/-- what a search from a ends with -/
structure Sch (m : Int) (a : Q4) (S : List Q4) : Prop where
  go : go m 1300 [a] [a] = some S
  len : S.length ≤ 648
  iv : Iv m a S []
  rs : ∀ q ∈ S, Rs_ m q
theorem sch_of {m : Int} (h1 : 1 ≤ m) (h6 : m ≤ 6) {q : Q4} (he : s4 q % 2 = 0) : ∃ S, Sch m (rm m q) S := by
  have hN : ∀ S : List Q4, S.Nodup → (∀ y ∈ S, Rc m (rm m q) y) → S.length ≤ 648 := fun S hd hr => by
    have hrs : ∀ y ∈ S, Rs_ m y := fun y hy => (hr y hy).rs (by omega) (rs_rm (by omega) q)
    by_cases h : m = 6
    · subst h
      refine small6 hd hrs fun y hy => ?_
      have e2 : s4 (rm 6 q) % 2 = 0 := by
        show (q.1 % 6 + q.2.1 % 6 + q.2.2.1 % 6 + q.2.2.2 % 6) % 2 = 0
        have : (q.1 + q.2.1 + q.2.2.1 + q.2.2.2) % 2 = 0 := he
        omega
      exact (hr y hy).even (by decide) e2
    · exact Nat.le_trans (small5 hd fun y hy x hx => by have := hrs y hy x hx; omega) (by decide)
  obtain ⟨S, g1, g2⟩ := go_some hN 1300 [rm m q] [rm m q] (Iv.start m _) (by simp)
  exact ⟨S, g1, hN S g2.nd g2.rc, g2, fun y hy => (g2.rc y hy).rs (by omega) (rs_rm (by omega) q)⟩
theorem Sch.ent {m : Int} {q r : Q4} {S T : List Q4} (h1 : Sch m (rm m q) S) (h2 : Sch m (rm m r) T) (h : Rc m (rm m q) (rm m r)) : ent S = K38.ent T := ent_eq fun x => by
  rw [h1.iv.all, h2.iv.all]
  exact ⟨fun z => (h.symm (rm_rm m q)).trans z, fun z => h.trans z⟩
theorem Sch.in {m : Int} {q : Q4} {S : List Q4} (h : Sch m (rm m q) S) {x : Q4} (hx : Rc m (rm m q) x) {v : Int} (hv : v ∈ li x) : v ∈ K38.ent S := ent_mem.mpr ⟨x, h.iv.all.mpr hx, hv⟩
theorem Sch.ent_le {m : Int} (hm : m ≤ 12) {a : Q4} {S : List Q4} (h : ∀ q ∈ S, Rs_ m q) : (K38.ent S).length ≤ 12 := len12 hm (sdI_nodup _) fun v hv => by
  obtain ⟨x, h1, h2⟩ := ent_mem.mp hv
  exact h x h1 v h2
theorem even_of {q : Q4} (h : Des q) : s4 q % 2 = 0 := by
  have h1 : s4 q * s4 q % 2 = 0 := by rw [h.1, Int.mul_emod_right]
  rw [Int.mul_emod] at h1
  rcases (show s4 q % 2 = 0 ∨ s4 q % 2 = 1 by omega) with e | e
  · exact e
  · rw [e] at h1; cases h1

/-! ### rests_of, walked -/
def k4 (q : Q4) : List L2.Key := [.inl q.1, .inl q.2.1, .inl q.2.2.1, .inl q.2.2.2]
theorem k4_inj {q r : Q4} (h : k4 q = k4 r) : q = r := by
  obtain ⟨a, b, c, d⟩ := q
  obtain ⟨x, y, z, w⟩ := r
  simp only [k4, List.cons.injEq, Sum.inl.injEq] at h
  obtain ⟨rfl, rfl, rfl, rfl, _⟩ := h
  rfl
def KN (S : List Q4) : List (List L2.Key × D) := S.map fun q => (k4 q, .bool true)
theorem look_KN (S : List Q4) (q : Q4) : (lookD (KN S) (k4 q)).isSome = decide (q ∈ S) := by
  induction S with
  | nil => rfl
  | cons x S ih =>
    unfold lookD KN at *
    rw [List.map_cons, List.find?_cons]
    by_cases h : x = q
    · subst h; simp
    · have : ¬ k4 x = k4 q := fun z => h (k4_inj z)
      rw [show decide ((k4 x, PyData.bool true).1 = k4 q) = false from decide_eq_false this]
      have e : (q ∈ x :: S) = (q ∈ S) := by
        rw [List.mem_cons]
        exact propext ⟨fun z => z.resolve_left fun w => h w.symm, .inr⟩
      simp only [e]
      exact ih
theorem put_KN {S : List Q4} {q : Q4} (h : q ∉ S) : putD (KN S) (k4 q) (.bool true) = KN (S ++ [q]) := by
  unfold putD
  rw [look_KN, decide_eq_false h, if_neg Bool.false_ne_true]
  unfold KN
  rw [List.map_append]; rfl
theorem KN_len (S : List Q4) : (KN S).length = S.length := List.length_map ..
def modF (m : Int) : D → D
  | .int x => .int (x % m)
  | _ => .none
theorem tup_rm (m : Int) (q : Q4) : Bi.tuple.f [.list (((li q).map PyData.int).map (modF m))] = some (t4 (rm m q)) := rfl
theorem pop_at {G : Genv} {env : En} {i : Nat} {l : List D} {d : D} (h : heldAt env i = some (l ++ [d])) : Ev G (.pop i) env d (setHeld env i l) := by
  apply Ev.of
  unfold ev
  rw [h]
  show (match (l ++ [d]).getLast? with | some d => _ | none => _) = _
  rw [List.getLast?_concat]
  show Rs.ok (d, setHeld env i (l ++ [d]).dropLast) = _
  rw [List.dropLast_concat]
abbrev En8 (a0 a2 a3 a4 a5 a6 a7 a9 : Sl) (m : Int) : En := [a0, .pd (.int m), a2, a3, a4, a5, a6, a7, .no, a9]
theorem lcD {a0 a2 a3 a4 a5 a6 a7 a9 : Sl} {m : Int} {q : Q4} (hm : 0 < m) {e : E} (he : Ev (mkG gl L16) e (En8 a0 a2 a3 a4 a5 a6 a7 a9 m) (t4 q) (En8 a0 a2 a3 a4 a5 a6 a7 a9 m)) :
    Ev (mkG gl L16) (.bi .tuple (.cons (.lc (.bin .mod (.peek 8) (.peek 1)) (.nm 8) e .nil [("one", 8)]) .nil)) (En8 a0 a2 a3 a4 a5 a6 a7 a9 m) (t4 (rm m q)) (En8 a0 a2 a3 a4 a5 a6 a7 a9 m) := by
  have hc : cgo (asgT (.nm 8)) (condF (isNil .nil) (ev (mkG gl L16) .nil)) (ev (mkG gl L16) (.bin .mod (.peek 8) (.peek 1))) [8] ((li q).map PyData.int) (En8 a0 a2 a3 a4 a5 a6 a7 a9 m) [] =
      .ok ([] ++ (((li q).map PyData.int).filter fun _ => true).map (modF m), En8 a0 a2 a3 a4 a5 a6 a7 a9 m) := by
    refine cgo_map (modF m) _ _ _ fun x hx => ?_
    obtain ⟨v, _, rfl⟩ := List.mem_map.mp hx
    exact ⟨[a0, .pd (.int m), a2, a3, a4, a5, a6, a7, .pd (.int v), a9], .bool true, [a0, .pd (.int m), a2, a3, a4, a5, a6, a7, .pd (.int v), a9], rfl, rfl, rfl, (fun z => Bool.noConfusion z), fun _ => ⟨_, Ev.ok (Ev.binP (Ev.peek rfl) rfl rfl (mod_p hm)), rfl⟩⟩
  rw [List.nil_append, List.filter_eq_self.mpr (fun _ _ => rfl)] at hc
  exact Ev.bi (Ev.cons rfl (Ev.lc (l := (li q).map PyData.int) he rfl rfl hc rfl) Ev.nil) (tup_rm m q)
abbrev BD : S := .seq (.set false 7 (.bi .tuple (.cons (.lc (.bin .mod (.peek 8) (.peek 1)) (.nm 8) (.call 7 (.cons (.var 5) (.cons (.var 6) .nil))) .nil [("one", 8)]) .nil))) (.seq (.if_ (.din true (.var 7) 3) (.seq (.dput 3 (.var 7) (.cb true)) (.seq (.app 4 (.var 7)) .nil)) (.nil)) .nil)
theorem key_t4 (q : Q4) : keyOf (t4 q) = some (k4 q) := rfl
theorem stepD {a0 a2 : Sl} {o : Option D} {m : Int} {h : Q4} {p : Nat} {x : List Q4 × List Q4} (hm : 0 < m) (hp : p < 4) (h1 : x.1.length < 9000) (h2 : x.2.length < 9000) :
    evS (mkG gl L16) false BD [a0, .pd (.int m), a2, .dic (KN x.1), .own (x.2.map t4), .pd (t4 h), .pd (.int (p : Int)), op o, .no, .no] =
      .nx [a0, .pd (.int m), a2, .dic (KN (addp m h x p).1), .own ((addp m h x p).2.map t4), .pd (t4 h), .pd (.int (p : Int)), op (some (t4 (rm m (swp h p)))), .no, .no] := by
  have hz := PySem.sizeLine_eq
  have hset : setS [a0, .pd (.int m), a2, .dic (KN x.1), .own (x.2.map t4), .pd (t4 h), .pd (.int (p : Int)), op o, .no, .no] 7 (.pd (t4 (rm m (swp h p)))) = some [a0, .pd (.int m), a2, .dic (KN x.1), .own (x.2.map t4), .pd (t4 h), .pd (.int (p : Int)), .pd (t4 (rm m (swp h p))), .no, .no] := by cases o <;> rfl
  refine Evs.ok (Evs.seq (Evs.set (lcD hm (Ev.call rfl (Ev.cons rfl (Ev.var rfl) (Ev.cons rfl (Ev.var rfl) Ev.nil)) rfl (swapped_ok h hp))) hset) (Evs.seq ?_ Evs.nil))
  have hd := Ev.din (neg := true) (G := mkG gl L16) (a := .var 7) (i := 3) (env := [a0, .pd (.int m), a2, .dic (KN x.1), .own (x.2.map t4), .pd (t4 h), .pd (.int (p : Int)), .pd (t4 (rm m (swp h p))), .no, .no]) (Ev.var rfl) (key_t4 _) rfl
  rw [if_pos rfl, look_KN] at hd
  unfold addp
  by_cases hin : rm m (swp h p) ∈ x.1
  · rw [decide_eq_true hin] at hd
    rw [if_pos hin]
    exact Evs.ifF hd rfl Evs.nil
  · rw [decide_eq_false hin] at hd
    rw [if_neg hin]
    have e1 := put_KN hin
    refine Evs.ifT hd rfl (Evs.seq (Evs.dput (ks := k4 (rm m (swp h p))) (kvs := KN x.1) (kv0 := KN x.1) Ev.cb rfl (Ev.var rfl) rfl rfl (by rw [KN_len]; omega)) (Evs.seq ?_ Evs.nil))
    rw [e1]
    have e2 := Evs.app (G := mkG gl L16) (fr := false) (i := 4) (a := .var 7) (env := [a0, .pd (.int m), a2, .dic (KN (x.1 ++ [rm m (swp h p)])), .own (x.2.map t4), .pd (t4 h), .pd (.int (p : Int)), .pd (t4 (rm m (swp h p))), .no, .no]) (l := x.2.map t4) rfl (Ev.var rfl) rfl (by rw [List.length_map]; omega)
    have e3 : (x.2 ++ [rm m (swp h p)]).map t4 = x.2.map t4 ++ [t4 (rm m (swp h p))] := by rw [List.map_append]; rfl
    rw [e3]
    exact e2
theorem addp_len {m : Int} {h : Q4} {x : List Q4 × List Q4} {p : Nat} : (addp m h x p).1.length ≤ x.1.length + 1 ∧ (addp m h x p).2.length ≤ x.2.length + 1 := by
  unfold addp; split
  · omega
  · simp only [List.length_append, List.length_cons, List.length_nil]; omega
theorem visD {a0 a2 : Sl} {o6 o : Option D} {m : Int} {h : Q4} {x : List Q4 × List Q4} (hm : 0 < m) (h1 : x.1.length + 4 < 9000) (h2 : x.2.length + 4 < 9000) :
    forGo (asgT (.nm 6)) (evS (mkG gl L16) false BD) (rngD 0 4) [a0, .pd (.int m), a2, .dic (KN x.1), .own (x.2.map t4), .pd (t4 h), op o6, op o, .no, .no] =
      .nx [a0, .pd (.int m), a2, .dic (KN (vis m h x).1), .own ((vis m h x).2.map t4), .pd (t4 h), op (some (.int ((3 : Nat) : Int))), op (some (t4 (rm m (swp h 3)))), .no, .no] := by
  have l0 := addp_len (m := m) (h := h) (x := x) (p := 0)
  have l1 := addp_len (m := m) (h := h) (x := addp m h x 0) (p := 1)
  have l2 := addp_len (m := m) (h := h) (x := addp m h (addp m h x 0) 1) (p := 2)
  have hs : ∀ {S : List (List L2.Key × D)} {L : List D} {o6 o : Option D} {d : D}, asgT (.nm 6) d [a0, .pd (.int m), a2, .dic S, .own L, .pd (t4 h), op o6, op o, .no, .no] = some [a0, .pd (.int m), a2, .dic S, .own L, .pd (t4 h), op (some d), op o, .no, .no] := fun {S L o6 o d} => by cases o6 <;> rfl
  rw [rng4]
  refine forGo_cons hs (stepD hm (p := 0) (by decide) (by omega) (by omega)) ?_
  refine forGo_cons (hs (o6 := some _)) (stepD hm (p := 1) (by decide) (by omega) (by omega)) ?_
  refine forGo_cons (hs (o6 := some _)) (stepD hm (p := 2) (by decide) (by omega) (by omega)) ?_
  refine forGo_cons (hs (o6 := some _)) (stepD hm (p := 3) (by decide) (by omega) (by omega)) ?_
  rfl
theorem vis_len {m : Int} {h : Q4} {x : List Q4 × List Q4} : (vis m h x).1.length ≤ x.1.length + 4 ∧ (vis m h x).2.length ≤ x.2.length + 4 := by
  have l0 := addp_len (m := m) (h := h) (x := x) (p := 0)
  have l1 := addp_len (m := m) (h := h) (x := addp m h x 0) (p := 1)
  have l2 := addp_len (m := m) (h := h) (x := addp m h (addp m h x 0) 1) (p := 2)
  have l3 := addp_len (m := m) (h := h) (x := addp m h (addp m h (addp m h x 0) 1) 2) (p := 3)
  unfold vis
  omega
theorem okI_t4 (q : Q4) : okI (t4 q) = true := rfl
theorem ne_t4 (L : List Q4) : Cop.ne.f (.list (L.map t4)) (.list []) = some (.bool (!(L.map t4).isEmpty)) := ne_nil fun x hx => by
  obtain ⟨s, _, rfl⟩ := List.mem_map.mp hx
  exact okI_t4 s
theorem goD {a0 a2 : Sl} {m : Int} (hm : 0 < m) : ∀ (n : Nat) (S L S' : List Q4) (fuel : Nat) (o5 o6 o7 : Option D), go m n S L = some S' → n < fuel → S.length + 4 * n + 4 < 9000 → L.length + 4 * n + 4 < 9000 → ∃ o5' o6' o7' : Option D,
    whGo (ev (mkG gl L16) (.cmp .ne (.peek 4) (.lst (.nil)))) (evS (mkG gl L16) false (.seq (.set false 5 (.pop 4)) (.seq (.for_ (.nm 6) (.rng1 (.ci 4)) BD) .nil))) fuel [a0, .pd (.int m), a2, .dic (KN S), .own (L.map t4), op o5, op o6, op o7, .no, .no] =
      .nx [a0, .pd (.int m), a2, .dic (KN S'), .own [], op o5', op o6', op o7', .no, .no] := by
  intro n
  induction n with
  | zero =>
    intro S L S' fuel o5 o6 o7 hg hf _ _
    obtain ⟨k, rfl⟩ : ∃ k, fuel = k + 1 := ⟨fuel - 1, by omega⟩
    unfold go at hg
    cases e : L.getLast? with
    | some h => rw [e] at hg; cases hg
    | none =>
      rw [e] at hg; cases hg
      have : L = [] := List.getLast?_eq_none_iff.mp e
      subst this
      exact ⟨o5, o6, o7, whGo_F (x := .bool false) (Ev.ok (Ev.cmpP (Ev.lst Ev.nil (Nat.zero_le _)) rfl rfl (ne_t4 []))) rfl⟩
  | succ n ih =>
    intro S L S' fuel o5 o6 o7 hg hf hS hL
    obtain ⟨k, rfl⟩ : ∃ k, fuel = k + 1 := ⟨fuel - 1, by omega⟩
    unfold go at hg
    cases e : L.getLast? with
    | none =>
      rw [e] at hg; cases hg
      have : L = [] := List.getLast?_eq_none_iff.mp e
      subst this
      exact ⟨o5, o6, o7, whGo_F (x := .bool false) (Ev.ok (Ev.cmpP (Ev.lst Ev.nil (Nat.zero_le _)) rfl rfl (ne_t4 []))) rfl⟩
    | some h =>
      rw [e] at hg
      dsimp only at hg
      have eL := last_cases e
      generalize L.dropLast = M at eL hg
      subst eL
      rw [List.length_append] at hL
      have lv := vis_len (m := m) (h := h) (x := (S, M))
      dsimp only at lv
      have hL' : M.length + 1 + 4 * (n + 1) + 4 < 9000 := hL
      obtain ⟨o5', o6', o7', ih'⟩ := ih _ _ S' k (some (t4 h)) (some (.int ((3 : Nat) : Int))) (some (t4 (rm m (swp h 3)))) hg (by omega) (by omega) (by omega)
      refine ⟨o5', o6', o7', ?_⟩
      have em : (M ++ [h]).map t4 = M.map t4 ++ [t4 h] := by rw [List.map_append]; rfl
      have hpop := pop_at (G := mkG gl L16) (i := 4) (env := [a0, .pd (.int m), a2, .dic (KN S), .own (M.map t4 ++ [t4 h]), op o5, op o6, op o7, .no, .no]) (l := M.map t4) (d := t4 h) rfl
      have hset : setS (setHeld [a0, .pd (.int m), a2, .dic (KN S), .own (M.map t4 ++ [t4 h]), op o5, op o6, op o7, .no, .no] 4 (M.map t4)) 5 (.pd (t4 h)) = some [a0, .pd (.int m), a2, .dic (KN S), .own (M.map t4), .pd (t4 h), op o6, op o7, .no, .no] := by cases o5 <;> rfl
      have hne := ne_t4 (M ++ [h])
      rw [em] at hne
      rw [em, whGo_T (x := .bool (!(M.map t4 ++ [t4 h]).isEmpty)) (Ev.ok (Ev.cmpP (Ev.lst Ev.nil (Nat.zero_le _)) rfl rfl hne)) (by cases M <;> rfl) (.inl (Evs.ok (Evs.seq (Evs.set hpop hset) (Evs.seq (Evs.for_ (Ev.rng1 Ev.ci rfl) rfl (visD (x := (S, M)) hm (by show S.length + 4 < 9000; omega) (by show M.length + 4 < 9000; omega))) Evs.nil))))]
      exact ih'
theorem flat_t4 : ∀ S : List Q4, flatD (S.map t4) = some ((S.flatMap li).map PyData.int)
  | [] => rfl
  | q :: S => by
    rw [List.map_cons, List.flatMap_cons, List.map_append]
    unfold flatD
    rw [flat_t4 S]; rfl
theorem flat_len (S : List Q4) : (S.flatMap li).length = 4 * S.length := by
  induction S with
  | nil => rfl
  | cons q S ih => rw [List.flatMap_cons, List.length_append, ih, List.length_cons]; show 4 + _ = _; omega
theorem KN_items (S : List Q4) : ((KN S).map fun kv => PyData.tuple (kv.1.map kD)) = S.map t4 := by
  unfold KN; rw [List.map_map]; rfl
theorem rests_of_ok {n : Nat} {q r : Q4} {m : Int} {S : List Q4} (h : Dn n q r) (hd : Des q) (hn : n < 900) (hf : isFour (t4 q) = true) (h1 : 1 ≤ m) (h12 : m ≤ 12) (hgo : go m 1300 [rm m r] [rm m r] = some S) (hl : S.length ≤ 648) (he : (ent S).length ≤ 12) :
    sem16.f [t4 q, .int m] = Rs.ok (.tuple ((ent S).map PyData.int), []) := by
  have hz := PySem.sizeLine_eq
  obtain ⟨f, hdn⟩ := down_in_ok h hd hn
  obtain ⟨o5, o6, o7, hw⟩ := goD (a0 := .pd (t4 q)) (a2 := .pd (t4 (rm m r))) (m := m) (by omega) 1300 [rm m r] [rm m r] S 1000000 none none none hgo (by decide) (by show 1 + 4 * 1300 + 4 < 9000; decide) (by show 1 + 4 * 1300 + 4 < 9000; decide)
  have hfit : fitW (.int m) 1 12 = true := by
    show (decide (1 ≤ m) && decide (m ≤ 12)) = true
    rw [decide_eq_true h1, decide_eq_true h12]; rfl
  have hone := fits_whole_ok (d := .int m) (lo := 1) (hi := 12) rfl
  rw [hfit] at hone
  have hkeys : Ev (mkG gl L16) (.dkeys 3) [.pd (t4 q), .pd (.int m), .pd (t4 (rm m r)), .dic (KN S), .own [], op o5, op o6, op o7, .no, .no] (.list (S.map t4)) [.pd (t4 q), .pd (.int m), .pd (t4 (rm m r)), .no, .own [], op o5, op o6, op o7, .no, .no] := by
    have := Ev.dkeys (G := mkG gl L16) (i := 3) (env := [.pd (t4 q), .pd (.int m), .pd (t4 (rm m r)), .dic (KN S), .own [], op o5, op o6, op o7, .no, .no]) (kvs := KN S) rfl
    rw [KN_items] at this
    exact this
  have hflat := Ev.flat (own := [("own", 9), ("one", 8)]) (j := 9) (k := 8) hkeys rfl (flat_t4 S) rfl (by rw [List.length_map, flat_len]; omega) (by show 9 < 10; decide) (by show 8 < 10; decide)
  have hss := Ev.sset hflat (by rw [flat_len]; omega) (by show (ent S).length < 64; omega)
  apply sem_rt (F := f_rests_of) (e1 := [.pd (t4 q), .pd (.int m), .pd (t4 (rm m r)), .no, .own [], op o5, op o6, op o7, .no, .no])
  case hh => rfl
  case h =>
    show Evs _ _ b_rests_of [Sl.pd (t4 q), .pd (.int m), .no, .no, .no, .no, .no, .no, .no, .no] _
    unfold b_rests_of
    refine Evs.seq (Evs.expr (Ev.call rfl (Ev.cons rfl (Ev.var rfl) Ev.nil) rfl (need_four_ok rfl hf))) ?_
    refine Evs.seq (Evs.ifF (Ev.not (Ev.call rfl (Ev.cons rfl (Ev.var rfl) (Ev.cons rfl Ev.ci (Ev.cons rfl Ev.ci Ev.nil))) rfl hone) rfl) rfl Evs.nil) ?_
    refine Evs.seq (Evs.set (lcD (m := m) (q := r) (by omega) (Ev.idx rfl (Ev.call rfl (Ev.cons rfl (Ev.var rfl) Ev.nil) rfl hdn) Ev.ci rfl)) rfl) ?_
    refine Evs.seq (Evs.parD (Ev.var rfl) Ev.cb (key_t4 _) (Ev.lst (Ev.cons rfl (Ev.var rfl) Ev.nil) (by show 1 ≤ _; omega)) rfl rfl) ?_
    refine Evs.seq (Evs.while_ hw) ?_
    exact Evs.seqX (Evs.ret (Ev.bi (Ev.cons rfl hss Ev.nil) rfl) rfl) (fun _ z => nomatch z)

/-! ### the law's own rests -/
abbrev En9 (a0 a2 a3 a4 a5 a6 a7 a8 : Sl) (m : Int) : En := [a0, .pd (.int m), a2, a3, a4, a5, a6, a7, a8, .no]
theorem lcE {a0 a2 a3 a4 a5 a6 a7 a8 : Sl} {m : Int} {q : Q4} (hm : 0 < m) {e : E} (he : Ev (mkG gl L28) e (En9 a0 a2 a3 a4 a5 a6 a7 a8 m) (t4 q) (En9 a0 a2 a3 a4 a5 a6 a7 a8 m)) :
    Ev (mkG gl L28) (.bi .tuple (.cons (.lc (.bin .mod (.bi .int (.cons (.peek 9) .nil)) (.peek 1)) (.nm 9) e .nil [("one", 9)]) .nil)) (En9 a0 a2 a3 a4 a5 a6 a7 a8 m) (t4 (rm m q)) (En9 a0 a2 a3 a4 a5 a6 a7 a8 m) := by
  have hc : cgo (asgT (.nm 9)) (condF (isNil .nil) (ev (mkG gl L28) .nil)) (ev (mkG gl L28) (.bin .mod (.bi .int (.cons (.peek 9) .nil)) (.peek 1))) [9] ((li q).map PyData.int) (En9 a0 a2 a3 a4 a5 a6 a7 a8 m) [] =
      .ok ([] ++ (((li q).map PyData.int).filter fun _ => true).map (modF m), En9 a0 a2 a3 a4 a5 a6 a7 a8 m) := by
    refine cgo_map (modF m) _ _ _ fun x hx => ?_
    obtain ⟨v, _, rfl⟩ := List.mem_map.mp hx
    exact ⟨[a0, .pd (.int m), a2, a3, a4, a5, a6, a7, a8, .pd (.int v)], .bool true, [a0, .pd (.int m), a2, a3, a4, a5, a6, a7, a8, .pd (.int v)], rfl, rfl, rfl, (fun z => Bool.noConfusion z), fun _ => ⟨_, Ev.ok (Ev.bin rfl (Ev.bi (Ev.consP Ev.nil rfl rfl) rfl) (Ev.peek rfl) (mod_p hm)), rfl⟩⟩
  rw [List.nil_append, List.filter_eq_self.mpr (fun _ _ => rfl)] at hc
  exact Ev.bi (Ev.cons rfl (Ev.lc (l := (li q).map PyData.int) he rfl rfl hc rfl) Ev.nil) (tup_rm m q)
abbrev BE : S := .seq (.set false 8 (.bi .tuple (.cons (.lc (.bin .mod (.bi .int (.cons (.peek 9) .nil)) (.peek 1)) (.nm 9) (.call 26 (.cons (.var 4) (.cons (.var 7) .nil))) .nil [("one", 9)]) .nil))) (.seq (.if_ (.din true (.var 8) 5) (.seq (.dput 5 (.var 8) (.cb true)) (.seq (.app 6 (.var 8)) .nil)) (.nil)) .nil)
theorem stepE {a0 a2 : Sl} {o : Option D} {m : Int} {h : Q4} {p : Nat} {x : List Q4 × List Q4} (hm : 0 < m) (hp : p < 4) (h1 : x.1.length < 9000) (h2 : x.2.length < 9000) :
    evS (mkG gl L28) false BE [a0, .pd (.int m), a2, .no, .pd (t4 h), .dic (KN x.1), .own (x.2.map t4), .pd (.int (p : Int)), op o, .no] =
      .nx [a0, .pd (.int m), a2, .no, .pd (t4 h), .dic (KN (addp m h x p).1), .own ((addp m h x p).2.map t4), .pd (.int (p : Int)), op (some (t4 (rm m (swp h p)))), .no] := by
  have hz := PySem.sizeLine_eq
  have hset : setS [a0, .pd (.int m), a2, .no, .pd (t4 h), .dic (KN x.1), .own (x.2.map t4), .pd (.int (p : Int)), op o, .no] 8 (.pd (t4 (rm m (swp h p)))) = some [a0, .pd (.int m), a2, .no, .pd (t4 h), .dic (KN x.1), .own (x.2.map t4), .pd (.int (p : Int)), .pd (t4 (rm m (swp h p))), .no] := by cases o <;> rfl
  refine Evs.ok (Evs.seq (Evs.set (lcE hm (Ev.call rfl (Ev.cons rfl (Ev.var rfl) (Ev.cons rfl (Ev.var rfl) Ev.nil)) rfl (law_swapped_ok h hp))) hset) (Evs.seq ?_ Evs.nil))
  have hd := Ev.din (neg := true) (G := mkG gl L28) (a := .var 8) (i := 5) (env := [a0, .pd (.int m), a2, .no, .pd (t4 h), .dic (KN x.1), .own (x.2.map t4), .pd (.int (p : Int)), .pd (t4 (rm m (swp h p))), .no]) (Ev.var rfl) (key_t4 _) rfl
  rw [if_pos rfl, look_KN] at hd
  unfold addp
  by_cases hin : rm m (swp h p) ∈ x.1
  · rw [decide_eq_true hin] at hd
    rw [if_pos hin]
    exact Evs.ifF hd rfl Evs.nil
  · rw [decide_eq_false hin] at hd
    rw [if_neg hin]
    have e1 := put_KN hin
    refine Evs.ifT hd rfl (Evs.seq (Evs.dput (ks := k4 (rm m (swp h p))) (kvs := KN x.1) (kv0 := KN x.1) Ev.cb rfl (Ev.var rfl) rfl rfl (by rw [KN_len]; omega)) (Evs.seq ?_ Evs.nil))
    rw [e1]
    have e2 := Evs.app (G := mkG gl L28) (fr := false) (i := 6) (a := .var 8) (env := [a0, .pd (.int m), a2, .no, .pd (t4 h), .dic (KN (x.1 ++ [rm m (swp h p)])), .own (x.2.map t4), .pd (.int (p : Int)), .pd (t4 (rm m (swp h p))), .no]) (l := x.2.map t4) rfl (Ev.var rfl) rfl (by rw [List.length_map]; omega)
    have e3 : (x.2 ++ [rm m (swp h p)]).map t4 = x.2.map t4 ++ [t4 (rm m (swp h p))] := by rw [List.map_append]; rfl
    rw [e3]
    exact e2
theorem visE {a0 a2 : Sl} {o7 o : Option D} {m : Int} {h : Q4} {x : List Q4 × List Q4} (hm : 0 < m) (h1 : x.1.length + 4 < 9000) (h2 : x.2.length + 4 < 9000) :
    forGo (asgT (.nm 7)) (evS (mkG gl L28) false BE) (rngD 0 4) [a0, .pd (.int m), a2, .no, .pd (t4 h), .dic (KN x.1), .own (x.2.map t4), op o7, op o, .no] =
      .nx [a0, .pd (.int m), a2, .no, .pd (t4 h), .dic (KN (vis m h x).1), .own ((vis m h x).2.map t4), op (some (.int ((3 : Nat) : Int))), op (some (t4 (rm m (swp h 3)))), .no] := by
  have l0 := addp_len (m := m) (h := h) (x := x) (p := 0)
  have l1 := addp_len (m := m) (h := h) (x := addp m h x 0) (p := 1)
  have l2 := addp_len (m := m) (h := h) (x := addp m h (addp m h x 0) 1) (p := 2)
  have hs : ∀ {S : List (List L2.Key × D)} {L : List D} {o7 o : Option D} {d : D}, asgT (.nm 7) d [a0, .pd (.int m), a2, .no, .pd (t4 h), .dic S, .own L, op o7, op o, .no] = some [a0, .pd (.int m), a2, .no, .pd (t4 h), .dic S, .own L, op (some d), op o, .no] := fun {S L o7 o d} => by cases o7 <;> rfl
  rw [rng4]
  refine forGo_cons hs (stepE hm (p := 0) (by decide) (by omega) (by omega)) ?_
  refine forGo_cons (hs (o7 := some _)) (stepE hm (p := 1) (by decide) (by omega) (by omega)) ?_
  refine forGo_cons (hs (o7 := some _)) (stepE hm (p := 2) (by decide) (by omega) (by omega)) ?_
  refine forGo_cons (hs (o7 := some _)) (stepE hm (p := 3) (by decide) (by omega) (by omega)) ?_
  rfl
theorem goE {a0 a2 : Sl} {m : Int} (hm : 0 < m) : ∀ (n : Nat) (S L S' : List Q4) (fuel : Nat) (o4 o7 o8 : Option D), go m n S L = some S' → n < fuel → S.length + 4 * n + 4 < 9000 → L.length + 4 * n + 4 < 9000 → ∃ o4' o7' o8' : Option D,
    whGo (ev (mkG gl L28) (.cmp .ne (.peek 6) (.lst (.nil)))) (evS (mkG gl L28) false (.seq (.par2 4 false (.idx (.peek 6) (.neg (.ci 1))) 6 true (.sl (.peek 6) .nil (.neg (.ci 1)))) (.seq (.for_ (.nm 7) (.rng1 (.ci 4)) BE) .nil))) fuel [a0, .pd (.int m), a2, .no, op o4, .dic (KN S), .own (L.map t4), op o7, op o8, .no] =
      .nx [a0, .pd (.int m), a2, .no, op o4', .dic (KN S'), .own [], op o7', op o8', .no] := by
  intro n
  induction n with
  | zero =>
    intro S L S' fuel o4 o7 o8 hg hf _ _
    obtain ⟨k, rfl⟩ : ∃ k, fuel = k + 1 := ⟨fuel - 1, by omega⟩
    unfold go at hg
    cases e : L.getLast? with
    | some h => rw [e] at hg; cases hg
    | none =>
      rw [e] at hg; cases hg
      have : L = [] := List.getLast?_eq_none_iff.mp e
      subst this
      exact ⟨o4, o7, o8, whGo_F (x := .bool false) (Ev.ok (Ev.cmpP (Ev.lst Ev.nil (Nat.zero_le _)) rfl rfl (ne_t4 []))) rfl⟩
  | succ n ih =>
    intro S L S' fuel o4 o7 o8 hg hf hS hL
    obtain ⟨k, rfl⟩ : ∃ k, fuel = k + 1 := ⟨fuel - 1, by omega⟩
    unfold go at hg
    cases e : L.getLast? with
    | none =>
      rw [e] at hg; cases hg
      have : L = [] := List.getLast?_eq_none_iff.mp e
      subst this
      exact ⟨o4, o7, o8, whGo_F (x := .bool false) (Ev.ok (Ev.cmpP (Ev.lst Ev.nil (Nat.zero_le _)) rfl rfl (ne_t4 []))) rfl⟩
    | some h =>
      rw [e] at hg
      dsimp only at hg
      have eL := last_cases e
      generalize L.dropLast = M at eL hg
      subst eL
      rw [List.length_append] at hL
      have lv := vis_len (m := m) (h := h) (x := (S, M))
      dsimp only at lv
      have hL' : M.length + 1 + 4 * (n + 1) + 4 < 9000 := hL
      obtain ⟨o4', o7', o8', ih'⟩ := ih _ _ S' k (some (t4 h)) (some (.int ((3 : Nat) : Int))) (some (t4 (rm m (swp h 3)))) hg (by omega) (by omega) (by omega)
      refine ⟨o4', o7', o8', ?_⟩
      have em : (M ++ [h]).map t4 = M.map t4 ++ [t4 h] := by rw [List.map_append]; rfl
      have hs4 : ((setS [a0, .pd (.int m), a2, .no, op o4, .dic (KN S), .own (M.map t4 ++ [t4 h]), op o7, op o8, .no] 4 (.pd (t4 h)))) = some [a0, .pd (.int m), a2, .no, .pd (t4 h), .dic (KN S), .own (M.map t4 ++ [t4 h]), op o7, op o8, .no] := by cases o4 <;> rfl
      have hne := ne_t4 (M ++ [h])
      rw [em] at hne
      have h1 : Ev (mkG gl L28) (.idx (.peek 6) (.neg (.ci 1))) [a0, .pd (.int m), a2, .no, op o4, .dic (KN S), .own (M.map t4 ++ [t4 h]), op o7, op o8, .no] (t4 h) [a0, .pd (.int m), a2, .no, op o4, .dic (KN S), .own (M.map t4 ++ [t4 h]), op o7, op o8, .no] :=
        Ev.idxP (Ev.neg Ev.ci) rfl rfl (at_last _ _)
      have h2 : Ev (mkG gl L28) (.sl (.peek 6) .nil (.neg (.ci 1))) [a0, .pd (.int m), a2, .no, op o4, .dic (KN S), .own (M.map t4 ++ [t4 h]), op o7, op o8, .no] (.list (M.map t4)) [a0, .pd (.int m), a2, .no, op o4, .dic (KN S), .own (M.map t4 ++ [t4 h]), op o7, op o8, .no] :=
        Ev.slP rfl Evp.nil (Evp.some rfl (Ev.neg Ev.ci)) rfl (sl_last _ _)
      rw [em, whGo_T (x := .bool (!(M.map t4 ++ [t4 h]).isEmpty)) (Ev.ok (Ev.cmpP (Ev.lst Ev.nil (Nat.zero_le _)) rfl rfl hne)) (by cases M <;> rfl) (.inl (Evs.ok (Evs.seq (Evs.par2 (e4 := [a0, .pd (.int m), a2, .no, .pd (t4 h), .dic (KN S), .own (M.map t4), op o7, op o8, .no]) h1 h2 hs4 rfl) (Evs.seq (Evs.for_ (Ev.rng1 Ev.ci rfl) rfl (visE (x := (S, M)) hm (by show S.length + 4 < 9000; omega) (by show M.length + 4 < 9000; omega))) Evs.nil))))]
      exact ih'
/-! ### the table of rests -/
def FD (ks : List Int) : List (L2.Key × D) := ks.map fun i => (.inl i, .bool true)
def ins (ks : List Int) (i : Int) : List Int := if i ∈ ks then ks else ks ++ [i]
theorem any_FD (ks : List Int) (i : Int) : ((FD ks).any fun kv => decide (kv.1 = .inl i)) = decide (i ∈ ks) := by
  induction ks with
  | nil => rfl
  | cons k ks ih =>
    show (decide ((Sum.inl k : L2.Key) = .inl i) || (FD ks).any _) = _
    rw [ih]
    by_cases h : k = i
    · subst h; simp
    · have h2 : ¬ (Sum.inl k : L2.Key) = .inl i := fun z => h (Sum.inl.inj z)
      have h3 : ¬ i = k := fun z => h z.symm
      simp [h2, h3, h]
theorem put_FD (ks : List Int) (i : Int) : putQ (FD ks) (.inl i) (.bool true) = FD (ins ks i) := by
  unfold putQ ins
  rw [any_FD]
  by_cases h : i ∈ ks
  · rw [if_pos h, if_pos (decide_eq_true h)]
    unfold FD
    rw [List.map_map]
    refine List.map_congr_left fun x _ => ?_
    show (if (Sum.inl x : L2.Key) = .inl i then _ else _) = _
    split <;> rfl
  · rw [if_neg h, decide_eq_false h, if_neg Bool.false_ne_true]
    unfold FD
    rw [List.map_append]; rfl
theorem mergQ_FD : ∀ (l ks : List Int), mergQ (FD ks) (FD l) = FD (l.foldl ins ks)
  | [], _ => rfl
  | i :: l, ks => by
    show mergQ (putQ (FD ks) (.inl i) (.bool true)) (FD l) = FD (l.foldl ins (ins ks i))
    rw [put_FD, mergQ_FD l]
theorem ins_mem {ks : List Int} {i v : Int} : v ∈ ins ks i ↔ v ∈ ks ∨ v = i := by
  unfold ins; split
  · rename_i h
    exact ⟨.inl, fun z => z.elim id fun w => w ▸ h⟩
  · simp
theorem ins_nd {ks : List Int} {i : Int} (h : ks.Nodup) : (ins ks i).Nodup := by
  unfold ins; split
  · exact h
  · rename_i hn
    rw [List.nodup_append]
    exact ⟨h, by simp, fun y hy z hz => by rw [List.mem_singleton.mp hz]; exact fun q => hn (q ▸ hy)⟩
theorem inss : ∀ (l ks : List Int), ks.Nodup → (l.foldl ins ks).Nodup ∧ ∀ v, v ∈ l.foldl ins ks ↔ v ∈ ks ∨ v ∈ l
  | [], ks, h => ⟨h, fun v => by simp⟩
  | i :: l, ks, h => by
    obtain ⟨h1, h2⟩ := inss l (ins ks i) (ins_nd h)
    refine ⟨h1, fun v => ?_⟩
    rw [List.foldl_cons, h2, ins_mem, List.mem_cons]
    exact ⟨fun z => z.elim (fun w => w.elim .inl fun u => .inr (.inl u)) fun w => .inr (.inr w), fun z => z.elim (fun w => .inl (.inl w)) fun w => w.elim (fun u => .inl (.inr u)) .inr⟩
def FK (ks : List Int) (q : Q4) : List Int := ((li q).foldl ins []).foldl ins ks
theorem FK_ok {ks : List Int} {q : Q4} (h : ks.Nodup) : (FK ks q).Nodup ∧ ∀ v, v ∈ FK ks q ↔ v ∈ ks ∨ v ∈ li q := by
  obtain ⟨h1, h2⟩ := inss (li q) [] List.nodup_nil
  obtain ⟨h3, h4⟩ := inss ((li q).foldl ins []) ks h
  refine ⟨h3, fun v => ?_⟩
  unfold FK
  rw [h4, h2]; simp
theorem FKs_ok : ∀ (S : List Q4) (ks : List Int), ks.Nodup → (S.foldl FK ks).Nodup ∧ ∀ v, v ∈ S.foldl FK ks ↔ v ∈ ks ∨ v ∈ S.flatMap li
  | [], ks, h => ⟨h, fun v => by simp⟩
  | q :: S, ks, h => by
    obtain ⟨g1, g2⟩ := FK_ok (q := q) h
    obtain ⟨h1, h2⟩ := FKs_ok S (FK ks q) g1
    refine ⟨h1, fun v => ?_⟩
    rw [List.foldl_cons, h2, g2, List.flatMap_cons, List.mem_append]
    exact or_assoc
theorem keyInts_FD : ∀ ks : List Int, keyInts (FD ks) = some ks
  | [] => rfl
  | k :: ks => by
    show (keyInts (FD ks)).map (k :: ·) = _
    rw [keyInts_FD ks]; rfl
def prF : D → D := fun x => .tuple [x, .bool true]
theorem prs_FD : ∀ l : List Int, pairsD ((l.map PyData.int).map prF) = some (FD l)
  | [] => rfl
  | i :: l => by
    show (pairsD ((l.map PyData.int).map prF)).map ((Sum.inl i, PyData.bool true) :: ·) = _
    rw [prs_FD l]; rfl
abbrev BF : S := .seq (.kupd 3 (.lc (.tup (.cons (.var 9) (.cons (.cb true) .nil))) (.nm 9) (.var 4) .nil [("one", 9)])) .nil
theorem stepF {a0 a1 a2 a5 a6 a7 a8 : Sl} {ks : List Int} {q : Q4} (hl : ks.length ≤ 12) :
    evS (mkG gl L28) false BF [a0, a1, a2, .dik (FD ks), .pd (t4 q), a5, a6, a7, a8, .no] = .nx [a0, a1, a2, .dik (FD (FK ks q)), .pd (t4 q), a5, a6, a7, a8, .no] := by
  have hz := PySem.sizeLine_eq
  have hc : cgo (asgT (.nm 9)) (condF (isNil .nil) (ev (mkG gl L28) .nil)) (ev (mkG gl L28) (.tup (.cons (.var 9) (.cons (.cb true) .nil)))) [9] ((li q).map PyData.int) [a0, a1, a2, .dik (FD ks), .pd (t4 q), a5, a6, a7, a8, .no] [] =
      .ok ([] ++ (((li q).map PyData.int).filter fun _ => true).map prF, [a0, a1, a2, .dik (FD ks), .pd (t4 q), a5, a6, a7, a8, .no]) := by
    refine cgo_map prF _ _ _ fun x hx => ?_
    exact ⟨[a0, a1, a2, .dik (FD ks), .pd (t4 q), a5, a6, a7, a8, .pd x], .bool true, [a0, a1, a2, .dik (FD ks), .pd (t4 q), a5, a6, a7, a8, .pd x], rfl, rfl, rfl, (fun z => Bool.noConfusion z), fun _ => ⟨_, Ev.ok (Ev.tup (Ev.cons rfl (Ev.var rfl) (Ev.cons rfl Ev.cb Ev.nil)) (by show 2 ≤ _; omega)), rfl⟩⟩
  rw [List.nil_append, List.filter_eq_self.mpr (fun _ _ => rfl)] at hc
  have h1 := Evs.kupd (G := mkG gl L28) (fr := false) (i := 3) (env := [a0, a1, a2, .dik (FD ks), .pd (t4 q), a5, a6, a7, a8, .no]) (kvs := FD ks) (kv0 := FD ks) rfl (Ev.lc (l := (li q).map PyData.int) (elt := .tup (.cons (.var 9) (.cons (.cb true) .nil))) (tg := .nm 9) (cond := .nil) (own := [("one", 9)]) (Ev.var (i := 4) rfl) rfl rfl hc rfl) rfl (prs_FD (li q)) (by unfold FD; rw [List.length_map, List.length_map]; show _ + 4 ≤ _; omega)
  rw [show mergQ [] (FD (li q)) = FD ((li q).foldl ins []) from mergQ_FD (li q) [], mergQ_FD] at h1
  exact Evs.ok (Evs.seq h1 Evs.nil)
theorem goF {a0 a1 a2 a5 a6 a7 a8 : Sl} {m : Int} (hm : m ≤ 12) : ∀ (S : List Q4) (ks : List Int) (o4 : Option D), ks.Nodup → (∀ v ∈ ks, 0 ≤ v ∧ v < m) → (∀ q ∈ S, Rs_ m q) → ∃ o4' : Option D,
    forGo (asgT (.nm 4)) (evS (mkG gl L28) false BF) (S.map t4) [a0, a1, a2, .dik (FD ks), op o4, a5, a6, a7, a8, .no] = .nx [a0, a1, a2, .dik (FD (S.foldl FK ks)), op o4', a5, a6, a7, a8, .no]
  | [], ks, o4, _, _, _ => ⟨o4, rfl⟩
  | q :: S, ks, o4, h1, h2, h3 => by
    obtain ⟨g1, g2⟩ := FK_ok (q := q) h1
    obtain ⟨o, e⟩ := goF hm S (FK ks q) (some (t4 q)) g1 (fun v hv => by
      rcases (g2 v).mp hv with z | z
      · exact h2 v z
      · exact h3 q List.mem_cons_self v z) fun x hx => h3 x (List.mem_cons_of_mem _ hx)
    refine ⟨o, ?_⟩
    rw [List.map_cons]
    exact forGo_cons (by cases o4 <;> rfl) (stepF (len12 hm h1 h2)) e
theorem law_rests_ok {q : Q4} {m : Int} {S : List Q4} (h1 : 1 ≤ m) (h12 : m ≤ 12) (hgo : go m 1300 [rm m q] [rm m q] = some S) (hr : ∀ x ∈ S, Rs_ m x) :
    sem28.f [t4 q, .int m] = Rs.ok (.tuple ((ent S).map PyData.int), []) := by
  have hz := PySem.sizeLine_eq
  obtain ⟨o4, o7, o8, hw⟩ := goE (a0 := .pd (t4 q)) (a2 := .pd (t4 (rm m q))) (m := m) (by omega) 1300 [rm m q] [rm m q] S 1000000 none none none hgo (by decide) (by show 1 + 4 * 1300 + 4 < 9000; decide) (by show 1 + 4 * 1300 + 4 < 9000; decide)
  obtain ⟨o4', hf⟩ := goF (a0 := .pd (t4 q)) (a1 := .pd (.int m)) (a2 := .pd (t4 (rm m q))) (a5 := .no) (a6 := .own []) (a7 := op o7) (a8 := op o8) h12 S [] o4 List.nodup_nil (fun _ z => nomatch z) hr
  obtain ⟨g1, g2⟩ := FKs_ok S [] List.nodup_nil
  have hmem : ∀ v, v ∈ S.foldl FK [] ↔ v ∈ S.flatMap li := fun v => by rw [g2]; simp
  have hlen : (S.foldl FK []).length ≤ 12 := len12 h12 g1 fun v hv => by
    obtain ⟨x, hx, hv⟩ := List.mem_flatMap.mp ((hmem v).mp hv)
    exact hr x hx v hv
  have hent : sdI (S.foldl FK []) = ent S := sdI_of (sdI_sorted _) fun v => by rw [sdI_mem]; exact hmem v
  have hkeys : Ev (mkG gl L28) (.dkeys 5) [.pd (t4 q), .pd (.int m), .pd (t4 (rm m q)), .dik [], op o4, .dic (KN S), .own [], op o7, op o8, .no] (.list (S.map t4)) [.pd (t4 q), .pd (.int m), .pd (t4 (rm m q)), .dik [], op o4, .no, .own [], op o7, op o8, .no] := by
    have := Ev.dkeys (G := mkG gl L28) (i := 5) (env := [.pd (t4 q), .pd (.int m), .pd (t4 (rm m q)), .dik [], op o4, .dic (KN S), .own [], op o7, op o8, .no]) (kvs := KN S) rfl
    rw [KN_items] at this
    exact this
  have hks := Ev.ksort (G := mkG gl L28) (i := 3) (env := [.pd (t4 q), .pd (.int m), .pd (t4 (rm m q)), .dik (FD (S.foldl FK [])), op o4', .no, .own [], op o7, op o8, .no]) (kvs := FD (S.foldl FK [])) rfl (keyInts_FD _) g1 (by omega)
  rw [hent] at hks
  apply sem_rt (F := f_law_rests) (e1 := [.pd (t4 q), .pd (.int m), .pd (t4 (rm m q)), .dik (FD (S.foldl FK [])), op o4', .no, .own [], op o7, op o8, .no])
  case hh => rfl
  case h =>
    show Evs _ _ b_law_rests [Sl.pd (t4 q), .pd (.int m), .no, .no, .no, .no, .no, .no, .no, .no] _
    unfold b_law_rests
    refine Evs.seq (Evs.set (lcE (m := m) (q := q) (by omega) (Ev.var rfl)) rfl) ?_
    refine Evs.seq (Evs.parD (Ev.var rfl) Ev.cb (key_t4 _) (Ev.lst (Ev.cons rfl (Ev.var rfl) Ev.nil) (by show 1 ≤ _; omega)) rfl rfl) ?_
    refine Evs.seq (Evs.while_ hw) ?_
    refine Evs.seq (Evs.knew rfl) ?_
    refine Evs.seq (Evs.for_ hkeys rfl hf) ?_
    exact Evs.seqX (Evs.ret (Ev.bi (Ev.cons rfl hks Ev.nil) rfl) rfl) (fun _ z => nomatch z)

/-! ### the law -/
theorem sim_ints (l : List Int) (h : l.length ≤ 1000) {j : Nat} : Sim (j + 2) (.tuple (l.map PyData.int)) := by
  refine ⟨by rw [List.length_map]; exact h, fun x hx => ?_⟩
  obtain ⟨v, _, rfl⟩ := List.mem_map.mp hx
  trivial
theorem some_int {c : List D} (hc : Cup c) {l : List Nat} {k : Nat} (hl : 0 < l.length) (hl2 : l.length < 1000) (h : ∀ x ∈ l, x ≤ k) : ∃ (x : Nat) (c' : List D), x ≤ k ∧ Cup c' ∧ sem19.f [.list c, .list (l.map fun n : Nat => PyData.int (n : Int))] = Rs.ok (.int (x : Int), c') := by
  obtain ⟨x, c', hx, hc', he⟩ := some_ok hc (l := l.map fun n : Nat => PyData.int (n : Int)) (by rw [List.length_map]; exact hl) (by rw [List.length_map]; omega)
  obtain ⟨n, hn, rfl⟩ := List.mem_map.mp hx
  exact ⟨n, c', h n hn, hc', he⟩
theorem shaped_tup {l : List D} (h : ∀ x ∈ l, okI x = true) : SeqAt.shaped (.tuple l) = true := shaped_list h
theorem notin_ints {l : List Int} {v : Int} (h : v ∈ l) : Cop.notin.f (.int v) (.tuple (l.map PyData.int)) = some (.bool false) := by
  have hs : SeqAt.shaped (.tuple (l.map PyData.int)) = true := shaped_tup fun x hx => by
    obtain ⟨v, _, rfl⟩ := List.mem_map.mp hx
    rfl
  have ha : ((l.map PyData.int).any fun z => PyData.eqv z (.int v)) = true := List.any_eq_true.mpr ⟨.int v, List.mem_map_of_mem h, by show (v == v) = true; exact beq_self_eq_true v⟩
  show notD (if SeqAt.shaped (.int v) && SeqAt.shaped (.tuple (l.map PyData.int)) then some (.bool ((l.map PyData.int).any fun z => PyData.eqv z (.int v))) else none) = _
  rw [hs, ha]; rfl
theorem isFour60 {q : Q4} (h : Des q) (ht : Top q 60000) : isFour (t4 q) = true := isFour_of h (by obtain ⟨t1, t2, t3, t4⟩ := ht; exact ⟨by omega, by omega, by omega, by omega⟩)
abbrev BL : S := .seq (.asg (.tup (.cons (.nm 8) (.cons (.nm 6) .nil))) (.callm 27 1 (.cons (.ci 4) .nil))) (.seq (.set false 3 (.bin .add (.ci 1) (.callm 19 1 (.cons (.lst (.cons (.ci 1) (.cons (.ci 2) (.cons (.ci 3) (.cons (.ci 5) (.cons (.callm 18 1 (.cons (.ci 6) .nil)) .nil)))))) .nil)))) (.seq (.set false 4 (.call 16 (.cons (.var 6) (.cons (.var 3) .nil)))) (.seq (.if_ (.or_ (.not_ (.call 24 (.cons (.var 4) (.cons (.call 28 (.cons (.var 6) (.cons (.var 3) .nil))) .nil)))) (.one (.not_ (.call 24 (.cons (.call 16 (.cons (.var 8) (.cons (.var 3) .nil))) (.cons (.var 4) .nil)))))) (.seq (.ret (.cb false)) .nil) (.nil)) (.seq (.set false 5 (.bi .tuple (.cons (.lc (.callm 18 1 (.cons (.ci 4) .nil)) (.nm 2) (.rng1 (.ci 8)) .nil [("turn", 2)]) .nil))) (.seq (.if_ (.cmp .ne (.lc (.var 9) (.nm 9) (.call 13 (.cons (.var 6) (.cons (.var 5) .nil))) (.cmp .notin (.bin .mod (.bi .int (.cons (.peek 9) .nil)) (.peek 3)) (.peek 4)) [("one", 9)]) (.lst (.nil))) (.seq (.ret (.cb false)) .nil) (.nil)) (.seq (.if_ (.and_ (.cmp .lt (.bi .min (.cons (.peek 8) .nil)) (.ci 0)) (.one (.cmp .ne (.lc (.var 10) (.nm 10) (.call 15 (.cons (.var 6) (.cons (.ci 40) .nil))) (.cmp .notin (.bin .mod (.bi .int (.cons (.peek 10) .nil)) (.peek 3)) (.peek 4)) [("bend", 10)]) (.lst (.nil))))) (.seq (.ret (.cb false)) .nil) (.nil)) .nil))))))
theorem places_ok {ns : List Int} {c : List D} {a2 a3 a4 a5 a6 a8 : Sl} (hc : Cup c) (ha : noHeld [Sl.pd (.list (ns.map PyData.int)), .own c, a2, a3, a4, a5, a6, .no, a8, .no, .no] [2] = true) : ∃ (ps : List Nat) (cc : List D), Cup cc ∧ (∀ x ∈ ps, x < 4) ∧ ps.length ≤ 8 ∧
    Ev (mkG gl L29) (.bi .tuple (.cons (.lc (.callm 18 1 (.cons (.ci 4) .nil)) (.nm 2) (.rng1 (.ci 8)) .nil [("turn", 2)]) .nil)) [Sl.pd (.list (ns.map PyData.int)), .own c, a2, a3, a4, a5, a6, .no, a8, .no, .no] (.tuple (pl ps)) [Sl.pd (.list (ns.map PyData.int)), .own cc, a2, a3, a4, a5, a6, .no, a8, .no, .no] := by
  obtain ⟨o, e, h1, ps, cc, h2, h3, h4, h5, h6⟩ := cgo_inv (asg := asgT (.nm 2)) (cond := condF (isNil .nil) (ev (mkG gl L29) .nil)) (elt := ev (mkG gl L29) (.callm 18 1 (.cons (.ci 4) .nil))) (vs := [2])
    (fun xs acc env => ∃ (ps : List Nat) (cc : List D), Cup cc ∧ (∀ x ∈ ps, x < 4) ∧ ps.length + xs.length ≤ 8 ∧ acc = pl ps ∧ env = [Sl.pd (.list (ns.map PyData.int)), .own cc, .no, a3, a4, a5, a6, .no, a8, .no, .no]) (rngD 0 8) [] [Sl.pd (.list (ns.map PyData.int)), .own c, .no, a3, a4, a5, a6, .no, a8, .no, .no] ⟨[], c, hc, (fun x hx => by cases hx), by decide, rfl, rfl⟩
    (fun x xs acc env ⟨ps, cc, g1, g2, g3, g4, g5⟩ => by
      subst g4 g5
      obtain ⟨r, c', hr, hc', he⟩ := roll_ok g1 (n := 4) (by decide) (by decide)
      rw [List.length_cons] at g3
      exact ⟨[Sl.pd (.list (ns.map PyData.int)), .own cc, .pd x, a3, a4, a5, a6, .no, a8, .no, .no], _, _, true, rfl, rfl, rfl, (fun z => by cases z), fun _ => ⟨_, _, Ev.ok (Ev.callm rfl rfl (Ev.cons rfl Ev.ci Ev.nil) rfl rfl he), ps ++ [r], c', hc', (fun y hy => by rcases List.mem_append.mp hy with hy | hy; exact g2 y hy; rw [List.mem_singleton.mp hy]; exact hr), by rw [List.length_append]; show _ + 1 + _ ≤ 8; omega, by unfold pl; rw [List.map_append]; rfl, rfl⟩⟩)
  subst h5 h6
  refine ⟨ps, cc, h2, h3, by simpa using h4, Ev.bi (l := [.list (pl ps)]) (Ev.cons rfl (Ev.lc (l := rngD 0 8) (e1 := [Sl.pd (.list (ns.map PyData.int)), .own c, a2, a3, a4, a5, a6, .no, a8, .no, .no]) (e2 := [Sl.pd (.list (ns.map PyData.int)), .own cc, .no, a3, a4, a5, a6, .no, a8, .no, .no]) (Ev.rng1 Ev.ci rfl) rfl (by rw [Bool.and_eq_true]; exact ⟨ha, rfl⟩) h1 rfl) Ev.nil) rfl⟩
theorem none_out {ns : List Int} {c : List D} {a2 a4' a5 a6 a8 : Sl} {m : Int} {S : List Q4} {l : List Int} {e : E} (hm : 0 < m) (h : ∀ v ∈ l, v % m ∈ ent S) (hl : l.length ≤ 1000)
    (he : Ev (mkG gl L29) e [Sl.pd (.list (ns.map PyData.int)), .own c, a2, .pd (.int m), .pd (.tuple ((ent S).map PyData.int)), a5, a6, .no, a8, .no, .no] (.tuple (l.map PyData.int)) [Sl.pd (.list (ns.map PyData.int)), .own c, a2, .pd (.int m), .pd (.tuple ((ent S).map PyData.int)), a5, a6, .no, a8, .no, .no]) :
    Ev (mkG gl L29) (.lc (.var 9) (.nm 9) e (.cmp .notin (.bin .mod (.bi .int (.cons (.peek 9) .nil)) (.peek 3)) (.peek 4)) [("one", 9)]) [Sl.pd (.list (ns.map PyData.int)), .own c, a2, .pd (.int m), .pd (.tuple ((ent S).map PyData.int)), a5, a6, .no, a8, .no, .no] (.list []) [Sl.pd (.list (ns.map PyData.int)), .own c, a2, .pd (.int m), .pd (.tuple ((ent S).map PyData.int)), a5, a6, .no, a8, .no, .no] := by
  have hz := PySem.sizeLine_eq
  have hc : cgo (asgT (.nm 9)) (condF (isNil (.cmp .notin (.bin .mod (.bi .int (.cons (.peek 9) .nil)) (.peek 3)) (.peek 4))) (ev (mkG gl L29) (.cmp .notin (.bin .mod (.bi .int (.cons (.peek 9) .nil)) (.peek 3)) (.peek 4)))) (ev (mkG gl L29) (.var 9)) [9] (l.map PyData.int) [Sl.pd (.list (ns.map PyData.int)), .own c, a2, .pd (.int m), .pd (.tuple ((ent S).map PyData.int)), a5, a6, .no, a8, .no, .no] [] =
      .ok ([] ++ ((l.map PyData.int).filter fun _ => false).map id, [Sl.pd (.list (ns.map PyData.int)), .own c, a2, .pd (.int m), .pd (.tuple ((ent S).map PyData.int)), a5, a6, .no, a8, .no, .no]) := by
    refine cgo_map id _ _ _ fun x hx => ?_
    obtain ⟨v, hv, rfl⟩ := List.mem_map.mp hx
    exact ⟨[Sl.pd (.list (ns.map PyData.int)), .own c, a2, .pd (.int m), .pd (.tuple ((ent S).map PyData.int)), a5, a6, .no, a8, .pd (.int v), .no], .bool false, [Sl.pd (.list (ns.map PyData.int)), .own c, a2, .pd (.int m), .pd (.tuple ((ent S).map PyData.int)), a5, a6, .no, a8, .pd (.int v), .no], rfl, Ev.ok (Ev.cmp rfl (Ev.bin rfl (Ev.bi (Ev.consP Ev.nil rfl rfl) rfl) (Ev.peek rfl) (mod_p hm)) (Ev.peek rfl) (notin_ints (h v hv))), rfl, (fun _ => rfl), fun z => Bool.noConfusion z⟩
  rw [List.nil_append, List.filter_eq_nil_iff.mpr (fun _ _ z => Bool.noConfusion z)] at hc
  exact Ev.lc (l := l.map PyData.int) he rfl (by rw [Bool.and_eq_true]; exact ⟨rfl, decide_eq_true (by rw [List.length_map]; omega)⟩) hc rfl
theorem none_bend {ns : List Int} {c : List D} {a2 a5 a6 a8 : Sl} {m : Int} {S : List Q4} {l : List Int} {e : E} (hm : 0 < m) (h : ∀ v ∈ l, v % m ∈ ent S) (hl : l.length ≤ 1000)
    (he : Ev (mkG gl L29) e [Sl.pd (.list (ns.map PyData.int)), .own c, a2, .pd (.int m), .pd (.tuple ((ent S).map PyData.int)), a5, a6, .no, a8, .no, .no] (.tuple (l.map PyData.int)) [Sl.pd (.list (ns.map PyData.int)), .own c, a2, .pd (.int m), .pd (.tuple ((ent S).map PyData.int)), a5, a6, .no, a8, .no, .no]) :
    Ev (mkG gl L29) (.lc (.var 10) (.nm 10) e (.cmp .notin (.bin .mod (.bi .int (.cons (.peek 10) .nil)) (.peek 3)) (.peek 4)) [("bend", 10)]) [Sl.pd (.list (ns.map PyData.int)), .own c, a2, .pd (.int m), .pd (.tuple ((ent S).map PyData.int)), a5, a6, .no, a8, .no, .no] (.list []) [Sl.pd (.list (ns.map PyData.int)), .own c, a2, .pd (.int m), .pd (.tuple ((ent S).map PyData.int)), a5, a6, .no, a8, .no, .no] := by
  have hz := PySem.sizeLine_eq
  have hc : cgo (asgT (.nm 10)) (condF (isNil (.cmp .notin (.bin .mod (.bi .int (.cons (.peek 10) .nil)) (.peek 3)) (.peek 4))) (ev (mkG gl L29) (.cmp .notin (.bin .mod (.bi .int (.cons (.peek 10) .nil)) (.peek 3)) (.peek 4)))) (ev (mkG gl L29) (.var 10)) [10] (l.map PyData.int) [Sl.pd (.list (ns.map PyData.int)), .own c, a2, .pd (.int m), .pd (.tuple ((ent S).map PyData.int)), a5, a6, .no, a8, .no, .no] [] =
      .ok ([] ++ ((l.map PyData.int).filter fun _ => false).map id, [Sl.pd (.list (ns.map PyData.int)), .own c, a2, .pd (.int m), .pd (.tuple ((ent S).map PyData.int)), a5, a6, .no, a8, .no, .no]) := by
    refine cgo_map id _ _ _ fun x hx => ?_
    obtain ⟨v, hv, rfl⟩ := List.mem_map.mp hx
    exact ⟨[Sl.pd (.list (ns.map PyData.int)), .own c, a2, .pd (.int m), .pd (.tuple ((ent S).map PyData.int)), a5, a6, .no, a8, .no, .pd (.int v)], .bool false, [Sl.pd (.list (ns.map PyData.int)), .own c, a2, .pd (.int m), .pd (.tuple ((ent S).map PyData.int)), a5, a6, .no, a8, .no, .pd (.int v)], rfl, Ev.ok (Ev.cmp rfl (Ev.bin rfl (Ev.bi (Ev.consP Ev.nil rfl rfl) rfl) (Ev.peek rfl) (mod_p hm)) (Ev.peek rfl) (notin_ints (h v hv))), rfl, (fun _ => rfl), fun z => Bool.noConfusion z⟩
  rw [List.nil_append, List.filter_eq_nil_iff.mpr (fun _ _ z => Bool.noConfusion z)] at hc
  exact Ev.lc (l := l.map PyData.int) he rfl (by rw [Bool.and_eq_true]; exact ⟨rfl, decide_eq_true (by rw [List.length_map]; omega)⟩) hc rfl
theorem turn_ok {ns : List Int} {c : List D} (hc : Cup c) {x : D} {o3 o4 o5 o6 o8 : Option D} : ∃ c' k' t' p' q' r', Cup c' ∧
    evS (mkG gl L29) false BL [Sl.pd (.list (ns.map PyData.int)), .own c, .pd x, op o3, op o4, op o5, op o6, .no, op o8, .no, .no] = .nx [Sl.pd (.list (ns.map PyData.int)), .own c', .pd x, op (some k'), op (some t'), op (some p'), op (some q'), .no, op (some r'), .no, .no] := by
  have hz := PySem.sizeLine_eq
  obtain ⟨q1, q2, c1, n, hn, hd, h2, ht2, ⟨r0, hr0, hp0⟩, hc1, hg⟩ := given_ok hc
  obtain ⟨hro, hdes, htop, h8⟩ := rows10_p r0 hr0
  have hd1 := hdes.pm hp0
  have ht1 := htop.pm hp0
  have hro1 := hro.pm hp0
  obtain ⟨r, c2, hr, hc2, hroll⟩ := roll_ok hc1 (n := 6) (by decide) (by decide)
  obtain ⟨k, c3, hk, hc3, hsome⟩ := some_int hc2 (l := [1, 2, 3, 5, r]) (k := 5) (by show 0 < 5; decide) (by show 5 < 1000; decide) (by
    intro x hx
    simp only [List.mem_cons, List.mem_nil_iff, or_false] at hx
    omega)
  have hm1 : 1 ≤ 1 + (k : Int) := by omega
  have hm6 : 1 + (k : Int) ≤ 6 := by omega
  have hm12 : 1 + (k : Int) ≤ 12 := by omega
  have hm0 : 0 < 1 + (k : Int) := by omega
  obtain ⟨S, hS⟩ := sch_of hm1 hm6 (even_of hd1)
  obtain ⟨S2, hS2⟩ := sch_of hm1 hm6 (even_of h2)
  have hrc := hd.rc (m := 1 + (k : Int))
  have hent : ent S2 = ent S := hS2.ent hS hrc
  have hle := Sch.ent_le (m := 1 + (k : Int)) (a := q1) hm12 hS.rs
  have e1 := rests_of_ok hd h2 (by omega) (isFour60 h2 ht2) hm1 hm12 hS.go hS.len hle
  have e2 := law_rests_ok (q := q2) hm1 hm12 hS2.go hS2.rs
  rw [hent] at e2
  have e3 := rests_of_ok (.root hro1) hd1 (by omega) (isFour60 hd1 ht1) hm1 hm12 hS.go hS.len hle
  have hsame := same4 (d := (.tuple ((ent S).map PyData.int))) (sim_ints _ (by omega))
  have hno : noHeld [Sl.pd (.list (ns.map PyData.int)), .own c3, .pd x, .pd (.int (1 + (k : Int))), .pd (.tuple ((ent S).map PyData.int)), op o5, .pd (t4 q2), .no, .pd (t4 q1), .no, .no] [2] = true := rfl
  obtain ⟨ps, c4, hc4, hps, hpl, hpe⟩ := places_ok (ns := ns) hc3 hno
  have e4 := exchanged_ok q2 hps (by omega) (isFour60 h2 ht2)
  have hsymm := hrc.symm (rm_rm _ _)
  have hx : ∀ v ∈ li (swpAll q2 ps), v % (1 + (k : Int)) ∈ ent S := fun v hv =>
    hS.in (hsymm.trans (swpAll_rc ps q2 hps)) (by rw [li_rm]; exact List.mem_map_of_mem hv)
  have s1 : ∀ {o2 : Sl}, True := fun {_} => trivial
  have g8 : setS [Sl.pd (.list (ns.map PyData.int)), .own c1, .pd x, op o3, op o4, op o5, op o6, .no, op o8, .no, .no] 8 (.pd (t4 q1)) = some [Sl.pd (.list (ns.map PyData.int)), .own c1, .pd x, op o3, op o4, op o5, op o6, .no, .pd (t4 q1), .no, .no] := by cases o8 <;> rfl
  have a1 : asgT (.tup (.cons (.nm 8) (.cons (.nm 6) .nil))) (.tuple [t4 q1, t4 q2]) [Sl.pd (.list (ns.map PyData.int)), .own c1, .pd x, op o3, op o4, op o5, op o6, .no, op o8, .no, .no] = some [Sl.pd (.list (ns.map PyData.int)), .own c1, .pd x, op o3, op o4, op o5, .pd (t4 q2), .no, .pd (t4 q1), .no, .no] := by cases o8 <;> cases o6 <;> rfl
  have a3 : setS [Sl.pd (.list (ns.map PyData.int)), .own c3, .pd x, op o3, op o4, op o5, .pd (t4 q2), .no, .pd (t4 q1), .no, .no] 3 (.pd (.int (1 + (k : Int)))) = some [Sl.pd (.list (ns.map PyData.int)), .own c3, .pd x, .pd (.int (1 + (k : Int))), op o4, op o5, .pd (t4 q2), .no, .pd (t4 q1), .no, .no] := by cases o3 <;> rfl
  have a4 : setS [Sl.pd (.list (ns.map PyData.int)), .own c3, .pd x, .pd (.int (1 + (k : Int))), op o4, op o5, .pd (t4 q2), .no, .pd (t4 q1), .no, .no] 4 (.pd (.tuple ((ent S).map PyData.int))) = some [Sl.pd (.list (ns.map PyData.int)), .own c3, .pd x, .pd (.int (1 + (k : Int))), .pd (.tuple ((ent S).map PyData.int)), op o5, .pd (t4 q2), .no, .pd (t4 q1), .no, .no] := by cases o4 <;> rfl
  have a5 : setS [Sl.pd (.list (ns.map PyData.int)), .own c4, .pd x, .pd (.int (1 + (k : Int))), .pd (.tuple ((ent S).map PyData.int)), op o5, .pd (t4 q2), .no, .pd (t4 q1), .no, .no] 5 (.pd (.tuple (pl ps))) = some [Sl.pd (.list (ns.map PyData.int)), .own c4, .pd x, .pd (.int (1 + (k : Int))), .pd (.tuple ((ent S).map PyData.int)), .pd (.tuple (pl ps)), .pd (t4 q2), .no, .pd (t4 q1), .no, .no] := by cases o5 <;> rfl
  have hL : Ev (mkG gl L29) (.cmp .ne (.lc (.var 9) (.nm 9) (.call 13 (.cons (.var 6) (.cons (.var 5) .nil))) (.cmp .notin (.bin .mod (.bi .int (.cons (.peek 9) .nil)) (.peek 3)) (.peek 4)) [("one", 9)]) (.lst (.nil))) [Sl.pd (.list (ns.map PyData.int)), .own c4, .pd x, .pd (.int (1 + (k : Int))), .pd (.tuple ((ent S).map PyData.int)), .pd (.tuple (pl ps)), .pd (t4 q2), .no, .pd (t4 q1), .no, .no] (.bool false) [Sl.pd (.list (ns.map PyData.int)), .own c4, .pd x, .pd (.int (1 + (k : Int))), .pd (.tuple ((ent S).map PyData.int)), .pd (.tuple (pl ps)), .pd (t4 q2), .no, .pd (t4 q1), .no, .no] :=
    Ev.cmp rfl (none_out (a4' := .no) (l := li (swpAll q2 ps)) hm0 hx (by show 4 ≤ 1000; decide) (Ev.call rfl (Ev.cons rfl (Ev.var rfl) (Ev.cons rfl (Ev.var rfl) Ev.nil)) rfl e4)) (Ev.lst Ev.nil (Nat.zero_le _)) (ne_t4 [])
  have hmn : Ev (mkG gl L29) (.cmp .lt (.bi .min (.cons (.peek 8) .nil)) (.ci 0)) [Sl.pd (.list (ns.map PyData.int)), .own c4, .pd x, .pd (.int (1 + (k : Int))), .pd (.tuple ((ent S).map PyData.int)), .pd (.tuple (pl ps)), .pd (t4 q2), .no, .pd (t4 q1), .no, .no] (.bool (decide (mn q1 < 0))) [Sl.pd (.list (ns.map PyData.int)), .own c4, .pd x, .pd (.int (1 + (k : Int))), .pd (.tuple ((ent S).map PyData.int)), .pd (.tuple (pl ps)), .pd (t4 q2), .no, .pd (t4 q1), .no, .no] := Ev.cmp rfl (Ev.bi (Ev.consP Ev.nil rfl rfl) (min_t4 q1)) Ev.ci rfl
  have hB : ∃ b : Bool, tru (.bool b) = some false ∧ Ev (mkG gl L29) (.and_ (.cmp .lt (.bi .min (.cons (.peek 8) .nil)) (.ci 0)) (.one (.cmp .ne (.lc (.var 10) (.nm 10) (.call 15 (.cons (.var 6) (.cons (.ci 40) .nil))) (.cmp .notin (.bin .mod (.bi .int (.cons (.peek 10) .nil)) (.peek 3)) (.peek 4)) [("bend", 10)]) (.lst (.nil))))) [Sl.pd (.list (ns.map PyData.int)), .own c4, .pd x, .pd (.int (1 + (k : Int))), .pd (.tuple ((ent S).map PyData.int)), .pd (.tuple (pl ps)), .pd (t4 q2), .no, .pd (t4 q1), .no, .no] (.bool b) [Sl.pd (.list (ns.map PyData.int)), .own c4, .pd x, .pd (.int (1 + (k : Int))), .pd (.tuple ((ent S).map PyData.int)), .pd (.tuple (pl ps)), .pd (t4 q2), .no, .pd (t4 q1), .no, .no] := by
    rcases h8 with h8 | h8
    · have hf : Fst8 q1 := ⟨r0, h8, hp0⟩
      have hneg := mn_lt hf
      rw [decide_eq_true hneg] at hmn
      have hG : Gd q2 q1 := ⟨⟨n, by omega, hd⟩, h2, (by obtain ⟨t1, t2, t3, t4⟩ := ht2; exact ⟨by omega, by omega, by omega, by omega⟩), hf⟩
      have hb := hG.bends (b := 40) (by decide) (by decide)
      have hin : ∀ v ∈ sdI (nt 40 q1), v % (1 + (k : Int)) ∈ ent S := fun v hv => by
        have h1 := nt_mem.mp (sdI_mem.mp hv)
        obtain ⟨y, hy, hv2⟩ := net_rc (m := 1 + (k : Int)) h1 (by decide) ((net_facts (by decide) hf).1 v h1)
        exact hS.in hy hv2
      have hun := nt_unlike (b := 40) (by decide) hf
      exact ⟨false, rfl, Ev.andT hmn rfl (Ev.one (Ev.cmp rfl (none_bend (l := sdI (nt 40 q1)) hm0 hin (by omega) (Ev.call rfl (Ev.cons rfl (Ev.var rfl) (Ev.cons rfl Ev.ci Ev.nil)) rfl hb)) (Ev.lst Ev.nil (Nat.zero_le _)) (ne_t4 [])))⟩
    · have hm : ¬ mn q1 < 0 := by
        have hx : ∀ x ∈ li q1, 0 ≤ x := fun x hx => h8 x (hp0.mem_iff.mp hx)
        have a1 := hx q1.1 (by simp [li]); have a2 := hx q1.2.1 (by simp [li]); have a3 := hx q1.2.2.1 (by simp [li]); have a4 := hx q1.2.2.2 (by simp [li])
        rw [mn_eq]; omega
      rw [decide_eq_false hm] at hmn
      exact ⟨false, rfl, Ev.andF hmn rfl⟩
  obtain ⟨b, hbt, hB⟩ := hB
  refine ⟨c4, .int (1 + (k : Int)), (.tuple ((ent S).map PyData.int)), .tuple (pl ps), t4 q2, t4 q1, hc4, ?_⟩
  refine Evs.ok (Evs.seq (Evs.asg (e1 := [Sl.pd (.list (ns.map PyData.int)), .own c1, .pd x, op o3, op o4, op o5, op o6, .no, op o8, .no, .no]) (Ev.callm (e1 := [Sl.pd (.list (ns.map PyData.int)), .own c, .pd x, op o3, op o4, op o5, op o6, .no, op o8, .no, .no]) rfl rfl (Ev.cons rfl Ev.ci Ev.nil) rfl rfl hg) a1) ?_)
  have hlist : Ev (mkG gl L29) (.lst (.cons (.ci 1) (.cons (.ci 2) (.cons (.ci 3) (.cons (.ci 5) (.cons (.callm 18 1 (.cons (.ci 6) .nil)) .nil)))))) [Sl.pd (.list (ns.map PyData.int)), .own c1, .pd x, op o3, op o4, op o5, .pd (t4 q2), .no, .pd (t4 q1), .no, .no] (.list (([1, 2, 3, 5, r] : List Nat).map fun n : Nat => PyData.int (n : Int))) [Sl.pd (.list (ns.map PyData.int)), .own c2, .pd x, op o3, op o4, op o5, .pd (t4 q2), .no, .pd (t4 q1), .no, .no] :=
    Ev.lst (Ev.cons rfl Ev.ci (Ev.cons rfl Ev.ci (Ev.cons rfl Ev.ci (Ev.cons rfl Ev.ci (Ev.cons rfl (Ev.callm (e1 := [Sl.pd (.list (ns.map PyData.int)), .own c1, .pd x, op o3, op o4, op o5, .pd (t4 q2), .no, .pd (t4 q1), .no, .no]) rfl rfl (Ev.cons rfl Ev.ci Ev.nil) rfl rfl hroll) Ev.nil))))) (by show 5 ≤ _; omega)
  refine Evs.seq (Evs.set (e1 := [Sl.pd (.list (ns.map PyData.int)), .own c3, .pd x, op o3, op o4, op o5, .pd (t4 q2), .no, .pd (t4 q1), .no, .no]) (Ev.bin rfl Ev.ci (Ev.callm (e1 := [Sl.pd (.list (ns.map PyData.int)), .own c2, .pd x, op o3, op o4, op o5, .pd (t4 q2), .no, .pd (t4 q1), .no, .no]) rfl rfl (Ev.cons rfl hlist Ev.nil) rfl rfl hsome) rfl) a3) ?_
  refine Evs.seq (Evs.set (Ev.call rfl (Ev.cons rfl (Ev.var rfl) (Ev.cons rfl (Ev.var rfl) Ev.nil)) rfl e1) a4) ?_
  refine Evs.seq (Evs.ifF (x := .bool false) (Ev.orF (x := .bool false) (Ev.notb (k := true) (Ev.call rfl (Ev.cons rfl (Ev.var rfl) (Ev.cons rfl (Ev.call rfl (Ev.cons rfl (Ev.var rfl) (Ev.cons rfl (Ev.var rfl) Ev.nil)) rfl e2) Ev.nil)) rfl hsame)) rfl (Ev.one (Ev.notb (k := true) (Ev.call rfl (Ev.cons rfl (Ev.call rfl (Ev.cons rfl (Ev.var rfl) (Ev.cons rfl (Ev.var rfl) Ev.nil)) rfl e3) (Ev.cons rfl (Ev.var rfl) Ev.nil)) rfl hsame)))) rfl Evs.nil) ?_
  refine Evs.seq (Evs.set hpe a5) ?_
  refine Evs.seq (Evs.ifF hL rfl Evs.nil) ?_
  exact Evs.seq (Evs.ifF hB hbt Evs.nil) Evs.nil
theorem go12 : ∀ p ∈ ([((-1, 2, 2, 3), [2, 3, 6, 11]), ((-3, 5, 8, 8), [0, 5, 8, 9]), ((0, 0, 1, 1), [0, 1, 4, 9])] : List (Q4 × List Int)), (∃ S, go 12 1300 [rm 12 p.1] [rm 12 p.1] = some S ∧ S.length ≤ 648 ∧ ent S = p.2) ∧ Ro p.1 ∧ Des p.1 ∧ Top p.1 60000 := by
  have one : ∀ (q : Q4) (l : List Int), ((go 12 1300 [rm 12 q] [rm 12 q]).map fun S => (decide (S.length ≤ 648) && decide (ent S = l))) = some true → ∃ S, go 12 1300 [rm 12 q] [rm 12 q] = some S ∧ S.length ≤ 648 ∧ ent S = l := fun q l h => by
    cases e : go 12 1300 [rm 12 q] [rm 12 q] with
    | none => rw [e] at h; cases h
    | some S => rw [e] at h; simp only [Option.map_some, Option.some.injEq, Bool.and_eq_true, decide_eq_true_eq] at h; exact ⟨S, rfl, h.1, h.2⟩
  intro p hp
  simp only [List.mem_cons, List.mem_nil_iff, or_false] at hp
  rcases hp with rfl | rfl | rfl
  · exact ⟨one _ _ (by decide +kernel), by unfold Ro; decide, ⟨by decide, by decide⟩, by unfold Top; decide⟩
  · exact ⟨one _ _ (by decide +kernel), by unfold Ro; decide, ⟨by decide, by decide⟩, by unfold Top; decide⟩
  · exact ⟨one _ _ (by decide +kernel), by unfold Ro; decide, ⟨by decide, by decide⟩, by unfold Top; decide⟩
theorem law_true (ns : List Int) (h : ns.length ≤ 63) : semLaw.f [PyData.list (ns.map PyData.int)] = Rs.ok (PyData.bool true, []) := by
  have hz := PySem.sizeLine_eq
  have h2s : (2 : Nat) ≤ sizeLine := by omega
  have h4s : (4 : Nat) ≤ sizeLine := by omega
  obtain ⟨c, hc, hcup⟩ := cup_ok h
  obtain ⟨e, hgo, c1, o2, o3, o4, o5, o6, o8, hc1, rfl⟩ := forGo_inv (asg := asgT (.nm 2)) (body := evS (mkG gl L29) false BL)
    (fun _ env => ∃ c o2 o3 o4 o5 o6 o8, Cup c ∧ env = [Sl.pd (.list (ns.map PyData.int)), .own c, op o2, op o3, op o4, op o5, op o6, .no, op o8, .no, .no]) (rngD 0 3) [Sl.pd (.list (ns.map PyData.int)), .own c, .no, .no, .no, .no, .no, .no, .no, .no, .no] ⟨c, none, none, none, none, none, none, hc, rfl⟩
    (fun x xs env ⟨c, o2, o3, o4, o5, o6, o8, q1, q2⟩ => by
      subst q2
      obtain ⟨c', k', t', p', q', r', hc', he⟩ := turn_ok (ns := ns) q1 (x := x) (o3 := o3) (o4 := o4) (o5 := o5) (o6 := o6) (o8 := o8)
      exact ⟨_, _, by cases o2 <;> rfl, .inl he, c', some x, some k', some t', some p', some q', some r', hc', rfl⟩)
  let L : List (Q4 × List Int) := [((-1, 2, 2, 3), [2, 3, 6, 11]), ((-3, 5, 8, 8), [0, 5, 8, 9]), ((0, 0, 1, 1), [0, 1, 4, 9])]
  obtain ⟨y, c2, hy, hc2, hsome⟩ := some_ok hc1 (l := L.map fun p => PyData.tuple [t4 p.1, .tuple (p.2.map PyData.int)]) (by decide) (by decide)
  obtain ⟨⟨q, l⟩, hp, rfl⟩ := List.mem_map.mp hy
  obtain ⟨⟨S, g1, g2, g3⟩, hro, hd, ht⟩ := go12 _ hp
  dsimp only at g1 g3 hro hd ht hsome
  have hll : l.length ≤ 12 := by
    simp only [L, List.mem_cons, List.mem_nil_iff, or_false, Prod.mk.injEq] at hp
    rcases hp with ⟨_, rfl⟩ | ⟨_, rfl⟩ | ⟨_, rfl⟩ <;> decide
  have e1 := rests_of_ok (.root hro) hd (by decide) (isFour60 hd ht) (m := 12) (by decide) (by decide) g1 g2 (by rw [g3]; exact hll)
  rw [g3] at e1
  have hsame := same4 (d := .tuple (l.map PyData.int)) (sim_ints _ (by omega))
  have hA : asgT (.tup (.cons (.nm 6) (.cons (.nm 7) .nil))) (.tuple [t4 q, .tuple (l.map PyData.int)]) [Sl.pd (.list (ns.map PyData.int)), .own c2, op o2, op o3, op o4, op o5, op o6, .no, op o8, .no, .no] = some [Sl.pd (.list (ns.map PyData.int)), .own c2, op o2, op o3, op o4, op o5, .pd (t4 q), .pd (.tuple (l.map PyData.int)), op o8, .no, .no] := by cases o6 <;> rfl
  refine sem_rt2 (F := f_law) ?_
  show ∃ e1, Evs _ _ b_law [Sl.pd (.list (ns.map PyData.int)), .no, .no, .no, .no, .no, .no, .no, .no, .no, .no] _ ∧ _
  unfold b_law
  have four : ∀ {env : En} {a b c d : Int} {ea eb ec ed : E}, peekOf ea = none → peekOf eb = none → peekOf ec = none → peekOf ed = none → Ev (mkG gl L29) ea env (.int a) env → Ev (mkG gl L29) eb env (.int b) env → Ev (mkG gl L29) ec env (.int c) env → Ev (mkG gl L29) ed env (.int d) env →
      Ev (mkG gl L29) (.tup (.cons ea (.cons eb (.cons ec (.cons ed .nil))))) env (.tuple [.int a, .int b, .int c, .int d]) env := fun h1 h2 h3 h5 g1 g2 g3 g5 => Ev.tup (Ev.cons h1 g1 (Ev.cons h2 g2 (Ev.cons h3 g3 (Ev.cons h5 g5 Ev.nil)))) h4s
  have pair : ∀ {env : En} {x y : D} {ea eb : E}, peekOf ea = none → peekOf eb = none → Ev (mkG gl L29) ea env x env → Ev (mkG gl L29) eb env y env → Ev (mkG gl L29) (.tup (.cons ea (.cons eb .nil))) env (.tuple [x, y]) env := fun h1 h2 g1 g2 => Ev.tup (Ev.cons h1 g1 (Ev.cons h2 g2 Ev.nil)) h2s
  have hn : ∀ {env : En} {i : Int}, Ev (mkG gl L29) (.neg (.ci i)) env (.int (-i)) env := Ev.neg Ev.ci
  exact ⟨_, Evs.seq (Evs.set (Ev.call rfl (Ev.cons rfl (Ev.var rfl) Ev.nil) rfl hcup) rfl) (Evs.seq (Evs.for_ (Ev.rng1 Ev.ci (by decide)) rfl hgo)
    (Evs.seq (Evs.asg (e1 := [Sl.pd (.list (ns.map PyData.int)), .own c2, op o2, op o3, op o4, op o5, op o6, .no, op o8, .no, .no]) (Ev.callm (e1 := [Sl.pd (.list (ns.map PyData.int)), .own c1, op o2, op o3, op o4, op o5, op o6, .no, op o8, .no, .no]) rfl rfl (Ev.cons rfl (Ev.lst (Ev.cons rfl (pair rfl rfl (four rfl rfl rfl rfl hn Ev.ci Ev.ci Ev.ci) (four rfl rfl rfl rfl Ev.ci Ev.ci Ev.ci Ev.ci)) (Ev.cons rfl (pair rfl rfl (four rfl rfl rfl rfl hn Ev.ci Ev.ci Ev.ci) (four rfl rfl rfl rfl Ev.ci Ev.ci Ev.ci Ev.ci)) (Ev.cons rfl (pair rfl rfl (four rfl rfl rfl rfl Ev.ci Ev.ci Ev.ci Ev.ci) (four rfl rfl rfl rfl Ev.ci Ev.ci Ev.ci Ev.ci)) Ev.nil))) (by show 3 ≤ _; omega)) Ev.nil) rfl rfl hsome) hA)
    (Evs.seqX (Evs.ret (Ev.call rfl (Ev.cons rfl (Ev.call rfl (Ev.cons rfl (Ev.var rfl) (Ev.cons rfl Ev.ci Ev.nil)) rfl e1) (Ev.cons rfl (Ev.var rfl) Ev.nil)) rfl hsame) rfl) (fun _ z => nomatch z)))), rfl⟩

end K38
open PySem PySem.W PyProof.Rows
set_option maxRecDepth 100000
set_option Elab.async false
set_option maxHeartbeats 0 in
theorem PySem.Challenge.cw_leadlights_k38_whole_rests_of_bends_holds : PySem.Challenge.rw_leadlights_k38_whole_rests_of_bends.Holds := by
  w_on; o_law; k_head; (case hw => w_witness2)
  k_fill
  refine L2.walk_of (l := PySem.Challenge.rw_leadlights_k38_whole_rests_of_bends) (n := (PySem.Challenge.rw_leadlights_k38_whole_rests_of_bends.most.getD 0)) (k := 30) (x := "script") (CX := fun _ => L2.CX0) (sp := fun w => Rv.spOf _ (fun _ => .none) K38.semLaw) rfl (by decide) rfl ⟨rfl, by decide, by decide⟩ (fun w h Y => PySem.W.kIn_of Y) ?F (fun _ H a ns hl _ hS => Rv.law_sp (n := 63) rfl rfl rfl K38.law_true H a ns hl hS) (fun _ _ _ _ _ h => h)
  case F =>
    intro w mg fa h KX G hmg
    refine' K38.all_mk KX G hmg ?a0 ?l0 ?c0 ?k0 ?a1 ?l1 ?c1 ?k1 ?a2 ?l2 ?c2 ?k2 ?a3 ?l3 ?c3 ?k3 ?a4 ?l4 ?c4 ?k4 ?a5 ?l5 ?c5 ?k5 ?a6 ?l6 ?c6 ?k6 ?a7 ?l7 ?c7 ?k7 ?a8 ?l8 ?c8 ?k8 ?a9 ?l9 ?c9 ?k9 ?a10 ?l10 ?c10 ?k10 ?a11 ?l11 ?c11 ?k11 ?a12 ?l12 ?c12 ?k12 ?a13 ?l13 ?c13 ?k13 ?a14 ?l14 ?c14 ?k14 ?a15 ?l15 ?c15 ?k15 ?a16 ?l16 ?c16 ?k16 ?a17 ?l17 ?c17 ?k17 ?a18 ?l18 ?c18 ?k18 ?a19 ?l19 ?c19 ?k19 ?a20 ?l20 ?c20 ?k20 ?a21 ?l21 ?c21 ?k21 ?a22 ?l22 ?c22 ?k22 ?a23 ?l23 ?c23 ?k23 ?a24 ?l24 ?c24 ?k24 ?a25 ?l25 ?c25 ?k25 ?z_len ?z_abs ?z_int ?z_list ?z_tuple ?z_all ?z_any ?z_sum ?z_max ?z_min ?z_isinstance ?z_bool ?z_str ?z_range ?z_zip ?z_enumerate ?z_sorted ?z_set ?z_dict ?glb0 ?glb1 ?glb2 
    (case a0 => k_is)
    (case l0 => k_is)
    (case c0 => k_is)
    (case k0 => k_is)
    (case a1 => k_is)
    (case l1 => k_is)
    (case c1 => k_is)
    (case k1 => k_is)
    (case a2 => k_is)
    (case l2 => k_is)
    (case c2 => k_is)
    (case k2 => k_is)
    (case a3 => k_is)
    (case l3 => k_is)
    (case c3 => k_is)
    (case k3 => k_is)
    (case a4 => k_is)
    (case l4 => k_is)
    (case c4 => k_is)
    (case k4 => k_is)
    (case a5 => k_is)
    (case l5 => k_is)
    (case c5 => k_is)
    (case k5 => k_is)
    (case a6 => k_is)
    (case l6 => k_is)
    (case c6 => k_is)
    (case k6 => k_is)
    (case a7 => k_is)
    (case l7 => k_is)
    (case c7 => k_is)
    (case k7 => k_is)
    (case a8 => k_is)
    (case l8 => k_is)
    (case c8 => k_is)
    (case k8 => k_is)
    (case a9 => k_is)
    (case l9 => k_is)
    (case c9 => k_is)
    (case k9 => k_is)
    (case a10 => k_is)
    (case l10 => k_is)
    (case c10 => k_is)
    (case k10 => k_is)
    (case a11 => k_is)
    (case l11 => k_is)
    (case c11 => k_is)
    (case k11 => k_is)
    (case a12 => k_is)
    (case l12 => k_is)
    (case c12 => k_is)
    (case k12 => k_is)
    (case a13 => k_is)
    (case l13 => k_is)
    (case c13 => k_is)
    (case k13 => k_is)
    (case a14 => k_is)
    (case l14 => k_is)
    (case c14 => k_is)
    (case k14 => k_is)
    (case a15 => k_is)
    (case l15 => k_is)
    (case c15 => k_is)
    (case k15 => k_is)
    (case a16 => k_is)
    (case l16 => k_is)
    (case c16 => k_is)
    (case k16 => k_is)
    (case a17 => k_is)
    (case l17 => k_is)
    (case c17 => k_is)
    (case k17 => k_is)
    (case a18 => k_is)
    (case l18 => k_is)
    (case c18 => k_is)
    (case k18 => k_is)
    (case a19 => k_is)
    (case l19 => k_is)
    (case c19 => k_is)
    (case k19 => k_is)
    (case a20 => k_is)
    (case l20 => k_is)
    (case c20 => k_is)
    (case k20 => k_is)
    (case a21 => k_is)
    (case l21 => k_is)
    (case c21 => k_is)
    (case k21 => k_is)
    (case a22 => k_is)
    (case l22 => k_is)
    (case c22 => k_is)
    (case k22 => k_is)
    (case a23 => k_is)
    (case l23 => k_is)
    (case c23 => k_is)
    (case k23 => k_is)
    (case a24 => k_is)
    (case l24 => k_is)
    (case c24 => k_is)
    (case k24 => k_is)
    (case a25 => k_is)
    (case l25 => k_is)
    (case c25 => k_is)
    (case k25 => k_is)
    (case z_len => k_is)
    (case z_abs => k_is)
    (case z_int => k_is)
    (case z_list => k_is)
    (case z_tuple => k_is)
    (case z_all => k_is)
    (case z_any => k_is)
    (case z_sum => k_is)
    (case z_max => k_is)
    (case z_min => k_is)
    (case z_isinstance => k_is)
    (case z_bool => k_is)
    (case z_str => k_is)
    (case z_range => k_is)
    (case z_zip => k_is)
    (case z_enumerate => k_is)
    (case z_sorted => k_is)
    (case z_set => k_is)
    (case z_dict => k_is)
    (case glb0 => k_is)
    (case glb1 => k_is)
    (case glb2 => k_is)

