import PyProof.Rows.All
import PySem.Challenge.RW_leadlights_k26_whole_fitting_shards
import Wide.All
import OpenK.AllK
import Wide.FinOn
import PyProof.EqAt
import PyProof.EqKinds
import PyProof.TupleCall
import HandS.ForMost
import HandS.Flow
import HandS.Style
import HandS.TupAny
import HandS.Walk
import HandS.Zip
import HandS.IsInst
import HandS.Wide
import HandS.DictTup
import PyProof.ListMulAny
import PyProof.Rows.SeqMore
import HandS.TupMul
import HandS.TupLe
import HandS.Deep
import PyProof.StrOps2
import KE.DataCmp
import KE.DataMinMax
import KE.KTupSum
import KE.SortData
import HandS.SortInts
import HandS.SetFor
import HandS.Strs
import HandS.SortOrd
import HandS.RaiseMore
import HandS.SetTxt0
import HandS.TupSets
import KE.KDictZip
import KE.KTurns
import HandS.ListItems
import KE.KDictDisplayH
import PyProof.Rows.TupDisplay
import KE.GoesMore
import KE.GoesEnum
import KE.KDictSum
import KE.KDictCopyH
import HandS.DictComp
import HandS.Conv
import HandS.Codes
import HandS.Words
set_option Elab.async false
set_option linter.all false
set_option maxRecDepth 100000
set_option maxHeartbeats 2000000
/-! Rv1: plain data over the abstract heap; slots; what is kept. -/
namespace Rv
open PySem PySem.Spec PyProof.Rows L2

abbrev D := PyData

mutual
inductive Rp (K : PySem.W.Frag) (H : Hp) : V → D → Prop
  | non : Rp K H .non .none
  | bl (b : Bool) : Rp K H (.bl b) (.bool b)
  | int (i : Int) : Rp K H (.int i) (.int i)
  | str (x : Str) : Rp K H (.str x) (.str x)
  | lst {a : Addr} {xs : List V} {ds : List D} : SqL K H a xs → RpAll K H xs ds → Rp K H (.ref a) (.list ds)
  | tup {a : Addr} {xs : List V} {ds : List D} : SqT K H a xs → RpAll K H xs ds → Rp K H (.ref a) (.tuple ds)
inductive RpAll (K : PySem.W.Frag) (H : Hp) : List V → List D → Prop
  | nil : RpAll K H [] []
  | cons {v : V} {vs : List V} {d : D} {ds : List D} : Rp K H v d → RpAll K H vs ds → RpAll K H (v :: vs) (d :: ds)
end

section
variable {K : PySem.W.Frag} {H H' : Hp}
theorem rd_same {a : Addr} {u : HO} (e : Same H H') (h : Rd H a u) : Rd H' a u := by
  rcases h with h | ⟨o, h⟩
  · exact .inl (e _ _ h)
  · exact .inr ⟨o, e _ _ h⟩
theorem sql_same {a : Addr} {xs : List V} (e : Same H H') (h : SqL K H a xs) : SqL K H' a xs := by
  rcases h with h | h
  · exact .inl (rd_same e h)
  · exact .inr h
theorem sqt_same {a : Addr} {xs : List V} (e : Same H H') (h : SqT K H a xs) : SqT K H' a xs := by
  rcases h with h | h
  · exact .inl (rd_same e h)
  · exact .inr h
mutual
theorem Rp.mono (e : Same H H') : ∀ (d : D) (v : V), Rp K H v d → Rp K H' v d
  | .none, _, h => by cases h; exact .non
  | .bool b, _, h => by cases h; exact .bl b
  | .int i, _, h => by cases h; exact .int i
  | .str x, _, h => by cases h; exact .str x
  | .list ds, _, h => by
    cases h with
    | lst r a => exact .lst (sql_same e r) (RpAll.mono e ds _ a)
  | .tuple ds, _, h => by
    cases h with
    | tup r a => exact .tup (sqt_same e r) (RpAll.mono e ds _ a)
  | .dict _, _, h => by cases h
theorem RpAll.mono (e : Same H H') : ∀ (ds : List D) (vs : List V), RpAll K H vs ds → RpAll K H' vs ds
  | [], _, h => by cases h; exact .nil
  | d :: ds, _, h => by
    cases h with
    | cons a b => exact .cons (Rp.mono e d _ a) (RpAll.mono e ds _ b)
end
theorem RpAll.length : ∀ {vs : List V} {ds : List D}, RpAll K H vs ds → vs.length = ds.length
  | [], [], _ => rfl
  | _ :: vs, _ :: ds, h => by
    cases h with
    | cons _ b => rw [List.length_cons, List.length_cons, RpAll.length b]
  | [], _ :: _, h => by cases h
  | _ :: _, [], h => by cases h
theorem RpAll.append : ∀ {vs ws : List V} {ds es : List D}, RpAll K H vs ds → RpAll K H ws es → RpAll K H (vs ++ ws) (ds ++ es)
  | [], _, [], _, _, h2 => h2
  | _ :: vs, _, _ :: ds, _, h, h2 => by
    cases h with
    | cons a b => exact .cons a (RpAll.append b h2)
  | [], _, _ :: _, _, h, _ => by cases h
  | _ :: _, _, [], _, h, _ => by cases h
theorem RpAll.take : ∀ (n : Nat) {vs : List V} {ds : List D}, RpAll K H vs ds → RpAll K H (vs.take n) (ds.take n)
  | 0, _, _, _ => .nil
  | _ + 1, [], [], _ => .nil
  | n + 1, _ :: _, _ :: _, h => by
    cases h with
    | cons a b => exact .cons a (RpAll.take n b)
  | _ + 1, [], _ :: _, h => by cases h
  | _ + 1, _ :: _, [], h => by cases h
theorem RpAll.drop : ∀ (n : Nat) {vs : List V} {ds : List D}, RpAll K H vs ds → RpAll K H (vs.drop n) (ds.drop n)
  | 0, _, _, h => h
  | _ + 1, [], [], _ => .nil
  | n + 1, _ :: _, _ :: _, h => by
    cases h with
    | cons a b => exact RpAll.drop n b
  | _ + 1, [], _ :: _, h => by cases h
  | _ + 1, _ :: _, [], h => by cases h
theorem RpAll.snoc {vs : List V} {ds : List D} {v : V} {d : D} (h : RpAll K H vs ds) (r : Rp K H v d) : RpAll K H (vs ++ [v]) (ds ++ [d]) := h.append (.cons r .nil)
theorem RpAll.get : ∀ {vs : List V} {ds : List D} {i : Nat} {v : V}, RpAll K H vs ds → vs[i]? = some v → ∃ d, ds[i]? = some d ∧ Rp K H v d
  | [], [], _, _, _, e => by simp at e
  | _ :: _, _ :: _, 0, _, h, e => by
    cases h with
    | cons a b => simp only [List.getElem?_cons_zero, Option.some.injEq] at e; subst e; exact ⟨_, rfl, a⟩
  | _ :: _, _ :: _, i + 1, v, h, e => by
    cases h with
    | cons a b => exact RpAll.get (i := i) b (by simpa using e)
  | [], _ :: _, _, _, h, _ => by cases h
  | _ :: _, [], _, _, h, _ => by cases h
theorem RpAll.get' : ∀ {vs : List V} {ds : List D} {i : Nat} {d : D}, RpAll K H vs ds → ds[i]? = some d → ∃ v, vs[i]? = some v ∧ Rp K H v d
  | [], [], _, _, _, e => by simp at e
  | _ :: _, _ :: _, 0, _, h, e => by
    cases h with
    | cons a b => simp only [List.getElem?_cons_zero, Option.some.injEq] at e; subst e; exact ⟨_, rfl, a⟩
  | _ :: _, _ :: _, i + 1, v, h, e => by
    cases h with
    | cons a b => exact RpAll.get' (i := i) b (by simpa using e)
  | [], _ :: _, _, _, h, _ => by cases h
  | _ :: _, [], _, _, h, _ => by cases h
theorem RpAll.set : ∀ (i : Nat) {vs : List V} {ds : List D} {v : V} {d : D}, RpAll K H vs ds → Rp K H v d → RpAll K H (vs.set i v) (ds.set i d)
  | _, [], [], _, _, _, _ => .nil
  | 0, _ :: _, _ :: _, _, _, h, r => by
    cases h with
    | cons a b => exact .cons r b
  | i + 1, _ :: _, _ :: _, _, _, h, r => by
    cases h with
    | cons a b => exact .cons a (RpAll.set i b r)
  | _, [], _ :: _, _, _, h, _ => by cases h
  | _, _ :: _, [], _, _, h, _ => by cases h
theorem RpAll.reverse : ∀ {vs : List V} {ds : List D}, RpAll K H vs ds → RpAll K H vs.reverse ds.reverse
  | [], [], _ => .nil
  | _ :: _, _ :: _, h => by
    cases h with
    | cons a b =>
      rw [List.reverse_cons, List.reverse_cons]
      exact (RpAll.reverse b).append (.cons a .nil)
  | [], _ :: _, h => by cases h
  | _ :: _, [], h => by cases h
theorem RpAll.ints : ∀ {vs : List V} {ns : List Int}, RpAll K H vs (ns.map PyData.int) → vs = ns.map V.int
  | [], [], _ => rfl
  | _ :: _, _ :: _, h => by
    cases h with
    | cons a b => cases a; rw [RpAll.ints b]; rfl
  | [], _ :: _, h => by cases h
  | _ :: _, [], h => by cases h
theorem RpAll.of_ints : ∀ (ns : List Int), RpAll K H (ns.map V.int) (ns.map PyData.int)
  | [] => .nil
  | n :: ns => .cons (.int n) (RpAll.of_ints ns)
mutual
theorem Rp.dp : ∀ (d : D) (v : V), Rp K H v d → Dp K H v d
  | .none, _, h => by cases h; exact .non
  | .bool b, _, h => by cases h; exact .bl b
  | .int i, _, h => by cases h; exact .int i
  | .str x, _, h => by cases h; exact .str x
  | .list ds, _, h => by
    cases h with
    | lst r a => exact .lst r (RpAll.dp ds _ a)
  | .tuple ds, _, h => by
    cases h with
    | tup r a => exact .tup r (RpAll.dp ds _ a)
  | .dict _, _, h => by cases h
theorem RpAll.dp : ∀ (ds : List D) (vs : List V), RpAll K H vs ds → DpAll K H vs ds
  | [], _, h => by cases h; exact .nil
  | d :: ds, _, h => by
    cases h with
    | cons a b => exact .cons (Rp.dp d _ a) (RpAll.dp ds _ b)
end
end

/-! ### slots -/
inductive Sl where
  | no
  | pd (d : D)
  | own (l : List D)
  | bor (l : List D)
  | dic (kvs : List (List Key × D))
  | dik (kvs : List (Key × D))
  | dif (kvs : List (List Key × D))
abbrev En := List Sl
def Sl.held : Sl → Option (List D)
  | .own l => some l
  | .bor l => some l
  | _ => none
def heldAt (env : En) (i : Nat) : Option (List D) := (env[i]?).bind Sl.held

def Sl.owns : Sl → Bool
  | .own _ => true
  | .bor _ => true
  | .dic _ => true
  | .dik _ => true
  | _ => false
def Sl.isD : Sl → Bool
  | .dic _ => true
  | .dik _ => true
  | _ => false
def ownsAt (env : En) (i : Nat) : Bool := match env[i]? with
  | some s => s.owns
  | none => false
theorem owns_held {env : En} {i : Nat} {l : List D} (h : heldAt env i = some l) : ownsAt env i = true := by
  unfold heldAt at h; unfold ownsAt
  cases e : env[i]? with
  | none => rw [e] at h; cases h
  | some s => rw [e] at h; cases s <;> first | rfl | cases h
theorem owns_d {env : En} {i : Nat} {s : Sl} (h : env[i]? = some s) (hd : s.isD = true) : ownsAt env i = true := by
  unfold ownsAt; rw [h]; cases s <;> first | rfl | cases hd
theorem owns_cases {env : En} {i : Nat} (h : ownsAt env i = true) : (∃ l, heldAt env i = some l) ∨ ∃ s, env[i]? = some s ∧ s.isD = true := by
  unfold ownsAt at h; unfold heldAt
  cases e : env[i]? with
  | none => rw [e] at h; cases h
  | some s =>
    rw [e] at h
    cases s with
    | no => cases h
    | pd d => cases h
    | own l => exact .inl ⟨l, rfl⟩
    | bor l => exact .inl ⟨l, rfl⟩
    | dic k => exact .inr ⟨_, rfl, rfl⟩
    | dik k => exact .inr ⟨_, rfl, rfl⟩
    | dif k => cases h
def OwnAt (env : En) (σ : L2.St) (i : Nat) (a : Addr) : Prop := ownsAt env i = true ∧ σ[i]? = some (some (V.ref a))
def Own (env : En) (σ : L2.St) (a : Addr) : Prop := ∃ i, OwnAt env σ i a

structure Pm where
  K : PySem.W.Frag
  H0 : Hp
  F0 : Hp
  mu : Option (Nat × Addr)
  hs : List Key → Int
/-- an entry of a dict whose keys are tuples of ints and texts -/
def KyR (K : PySem.W.Frag) (F : Hp) (x : List Key × D) (y : List Key × Addr × Value) : Prop := x.1 = y.1 ∧ SqT K F y.2.1 (y.1.map kV) ∧ ∃ v, RelV v y.2.2 ∧ Rp K F v x.2
def dicO (a : Addr) (es : Array DictEntry) (ep : Nat) : HO := .ext fun h => DT.Raw h a es ep ∧ (a == sysModules) = false
def DicIs (p : Pm) (F : Hp) (a : Addr) (u : Option HO) (kvs : List (List Key × D)) : Prop :=
  ∃ (es : Array DictEntry) (ep : Nat) (ys : List (List Key × Addr × Value)), u = some (dicO a es ep) ∧ es.toList = ys.map (fun y => (⟨p.hs y.1, .ref y.2.1, y.2.2⟩ : DictEntry)) ∧ (ys.map (·.1)).Nodup ∧ Paired (KyR p.K F) kvs ys
theorem DicIs.mono {p : Pm} {F F' : Hp} {a : Addr} {u : Option HO} {kvs : List (List Key × D)} (s : Same F F') (h : DicIs p F a u kvs) : DicIs p F' a u kvs := by
  obtain ⟨es, ep, ys, h1, h2, h3, h4⟩ := h
  exact ⟨es, ep, ys, h1, h2, h3, Paired.mapP h4 fun x y ⟨e1, e2, v, e3, e4⟩ => ⟨e1, sqt_same s e2, v, e3, e4.mono s⟩⟩
/-- .. whose keys are ints and texts -/
def DikIs (p : Pm) (F : Hp) (u : Option HO) (kvs : List (Key × D)) : Prop := ∃ ys : List (Key × V), u = some (.dK ys) ∧ Paired (fun (x : Key × D) (y : Key × V) => x.1 = y.1 ∧ Rp p.K F y.2 x.2) kvs ys
def DicS (p : Pm) (F : Hp) (a : Addr) (u : Option HO) (s : Sl) : Prop :=
  match s with
  | .dic kvs => DicIs p F a u kvs
  | .dik kvs => DikIs p F u kvs
  | _ => False
theorem DicS.mono {p : Pm} {F F' : Hp} {a : Addr} {u : Option HO} {s : Sl} (sm : Same F F') (h : DicS p F a u s) : DicS p F' a u s := by
  cases s with
  | dic kvs => exact DicIs.mono sm h
  | dik kvs =>
    obtain ⟨ys, h1, h2⟩ := h
    exact ⟨ys, h1, Paired.mapP h2 fun x y ⟨e1, e2⟩ => ⟨e1, e2.mono sm⟩⟩
  | no => exact h
  | pd d => exact h
  | own l => exact h
  | bor l => exact h
  | dif k => exact h
theorem DicS.some {p : Pm} {F : Hp} {a : Addr} {u : Option HO} {s : Sl} (h : DicS p F a u s) : ∃ o, u = some o := by
  cases s with
  | dic kvs => obtain ⟨es, ep, ys, h1, _⟩ := h; exact ⟨_, h1⟩
  | dik kvs => obtain ⟨ys, h1, _⟩ := h; exact ⟨_, h1⟩
  | no => exact h.elim
  | pd d => exact h.elim
  | own l => exact h.elim
  | bor l => exact h.elim
  | dif k => exact h.elim
theorem DicS.ne {p : Pm} {F H : Hp} {a q : Addr} {s : Sl} (d : DicS p F a (H a) s) (h : H q = none) : a ≠ q := fun z => by
  obtain ⟨o, h1⟩ := d.some
  rw [z, h] at h1; cases h1
theorem DicS.keep {p : Pm} {F F' H H' : Hp} {a : Addr} {s : Sl} (d : DicS p F a (H a) s) (k : ∀ o, H a = Option.some o → H' a = Option.some o) (sm : Same F F') : DicS p F' a (H' a) s := by
  obtain ⟨o, h1⟩ := d.some
  rw [k o h1, ← h1]
  exact d.mono sm

/-- a dict that is changed no more -/
def DifIs (p : Pm) (F : Hp) (a : Addr) (kvs : List (List Key × D)) : Prop := DicIs p F a (F a) kvs
theorem DifIs.mono {p : Pm} {F F' : Hp} {a : Addr} {kvs : List (List Key × D)} (s : Same F F') (h : DifIs p F a kvs) : DifIs p F' a kvs := by
  obtain ⟨es, ep, ys, h1, h2, h3, h4⟩ := h
  exact DicIs.mono s ⟨es, ep, ys, s _ _ h1, h2, h3, h4⟩
/-- what holds of the heaps from the def's entry on -/
structure HRel (p : Pm) (F H : Hp) : Prop where
  sub : Same F H
  old : ∀ b o, p.H0 b = some o → (∀ i, p.mu ≠ some (i, b)) → H b = some o
  oldf : ∀ b, p.H0 b ≠ none → F b = p.F0 b
  there : ∀ b, p.H0 b ≠ none → H b ≠ none

structure Rel (p : Pm) (env : En) (σ : L2.St) (F H : Hp) : Prop where
  hr : HRel p F H
  pdo : ∀ (i : Nat) (d : D), env[i]? = some (.pd d) → ∃ v, σ[i]? = some (some v) ∧ Rp p.K F v d
  owo : ∀ (i : Nat) (l : List D), heldAt env i = some l → ∃ (a : Addr) (xs : List V), σ[i]? = some (some (V.ref a)) ∧ H a = some (.lst xs) ∧ F a = none ∧ RpAll p.K F xs l
  inj : ∀ (i j : Nat) (a : Addr), OwnAt env σ i a → OwnAt env σ j a → i = j
  new : ∀ (i : Nat) (l : List D) (a : Addr), env[i]? = some (.own l) → σ[i]? = some (some (V.ref a)) → p.H0 a = none
  bor : ∀ (i : Nat) (l : List D), env[i]? = some (.bor l) → ∃ a : Addr, p.mu = some (i, a) ∧ σ[i]? = some (some (V.ref a))
  mub : ∀ (i : Nat) (a : Addr), p.mu = some (i, a) → ∃ l, env[i]? = some (.bor l)
  len : env.length = σ.length
  dio : ∀ (i : Nat) (s : Sl), env[i]? = some s → s.isD = true → ∃ a : Addr, σ[i]? = some (some (V.ref a)) ∧ F a = none ∧ p.H0 a = none ∧ DicS p F a (H a) s
  dfo : ∀ (i : Nat) (kvs : List (List Key × D)), env[i]? = some (.dif kvs) → ∃ a : Addr, σ[i]? = some (some (V.ref a)) ∧ DifIs p F a kvs

/-- what an expression leaves -/
structure Step (env : En) (σ : L2.St) (F H : Hp) (env' : En) (F' H' : Hp) : Prop where
  keep : ∀ b o, H b = some o → ¬ Own env σ b → H' b = some o
  kf : ∀ b, H b ≠ none → ¬ Own env σ b → F' b = F b
  there : ∀ b, H b ≠ none → H' b ≠ none
  owl : ∀ b, Own env' σ b → Own env σ b
  sub : Same F F'

section
variable {p : Pm} {env env' env'' : En} {σ : L2.St} {F H F' H' F'' H'' : Hp}
theorem Rel.own_some (r : Rel p env σ F H) {b : Addr} (h : Own env σ b) : ∃ o, H b = some o ∧ F b = none := by
  obtain ⟨i, h1, h2⟩ := h
  rcases owns_cases h1 with ⟨l, hl⟩ | ⟨s, hk, hd⟩
  · obtain ⟨a, xs, e1, e2, e3, _⟩ := r.owo i l hl
    rw [h2] at e1; cases e1
    exact ⟨_, e2, e3⟩
  · obtain ⟨a, e1, e2, _, e3⟩ := r.dio i s hk hd
    rw [h2] at e1; cases e1
    obtain ⟨o, e4⟩ := e3.some
    exact ⟨o, e4, e2⟩
theorem Rel.not_own (r : Rel p env σ F H) {b : Addr} (h : H b = none) : ¬ Own env σ b := fun o => by
  obtain ⟨xs, e, _⟩ := r.own_some o
  rw [h] at e; cases e
theorem Step.refl (env : En) (σ : L2.St) (F H : Hp) : Step env σ F H env F H := ⟨fun _ _ h _ => h, fun _ _ _ => rfl, fun _ h => h, fun _ h => h, Same.refl F⟩
theorem Step.trans (a : Step env σ F H env' F' H') (b : Step env' σ F' H' env'' F'' H'') : Step env σ F H env'' F'' H'' :=
  ⟨fun c o h n => b.keep c o (a.keep c o h n) fun z => n (a.owl c z), fun c h n => (b.kf c (a.there c h) fun z => n (a.owl c z)).trans (a.kf c h n), fun c h => b.there c (a.there c h), fun c z => a.owl c (b.owl c z), a.sub.trans b.sub⟩
theorem same_upd {o : HO} {q : Addr} (h : H q = none) : Same H (upd H q o) := fun b x e => by
  rw [upd_ne (ne_of_none e h)]
  exact e
theorem none_of_same {q : Addr} (s : Same F H) (h : H q = none) : F q = none := s.free h
/-- a new object, not given -/
theorem HRel.alloc (r : HRel p F H) {q : Addr} {o : HO} (h : H q = none) : HRel p F (upd H q o) :=
  ⟨r.sub.trans (same_upd h), fun b u e n => by have := r.old b u e n; rw [upd_ne (ne_of_none this h)]; exact this, r.oldf, fun b e => by
    have := r.there b e
    have hb : b ≠ q := fun z => this (by rw [z]; exact h)
    rw [upd_ne hb]; exact this⟩
/-- .. given -/
theorem HRel.give (r : HRel p F H) {q : Addr} {o : HO} (h : H q = none) : HRel p (upd F q o) (upd H q o) := by
  have hf := none_of_same r.sub h
  refine ⟨fun b u e => ?_, (r.alloc h).old, fun b e => ?_, (r.alloc h).there⟩
  · by_cases hb : b = q
    · subst hb; rw [upd_same] at e ⊢; exact e
    · rw [upd_ne hb] at e ⊢; exact r.sub b u e
  · have hb : b ≠ q := fun z => r.there b e (by rw [z]; exact h)
    rw [upd_ne hb]; exact r.oldf b e
theorem Rel.alloc (r : Rel p env σ F H) {q : Addr} {o : HO} (h : H q = none) : Rel p env σ F (upd H q o) :=
  ⟨r.hr.alloc h, r.pdo, fun i l e => by
    obtain ⟨a, xs, e1, e2, e3, e4⟩ := r.owo i l e
    exact ⟨a, xs, e1, by rw [upd_ne (ne_of_none e2 h)]; exact e2, e3, e4⟩, r.inj, r.new, r.bor, r.mub, r.len, fun i s e hd => by
    obtain ⟨a, e1, e2, e3, e4⟩ := r.dio i s e hd
    exact ⟨a, e1, e2, e3, by rw [upd_ne (e4.ne h)]; exact e4⟩, r.dfo⟩
theorem Rel.give (r : Rel p env σ F H) {q : Addr} {o : HO} (h : H q = none) : Rel p env σ (upd F q o) (upd H q o) := by
  have hf := none_of_same r.hr.sub h
  have sf : Same F (upd F q o) := same_upd hf
  refine ⟨r.hr.give h, fun i d e => ?_, fun i l e => ?_, r.inj, r.new, r.bor, r.mub, r.len, fun i s e hd => by
    obtain ⟨a, e1, e2, e3, e4⟩ := r.dio i s e hd
    have na := e4.ne h
    exact ⟨a, e1, by rw [upd_ne na]; exact e2, e3, by rw [upd_ne na]; exact e4.mono sf⟩, fun i kvs e => by
    obtain ⟨a, e1, e2⟩ := r.dfo i kvs e
    exact ⟨a, e1, e2.mono sf⟩⟩
  · obtain ⟨v, e1, e2⟩ := r.pdo i d e
    exact ⟨v, e1, e2.mono sf⟩
  · obtain ⟨a, xs, e1, e2, e3, e4⟩ := r.owo i l e
    have na := ne_of_none e2 h
    exact ⟨a, xs, e1, by rw [upd_ne na]; exact e2, by rw [upd_ne na]; exact e3, e4.mono sf⟩
theorem Step.alloc {q : Addr} {o : HO} (h : H q = none) : Step env σ F H env F (upd H q o) :=
  ⟨fun b u e _ => by rw [upd_ne (ne_of_none e h)]; exact e, fun _ _ _ => rfl, fun b e => by
    have hb : b ≠ q := fun z => e (by rw [z]; exact h)
    rw [upd_ne hb]; exact e, fun _ z => z, Same.refl F⟩
theorem Step.give (hs : Same F H) {q : Addr} {o : HO} (h : H q = none) : Step env σ F H env (upd F q o) (upd H q o) :=
  ⟨fun b u e _ => by rw [upd_ne (ne_of_none e h)]; exact e, fun b e _ => by
    have hb : b ≠ q := fun z => e (by rw [z]; exact h)
    rw [upd_ne hb], fun b e => by
    have hb : b ≠ q := fun z => e (by rw [z]; exact h)
    rw [upd_ne hb]; exact e, fun _ z => z, same_upd (none_of_same hs h)⟩
/-- an object that nobody owns is frozen -/
theorem Rel.freeze (r : Rel p env σ F H) {q : Addr} {o : HO} (h : H q = some o) (hf : F q = none) (h0 : p.H0 q = none) (hn : ¬ Own env σ q) : Rel p env σ (upd F q o) H := by
  have sf : Same F (upd F q o) := same_upd hf
  refine ⟨⟨fun b u e => ?_, r.hr.old, fun b e => ?_, r.hr.there⟩, fun i d e => ?_, fun i l e => ?_, r.inj, r.new, r.bor, r.mub, r.len, fun i s e hd => by
    obtain ⟨a, e1, e2, e3, e4⟩ := r.dio i s e hd
    have na : a ≠ q := fun z => hn ⟨i, owns_d e hd, by rw [← z]; exact e1⟩
    exact ⟨a, e1, by rw [upd_ne na]; exact e2, e3, e4.mono sf⟩, fun i kvs e => by
    obtain ⟨a, e1, e2⟩ := r.dfo i kvs e
    exact ⟨a, e1, e2.mono sf⟩⟩
  · by_cases hb : b = q
    · subst hb; rw [upd_same] at e; rw [h]; exact e
    · rw [upd_ne hb] at e; exact r.hr.sub b u e
  · have hb : b ≠ q := fun z => e (by rw [z]; exact h0)
    rw [upd_ne hb]; exact r.hr.oldf b e
  · obtain ⟨v, e1, e2⟩ := r.pdo i d e
    exact ⟨v, e1, e2.mono sf⟩
  · obtain ⟨a, xs, e1, e2, e3, e4⟩ := r.owo i l e
    have na : a ≠ q := fun z => hn ⟨i, owns_held e, by rw [← z]; exact e1⟩
    exact ⟨a, xs, e1, e2, by rw [upd_ne na]; exact e3, e4.mono sf⟩
theorem heldAt_set {i j : Nat} {s : Sl} (hi : i < env.length) : heldAt (env.set i s) j = if i = j then s.held else heldAt env j := by
  unfold heldAt
  by_cases e : i = j
  · subst e
    rw [List.getElem?_set_self hi, if_pos rfl]; rfl
  · rw [List.getElem?_set_ne e, if_neg e]
theorem ownsAt_set {i j : Nat} {s : Sl} (hi : i < env.length) : ownsAt (env.set i s) j = if i = j then s.owns else ownsAt env j := by
  unfold ownsAt
  by_cases e : i = j
  · subst e
    rw [List.getElem?_set_self hi, if_pos rfl]
  · rw [List.getElem?_set_ne e, if_neg e]
theorem get_lt {i : Nat} {s : Sl} (h : env[i]? = some s) : i < env.length := (List.getElem?_eq_some_iff.mp h).1
/-- an own list is frozen where it stands -/
theorem Rel.freezeSlot (r : Rel p env σ F H) {i : Nat} {l : List D} (h : env[i]? = some (.own l)) :
    ∃ a xs, σ[i]? = some (some (.ref a)) ∧ H a = some (.lst xs) ∧ Rel p (env.set i (.pd (.list l))) σ (upd F a (.lst xs)) H ∧ Step env σ F H (env.set i (.pd (.list l))) (upd F a (.lst xs)) H ∧ Rp p.K (upd F a (.lst xs)) (.ref a) (.list l) := by
  have hi := get_lt h
  have hl : heldAt env i = some l := by unfold heldAt; rw [h]; rfl
  obtain ⟨a, xs, e1, e2, e3, e4⟩ := r.owo i l hl
  have sf : Same F (upd F a (.lst xs)) := same_upd e3
  have oi : OwnAt env σ i a := ⟨owns_held hl, e1⟩
  have back : ∀ j b, OwnAt (env.set i (.pd (.list l))) σ j b → OwnAt env σ j b ∧ i ≠ j := fun j b ⟨o1, o2⟩ => by
    rw [ownsAt_set hi] at o1
    by_cases e : i = j
    · rw [if_pos e] at o1; cases o1
    · rw [if_neg e] at o1; exact ⟨⟨o1, o2⟩, e⟩
  have rp : Rp p.K (upd F a (.lst xs)) (.ref a) (.list l) := .lst (.inl (.inl upd_same)) (e4.mono sf)
  refine ⟨a, xs, e1, e2, ⟨⟨fun b u e => ?_, r.hr.old, fun b e => ?_, r.hr.there⟩, fun j d e => ?_, fun j m e => ?_, fun j k b oj ok => r.inj j k b (back j b oj).1 (back k b ok).1, fun j m b e => ?_, fun j m e => ?_, fun j b e => ?_, ?_, fun j t e hd => ?_, fun j kvs e => ?_⟩, ⟨fun b u e n => e, fun b e n => ?_, fun _ e => e, fun b ⟨j, oj⟩ => ⟨j, (back j b oj).1⟩, sf⟩, rp⟩
  · by_cases hb : b = a
    · subst hb; rw [upd_same] at e; rw [e2]; exact e
    · rw [upd_ne hb] at e; exact r.hr.sub b u e
  · have hb : b ≠ a := fun z => e (by rw [z]; exact r.new i l a h e1)
    rw [upd_ne hb]; exact r.hr.oldf b e
  · by_cases ej : i = j
    · subst ej
      rw [List.getElem?_set_self hi] at e
      cases e
      exact ⟨_, e1, rp⟩
    · rw [List.getElem?_set_ne ej] at e
      obtain ⟨v, q1, q2⟩ := r.pdo j d e
      exact ⟨v, q1, q2.mono sf⟩
  · rw [heldAt_set hi] at e
    by_cases ej : i = j
    · rw [if_pos ej] at e; cases e
    · rw [if_neg ej] at e
      obtain ⟨b, ys, q1, q2, q3, q4⟩ := r.owo j m e
      have na : b ≠ a := fun z => ej (r.inj i j a oi ⟨owns_held e, by rw [← z]; exact q1⟩)
      exact ⟨b, ys, q1, q2, by rw [upd_ne na]; exact q3, q4.mono sf⟩
  · by_cases ej : i = j
    · subst ej; rw [List.getElem?_set_self hi] at e; cases e
    · rw [List.getElem?_set_ne ej] at e; exact r.new j m b e
  · by_cases ej : i = j
    · subst ej; rw [List.getElem?_set_self hi] at e; cases e
    · rw [List.getElem?_set_ne ej] at e; exact r.bor j m e
  · obtain ⟨m, q⟩ := r.mub j b e
    have ej : i ≠ j := fun z => by subst z; rw [h] at q; cases q
    exact ⟨m, by rw [List.getElem?_set_ne ej]; exact q⟩
  · rw [List.length_set]; exact r.len
  · by_cases ej : i = j
    · subst ej; rw [List.getElem?_set_self hi] at e; cases e; cases hd
    · rw [List.getElem?_set_ne ej] at e
      obtain ⟨b, q1, q2, q3, q4⟩ := r.dio j t e hd
      have na : b ≠ a := fun z => ej (r.inj i j a oi ⟨owns_d e hd, by rw [← z]; exact q1⟩)
      exact ⟨b, q1, by rw [upd_ne na]; exact q2, q3, q4.mono sf⟩
  · have ej : i ≠ j := fun z => by subst z; rw [List.getElem?_set_self hi] at e; cases e
    rw [List.getElem?_set_ne ej] at e
    obtain ⟨b, q1, q2⟩ := r.dfo j kvs e
    exact ⟨b, q1, q2.mono sf⟩
  · have hb : b ≠ a := fun z => n ⟨i, by rw [z]; exact oi⟩
    rw [upd_ne hb]
/-- what is held is written -/
theorem Rel.write (r : Rel p env σ F H) {i : Nat} {l l' : List D} {s : Sl} {a : Addr} {xs' : List V} (h : heldAt env i = some l) (hs : (∃ m, env[i]? = some (.own m) ∧ s = .own l') ∨ (∃ m, env[i]? = some (.bor m) ∧ s = .bor l'))
    (hσ : σ[i]? = some (some (.ref a))) (hr : RpAll p.K F xs' l') : Rel p (env.set i s) σ F (upd H a (.lst xs')) ∧ Step env σ F H (env.set i s) F (upd H a (.lst xs')) := by
  have hi : i < env.length := by
    rcases hs with ⟨m, e, _⟩ | ⟨m, e, _⟩ <;> exact get_lt e
  have sh : s.held = some l' := by
    rcases hs with ⟨m, _, e⟩ | ⟨m, _, e⟩ <;> (subst e; rfl)
  obtain ⟨b, xs, e1, e2, e3, e4⟩ := r.owo i l h
  rw [hσ] at e1; cases e1
  have oi : OwnAt env σ i a := ⟨owns_held h, hσ⟩
  have back : ∀ j b, OwnAt (env.set i s) σ j b → OwnAt env σ j b := fun j b ⟨o1, o2⟩ => by
    rw [ownsAt_set hi] at o1
    by_cases e : i = j
    · subst e; rw [hσ] at o2; cases o2; exact oi
    · rw [if_neg e] at o1; exact ⟨o1, o2⟩
  have there : ∀ b, H b ≠ none → upd H a (.lst xs') b ≠ none := fun b e => by
    by_cases hb : b = a
    · subst hb; rw [upd_same]; intro z; cases z
    · rw [upd_ne hb]; exact e
  refine ⟨⟨⟨fun b u e => ?_, fun b u e n => ?_, r.hr.oldf, fun b e => there b (r.hr.there b e)⟩, fun j d e => ?_, fun j m e => ?_, fun j k b oj ok => r.inj j k b (back j b oj) (back k b ok), fun j m b e q => ?_, fun j m e => ?_, fun j b e => ?_, by rw [List.length_set]; exact r.len, fun j t e hd => ?_, fun j kvs e => ?_⟩,
    ⟨fun b u e n => ?_, fun _ _ _ => rfl, there, fun b ⟨j, oj⟩ => ⟨j, back j b oj⟩, Same.refl F⟩⟩
  · have hb : b ≠ a := fun z => by rw [z, e3] at e; cases e
    rw [upd_ne hb]; exact r.hr.sub b u e
  · have hb : b ≠ a := fun z => by
      subst z
      rcases hs with ⟨m, q, _⟩ | ⟨m, q, _⟩
      · rw [r.new i m b q hσ] at e; cases e
      · obtain ⟨c, q1, q2⟩ := r.bor i m q
        rw [hσ] at q2; cases q2
        exact n i q1
    rw [upd_ne hb]; exact r.hr.old b u e n
  · have ej : i ≠ j := fun z => by
      subst z
      rw [List.getElem?_set_self hi] at e
      cases e; cases sh
    rw [List.getElem?_set_ne ej] at e
    exact r.pdo j d e
  · rw [heldAt_set hi] at e
    by_cases ej : i = j
    · subst ej
      rw [if_pos rfl, sh] at e; cases e
      exact ⟨a, xs', hσ, upd_same, e3, hr⟩
    · rw [if_neg ej] at e
      obtain ⟨b, ys, q1, q2, q3, q4⟩ := r.owo j m e
      have na : b ≠ a := fun z => ej (r.inj i j a oi ⟨owns_held e, by rw [← z]; exact q1⟩)
      exact ⟨b, ys, q1, by rw [upd_ne na]; exact q2, q3, q4⟩
  · by_cases ej : i = j
    · subst ej
      rcases hs with ⟨m', q', es⟩ | ⟨m', q', es⟩
      · rw [hσ] at q; cases q; exact r.new i m' a q' hσ
      · rw [List.getElem?_set_self hi, es] at e; cases e
    · rw [List.getElem?_set_ne ej] at e; exact r.new j m b e q
  · by_cases ej : i = j
    · subst ej
      rcases hs with ⟨m', q', es⟩ | ⟨m', q', es⟩
      · rw [List.getElem?_set_self hi, es] at e; cases e
      · exact r.bor i m' q'
    · rw [List.getElem?_set_ne ej] at e; exact r.bor j m e
  · obtain ⟨m, q⟩ := r.mub j b e
    by_cases ej : i = j
    · subst ej
      rcases hs with ⟨m', q', es⟩ | ⟨m', q', es⟩
      · rw [q] at q'; cases q'
      · exact ⟨l', by rw [List.getElem?_set_self hi, es]⟩
    · exact ⟨m, by rw [List.getElem?_set_ne ej]; exact q⟩
  · by_cases ej : i = j
    · subst ej
      rw [List.getElem?_set_self hi] at e
      cases e
      cases s <;> first | (cases hd; done) | (cases sh; done)
    · rw [List.getElem?_set_ne ej] at e
      obtain ⟨b, q1, q2, q3, q4⟩ := r.dio j t e hd
      have na : b ≠ a := fun z => ej (r.inj i j a oi ⟨owns_d e hd, by rw [← z]; exact q1⟩)
      exact ⟨b, q1, q2, q3, by rw [upd_ne na]; exact q4⟩
  · have ej : i ≠ j := fun z => by subst z; rw [List.getElem?_set_self hi] at e; cases e; cases sh
    rw [List.getElem?_set_ne ej] at e
    exact r.dfo j kvs e
  · have hb : b ≠ a := fun z => n ⟨i, by rw [z]; exact oi⟩
    rw [upd_ne hb]; exact e
end
end Rv

set_option Elab.async false
set_option linter.all false
set_option maxRecDepth 100000
set_option maxHeartbeats 4000000
/-! Rv2: operators by plain data. -/
namespace Rv
open PySem PySem.Spec PyProof.Rows L2

def isNoneD : D → Bool
  | .none => true
  | _ => false
/-- a value seen: frozen data, or a list that is held -/
inductive Vw (K : PySem.W.Frag) (F H : Hp) : V → D → Prop
  | rp {v : V} {d : D} : Rp K F v d → Vw K F H v d
  | own {a : Addr} {xs : List V} {l : List D} : H a = some (.lst xs) → RpAll K F xs l → Vw K F H (.ref a) (.list l)
inductive Vws (K : PySem.W.Frag) (F H : Hp) : List V → List D → Prop
  | nil : Vws K F H [] []
  | cons {v : V} {vs : List V} {d : D} {ds : List D} : Vw K F H v d → Vws K F H vs ds → Vws K F H (v :: vs) (d :: ds)
section
variable {K : PySem.W.Frag} {F H F' H' : Hp} {v : V} {l : List D}
theorem Vw.list (s : Same F H) (h : Vw K F H v (.list l)) : ∃ a xs, v = .ref a ∧ SqL K H a xs ∧ RpAll K F xs l := by
  cases h with
  | rp r =>
    cases r with
    | lst r a => exact ⟨_, _, rfl, sql_same s r, a⟩
  | own e a => exact ⟨_, _, rfl, .inl (.inl e), a⟩
theorem Vw.tuple (s : Same F H) (h : Vw K F H v (.tuple l)) : ∃ a xs, v = .ref a ∧ SqT K H a xs ∧ RpAll K F xs l := by
  cases h with
  | rp r =>
    cases r with
    | tup r a => exact ⟨_, _, rfl, sqt_same s r, a⟩
theorem Vw.int {i : Int} (h : Vw K F H v (.int i)) : v = .int i := by
  cases h with
  | rp r => cases r; rfl
theorem Vw.bool {i : Bool} (h : Vw K F H v (.bool i)) : v = .bl i := by
  cases h with
  | rp r => cases r; rfl
theorem Vw.str {i : Str} (h : Vw K F H v (.str i)) : v = .str i := by
  cases h with
  | rp r => cases r; rfl
theorem Vw.none (h : Vw K F H v .none) : v = .non := by
  cases h with
  | rp r => cases r; rfl
theorem Vw.dp {d : D} (s : Same F H) (h : Vw K F H v d) : Dp K H v d := by
  cases h with
  | rp r => exact (r.mono s).dp
  | own e a => exact .lst (.inl (.inl e)) ((a.mono s).dp)
theorem Vw.notnone {d : D} (h : Vw K F H v d) : decide (v = .non) = isNoneD d := by
  cases h with
  | rp r => cases r <;> rfl
  | own e a => rfl
theorem rp_of_scal {i : Int} : Rp K F (.int i) (.int i) := .int i
end

/-- what is wanted where the answer is d: a new list, a tuple (new, or one that is known), or a plain value -/
structure Out (K : PySem.W.Frag) (F H : Hp) (d : D) (Q : VK) : Prop where
  old : ∀ v, Rp K F v d → (∀ l, d ≠ .list l) → Q v H
  lst : ∀ q xs l, d = .list l → H q = none → RpAll K F xs l → Q (.ref q) (upd H q (.lst xs))
  tup : ∀ q xs l, d = .tuple l → H q = none → RpAll K F xs l → Q (.ref q) (upd H q (.tup xs))
theorem Out.int {K : PySem.W.Frag} {F H : Hp} {i : Int} {Q : VK} (o : Out K F H (.int i) Q) : Q (.int i) H := o.old _ (.int i) fun _ z => nomatch z
theorem Out.bl {K : PySem.W.Frag} {F H : Hp} {i : Bool} {Q : VK} (o : Out K F H (.bool i) Q) : Q (.bl i) H := o.old _ (.bl i) fun _ z => nomatch z
theorem Out.str {K : PySem.W.Frag} {F H : Hp} {i : Str} {Q : VK} (o : Out K F H (.str i) Q) : Q (.str i) H := o.old _ (.str i) fun _ z => nomatch z
theorem Out.non {K : PySem.W.Frag} {F H : Hp} {Q : VK} (o : Out K F H .none Q) : Q .non H := o.old _ .non fun _ z => nomatch z

def rOp (K : PySem.W.Frag) (f : D → D → Option D) : R2 := fun x y H Q => ∃ F dx dy d, Same F H ∧ Vw K F H x dx ∧ Vw K F H y dy ∧ f dx dy = some d ∧ Out K F H d Q

/-! ### + -/
def addD : D → D → Option D
  | .int i, .int j => some (.int (i + j))
  | .str x, .str y => if x.length + y.length ≤ sizeLine then some (.str (x ++ y)) else none
  | .list x, .list y => if x.length + y.length ≤ sizeLine then some (.list (x ++ y)) else none
  | .tuple x, .tuple y => if x.length + y.length ≤ sizeLine then some (.tuple (x ++ y)) else none
  | _, _ => none
section
variable {X : Cx}
def rCatR (K : PySem.W.Frag) : R2 := fun x y H Q => ∃ l b xs zs, x = .ref l ∧ y = .ref b ∧ SqL K H l xs ∧ SqL K H b zs ∧ xs.length + zs.length ≤ sizeLine ∧ ∀ p, H p = none → Q (.ref p) (upd H p (.lst (xs ++ zs)))
theorem op_catR : OpR X (binaryOp .Add) (rCatR X.K) := by
  intro pins s σ H x y v u Q I rx ry h
  obtain ⟨l, b, xs, zs, rfl, rfl, hH, hB, hz, q⟩ := h
  cases rx
  cases ry
  obtain ⟨its, r, ⟨⟨c1, d1, dt1, sl1⟩, n, e, hc, hd, ht⟩, z⟩ := I.list hH
  obtain ⟨its2, r2, ⟨⟨c2, d2, dt2, sl2⟩, n2, e2, hc2, hd2, ht2⟩, z2⟩ := I.list hB
  simp only at hc hd ht hc2 hd2 ht2
  subst hc hd ht hc2 hd2 ht2
  have hl := r.length
  have hl2 := r2.length
  refine concat_meets ⟨_, e, rfl⟩ ⟨_, e2, rfl⟩ noFill_list_add seq_list_add PySem.F.slot_list_add PySem.F.entry_list_add (PySem.F.args_list_add_2 _ _) (list_addW l b its.toArray its2.toArray n n2 none none sl1 sl2 (by rw [List.size_toArray, List.size_toArray]; omega)) ⟨e, e2, ?_⟩
  have ea : its.toArray ++ its2.toArray = (its ++ its2).toArray := by simp
  rw [ea]
  exact ⟨.ref _, _, I.lnew (t' := s.toks) (r.append r2) (by rw [List.length_append]; omega), rfl, q _ I.fresh⟩
theorem op_addD : OpR X (binaryOp .Add) (rOp X.K addD) := by
  intro pins s σ H x y v u Q I rx ry h
  obtain ⟨F, dx, dy, d, sm, vx, vy, e, o⟩ := h
  unfold addD at e
  split at e
  · cases e
    obtain rfl := vx.int
    obtain rfl := vy.int
    exact op_add pins s σ H _ _ v u Q I rx ry ⟨_, _, rfl, rfl, o.int⟩
  · split at e
    · cases e
      obtain rfl := vx.str
      obtain rfl := vy.str
      exact op_add_str pins s σ H _ _ v u Q I rx ry ⟨_, _, rfl, rfl, by assumption, o.str⟩
    · cases e
  · rename_i l1 l2
    split at e
    · rename_i hz
      cases e
      obtain ⟨a, xs, rfl, r1, a1⟩ := vx.list sm
      obtain ⟨b, ys, rfl, r2, a2⟩ := vy.list sm
      exact op_catR pins s σ H _ _ v u Q I rx ry ⟨_, _, _, _, rfl, rfl, r1, r2, by rw [a1.length, a2.length]; exact hz, fun q hq => o.lst q _ _ rfl hq (a1.append a2)⟩
    · cases e
  · rename_i l1 l2
    split at e
    · rename_i hz
      cases e
      obtain ⟨a, xs, rfl, r1, a1⟩ := vx.tuple sm
      obtain ⟨b, ys, rfl, r2, a2⟩ := vy.tuple sm
      refine op_catA pins s σ H _ _ v u Q I rx ry ⟨_, _, _, _, rfl, rfl, r1, r2, by rw [a1.length, a2.length]; exact hz, fun e => ?_, fun _ e => ?_, fun _ _ q hq => o.tup q _ _ rfl hq (a1.append a2)⟩
      · subst e
        cases a1
        cases vy with
        | rp r => exact o.old _ r fun _ z => nomatch z
      · subst e
        cases a2
        rw [List.append_nil] at o
        cases vx with
        | rp r => exact o.old _ r fun _ z => nomatch z
    · cases e
  · cases e

/-! ### -, *, //, %, ** -/
def subD : D → D → Option D
  | .int i, .int j => some (.int (i - j))
  | _, _ => none
theorem op_subD : OpR X (binaryOp .Sub) (rOp X.K subD) := by
  intro pins s σ H x y v u Q I rx ry h
  obtain ⟨F, dx, dy, d, sm, vx, vy, e, o⟩ := h
  unfold subD at e
  split at e
  · cases e
    obtain rfl := vx.int
    obtain rfl := vy.int
    exact op_sub pins s σ H _ _ v u Q I rx ry ⟨_, _, rfl, rfl, o.int⟩
  · cases e
def mulOk (i j : Int) : Bool := (decide (-(2 ^ 64) < i) && decide (i < 2 ^ 64)) || (decide (-(2 ^ 64) < j) && decide (j < 2 ^ 64)) || decide (i.natAbs.log2 + j.natAbs.log2 < 1000000)
/-- a text, so many times -/
def repS (x : Str) (k : Int) : Str := ⟨(List.replicate k.toNat x.cps).foldl (· ++ ·) #[]⟩
theorem repS_size : ∀ (n : Nat) (a acc : Array Nat), ((List.replicate n a).foldl (· ++ ·) acc).size = acc.size + n * a.size
  | 0, a, acc => by simp
  | n + 1, a, acc => by
    rw [List.replicate_succ, List.foldl_cons, repS_size n a, Array.size_append, Nat.succ_mul]
    omega
theorem op_strMul : OpR X (binaryOp .Mult) (fun a b H Q => ∃ x k, a = V.str x ∧ b = V.int k ∧ 2 ≤ k ∧ k ≤ 1000 ∧ 1 ≤ x.length ∧ x.length ≤ 1000 ∧ Q (.str (repS x k)) H) := by
  intro pins s σ H a b v u Q I rx ry h
  obtain ⟨x, k, rfl, rfl, h1, h2, h3, h4, q⟩ := h
  obtain ⟨t, rfl⟩ := rx
  obtain ⟨t2, rfl⟩ := ry
  have hz := PySem.sizeLine_eq
  have hk : k.toNat ≤ 1000 := by omega
  have hm : x.length * k.toNat ≤ 1000 * 1000 := Nat.mul_le_mul h4 hk
  refine PySem.P.mul_str (by rw [decide_eq_false (by omega), decide_eq_false (by omega)]; rfl) (fun _ _ z => ?_) (fun _ _ => ?_) ?_
  · have h5 : (1000 : Int) ≤ (2 ^ 63 - 1) / k := (Int.le_ediv_iff_mul_le (by omega)).mpr (by omega)
    omega
  · show decide (x.length * k.toNat > sizeLine) = false
    rw [decide_eq_false (by omega)]
  · rw [if_neg (by omega), if_neg (by
      simp only [Bool.or_eq_true, beq_iff_eq, not_or]
      exact ⟨by omega, by omega⟩)]
    refine ⟨?_, .str (repS x k), H, I.tok _, ⟨_, rfl⟩, q⟩
    show ((List.replicate k.toNat x.cps).foldl (· ++ ·) #[]).size ≤ sizeLine
    rw [repS_size]
    show (#[] : Array Nat).size + k.toNat * x.length ≤ sizeLine
    rw [Nat.mul_comm]
    show 0 + _ ≤ _
    omega
def mulD : D → D → Option D
  | .str x, .int k => if 2 ≤ k ∧ k ≤ 1000 ∧ 1 ≤ x.length ∧ x.length ≤ 1000 then some (.str (repS x k)) else none
  | .int i, .int j => if mulOk i j = true then some (.int (i * j)) else none
  | .list l, .int k => if decide (-(2 ^ 63) ≤ k) && decide (k < 2 ^ 63) && decide (l.length * k.toNat ≤ sizeLine) then some (.list (List.replicate k.toNat l).flatten) else none
  | .tuple l, .int k => if (!l.isEmpty) && decide (2 ≤ k) && decide (k ≤ 1000) && decide (l.length ≤ 1000) then some (.tuple (List.replicate k.toNat l).flatten) else none
  | _, _ => none
def rRepR (K : PySem.W.Frag) : R2 := fun x y H Q => ∃ l k xs, x = .ref l ∧ y = .int k ∧ SqL K H l xs ∧ -(2 ^ 63) ≤ k ∧ k < 2 ^ 63 ∧ xs.length * k.toNat ≤ sizeLine ∧
  ∀ p, H p = none → Q (.ref p) (upd H p (.lst (List.replicate k.toNat xs).flatten))
theorem op_repR : OpR X (binaryOp .Mult) (rRepR X.K) := by
  intro pins s σ H x y v u Q I rx ry h
  obtain ⟨l, k, xs, rfl, rfl, hH, h1, h2, hz, q⟩ := h
  cases rx
  obtain ⟨t, rfl⟩ := ry
  obtain ⟨its, r, ⟨⟨c1, d1, dt1, sl1⟩, n, e, hc, hd, ht⟩, z⟩ := I.list hH
  simp only at hc hd ht
  subst hc hd ht
  have hl := r.length
  have hlen : its.toArray.size * k.toNat ≤ sizeLine := by rw [List.size_toArray, ← hl]; exact hz
  have hcap : ¬ its.toArray.size * k.toNat > (2 ^ 63 - 1) / 8 := by
    have : (sizeLine : Nat) ≤ (2 ^ 63 - 1) / 8 := by decide
    omega
  have hfit : ¬ (!Builtin.List.listFitsIndex k) = true := by
    rw [fitsIndex_both h1 h2]
    exact Bool.false_ne_true
  have hlong : ¬ Builtin.List.listTooLong (its.toArray.size * k.toNat) = true := by
    rw [notLongL hlen]
    exact Bool.false_ne_true
  have hnew : List.foldl (fun x1 x2 => x1 ++ x2) #[] (List.replicate (if its.toArray.isEmpty = true then 0 else k.toNat) its.toArray) = (List.replicate k.toNat its).flatten.toArray := by
    have f0 : ∀ m : Nat, List.foldl (fun x1 x2 => x1 ++ x2) #[] (List.replicate m its.toArray) = (List.replicate m its).flatten.toArray := fun m => by
      have := foldl_rep its m []
      rw [List.nil_append] at this
      exact this
    rw [f0]
    cases its with
    | nil => simp
    | cons a r' => rw [if_neg (by simp)]
  refine wpAny_binaryOp_repeat_ref (T := "list") (U := "int") (by decide) ⟨_, e, rfl⟩ (fun s' => typeIs_int s' k t) noFill_list_mul F.fills_int_mul F.slot_int_rmul repeat_list F.slot_int_index.lookup
    (call_meets F.slot_int_rmul (typeIs_int s k t) F.entry_int_rmul (F.args_int_rmul_2 _ _) (lm_int_rmul_list_any k t l its.toArray n none sl1)
      ⟨e, rfl, ⟨_, e, rfl⟩, call_meets F.slot_list_mul ⟨_, e, rfl⟩ F.entry_list_mul (F.args_list_mul_2 _ _) (lm_list_mul_any l its.toArray n none sl1 k t hfit hcap hlong) ⟨e, ?_⟩⟩)
  rw [hnew]
  exact ⟨.ref _, _, I.lnew (t' := s.toks) (r.rep k.toNat) (by rw [PyProof.Rows.lm_len_rep_flat, Nat.mul_comm]; exact hz), rfl, q _ I.fresh⟩
theorem RpAll.rep {K : PySem.W.Frag} {F : Hp} {xs : List V} {l : List D} (h : RpAll K F xs l) : ∀ n : Nat, RpAll K F (List.replicate n xs).flatten (List.replicate n l).flatten
  | 0 => .nil
  | n + 1 => by
    rw [List.replicate_succ, List.replicate_succ, List.flatten_cons, List.flatten_cons]
    exact h.append (h.rep n)
theorem op_mulD : OpR X (binaryOp .Mult) (rOp X.K mulD) := by
  intro pins s σ H x y v u Q I rx ry h
  obtain ⟨F, dx, dy, d, sm, vx, vy, e, o⟩ := h
  unfold mulD at e
  split at e
  · split at e
    · rename_i hm
      cases e
      obtain rfl := vx.str
      obtain rfl := vy.int
      exact op_strMul pins s σ H _ _ v u Q I rx ry ⟨_, _, rfl, rfl, hm.1, hm.2.1, hm.2.2.1, hm.2.2.2, o.str⟩
    · cases e
  · rename_i i j
    split at e
    · rename_i hm
      cases e
      obtain rfl := vx.int
      obtain rfl := vy.int
      unfold mulOk at hm
      simp only [Bool.or_eq_true, Bool.and_eq_true, decide_eq_true_eq] at hm
      rcases hm with (hm | hm) | hm
      · exact op_mul pins s σ H _ _ v u Q I rx ry ⟨_, _, rfl, rfl, .inl hm, o.int⟩
      · exact op_mul pins s σ H _ _ v u Q I rx ry ⟨_, _, rfl, rfl, .inr hm, o.int⟩
      · exact op_mulW pins s σ H _ _ v u Q I rx ry ⟨_, _, rfl, rfl, hm, o.int⟩
    · cases e
  · rename_i l k
    split at e
    · rename_i hm
      cases e
      simp only [Bool.and_eq_true, decide_eq_true_eq] at hm
      obtain ⟨a, xs, rfl, r1, a1⟩ := vx.list sm
      obtain rfl := vy.int
      exact op_repR pins s σ H _ _ v u Q I rx ry ⟨_, _, _, rfl, rfl, r1, hm.1.1, hm.1.2, by rw [a1.length]; exact hm.2, fun q hq => o.lst q _ _ rfl hq (a1.rep _)⟩
    · cases e
  · rename_i l k
    split at e
    · rename_i hm
      cases e
      simp only [Bool.and_eq_true, decide_eq_true_eq, Bool.not_eq_true', List.isEmpty_eq_false_iff] at hm
      obtain ⟨a, xs, rfl, r1, a1⟩ := vx.tuple sm
      obtain rfl := vy.int
      exact op_repT pins s σ H _ _ v u Q I rx ry ⟨_, _, _, rfl, rfl, r1, fun z => by subst z; cases a1; exact hm.1.1.1 rfl, hm.1.1.2, hm.1.2, by rw [a1.length]; exact hm.2, fun q hq => o.tup q _ _ rfl hq (a1.rep _)⟩
    · cases e
  · cases e
def fdivD : D → D → Option D
  | .int i, .int j => if 0 < j ∧ j.natAbs.log2 < 9000 then some (.int (i / j)) else if j ≠ 0 ∧ j.natAbs < 1073741824 then some (.int (i.fdiv j)) else none
  | _, _ => none
theorem op_fdivD : OpR X (binaryOp .FloorDiv) (rOp X.K fdivD) := by
  intro pins s σ H x y v u Q I rx ry h
  obtain ⟨F, dx, dy, d, sm, vx, vy, e, o⟩ := h
  unfold fdivD at e
  split at e
  · split at e
    · cases e
      obtain rfl := vx.int
      obtain rfl := vy.int
      exact op_fdivW pins s σ H _ _ v u Q I rx ry ⟨_, _, rfl, rfl, by assumption, o.int⟩
    · split at e
      · cases e
        obtain rfl := vx.int
        obtain rfl := vy.int
        exact op_fdivN pins s σ H _ _ v u Q I rx ry ⟨_, _, rfl, rfl, by assumption, o.int⟩
      · cases e
  · cases e
def modD : D → D → Option D
  | .int i, .int j => if 0 < j then some (.int (i % j)) else if j ≠ 0 then some (.int (i.fmod j)) else none
  | _, _ => none
theorem op_modD : OpR X (binaryOp .Mod) (rOp X.K modD) := by
  intro pins s σ H x y v u Q I rx ry h
  obtain ⟨F, dx, dy, d, sm, vx, vy, e, o⟩ := h
  unfold modD at e
  split at e
  · split at e
    · cases e
      obtain rfl := vx.int
      obtain rfl := vy.int
      exact op_mod pins s σ H _ _ v u Q I rx ry ⟨_, _, rfl, rfl, by assumption, o.int⟩
    · split at e
      · cases e
        obtain rfl := vx.int
        obtain rfl := vy.int
        exact op_modN pins s σ H _ _ v u Q I rx ry ⟨_, _, rfl, rfl, by assumption, o.int⟩
      · cases e
  · cases e
def powD : D → D → Option D
  | .int i, .int j => if 0 ≤ j ∧ j ≤ 1000000 ∧ i.natAbs < 2 ^ 64 then some (.int (i ^ j.toNat)) else none
  | _, _ => none
theorem op_powD : OpR X (binaryOp .Pow) (rOp X.K powD) := by
  intro pins s σ H x y v u Q I rx ry h
  obtain ⟨F, dx, dy, d, sm, vx, vy, e, o⟩ := h
  unfold powD at e
  split at e
  · split at e
    · cases e
      obtain rfl := vx.int
      obtain rfl := vy.int
      exact op_pow pins s σ H _ _ v u Q I rx ry ⟨_, _, rfl, rfl, by assumption, o.int⟩
    · cases e
  · cases e

/-! ### comparisons -/
def eqD : D → D → Option D
  | .int i, .int j => some (.bool (i == j))
  | d, e => if SeqAt.shaped d && SeqAt.shaped e then some (.bool (PyData.eqv d e)) else none
def neD : D → D → Option D
  | .int i, .int j => some (.bool (!(i == j)))
  | d, e => if SeqAt.shaped d && SeqAt.shaped e then some (.bool (!PyData.eqv d e)) else none
theorem op_eqDD (hu : X.A.units + 65 < cLine) : OpR X (compareOp .Eq) (rOp X.K eqD) := by
  intro pins s σ H x y v u Q I rx ry h
  obtain ⟨F, dx, dy, d, sm, vx, vy, e, o⟩ := h
  unfold eqD at e
  split at e
  · cases e
    obtain rfl := vx.int
    obtain rfl := vy.int
    exact op_eq pins s σ H _ _ v u Q I rx ry ⟨rfl, by rw [dec_int]; exact o.bl⟩
  · split at e
    · rename_i hs
      cases e
      simp only [Bool.and_eq_true] at hs
      exact op_eqD (by omega) pins s σ H _ _ v u Q I rx ry ⟨_, _, vx.dp sm, vy.dp sm, hs.1, hs.2, o.bl⟩
    · cases e
theorem op_neDD (hu : X.A.units + 65 < cLine) : OpR X (compareOp .NotEq) (rOp X.K neD) := by
  intro pins s σ H x y v u Q I rx ry h
  obtain ⟨F, dx, dy, d, sm, vx, vy, e, o⟩ := h
  unfold neD at e
  split at e
  · cases e
    obtain rfl := vx.int
    obtain rfl := vy.int
    exact op_ne pins s σ H _ _ v u Q I rx ry ⟨rfl, by rw [dec_int]; exact o.bl⟩
  · split at e
    · rename_i hs
      cases e
      simp only [Bool.and_eq_true] at hs
      exact op_neD (by omega) pins s σ H _ _ v u Q I rx ry ⟨_, _, vx.dp sm, vy.dp sm, hs.1, hs.2, o.bl⟩
    · cases e
def intsD? : List D → Option (List Int)
  | [] => some []
  | .int i :: r => (intsD? r).map (i :: ·)
  | _ => none
theorem intsD_some : ∀ {l : List D} {ns : List Int}, intsD? l = some ns → l = ns.map PyData.int
  | [], _, h => by cases h; rfl
  | .int i :: r, ns, h => by
    unfold intsD? at h
    cases e : intsD? r with
    | none => rw [e] at h; cases h
    | some ms =>
      rw [e] at h
      cases h
      rw [intsD_some e]
      rfl
  | .none :: _, _, h => by cases h
  | .bool _ :: _, _, h => by cases h
  | .str _ :: _, _, h => by cases h
  | .list _ :: _, _, h => by cases h
  | .tuple _ :: _, _, h => by cases h
  | .dict _ :: _, _, h => by cases h
def lexInts (xs ys : List D) : Option D :=
  match intsD? xs, intsD? ys with
  | some a, some b => some (.bool (HT.lexLt a b))
  | _, _ => none
/-- data of one kind all through -/
def okT (x y : D) : Bool := PySem.W.alike x y && decide (x.depth ≤ 60)
theorem okT_of {x y : D} (h : okT x y = true) : PySem.W.alike x y = true ∧ x.depth ≤ 60 := by
  unfold okT at h
  rw [Bool.and_eq_true, decide_eq_true_iff] at h
  exact h
def ltD : D → D → Option D
  | .int i, .int j => some (.bool (decide (i < j)))
  | .str i, .str j => some (.bool (decide (i.cps.toList < j.cps.toList)))
  | .tuple xs, .tuple ys => match lexInts xs ys with
    | some d => some d
    | none => if okT (.tuple xs) (.tuple ys) then some (.bool (PySem.W.dataLt (.tuple xs) (.tuple ys))) else none
  | _, _ => none
theorem op_ltD (hu : X.A.units + 65 < cLine) : OpR X (compareOp .Lt) (rOp X.K ltD) := by
  intro pins s σ H x y v u Q I rx ry h
  obtain ⟨F, dx, dy, d, sm, vx, vy, e, o⟩ := h
  unfold ltD at e
  split at e
  · cases e
    obtain rfl := vx.int
    obtain rfl := vy.int
    exact op_lt pins s σ H _ _ v u Q I rx ry ⟨_, _, rfl, rfl, o.bl⟩
  · cases e
    obtain rfl := vx.str
    obtain rfl := vy.str
    exact op_lt_str pins s σ H _ _ v u Q I rx ry ⟨_, _, rfl, rfl, o.bl⟩
  · rename_i l1 l2
    split at e
    · rename_i d' e'
      cases e
      unfold lexInts at e'
      split at e'
      · rename_i a b ea eb
        cases e'
        have := intsD_some ea; subst this
        have := intsD_some eb; subst this
        obtain ⟨p, xs, rfl, r1, a1⟩ := vx.tuple sm
        obtain ⟨q, ys, rfl, r2, a2⟩ := vy.tuple sm
        have := a1.ints; subst this
        have := a2.ints; subst this
        exact op_ltT (by omega) pins s σ H _ _ v u Q I rx ry ⟨_, _, _, _, rfl, rfl, r1, r2, o.bl⟩
      · cases e'
    · split at e
      · rename_i hk
        cases e
        obtain ⟨h1, h2⟩ := okT_of hk
        obtain ⟨as, ra⟩ := Dp.reads I _ _ _ (vx.dp sm) rx
        obtain ⟨bs, rb⟩ := Dp.reads I _ _ _ (vy.dp sm) ry
        exact PySem.W.lt_data ra rb h1 (fun z => nomatch z) (by have := Nat.min_le_left (PyData.tuple l1).depth (PyData.tuple l2).depth; omega) ⟨.bl _, H, I, rfl, o.bl⟩
      · cases e
  · cases e
def leD : D → D → Option D
  | .int i, .int j => some (.bool (decide (i ≤ j)))
  | .str i, .str j => some (.bool (!decide (j.cps.toList < i.cps.toList)))
  | .tuple xs, .tuple ys => if okT (.tuple xs) (.tuple ys) then some (.bool (!PySem.W.dataLt (.tuple ys) (.tuple xs))) else none
  | _, _ => none
theorem op_leD (hu : X.A.units + 65 < cLine) : OpR X (compareOp .LtE) (rOp X.K leD) := by
  intro pins s σ H x y v u Q I rx ry h
  obtain ⟨F, dx, dy, d, sm, vx, vy, e, o⟩ := h
  unfold leD at e
  split at e
  · cases e
    obtain rfl := vx.int
    obtain rfl := vy.int
    exact op_le pins s σ H _ _ v u Q I rx ry ⟨_, _, rfl, rfl, o.bl⟩
  · cases e
    obtain rfl := vx.str
    obtain rfl := vy.str
    exact op_le_str pins s σ H _ _ v u Q I rx ry ⟨_, _, rfl, rfl, o.bl⟩
  · rename_i l1 l2
    split at e
    · rename_i hk
      cases e
      obtain ⟨h1, h2⟩ := okT_of hk
      obtain ⟨as, ra⟩ := Dp.reads I _ _ _ (vx.dp sm) rx
      obtain ⟨bs, rb⟩ := Dp.reads I _ _ _ (vy.dp sm) ry
      exact PySem.W.le_data ra rb h1 (fun z => nomatch z) (by have := Nat.min_le_left (PyData.tuple l1).depth (PyData.tuple l2).depth; omega) ⟨.bl _, H, I, rfl, o.bl⟩
    · cases e
  · cases e
def gtD : D → D → Option D
  | .int i, .int j => some (.bool (decide (j < i)))
  | .str i, .str j => some (.bool (decide (j.cps.toList < i.cps.toList)))
  | .tuple xs, .tuple ys => if okT (.tuple xs) (.tuple ys) then some (.bool (PySem.W.dataLt (.tuple ys) (.tuple xs))) else none
  | _, _ => none
theorem op_gtD (hu : X.A.units + 65 < cLine) : OpR X (compareOp .Gt) (rOp X.K gtD) := by
  intro pins s σ H x y v u Q I rx ry h
  obtain ⟨F, dx, dy, d, sm, vx, vy, e, o⟩ := h
  unfold gtD at e
  split at e
  · cases e
    obtain rfl := vx.int
    obtain rfl := vy.int
    exact op_gt pins s σ H _ _ v u Q I rx ry ⟨_, _, rfl, rfl, o.bl⟩
  · cases e
    obtain rfl := vx.str
    obtain rfl := vy.str
    exact op_gt_str pins s σ H _ _ v u Q I rx ry ⟨_, _, rfl, rfl, o.bl⟩
  · rename_i l1 l2
    split at e
    · rename_i hk
      cases e
      obtain ⟨h1, h2⟩ := okT_of hk
      obtain ⟨as, ra⟩ := Dp.reads I _ _ _ (vx.dp sm) rx
      obtain ⟨bs, rb⟩ := Dp.reads I _ _ _ (vy.dp sm) ry
      exact PySem.W.gt_data ra rb h1 (fun z => nomatch z) (by have := Nat.min_le_left (PyData.tuple l1).depth (PyData.tuple l2).depth; omega) ⟨.bl _, H, I, rfl, o.bl⟩
    · cases e
  · cases e
def geD : D → D → Option D
  | .int i, .int j => some (.bool (decide (j ≤ i)))
  | .str i, .str j => some (.bool (!decide (i.cps.toList < j.cps.toList)))
  | .tuple xs, .tuple ys => if okT (.tuple xs) (.tuple ys) then some (.bool (!PySem.W.dataLt (.tuple xs) (.tuple ys))) else none
  | _, _ => none
theorem op_geD (hu : X.A.units + 65 < cLine) : OpR X (compareOp .GtE) (rOp X.K geD) := by
  intro pins s σ H x y v u Q I rx ry h
  obtain ⟨F, dx, dy, d, sm, vx, vy, e, o⟩ := h
  unfold geD at e
  split at e
  · cases e
    obtain rfl := vx.int
    obtain rfl := vy.int
    exact op_ge pins s σ H _ _ v u Q I rx ry ⟨_, _, rfl, rfl, o.bl⟩
  · cases e
    obtain rfl := vx.str
    obtain rfl := vy.str
    exact op_ge_str pins s σ H _ _ v u Q I rx ry ⟨_, _, rfl, rfl, o.bl⟩
  · rename_i l1 l2
    split at e
    · rename_i hk
      cases e
      obtain ⟨h1, h2⟩ := okT_of hk
      obtain ⟨as, ra⟩ := Dp.reads I _ _ _ (vx.dp sm) rx
      obtain ⟨bs, rb⟩ := Dp.reads I _ _ _ (vy.dp sm) ry
      exact PySem.W.ge_data ra rb h1 (fun z => nomatch z) (by have := Nat.min_le_left (PyData.tuple l1).depth (PyData.tuple l2).depth; omega) ⟨.bl _, H, I, rfl, o.bl⟩
    · cases e
  · cases e
/-- is: None on the right, or two truth values -/
def isD : D → D → Option D
  | d, .none => some (.bool (isNoneD d))
  | .bool a, .bool b => some (.bool (a == b))
  | _, _ => none
theorem op_isD : OpR X (compareOp .Is) (rOp X.K isD) := by
  intro pins s σ H x y v u Q I rx ry h
  obtain ⟨F, dx, dy, d, sm, vx, vy, e, o⟩ := h
  unfold isD at e
  split at e
  · cases e
    obtain rfl := vy.none
    refine op_isN pins s σ H _ _ v u Q I rx ry ⟨rfl, ?_⟩
    rw [vx.notnone]
    exact o.bl
  · cases e
    obtain rfl := vx.bool
    obtain rfl := vy.bool
    refine op_isBl pins s σ H _ _ v u Q I rx ry ⟨_, _, rfl, rfl, ?_⟩
    rw [← Bool.beq_eq_decide_eq]
    exact o.bl
  · cases e
def notD : Option D → Option D
  | some (.bool b) => some (.bool (!b))
  | _ => none
def isNotD (x y : D) : Option D := notD (isD x y)
theorem op_isNotD : OpR X (compareOp .IsNot) (rOp X.K isNotD) := by
  intro pins s σ H x y v u Q I rx ry h
  obtain ⟨F, dx, dy, d, sm, vx, vy, e, o⟩ := h
  unfold isNotD isD at e
  split at e
  · cases e
    obtain rfl := vy.none
    refine op_notN pins s σ H _ _ v u Q I rx ry ⟨rfl, ?_⟩
    rw [vx.notnone]
    exact o.bl
  · cases e
    obtain rfl := vx.bool
    obtain rfl := vy.bool
    refine op_notBl pins s σ H _ _ v u Q I rx ry ⟨_, _, rfl, rfl, ?_⟩
    rw [← Bool.beq_eq_decide_eq]
    exact o.bl
  · cases e
/-- in: a list, a tuple; one sign or more in a text -/
def inD : D → D → Option D
  | d, .list l => if SeqAt.shaped d && SeqAt.shaped (.list l) then some (.bool (l.any fun z => PyData.eqv z d)) else none
  | d, .tuple l => if SeqAt.shaped d && SeqAt.shaped (.tuple l) then some (.bool (l.any fun z => PyData.eqv z d)) else none
  | .str i, .str j => some (.bool (!(Builtin.Str.occurrences j i 0 j.length 1).isEmpty))
  | _, _ => none
theorem op_inDD (hu : X.A.units + 65 < cLine) : OpR X (compareOp .In) (rOp X.K inD) := by
  intro pins s σ H x y v u Q I rx ry h
  obtain ⟨F, dx, dy, d, sm, vx, vy, e, o⟩ := h
  unfold inD at e
  split at e
  · split at e
    · rename_i hs
      cases e
      simp only [Bool.and_eq_true] at hs
      exact op_inD hu pins s σ H _ _ v u Q I rx ry ⟨_, _, vx.dp sm, vy.dp sm, hs.1, hs.2, o.bl⟩
    · cases e
  · split at e
    · rename_i hs
      cases e
      simp only [Bool.and_eq_true] at hs
      obtain ⟨as, r1⟩ := Dp.reads I _ x v (vx.dp sm) rx
      obtain ⟨bs, r2⟩ := Dp.reads I _ y u (vy.dp sm) ry
      exact SeqAt.in_tuple_reads r2 r1 (SeqAt.canLay_of_shaped hs.2) (SeqAt.canLay_of_shaped hs.1) (room_in_shaped hs.1 hu) ⟨.bl _, H, I, rfl, o.bl⟩
    · cases e
  · cases e
    obtain rfl := vx.str
    obtain rfl := vy.str
    exact op_in_str pins s σ H _ _ v u Q I rx ry ⟨_, _, rfl, rfl, o.bl⟩
  · cases e
def notInD (x y : D) : Option D := notD (inD x y)
theorem op_notInDD (hu : X.A.units + 65 < cLine) : OpR X (compareOp .NotIn) (rOp X.K notInD) := by
  intro pins s σ H x y v u Q I rx ry h
  obtain ⟨F, dx, dy, d, sm, vx, vy, e, o⟩ := h
  unfold notInD inD at e
  split at e
  · split at e
    · rename_i hs
      cases e
      simp only [Bool.and_eq_true] at hs
      exact op_notInD hu pins s σ H _ _ v u Q I rx ry ⟨_, _, vx.dp sm, vy.dp sm, hs.1, hs.2, o.bl⟩
    · cases e
  · split at e
    · rename_i hs
      cases e
      simp only [Bool.and_eq_true] at hs
      obtain ⟨as, r1⟩ := Dp.reads I _ x v (vx.dp sm) rx
      obtain ⟨bs, r2⟩ := Dp.reads I _ y u (vy.dp sm) ry
      exact SeqAt.notIn_tuple_reads r2 r1 (SeqAt.canLay_of_shaped hs.2) (SeqAt.canLay_of_shaped hs.1) (room_in_shaped hs.1 hu) ⟨.bl _, H, I, rfl, o.bl⟩
    · cases e
  · cases e
    obtain rfl := vx.str
    obtain rfl := vy.str
    exact op_notin_str pins s σ H _ _ v u Q I rx ry ⟨_, _, rfl, rfl, o.bl⟩
  · cases e
end
end Rv

set_option Elab.async false
set_option linter.all false
set_option maxRecDepth 100000
set_option maxHeartbeats 4000000
/-! Rv3: calls of built-ins, items, slices by plain data. -/
namespace Rv
open PySem PySem.Spec PyProof.Rows L2

def rCl (K : PySem.W.Frag) (f : List D → Option D) : List V → Hp → VK → Prop := fun xs H Q => ∃ F ds d, Same F H ∧ Vws K F H xs ds ∧ f ds = some d ∧ Out K F H d Q
section
variable {K : PySem.W.Frag} {F H : Hp} {xs : List V}
theorem Vws.one {d : D} (h : Vws K F H xs [d]) : ∃ v, xs = [v] ∧ Vw K F H v d := by
  cases h with
  | cons a b => cases b; exact ⟨_, rfl, a⟩
theorem Vws.two {d e : D} (h : Vws K F H xs [d, e]) : ∃ v u, xs = [v, u] ∧ Vw K F H v d ∧ Vw K F H u e := by
  cases h with
  | cons a b =>
    cases b with
    | cons c r => cases r; exact ⟨_, _, rfl, a, c⟩
end
section
variable {X : Cx}
def lenD : List D → Option D
  | [.list l] => some (.int (l.length : Nat))
  | [.tuple l] => some (.int (l.length : Nat))
  | [.str x] => if x.length ≤ sizeLine then some (.int (x.length : Nat)) else none
  | _ => none
theorem cl_len : CallR X (.builtin "len") (rCl X.K lenD) := by
  intro pins s σ H xs us Q I r h
  obtain ⟨F, ds, d, sm, vw, e, o⟩ := h
  unfold lenD at e
  split at e
  · cases e
    obtain ⟨v, rfl, vv⟩ := vw.one
    obtain ⟨a, xs, rfl, r1, a1⟩ := vv.list sm
    exact call_len pins s σ H _ us Q I r ⟨_, _, rfl, .inl ⟨_, r1, rfl⟩, by rw [a1.length]; exact o.int⟩
  · cases e
    obtain ⟨v, rfl, vv⟩ := vw.one
    obtain ⟨a, xs, rfl, r1, a1⟩ := vv.tuple sm
    exact call_len pins s σ H _ us Q I r ⟨_, _, rfl, .inr ⟨_, r1, rfl⟩, by rw [a1.length]; exact o.int⟩
  · split at e
    · cases e
      obtain ⟨v, rfl, vv⟩ := vw.one
      obtain rfl := vv.str
      exact call_len pins s σ H _ us Q I r ⟨_, _, rfl, ⟨by assumption, rfl⟩, o.int⟩
    · cases e
  · cases e
def absD : List D → Option D
  | [.int i] => some (.int (if i < 0 then -i else i))
  | _ => none
theorem cl_abs : CallR X (.builtin "abs") (rCl X.K absD) := by
  intro pins s σ H xs us Q I r h
  obtain ⟨F, ds, d, sm, vw, e, o⟩ := h
  unfold absD at e
  split at e
  · cases e
    obtain ⟨v, rfl, vv⟩ := vw.one
    obtain rfl := vv.int
    exact call_abs pins s σ H _ us Q I r ⟨_, rfl, o.int⟩
  · cases e
def intOf : List D → Option D
  | [.int i] => some (.int i)
  | [.bool b] => some (.int (if b then 1 else 0))
  | _ => none
theorem cl_int : CallR X (.type "int") (rCl X.K intOf) := by
  intro pins s σ H xs us Q I r h
  obtain ⟨F, ds, d, sm, vw, e, o⟩ := h
  unfold intOf at e
  split at e
  · cases e
    obtain ⟨v, rfl, vv⟩ := vw.one
    obtain rfl := vv.int
    exact call_int1 pins s σ H _ us Q I r (.inl ⟨_, rfl, o.int⟩)
  · cases e
    obtain ⟨v, rfl, vv⟩ := vw.one
    obtain rfl := vv.bool
    exact call_int1 pins s σ H _ us Q I r (.inr ⟨_, rfl, o.int⟩)
  · cases e
/-- a text's signs -/
def signsV (x : Str) : List V := x.cps.toList.map fun c => V.str ⟨#[c]⟩
def signsD (x : Str) : List D := x.cps.toList.map fun c => PyData.str ⟨#[c]⟩
theorem rp_signs {K : PySem.W.Frag} {F : Hp} : ∀ cs : List Nat, RpAll K F (cs.map fun c => V.str ⟨#[c]⟩) (cs.map fun c => PyData.str ⟨#[c]⟩)
  | [] => .nil
  | c :: cs => .cons (.str _) (rp_signs cs)
theorem vals_signs {x : Str} {acc : Array Value} (h : ItemsOf (SignAt x) acc x.cps.size) : Vals (signsV x) acc.toList := by
  obtain ⟨h1, h2⟩ := h
  have key : ∀ (cs : List Nat) (us : List Value), us.length = cs.length → (∀ (j : Nat) (v : Value), us[j]? = some v → ∃ c u, cs[j]? = some c ∧ v = Value.str ⟨#[c]⟩ u) → Vals (cs.map fun c => V.str ⟨#[c]⟩) us := by
    intro cs
    induction cs with
    | nil =>
      intro us hl _
      cases us with
      | nil => exact .nil
      | cons _ _ => cases hl
    | cons c cs ih =>
      intro us hl hv
      cases us with
      | nil => cases hl
      | cons u us =>
        obtain ⟨c', t, e1, e2⟩ := hv 0 u rfl
        cases e1
        subst e2
        exact .cons ⟨t, rfl⟩ (ih us (by simpa using hl) fun j v e => hv (j + 1) v e)
  refine key _ _ (by rw [Array.length_toList, h1, Array.length_toList]) fun j v e => ?_
  rw [Array.getElem?_toList] at e
  obtain ⟨c, u, e1, e2⟩ := h2 j v e
  exact ⟨c, u, by rw [Array.getElem?_toList]; exact e1, e2⟩
def listOf : List D → Option D
  | [.list l] => some (.list l)
  | [.tuple l] => some (.list l)
  | [.str x] => if x.cps.size ≤ sizeLine then some (.list (signsD x)) else none
  | _ => none
theorem cl_list (hc : X.calm = true) : CallR X (.type "list") (rCl X.K listOf) := by
  intro pins s σ H xs us Q I r h
  obtain ⟨F, ds, d, sm, vw, e, o⟩ := h
  unfold listOf at e
  split at e
  · cases e
    obtain ⟨v, rfl, vv⟩ := vw.one
    obtain ⟨a, xs, rfl, r1, a1⟩ := vv.list sm
    exact call_list_of pins s σ H _ us Q I r ⟨_, _, rfl, .inl r1, fun q hq => o.lst q _ _ rfl hq a1⟩
  · cases e
    obtain ⟨v, rfl, vv⟩ := vw.one
    obtain ⟨a, xs, rfl, r1, a1⟩ := vv.tuple sm
    exact call_list_of pins s σ H _ us Q I r ⟨_, _, rfl, .inr r1, fun q hq => o.lst q _ _ rfl hq a1⟩
  · split at e
    · rename_i hz
      cases e
      obtain ⟨v, rfl, vv⟩ := vw.one
      obtain rfl := vv.str
      obtain ⟨u, rfl, t, rfl⟩ := vals1 r
      refine call_list_str (I.ok.hd hc) _ t (fun h' tk acc c' kp e2 it => ?_) hz
      have rv := vals_signs it
      refine ⟨.ref s.heap.objs.size, _, I.laid (t' := tk) (o := .lst (signsV _)) kp (Nat.le_refl _) ⟨?_, acc.toList, c', rv, by rw [Array.toArray_toList]; exact e2⟩, rfl, o.lst _ _ _ rfl (I.hok.fresh (Nat.le_refl _)) (rp_signs _)⟩
      unfold signsV
      rw [List.length_map, Array.length_toList]; exact hz
    · cases e
  · cases e
def tupOf : List D → Option D
  | [.list l] => some (.tuple l)
  | [.tuple l] => some (.tuple l)
  | [.str x] => if x.cps.size ≤ sizeLine then some (.tuple (signsD x)) else none
  | _ => none
theorem cl_tuple (hc : X.calm = true) : CallR X (.type "tuple") (rCl X.K tupOf) := by
  intro pins s σ H xs us Q I r h
  obtain ⟨F, ds, d, sm, vw, e, o⟩ := h
  unfold tupOf at e
  split at e
  · cases e
    obtain ⟨v, rfl, vv⟩ := vw.one
    obtain ⟨a, xs, rfl, r1, a1⟩ := vv.list sm
    exact call_tuple_of pins s σ H _ us Q I r ⟨_, _, rfl, .inl ⟨r1, fun q hq => o.tup q _ _ rfl hq a1⟩⟩
  · cases e
    obtain ⟨v, rfl, vv⟩ := vw.one
    obtain ⟨a, xs, rfl, r1, a1⟩ := vv.tuple sm
    refine call_tuple_of pins s σ H _ us Q I r ⟨_, _, rfl, .inr ⟨r1, ?_⟩⟩
    cases vv with
    | rp r => exact o.old _ r fun _ z => nomatch z
  · split at e
    · rename_i hz
      cases e
      obtain ⟨v, rfl, vv⟩ := vw.one
      obtain rfl := vv.str
      obtain ⟨u, rfl, t, rfl⟩ := vals1 r
      refine call_tuple_str (I.ok.hd hc) _ t (fun h' tk acc kp it => ?_) hz
      have rv := vals_signs it
      have I1 : Inv X pins σ H { s with heap := h', toks := tk } := I.kept (t' := tk) kp
      have I2 : Inv X pins σ (upd H h'.objs.size (.tup (signsV _))) { s with heap := h'.push { cls := .type "tuple", data := .seq acc }, toks := tk } :=
        I1.laid (t' := tk) (fun b o e => Heap.get?_push_of_some _ e) (Nat.le_refl _) ⟨by unfold signsV; rw [List.length_map, Array.length_toList]; exact hz, acc.toList, rv, by rw [Array.toArray_toList]; exact IsTup.new _ _⟩
      exact ⟨.ref h'.objs.size, _, I2, rfl, o.tup _ _ _ rfl (I1.hok.fresh (Nat.le_refl _)) (rp_signs _)⟩
    · cases e
  · cases e

/-! ### all, any of truth values -/
def boolsD? : List D → Option (List Bool)
  | [] => some []
  | .bool i :: r => (boolsD? r).map (i :: ·)
  | _ => none
theorem boolsD_some : ∀ {l : List D} {ns : List Bool}, boolsD? l = some ns → l = ns.map PyData.bool
  | [], _, h => by cases h; rfl
  | .bool i :: r, ns, h => by
    unfold boolsD? at h
    cases e : boolsD? r with
    | none => rw [e] at h; cases h
    | some ms =>
      rw [e] at h
      cases h
      rw [boolsD_some e]
      rfl
  | .none :: _, _, h => by cases h
  | .int _ :: _, _, h => by cases h
  | .str _ :: _, _, h => by cases h
  | .list _ :: _, _, h => by cases h
  | .tuple _ :: _, _, h => by cases h
  | .dict _ :: _, _, h => by cases h
theorem RpAll.bools {K : PySem.W.Frag} {H : Hp} : ∀ {vs : List V} {ns : List Bool}, RpAll K H vs (ns.map PyData.bool) → vs = ns.map V.bl
  | [], [], _ => rfl
  | _ :: _, _ :: _, h => by
    cases h with
    | cons a b => cases a; rw [RpAll.bools b]; rfl
  | [], _ :: _, h => by cases h
  | _ :: _, [], h => by cases h
def allD : List D → Option D
  | [.list l] => (boolsD? l).map fun bs => .bool (bs.all id)
  | _ => none
def anyD : List D → Option D
  | [.list l] => (boolsD? l).map fun bs => .bool (bs.any id)
  | _ => none
theorem cl_all (hc : X.calm = true) : CallR X (.builtin "all") (rCl X.K allD) := by
  intro pins s σ H xs us Q I r h
  obtain ⟨F, ds, d, sm, vw, e, o⟩ := h
  unfold allD at e
  split at e
  · rename_i l
    cases eb : boolsD? l with
    | none => rw [eb] at e; cases e
    | some bs =>
      rw [eb] at e; cases e
      have := boolsD_some eb; subst this
      obtain ⟨v, rfl, vv⟩ := vw.one
      obtain ⟨a, xs, rfl, r1, a1⟩ := vv.list sm
      have := a1.bools; subst this
      exact cr_all hc pins s σ H _ us Q I r ⟨_, _, rfl, r1, o.bl⟩
  · cases e
theorem cl_any (hc : X.calm = true) : CallR X (.builtin "any") (rCl X.K anyD) := by
  intro pins s σ H xs us Q I r h
  obtain ⟨F, ds, d, sm, vw, e, o⟩ := h
  unfold anyD at e
  split at e
  · rename_i l
    cases eb : boolsD? l with
    | none => rw [eb] at e; cases e
    | some bs =>
      rw [eb] at e; cases e
      have := boolsD_some eb; subst this
      obtain ⟨v, rfl, vv⟩ := vw.one
      obtain ⟨a, xs, rfl, r1, a1⟩ := vv.list sm
      have := a1.bools; subst this
      exact cr_any hc pins s σ H _ us Q I r ⟨_, _, rfl, r1, o.bl⟩
  · cases e

/-! ### sum, max, min of ints -/
def sumD : List D → Option D
  | [.list l] => (intsD? l).map fun ns => .int ns.sum
  | [.tuple l] => (intsD? l).map fun ns => .int ns.sum
  | _ => none
theorem sum_tup_raw {prog : Program} {w : World} {A : Around} {E : Value → Shared → Prop} {s : Shared} {l : Addr} {its : List Value} {ns : List Int} {Q : Value → Shared → Prop} (hh : A.handled = none) (hl : s.heap.IsTuple l its.toArray) (hi : IntsAre its ns)
    (h : ∀ h' tk t', (∀ b o, s.heap.get? b = some o → h'.get? b = some o) → Q (.int ns.sum t') { s with heap := h', toks := tk }) : wpAny (model prog w) A (call (.builtin "sum") [.ref l]) Q E s := by
  obtain ⟨xs, hx⟩ := hi.allInts.items
  have hn : numsOf its.toArray.toList = ns := by rw [show its.toArray.toList = its from rfl, hi.numsOf]
  rw [hx] at hl hn
  rw [nums_intItems] at hn
  refine PySem.W.ktm_sumG hh hl fun h' tk t' hk => ?_
  have := h h' tk t' hk
  rw [preSum_eq, List.take_of_length_le (by simp), hn]
  exact this
theorem cl_sum (hc : X.calm = true) : CallR X (.builtin "sum") (rCl X.K sumD) := by
  intro pins s σ H xs us Q I r h
  obtain ⟨F, ds, d, sm, vw, e, o⟩ := h
  unfold sumD at e
  split at e
  · rename_i l
    cases eb : intsD? l with
    | none => rw [eb] at e; cases e
    | some bs =>
      rw [eb] at e; cases e
      have := intsD_some eb; subst this
      obtain ⟨v, rfl, vv⟩ := vw.one
      obtain ⟨a, xs, rfl, r1, a1⟩ := vv.list sm
      have := a1.ints; subst this
      exact cr_sum hc pins s σ H _ us Q I r ⟨_, _, rfl, r1, o.int⟩
  · rename_i l
    cases eb : intsD? l with
    | none => rw [eb] at e; cases e
    | some bs =>
      rw [eb] at e; cases e
      have := intsD_some eb; subst this
      obtain ⟨v, rfl, vv⟩ := vw.one
      obtain ⟨a, xs, rfl, r1, a1⟩ := vv.tuple sm
      have := a1.ints; subst this
      obtain ⟨its, rv, ht, _⟩ := I.tuple r1
      rw [Vals.ref1 r]
      exact sum_tup_raw (I.ok.hd hc) ht rv.ints fun h' tk t' hk => ⟨.int _, H, I.kept hk, ⟨_, rfl⟩, o.int⟩
  · cases e
def maxI (n : Int) (ns : List Int) : Int := ns.foldl max n
def minI (n : Int) (ns : List Int) : Int := ns.foldl min n
theorem alike_of_ints : ∀ x y : D, (∃ i, x = .int i) → (∃ j, y = .int j) → PySem.W.alike x y = true := by
  rintro _ _ ⟨i, rfl⟩ ⟨j, rfl⟩
  first | rfl | simp [PySem.W.alike]
theorem alikeAll_ints (ns : List Int) : PySem.W.AlikeAll (ns.map PyData.int) := by
  refine ⟨fun x hx y hy => ?_, fun x hx => ?_⟩
  · obtain ⟨i, _, rfl⟩ := List.mem_map.mp hx
    obtain ⟨j, _, rfl⟩ := List.mem_map.mp hy
    exact alike_of_ints _ _ ⟨i, rfl⟩ ⟨j, rfl⟩
  · obtain ⟨i, _, rfl⟩ := List.mem_map.mp hx
    intro z; cases z
theorem depth_ints : ∀ ns : List Int, PyData.depthAll (ns.map PyData.int) = 0
  | [] => rfl
  | n :: ns => by
    rw [List.map_cons]
    have := depth_ints ns
    first
      | (unfold PyData.depthAll; rw [this]; rfl)
      | simp [PyData.depthAll, PyData.depth, this]
theorem readsAll_ints {h : Heap} : ∀ {us : List Value} {ns : List Int}, IntsAre us ns → ∃ as, ReadsAll h us (ns.map PyData.int) as
  | _, _, .nil => ⟨_, ReadsAll.nil⟩
  | _, _, .cons n t hr => by
    obtain ⟨as, q⟩ := readsAll_ints (h := h) hr
    exact ⟨_, ReadsAll.cons (Reads.int n t) q⟩
theorem Reads.int_is {h : Heap} {v : Value} {m : Int} {as : List Addr} (r : Reads h v (.int m) as) : ∃ t, v = .int m t := by
  cases r
  exact ⟨_, rfl⟩
def maxD1 : List Int → Option D
  | [] => none
  | n :: ns => some (.int (maxI n ns))
def minD1 : List Int → Option D
  | [] => none
  | n :: ns => some (.int (minI n ns))
def maxDD : List D → Option D
  | [.list l] => (intsD? l).bind maxD1
  | [.tuple l] => (intsD? l).bind maxD1
  | [.int i, .int j] => some (.int (if j > i then j else i))
  | _ => none
def minDD : List D → Option D
  | [.list l] => (intsD? l).bind minD1
  | [.tuple l] => (intsD? l).bind minD1
  | [.int i, .int j] => some (.int (if j < i then j else i))
  | _ => none
theorem cl_max (hc : X.calm = true) (hu : X.A.units + 65 < cLine) : CallR X (.builtin "max") (rCl X.K maxDD) := by
  intro pins s σ H xs us Q I r h
  obtain ⟨F, ds, d, sm, vw, e, o⟩ := h
  unfold maxDD at e
  split at e
  · rename_i l
    cases eb : intsD? l with
    | none => rw [eb] at e; cases e
    | some bs =>
      rw [eb] at e
      have := intsD_some eb; subst this
      cases bs with
      | nil => cases e
      | cons n ns =>
        have e : some (PyData.int (maxI n ns)) = some d := e
        cases e
        obtain ⟨v, rfl, vv⟩ := vw.one
        obtain ⟨a, xs, rfl, r1, a1⟩ := vv.list sm
        have := a1.ints; subst this
        obtain ⟨its, rv, hl, _⟩ := I.list (r1)
        rw [Vals.ref1 r]
        obtain ⟨as, ra⟩ := readsAll_ints (h := s.heap) rv.ints
        refine PySem.W.max_list_data (xs := ns.map PyData.int) (x := .int n) (I.ok.hd hc) hl.isList ra (alikeAll_ints (n :: ns)) (by rw [show (PyData.int n :: ns.map PyData.int) = (n :: ns).map PyData.int from rfl, depth_ints]; omega) fun i v h' tk bs hv hr hk => ?_
        rw [PySem.W.maxD_ints] at hr
        obtain ⟨t, rfl⟩ := Reads.int_is hr
        exact ⟨.int _, H, I.kept hk, ⟨_, rfl⟩, o.int⟩
  · rename_i l
    cases eb : intsD? l with
    | none => rw [eb] at e; cases e
    | some bs =>
      rw [eb] at e
      have := intsD_some eb; subst this
      cases bs with
      | nil => cases e
      | cons n ns =>
        have e : some (PyData.int (maxI n ns)) = some d := e
        cases e
        obtain ⟨v, rfl, vv⟩ := vw.one
        obtain ⟨a, xs, rfl, r1, a1⟩ := vv.tuple sm
        have := a1.ints; subst this
        obtain ⟨its, rv, ht, _⟩ := I.tuple r1
        rw [Vals.ref1 r]
        obtain ⟨as, ra⟩ := readsAll_ints (h := s.heap) rv.ints
        refine PySem.W.max_tuple_data (xs := ns.map PyData.int) (x := .int n) (I.ok.hd hc) ht ra (alikeAll_ints (n :: ns)) (by rw [show (PyData.int n :: ns.map PyData.int) = (n :: ns).map PyData.int from rfl, depth_ints]; omega) fun i v h' tk bs hv hr hk => ?_
        rw [PySem.W.maxD_ints] at hr
        obtain ⟨t, rfl⟩ := Reads.int_is hr
        exact ⟨.int _, H, I.kept hk, ⟨_, rfl⟩, o.int⟩
  · cases e
    obtain ⟨v, u, rfl, v1, v2⟩ := vw.two
    obtain rfl := v1.int
    obtain rfl := v2.int
    exact call_max2 hc pins s σ H _ us Q I r ⟨_, _, rfl, o.int⟩
  · cases e
theorem cl_min (hc : X.calm = true) (hu : X.A.units + 65 < cLine) : CallR X (.builtin "min") (rCl X.K minDD) := by
  intro pins s σ H xs us Q I r h
  obtain ⟨F, ds, d, sm, vw, e, o⟩ := h
  unfold minDD at e
  split at e
  · rename_i l
    cases eb : intsD? l with
    | none => rw [eb] at e; cases e
    | some bs =>
      rw [eb] at e
      have := intsD_some eb; subst this
      cases bs with
      | nil => cases e
      | cons n ns =>
        have e : some (PyData.int (minI n ns)) = some d := e
        cases e
        obtain ⟨v, rfl, vv⟩ := vw.one
        obtain ⟨a, xs, rfl, r1, a1⟩ := vv.list sm
        have := a1.ints; subst this
        obtain ⟨its, rv, hl, _⟩ := I.list (r1)
        rw [Vals.ref1 r]
        obtain ⟨as, ra⟩ := readsAll_ints (h := s.heap) rv.ints
        refine PySem.W.min_list_data (xs := ns.map PyData.int) (x := .int n) (I.ok.hd hc) hl.isList ra (alikeAll_ints (n :: ns)) (by rw [show (PyData.int n :: ns.map PyData.int) = (n :: ns).map PyData.int from rfl, depth_ints]; omega) fun i v h' tk bs hv hr hk => ?_
        rw [PySem.W.minD_ints] at hr
        obtain ⟨t, rfl⟩ := Reads.int_is hr
        exact ⟨.int _, H, I.kept hk, ⟨_, rfl⟩, o.int⟩
  · rename_i l
    cases eb : intsD? l with
    | none => rw [eb] at e; cases e
    | some bs =>
      rw [eb] at e
      have := intsD_some eb; subst this
      cases bs with
      | nil => cases e
      | cons n ns =>
        have e : some (PyData.int (minI n ns)) = some d := e
        cases e
        obtain ⟨v, rfl, vv⟩ := vw.one
        obtain ⟨a, xs, rfl, r1, a1⟩ := vv.tuple sm
        have := a1.ints; subst this
        obtain ⟨its, rv, ht, _⟩ := I.tuple r1
        rw [Vals.ref1 r]
        obtain ⟨as, ra⟩ := readsAll_ints (h := s.heap) rv.ints
        refine PySem.W.min_tuple_data (xs := ns.map PyData.int) (x := .int n) (I.ok.hd hc) ht ra (alikeAll_ints (n :: ns)) (by rw [show (PyData.int n :: ns.map PyData.int) = (n :: ns).map PyData.int from rfl, depth_ints]; omega) fun i v h' tk bs hv hr hk => ?_
        rw [PySem.W.minD_ints] at hr
        obtain ⟨t, rfl⟩ := Reads.int_is hr
        exact ⟨.int _, H, I.kept hk, ⟨_, rfl⟩, o.int⟩
  · cases e
    obtain ⟨v, u, rfl, v1, v2⟩ := vw.two
    obtain rfl := v1.int
    obtain rfl := v2.int
    exact call_min2 hc pins s σ H _ us Q I r ⟨_, _, rfl, o.int⟩
  · cases e

/-! ### items -/
/-- what is wanted of a known value -/
def OutX (K : PySem.W.Frag) (F H : Hp) (d : D) (Q : VK) : Prop := ∀ v, Rp K F v d → Q v H
def rOpX (K : PySem.W.Frag) (f : D → D → Option D) : R2 := fun x y H Q => ∃ F dx dy d, Same F H ∧ Vw K F H x dx ∧ Vw K F H y dy ∧ f dx dy = some d ∧ OutX K F H d Q
def idxD : D → D → Option D
  | .list l, .int i => atI l i
  | .tuple l, .int i => atI l i
  | .str z, .int i => if z.length ≤ sizeLine then (atI z.cps.toList i).map fun c => .str ⟨#[c]⟩ else none
  | _, _ => none
theorem atI_rp {K : PySem.W.Frag} {F : Hp} {xs : List V} {l : List D} {i : Int} {d : D} (h : RpAll K F xs l) (e : atI l i = some d) : ∃ v, atI xs i = some v ∧ Rp K F v d := by
  unfold atI at e ⊢
  rw [h.length]
  cases q : ixN l.length i with
  | none => rw [q] at e; cases e
  | some j =>
    rw [q] at e
    exact h.get' e
theorem ix_idxD : IxR X (rOpX X.K idxD) := by
  intro value slice pins s σ H x y v u Q I rx ry h hsub
  obtain ⟨F, dx, dy, d, sm, vx, vy, e, o⟩ := h
  unfold idxD at e
  split at e
  · obtain ⟨a, xs, rfl, r1, a1⟩ := vx.list sm
    obtain rfl := vy.int
    obtain ⟨w, e1, e2⟩ := atI_rp a1 e
    exact ix_list value slice pins s σ H _ _ v u Q I rx ry ⟨_, _, _, _, rfl, rfl, r1, e1, o _ e2⟩ hsub
  · obtain ⟨a, xs, rfl, r1, a1⟩ := vx.tuple sm
    obtain rfl := vy.int
    obtain ⟨w, e1, e2⟩ := atI_rp a1 e
    exact ix_tup value slice pins s σ H _ _ v u Q I rx ry ⟨_, _, _, _, rfl, rfl, r1, e1, o _ e2⟩ hsub
  · rename_i z i
    split at e
    · obtain rfl := vx.str
      obtain rfl := vy.int
      cases q : atI z.cps.toList i with
      | none => rw [q] at e; cases e
      | some c =>
        rw [q] at e; cases e
        exact ix_str value slice pins s σ H _ _ v u Q I rx ry ⟨_, _, _, rfl, rfl, by assumption, q, o _ (.str _)⟩ hsub
    · cases e
  · cases e

/-! ### slices -/
def cutD (xs : List D) (lo hi : Option Int) : List D := (xs.drop (HT.sIx xs.length 0 lo)).take (HT.sIx xs.length xs.length hi - HT.sIx xs.length 0 lo)
theorem cut_rp {K : PySem.W.Frag} {F : Hp} {xs : List V} {l : List D} {lo hi : Option Int} (h : RpAll K F xs l) : RpAll K F (cutV xs lo hi) (cutD l lo hi) := by
  unfold cutV cutD
  rw [h.length]
  exact (h.drop _).take _
def slD : D → Option Int → Option Int → Option D
  | .list l, lo, hi => some (.list (cutD l lo hi))
  | .tuple l, lo, hi => some (.tuple (cutD l lo hi))
  | _, _, _ => none
def rSlD (K : PySem.W.Frag) : V → Option Int → Option Int → Hp → VK → Prop := fun x lo hi H Q => ∃ F dx d, Same F H ∧ Vw K F H x dx ∧ slD dx lo hi = some d ∧ Out K F H d Q
theorem cutD_whole {l : List D} {lo hi : Option Int} (h : HT.sIx l.length 0 lo = 0 ∧ HT.sIx l.length l.length hi = l.length) : cutD l lo hi = l := by
  unfold cutD
  rw [h.1, h.2]
  simp
theorem sl_dD : SlR X (rSlD X.K) := by
  intro pins s σ H x v vl vu lo hi sl Q I rx hs pl pu h
  obtain ⟨F, dx, d, sm, vx, e, o⟩ := h
  unfold slD at e
  split at e
  · cases e
    obtain ⟨a, xs, rfl, r1, a1⟩ := vx.list sm
    exact sl_list pins s σ H _ v vl vu _ _ sl Q I rx hs pl pu ⟨_, _, rfl, r1, fun q hq => o.lst q _ _ rfl hq (cut_rp a1)⟩
  · cases e
    rename_i l lo hi
    obtain ⟨a, xs, rfl, r1, a1⟩ := vx.tuple sm
    refine sl_tupA pins s σ H _ v vl vu _ _ sl Q I rx hs pl pu ⟨_, _, rfl, r1, fun hw => ?_, fun _ q hq => o.tup q _ _ rfl hq (cut_rp a1)⟩
    rw [a1.length] at hw
    rw [cutD_whole hw] at o
    cases vx with
    | rp r => exact o.old _ r fun _ z => nomatch z
  · cases e
end
end Rv

set_option Elab.async false
set_option linter.all false
set_option maxRecDepth 100000
set_option maxHeartbeats 4000000
/-! Rv3s: sorted of data. -/
namespace PySem.W
open PySem PySem.Calls PyProof.Rows
/-! lists of tuples, an empty one among them -/
section
variable {prog : Program} {w : World} {A : Around} {s : Shared}
theorem oneLtT {xs ys : List PyData} {va vb : Value} {as bs : List Addr} {E : Value → Shared → Prop} {Q : Bool → Shared → Prop} (ra : Reads s.heap va (.tuple xs) as) (rb : Reads s.heap vb (.tuple ys) bs) (h : alike (.tuple xs) (.tuple ys) = true)
    (hu : A.units + min (PyData.depth (.tuple xs)) (PyData.depth (.tuple ys)) < cLine) (hq : Q (dataLt (.tuple xs) (.tuple ys)) s) : wpAny (model prog w) A (oneLt' true va vb) Q E s := by
  have hal : alikeAll xs ys = true := by simpa [alike] using h
  cases ra with
  | @tuple p o1 us c1 _ _ f1 f2 f3 f4 =>
    cases rb with
    | @tuple q o2 ws c2 _ _ g1 g2 g3 g4 =>
      have m1 : us.size = xs.length := by simpa using SeqAt.ReadsAll.length _ _ _ f4
      have m2 : ws.size = ys.length := by simpa using SeqAt.ReadsAll.length _ _ _ g4
      rw [dataLt_tuple, ← firstLt_toks xs ys hal, ← m1, ← m2] at hq
      rw [oneLt'_eq]
      simp only [if_true]
      obtain ⟨k1, e1, t1, l1⟩ := o1
      obtain ⟨k2, e2, t2, l2⟩ := o2
      simp only at f2 f3 g2 g3
      subst f2 f3 g2 g3
      refine wpAny_bind (wpAny_cRoomFor (by have q := SeqAt.room_in hu; omega) ?_)
      refine wpAny_bind (wpAny_callSpecialIfBound?_slot (T := "tuple") ⟨_, f1, rfl⟩ PySem.F.slot_tuple_lt (call_meets PySem.F.slot_tuple_lt ⟨_, f1, rfl⟩ PySem.F.entry_tuple_lt (PySem.F.args_tuple_lt_2 _ _)
        (SeqAt.tuple_ltAt p q us ws c1 c2 e1 e2 l1 l2 (SeqAt.pairEq xs ys) (fun j => dataLt (xs.getD j .none) (ys.getD j .none))) ⟨f1, g1, fun j j1 j2 => ?_, fun j j1 j2 hj => ?_, ?_⟩))
      · have z := eqAt_alikeAll xs ys A.in1 s us.toList ws.toList _ _ f4 g4 hal (SeqAt.room_in hu) j (by simpa using j1) (by simpa using j2)
        simpa using z
      · have z := rcLt_alikeAll xs ys A.in1 s us.toList ws.toList _ _ f4 g4 hal (SeqAt.room_in hu) j (by simpa using j1) (by simpa using j2) hj
        simpa using z
      · exact wpAny_truthy_bool hq
/-- a tuple that is not empty -/
def neTup : PyData → Bool
  | .tuple (_ :: _) => true
  | _ => false
theorem firsts_any : ∀ (us : List Value) (ds : List PyData) {E : Value → Shared → Prop} {Q : List (Option Value) → Shared → Prop}, EachIs (fun v d => (∃ xs, d = .tuple xs) ∧ ∃ as, Reads s.heap v d as) us ds → (∀ fs, fs.map (·.isSome) = ds.map neTup → Q fs s) → wpAny (model prog w) A (us.mapM firstOfTuple') Q E s
  | [], _, _, _, .nil, h => by rw [List.mapM_nil]; exact wpAny_pure (h [] rfl)
  | v :: us, d :: ds, E, Q, .cons ⟨⟨xs, hx⟩, as, r⟩ t, h => by
    subst hx
    cases r with
    | @tuple p ob ws c _ _ f1 f2 f3 f4 =>
      rw [List.mapM_cons]
      refine wpAny_bind ?_
      rw [kas_first_eq]
      refine wpAny_bind (Looks.here (show Looks (model prog w) s.heap (typeOf (.ref p)) ob.cls from (Looks.ld f1).andThen .now) ?_)
      rw [f2, if_neg (by first | decide | simp)]
      refine wpAny_bind (listItems_at f1 f3 (wpAny_pure ?_))
      refine wpAny_bind (firsts_any us ds t fun fs hfs => wpAny_pure (h _ ?_))
      have m1 : ws.toList.length = xs.length := SeqAt.ReadsAll.length _ _ _ f4
      rw [List.map_cons, List.map_cons, hfs]
      congr 1
      cases xs with
      | nil =>
        have : ws[0]? = none := by rw [← Array.getElem?_toList]; exact List.getElem?_eq_none (by rw [m1]; exact Nat.zero_le _)
        rw [this]; rfl
      | cons x r =>
        have : ws[0]?.isSome = true := by rw [← Array.getElem?_toList]; simp [List.getElem?_eq_getElem (show 0 < ws.toList.length by rw [m1]; exact Nat.succ_pos _)]
        rw [this]; rfl
def AllTups (ds : List PyData) : Prop := ∀ d, d ∈ ds → ∃ xs, d = .tuple xs
theorem kind_any {vs : List Value} {ds : List PyData} (h2 : 2 ≤ vs.length) (e : EachIs (fun v d => (∃ xs, d = .tuple xs) ∧ ∃ as, Reads s.heap v d as) vs ds) (hn : ds.all neTup = false) {E : Value → Shared → Prop} {Q : SortKind → Shared → Prop}
    (h : Q (if (ds.head?.map neTup) = some true then general' else oneType') s) : wpAny (model prog w) A (keyKind' vs.toArray) Q E s := by
  rw [kat_kind_eq, List.mapM_toArray, map_eq_pure_bind]
  refine wpAny_bind (wpAny_bind (firsts_any vs ds e fun fs hfs => wpAny_pure ?_))
  have a1 : (fs.toArray.all fun x => x.isSome) = false := by
    rw [List.all_toArray]
    have := congrArg (fun l => l.all id) hfs
    simp only [List.all_map] at this
    rw [show (fs.all fun x => x.isSome) = fs.all (id ∘ fun x => x.isSome) from rfl, this, ← hn]
    rfl
  rw [if_neg (by rw [a1]; exact Bool.false_ne_true)]
  obtain ⟨d, ds', rfl⟩ : ∃ d ds', ds = d :: ds' := by
    cases ds with
    | nil => cases e; exact absurd h2 (by simp)
    | cons d ds' => exact ⟨d, ds', rfl⟩
  obtain ⟨f, fr, rfl⟩ : ∃ f fr, fs = f :: fr := by
    cases fs with
    | nil => cases hfs
    | cons f fr => exact ⟨f, fr, rfl⟩
  have hf : f.isSome = neTup d := by
    have := congrArg List.head? hfs
    simpa using this
  have hb : ((f :: fr).toArray[0]?.bind id).isSome = neTup d := by rw [← hf]; simp
  cases hd : neTup d with
  | true =>
    rw [if_pos (by rw [hb, hd])]
    rw [if_pos (by simp [hd])] at h
    exact wpAny_pure h
  | false =>
    rw [if_neg (by rw [hb, hd]; exact Bool.false_ne_true)]
    rw [if_neg (by simp [hd])] at h
    rw [oneTypeOnly'_eq, List.mapM_toArray, map_eq_pure_bind]
    have lk : ∀ v ∈ vs, Looks (model prog w) s.heap (typeOf v) (.type "tuple") := fun v hv => by
      obtain ⟨d, hd, ⟨xs, rfl⟩, as, r⟩ := e.left v hv
      exact looks_reads r
    refine wpAny_bind (wpAny_bind (wpAny_bind (kas_mapM (r := Value.type "tuple") _ (fun v hv Q' hq => (lk v hv).here hq) (wpAny_pure ?_))))
    obtain ⟨v, vr, rfl⟩ : ∃ v vr, vs = v :: vr := by
      cases vs with
      | nil => exact absurd h2 (by simp)
      | cons v vr => exact ⟨v, vr, rfl⟩
    have h0 : (List.map (fun _ => Value.type "tuple") (v :: vr)).toArray[0]? = some (Value.type "tuple") := by simp
    have ha : ((List.map (fun _ => Value.type "tuple") (v :: vr)).toArray.all fun x => x == Value.type "tuple") = true := by
      simp only [List.all_toArray, List.all_map, List.all_eq_true]
      intro _ _
      exact beq_self_eq_true (Value.type "tuple")
    rw [h0]
    simp only [ha, if_true]
    exact wpAny_pure (wpAny_pure h)
/-- values that read as alike tuples can be sorted, empty ones among them or not -/
theorem sortsAt_tups {vs : List Value} {ds : List PyData} (e : EachIs (fun v d => ∃ as, Reads s.heap v d as) vs ds) (hal : AllAlike ds) (hk : AllTups ds) (hn : ds.all neTup = false) (hu : ∀ d, d ∈ ds → A.units + d.depth < cLine) : SortsAt prog w A s (dataKind s.heap ds) vs := by
  have room : ∀ {d d' : PyData}, d ∈ ds → A.units + min d.depth d'.depth < cLine := fun {d d'} hd => Nat.lt_of_le_of_lt (Nat.add_le_add_left (Nat.min_le_left _ _) _) (hu d hd)
  refine ⟨fun v hv => ?_, if (ds.head?.map neTup) = some true then general' else oneType', ?_, fun h2 E Q hq => kind_any h2 ((each_mem e).mono fun v d ⟨r, hd⟩ => ⟨hk d hd, r⟩) hn hq⟩
  · obtain ⟨d, hd, as, r⟩ := e.left v hv
    exact ⟨_, dataKind_some hal hd r⟩
  · intro E x y ka kb Q ha hb hq
    obtain ⟨d, as, hd, ra, rfl⟩ := dataKind_inv ha
    obtain ⟨d', as', hd', rb, rfl⟩ := dataKind_inv hb
    obtain ⟨xs, rfl⟩ := hk d hd
    obtain ⟨ys, rfl⟩ := hk d' hd'
    split
    · exact oneLt_alike (f := false) (fun z => by cases z) ra rb (hal _ hd _ hd') (by intro z; cases z) (room hd) hq
    · rw [keyLt'_oneType]
      exact oneLtT ra rb (hal _ hd _ hd') (room hd) hq
end
def CanSort (ds : List PyData) : Prop := Sortable ds ∨ (AllTups ds ∧ ds.all neTup = false)
theorem sortsAt_can {prog : Program} {w : World} {A : Around} {s : Shared} {vs : List Value} {ds : List PyData} (e : EachIs (fun v d => ∃ as, Reads s.heap v d as) vs ds) (hal : AllAlike ds) (hk : CanSort ds) (hu : ∀ d, d ∈ ds → A.units + d.depth < cLine) : SortsAt prog w A s (dataKind s.heap ds) vs := by
  rcases hk with hk | ⟨h1, h2⟩
  · exact SortsAt.data e hal hk hu
  · exact sortsAt_tups e hal h1 h2 hu
section
variable {prog : Program} {w : World} {A : Around} {E : Value → Shared → Prop} {s : Shared} {β : Type} {vs : List Value} {bs : List β} {enc : β → PyData} {R : Value → β → Prop}
/-- what collects a tuple's items leaves a list of them behind -/
def behindC (h : Heap) (xs : Array Value) : Heap := (h.push { cls := .type "list", data := .seq ([] : List Value).toArray }).update h.objs.size (Obj.mapSeq (· ++ xs))
theorem collect_tup {Q : List Value → Shared → Prop} {tp : Addr} {ob : Obj} {xs : Array Value} {m : Nat} (g1 : s.heap.get? tp = some ob) (g2 : ob.cls = .type "tuple") (g3 : ob.data = .seq xs m) (g4 : xs.size ≤ sizeLine)
    (fin : Q xs.toList { s with heap := behindC s.heap xs }) : wpAny (model prog w) A (collect (.ref tp)) Q E s := by
  have a1 : (s.heap.push { cls := .type "list", data := .seq ([] : List Value).toArray }).get? s.heap.objs.size = some { cls := .type "list", data := .seq #[] 0 } := Heap.get?_push_size _ rfl
  have a2 := Heap.get?_update_self (Obj.mapSeq (· ++ xs)) a1 rfl
  have last : wpAny (model prog w) A (match Value.ref s.heap.objs.size with
      | Value.ref c => do
        match (← load c).data with
          | Data.seq ys _ => pure ys.toList
          | _ => unsupported "internal:collect"
      | _ => unsupported "internal:collect") Q E { s with heap := behindC s.heap xs } := by
    show wpAny _ A (load s.heap.objs.size >>= _) _ _ _
    exact wpAny_bind (wpAny_load a2 (wpAny_pure (by show Q ((#[] : Array Value) ++ xs).toList _; simpa using fin)))
  unfold collect; refine wpAny_bind (wpAny_runValue (codeAny_builtin F.entry_proto_collect ?_)); rw [Around.under_plainId F.plain_proto_collect _]
  show wpAny _ A.in1 (newList [] >>= fun c => again (.builtin "list.__iadd__" ⟨[c, .ref tp], []⟩)) _ _ s
  refine wpAny_bind (wpAny_newObj_type (wpAny_pure ⟨plainId_quiet F.plain_list_iadd _, codeAny_builtin F.entry_list_iadd ?_⟩)); rw [Around.under_plainId F.plain_list_iadd _]
  show wpAny _ A.in1 (Builtin.List.listExtendWith (.ref s.heap.objs.size) (.ref tp) (.ref s.heap.objs.size)) _ _ _
  refine wpAny_mono (wpAny_extend_seq (hsz := g4) (A := A) (R := fun r t => r = .ok (.ret (.ref s.heap.objs.size)) ∧ t = { s with heap := behindC s.heap xs }) (s := { s with heap := s.heap.push { cls := .type "list", data := .seq ([] : List Value).toArray } }) _ tp _ 0 (.inr rfl) a1 (Heap.get?_push_of_some _ g1) g2 g3 ⟨rfl, rfl⟩) (fun d t q => ?_) fun d t q => absurd q.1 (by simp)
  cases d with
  | again _ => exact ⟨q.1, codeAny_mono q.2 fun r t' z => by obtain ⟨rfl, rfl⟩ := z; exact last⟩
  | done f => obtain ⟨z, rfl⟩ := q; cases z; exact last
theorem behindC_old {h : Heap} {xs : Array Value} {b : Addr} {o : Obj} (q : h.get? b = some o) : (behindC h xs).get? b = some o := (Heap.get?_update_other _ _ (Nat.ne_of_gt (Heap.lt_size q))).trans (Heap.get?_push_of_some _ q)
theorem behindC_size (h : Heap) (xs : Array Value) : (behindC h xs).objs.size = h.objs.size + 1 := by unfold behindC; rw [Heap.size_update, size_push']
/-- sorted(x), by what collecting x gives -/
theorem sorted_col_data {x : Value} {Q : Value → Shared → Prop} (hcol : ∀ R' : List Value → Shared → Prop, (∀ (h1 : Heap) (tk : Nat), (∀ b o, s.heap.get? b = some o → h1.get? b = some o) → R' vs { s with heap := h1, toks := tk }) → wpAny (model prog w) A.in1 (collect x) R' E s)
    (e : EachIs R vs bs) (er : EachIs (fun v b => ∃ as, Reads s.heap v (enc b) as) vs bs) (hal : AllAlike (bs.map enc)) (hk : CanSort (bs.map enc)) (hL : bs.length ≤ sizeLine) (hu : ∀ b, b ∈ bs → A.units + 2 + (enc b).depth < cLine)
    (h : ∀ (h1 h' : Heap) (tk : Nat) (a : Addr) (out : List Value) (n : Nat), (∀ b o, s.heap.get? b = some o → h1.get? b = some o) → (∀ b o, h1.get? b = some o → h'.get? b = some o) → h1.objs.size ≤ a → h'.get? a = some (seqObj "list" out.toArray n) → out.length = bs.length → EachIs R out (bs.mergeSort (dataLe false enc)) → Q (.ref a) { s with heap := h', toks := tk }) :
    wpAny (model prog w) A (call (.builtin "sorted") [x]) Q E s := by
  have hL' : vs.length ≤ sizeLine := by rw [e.length]; exact hL
  refine call_function_entry_kw kind_sorted plain_sorted entry_sorted (args_sorted1 _) ?_
  unfold Builtin.«sorted»
  refine wpAny_bind (m := checkCount "sorted" 1 1 _) (wpAny_pure ?_)
  refine wpAny_bind (hcol _ fun h' tk hkp => ?_)
  refine wpAny_bind (wpAny_newList ?_ hL')
  have hg : (h'.push (seqObj "list" vs.toArray 0)).get? h'.objs.size = some (seqObj "list" vs.toArray 0) := Heap.get?_push_size _ rfl
  have old : ∀ b o, h'.get? b = some o → (h'.push (seqObj "list" vs.toArray 0)).get? b = some o ∧ b ≠ h'.objs.size ∧ b < (h'.push (seqObj "list" vs.toArray 0)).objs.size := fun b o q2 => by
    have lt := Heap.lt_size q2
    exact ⟨Heap.get?_push_of_some _ q2, Nat.ne_of_lt lt, by rw [size_push']; exact Nat.lt_succ_of_lt lt⟩
  have er' : EachIs (fun v b => ∃ as, Reads (sortingHeap (h'.push (seqObj "list" vs.toArray 0)) h'.objs.size vs) v (enc b) as) vs bs := er.mono fun _ _ ⟨as, r⟩ => ⟨as, PyProof.Rows.Reads.keeps (fun b o q => sortingHeap_old (old b o (hkp b o q)).2.1 (old b o (hkp b o q)).1) r⟩
  show wpAny _ _ _ _ _ { s with heap := h'.push (seqObj "list" vs.toArray 0), toks := tk }
  refine wpAny_bind (wpAny_holding (wpAny_call_entry_kw slot_list_sort ⟨_, hg, rfl⟩ entry_list_sort ?body (args_list_sort _)))
  case body =>
    show wpAny (model prog w) A.in1.in1 (Builtin.«list.sort» ⟨[.ref h'.objs.size], []⟩) _ _ _
    refine list_sort_vals (s := { s with heap := h'.push (seqObj "list" vs.toArray 0), toks := tk }) hg (sortsAt_can (s := { s with heap := sortingHeap (h'.push (seqObj "list" vs.toArray 0)) h'.objs.size vs, toks := tk }) (each_map (R := fun v d => ∃ as, Reads (sortingHeap (h'.push (seqObj "list" vs.toArray 0)) h'.objs.size vs) v d as) enc er') hal hk (bound_map hu)) hL' ⟨_, rfl, wpAny_pure ⟨_, rfl, ?_⟩⟩
    obtain ⟨n', hn⟩ := sortedHeap_at (out := (sortVals (dataKind (sortingHeap (h'.push (seqObj "list" vs.toArray 0)) h'.objs.size vs) (bs.map enc)) false vs vs).toArray) hg
    exact h _ _ _ _ _ n' hkp (fun b o q => by rw [sortedHeap_old (old b o q).2.1 (old b o q).2.2]; exact (old b o q).1) (Nat.le_refl _) hn (by rw [sortVals_length false rfl]; exact e.length) (sortVals_data false e er' hal)
theorem sorted_tup_data {l : Addr} {Q : Value → Shared → Prop} (hl : IsTup s.heap l vs.toArray) (e : EachIs R vs bs) (er : EachIs (fun v b => ∃ as, Reads s.heap v (enc b) as) vs bs) (hal : AllAlike (bs.map enc)) (hk : CanSort (bs.map enc)) (hL : bs.length ≤ sizeLine)
    (hu : ∀ b, b ∈ bs → A.units + 2 + (enc b).depth < cLine)
    (h : ∀ (h1 h' : Heap) (tk : Nat) (a : Addr) (out : List Value) (n : Nat), (∀ b o, s.heap.get? b = some o → h1.get? b = some o) → (∀ b o, h1.get? b = some o → h'.get? b = some o) → h1.objs.size ≤ a → h'.get? a = some (seqObj "list" out.toArray n) → out.length = bs.length → EachIs R out (bs.mergeSort (dataLe false enc)) → Q (.ref a) { s with heap := h', toks := tk }) :
    wpAny (model prog w) A (call (.builtin "sorted") [.ref l]) Q E s := by
  obtain ⟨o, ho, hc, n, hd⟩ := hl
  exact sorted_col_data (fun R' k => collect_tup ho hc hd (by rw [List.size_toArray, e.length]; exact hL) (k _ s.toks fun b o q => behindC_old q)) e er hal hk hL hu h
theorem sorted_lst_data {l : Addr} {Q : Value → Shared → Prop} (hl : s.heap.IsList l vs.toArray) (e : EachIs R vs bs) (er : EachIs (fun v b => ∃ as, Reads s.heap v (enc b) as) vs bs) (hal : AllAlike (bs.map enc)) (hk : CanSort (bs.map enc)) (hL : bs.length ≤ sizeLine)
    (hu : ∀ b, b ∈ bs → A.units + 2 + (enc b).depth < cLine) (h : ∀ out, out.length = bs.length → EachIs R out (bs.mergeSort (dataLe false enc)) → Q (.ref (s.heap.objs.size + 1)) { s with heap := sortedAll s.heap vs (List.toArray out) }) :
    wpAny (model prog w) A (call (.builtin "sorted") [.ref l]) Q E s := by
  have q : EachIs (fun v b => ∃ as, Reads (sortingHeap (copyHeap s.heap vs) (s.heap.objs.size + 1) vs) v (enc b) as) vs bs := er.mono fun v b ⟨as, r⟩ => ⟨as, PyProof.Rows.Reads.keeps (fun _ _ z => sorting_copy_old z) r⟩
  have m := each_map (R := fun v d => ∃ as, Reads (sortingHeap (copyHeap s.heap vs) (s.heap.objs.size + 1) vs) v d as) enc q
  exact sorted_vals hl (sortsAt_can (s := { s with heap := sortingHeap (copyHeap s.heap vs) (s.heap.objs.size + 1) vs }) m hal hk (bound_map hu)) (by rw [e.length]; exact hL) (h _ (by rw [sortVals_length false rfl]; exact e.length) (sortVals_data false e q hal))
end
end PySem.W
namespace Rv
open PySem PySem.Spec PyProof.Rows L2
open PySem.W (EachIs dataLe AllAlike Sortable CanSort AllTups neTup)
section
variable {X : Cx}
def isTup1 : D → Bool
  | .tuple (_ :: _) => true
  | _ => false
def notTup : D → Bool
  | .none => false
  | .tuple _ => false
  | _ => true
def isTup : D → Bool
  | .tuple _ => true
  | _ => false
def sortOk (l : List D) : Bool := (l.all fun d => l.all fun e => PySem.W.alike d e) && (l.all isTup || l.all notTup) && decide (l.length ≤ sizeLine) && l.all fun d => decide (d.depth ≤ 60)
def srt (l : List D) : List D := l.mergeSort (dataLe false id)
def sortD : List D → Option D
  | [.list l] => if sortOk l then some (.list (srt l)) else none
  | [.tuple l] => if sortOk l then some (.list (srt l)) else none
  | _ => none
theorem sortOk_of {l : List D} (h : sortOk l = true) : AllAlike l ∧ CanSort l ∧ l.length ≤ sizeLine ∧ ∀ d ∈ l, d.depth ≤ 60 := by
  unfold sortOk at h
  simp only [Bool.and_eq_true, List.all_eq_true, decide_eq_true_eq, Bool.or_eq_true] at h
  obtain ⟨⟨⟨h1, h2⟩, h3⟩, h4⟩ := h
  refine ⟨fun d hd e he => h1 d hd e he, ?_, h3, h4⟩
  rcases h2 with h2 | h2
  · have ht : AllTups l := fun d hd => by
      have := h2 d hd
      cases d <;> first | (cases this; done) | exact ⟨_, rfl⟩
    cases hn : l.all neTup with
    | false => exact .inr ⟨ht, hn⟩
    | true =>
      rw [List.all_eq_true] at hn
      refine .inl (.inl fun d hd => ?_)
      have := hn d hd
      obtain ⟨xs, rfl⟩ := ht d hd
      cases xs with
      | nil => cases this
      | cons x r => exact ⟨x, r, rfl⟩
  · refine .inl (.inr fun d hd => ?_)
    have := h2 d hd
    cases d <;> first | (cases this; done) | exact ⟨(by intro z; cases z), (by intro xs z; cases z)⟩
/-- what an item stands for -/
def ItR (K : PySem.W.Frag) (F : Hp) (u : Value) (d : D) : Prop := ∃ v, RelV v u ∧ Rp K F v d
theorem each_of {K : PySem.W.Frag} {F : Hp} : ∀ {vs : List V} {us : List Value} {ds : List D}, Vals vs us → RpAll K F vs ds → EachIs (ItR K F) us ds
  | _, _, _, .nil, .nil => .nil
  | _, _, _, .cons r1 r2, .cons h1 h2 => .cons ⟨_, r1, h1⟩ (each_of r2 h2)
theorem each_back {K : PySem.W.Frag} {F : Hp} : ∀ {us : List Value} {ds : List D}, EachIs (ItR K F) us ds → ∃ vs, Vals vs us ∧ RpAll K F vs ds
  | _, _, .nil => ⟨[], .nil, .nil⟩
  | _, _, .cons ⟨v, h1, h2⟩ t => let ⟨vs, q1, q2⟩ := each_back t; ⟨v :: vs, .cons h1 q1, .cons h2 q2⟩
theorem each_reads {pins : List (Addr × Obj)} {σ : L2.St} {H F : Hp} {s : Shared} (I : Inv X pins σ H s) (sm : Same F H) : ∀ {vs : List V} {us : List Value} {ds : List D}, Vals vs us → RpAll X.K F vs ds → EachIs (fun u d => ∃ as, Reads s.heap u (id d) as) us ds
  | _, _, _, .nil, .nil => .nil
  | _, _, _, .cons r1 r2, .cons h1 h2 => .cons (Dp.reads I _ _ _ (h1.mono sm).dp r1) (each_reads I sm r2 h2)
theorem cl_sorted (hu : X.A.units + 65 < cLine) : CallR X (.builtin "sorted") (rCl X.K sortD) := by
  intro pins s σ H xs us Q I r h
  obtain ⟨F, ds, d, sm, vw, e, o⟩ := h
  unfold sortD at e
  split at e
  · rename_i l
    split at e
    · rename_i hok
      cases e
      obtain ⟨h1, h2, h3, h4⟩ := sortOk_of hok
      obtain ⟨v, rfl, vv⟩ := vw.one
      obtain ⟨a, xs, rfl, r1, a1⟩ := vv.list sm
      obtain ⟨its, rv, hl, hz⟩ := I.list r1
      rw [Vals.ref1 r]
      refine PySem.W.sorted_lst_data (enc := id) (R := ItR X.K F) hl.isList (each_of rv a1) (each_reads I sm rv a1) (by rw [List.map_id]; exact h1) (by rw [List.map_id]; exact h2) h3 (fun b hb => ?_) fun out hlen eo => ?_
      · have := h4 b hb
        show X.A.units + 2 + b.depth < cLine
        omega
      · obtain ⟨vs', q1, q2⟩ := each_back eo
        obtain ⟨ep, he'⟩ := PyProof.Rows.sortedAll_at s.heap its out.toArray
        have hl' : vs'.length ≤ sizeLine := by rw [q1.length, hlen]; exact h3
        exact ⟨.ref _, upd H (s.heap.objs.size + 1) (.lst vs'), I.laid (t' := s.toks) (fun _ _ => PyProof.Rows.sortedAll_old) (Nat.le_succ _) ⟨hl', out, ep, q1, he'⟩, rfl, o.lst _ _ _ rfl (I.hok.fresh (Nat.le_succ _)) q2⟩
    · cases e
  · rename_i l
    split at e
    · rename_i hok
      cases e
      obtain ⟨h1, h2, h3, h4⟩ := sortOk_of hok
      obtain ⟨v, rfl, vv⟩ := vw.one
      obtain ⟨a, xs, rfl, r1, a1⟩ := vv.tuple sm
      obtain ⟨its, rv, hl, hz⟩ := I.tuple r1
      rw [Vals.ref1 r]
      refine PySem.W.sorted_tup_data (enc := id) (R := ItR X.K F) hl (each_of rv a1) (each_reads I sm rv a1) (by rw [List.map_id]; exact h1) (by rw [List.map_id]; exact h2) h3 (fun b hb => ?_) fun h1' h' tk q out n hkp hkp2 hq hat hlen eo => ?_
      · have := h4 b hb
        show X.A.units + 2 + b.depth < cLine
        omega
      · obtain ⟨vs', q1, q2⟩ := each_back eo
        have hl' : vs'.length ≤ sizeLine := by rw [q1.length, hlen]; exact h3
        have I1 : Inv X pins σ H { s with heap := h1', toks := tk } := I.kept (t' := tk) hkp
        exact ⟨.ref _, upd H q (.lst vs'), I1.laid (t' := tk) hkp2 hq ⟨hl', out, n, q1, hat⟩, rfl, o.lst _ _ _ rfl (I1.hok.fresh hq) q2⟩
    · cases e
  · cases e
end
end Rv

set_option Elab.async false
set_option linter.all false
set_option maxRecDepth 100000
set_option maxHeartbeats 4000000
/-! Rv3t: set(a list of ints), sorted of it. -/
namespace L2
open PySem PySem.Spec PyProof.Rows
section
variable {P : Program} {w : World} {A : Around} {E : Value → Shared → Prop} {s : Shared}
theorem call_set_lstI {l : Addr} {items : Array Value} (ns : List Int) {Q : Value → Shared → Prop} (hh : A.handled = none) (hl : s.heap.IsList l items) (hit : IntsAre items.toList ns) (hb : ns.length + 1 < scanBound)
    (h : ∀ (h' : Heap) (tk c : Nat), SetR w h' s.heap.objs.size (fun j => decide (j ∈ ns)) c → c ≤ ns.length → (∀ b o, s.heap.get? b = some o → h'.get? b = some o) → Q (.ref s.heap.objs.size) { s with heap := h', toks := tk }) :
    wpAny (model P w) A (call (.type "set") [.ref l]) Q E s := by
  have hisz : items.size = ns.length := by
    have q := IntsAre.length hit
    rw [Array.length_toList] at q
    exact q
  obtain ⟨c, tl, hmro⟩ := F.called_set.mro
  have hmade := F.called_set.made
  have hsub := F.called_set.sub
  refine wpAny_call (codeAny_of_tree ?_)
  show wpAny _ _ (callAny (.type "set") _) _ _ _
  refine wpAny_pure ⟨Code.quiet_builtin _ (by decide +kernel), codeAny_builtin F.entry_type_call ?_⟩
  rw [Around.under_plain (weight_type_call_type "set" [.ref l] []) rfl]
  have h1 := F.called_set.notType
  have h2 := F.called_set.canCreate
  have hct := F.typeCall_set_1 (.ref l)
  repeat (any_goals (first | assumption | wp_step))
  let new : Obj := { cls := .type "set", dict := none, data := .set #[] 0 (.fresh 0 0 (!w.params.followText "set-order")) }
  refine codeAny_mono (code_set_led1 (.ref l) (E := E) (Q₁ := fun obj s₁ => obj = .ref s.heap.objs.size ∧ s₁ = { s with heap := s.heap.push { cls := .type "set", dict := none, data := .set #[] 0 (.fresh 0 0 (!w.params.followText "set-order")) } }) ⟨rfl, rfl⟩) fun r s₁ hr => ?_
  cases r with
  | error e => exact hr
  | ok fl =>
    cases fl with
    | ret obj =>
      obtain ⟨rfl, rfl⟩ := hr
      have hS : (s.heap.push { cls := .type "set", dict := none, data := .set #[] 0 (.fresh 0 0 (!w.params.followText "set-order")) }).get? s.heap.objs.size = some { cls := .type "set", dict := none, data := .set #[] 0 (.fresh 0 0 (!w.params.followText "set-order")) } := Heap.get?_push_size _ rfl
      have hT : Shared.TypeIs { s with heap := s.heap.push { cls := .type "set", dict := none, data := .set #[] 0 (.fresh 0 0 (!w.params.followText "set-order")) } } (.ref s.heap.objs.size) "set" := ⟨_, hS, rfl⟩
      have hli := F.called_set.init.lookup
      have hbi := F.called_set.init.bind (.ref s.heap.objs.size)
      repeat (any_goals (first | assumption | wp_step))
      refine codeAny_mono (codeAny_call_builtin (R := wants (fun r s₂ => r = .none ∧ ∃ h' tk c, s₂ = { s with heap := h', toks := tk } ∧ SetR w h' s.heap.objs.size (fun j => decide (j ∈ ns)) c ∧ c ≤ ns.length ∧
          (∀ b o, s.heap.get? b = some o → h'.get? b = some o)) E) F.called_set.init.plain F.entry_set_init (check_set_init_1 hT ?_)) fun r₂ s₂ hr₂ => ?_
      · obtain ⟨⟨ocls, odict, odata, oslots⟩, hol, hcl, nl, hdl⟩ := hl
        simp only at hcl hdl
        subst hcl; subst hdl
        have hol' : (s.heap.push { cls := .type "set", dict := none, data := .set #[] 0 (.fresh 0 0 (!w.params.followText "set-order")) }).get? l = some { cls := .type "list", dict := odict, data := .seq items nl, slots := oslots } := Heap.get?_push_of_some _ hol
        have hsls := F.sub_list_set
        have hslf := F.sub_list_frozenset
        have hne : (Value.type "list" == Value.type "dict") = false := by decide
        have hl1 : (s.heap.push { cls := .type "set", dict := none, data := .set #[] 0 (.fresh 0 0 (!w.params.followText "set-order")) }).IsList l items := ⟨_, hol', rfl, nl, rfl⟩
        unfold Builtin.«set.__init__» noKeywords Builtin.Frozenset.updateFrom
        generalize hPI : pyIter = PI
        wp_walk
        subst hPI
        refine wpAny_pyIter_list hl1 ?_
        refine wpAny_bind (wpAny_runValue ?_)
        have hlS : l < s.heap.objs.size := Heap.lt_size hol
        have hh3 : A.in1.in1.in1.handled = none := by simp [hh]
        have hneI : l ≠ (s.heap.push { cls := .type "set", dict := none, data := .set #[] 0 (.fresh 0 0 (!w.params.followText "set-order")) }).objs.size := by
          rw [Heap.size_push]; exact Nat.ne_of_lt (Nat.lt_succ_of_lt hlS)
        have hSf : s.heap.objs.size ∉ [(s.heap.push { cls := .type "set", dict := none, data := .set #[] 0 (.fresh 0 0 (!w.params.followText "set-order")) }).objs.size, l] := by
          rw [Heap.size_push]; simp only [List.mem_cons, List.mem_singleton, List.not_mem_nil, or_false, not_or]
          exact ⟨Nat.ne_of_lt (Nat.lt_succ_self _), Nat.ne_of_gt hlS⟩
        have hval : ∀ (i : Nat) (v : Value), items[i]? = some v → ∃ k t, ns[i]? = some k ∧ v = .int k t := fun i v hv => by
          have hi : i < ns.length := by rw [← hisz]; exact (Array.getElem?_eq_some_iff.mp hv).1
          obtain ⟨t, e⟩ := PyProof.Rows.IntsAre.int_at hit i v (by rw [Array.getElem?_toList]; exact hv)
          refine ⟨ns[i], t, List.getElem?_eq_getElem hi, ?_⟩
          rw [e, List.getD_eq_getElem?_getD, List.getElem?_eq_getElem hi] <;> rfl
        refine set_update_ints ((Walks.list hh3 _ l hneI items).toS) s.heap.objs.size
          hSf ns hisz hb hval (items.size - 0) 0 _ (by omega) (Nat.zero_le _)
          ⟨⟨_, Heap.get?_push_size _ rfl, rfl, rfl⟩, (hl1.push _)⟩ ?hS0 ?hR
        case hS0 =>
          have hget : ((s.heap.push { cls := .type "set", dict := none, data := .set #[] 0 (.fresh 0 0 (!w.params.followText "set-order")) }).push { cls := .type "list_iterator", data := .fields #[.ref l, .int 0 0] }).get? s.heap.objs.size
              = some { cls := .type "set", dict := none, data := .set #[] 0 (.fresh 0 0 (!w.params.followText "set-order")) } := Heap.get?_push_of_some _ hS
          exact ⟨0, Nat.le_refl 0, setR_new_at hget⟩
        case hR =>
          intro s' c' hm hc' hS'
          obtain ⟨h', g2, d', tk', os'⟩ := s'
          have eg : g2 = s.gens := hm.gens
          have ed : d' = s.drawn := hm.drawn
          have eo : os' = s.os := hm.os
          subst eg; subst ed; subst eo
          show wpAny _ _ _ _ _ _
          refine wpAny_pure ?_
          show wpAny _ _ (ret Value.none) _ _ _
          rw [hisz] at hc'
          refine wpAny_pure ⟨rfl, h', tk', c', rfl, hS', hc', fun b o e => ?_⟩
          have hb0 : b < s.heap.objs.size := Heap.lt_size e
          have hb1 : b ≠ s.heap.objs.size := Nat.ne_of_lt hb0
          have hb2 : b ≠ (s.heap.push { cls := .type "set", dict := none, data := .set #[] 0 (.fresh 0 0 (!w.params.followText "set-order")) }).objs.size := by
            rw [Heap.size_push]; exact Nat.ne_of_lt (Nat.lt_succ_of_lt hb0)
          exact hm.heap b o (by simp only [List.mem_cons, List.mem_singleton, List.not_mem_nil, or_false, not_or]; exact ⟨hb1, hb2⟩) (Heap.get?_push_of_some _ (Heap.get?_push_of_some _ e))
      · cases r₂ with
        | error e => exact hr₂
        | ok fl₂ =>
          cases fl₂ with
          | ret r =>
            obtain ⟨rfl, h', tk, c', rfl, hS', hc', hk'⟩ := hr₂
            repeat (any_goals (first | assumption | wp_step))
            exact h _ _ _ hS' hc' hk'
          | _ => exact hr₂.elim
    | _ => exact hr.elim
end
theorem setR_count {w : World} {h : Heap} {a : Addr} {ns ms : List Int} {c : Nat} (R : SetR w h a (fun j => decide (j ∈ ns)) c) (h1 : ms.Nodup) (h2 : ∀ k, k ∈ ms ↔ k ∈ ns) : ms.length = c := by
  obtain ⟨o, es, ep, t, _, _, _, _, nd, hm, _, _, hn, _⟩ := R
  have e : ∀ k, k ∈ ms ↔ k ∈ es.toList.map keyOf := fun k => by
    rw [h2, ← hm k, decide_eq_true_iff]
  have := ((List.perm_ext_iff_of_nodup h1 nd).mpr e).length_eq
  rw [this, List.length_map, Array.length_toList, hn]
/-- set(xs), ints: who is in it, how many at most -/
def rSetI (K : PySem.W.Frag) (w : World) : List V → Hp → VK → Prop := fun vs H Q => ∃ (l : Addr) (ns : List Int), vs = [V.ref l] ∧ SqL K H l (ns.map V.int) ∧ ns.length + 1 < scanBound ∧
  ∀ (a : Addr) (c : Nat), H a = none → c ≤ ns.length → (∀ ms : List Int, ms.Nodup → (∀ k, k ∈ ms ↔ k ∈ ns) → ms.length = c) → Q (.ref a) (upd H a (SetO w a (fun j => decide (j ∈ ns)) c))
theorem cr_setI {X : Cx} (hc : X.calm = true) : CallR X (.type "set") (rSetI X.K X.w) := by
  intro pins s σ H xs us Q I r h
  obtain ⟨l, ns, rfl, hl, hb, q⟩ := h
  rw [Vals.ref1 r]
  obtain ⟨its, rv, pl, hz⟩ := I.list hl
  have hn : H s.heap.objs.size = none := I.hok.fresh (Nat.le_refl _)
  refine call_set_lstI ns (I.ok.hd hc) pl.isList (by simpa using rv.ints) hb fun h' tk c R hcl k => ?_
  exact ⟨.ref s.heap.objs.size, upd H s.heap.objs.size (SetO X.w s.heap.objs.size (fun j => decide (j ∈ ns)) c), I.laid (t' := tk) k (Nat.le_refl _) (setO_new R), rfl, q _ c hn hcl fun ms h1 h2 => setR_count R h1 h2⟩
end L2
namespace Rv
open PySem PySem.Spec PyProof.Rows L2
/-- ascending, each once -/
def insU (x : Int) : List Int → List Int
  | [] => [x]
  | y :: r => if x < y then x :: y :: r else if x = y then y :: r else y :: insU x r
def sdI (ns : List Int) : List Int := ns.foldr insU []
theorem insU_mem {x k : Int} : ∀ {l : List Int}, k ∈ insU x l ↔ k = x ∨ k ∈ l
  | [] => by simp [insU]
  | y :: r => by
    unfold insU
    split
    · simp
    · split
      · rename_i h; subst h; simp
      · simp only [List.mem_cons, insU_mem]
        constructor
        · rintro (h | h | h) <;> simp [h]
        · rintro (h | h | h) <;> simp [h]
theorem insU_sorted {x : Int} : ∀ {l : List Int}, l.Pairwise (· < ·) → (insU x l).Pairwise (· < ·)
  | [], _ => by simp [insU]
  | y :: r, h => by
    obtain ⟨h1, h2⟩ := List.pairwise_cons.mp h
    unfold insU
    split
    · rename_i hx
      refine List.pairwise_cons.mpr ⟨fun z hz => ?_, h⟩
      rcases List.mem_cons.mp hz with e | hz
      · rw [e]; exact hx
      · exact Int.lt_trans hx (h1 z hz)
    · split
      · exact h
      · rename_i hx hy
        refine List.pairwise_cons.mpr ⟨fun z hz => ?_, insU_sorted h2⟩
        rcases insU_mem.mp hz with e | hz
        · rw [e]; omega
        · exact h1 z hz
theorem sdI_mem {k : Int} : ∀ {ns : List Int}, k ∈ sdI ns ↔ k ∈ ns
  | [] => by simp [sdI]
  | x :: r => by
    show k ∈ insU x (sdI r) ↔ _
    rw [insU_mem, sdI_mem, List.mem_cons]
theorem sdI_sorted : ∀ (ns : List Int), (sdI ns).Pairwise (· < ·)
  | [] => List.Pairwise.nil
  | x :: r => insU_sorted (sdI_sorted r)
theorem sdI_nodup (ns : List Int) : (sdI ns).Nodup := (sdI_sorted ns).imp fun h e => by omega
theorem asc_unique : ∀ {a b : List Int}, a.Pairwise (· < ·) → b.Pairwise (· < ·) → (∀ k, k ∈ a ↔ k ∈ b) → a = b
  | [], [], _, _, _ => rfl
  | [], y :: r, _, _, h => by have := (h y).mpr List.mem_cons_self; cases this
  | x :: r, [], _, _, h => by have := (h x).mp List.mem_cons_self; cases this
  | x :: r, y :: t, h1, h2, h => by
    obtain ⟨a1, a2⟩ := List.pairwise_cons.mp h1
    obtain ⟨b1, b2⟩ := List.pairwise_cons.mp h2
    have e : x = y := by
      have hx := (h x).mp List.mem_cons_self
      have hy := (h y).mpr List.mem_cons_self
      rcases List.mem_cons.mp hx with e | hx
      · exact e
      · rcases List.mem_cons.mp hy with e | hy
        · exact e.symm
        · have := a1 y hy; have := b1 x hx; omega
    subst e
    rw [asc_unique a2 b2 fun k => ?_]
    constructor
    · intro hk
      rcases List.mem_cons.mp ((h k).mp (List.mem_cons_of_mem _ hk)) with e | hk2
      · subst e; have := a1 k hk; omega
      · exact hk2
    · intro hk
      rcases List.mem_cons.mp ((h k).mpr (List.mem_cons_of_mem _ hk)) with e | hk2
      · subst e; have := b1 k hk; omega
      · exact hk2
theorem sdI_of {ns ms : List Int} (h1 : ms.Pairwise (· < ·)) (h2 : ∀ k, k ∈ ms ↔ k ∈ ns) : ms = sdI ns := asc_unique h1 (sdI_sorted ns) fun k => (h2 k).trans sdI_mem.symm
def strOf : List D → Option D
  | [.str x] => some (.str x)
  | [.int i] => if i.natAbs.log2 < 1920 then some (.str (Str.ofString (toString i))) else none
  | _ => none
theorem cl_str {X : Cx} : CallR X (.type "str") (rCl X.K strOf) := by
  intro pins s σ H xs us Q I r h
  obtain ⟨F, ds, d, sm, vw, e, o⟩ := h
  unfold strOf at e
  split at e
  · cases e
    obtain ⟨v, rfl, vv⟩ := vw.one
    obtain rfl := vv.str
    exact SkE.call_str_str pins s σ H _ us Q I r ⟨_, rfl, o.str⟩
  · split at e
    · cases e
      obtain ⟨v, rfl, vv⟩ := vw.one
      obtain rfl := vv.int
      exact call_str_int pins s σ H _ us Q I r ⟨_, rfl, by assumption, o.str⟩
    · cases e
  · cases e
end Rv

set_option Elab.async false
set_option linter.all false
set_option maxRecDepth 100000
set_option maxHeartbeats 4000000
/-! Rv3u: set(a list or tuple of texts), sorted of it. -/
namespace L2
open PySem PySem.Spec PyProof.Rows
theorem strsAre_len {vs : List Value} {ys : List Str} (h : PyProof.Rows.StrsAre vs ys) : vs.length = ys.length := PyProof.Rows.StrsAre.len_eq h
theorem strs_get : ∀ {vs : List Value} {ys : List Str}, PyProof.Rows.StrsAre vs ys → ∀ (i : Nat) (v : Value), vs[i]? = some v → ∃ k t, ys[i]? = some k ∧ v = .str k t
  | _, _, .nil, i, v, e => by simp at e
  | _, _, .cons y t h, 0, v, e => by
    simp only [List.getElem?_cons_zero, Option.some.injEq] at e
    exact ⟨y, t, by simp, e.symm⟩
  | _, _, .cons _ _ h, i + 1, v, e => by
    simp only [List.getElem?_cons_succ] at e ⊢
    exact strs_get h i v e
theorem is_txt {P : Program} {w : World} (k : Str) (u : Tok) : (strKind P w).is k (.str k u) = true := by
  show Value.isStrOf k (.str k u) = true
  simp [Value.isStrOf]
def keyS (e : Int × Value) : Str := match e.2 with | .str k _ => k | _ => Str.empty
def GoodS (w : World) (e : Int × Value) : Prop := ∃ k tk, e.2 = Value.str k tk ∧ e.1 = hashStr w k
/-- the set of texts at a: S its members, n their number -/
def SetS (P : Program) (w : World) (h : Heap) (a : Addr) (S : Str → Bool) (n : Nat) : Prop :=
  ∃ o es ep t, h.get? a = some o ∧ o.ExactSet ∧ o.data = .set es ep t ∧ (∀ e ∈ es.toList, GoodS w e) ∧ (es.toList.map keyS).Nodup ∧ (∀ k, S k = true ↔ k ∈ es.toList.map keyS) ∧
    es.size < scanBound ∧ t.fits es.size = true ∧ es.size = n ∧ Ris t.place.toList ∧ (w.params.followText "set-order" = true ∨ t.led = true)
section
variable {P : Program} {w : World} {h h' : Heap} {a : Addr} {S : Str → Bool} {n : Nat}
theorem SetS.at (R : SetS P w h a S n) (k : ∀ o, h.get? a = some o → h'.get? a = some o) : SetS P w h' a S n := by
  obtain ⟨o, es, ep, t, ho, r⟩ := R
  exact ⟨o, es, ep, t, k o ho, r⟩
theorem SetS.congr {S' : Str → Bool} (R : SetS P w h a S n) (e : ∀ k, S' k = S k) : SetS P w h a S' n := by
  rw [show S' = S from funext e]; exact R
theorem goodS_elems {l : List (Int × Value)} (g : ∀ e ∈ l, GoodS w e) : ElemsOf (strKind P w) l := fun e he => by
  obtain ⟨k, tk, h1, h2⟩ := g e he
  exact ⟨⟨k, by rw [h1]; exact is_txt k tk, h2⟩, by rw [h1] <;> rfl⟩
theorem goodS_is {e : Int × Value} (g : GoodS w e) (k : Str) : (strKind P w).is k e.2 = true ↔ keyS e = k := by
  obtain ⟨k0, tk, h1, _⟩ := g
  unfold keyS
  rw [h1]
  show (Value.isStrOf k (.str k0 tk) = true) ↔ k0 = k
  constructor
  · intro z
    exact ((strKind P w).inj (.str k0 tk) k0 k (is_txt k0 tk) z)
  · rintro rfl
    exact is_txt (P := P) (w := w) k0 tk
theorem goodS_mem {l : List (Int × Value)} (g : ∀ e ∈ l, GoodS w e) (k : Str) : k ∈ l.map keyS ↔ ∃ e ∈ l, (strKind P w).is k e.2 = true := by
  rw [List.mem_map]
  constructor
  · rintro ⟨e, he, q⟩
    exact ⟨e, he, (goodS_is (g e he) k).2 q⟩
  · rintro ⟨e, he, q⟩
    exact ⟨e, he, (goodS_is (g e he) k).1 q⟩
end
section
variable {P : Program} {w : World} {A : Around} {E : Value → Shared → Prop} {s : Shared} {a : Addr} {S : Str → Bool} {n : Nat}
theorem setS_add_tail {g : Bool → Sem Unit} (hg : ∀ (b : Bool) (s₁ : Shared) (Q' : Unit → Shared → Prop), Q' () s₁ → wpAny (model P w) A (g b) Q' E s₁)
    {o : Obj} {es : Array (Int × Value)} {ep : Nat} {t : SetTable} (ho : s.heap.get? a = some o) (hex : o.ExactSet) (hd : o.data = .set es ep t)
    {es1 : Array (Int × Value)} {t2 : SetTable} {S' : Str → Bool} (g1 : ∀ e ∈ es1.toList, GoodS w e) (nd1 : (es1.toList.map keyS).Nodup) (m1 : ∀ k, S' k = true ↔ k ∈ es1.toList.map keyS)
    (hb1 : es1.size < scanBound) (hf2 : t2.fits es1.size = true) (hr : Ris t2.place.toList) (hl : w.params.followText "set-order" = true ∨ t2.led = true) {wasDummy : Bool} {R : Option Bool → Shared → Prop}
    (hR : ∀ h', Heap.SameBut a s.heap h' → SetS P w h' a S' es1.size → R (some true) { s with heap := h' }) :
    wpAny (model P w) A (do
        storeSet a es1 t2
        if (!wasDummy && t2.tooFull) = true then do
            g (relayAll t2 es1 (SetTable.grown es1.size)).2.2
            storeSet a (relayAll t2 es1 (SetTable.grown es1.size)).1 (relayAll t2 es1 (SetTable.grown es1.size)).2.1
            pure (some true)
          else pure (some true)) R E s := by
  refine wpAny_bind (wpAny_storeSet_of ho hd ?_ (fits_of_scanBound hb1))
  have ho1 := store_at (es' := es1) (t' := t2) ho hd
  have sb1 := Heap.SameBut.update s.heap a (Obj.putSet es1 t2)
  split
  · have pm := relayAll_perm t2 es1 (SetTable.grown es1.size)
    have hf3 := relayAll_fits t2 es1 (SetTable.grown es1.size)
    have hr3 := relayAll_ris t2 es1 (SetTable.grown es1.size)
    have hl3 := relayAll_led t2 es1 (SetTable.grown es1.size)
    generalize relayAll t2 es1 (SetTable.grown es1.size) = Z at pm hf3 hr3 hl3 ⊢
    obtain ⟨es2, t3, gave⟩ := Z
    dsimp only at pm hf3 hr3 hl3 ⊢
    have hsz : es2.size = es1.size := by rw [← Array.length_toList, pm.length_eq, Array.length_toList]
    have hb2 : es2.size < scanBound := by rw [hsz]; exact hb1
    refine wpAny_bind (hg _ _ _ ?_)
    refine wpAny_bind (wpAny_storeSet_of ho1 rfl ?_ (fits_of_scanBound hb2))
    have ho2 := store_at (es' := es2) (t' := t3) ho1 rfl
    refine wpAny_pure (hR _ (sb1.trans (Heap.SameBut.update _ a _)) ?_)
    exact ⟨_, es2, _, t3, ho2, hex, rfl, fun e he => g1 e (pm.mem_iff.mp he), (pm.map keyS).nodup_iff.mpr nd1, fun k => (m1 k).trans (pm.map keyS).mem_iff.symm, hb2, hf3, hsz, hr3,
      hl.imp id fun z => by rw [hl3]; exact z⟩
  · exact wpAny_pure (hR _ sb1 ⟨_, es1, _, t2, ho1, hex, rfl, g1, nd1, m1, hb1, hf2, rfl, hr, hl⟩)
theorem setS_add_hashed {k : Str} {tk : Tok} {Q : Bool → Shared → Prop} (R : SetS P w s.heap a S n) (room : n + 1 < scanBound)
    (hQ : ∀ h', Heap.SameBut a s.heap h' → SetS P w h' a (fun j => S j || decide (j = k)) (if S k = true then n else n + 1) → Q (!S k) { s with heap := h' }) :
    wpAny (model P w) A (setAddHashed a (.str k tk) ((strKind P w).hash k)) Q E s := by
  obtain ⟨o, es, ep, t, ho, hex, hd, g, nd, hm, hb, hf, hn, hr, hl⟩ := R
  have hkey : (strKind P w).is k (.str k tk) = true := is_txt k tk
  have hsc : (Value.str k tk).scannable = true := rfl
  have hel : ElemsOf (strKind P w) es.toList := goodS_elems g
  unfold setAddHashed setAddHashedIn
  refine wpAny_holding (wpAny_bind (wpAny_setState_of ho hd hf ?_))
  dsimp only
  rw [byScan_of hsc hb hel]
  simp only [↓reduceIte]
  unfold setAddByScan
  refine wpAny_bind ?_
  refine wpAny_bind (wpAny_rule ?_)
  refine wpAny_bind (wpAny_setScan_of hkey ho hd hf hel ?_)
  cases hfi : List.findIdx? (fun e => (strKind P w).is k e.2) es.toList with
  | some j =>
    dsimp only
    obtain ⟨hj, pj, _⟩ := List.findIdx?_eq_some_iff_getElem.mp hfi
    have hSk : S k = true := (hm k).2 ((goodS_mem (P := P) (w := w) g k).2 ⟨es.toList[j], List.getElem_mem hj, pj⟩)
    refine wpAny_pure (wpAny_pure ?_)
    have q := hQ s.heap (Heap.SameBut.refl a s.heap) ⟨o, es, ep, t, ho, hex, hd, g, nd, fun i => by
      rw [Bool.or_eq_true, decide_eq_true_eq, ← hm i]
      exact ⟨fun z => z.elim id (fun e => e ▸ hSk), .inl⟩, hb, hf, by rw [if_pos hSk]; exact hn, hr, hl⟩
    rw [hSk] at q
    exact q
  | none =>
    dsimp only
    have hnk : k ∉ es.toList.map keyS := fun z => by
      obtain ⟨e, he, q⟩ := (goodS_mem (P := P) (w := w) g k).1 z
      have c := List.findIdx?_eq_none_iff.mp hfi e he
      rw [q] at c
      cases c
    have hSk : S k = false := by
      cases q : S k with
      | false => rfl
      | true => exact absurd ((hm k).1 q) hnk
    have hgw : ∀ (b : Bool) {s₁ : Shared} {Q' : Unit → Shared → Prop}, Q' () s₁ → wpAny (model P w) A (match b with | true => rule "set.scan.the-table-gave-way" | false => pure ()) Q' E s₁ :=
      fun b s₁ Q' q => by cases b <;> first | exact wpAny_pure q | exact wpAny_rule q
    have pm := layNew_perm t es ((strKind P w).hash k) (.str k tk)
    have hf1 := layNew_fits t es ((strKind P w).hash k) (.str k tk)
    have hr1 := layNew_ris t es ((strKind P w).hash k) (.str k tk) hr
    have hl1 := layNew_led t es ((strKind P w).hash k) (.str k tk)
    generalize layNew t es ((strKind P w).hash k) (.str k tk) = Z at pm hf1 hr1 hl1 ⊢
    obtain ⟨es1, t1, wasDummy, gave⟩ := Z
    dsimp only at pm hf1 hr1 hl1 ⊢
    rw [Array.toList_push] at pm
    have pc : es1.toList.Perm (((strKind P w).hash k, Value.str k tk) :: es.toList) := pm.trans (List.perm_append_singleton _ _)
    have pk : (es1.toList.map keyS).Perm (k :: es.toList.map keyS) := pc.map keyS
    have g1 : ∀ e ∈ es1.toList, GoodS w e := fun e he => by
      rcases List.mem_cons.mp (pc.mem_iff.mp he) with z | z
      · rw [z]; exact ⟨k, tk, rfl, rfl⟩
      · exact g e z
    have nd1 : (es1.toList.map keyS).Nodup := pk.nodup_iff.mpr (List.nodup_cons.mpr ⟨hnk, nd⟩)
    have m1 : ∀ i, (S i || decide (i = k)) = true ↔ i ∈ es1.toList.map keyS := fun i => by
      rw [Bool.or_eq_true, decide_eq_true_eq, hm i, pk.mem_iff, List.mem_cons]
      exact Or.comm
    have hsz : es1.size = n + 1 := by rw [← Array.length_toList, pc.length_eq, List.length_cons, Array.length_toList, hn]
    have hb1 : es1.size < scanBound := by rw [hsz]; exact room
    have hled : w.params.followText "set-order" = true ∨ t1.led = true := hl.imp id fun z => by rw [hl1]; exact z
    have fin : ∀ h', Heap.SameBut a s.heap h' → SetS P w h' a (fun j => S j || decide (j = k)) es1.size → Q true { s with heap := h' } := fun h' sb r => by
      have q := hQ h' sb
      rw [hSk] at q
      rw [hsz] at r
      exact q r
    refine wpAny_bind (hgw _ ?_)
    split
    · refine wpAny_bind ?_
      rw [hashByValue_scannable 8 hsc]
      refine wpAny_pure ?_
      refine setS_add_tail ?_ ho hex hd g1 nd1 m1 hb1 ?_ ?_ ?_ ?_
      · intro b s₁ Q' q; cases b <;> first | exact wpAny_pure q | exact wpAny_rule q
      · first | (split <;> first | exact hf1 | exact SetTable.fits_plain_off hf1) | exact hf1
      · first | (split <;> exact hr1) | exact hr1
      · first | (split <;> exact hled) | exact hled
      · intro h' sb r; dsimp only; exact wpAny_pure (fin h' sb r)
    · refine wpAny_bind (wpAny_pure ?_)
      simp only [↓reduceIte]
      refine setS_add_tail ?_ ho hex hd g1 nd1 m1 hb1 hf1 hr1 hled ?_
      · intro b s₁ Q' q; cases b <;> first | exact wpAny_pure q | exact wpAny_rule q
      · intro h' sb r; dsimp only; exact wpAny_pure (fin h' sb r)
theorem setS_new_at {h : Heap} {ns : List Str} (ho : h.get? a = some { cls := .type "set", dict := none, data := .set #[] 0 (.fresh 0 0 (!w.params.followText "set-order")) }) : SetS P w h a (fun j => decide (j ∈ ns.take 0)) 0 :=
  ⟨_, #[], 0, _, ho, ⟨rfl, rfl, rfl⟩, rfl, (fun e he => by simp at he), (by simp), (fun k => by simp), (by decide), (by rfl), rfl, List.Pairwise.nil, by
    show _ ∨ (!w.params.followText "set-order") = true
    cases w.params.followText "set-order"
    · exact .inr rfl
    · exact .inl rfl⟩
theorem set_update_strs {I : Addr} {fp wr : List Addr} {G : Array GenState → Array GenState → Prop} {n : Nat} {Pv : Nat → Value → Prop} {St : Nat → Shared → Prop} {R : Result → Shared → Prop}
    (W : WalksS P w A.in1 I fp wr G n Pv St) (S : Addr) (hSf : S ∉ fp) (ns : List Str) (hn : n = ns.length) (hb : ns.length + 1 < scanBound) (hval : ∀ i v, Pv i v → ∃ k t, ns[i]? = some k ∧ v = .str k t) :
    ∀ (k i : Nat) (s : Shared), n - i = k → i ≤ n → St i s → (∃ c, c ≤ i ∧ SetS P w s.heap S (fun j => decide (j ∈ ns.take i)) c) →
      (∀ s' c, Moved (S :: wr) G s s' → c ≤ n → SetS P w s'.heap S (fun j => decide (j ∈ ns)) c → R (.ok (.ret .none)) s') →
      codeAny (model P w) A (.builtin "set.update.loop" ⟨[.ref S, .ref I], []⟩) R s := by
  have hSw : S ∉ wr := fun h => hSf (W.sub _ h)
  have hsub : ∀ b ∈ wr, b ∈ S :: wr := fun b hb => List.mem_cons_of_mem _ hb
  intro k
  induction k with
  | zero =>
    intro i s hk' hi hst ⟨c, hc, hS⟩ hR
    have hin : i = n := by omega
    subst hin
    refine codeAny_builtin F.entry_set_update_loop ?_
    rw [Around.under_plainId F.plain_set_update_loop _]
    show wpAny _ A.in1 (pyNext (.ref I) >>= _) _ _ s
    refine wpAny_bind (W.done s _ _ hst fun s' hm => ?_)
    show wpAny _ A.in1 (ret Value.none) _ _ s'
    have e : ns.take i = ns := List.take_of_length_le (by omega)
    rw [e] at hS
    exact wpAny_pure (hR s' c (hm.mono hsub) hc (hS.at fun o e => hm.heap S o hSw e))
  | succ k ih =>
    intro i s hk' hi hst ⟨c, hc, hS⟩ hR
    have hlt : i < n := by omega
    refine codeAny_builtin F.entry_set_update_loop ?_
    rw [Around.under_plainId F.plain_set_update_loop _]
    show wpAny _ A.in1 (pyNext (.ref I) >>= _) _ _ s
    refine wpAny_bind (W.item i s _ _ hlt hst fun v s' hP hst' hm => ?_)
    obtain ⟨z, t, hz, rfl⟩ := hval i v hP
    have hS' : SetS P w s'.heap S (fun j => decide (j ∈ ns.take i)) c := hS.at fun o e => hm.heap S o hSw e
    show wpAny _ A.in1 (holding [Value.str z t] (setAdd S (.str z t)) >>= _) _ _ s'
    refine wpAny_bind (wpAny_holding ?_)
    unfold setAdd
    refine wpAny_holding ?_
    refine wpAny_bind ((strKind P w).pyHash (k := z) (is_txt _ _) ?_)
    refine setS_add_hashed (s := { s' with toks := s'.toks + 1 }) hS' (by omega) fun h' hsb hS2 => ?_
    have hS3 : SetS P w h' S (fun j => decide (j ∈ ns.take (i + 1))) (if decide (z ∈ ns.take i) = true then c else c + 1) := hS2.congr fun j => by
      rw [List.take_add_one, hz]
      simp [List.mem_append]
    have hc3 : (if decide (z ∈ ns.take i) = true then c else c + 1) ≤ i + 1 := by
      split <;> omega
    refine wpAny_pure ⟨plainId_quiet F.plain_set_update_loop _, ih (i + 1) _ (by omega) hlt (W.frame _ s' _ _ hst' (Nat.le_succ _) fun b hb o e => ?_) ⟨_, hc3, hS3⟩ fun s'' c2 hm'' hc'' hS'' => ?_⟩
    · rw [hsb.2 b (fun h : b = S => hSf (by rw [← h]; exact hb))]; exact e
    · refine hR s'' c2 (Moved.trans W.gtrans ((hm.mono hsub).then_heap (Nat.le_succ _) fun b o hb e => ?_) hm'') hc'' hS''
      rw [hsb.2 b (fun h : b = S => hb (by rw [h]; exact List.mem_cons_self))]; exact e
theorem call_set_lstS {l : Addr} {items : Array Value} (ns : List Str) {Q : Value → Shared → Prop} (hh : A.handled = none) (hl : s.heap.IsList l items) (hit : PyProof.Rows.StrsAre items.toList ns) (hb : ns.length + 1 < scanBound)
    (h : ∀ (h' : Heap) (tk c : Nat), SetS P w h' s.heap.objs.size (fun j => decide (j ∈ ns)) c → c ≤ ns.length → (∀ b o, s.heap.get? b = some o → h'.get? b = some o) → Q (.ref s.heap.objs.size) { s with heap := h', toks := tk }) :
    wpAny (model P w) A (call (.type "set") [.ref l]) Q E s := by
  have hisz : items.size = ns.length := by
    have q := strsAre_len hit
    rw [Array.length_toList] at q
    exact q
  obtain ⟨c, tl, hmro⟩ := F.called_set.mro
  have hmade := F.called_set.made
  have hsub := F.called_set.sub
  refine wpAny_call (codeAny_of_tree ?_)
  show wpAny _ _ (callAny (.type "set") _) _ _ _
  refine wpAny_pure ⟨Code.quiet_builtin _ (by decide +kernel), codeAny_builtin F.entry_type_call ?_⟩
  rw [Around.under_plain (weight_type_call_type "set" [.ref l] []) rfl]
  have h1 := F.called_set.notType
  have h2 := F.called_set.canCreate
  have hct := F.typeCall_set_1 (.ref l)
  repeat (any_goals (first | assumption | wp_step))
  let new : Obj := { cls := .type "set", dict := none, data := .set #[] 0 (.fresh 0 0 (!w.params.followText "set-order")) }
  refine codeAny_mono (code_set_led1 (.ref l) (E := E) (Q₁ := fun obj s₁ => obj = .ref s.heap.objs.size ∧ s₁ = { s with heap := s.heap.push { cls := .type "set", dict := none, data := .set #[] 0 (.fresh 0 0 (!w.params.followText "set-order")) } }) ⟨rfl, rfl⟩) fun r s₁ hr => ?_
  cases r with
  | error e => exact hr
  | ok fl =>
    cases fl with
    | ret obj =>
      obtain ⟨rfl, rfl⟩ := hr
      have hS : (s.heap.push { cls := .type "set", dict := none, data := .set #[] 0 (.fresh 0 0 (!w.params.followText "set-order")) }).get? s.heap.objs.size = some { cls := .type "set", dict := none, data := .set #[] 0 (.fresh 0 0 (!w.params.followText "set-order")) } := Heap.get?_push_size _ rfl
      have hT : Shared.TypeIs { s with heap := s.heap.push { cls := .type "set", dict := none, data := .set #[] 0 (.fresh 0 0 (!w.params.followText "set-order")) } } (.ref s.heap.objs.size) "set" := ⟨_, hS, rfl⟩
      have hli := F.called_set.init.lookup
      have hbi := F.called_set.init.bind (.ref s.heap.objs.size)
      repeat (any_goals (first | assumption | wp_step))
      refine codeAny_mono (codeAny_call_builtin (R := wants (fun r s₂ => r = .none ∧ ∃ h' tk c, s₂ = { s with heap := h', toks := tk } ∧ SetS P w h' s.heap.objs.size (fun j => decide (j ∈ ns)) c ∧ c ≤ ns.length ∧
          (∀ b o, s.heap.get? b = some o → h'.get? b = some o)) E) F.called_set.init.plain F.entry_set_init (check_set_init_1 hT ?_)) fun r₂ s₂ hr₂ => ?_
      · obtain ⟨⟨ocls, odict, odata, oslots⟩, hol, hcl, nl, hdl⟩ := hl
        simp only at hcl hdl
        subst hcl; subst hdl
        have hol' : (s.heap.push { cls := .type "set", dict := none, data := .set #[] 0 (.fresh 0 0 (!w.params.followText "set-order")) }).get? l = some { cls := .type "list", dict := odict, data := .seq items nl, slots := oslots } := Heap.get?_push_of_some _ hol
        have hsls := F.sub_list_set
        have hslf := F.sub_list_frozenset
        have hne : (Value.type "list" == Value.type "dict") = false := by decide
        have hl1 : (s.heap.push { cls := .type "set", dict := none, data := .set #[] 0 (.fresh 0 0 (!w.params.followText "set-order")) }).IsList l items := ⟨_, hol', rfl, nl, rfl⟩
        unfold Builtin.«set.__init__» noKeywords Builtin.Frozenset.updateFrom
        generalize hPI : pyIter = PI
        wp_walk
        subst hPI
        refine wpAny_pyIter_list hl1 ?_
        refine wpAny_bind (wpAny_runValue ?_)
        have hlS : l < s.heap.objs.size := Heap.lt_size hol
        have hh3 : A.in1.in1.in1.handled = none := by simp [hh]
        have hneI : l ≠ (s.heap.push { cls := .type "set", dict := none, data := .set #[] 0 (.fresh 0 0 (!w.params.followText "set-order")) }).objs.size := by
          rw [Heap.size_push]; exact Nat.ne_of_lt (Nat.lt_succ_of_lt hlS)
        have hSf : s.heap.objs.size ∉ [(s.heap.push { cls := .type "set", dict := none, data := .set #[] 0 (.fresh 0 0 (!w.params.followText "set-order")) }).objs.size, l] := by
          rw [Heap.size_push]; simp only [List.mem_cons, List.mem_singleton, List.not_mem_nil, or_false, not_or]
          exact ⟨Nat.ne_of_lt (Nat.lt_succ_self _), Nat.ne_of_gt hlS⟩
        have hval : ∀ (i : Nat) (v : Value), items[i]? = some v → ∃ k t, ns[i]? = some k ∧ v = .str k t := fun i v hv => strs_get hit i v (by rw [Array.getElem?_toList]; exact hv)
        refine set_update_strs ((Walks.list hh3 _ l hneI items).toS) s.heap.objs.size
          hSf ns hisz hb hval (items.size - 0) 0 _ (by omega) (Nat.zero_le _)
          ⟨⟨_, Heap.get?_push_size _ rfl, rfl, rfl⟩, (hl1.push _)⟩ ?hS0 ?hR
        case hS0 =>
          have hget : ((s.heap.push { cls := .type "set", dict := none, data := .set #[] 0 (.fresh 0 0 (!w.params.followText "set-order")) }).push { cls := .type "list_iterator", data := .fields #[.ref l, .int 0 0] }).get? s.heap.objs.size
              = some { cls := .type "set", dict := none, data := .set #[] 0 (.fresh 0 0 (!w.params.followText "set-order")) } := Heap.get?_push_of_some _ hS
          exact ⟨0, Nat.le_refl 0, setS_new_at hget⟩
        case hR =>
          intro s' c' hm hc' hS'
          obtain ⟨h', g2, d', tk', os'⟩ := s'
          have eg : g2 = s.gens := hm.gens
          have ed : d' = s.drawn := hm.drawn
          have eo : os' = s.os := hm.os
          subst eg; subst ed; subst eo
          show wpAny _ _ _ _ _ _
          refine wpAny_pure ?_
          show wpAny _ _ (ret Value.none) _ _ _
          rw [hisz] at hc'
          refine wpAny_pure ⟨rfl, h', tk', c', rfl, hS', hc', fun b o e => ?_⟩
          have hb0 : b < s.heap.objs.size := Heap.lt_size e
          have hb1 : b ≠ s.heap.objs.size := Nat.ne_of_lt hb0
          have hb2 : b ≠ (s.heap.push { cls := .type "set", dict := none, data := .set #[] 0 (.fresh 0 0 (!w.params.followText "set-order")) }).objs.size := by
            rw [Heap.size_push]; exact Nat.ne_of_lt (Nat.lt_succ_of_lt hb0)
          exact hm.heap b o (by simp only [List.mem_cons, List.mem_singleton, List.not_mem_nil, or_false, not_or]; exact ⟨hb1, hb2⟩) (Heap.get?_push_of_some _ (Heap.get?_push_of_some _ e))
      · cases r₂ with
        | error e => exact hr₂
        | ok fl₂ =>
          cases fl₂ with
          | ret r =>
            obtain ⟨rfl, h', tk, c', rfl, hS', hc', hk'⟩ := hr₂
            repeat (any_goals (first | assumption | wp_step))
            exact h _ _ _ hS' hc' hk'
          | _ => exact hr₂.elim
    | _ => exact hr.elim

theorem call_set_tupS {l : Addr} {items : Array Value} (ns : List Str) {Q : Value → Shared → Prop} (hh : A.handled = none) (hl : s.heap.IsTuple l items) (hit : PyProof.Rows.StrsAre items.toList ns) (hb : ns.length + 1 < scanBound)
    (h : ∀ (h' : Heap) (tk c : Nat), SetS P w h' s.heap.objs.size (fun j => decide (j ∈ ns)) c → c ≤ ns.length → (∀ b o, s.heap.get? b = some o → h'.get? b = some o) → Q (.ref s.heap.objs.size) { s with heap := h', toks := tk }) :
    wpAny (model P w) A (call (.type "set") [.ref l]) Q E s := by
  have hisz : items.size = ns.length := by
    have q := strsAre_len hit
    rw [Array.length_toList] at q
    exact q
  obtain ⟨c, tl, hmro⟩ := F.called_set.mro
  have hmade := F.called_set.made
  have hsub := F.called_set.sub
  refine wpAny_call (codeAny_of_tree ?_)
  show wpAny _ _ (callAny (.type "set") _) _ _ _
  refine wpAny_pure ⟨Code.quiet_builtin _ (by decide +kernel), codeAny_builtin F.entry_type_call ?_⟩
  rw [Around.under_plain (weight_type_call_type "set" [.ref l] []) rfl]
  have h1 := F.called_set.notType
  have h2 := F.called_set.canCreate
  have hct := F.typeCall_set_1 (.ref l)
  repeat (any_goals (first | assumption | wp_step))
  let new : Obj := { cls := .type "set", dict := none, data := .set #[] 0 (.fresh 0 0 (!w.params.followText "set-order")) }
  refine codeAny_mono (code_set_led1 (.ref l) (E := E) (Q₁ := fun obj s₁ => obj = .ref s.heap.objs.size ∧ s₁ = { s with heap := s.heap.push { cls := .type "set", dict := none, data := .set #[] 0 (.fresh 0 0 (!w.params.followText "set-order")) } }) ⟨rfl, rfl⟩) fun r s₁ hr => ?_
  cases r with
  | error e => exact hr
  | ok fl =>
    cases fl with
    | ret obj =>
      obtain ⟨rfl, rfl⟩ := hr
      have hS : (s.heap.push { cls := .type "set", dict := none, data := .set #[] 0 (.fresh 0 0 (!w.params.followText "set-order")) }).get? s.heap.objs.size = some { cls := .type "set", dict := none, data := .set #[] 0 (.fresh 0 0 (!w.params.followText "set-order")) } := Heap.get?_push_size _ rfl
      have hT : Shared.TypeIs { s with heap := s.heap.push { cls := .type "set", dict := none, data := .set #[] 0 (.fresh 0 0 (!w.params.followText "set-order")) } } (.ref s.heap.objs.size) "set" := ⟨_, hS, rfl⟩
      have hli := F.called_set.init.lookup
      have hbi := F.called_set.init.bind (.ref s.heap.objs.size)
      repeat (any_goals (first | assumption | wp_step))
      refine codeAny_mono (codeAny_call_builtin (R := wants (fun r s₂ => r = .none ∧ ∃ h' tk c, s₂ = { s with heap := h', toks := tk } ∧ SetS P w h' s.heap.objs.size (fun j => decide (j ∈ ns)) c ∧ c ≤ ns.length ∧
          (∀ b o, s.heap.get? b = some o → h'.get? b = some o)) E) F.called_set.init.plain F.entry_set_init (check_set_init_1 hT ?_)) fun r₂ s₂ hr₂ => ?_
      · obtain ⟨⟨ocls, odict, odata, oslots⟩, hol, hcl, nl, hdl⟩ := hl
        simp only at hcl hdl
        subst hcl; subst hdl
        have hol' : (s.heap.push { cls := .type "set", dict := none, data := .set #[] 0 (.fresh 0 0 (!w.params.followText "set-order")) }).get? l = some { cls := .type "tuple", dict := odict, data := .seq items nl, slots := oslots } := Heap.get?_push_of_some _ hol
        have hsls := F.sub_tuple_set
        have hslf := F.sub_tuple_frozenset
        have hne : (Value.type "tuple" == Value.type "dict") = false := by decide
        have hl1 : (s.heap.push { cls := .type "set", dict := none, data := .set #[] 0 (.fresh 0 0 (!w.params.followText "set-order")) }).IsTuple l items := ⟨_, hol', rfl, nl, rfl⟩
        unfold Builtin.«set.__init__» noKeywords Builtin.Frozenset.updateFrom
        generalize hPI : pyIter = PI
        wp_walk
        subst hPI
        refine wpAny_pyIter_tuple hl1 ?_
        refine wpAny_bind (wpAny_runValue ?_)
        have hlS : l < s.heap.objs.size := Heap.lt_size hol
        have hh3 : A.in1.in1.in1.handled = none := by simp [hh]
        have hneI : l ≠ (s.heap.push { cls := .type "set", dict := none, data := .set #[] 0 (.fresh 0 0 (!w.params.followText "set-order")) }).objs.size := by
          rw [Heap.size_push]; exact Nat.ne_of_lt (Nat.lt_succ_of_lt hlS)
        have hSf : s.heap.objs.size ∉ [(s.heap.push { cls := .type "set", dict := none, data := .set #[] 0 (.fresh 0 0 (!w.params.followText "set-order")) }).objs.size, l] := by
          rw [Heap.size_push]; simp only [List.mem_cons, List.mem_singleton, List.not_mem_nil, or_false, not_or]
          exact ⟨Nat.ne_of_lt (Nat.lt_succ_self _), Nat.ne_of_gt hlS⟩
        have hval : ∀ (i : Nat) (v : Value), items[i]? = some v → ∃ k t, ns[i]? = some k ∧ v = .str k t := fun i v hv => strs_get hit i v (by rw [Array.getElem?_toList]; exact hv)
        refine set_update_strs ((Walks.tuple hh3 _ l hneI items).toS) s.heap.objs.size
          hSf ns hisz hb hval (items.size - 0) 0 _ (by omega) (Nat.zero_le _)
          ⟨⟨_, Heap.get?_push_size _ rfl, rfl, rfl⟩, (hl1.push _)⟩ ?hS0 ?hR
        case hS0 =>
          have hget : ((s.heap.push { cls := .type "set", dict := none, data := .set #[] 0 (.fresh 0 0 (!w.params.followText "set-order")) }).push { cls := .type "tuple_iterator", data := .fields #[.ref l, .int 0 0] }).get? s.heap.objs.size
              = some { cls := .type "set", dict := none, data := .set #[] 0 (.fresh 0 0 (!w.params.followText "set-order")) } := Heap.get?_push_of_some _ hS
          exact ⟨0, Nat.le_refl 0, setS_new_at hget⟩
        case hR =>
          intro s' c' hm hc' hS'
          obtain ⟨h', g2, d', tk', os'⟩ := s'
          have eg : g2 = s.gens := hm.gens
          have ed : d' = s.drawn := hm.drawn
          have eo : os' = s.os := hm.os
          subst eg; subst ed; subst eo
          show wpAny _ _ _ _ _ _
          refine wpAny_pure ?_
          show wpAny _ _ (ret Value.none) _ _ _
          rw [hisz] at hc'
          refine wpAny_pure ⟨rfl, h', tk', c', rfl, hS', hc', fun b o e => ?_⟩
          have hb0 : b < s.heap.objs.size := Heap.lt_size e
          have hb1 : b ≠ s.heap.objs.size := Nat.ne_of_lt hb0
          have hb2 : b ≠ (s.heap.push { cls := .type "set", dict := none, data := .set #[] 0 (.fresh 0 0 (!w.params.followText "set-order")) }).objs.size := by
            rw [Heap.size_push]; exact Nat.ne_of_lt (Nat.lt_succ_of_lt hb0)
          exact hm.heap b o (by simp only [List.mem_cons, List.mem_singleton, List.not_mem_nil, or_false, not_or]; exact ⟨hb1, hb2⟩) (Heap.get?_push_of_some _ (Heap.get?_push_of_some _ e))
      · cases r₂ with
        | error e => exact hr₂
        | ok fl₂ =>
          cases fl₂ with
          | ret r =>
            obtain ⟨rfl, h', tk, c', rfl, hS', hc', hk'⟩ := hr₂
            repeat (any_goals (first | assumption | wp_step))
            exact h _ _ _ hS' hc' hk'
          | _ => exact hr₂.elim
    | _ => exact hr.elim

theorem setS_count {ns ms : List Str} {h : Heap} {a : Addr} {c : Nat} (R : SetS P w h a (fun j => decide (j ∈ ns)) c) (h1 : ms.Nodup) (h2 : ∀ k, k ∈ ms ↔ k ∈ ns) : ms.length = c := by
  obtain ⟨o, es, ep, t, _, _, _, _, nd, hm, _, _, hn, _⟩ := R
  have e : ∀ k, k ∈ ms ↔ k ∈ es.toList.map keyS := fun k => by
    rw [h2, ← hm k, decide_eq_true_iff]
  have := ((List.perm_ext_iff_of_nodup h1 nd).mpr e).length_eq
  rw [this, List.length_map, Array.length_toList, hn]
theorem strs_of_keys : ∀ (l : List (Int × Value)), (∀ e ∈ l, GoodS w e) → PyProof.Rows.StrsAre (l.map (·.2)) (l.map keyS)
  | [], _ => .nil
  | e :: r, g => by
    obtain ⟨k, tk, h1, _⟩ := g e List.mem_cons_self
    have e2 : keyS e = k := by unfold keyS; rw [h1]
    rw [List.map_cons, List.map_cons, h1, e2]
    exact .cons k tk (strs_of_keys r fun x hx => g x (List.mem_cons_of_mem _ hx))
end
end L2

set_option Elab.async false
set_option linter.all false
set_option maxRecDepth 100000
set_option maxHeartbeats 4000000
/-! Rv3v: sorted(set(texts)). -/
namespace PySem.W
open PySem PySem.Calls PyProof.Rows
section
variable {prog : Program} {w : World} {A : Around} {E : Value → Shared → Prop} {s : Shared} {β : Type} {enc : β → PyData} {R : Value → β → Prop}
/-- sorted(x), by what collecting x gives, in whatever order -/
theorem sorted_col_any {x : Value} {Q : Value → Shared → Prop}
    (hcol : ∀ R' : List Value → Shared → Prop, (∀ (s1 : Shared) (vs : List Value) (bs : List β), EachIs R vs bs → EachIs (fun v b => ∃ as, Reads s1.heap v (enc b) as) vs bs → AllAlike (bs.map enc) → CanSort (bs.map enc) → bs.length ≤ sizeLine → (∀ b, b ∈ bs → A.units + 2 + (enc b).depth < cLine) →
      (∀ (h' : Heap) (tk : Nat) (a : Addr) (out : List Value) (n : Nat), (∀ b o, s1.heap.get? b = some o → h'.get? b = some o) → s1.heap.objs.size ≤ a → h'.get? a = some (seqObj "list" out.toArray n) → out.length = bs.length → EachIs R out (bs.mergeSort (dataLe false enc)) → Q (.ref a) { s1 with heap := h', toks := tk }) → R' vs s1) → wpAny (model prog w) A.in1 (collect x) R' E s) :
    wpAny (model prog w) A (call (.builtin "sorted") [x]) Q E s := by
  refine call_function_entry_kw kind_sorted plain_sorted entry_sorted (args_sorted1 _) ?_
  unfold Builtin.«sorted»
  refine wpAny_bind (m := checkCount "sorted" 1 1 _) (wpAny_pure ?_)
  refine wpAny_bind (hcol _ fun s1 vs bs e er hal hk hL hu h => ?_)
  have hL' : vs.length ≤ sizeLine := by rw [e.length]; exact hL
  refine wpAny_bind (wpAny_newList ?_ hL')
  have hg : (s1.heap.push (seqObj "list" vs.toArray 0)).get? s1.heap.objs.size = some (seqObj "list" vs.toArray 0) := Heap.get?_push_size _ rfl
  have old : ∀ b o, s1.heap.get? b = some o → (s1.heap.push (seqObj "list" vs.toArray 0)).get? b = some o ∧ b ≠ s1.heap.objs.size ∧ b < (s1.heap.push (seqObj "list" vs.toArray 0)).objs.size := fun b o q2 => by
    have lt := Heap.lt_size q2
    exact ⟨Heap.get?_push_of_some _ q2, Nat.ne_of_lt lt, by rw [size_push']; exact Nat.lt_succ_of_lt lt⟩
  have er' : EachIs (fun v b => ∃ as, Reads (sortingHeap (s1.heap.push (seqObj "list" vs.toArray 0)) s1.heap.objs.size vs) v (enc b) as) vs bs := er.mono fun _ _ ⟨as, r⟩ => ⟨as, PyProof.Rows.Reads.keeps (fun b o q => sortingHeap_old (old b o q).2.1 (old b o q).1) r⟩
  show wpAny _ _ _ _ _ { s1 with heap := s1.heap.push (seqObj "list" vs.toArray 0) }
  refine wpAny_bind (wpAny_holding (wpAny_call_entry_kw slot_list_sort ⟨_, hg, rfl⟩ entry_list_sort ?body (args_list_sort _)))
  case body =>
    show wpAny (model prog w) A.in1.in1 (Builtin.«list.sort» ⟨[.ref s1.heap.objs.size], []⟩) _ _ _
    refine list_sort_vals (s := { s1 with heap := s1.heap.push (seqObj "list" vs.toArray 0) }) hg (sortsAt_can (s := { s1 with heap := sortingHeap (s1.heap.push (seqObj "list" vs.toArray 0)) s1.heap.objs.size vs }) (each_map (R := fun v d => ∃ as, Reads (sortingHeap (s1.heap.push (seqObj "list" vs.toArray 0)) s1.heap.objs.size vs) v d as) enc er') hal hk (bound_map hu)) hL' ⟨_, rfl, wpAny_pure ⟨_, rfl, ?_⟩⟩
    obtain ⟨n', hn⟩ := sortedHeap_at (out := (sortVals (dataKind (sortingHeap (s1.heap.push (seqObj "list" vs.toArray 0)) s1.heap.objs.size vs) (bs.map enc)) false vs vs).toArray) hg
    exact h _ _ _ _ n' (fun b o q => by rw [sortedHeap_old (old b o q).2.1 (old b o q).2.2]; exact (old b o q).1) (Nat.le_refl _) hn (by rw [sortVals_length false rfl]; exact e.length) (sortVals_data false e er' hal)
end
end PySem.W
namespace Rv
open PySem PySem.Spec PyProof.Rows L2
open PySem.W (EachIs dataLe dataLt AllAlike CanSort alike)
/-! ### texts in order -/
abbrev sLt (x y : Str) : Prop := x.cps.toList < y.cps.toList
theorem sLt_irrefl (x : Str) : ¬ sLt x x := List.lt_irrefl _
theorem sLt_trans {x y z : Str} (h : sLt x y) (h2 : sLt y z) : sLt x z := List.lt_trans h h2
theorem sLt_tri {x y : Str} (h : ¬ sLt y x) (hne : x ≠ y) : sLt x y := by
  have h1 : x.cps.toList ≤ y.cps.toList := List.not_lt.mp h
  by_cases h2 : sLt x y
  · exact h2
  · have h3 : y.cps.toList ≤ x.cps.toList := List.not_lt.mp h2
    exact absurd (PySem.W.str_of_cps (List.le_antisymm h1 h3)) hne
def insS (x : Str) : List Str → List Str
  | [] => [x]
  | y :: r => if sLt x y then x :: y :: r else if x = y then y :: r else y :: insS x r
def sdS (xs : List Str) : List Str := xs.foldr insS []
theorem insS_mem {x k : Str} : ∀ {l : List Str}, k ∈ insS x l ↔ k = x ∨ k ∈ l
  | [] => by simp [insS]
  | y :: r => by
    unfold insS
    split
    · simp
    · split
      · rename_i h; subst h; simp
      · simp only [List.mem_cons, insS_mem]
        constructor
        · rintro (h | h | h) <;> simp [h]
        · rintro (h | h | h) <;> simp [h]
theorem insS_sorted {x : Str} : ∀ {l : List Str}, l.Pairwise sLt → (insS x l).Pairwise sLt
  | [], _ => by simp [insS]
  | y :: r, h => by
    obtain ⟨h1, h2⟩ := List.pairwise_cons.mp h
    unfold insS
    split
    · rename_i hx
      refine List.pairwise_cons.mpr ⟨fun z hz => ?_, h⟩
      rcases List.mem_cons.mp hz with e | hz
      · rw [e]; exact hx
      · exact sLt_trans hx (h1 z hz)
    · split
      · exact h
      · rename_i hx hy
        refine List.pairwise_cons.mpr ⟨fun z hz => ?_, insS_sorted h2⟩
        rcases insS_mem.mp hz with e | hz
        · rw [e]; exact sLt_tri hx (fun z => hy z.symm)
        · exact h1 z hz
theorem sdS_mem {k : Str} : ∀ {ns : List Str}, k ∈ sdS ns ↔ k ∈ ns
  | [] => by simp [sdS]
  | x :: r => by
    show k ∈ insS x (sdS r) ↔ _
    rw [insS_mem, sdS_mem, List.mem_cons]
theorem sdS_sorted : ∀ (ns : List Str), (sdS ns).Pairwise sLt
  | [] => List.Pairwise.nil
  | x :: r => insS_sorted (sdS_sorted r)
theorem ascS_unique : ∀ {a b : List Str}, a.Pairwise sLt → b.Pairwise sLt → (∀ k, k ∈ a ↔ k ∈ b) → a = b
  | [], [], _, _, _ => rfl
  | [], y :: r, _, _, h => by have := (h y).mpr List.mem_cons_self; cases this
  | x :: r, [], _, _, h => by have := (h x).mp List.mem_cons_self; cases this
  | x :: r, y :: t, h1, h2, h => by
    obtain ⟨a1, a2⟩ := List.pairwise_cons.mp h1
    obtain ⟨b1, b2⟩ := List.pairwise_cons.mp h2
    have e : x = y := by
      have hx := (h x).mp List.mem_cons_self
      have hy := (h y).mpr List.mem_cons_self
      rcases List.mem_cons.mp hx with e | hx
      · exact e
      · rcases List.mem_cons.mp hy with e | hy
        · exact e.symm
        · exact absurd (sLt_trans (a1 y hy) (b1 x hx)) (sLt_irrefl x)
    subst e
    rw [ascS_unique a2 b2 fun k => ?_]
    constructor
    · intro hk
      rcases List.mem_cons.mp ((h k).mp (List.mem_cons_of_mem _ hk)) with e | hk2
      · subst e; exact absurd (a1 k hk) (sLt_irrefl k)
      · exact hk2
    · intro hk
      rcases List.mem_cons.mp ((h k).mpr (List.mem_cons_of_mem _ hk)) with e | hk2
      · subst e; exact absurd (b1 k hk) (sLt_irrefl k)
      · exact hk2
theorem srtS_pw (l : List D) : (srt l).Pairwise fun a b => dataLt b a = false := by
  have h := PySem.W.sortLe_total (α := D) (PyProof.Rows.listOrd PyProof.Rows.itemOrd) false (fun b => PySem.W.keyToks (id b))
  have := List.pairwise_mergeSort (le := dataLe false (id : D → D)) h.trans (fun a b => by
    rcases h.total a b with z | z
    · rw [show dataLe false (id : D → D) a b = true from z]; rfl
    · rw [show dataLe false (id : D → D) b a = true from z, Bool.or_true]) l
  refine List.Pairwise.imp (fun {a b} z => ?_) this
  have z : (!dataLt b a) = true := z
  simpa using z
/-- unlike texts, sorted -/
theorem srtS_of {xs ys : List Str} (hn : xs.Nodup) (h : ∀ k, k ∈ xs ↔ k ∈ ys) : srt (xs.map PyData.str) = (sdS ys).map PyData.str := by
  let f : D → Str := fun d => match d with | .str x => x | _ => ""
  have hp : (srt (xs.map PyData.str)).Perm (xs.map PyData.str) := List.mergeSort_perm _ _
  have hx : ∀ d ∈ srt (xs.map PyData.str), d = .str (f d) := fun d hd => by
    obtain ⟨x, _, rfl⟩ := List.mem_map.mp (hp.mem_iff.mp hd)
    rfl
  have e : srt (xs.map PyData.str) = ((srt (xs.map PyData.str)).map f).map PyData.str := by
    rw [List.map_map]
    conv => lhs; rw [← List.map_id (srt (xs.map PyData.str))]
    exact List.map_congr_left hx
  have hq : ((srt (xs.map PyData.str)).map f).Perm xs := by
    have := hp.map f
    rw [List.map_map] at this
    have e2 : xs.map (f ∘ PyData.str) = xs := by
      conv => rhs; rw [← List.map_id xs]
      exact List.map_congr_left fun _ _ => rfl
    rwa [e2] at this
  have hpw := srtS_pw (xs.map PyData.str)
  rw [e, List.pairwise_map] at hpw
  have hnd : ((srt (xs.map PyData.str)).map f).Nodup := hq.nodup_iff.mpr hn
  rw [e]
  refine congrArg _ (ascS_unique ((List.Pairwise.and hpw hnd).imp fun {a b} ⟨h1, h2⟩ => sLt_tri (fun z => ?_) h2) (sdS_sorted ys) fun k => (hq.mem_iff.trans (h k)).trans sdS_mem.symm)
  rw [PySem.W.dataLt_str, decide_eq_true (show b.cps.toList < a.cps.toList from z)] at h1
  cases h1
end Rv
namespace L2
open PySem PySem.Spec PyProof.Rows
open PySem.W (EachIs)
def valS (v : Value) : Str := match v with | .str k _ => k | _ => Str.empty
theorem each_strs {h : Heap} : ∀ {vs : List Value}, (∀ v ∈ vs, ∃ k t, v = Value.str k t) → EachIs (fun v d => ∃ k t, v = .str k t ∧ d = PyData.str k) vs ((vs.map valS).map PyData.str) ∧ EachIs (fun v d => ∃ as, Reads h v (id d) as) vs ((vs.map valS).map PyData.str)
  | [], _ => ⟨.nil, .nil⟩
  | v :: vs, q => by
    obtain ⟨k, t, rfl⟩ := q v List.mem_cons_self
    obtain ⟨a, b⟩ := each_strs (h := h) fun u hu => q u (List.mem_cons_of_mem _ hu)
    exact ⟨.cons ⟨k, t, rfl, rfl⟩ a, .cons ⟨[], .str k t⟩ b⟩
theorem vals_of_each : ∀ {vs : List Value} {xs : List Str}, EachIs (fun v d => ∃ k t, v = .str k t ∧ d = PyData.str k) vs (xs.map PyData.str) → Vals (xs.map V.str) vs
  | [], [], _ => .nil
  | v :: vs, x :: xs, .cons ⟨k, t, h1, h2⟩ r => by
    cases h2
    exact .cons ⟨t, h1⟩ (vals_of_each r)
section
variable {P : Program} {w : World} {A : Around} {E : Value → Shared → Prop} {s : Shared} {a : Addr} {S : Str → Bool} {n : Nat}
theorem sorted_setS {ys : List Str} {Q : Value → Shared → Prop} (R : SetS P w s.heap a S n) (hh : A.handled = none) (hz : n ≤ sizeLine) (hu : A.units + 65 < cLine) (hm : ∀ k, S k = true ↔ k ∈ ys)
    (hQ : ∀ s' p (out : List Value) (c : Nat), (∀ b o, s.heap.get? b = some o → s'.heap.get? b = some o) → s'.gens = s.gens → s'.os = s.os → s.heap.objs.size ≤ p →
      s'.heap.get? p = some (seqObj "list" out.toArray c) → Vals ((Rv.sdS ys).map V.str) out → Q (.ref p) s') :
    wpAny (model P w) A (call (.builtin "sorted") [.ref a]) Q E s := by
  obtain ⟨o, es, ep, t, ho, hex, hd, g, nd, hm2, hb, hf, hn, hr, hl⟩ := R
  refine PySem.W.sorted_col_any (enc := (id : PyData → PyData)) (R := fun v d => ∃ k t, v = .str k t ∧ d = PyData.str k) fun R' k => collect_set (A := A.in1) hh ⟨o, ho, hex.1, hd⟩ hf hb hr hl fun s1 vs k1 hzz g1 o1 pm => ?_
  have hvs : ∀ v ∈ vs, ∃ k t, v = Value.str k t := fun v hv => by
    obtain ⟨e, he, q⟩ := List.mem_map.mp (pm.mem_iff.mp hv)
    obtain ⟨k, tk, h1, _⟩ := g e he
    exact ⟨k, tk, by rw [← q]; exact h1⟩
  have pk : (vs.map valS).Perm (es.toList.map keyS) := by
    have q := pm.map valS
    rw [List.map_map] at q
    exact q
  have hvl : vs.length = n := by rw [pm.length_eq, List.length_map, Array.length_toList]; exact hn
  obtain ⟨e1, e2⟩ := each_strs (h := s1.heap) hvs
  have al : ∀ d ∈ (vs.map valS).map PyData.str, ∃ x, d = PyData.str x := fun d hd => by
    obtain ⟨x, _, rfl⟩ := List.mem_map.mp hd
    exact ⟨x, rfl⟩
  refine k s1 vs _ e1 e2 (by
      rw [List.map_id]
      intro d hd e he
      obtain ⟨x, rfl⟩ := al d hd
      obtain ⟨y, rfl⟩ := al e he
      simp [PySem.W.alike]) (by
      rw [List.map_id]
      refine .inl (.inr fun d hd => ?_)
      obtain ⟨x, rfl⟩ := al d hd
      exact ⟨(by intro z; cases z), (by intro xs z; cases z)⟩) (by rw [List.length_map, List.length_map, hvl]; exact hz) (fun b hb => by
      obtain ⟨x, rfl⟩ := al b hb
      show A.units + 2 + (PyData.str x).depth < cLine
      have : (PyData.str x).depth ≤ 1 := by unfold PyData.depth; omega
      omega) fun h' tk p out c q1 q2 q3 q4 q5 => ?_
  have q6 : EachIs (fun v d => ∃ k t, v = .str k t ∧ d = PyData.str k) out ((Rv.sdS ys).map PyData.str) := by
    rw [← Rv.srtS_of (xs := vs.map valS) (pk.nodup_iff.mpr nd) fun k => by rw [pk.mem_iff, ← hm2, hm]]
    exact q5
  exact hQ _ p out c (fun b o e => q1 b o (k1 b o e)) g1 o1 (Nat.le_trans hzz q2) q3 (vals_of_each q6)
end
/-- the set of texts at a -/
def SetSO (P : Program) (w : World) (a : Addr) (S : Str → Bool) (n : Nat) : HO := .ext fun h => SetS P w h a S n
section
variable {X : Cx}
theorem setSO_new {w : World} {P : Program} {H : Hp} {h : Heap} {a : Addr} {S : Str → Bool} {n : Nat} (R : SetS P w h a S n) : ObjOk P w H h a (SetSO P w a S n) := by
  have ⟨o, _, _, _, ho, _⟩ := R
  exact ⟨R, ⟨o, ho⟩, fun h1 h2 p k => SetS.at p k⟩
theorem strsV_of : ∀ {ys : List Str} {us : List Value}, Vals (ys.map V.str) us → PyProof.Rows.StrsAre us ys
  | [], _, .nil => .nil
  | y :: ys, _, .cons ⟨t, e⟩ r => by subst e; exact .cons y t (strsV_of r)
/-- set(xs), texts -/
def rSetS (K : PySem.W.Frag) (P : Program) (w : World) : List V → Hp → VK → Prop := fun vs H Q => ∃ (l : Addr) (ns : List Str), vs = [V.ref l] ∧ (SqL K H l (ns.map V.str) ∨ SqT K H l (ns.map V.str)) ∧ ns.length + 1 < scanBound ∧
  ∀ (a : Addr) (c : Nat), H a = none → c ≤ ns.length → Q (.ref a) (upd H a (SetSO P w a (fun j => decide (j ∈ ns)) c))
theorem cr_setS (hc : X.calm = true) : CallR X (.type "set") (rSetS X.K X.prog X.w) := by
  intro pins s σ H xs us Q I r h
  obtain ⟨l, ns, rfl, hl, hb, q⟩ := h
  rw [Vals.ref1 r]
  have hn : H s.heap.objs.size = none := I.hok.fresh (Nat.le_refl _)
  rcases hl with hl | hl
  · obtain ⟨its, rv, pl, hz⟩ := I.list hl
    refine call_set_lstS ns (I.ok.hd hc) pl.isList (by simpa using strsV_of rv) hb fun h' tk c R hcl k => ?_
    exact ⟨.ref s.heap.objs.size, upd H s.heap.objs.size (SetSO X.prog X.w s.heap.objs.size (fun j => decide (j ∈ ns)) c), I.laid (t' := tk) k (Nat.le_refl _) (setSO_new R), rfl, q _ c hn hcl⟩
  · obtain ⟨its, rv, pl, hz⟩ := I.tuple hl
    refine call_set_tupS ns (I.ok.hd hc) (items := its.toArray) pl (by simpa using strsV_of rv) hb fun h' tk c R hcl k => ?_
    exact ⟨.ref s.heap.objs.size, upd H s.heap.objs.size (SetSO X.prog X.w s.heap.objs.size (fun j => decide (j ∈ ns)) c), I.laid (t' := tk) k (Nat.le_refl _) (setSO_new R), rfl, q _ c hn hcl⟩
/-- sorted of it -/
def rSortedSO (P : Program) (w : World) : List V → Hp → VK → Prop := fun vs H Q => ∃ (a : Addr) (ns : List Str) (n : Nat), vs = [V.ref a] ∧ H a = some (SetSO P w a (fun j => decide (j ∈ ns)) n) ∧ n ≤ sizeLine ∧ (Rv.sdS ns).length ≤ sizeLine ∧
  ∀ (p : Addr), H p = none → Q (.ref p) (upd H p (.lst ((Rv.sdS ns).map V.str)))
theorem cr_sortedSO (hc : X.calm = true) (hu : X.A.units + 65 < cLine) : CallR X (.builtin "sorted") (rSortedSO X.prog X.w) := by
  intro pins s σ H vs us Q I r h
  obtain ⟨a, ns, n, rfl, ha, hz, hz2, q⟩ := h
  have R : SetS X.prog X.w s.heap a (fun j => decide (j ∈ ns)) n := (I.hok a _ ha).1
  rw [Vals.ref1 r]
  refine sorted_setS (ys := ns) R (I.ok.hd hc) hz hu (fun k => decide_eq_true_iff) fun s' p out c k g o hp hg hv => ?_
  have hn : H p = none := I.hok.fresh hp
  have J : Inv X pins σ (upd H p (.lst ((Rv.sdS ns).map V.str))) { s with heap := s'.heap, gens := s'.gens, drawn := s'.drawn, toks := s'.toks } :=
    I.call (ch := []) (Un.laid k hp hn) (I.hok.laid k hp ⟨by rw [List.length_map]; exact hz2, out, c, hv, hg⟩) (by rw [g]; exact I.bare) (fun _ z => nomatch z)
  have e : s' = { s with heap := s'.heap, gens := s'.gens, drawn := s'.drawn, toks := s'.toks } := by
    cases s'
    cases s
    cases o
    rfl
  rw [e]
  exact ⟨.ref p, _, J, rfl, q p hn⟩
theorem cr_or {f : Value} {r1 r2 : List V → Hp → VK → Prop} (h1 : CallR X f r1) (h2 : CallR X f r2) : CallR X f (fun xs H Q => r1 xs H Q ∨ r2 xs H Q) := by
  intro pins s σ H xs us Q I r h
  rcases h with h | h
  · exact h1 pins s σ H xs us Q I r h
  · exact h2 pins s σ H xs us Q I r h
end
end L2

set_option Elab.async false
set_option linter.all false
set_option maxRecDepth 100000
set_option maxHeartbeats 4000000
/-! Rv3w: sets of tuples of ints and texts. -/
namespace L2
open PySem PySem.Spec PyProof.Rows
/-- an item that is an int or a text -/
def LeafM (v : Value) : Prop := (∃ i t, v = Value.int i t) ∨ ∃ x t, v = Value.str x t
theorem ofAClass_leaf {v : Value} (h : LeafM v) (n : Nat) : ofAClassStatement n v = pure false := by
  rcases h with ⟨i, t, rfl⟩ | ⟨x, t, rfl⟩ <;> cases n <;> rfl
theorem hashBy_leaf {v : Value} (h : LeafM v) (n : Nat) : ∃ b, hashByValue n v = pure b := by
  rcases h with ⟨i, t, rfl⟩ | ⟨x, t, rfl⟩
  · exact ⟨true, by cases n <;> rfl⟩
  · exact ⟨false, by cases n <;> rfl⟩
theorem bind_bool {α : Type} {M : Model} {A : Around} {E : Value → Shared → Prop} {s : Shared} {Q : α → Shared → Prop} {x : Sem Bool} {f : Bool → Sem α} (hx : ∀ Q' : Bool → Shared → Prop, (∀ b, Q' b s) → wpAny M A x Q' E s) (hf : ∀ b, wpAny M A (f b) Q E s) : wpAny M A (x >>= f) Q E s := wpAny_bind (hx _ hf)
theorem ite_bool {α : Type} {M : Model} {A : Around} {E : Value → Shared → Prop} {s : Shared} {Q : α → Shared → Prop} {c : Prop} [Decidable c] {x y : Sem Bool} {f : Bool → Sem α} (hx : ∀ Q' : Bool → Shared → Prop, (∀ b, Q' b s) → wpAny M A x Q' E s) (hy : ∀ Q' : Bool → Shared → Prop, (∀ b, Q' b s) → wpAny M A y Q' E s) (hf : ∀ b, wpAny M A (f b) Q E s) : wpAny M A (if c then x >>= f else y >>= f) Q E s := by
  split
  · exact bind_bool hx hf
  · exact bind_bool hy hf
theorem tab_plain {t : SetTable} {hs : List Int} (T : TabOk t hs) (bv : Bool) : TabOk (if bv = true then t else { t with plain := false }) hs := by
  cases bv
  · exact ⟨T.ris, T.dm, T.sz, T.mok, T.bd, T.reach⟩
  · exact T
theorem mask_plain (t : SetTable) (bv : Bool) : (if bv = true then t else { t with plain := false }).mask = t.mask := by cases bv <;> rfl
theorem led_plain (t : SetTable) (bv : Bool) : (if bv = true then t else { t with plain := false }).led = t.led := by cases bv <;> rfl
theorem fill_plain (t : SetTable) (bv : Bool) : (if bv = true then t else { t with plain := false }).fill = t.fill := by cases bv <;> rfl
theorem items_leaf {P : Program} {w : World} {k : List Key} {vs : List Value} (h : ItemsAre (mixKind P w) k vs) : ∀ v ∈ vs, LeafM v := by
  induction h with
  | nil => intro v hv; cases hv
  | @cons k0 v' ks vs h1 _ ih =>
    intro v hv
    rcases List.mem_cons.mp hv with e | hv
    · rcases keyIs_shape h1 with ⟨i, t, _, e1⟩ | ⟨x, t, _, e1⟩
      · exact .inl ⟨i, t, e.trans e1⟩
      · exact .inr ⟨x, t, e.trans e1⟩
    · exact ih v hv
abbrev TKM (P : Program) (w : World) : HeapKind P w (List Key) := tupleKind (mixKind P w)
abbrev thashM (P : Program) (w : World) (k : List Key) : Int := tupleKeyHash (mixKind P w) k
/-- the tuple at a has the ints k -/
abbrev IsTM (P : Program) (w : World) (h : Heap) (k : List Key) (a : Addr) : Prop := IsTupleKey (mixKind P w) h k a

section
variable {P : Program} {w : World} {A : Around} {E : Value → Shared → Prop} {s : Shared}

/-! ### small questions asked of tuples -/
theorem ofAClass_tupM {k : List Key} {b : Addr} {Q : Bool → Shared → Prop} (hk : IsTM P w s.heap k b) (h : Q false s) : wpAny (model P w) A (ofAClassStatement 8 (.ref b)) Q E s := by
  have hT := hk.typeIs
  obtain ⟨o, items, n, ho, _, hd, hi⟩ := hk
  unfold ofAClassStatement
  refine wpAny_bind (wpAny_typeOf hT ?_)
  dsimp only
  have e : (("tuple" : String) == "tuple") = true := by decide
  simp only [e, if_true, Bool.not_true, Bool.false_eq_true, if_false]
  try refine wpAny_bind (wpAny_pure ?_)
  try simp only [Bool.not_true, Bool.false_eq_true, if_false]
  show wpAny _ _ (seqItems? (.ref b) >>= _) _ _ s
  refine wpAny_bind (wpAny_seqItems ho hd ?_)
  dsimp only
  refine wpAny_bind ?_
  show wpAny _ _ (forIn items _ _) _ _ s
  rw [← Array.forIn_toList]
  refine wpAny_forIn_list _ (fun rest r s' => r.1 = none ∧ s' = s ∧ ∀ v ∈ rest, LeafM v) _ ?_ ?_ _ _ ⟨rfl, rfl, items_leaf hi⟩
  · rintro v rest r s' ⟨hr, rfl, hall⟩
    rw [ofAClass_leaf (hall v List.mem_cons_self)]
    refine wpAny_bind (wpAny_pure ?_)
    simp only [Bool.false_eq_true, if_false]
    exact wpAny_pure ⟨rfl, rfl, fun u hu' => hall u (List.mem_cons_of_mem _ hu')⟩
  · rintro ⟨r1, r2⟩ s' ⟨hr, rfl, _⟩
    simp only at hr
    subst hr
    exact wpAny_pure h
theorem hashBy_tupM {k : List Key} {b : Addr} {Q : Bool → Shared → Prop} (hk : IsTM P w s.heap k b) (h : ∀ b, Q b s) : wpAny (model P w) A (hashByValue 8 (.ref b)) Q E s := by
  have hT := hk.typeIs
  obtain ⟨o, items, n, ho, _, hd, hi⟩ := hk
  unfold hashByValue
  refine wpAny_bind (wpAny_specialOf hT F.slot_tuple_hash.lookup ?_)
  show wpAny _ _ (seqItems? (.ref b) >>= _) _ _ s
  refine wpAny_bind (wpAny_seqItems ho hd ?_)
  refine wpAny_bind ?_
  show wpAny _ _ (forIn items _ _) _ _ s
  rw [← Array.forIn_toList]
  refine wpAny_forIn_list _ (fun rest r s' => r.1 = none ∧ s' = s ∧ ∀ v ∈ rest, LeafM v) _ ?_ ?_ _ _ ⟨rfl, rfl, items_leaf hi⟩
  · rintro v rest r s' ⟨hr, rfl, hall⟩
    obtain ⟨bb, hb⟩ := hashBy_leaf (hall v List.mem_cons_self) 7
    rw [hb]
    refine wpAny_bind (wpAny_pure ?_)
    cases bb with
    | true =>
      simp only [Bool.not_true, Bool.false_eq_true, if_false]
      exact wpAny_pure ⟨rfl, rfl, fun u hu' => hall u (List.mem_cons_of_mem _ hu')⟩
    | false =>
      simp only [Bool.not_false, if_true]
      exact wpAny_pure (wpAny_pure (h false))
  · rintro ⟨r1, r2⟩ s' ⟨hr, rfl, _⟩
    simp only at hr
    subst hr
    exact wpAny_pure (h true)
/-- a search among tuples shows nothing -/
theorem seen_tupM {k : List Key} {b : Addr} {Q : Bool → Shared → Prop} (hk : IsTM P w s.heap k b) {ys : List Value} (hy : ∀ y ∈ ys, ∃ k' c, y = Value.ref c ∧ IsTM P w s.heap k' c) (h : Q false s) :
    wpAny (model P w) A (searchCouldBeSeen (.ref b) ys) Q E s := by
  unfold searchCouldBeSeen
  refine wpAny_bind ?_
  refine wpAny_forIn_list _ (fun rest r s' => r.1 = none ∧ s' = s ∧ ∀ y ∈ rest, ∃ k' c, y = Value.ref c ∧ IsTM P w s.heap k' c) _ ?_ ?_ _ _ ⟨rfl, rfl, hy⟩
  · rintro v rest r s' ⟨hr, rfl, hall⟩
    obtain ⟨k', c, rfl, hc⟩ := hall v List.mem_cons_self
    have rest' : ∀ y ∈ rest, ∃ k' c, y = Value.ref c ∧ IsTM P w s'.heap k' c := fun u hu' => hall u (List.mem_cons_of_mem _ hu')
    dsimp only
    by_cases hv : (b == c || (carriedByValue (.ref b) && carriedByValue (.ref c))) = true
    · refine wp_if_pos hv ?_
      exact wpAny_pure ⟨rfl, rfl, rest'⟩
    · refine wp_if_neg hv ?_
      refine wpAny_bind (wpAny_eqIsQuiet_tuple hk ?_)
      simp only [Bool.not_true, Bool.false_eq_true, if_false]
      refine wpAny_bind (wpAny_eqIsQuiet_tuple hc ?_)
      simp only [Bool.not_true, Bool.false_eq_true, if_false]
      refine wpAny_bind (ofAClass_tupM hk ?_)
      simp only [Bool.false_eq_true, if_false]
      refine wpAny_bind (ofAClass_tupM hc ?_)
      simp only [Bool.false_eq_true, if_false]
      exact wpAny_pure ⟨rfl, rfl, rest'⟩
  · rintro ⟨r1, r2⟩ s' ⟨hr, rfl, _⟩
    simp only at hr
    subst hr
    exact wpAny_pure h

/-! ### the set of tuples -/
def rowsOfM (P : Program) (w : World) (L : List (Addr × List Key)) : List (Int × Value) := L.map fun p => (thashM P w p.2, Value.ref p.1)
structure SetTRM (P : Program) (w : World) (h : Heap) (a : Addr) (L : List (Addr × List Key)) (es : Array (Int × Value)) (ep : Nat) (t : SetTable) : Prop where
  ob : ∃ o, h.get? a = some o ∧ o.ExactSet ∧ o.data = .set es ep t
  rows : es.toList = rowsOfM P w L
  tab : TabOk t (L.map fun p => thashM P w p.2)
  nd : (L.map (·.2)).Nodup
  tup : ∀ p ∈ L, IsTM P w h p.2 p.1
  led : w.params.followText "set-order" = true ∨ t.led = true
  room : L.length * 5 < t.mask * 3
  few : L.length < 64
variable {a : Addr} {L : List (Addr × List Key)} {es : Array (Int × Value)} {ep : Nat} {t : SetTable}
theorem SetTRM.size (R : SetTRM P w s.heap a L es ep t) : es.size = L.length := by
  have h := congrArg List.length R.rows
  unfold rowsOfM at h
  rw [Array.length_toList, List.length_map] at h
  exact h
theorem SetTRM.fits (R : SetTRM P w s.heap a L es ep t) : t.fits es.size = true := by
  have h1 := R.tab.sz
  rw [List.length_map] at h1
  have h2 := R.size
  have h3 := R.room
  unfold SetTable.fits SetTable.fill
  rw [R.tab.dm, Bool.and_eq_true, beq_iff_eq, decide_eq_true_eq]
  show t.place.size = es.size ∧ t.place.size + 0 ≤ t.mask
  omega
theorem SetTRM.entry (R : SetTRM P w s.heap a L es ep t) {i : Nat} {p : Addr × List Key} (h : L[i]? = some p) : es[i]? = some (thashM P w p.2, Value.ref p.1) := by
  rw [← Array.getElem?_toList, R.rows]
  unfold rowsOfM
  rw [List.getElem?_map, h] <;> rfl
theorem SetTRM.gw (R : SetTRM P w s.heap a L es ep t) : ¬ t.gaveWay = true := by
  unfold SetTable.gaveWay
  rw [mask_odd R.tab.mok]
  decide
/-- THE SEARCH: from the c-th step of the way on -/
theorem search_fromM (R : SetTRM P w s.heap a L es ep t) {x : Addr} {k : List Key} (hx : IsTM P w s.heap k x) (hu : A.units < cLine) {K : Nat} (hKf : K < 10 * SetTable.turns t.mask)
    (hK : way t.mask (thashM P w k) K ∉ t.place.toList) (hKb : ∀ c, c < K → way t.mask (thashM P w k) c ∈ t.place.toList) {Q : SetFound → Shared → Prop}
    (hin : k ∈ L.map (·.2) → Q (.there none) s) (hout : k ∉ L.map (·.2) → Q (.free (way t.mask (thashM P w k) K) false) s) :
    ∀ (f c : Nat) (stand : Option SetTable.Probe), stand.getD (t.probeStart (thashM P w k)) = nth t.mask (runAt t.mask (SetTable.bits (thashM P w k) % (t.mask + 1)) (SetTable.bits (thashM P w k))) c → c ≤ K → K - c < f →
      (∀ (i : Nat) p, L[i]? = some p → p.2 = k → ∃ c', c ≤ c' ∧ c' < K ∧ t.place.toList[i]? = some (way t.mask (thashM P w k) c')) →
      wpAny (model P w) A (setSearchFrom a (.ref x) (thashM P w k) true f stand) Q E s
  | 0, c, stand, _, _, hf, _ => absurd hf (Nat.not_lt_zero _)
  | f + 1, c, stand, hst, hc, hf, hre => by
    obtain ⟨o, ho, hex, hd⟩ := R.ob
    rw [setSearchFrom_succ]
    refine wpAny_bind (wpAny_setState_of ho hd R.fits ?_)
    dsimp only
    refine wp_if_neg R.gw ?_
    try refine wpAny_bind (wpAny_pure ?_)
    have hnd : (nth t.mask (runAt t.mask (SetTable.bits (thashM P w k) % (t.mask + 1)) (SetTable.bits (thashM P w k))) c).dummy = none := by
      have key : ∀ (n : Nat) (p : SetTable.Probe), p.dummy = none → (nth t.mask p n).dummy = none := by
        intro n
        induction n with
        | zero => intro p h; exact h
        | succ n ih =>
          intro p h
          refine ih (adv t.mask p) ?_
          unfold adv
          split <;> exact h
      exact key c _ rfl
    have sh : ∀ q, nth t.mask (nth t.mask (runAt t.mask (SetTable.bits (thashM P w k) % (t.mask + 1)) (SetTable.bits (thashM P w k))) c) q = nth t.mask (runAt t.mask (SetTable.bits (thashM P w k) % (t.mask + 1)) (SetTable.bits (thashM P w k))) (c + q) := fun q => (nth_add t.mask c _ q).symm
    have e1 : ∀ q, (nth t.mask (nth t.mask (runAt t.mask (SetTable.bits (thashM P w k) % (t.mask + 1)) (SetTable.bits (thashM P w k))) c) q).j = way t.mask (thashM P w k) (c + q) := fun q => congrArg SetTable.Probe.j (sh q)
    have spec := go_spec t R.tab.ris R.tab.dm (fun i => (es[i]?.map (·.1)).getD 0) (thashM P w k) (10 * SetTable.turns t.mask) (K - c) _ hnd (by omega)
      (fun q hq => by rw [e1]; exact hKb (c + q) (by omega)) (by rw [e1, show c + (K - c) = K by omega]; exact hK)
    have hashAt : ∀ (i : Nat) p, L[i]? = some p → (fun i => (es[i]?.map (·.1)).getD 0) i = thashM P w p.2 := fun i p hp => by
      show (es[i]?.map (·.1)).getD 0 = _
      rw [R.entry hp] <;> rfl
    rcases spec with ⟨q, i, hq, hi, hh, hno, hpr⟩ | ⟨hno, hpr⟩
    · -- a candidate
      have hpr' : t.probe (fun i => (es[i]?.map (·.1)).getD 0) (thashM P w k) (stand.getD (t.probeStart (thashM P w k))) = some (.candidate (way t.mask (thashM P w k) (c + q)) i (nth t.mask (runAt t.mask (SetTable.bits (thashM P w k) % (t.mask + 1)) (SetTable.bits (thashM P w k))) (c + (q + 1)))) := by
        rw [hst, ← e1, ← sh]
        exact hpr
      rw [hpr']
      dsimp only
      rw [e1] at hi
      -- the entry
      have hil : i < L.length := by
        have h1 : i < t.place.toList.length := (List.getElem?_eq_some_iff.mp hi).1
        have h2 := R.tab.sz
        rw [List.length_map] at h2
        rw [Array.length_toList] at h1
        omega
      have hp : L[i]? = some L[i] := List.getElem?_eq_getElem hil
      generalize hpe : L[i] = p at hp
      have hmem : p ∈ L := List.mem_of_getElem? hp
      have hpt := R.tup p hmem
      have rest : wpAny (model P w) A (searchRest a (.ref x) (thashM P w k) true f es t (way t.mask (thashM P w k) (c + q)) i (nth t.mask (runAt t.mask (SetTable.bits (thashM P w k) % (t.mask + 1)) (SetTable.bits (thashM P w k))) (c + (q + 1)))) Q E s := by
        unfold searchRest
        rw [R.entry hp]
        dsimp only
        refine wpAny_bind (wpAny_holding (wpAny_eqBool_tuple hu hpt hx ?_))
        refine wpAny_bind (wpAny_setState_of ho hd R.fits ?_)
        dsimp only
        by_cases hkk : p.2 = k
        · refine wp_if_pos (by simp [hkk]) ?_
          refine wpAny_pure (hin ?_)
          exact List.mem_map.mpr ⟨p, hmem, hkk⟩
        · refine wp_if_neg (by simp [hkk]) ?_
          try refine wpAny_bind (wpAny_pure ?_)
          rw [sameMem]
          dsimp only
          have hsl : t.slot (way t.mask (thashM P w k) (c + q)) = .live i := slot_live R.tab.ris hi
          simp only [if_true, hsl, R.entry hp]
          refine wpAny_bind (wpAny_isSame_ref_self (wpAny_bind (wpAny_pure ?_)))
          simp only [if_true]
          refine wp_if_neg (by simp [hkk]) ?_
          refine search_fromM R hx hu hKf hK hKb hin hout f (c + (q + 1)) _ rfl (by omega) (by omega) fun i0 p0 h0 hk0 => ?_
          obtain ⟨c', a1, a2, a3⟩ := hre i0 p0 h0 hk0
          refine ⟨c', ?_, a2, a3⟩
          -- it isn't passed
          rcases Nat.lt_or_ge c' (c + q) with z | z
          · exfalso
            refine hno (c' - c) i0 (by omega) (by rw [e1, show c + (c' - c) = c' by omega]; exact a3) ?_
            exact (hashAt i0 p0 h0).trans (congrArg (thashM P w) hk0)
          · rcases Nat.lt_or_ge (c + q) c' with y | y
            · omega
            · exfalso
              have ec : c' = c + q := Nat.le_antisymm y z
              rw [ec] at a3
              have s0 := slot_live R.tab.ris a3
              rw [hsl] at s0
              injection s0 with s0
              rw [← s0, hp] at h0
              exact hkk ((congrArg Prod.snd (Option.some.inj h0)).trans hk0)
      by_cases hl : t.led = true
      · refine wp_if_neg (by simp [hl]) ?_
        try refine wpAny_bind (wpAny_pure ?_)
        exact rest
      · refine wp_if_pos (by simp [hl]) ?_
        refine wpAny_bind (seen_tupM hx (fun y hy => ?_) ?_)
        · obtain ⟨e, he, ee⟩ := List.mem_map.mp hy
          have he1 : e ∈ es ∧ e.1 = thashM P w k := by simpa using he
          have he2 : e ∈ es.toList := by simpa using he1.1
          rw [R.rows] at he2
          obtain ⟨p2, hp2, e2⟩ := List.mem_map.mp he2
          refine ⟨p2.2, p2.1, ?_, R.tup p2 hp2⟩
          rw [← ee, ← e2]
        · refine wp_if_neg (by decide) ?_
          try refine wpAny_bind (wpAny_pure ?_)
          exact rest
    · -- the empty slot
      have hpr' : t.probe (fun i => (es[i]?.map (·.1)).getD 0) (thashM P w k) (stand.getD (t.probeStart (thashM P w k))) = some (.empty (way t.mask (thashM P w k) K) none) := by
        have e2 : way t.mask (thashM P w k) K = (nth t.mask (nth t.mask (runAt t.mask (SetTable.bits (thashM P w k) % (t.mask + 1)) (SetTable.bits (thashM P w k))) c) (K - c)).j := by
          rw [e1, show c + (K - c) = K by omega]
        rw [hst, e2]
        exact hpr
      rw [hpr']
      dsimp only
      refine wpAny_pure (hout fun hm => ?_)
      obtain ⟨p0, h0, hk0⟩ := List.mem_map.mp hm
      obtain ⟨i0, hi0, e0⟩ := List.getElem_of_mem h0
      have h00 : L[i0]? = some p0 := by rw [List.getElem?_eq_getElem hi0, e0]
      obtain ⟨c', a1, a2, a3⟩ := hre i0 p0 h00 hk0
      refine hno (c' - c) i0 (by omega) (by rw [e1, show c + (c' - c) = c' by omega]; exact a3) ?_
      exact (hashAt i0 p0 h00).trans (congrArg (thashM P w) hk0)

/-- the search as adding asks for it -/
theorem search_atM (R : SetTRM P w s.heap a L es ep t) {x : Addr} {k : List Key} (hx : IsTM P w s.heap k x) (hu : A.units < cLine) {Q : SetFound → Shared → Prop}
    (hin : k ∈ L.map (·.2) → Q (.there none) s)
    (hout : ∀ K, k ∉ L.map (·.2) → way t.mask (thashM P w k) K ∉ t.place.toList → (∀ c, c < K → way t.mask (thashM P w k) c ∈ t.place.toList) → Q (.free (way t.mask (thashM P w k) K) false) s) :
    wpAny (model P w) A (setSearch a (.ref x) (thashM P w k) true) Q E s := by
  have hroom := R.room
  obtain ⟨K, hKf, hK, hKb⟩ := R.tab.first (by rw [List.length_map]; omega) (thashM P w k)
  have hbig : K < 100000 := by
    have : 10 * SetTable.turns t.mask ≤ 1420 := by
      unfold SetTable.turns
      rcases R.tab.mok with e | e | e <;> omega
    omega
  unfold setSearch
  refine search_fromM R hx hu hKf hK hKb hin (fun hn => hout K hn hK hKb) 100000 0 none rfl (Nat.zero_le _) (by omega) fun i p hp hk => ?_
  have hi : (L.map fun p => thashM P w p.2)[i]? = some (thashM P w k) := by rw [List.getElem?_map, hp, ← hk] <;> rfl
  have hil : i < t.place.toList.length := by
    have h1 : i < L.length := (List.getElem?_eq_some_iff.mp hp).1
    have h2 := R.tab.sz
    rw [List.length_map] at h2
    rw [Array.length_toList]
    omega
  have hj := List.getElem?_eq_getElem hil
  obtain ⟨c, hc, e⟩ := R.tab.before hK hi hj
  exact ⟨c, Nat.zero_le _, hc, by rw [hj, e]⟩
end
end L2

namespace L2
open PySem PySem.Spec PyProof.Rows
section
variable {P : Program} {w : World} {A : Around} {E : Value → Shared → Prop} {s : Shared}
/-- a tuple isn't the set -/
theorem isT_sameM {h h' : Heap} {k : List Key} {a b : Addr} {o : Obj} {es : Array (Int × Value)} {ep : Nat} {t : SetTable} (hb : IsTM P w h k b) (ho : h.get? a = some o) (hd : o.data = .set es ep t) (hs : Heap.SameBut a h h') : IsTM P w h' k b := by
  obtain ⟨o', items, n, ho', hc, hd', hi⟩ := hb
  have hne : b ≠ a := by
    rintro rfl
    obtain rfl : o' = o := Option.some.inj (ho'.symm.trans ho)
    rw [hd] at hd'
    exact nomatch hd'
  exact ⟨o', items, n, (hs.2 b hne).trans ho', hc, hd', hi⟩
theorem rows_putM (L : List (Addr × List Key)) (p : Nat) (x : Addr) (k : List Key) : rowsOfM P w (L.take p ++ (x, k) :: L.drop p) = (rowsOfM P w L).take p ++ (thashM P w k, Value.ref x) :: (rowsOfM P w L).drop p := by
  unfold rowsOfM
  rw [List.map_append, List.map_cons, List.map_take, List.map_drop]
theorem order_rowsM (L : List (Addr × List Key)) (es : Array (Int × Value)) (order : Array Nat) (hr : es.toList = rowsOfM P w L) (hp : order.toList.Perm (List.range L.length)) :
    ∃ L2, (order.filterMap (es[·]?)).toList = rowsOfM P w L2 ∧ L2.Perm L ∧ (L2.map fun p => thashM P w p.2) = order.toList.map fun i => (es.map (·.1)).getD i 0 := by
  have hsz : es.size = L.length := by
    have h := congrArg List.length hr
    unfold rowsOfM at h
    rw [Array.length_toList, List.length_map] at h
    exact h
  have ent : ∀ i (h : i < L.length), es[i]? = some (thashM P w (L[i]).2, Value.ref (L[i]).1) := fun i h => by
    rw [← Array.getElem?_toList, hr]
    unfold rowsOfM
    rw [List.getElem?_map, List.getElem?_eq_getElem h] <;> rfl
  have key : ∀ l : List Nat, (∀ i ∈ l, i < L.length) → ∃ L2 : List (Addr × List Key), l.filterMap (fun i => es[i]?) = rowsOfM P w L2 ∧ L2 = l.filterMap (fun i => L[i]?) ∧ (L2.map fun p => thashM P w p.2) = l.map fun i => (es.map (·.1)).getD i 0 := by
    intro l
    induction l with
    | nil => intro _; exact ⟨[], rfl, rfl, rfl⟩
    | cons i l ih =>
      intro hl
      have hi := hl i List.mem_cons_self
      obtain ⟨L2, e1, e2, e3⟩ := ih fun j hj => hl j (List.mem_cons_of_mem _ hj)
      refine ⟨L[i] :: L2, ?_, ?_, ?_⟩
      · rw [List.filterMap_cons_some (ent i hi), e1] <;> rfl
      · rw [List.filterMap_cons_some (List.getElem?_eq_getElem hi), e2]
      · rw [List.map_cons, List.map_cons, e3]
        have hi2 : i < (es.map (·.1)).size := by rw [Array.size_map, hsz]; exact hi
        have e4 : (es.map (·.1)).getD i 0 = thashM P w (L[i]).2 := by
          have e5 : (es.map (·.1))[i]? = some (thashM P w (L[i]).2) := by rw [Array.getElem?_map, ent i hi] <;> rfl
          simp [Array.getD_eq_getD_getElem?, e5]
        rw [e4]
  obtain ⟨L2, e1, e2, e3⟩ := key order.toList fun i hi => List.mem_range.mp (hp.mem_iff.mp hi)
  refine ⟨L2, by first | (rw [Array.toList_filterMap]; exact e1) | simpa using e1, ?_, e3⟩
  have h1 : L2.Perm ((List.range L.length).filterMap fun i => L[i]?) := by
    rw [e2]
    exact hp.filterMap _
  have h2 : (List.range L.length).filterMap (fun i => L[i]?) = L := by
    have key2 : ∀ n, n ≤ L.length → (List.range n).filterMap (fun i => L[i]?) = L.take n := by
      intro n
      induction n with
      | zero => intro _; rfl
      | succ n ih =>
        intro hn
        have hlt : n < L.length := hn
        rw [List.range_succ, List.filterMap_append, ih (Nat.le_of_lt hlt), List.take_succ, List.getElem?_eq_getElem hlt]
        rw [List.filterMap_cons_some (List.getElem?_eq_getElem hlt)] <;> rfl
    rw [key2 L.length (Nat.le_refl _), List.take_length]
  rw [h2] at h1
  exact h1

variable {a : Addr} {L : List (Addr × List Key)} {es : Array (Int × Value)} {ep : Nat} {t : SetTable}
/-- the table laid anew, larger -/
theorem relay_atM {o : Obj} (ho : s.heap.get? a = some o) (hex : o.ExactSet) (hd : o.data = .set es ep t) (hrows : es.toList = rowsOfM P w L) (hsz : t.place.size = es.size) (hdm : t.dummies = #[]) (hfl : es.size ≤ t.mask)
    (nd : (L.map (·.2)).Nodup) (tup : ∀ p ∈ L, IsTM P w s.heap p.2 p.1) (ld : w.params.followText "set-order" = true ∨ t.led = true) (few : L.length < 64) {wanted M : Nat}
    (hw : SetTable.sizeAbove wanted - 1 = M) (hM : MaskOk M) (hw2 : SetTable.sizeAbove wanted ≤ 128) (hn : L.length * 5 < M * 3) {Q : Unit → Shared → Prop}
    (hQ : ∀ h' L' es' ep' t', Heap.SameBut a s.heap h' → SetTRM P w h' a L' es' ep' t' → L'.Perm L → Q () { s with heap := h' }) : wpAny (model P w) A (setRelay a wanted) Q E s := by
  have hsl : es.size = L.length := by
    have h := congrArg List.length hrows
    unfold rowsOfM at h
    rw [Array.length_toList, List.length_map] at h
    exact h
  have hfits : t.fits es.size = true := by
    unfold SetTable.fits SetTable.fill
    rw [hdm, Bool.and_eq_true, beq_iff_eq, decide_eq_true_eq]
    show t.place.size = es.size ∧ t.place.size + 0 ≤ t.mask
    omega
  obtain ⟨t', order, e, hp, T, em, el, ep', ed⟩ := relaid_ok t (hs := es.map (·.1)) (wanted := wanted) hw hM (by rw [Array.size_map, hsl]; omega)
  rw [Array.size_map, hsl] at hp
  obtain ⟨L2, r1, r2, r3⟩ := order_rowsM L es order hrows hp
  rw [← r3] at T
  have hs2 : (order.filterMap (es[·]?)).size = es.size := by
    have h := congrArg List.length r1
    unfold rowsOfM at h
    rw [Array.length_toList, List.length_map, r2.length_eq] at h
    rw [h, hsl]
  rw [setRelay_eq]
  refine wpAny_bind (wpAny_setState_of ho hd hfits ?_)
  dsimp only
  refine wp_if_neg (by rw [sizeLine_eq]; omega) ?_
  try refine wpAny_bind (wpAny_pure ?_)
  rw [e]
  dsimp only
  refine wpAny_bind ?_
  refine wp_if_neg (by rw [hs2]; simp) ?_
  try refine wpAny_bind (wpAny_pure ?_)
  refine wpAny_pure ?_
  dsimp only
  refine wpAny_storeSet_of ho hd ?_ (by rw [hs2, hsl, sizeLine_eq]; omega)
  have sb : Heap.SameBut a s.heap (s.heap.update a (Obj.putSet (order.filterMap (es[·]?)) t')) := Heap.SameBut.update ..
  refine hQ _ L2 (order.filterMap (es[·]?)) (ep + 1) t' sb ?_ r2
  refine ⟨⟨_, store_at ho hd, ⟨hex.1, hex.2.1, hex.2.2⟩, rfl⟩, r1, T, ?_, fun p hpm => isT_sameM (tup p (r2.mem_iff.mp hpm)) ho hd sb, by rw [el]; exact ld, ?_, by rw [r2.length_eq]; exact few⟩
  · exact (r2.map (·.2)).nodup_iff.mpr nd
  · rw [r2.length_eq, em]
    exact hn

/-- ADDING -/
theorem add_atM (R : SetTRM P w s.heap a L es ep t) {x : Addr} {k : List Key} (hx : IsTM P w s.heap k x) (hu : A.units < cLine) (hfew : L.length + 1 < 64) {Q : Bool → Shared → Prop}
    (hQ : ∀ b h' L' es' ep' t', Heap.SameBut a s.heap h' → SetTRM P w h' a L' es' ep' t' → (k ∈ L.map (·.2) → L' = L) → (k ∉ L.map (·.2) → L'.Perm ((x, k) :: L)) → Q b { s with heap := h' }) :
    wpAny (model P w) A (setAddHashed a (.ref x) (thashM P w k)) Q E s := by
  obtain ⟨o, ho, hex, hd⟩ := R.ob
  have hsl := R.size
  have hroom := R.room
  unfold setAddHashed
  refine wpAny_holding ?_
  rw [show (100000 : Nat) = 99999 + 1 from rfl, setAddHashedIn_succ]
  refine wpAny_bind (wpAny_setState_of ho hd R.fits ?_)
  dsimp only
  refine wp_if_neg (by simp [byScan, Value.scannable]) ?_
  try refine wpAny_bind (wpAny_pure ?_)
  refine wpAny_bind (search_atM R hx hu (fun hm => ?_) fun K hm hK hb => ?_)
  · dsimp only
    exact wpAny_pure (hQ false s.heap L es ep t (Heap.SameBut.refl a s.heap) R (fun _ => rfl) fun z => absurd hm z)
  · dsimp only
    refine wpAny_bind (wpAny_setState_of ho hd R.fits ?_)
    dsimp only
    obtain ⟨q1, q2, q3, q4, q5, q6, q7, q8, q9⟩ := R.tab.put hK hb
    generalize hpt : t.put (way t.mask (thashM P w k) K) = pt at q1 q3 q4 q5 q6 q7 q8 q9 ⊢
    obtain ⟨t1, p⟩ := pt
    dsimp only at q1 q3 q4 q5 q6 q7 q8 q9 ⊢
    subst q1
    refine ite_bool (fun Q' hq => hashBy_tupM hx hq) (fun Q' hq => wpAny_pure (hq true)) fun bv => ?_
    replace q3 := tab_plain q3 bv
    replace q4 := (mask_plain t1 bv).trans q4
    replace q5 := (led_plain t1 bv).trans q5
    replace q9 := (fill_plain t1 bv).trans q9
    clear q6 q7 q8
    generalize (if bv = true then t1 else { t1 with plain := false }) = t1 at q3 q4 q5 q9 ⊢
    have hin : (SetTable.insertAt es (SetTable.below t.place (way t.mask (thashM P w k) K)) (thashM P w k, Value.ref x)).toList = rowsOfM P w (L.take (SetTable.below t.place (way t.mask (thashM P w k) K)) ++ (x, k) :: L.drop (SetTable.below t.place (way t.mask (thashM P w k) K))) := by
      rw [SetTable.toList_insertAt, rows_putM, R.rows]
    generalize hpp : SetTable.below t.place (way t.mask (thashM P w k) K) = p at q2 q3 hin ⊢
    have pm := put_perm L p (x, k)
    have hlen : (L.take p ++ (x, k) :: L.drop p).length = L.length + 1 := pm.length_eq
    have hhs : (L.take p ++ (x, k) :: L.drop p).map (fun p => thashM P w p.2) = (L.map fun p => thashM P w p.2).take p ++ thashM P w k :: (L.map fun p => thashM P w p.2).drop p := by
      rw [List.map_append, List.map_cons, List.map_take, List.map_drop]
    rw [← hhs] at q3
    have nd1 : ((L.take p ++ (x, k) :: L.drop p).map (·.2)).Nodup := by
      refine (pm.map (·.2)).nodup_iff.mpr ?_
      rw [List.map_cons]
      exact List.nodup_cons.mpr ⟨hm, R.nd⟩
    have hes : (SetTable.insertAt es p (thashM P w k, Value.ref x)).size = L.length + 1 := by
      have h := congrArg List.length hin
      unfold rowsOfM at h
      rw [Array.length_toList, List.length_map, hlen] at h
      exact h
    generalize SetTable.insertAt es p (thashM P w k, Value.ref x) = es1 at hin hes ⊢
    generalize L.take p ++ (x, k) :: L.drop p = L1 at pm hlen q3 nd1 hin
    refine wpAny_bind (wpAny_storeSet_of ho hd ?_ (by rw [hes, sizeLine_eq]; omega))
    have sb : Heap.SameBut a s.heap (s.heap.update a (Obj.putSet es1 t1)) := Heap.SameBut.update ..
    have ho1 := store_at (es' := es1) (t' := t1) ho hd
    generalize s.heap.update a (Obj.putSet es1 t1) = h1 at sb ho1 ⊢
    have tup1 : ∀ p ∈ L1, IsTM P w h1 p.2 p.1 := fun p hp => by
      rcases List.mem_cons.mp (pm.mem_iff.mp hp) with e | hp
      · rw [e]; exact isT_sameM hx ho hd sb
      · exact isT_sameM (R.tup p hp) ho hd sb
    have ld1 : w.params.followText "set-order" = true ∨ t1.led = true := by rw [q5]; exact R.led
    by_cases hf : t1.tooFull = true
    · first
        | (refine wpAny_bind ?_; refine wp_if_pos (by simp [hf]) ?_)
        | (refine wp_if_pos (by simp [hf]) ?_; refine wpAny_bind ?_)
      have hfull : (L.length + 1) * 5 ≥ t1.mask * 3 := by
        have h := hf
        unfold SetTable.tooFull at h
        rw [decide_eq_true_eq, q9, List.length_map] at h
        exact h
      rw [hsl]
      have hsz1 : t1.place.size = es1.size := by
        have h := q3.sz
        rw [List.length_map, hlen] at h
        rw [h, hes]
      have cases2 : (t.mask = 7 ∧ L.length = 4) ∨ (t.mask = 31 ∧ L.length = 18) := by
        rcases R.tab.mok with e | e | e
        · left; rw [q4, e] at hfull; rw [e] at hroom; exact ⟨e, by omega⟩
        · right; rw [q4, e] at hfull; rw [e] at hroom; exact ⟨e, by omega⟩
        · exfalso; rw [q4, e] at hfull; omega
      have go : ∀ M, SetTable.sizeAbove (SetTable.grown (L.length + 1)) - 1 = M → MaskOk M → SetTable.sizeAbove (SetTable.grown (L.length + 1)) ≤ 128 → (L.length + 1) * 5 < M * 3 →
          wpAny (model P w) A (setRelay a (SetTable.grown (L.length + 1))) (fun _ s' => wpAny (model P w) A (pure true) Q E s') E { s with heap := h1 } := fun M h1' h2' h3' h4' => by
        refine relay_atM (s := { s with heap := h1 }) ho1 ⟨hex.1, hex.2.1, hex.2.2⟩ rfl hin hsz1 q3.dm (by rw [hes, q4]; rcases cases2 with ⟨e, e2⟩ | ⟨e, e2⟩ <;> omega) nd1 tup1 ld1 (by rw [hlen]; exact hfew) h1' h2' h3' (by rw [hlen]; exact h4') ?_
        intro h2 L2 es2 ep2 t2 sb2 R2 pm2
        refine wpAny_pure (hQ true h2 L2 es2 ep2 t2 (sb.trans sb2) R2 (fun z => absurd z hm) fun _ => pm2.trans pm)
      rcases cases2 with ⟨_, e2⟩ | ⟨_, e2⟩
      · refine go 31 (by rw [e2, size_20]) (.inr (.inl rfl)) (by rw [e2, size_20]; decide) (by omega)
      · refine go 127 (by rw [e2, size_76]) (.inr (.inr rfl)) (by rw [e2, size_76]; decide) (by omega)
    · first
        | refine wp_if_neg (by simp [hf]) ?_
        | (refine wpAny_bind ?_; refine wp_if_neg (by simp [hf]) ?_; refine wpAny_pure ?_)
      refine wpAny_pure (hQ true h1 L1 es1 (ep + 1) t1 sb ⟨⟨_, ho1, ⟨hex.1, hex.2.1, hex.2.2⟩, rfl⟩, hin, q3, nd1, tup1, ld1, ?_, by rw [hlen]; exact hfew⟩ (fun z => absurd z hm) fun _ => pm)
      have h := hf
      unfold SetTable.tooFull at h
      rw [decide_eq_true_eq, q9, List.length_map] at h
      rw [hlen]
      omega
end
end L2

namespace L2
open PySem PySem.Spec PyProof.Rows

/-- what the set has got from the first i items -/
structure GotM (ks : List (Addr × List Key)) (i : Nat) (L : List (Addr × List Key)) : Prop where
  sub : ∀ p ∈ L, p ∈ ks.take i
  all : ∀ p ∈ ks.take i, p.2 ∈ L.map (·.2)
  len : L.length ≤ i
theorem GotM.zero (ks : List (Addr × List Key)) : GotM ks 0 [] := ⟨fun p h => (by cases h), fun p h => (by simp at h), Nat.le_refl _⟩
theorem GotM.same {ks L : List (Addr × List Key)} {i : Nat} {x : Addr × List Key} (g : GotM ks i L) (h : ks[i]? = some x) (hm : x.2 ∈ L.map (·.2)) : GotM ks (i + 1) L := by
  refine ⟨fun p hp => ?_, fun p hp => ?_, Nat.le_succ_of_le g.len⟩
  · rw [take_next h]
    exact List.mem_append_left _ (g.sub p hp)
  · rw [take_next h] at hp
    rcases List.mem_append.mp hp with z | z
    · exact g.all p z
    · rw [List.mem_singleton.mp z]; exact hm
theorem GotM.more {ks L L' : List (Addr × List Key)} {i : Nat} {x : Addr × List Key} (g : GotM ks i L) (h : ks[i]? = some x) (pm : L'.Perm (x :: L)) : GotM ks (i + 1) L' := by
  refine ⟨fun p hp => ?_, fun p hp => ?_, ?_⟩
  · rw [take_next h]
    rcases List.mem_cons.mp (pm.mem_iff.mp hp) with e | z
    · rw [e]; exact List.mem_append_right _ (List.mem_singleton.mpr rfl)
    · exact List.mem_append_left _ (g.sub p z)
  · rw [(pm.map (·.2)).mem_iff, List.map_cons]
    rw [take_next h] at hp
    rcases List.mem_append.mp hp with z | z
    · exact List.mem_cons_of_mem _ (g.all p z)
    · rw [List.mem_singleton.mp z]; exact List.mem_cons_self
  · rw [pm.length_eq, List.length_cons]
    exact Nat.succ_le_succ g.len

section
variable {P : Program} {w : World} {A : Around} {E : Value → Shared → Prop} {s : Shared}
theorem isT_keepM {h h' : Heap} {k : List Key} {b : Addr} (x : IsTM P w h k b) (hk : ∀ c o, h.get? c = some o → h'.get? c = some o) : IsTM P w h' k b := by
  obtain ⟨o, items, n, ho, r⟩ := x
  exact ⟨o, items, n, hk b o ho, r⟩
theorem SetTRM.keep {h h' : Heap} {a : Addr} {L : List (Addr × List Key)} {es : Array (Int × Value)} {ep : Nat} {t : SetTable} (R : SetTRM P w h a L es ep t) (ha : ∀ o, h.get? a = some o → h'.get? a = some o) (ht : ∀ p ∈ L, IsTM P w h' p.2 p.1) : SetTRM P w h' a L es ep t := by
  obtain ⟨o, ho, r⟩ := R.ob
  exact ⟨⟨o, ha o ho, r⟩, R.rows, R.tab, R.nd, ht, R.led, R.room, R.few⟩
/-- a new set -/
theorem setTR_freshM {h : Heap} {a : Addr} (ho : h.get? a = some { cls := .type "set", dict := none, data := .set #[] 0 (.fresh 0 0 (!w.params.followText "set-order")) }) : SetTRM P w h a [] #[] 0 (.fresh 0 0 (!w.params.followText "set-order")) where
  ob := ⟨_, ho, ⟨rfl, rfl, rfl⟩, rfl⟩
  rows := rfl
  tab := ⟨List.Pairwise.nil, rfl, rfl, .inl rfl, fun x hx => (by cases hx), fun i h j hi => (by simp at hi)⟩
  nd := List.nodup_nil
  tup := fun p hp => (by cases hp)
  led := by
    show _ ∨ (!w.params.followText "set-order") = true
    cases w.params.followText "set-order"
    · exact .inr rfl
    · exact .inl rfl
  room := by
    show 0 * 5 < 7 * 3
    decide
  few := by
    show 0 < 64
    decide

/-- set.update's loop -/
theorem set_update_tupsM {I : Addr} {fp wr : List Addr} {G : Array GenState → Array GenState → Prop} {n : Nat} {Pv : Nat → Value → Prop} {St : Nat → Shared → Prop} {R : Result → Shared → Prop}
    (W : WalksS P w A.in1 I fp wr G n Pv St) (S : Addr) (hSf : S ∉ fp) (ks : List (Addr × List Key)) (hn : n = ks.length) (hfew : ks.length < 64) (hval : ∀ i v, Pv i v → ∃ p, ks[i]? = some p ∧ v = .ref p.1)
    (h0 : Heap) (hk : ∀ p ∈ ks, IsTM P w h0 p.2 p.1) (hS0 : h0.get? S = none) (hw0 : ∀ b ∈ wr, h0.get? b = none) (hu : A.in1.units < cLine) :
    ∀ (k i : Nat) (s : Shared), n - i = k → i ≤ n → St i s → (∀ b o, h0.get? b = some o → s.heap.get? b = some o) → (∃ L es ep t, SetTRM P w s.heap S L es ep t ∧ GotM ks i L) →
      (∀ s' L es ep t, Moved (S :: wr) G s s' → SetTRM P w s'.heap S L es ep t → GotM ks n L → (∀ b o, h0.get? b = some o → s'.heap.get? b = some o) → R (.ok (.ret .none)) s') →
      codeAny (model P w) A (.builtin "set.update.loop" ⟨[.ref S, .ref I], []⟩) R s := by
  have hSw : S ∉ wr := fun h => hSf (W.sub _ h)
  have hsub : ∀ b ∈ wr, b ∈ S :: wr := fun b hb => List.mem_cons_of_mem _ hb
  have keepM : ∀ {s s' : Shared}, Moved wr G s s' → (∀ b o, h0.get? b = some o → s.heap.get? b = some o) → ∀ b o, h0.get? b = some o → s'.heap.get? b = some o := fun hm hkp b o e =>
    hm.heap b o (fun hb => by rw [hw0 b hb] at e; cases e) (hkp b o e)
  intro k
  induction k with
  | zero =>
    intro i s hk' hi hst hkp ⟨L, es, ep, t, hS, g⟩ hR
    have hin : i = n := by omega
    subst hin
    refine codeAny_builtin F.entry_set_update_loop ?_
    rw [Around.under_plainId F.plain_set_update_loop _]
    show wpAny _ A.in1 (pyNext (.ref I) >>= _) _ _ s
    refine wpAny_bind (W.done s _ _ hst fun s' hm => ?_)
    show wpAny _ A.in1 (ret Value.none) _ _ s'
    have hkp' := keepM hm hkp
    have sub : ∀ p ∈ L, p ∈ ks := fun p hp => List.mem_of_mem_take (g.sub p hp)
    exact wpAny_pure (hR s' L es ep t (hm.mono hsub) (hS.keep (fun o e => hm.heap S o hSw e) fun p hp => isT_keepM (hk p (sub p hp)) hkp') g hkp')
  | succ k ih =>
    intro i s hk' hi hst hkp ⟨L, es, ep, t, hS, g⟩ hR
    have hlt : i < n := by omega
    refine codeAny_builtin F.entry_set_update_loop ?_
    rw [Around.under_plainId F.plain_set_update_loop _]
    show wpAny _ A.in1 (pyNext (.ref I) >>= _) _ _ s
    refine wpAny_bind (W.item i s _ _ hlt hst fun v s' hP hst' hm => ?_)
    obtain ⟨p, hp, rfl⟩ := hval i v hP
    have hkp' := keepM hm hkp
    have sub : ∀ p ∈ L, p ∈ ks := fun p hp => List.mem_of_mem_take (g.sub p hp)
    have hS' : SetTRM P w s'.heap S L es ep t := hS.keep (fun o e => hm.heap S o hSw e) fun q hq => isT_keepM (hk q (sub q hq)) hkp'
    have hx : IsTM P w s'.heap p.2 p.1 := isT_keepM (hk p (List.mem_of_getElem? hp)) hkp'
    show wpAny _ A.in1 (holding [Value.ref p.1] (setAdd S (.ref p.1)) >>= _) _ _ s'
    refine wpAny_bind (wpAny_holding ?_)
    unfold setAdd
    refine wpAny_holding ?_
    refine wpAny_bind (wpAny_pyHash_tuple hu hx ?_)
    refine add_atM (s := { s' with toks := s'.toks + (p.2.length + 1) }) hS' hx hu (by have := g.len; omega) fun b h' L' es' ep' t' hsb hS2 c1 c2 => ?_
    have g' : GotM ks (i + 1) L' := by
      rcases Classical.em (p.2 ∈ L.map (·.2)) with c | c
      · rw [c1 c]; exact g.same hp c
      · exact g.more hp (c2 c)
    have hkp2 : ∀ b o, h0.get? b = some o → h'.get? b = some o := fun b o e => (hsb.2 b (fun z => by rw [z, hS0] at e; cases e)).trans (hkp' b o e)
    refine wpAny_pure ⟨plainId_quiet F.plain_set_update_loop _, ih (i + 1) _ (by omega) hlt (W.frame _ s' _ _ hst' (Nat.le_add_right _ _) fun b hb o e => ?_) hkp2 ⟨L', es', ep', t', hS2, g'⟩ fun s'' L2 es2 ep2 t2 hm'' hS'' g'' hkp'' => ?_⟩
    · rw [hsb.2 b (fun h : b = S => hSf (by rw [← h]; exact hb))]; exact e
    · refine hR s'' L2 es2 ep2 t2 (Moved.trans W.gtrans ((hm.mono hsub).then_heap (Nat.le_add_right _ _) fun b o hb e => ?_) hm'') hS'' g'' hkp''
      rw [hsb.2 b (fun h : b = S => hb (by rw [h]; exact List.mem_cons_self))]; exact e

set_option maxRecDepth 100000 in
set_option maxHeartbeats 3200000 in
/-- set(xs) -/
theorem call_set_tupsM {l : Addr} {items : Array Value} (ks : List (Addr × List Key)) {Q : Value → Shared → Prop} (hh : A.handled = none) (hl : s.heap.IsList l items) (hit : items.toList = ks.map fun p => Value.ref p.1)
    (hk : ∀ p ∈ ks, IsTM P w s.heap p.2 p.1) (hfew : ks.length < 64) (hu : A.units + 3 < cLine)
    (h : ∀ (h' : Heap) (tk : Nat) L es ep t, SetTRM P w h' s.heap.objs.size L es ep t → GotM ks ks.length L → (∀ b o, s.heap.get? b = some o → h'.get? b = some o) → Q (.ref s.heap.objs.size) { s with heap := h', toks := tk }) :
    wpAny (model P w) A (call (.type "set") [.ref l]) Q E s := by
  have hisz : items.size = ks.length := by
    have q := congrArg List.length hit
    rw [Array.length_toList, List.length_map] at q
    exact q
  obtain ⟨c, tl, hmro⟩ := F.called_set.mro
  have hmade := F.called_set.made
  have hsub := F.called_set.sub
  refine wpAny_call (codeAny_of_tree ?_)
  show wpAny _ _ (callAny (.type "set") _) _ _ _
  refine wpAny_pure ⟨Code.quiet_builtin _ (by decide +kernel), codeAny_builtin F.entry_type_call ?_⟩
  rw [Around.under_plain (weight_type_call_type "set" [.ref l] []) rfl]
  have h1 := F.called_set.notType
  have h2 := F.called_set.canCreate
  have hct := F.typeCall_set_1 (.ref l)
  repeat (any_goals (first | assumption | wp_step))

  refine codeAny_mono (code_set_led1 (.ref l) (E := E) (Q₁ := fun obj s₁ => obj = .ref s.heap.objs.size ∧ s₁ = { s with heap := s.heap.push { cls := .type "set", dict := none, data := .set #[] 0 (.fresh 0 0 (!w.params.followText "set-order")) } }) ⟨rfl, rfl⟩) fun r s₁ hr => ?_
  cases r with
  | error e => exact hr
  | ok fl =>
    cases fl with
    | ret obj =>
      obtain ⟨rfl, rfl⟩ := hr
      have hS : (s.heap.push { cls := .type "set", dict := none, data := .set #[] 0 (.fresh 0 0 (!w.params.followText "set-order")) }).get? s.heap.objs.size = some { cls := .type "set", dict := none, data := .set #[] 0 (.fresh 0 0 (!w.params.followText "set-order")) } := Heap.get?_push_size _ rfl
      have hT : Shared.TypeIs { s with heap := s.heap.push { cls := .type "set", dict := none, data := .set #[] 0 (.fresh 0 0 (!w.params.followText "set-order")) } } (.ref s.heap.objs.size) "set" := ⟨_, hS, rfl⟩
      have hli := F.called_set.init.lookup
      have hbi := F.called_set.init.bind (.ref s.heap.objs.size)
      repeat (any_goals (first | assumption | wp_step))

      refine codeAny_mono (codeAny_call_builtin (R := wants (fun r s₂ => r = .none ∧ ∃ h' tk L es ep t, s₂ = { s with heap := h', toks := tk } ∧ SetTRM P w h' s.heap.objs.size L es ep t ∧ GotM ks ks.length L ∧
          (∀ b o, s.heap.get? b = some o → h'.get? b = some o)) E) F.called_set.init.plain F.entry_set_init (check_set_init_1 hT ?_)) fun r₂ s₂ hr₂ => ?_
      · obtain ⟨ol, hol, hcl, nl, hdl⟩ := hl
        obtain ⟨ocls, odict, odata, oslots⟩ := ol
        simp only at hcl hdl
        subst hcl; subst hdl
        have hol' : (s.heap.push { cls := .type "set", dict := none, data := .set #[] 0 (.fresh 0 0 (!w.params.followText "set-order")) }).get? l = some { cls := .type "list", dict := odict, data := .seq items nl, slots := oslots } := Heap.get?_push_of_some _ hol
        have hsls := F.sub_list_set
        have hslf := F.sub_list_frozenset
        have hne : (Value.type "list" == Value.type "dict") = false := by decide
        have hl1 : (s.heap.push { cls := .type "set", dict := none, data := .set #[] 0 (.fresh 0 0 (!w.params.followText "set-order")) }).IsList l items := ⟨_, hol', rfl, nl, rfl⟩
        unfold Builtin.«set.__init__» noKeywords Builtin.Frozenset.updateFrom
        generalize hPI : pyIter = PI
        wp_walk
        subst hPI

        refine wpAny_pyIter_list hl1 ?_
        refine wpAny_bind (wpAny_runValue ?_)
        have hlS : l < s.heap.objs.size := Heap.lt_size hol
        have hh3 : A.in1.in1.in1.handled = none := by simp [hh]
        have hz1 : (s.heap.push { cls := .type "set", dict := none, data := .set #[] 0 (.fresh 0 0 (!w.params.followText "set-order")) }).objs.size = s.heap.objs.size + 1 := Heap.size_push ..
        have hneI : l ≠ (s.heap.push { cls := .type "set", dict := none, data := .set #[] 0 (.fresh 0 0 (!w.params.followText "set-order")) }).objs.size := by
          rw [Heap.size_push]; exact Nat.ne_of_lt (Nat.lt_succ_of_lt hlS)
        have hSf : s.heap.objs.size ∉ [(s.heap.push { cls := .type "set", dict := none, data := .set #[] 0 (.fresh 0 0 (!w.params.followText "set-order")) }).objs.size, l] := by
          rw [Heap.size_push]; simp only [List.mem_cons, List.mem_singleton, List.not_mem_nil, or_false, not_or]
          exact ⟨Nat.ne_of_lt (Nat.lt_succ_self _), Nat.ne_of_gt hlS⟩
        have hval : ∀ (i : Nat) (v : Value), items[i]? = some v → ∃ p, ks[i]? = some p ∧ v = .ref p.1 := fun i v hv => by
          have q : items.toList[i]? = some v := by rw [Array.getElem?_toList]; exact hv
          rw [hit, List.getElem?_map] at q
          cases hq : ks[i]? with
          | none => rw [hq] at q; cases q
          | some p =>
            rw [hq] at q
            exact ⟨p, rfl, (Option.some.inj q).symm⟩
        have none_of : ∀ b, s.heap.objs.size ≤ b → s.heap.get? b = none := fun b hb => by
          cases q : s.heap.get? b with
          | none => rfl
          | some o => exact absurd (Nat.lt_of_lt_of_le (Heap.lt_size q) hb) (Nat.lt_irrefl _)
        refine set_update_tupsM ((Walks.list hh3 _ l hneI items).toS) s.heap.objs.size
          hSf ks hisz hfew hval s.heap hk (none_of _ (Nat.le_refl _)) (fun b hb => none_of b (by
            rw [List.mem_singleton.mp hb, Heap.size_push]
            exact Nat.le_succ _)) hu (items.size - 0) 0 _ (by omega) (Nat.zero_le _)
          ⟨⟨_, Heap.get?_push_size _ rfl, rfl, rfl⟩, (hl1.push _)⟩ (fun b o e => Heap.get?_push_of_some _ (Heap.get?_push_of_some _ e)) ?hS0 ?hR
        case hS0 =>
          have hget : ((s.heap.push { cls := .type "set", dict := none, data := .set #[] 0 (.fresh 0 0 (!w.params.followText "set-order")) }).push { cls := .type "list_iterator", data := .fields #[.ref l, .int 0 0] }).get? s.heap.objs.size
              = some { cls := .type "set", dict := none, data := .set #[] 0 (.fresh 0 0 (!w.params.followText "set-order")) } := Heap.get?_push_of_some _ hS
          exact ⟨[], #[], 0, _, setTR_freshM hget, GotM.zero ks⟩
        case hR =>
          intro s' L es ep t hm hS' g' hkp
          obtain ⟨h', g2, d', tk', os'⟩ := s'
          have eg : g2 = s.gens := hm.gens
          have ed : d' = s.drawn := hm.drawn
          have eo : os' = s.os := hm.os
          subst eg; subst ed; subst eo
          show wpAny _ _ _ _ _ _
          refine wpAny_pure ?_
          show wpAny _ _ (ret Value.none) _ _ _
          rw [hisz] at g'
          exact wpAny_pure ⟨rfl, h', tk', L, es, ep, t, rfl, hS', g', hkp⟩

      · cases r₂ with
        | error e => exact hr₂
        | ok fl₂ =>
          cases fl₂ with
          | ret r =>
            obtain ⟨rfl, h', tk, L, es, ep, t, rfl, hS', g', hk'⟩ := hr₂
            repeat (any_goals (first | assumption | wp_step))
            exact h _ _ _ _ _ _ hS' g' hk'
          | _ => exact hr₂.elim
    | _ => exact hr.elim
end
end L2

set_option Elab.async false
set_option linter.all false
set_option maxRecDepth 100000
set_option maxHeartbeats 4000000
/-! Rv3x: sorted(set(tuples of ints and texts)). -/
namespace Rv
open PySem PySem.Spec PyProof.Rows L2
open PySem.W (EachIs dataLe dataLt AllAlike CanSort alike keyToks keyToksAll)
def keysOf : List D → Option (List Key)
  | [] => some []
  | .int i :: r => (keysOf r).map (.inl i :: ·)
  | .str x :: r => (keysOf r).map (.inr x :: ·)
  | _ => none
def keyOf : D → Option (List Key)
  | .tuple ds => keysOf ds
  | _ => none
def kD : Key → D
  | .inl i => .int i
  | .inr x => .str x
def tupK (k : List Key) : D := .tuple (k.map kD)
theorem toks_inj : ∀ {a b : List Key}, keyToksAll (a.map kD) = keyToksAll (b.map kD) → a = b
  | [], [], _ => rfl
  | [], y :: b, h => by
    rw [List.map_nil, List.map_cons, PySem.W.toks_all_cons] at h
    unfold keyToksAll at h
    cases h
  | x :: a, [], h => by
    rw [List.map_nil, List.map_cons, PySem.W.toks_all_cons] at h
    unfold keyToksAll at h
    cases h
  | x :: a, y :: b, h => by
    rw [List.map_cons, List.map_cons, PySem.W.toks_all_cons, PySem.W.toks_all_cons, List.cons.injEq] at h
    have h := h.2
    cases x with
    | inl i =>
      cases y with
      | inl j =>
        have h : Sum.inl i :: keyToksAll (a.map kD) = Sum.inl j :: keyToksAll (b.map kD) := by simpa [kD, keyToks] using h
        rw [List.cons.injEq] at h
        rw [toks_inj h.2, Sum.inl.inj h.1]
      | inr z => simp [kD, keyToks] at h
    | inr z =>
      cases y with
      | inl j => simp [kD, keyToks] at h
      | inr z2 =>
        have h : Sum.inr z.cps.toList :: keyToksAll (a.map kD) = Sum.inr z2.cps.toList :: keyToksAll (b.map kD) := by simpa [kD, keyToks] using h
        rw [List.cons.injEq] at h
        rw [toks_inj h.2, PySem.W.str_of_cps (Sum.inr.inj h.1)]
theorem tupK_antisymm {a b : List Key} (h1 : dataLt (tupK a) (tupK b) = false) (h2 : dataLt (tupK b) (tupK a) = false) : a = b := by
  unfold tupK at h1 h2
  rw [PySem.W.dataLt_tuple] at h1 h2
  exact toks_inj (PyProof.Rows.lex_total _ _ h1 h2)
theorem pwK_unique {α : Type} {R : α → α → Prop} (hR : ∀ a b, R a b → R b a → a = b) : ∀ {l m : List α}, l.Perm m → l.Pairwise R → m.Pairwise R → l = m
  | [], m, h, _, _ => by rw [h.symm.eq_nil]
  | x :: l, [], h, _, _ => by cases h.eq_nil
  | x :: l, y :: m, h, h1, h2 => by
    obtain ⟨a1, a2⟩ := List.pairwise_cons.mp h1
    obtain ⟨b1, b2⟩ := List.pairwise_cons.mp h2
    have hx : x ∈ y :: m := h.mem_iff.mp List.mem_cons_self
    have hy : y ∈ x :: l := h.mem_iff.mpr List.mem_cons_self
    have e : x = y := by
      rcases List.mem_cons.mp hx with e | hx
      · exact e
      · rcases List.mem_cons.mp hy with e | hy
        · exact e.symm
        · exact hR x y (a1 y hy) (b1 x hx)
    subst e
    rw [pwK_unique hR (List.Perm.cons_inv h) a2 b2]
def unK : D → List Key
  | .tuple ds => (keysOf ds).getD []
  | _ => []
theorem keysK_kD : ∀ ks : List Key, keysOf (ks.map kD) = some ks
  | [] => rfl
  | .inl i :: r => by rw [List.map_cons]; show (keysOf (r.map kD)).map _ = _; rw [keysK_kD r]; rfl
  | .inr x :: r => by rw [List.map_cons]; show (keysOf (r.map kD)).map _ = _; rw [keysK_kD r]; rfl
theorem unK_tupK (k : List Key) : unK (tupK k) = k := by
  show (keysOf (k.map kD)).getD [] = k
  rw [keysK_kD]; rfl
/-- tuples of keys, sorted: whatever order they stood in -/
theorem srt_tupK {l m : List (List Key)} (h : l.Perm m) : srt (l.map tupK) = srt (m.map tupK) := by
  have perm : ∀ l : List (List Key), (srt (l.map tupK)).Perm (l.map tupK) := fun l => List.mergeSort_perm _ _
  have back : ∀ l : List (List Key), srt (l.map tupK) = ((srt (l.map tupK)).map unK).map tupK := fun l => by
    rw [List.map_map]
    conv => lhs; rw [← List.map_id (srt (l.map tupK))]
    refine List.map_congr_left fun d hd => ?_
    obtain ⟨t, _, rfl⟩ := List.mem_map.mp ((perm l).mem_iff.mp hd)
    show tupK t = tupK (unK (tupK t))
    rw [unK_tupK]
  have pm : ∀ l : List (List Key), ((srt (l.map tupK)).map unK).Perm l := fun l => by
    have := (perm l).map unK
    rw [List.map_map] at this
    have e2 : l.map (unK ∘ tupK) = l := by
      conv => rhs; rw [← List.map_id l]
      exact List.map_congr_left fun t _ => unK_tupK t
    rwa [e2] at this
  rw [back l, back m]
  have pl := srtS_pw (l.map tupK)
  have pn := srtS_pw (m.map tupK)
  rw [back l, List.pairwise_map] at pl
  rw [back m, List.pairwise_map] at pn
  congr 1
  exact pwK_unique (R := fun a b => dataLt (tupK b) (tupK a) = false) (fun a b h1 h2 => tupK_antisymm h2 h1) ((pm l).trans (h.trans (pm m).symm)) pl pn
/-- unlike ones -/
def memK (k : List Key) (l : List (List Key)) : Bool := l.any fun x => decide (x = k)
theorem memK_iff {k : List Key} {l : List (List Key)} : memK k l = true ↔ k ∈ l := by
  unfold memK
  rw [List.any_eq_true]
  exact ⟨fun ⟨x, h1, h2⟩ => by rw [← of_decide_eq_true h2]; exact h1, fun h => ⟨k, h, decide_eq_true rfl⟩⟩
def nubK (l : List (List Key)) : List (List Key) := l.foldr (fun k acc => if memK k acc = true then acc else k :: acc) []
theorem mem_nubK {k : List Key} : ∀ {l : List (List Key)}, k ∈ nubK l ↔ k ∈ l
  | [] => by simp [nubK]
  | x :: l => by
    show k ∈ (if memK x (nubK l) = true then nubK l else x :: nubK l) ↔ _
    split
    · rename_i hx
      rw [mem_nubK, List.mem_cons]
      constructor
      · exact .inr
      · rintro (rfl | h)
        · exact mem_nubK.mp (memK_iff.mp hx)
        · exact h
    · rw [List.mem_cons, List.mem_cons, mem_nubK]
theorem nodup_nubK : ∀ l : List (List Key), (nubK l).Nodup
  | [] => List.nodup_nil
  | x :: l => by
    show (if memK x (nubK l) = true then nubK l else x :: nubK l).Nodup
    split
    · exact nodup_nubK l
    · rename_i hx
      exact List.nodup_cons.mpr ⟨fun z => hx (memK_iff.mpr z), nodup_nubK l⟩
theorem perm_map' {α β : Type} [DecidableEq α] {f : α → β} : ∀ {l : List β} {A : List α}, l.Perm (A.map f) → ∃ B : List α, B.Perm A ∧ l = B.map f
  | [], A, h => by
    have := h.symm.eq_nil
    rw [List.map_eq_nil_iff] at this
    exact ⟨[], by rw [this], rfl⟩
  | x :: r, A, h => by
    obtain ⟨a, ha, rfl⟩ := List.mem_map.mp (h.mem_iff.mp List.mem_cons_self)
    have hp := List.perm_cons_erase ha
    obtain ⟨B, h1, h2⟩ := perm_map' (List.Perm.cons_inv (h.trans (hp.map f)))
    exact ⟨a :: B, (h1.cons a).trans hp.symm, by rw [h2]; rfl⟩
theorem all_perm {l m : List D} (h : l.Perm m) (p : D → Bool) : l.all p = m.all p := by
  rw [Bool.eq_iff_iff, List.all_eq_true, List.all_eq_true]
  exact ⟨fun z d hd => z d (h.mem_iff.mpr hd), fun z d hd => z d (h.mem_iff.mp hd)⟩
theorem sortOk_perm {l m : List D} (h : l.Perm m) : sortOk l = sortOk m := by
  unfold sortOk
  have e : (l.all fun d => l.all fun e => alike d e) = (m.all fun d => m.all fun e => alike d e) := by
    rw [all_perm h]
    congr 1
    funext d
    exact all_perm h _
  rw [e, all_perm h isTup, all_perm h notTup, all_perm h fun d => decide (d.depth ≤ 60), h.length_eq]
end Rv
namespace L2
open PySem PySem.Spec PyProof.Rows
open PySem.W (EachIs)
theorem reads_items {P : Program} {w : World} {h : Heap} : ∀ {k : List Key} {vs : List Value}, ItemsAre (mixKind P w) k vs → ReadsAll h vs (k.map Rv.kD) []
  | _, _, .nil => .nil
  | k0 :: ks, v :: vs, .cons h1 r => by
    have ih := reads_items (h := h) r
    rcases keyIs_shape h1 with ⟨i, t, rfl, rfl⟩ | ⟨x, t, rfl, rfl⟩
    · exact ReadsAll.cons (as := []) (Reads.int i t) ih
    · exact ReadsAll.cons (as := []) (Reads.str x t) ih
theorem reads_isTM {P : Program} {w : World} {h : Heap} {k : List Key} {b : Addr} (x : IsTM P w h k b) : Reads h (.ref b) (Rv.tupK k) [] := by
  obtain ⟨o, items, n, ho, hc, hd, hi⟩ := x
  exact .tuple ho hc hd (reads_items hi)
section
variable {P : Program} {w : World} {A : Around} {E : Value → Shared → Prop} {s : Shared}
theorem sorted_setM {a : Addr} {L : List (Addr × List Key)} {es : Array (Int × Value)} {ep : Nat} {t : SetTable} {ys : List (List Key)} {Q : Value → Shared → Prop} (R : SetTRM P w s.heap a L es ep t) (hh : A.handled = none) (hu : A.units + 65 < cLine)
    (hm : ∀ k, k ∈ L.map (·.2) ↔ k ∈ ys) (hok : Rv.sortOk ((Rv.nubK ys).map Rv.tupK) = true)
    (hQ : ∀ s' p (out : List Value) (c : Nat) (L' : List (Addr × List Key)), (∀ b o, s.heap.get? b = some o → s'.heap.get? b = some o) → s'.gens = s.gens → s'.os = s.os → s.heap.objs.size ≤ p →
      s'.heap.get? p = some (seqObj "list" out.toArray c) → out = L'.map (fun q => Value.ref q.1) → (∀ q ∈ L', q ∈ L) → L'.length < 64 → L'.map (fun q => Rv.tupK q.2) = Rv.srt ((Rv.nubK ys).map Rv.tupK) → Q (.ref p) s') :
    wpAny (model P w) A (call (.builtin "sorted") [.ref a]) Q E s := by
  obtain ⟨o, ho, hex, hd⟩ := R.ob
  have hfew := R.few
  have hsz := R.size
  refine PySem.W.sorted_col_any (enc := (id : PyData → PyData)) (R := fun v d => ∃ q, q ∈ L ∧ v = Value.ref q.1 ∧ d = Rv.tupK q.2) fun R' k => collect_set (A := A.in1) hh ⟨o, ho, hex.1, hd⟩ R.fits (by unfold scanBound; omega) R.tab.ris R.led fun s1 vs k1 hzz g1 o1 pm => ?_
  have hes : es.toList.map (·.2) = L.map fun q => Value.ref q.1 := by
    rw [R.rows]
    unfold rowsOfM
    rw [List.map_map] <;> rfl
  rw [hes] at pm
  obtain ⟨L1, hp1, rfl⟩ := Rv.perm_map' pm
  have hpk : (L1.map fun q => Rv.tupK q.2).Perm ((Rv.nubK ys).map Rv.tupK) := by
    have h1 : (L1.map (·.2)).Perm (Rv.nubK ys) := (List.perm_ext_iff_of_nodup ((hp1.map (·.2)).nodup_iff.mpr R.nd) (Rv.nodup_nubK ys)).mpr fun k => by
      rw [(hp1.map (·.2)).mem_iff, hm, Rv.mem_nubK]
    have h2 := h1.map Rv.tupK
    rw [List.map_map] at h2
    exact h2
  have hok1 : Rv.sortOk (L1.map fun q => Rv.tupK q.2) = true := by rw [Rv.sortOk_perm hpk]; exact hok
  obtain ⟨b1, b2, b3, b4⟩ := Rv.sortOk_of hok1
  have each : ∀ L1 : List (Addr × List Key), (∀ q ∈ L1, q ∈ L) → EachIs (fun v d => ∃ q, q ∈ L ∧ v = Value.ref q.1 ∧ d = Rv.tupK q.2) (L1.map fun q => Value.ref q.1) (L1.map fun q => Rv.tupK q.2) ∧ EachIs (fun v d => ∃ as, Reads s1.heap v (id d) as) (L1.map fun q => Value.ref q.1) (L1.map fun q => Rv.tupK q.2) := by
    intro L1
    induction L1 with
    | nil => intro _; exact ⟨.nil, .nil⟩
    | cons q L1 ih =>
      intro hq
      obtain ⟨i1, i2⟩ := ih fun r hr => hq r (List.mem_cons_of_mem _ hr)
      have hq0 := hq q List.mem_cons_self
      exact ⟨.cons ⟨q, hq0, rfl, rfl⟩ i1, .cons ⟨[], reads_isTM (isT_keepM (R.tup q hq0) k1)⟩ i2⟩
  obtain ⟨e1, e2⟩ := each L1 fun q hq => hp1.mem_iff.mp hq
  refine k s1 _ _ e1 e2 (by rw [List.map_id]; exact b1) (by rw [List.map_id]; exact b2) b3 (fun b hb => by
      have := b4 b hb
      show A.units + 2 + b.depth < cLine
      omega) fun h' tk p out c q1 q2 q3 q4 q5 => ?_
  have back : ∀ {out : List Value} {ds : List PyData}, EachIs (fun v d => ∃ q, q ∈ L ∧ v = Value.ref q.1 ∧ d = Rv.tupK q.2) out ds → ∃ L' : List (Addr × List Key), out = L'.map (fun q => Value.ref q.1) ∧ (∀ q ∈ L', q ∈ L) ∧ L'.map (fun q => Rv.tupK q.2) = ds := by
    intro out ds h
    induction h with
    | nil => exact ⟨[], rfl, fun q hq => (by cases hq), rfl⟩
    | cons h t ih =>
      obtain ⟨q, hq, rfl, rfl⟩ := h
      obtain ⟨L', r1, r2, r3⟩ := ih
      exact ⟨q :: L', by rw [r1]; rfl, fun r hr => by
        rcases List.mem_cons.mp hr with z | z
        · rw [z]; exact hq
        · exact r2 r z, by rw [List.map_cons, r3]⟩
  obtain ⟨L', r1, r2, r3⟩ := back q5
  have hsrt : Rv.srt (L1.map fun q => Rv.tupK q.2) = Rv.srt ((Rv.nubK ys).map Rv.tupK) := by
    have h1 : (L1.map (·.2)).Perm (Rv.nubK ys) := (List.perm_ext_iff_of_nodup ((hp1.map (·.2)).nodup_iff.mpr R.nd) (Rv.nodup_nubK ys)).mpr fun k => by
      rw [(hp1.map (·.2)).mem_iff, hm, Rv.mem_nubK]
    have := Rv.srt_tupK h1
    rw [List.map_map] at this
    exact this
  refine hQ _ p out c L' (fun b o e => q1 b o (k1 b o e)) g1 o1 (Nat.le_trans hzz q2) q3 r1 r2 ?_ (r3.trans hsrt)
  have hl := congrArg List.length r1
  rw [q4, List.length_map, List.length_map, hp1.length_eq] at hl
  omega
end
/-- the set at a, without the tuples themselves -/
def SetM0 (P : Program) (w : World) (h : Heap) (a : Addr) (L : List (Addr × List Key)) : Prop :=
  ∃ (es : Array (Int × Value)) (ep : Nat) (t : SetTable), (∃ o, h.get? a = some o ∧ o.ExactSet ∧ o.data = .set es ep t) ∧ es.toList = rowsOfM P w L ∧ TabOk t (L.map fun p => thashM P w p.2) ∧ (L.map (·.2)).Nodup ∧
    (w.params.followText "set-order" = true ∨ t.led = true) ∧ L.length * 5 < t.mask * 3 ∧ L.length < 64
def SetMO (P : Program) (w : World) (a : Addr) (L : List (Addr × List Key)) : HO := .ext fun h => SetM0 P w h a L
theorem setMO_new {P : Program} {w : World} {H : Hp} {h : Heap} {a : Addr} {L : List (Addr × List Key)} (R : SetM0 P w h a L) : ObjOk P w H h a (SetMO P w a L) := by
  have ⟨es, ep, t, ⟨o, ho, r⟩, q⟩ := R
  refine ⟨R, ⟨o, ho⟩, fun h1 h2 p k => ?_⟩
  have ⟨es', ep', t', ⟨o', ho', r'⟩, q'⟩ := p
  exact ⟨es', ep', t', ⟨o', k o' ho', r'⟩, q'⟩
section
variable {X : Cx}
theorem itemsM_of {P : Program} {w : World} : ∀ {k : List Key} {us : List Value}, Vals (k.map kV) us → ItemsAre (mixKind P w) k us
  | [], _, .nil => .nil
  | n :: k, _, .cons r t => .cons (kV_is r) (itemsM_of t)
theorem inv_isTM {pins : List (Addr × Obj)} {σ : St} {H : Hp} {s : Shared} {b : Addr} {k : List Key} (I : Inv X pins σ H s) (h : SqT X.K H b (k.map kV)) : IsTM X.prog X.w s.heap k b := by
  obtain ⟨its, r, ⟨o, ho, hc, n, hd⟩, _⟩ := I.tuple h
  exact ⟨o, its.toArray, n, ho, hc, hd, by simpa using itemsM_of r⟩
theorem refsM_of : ∀ {ks : List (Addr × List Key)} {us : List Value}, Vals (ks.map fun p => V.ref p.1) us → us = ks.map fun p => Value.ref p.1
  | [], _, .nil => rfl
  | p :: ks, _, .cons r t => by
    cases r
    rw [refsM_of t] <;> rfl
theorem valsM_of : ∀ (ks : List (Addr × List Key)), Vals (ks.map fun p => V.ref p.1) (ks.map fun p => Value.ref p.1)
  | [] => .nil
  | p :: ks => .cons rfl (valsM_of ks)
/-- set(xs), a list of tuples of ints and texts -/
def rSetM (K : PySem.W.Frag) (P : Program) (w : World) : List V → Hp → VK → Prop := fun xs H Q => ∃ (l : Addr) (ks : List (Addr × List Key)), xs = [V.ref l] ∧ SqL K H l (ks.map fun p => V.ref p.1) ∧ (∀ p ∈ ks, SqT K H p.1 (p.2.map kV)) ∧ ks.length < 64 ∧
  ∀ a L, H a = none → (∀ p ∈ L, p ∈ ks) → (∀ p ∈ ks, p.2 ∈ L.map (·.2)) → Q (.ref a) (upd H a (SetMO P w a L))
theorem cr_setM (hc : X.calm = true) (hu : X.A.units + 65 < cLine) : CallR X (.type "set") (rSetM X.K X.prog X.w) := by
  intro pins s σ H xs us Q I r h
  obtain ⟨l, ks, rfl, hl, hk, hf, q⟩ := h
  rw [Vals.ref1 r]
  obtain ⟨its, rv, pl, hz⟩ := I.list hl
  have hn : H s.heap.objs.size = none := I.hok.fresh (Nat.le_refl _)
  refine call_set_tupsM (P := X.prog) (w := X.w) ks (I.ok.hd hc) pl.isList (by simpa using refsM_of rv) (fun p hp => inv_isTM I (hk p hp)) hf (by omega) fun h' tk L es ep t R g k => ?_
  refine ⟨.ref s.heap.objs.size, upd H s.heap.objs.size (SetMO X.prog X.w s.heap.objs.size L), I.laid (t' := tk) k (Nat.le_refl _) (setMO_new ⟨es, ep, t, R.ob, R.rows, R.tab, R.nd, R.led, R.room, R.few⟩), rfl, q _ L hn (fun p hp => ?_) fun p hp => ?_⟩
  · exact List.mem_of_mem_take (g.sub p hp)
  · exact g.all p (by rw [List.take_length]; exact hp)
/-- sorted of it -/
def rSortedM (K : PySem.W.Frag) (P : Program) (w : World) : List V → Hp → VK → Prop := fun vs H Q => ∃ (a : Addr) (L : List (Addr × List Key)) (ys : List (List Key)), vs = [V.ref a] ∧ H a = some (SetMO P w a L) ∧ (∀ p ∈ L, SqT K H p.1 (p.2.map kV)) ∧ (∀ k, k ∈ L.map (·.2) ↔ k ∈ ys) ∧ Rv.sortOk ((Rv.nubK ys).map Rv.tupK) = true ∧
  ∀ (L' : List (Addr × List Key)) (p : Addr), (∀ q ∈ L', q ∈ L) → L'.map (fun q => Rv.tupK q.2) = Rv.srt ((Rv.nubK ys).map Rv.tupK) → H p = none → Q (.ref p) (upd H p (.lst (L'.map fun q => V.ref q.1)))
theorem cr_sortedM (hc : X.calm = true) (hu : X.A.units + 65 < cLine) : CallR X (.builtin "sorted") (rSortedM X.K X.prog X.w) := by
  intro pins s σ H vs us Q I r h
  obtain ⟨a, L, ys, rfl, ha, hk, hm, hok, q⟩ := h
  have R0 : SetM0 X.prog X.w s.heap a L := (I.hok a _ ha).1
  obtain ⟨es, ep, t, c1, c2, c3, c4, c6, c7, c8⟩ := R0
  have R : SetTRM X.prog X.w s.heap a L es ep t := ⟨c1, c2, c3, c4, fun p hp => inv_isTM I (hk p hp), c6, c7, c8⟩
  rw [Vals.ref1 r]
  refine sorted_setM R (I.ok.hd hc) hu hm hok fun s' p out c L' k g o hp hg hout hsub hfew hsrt => ?_
  have hlen : (L'.map fun q => V.ref q.1).length ≤ sizeLine := by rw [List.length_map, sizeLine_eq]; omega
  have hn : H p = none := I.hok.fresh hp
  have hv : Vals (L'.map fun q => V.ref q.1) out := by rw [hout]; exact valsM_of L'
  have J : Inv X pins σ (upd H p (.lst (L'.map fun q => V.ref q.1))) { s with heap := s'.heap, gens := s'.gens, drawn := s'.drawn, toks := s'.toks } :=
    I.call (ch := []) (Un.laid k hp hn) (I.hok.laid k hp ⟨hlen, out, c, hv, hg⟩) (by rw [g]; exact I.bare) (fun _ z => nomatch z)
  have e : s' = { s with heap := s'.heap, gens := s'.gens, drawn := s'.drawn, toks := s'.toks } := by
    cases s'
    cases s
    cases o
    rfl
  rw [e]
  exact ⟨.ref p, _, J, rfl, q L' p hsub hsrt hn⟩
end
end L2

set_option Elab.async false
set_option linter.all false
set_option maxRecDepth 100000
set_option maxHeartbeats 4000000
/-! Rv3z: list(zip(a, b)) of two lists: a new list of new pairs. -/
namespace Rv
open PySem PySem.Spec PyProof.Rows L2
theorem zl_nolen : typeLookup (.type "zip") "__len__" = pure none := am_miss_of_fast (by decide +kernel)
theorem zl_nohint : typeLookup (.type "zip") "__length_hint__" = pure none := am_miss_of_fast (by decide +kernel)
def ZHead (h : Heap) (z TI TO i1 i2 S : Addr) (i : Nat) : Prop :=
  (i = 0 ∧ IsZip h z TI TO .none ∧ ∃ a b, IsPair h TO a b) ∨ ∃ T f oT, IsZipHeld h z TI TO T f ∧ h.get? T = some oT ∧ T ≠ z ∧ T ≠ TO ∧ T ≠ i1 ∧ T ≠ i2 ∧ T ≠ S
structure ZSt (h : Heap) (z TI TO i1 i2 l1 l2 S : Addr) (xs ys : Array Value) (i : Nat) : Prop where
  head : ZHead h z TI TO i1 i2 S i
  pr : IsPair h TI (.ref i1) (.ref i2)
  it1 : h.IsListIter i1 l1 i
  it2 : h.IsListIter i2 l2 i
  ls1 : h.IsList l1 xs
  ls2 : h.IsList l2 ys
structure ZFar (z TI TO i1 i2 l1 l2 S : Addr) : Prop where
  D : ZipApart z TI TO i1 i2 l1 l2
  z : z ≠ S
  TI : TI ≠ S
  TO : TO ≠ S
  i1 : i1 ≠ S
  i2 : i2 ≠ S
  l1 : l1 ≠ S
  l2 : l2 ≠ S
theorem ZSt.keep {h h' : Heap} {z TI TO i1 i2 l1 l2 S : Addr} {xs ys : Array Value} {i : Nat} (x : ZSt h z TI TO i1 i2 l1 l2 S xs ys i) (f : ZFar z TI TO i1 i2 l1 l2 S) (hk : ∀ b o, b ≠ S → h.get? b = some o → h'.get? b = some o) : ZSt h' z TI TO i1 i2 l1 l2 S xs ys i := by
  refine ⟨?_, hk _ _ f.TI x.pr, x.it1.at fun o e => hk _ o f.i1 e, x.it2.at fun o e => hk _ o f.i2 e, x.ls1.at fun o e => hk _ o f.l1 e, x.ls2.at fun o e => hk _ o f.l2 e⟩
  rcases x.head with ⟨e, hz, a, b, hTO⟩ | ⟨T, g, oT, hz, hT, h1, h2, h3, h4, h5⟩
  · exact .inl ⟨e, hk _ _ f.z hz, a, b, hk _ _ f.TO hTO⟩
  · exact .inr ⟨T, g, oT, hk _ _ f.z hz, hk _ _ h5 hT, h1, h2, h3, h4, h5⟩
structure ZlG (xs ys : Array Value) (lo : Addr) (h : Heap) (as : List Addr) : Prop where
  rise : as.Pairwise (· < ·)
  above : ∀ a ∈ as, lo < a
  pairs : ∀ (j : Nat) (a : Addr), as[j]? = some a → ∃ x y, xs[j]? = some x ∧ ys[j]? = some y ∧ IsPair h a x y
theorem ZlG.there {xs ys : Array Value} {lo : Addr} {h : Heap} {as : List Addr} (g : ZlG xs ys lo h as) {a : Addr} (ha : a ∈ as) : a < h.objs.size := by
  obtain ⟨j, hj⟩ := List.mem_iff_getElem?.mp ha
  obtain ⟨_, _, _, _, e⟩ := g.pairs j a hj
  exact Heap.lt_size e
section
variable {prog : Program} {w : World} {A : Around} {E : Value → Shared → Prop} {s : Shared} {z TI TO i1 i2 l1 l2 S : Addr} {xs ys : Array Value}
theorem zl_item {i : Nat} {x y : Value} {Q : Option Value → Shared → Prop} (f : ZFar z TI TO i1 i2 l1 l2 S) (hst : ZSt s.heap z TI TO i1 i2 l1 l2 S xs ys i) (hS : S < s.heap.objs.size) (hx : xs[i]? = some x) (hy : ys[i]? = some y)
    (hQ : ∀ h', ZSt h' z TI TO i1 i2 l1 l2 S xs ys (i + 1) → IsPair h' s.heap.objs.size x y → h'.objs.size = s.heap.objs.size + 1 →
      (∀ c o, c ≠ z → c ≠ TO → c ≠ i1 → c ≠ i2 → s.heap.get? c = some o → h'.get? c = some o) → Q (some (.ref s.heap.objs.size)) { s with heap := h' }) :
    wpAny (model prog w) A (pyNext (.ref z)) Q E s := by
  have D := f.D
  have lt : ∀ {c o}, s.heap.get? c = some o → s.heap.objs.size ≠ c := fun e => Nat.ne_of_gt (Heap.lt_size e)
  have n1 : s.heap.objs.size ≠ i1 := by obtain ⟨_, e, _⟩ := hst.it1; exact lt e
  have n2 : s.heap.objs.size ≠ i2 := by obtain ⟨_, e, _⟩ := hst.it2; exact lt e
  rcases hst.head with ⟨rfl, hz, a, b, hTO⟩ | ⟨T, g, oT, hz, hT, h1, h2, h3, h4, h5⟩
  · refine wpAny_pyNext_zip_item D hz hst.pr hTO hst.it1 hst.it2 hst.ls1 hst.ls2 hx hy fun h' a1 a2 a3 a4 a5 a6 hk => hQ h' ⟨.inr ⟨_, false, _, a1, a5, lt hz, lt hTO, n1, n2, Nat.ne_of_gt hS⟩, ?_, a3, a4, ?_, ?_⟩ a5 a6 hk
    · exact hk _ _ D.TIz D.TITO D.TIi1 D.TIi2 hst.pr
    · exact hst.ls1.at fun o e => hk _ o D.l1z D.l1TO D.l1i1 D.l1i2 e
    · exact hst.ls2.at fun o e => hk _ o D.l2z D.l2TO D.l2i1 D.l2i2 e
  · refine wpAny_pyNext_zip_item_held D hz hT hst.pr hst.it1 hst.it2 hst.ls1 hst.ls2 hx hy fun h' a1 a3 a4 a5 a6 hk => hQ h' ⟨.inr ⟨T, true, oT, a1, hk _ _ h1 h3 h4 hT, h1, h2, h3, h4, h5⟩, ?_, a3, a4, ?_, ?_⟩ a5 a6 fun c o c1 _ c3 c4 e => hk c o c1 c3 c4 e
    · exact hk _ _ D.TIz D.TIi1 D.TIi2 hst.pr
    · exact hst.ls1.at fun o e => hk _ o D.l1z D.l1i1 D.l1i2 e
    · exact hst.ls2.at fun o e => hk _ o D.l2z D.l2i1 D.l2i2 e
theorem zl_done {i : Nat} {Q : Option Value → Shared → Prop} (hh : A.handled = none) (f : ZFar z TI TO i1 i2 l1 l2 S) (hst : ZSt s.heap z TI TO i1 i2 l1 l2 S xs ys i) (hend : xs[i]? = none ∨ ys[i]? = none)
    (hQ : ∀ h', (∀ c o, c ≠ z → c ≠ TO → c ≠ i1 → c ≠ i2 → s.heap.get? c = some o → h'.get? c = some o) → Q none { s with heap := h' }) : wpAny (model prog w) A (pyNext (.ref z)) Q E s := by
  rcases hst.head with ⟨rfl, hz, a, b, hTO⟩ | ⟨T, g, oT, hz, hT, h1, h2, h3, h4, h5⟩
  · exact wpAny_pyNext_zip_end hh f.D hz hst.pr hTO hst.it1 hst.it2 hst.ls1 hst.ls2 hend hQ
  · exact wpAny_pyNext_zip_end_held hh f.D hz hT hst.pr hst.it1 hst.it2 hst.ls1 hst.ls2 hend fun h' hk => hQ h' fun c o c1 _ c3 c4 e => hk c o c1 c3 c4 e
theorem zl_loop {R : Result → Shared → Prop} (hh : A.handled = none) (f : ZFar z TI TO i1 i2 l1 l2 S) (hzS : z < S) (hTS : TO < S) (h1S : i1 < S) (h2S : i2 < S) (hn : min xs.size ys.size ≤ sizeLine) (res : Value) {h₁ : Heap}
    (hR : ∀ h' tk acc c as, (∀ b o, b ≠ S → b ≠ z → b ≠ TO → b ≠ i1 → b ≠ i2 → h₁.get? b = some o → h'.get? b = some o) → h'.get? S = some { cls := .type "list", dict := none, data := .seq acc c, slots := #[] } → as.length = min xs.size ys.size → ZlG xs ys S h' as →
      acc.toList = as.map Value.ref → R (.ok (.ret res)) { s with heap := h', toks := tk }) :
    ∀ (k i : Nat) (h : Heap) (tk c : Nat) (acc : Array Value) (as : List Addr), min xs.size ys.size - i = k → i ≤ min xs.size ys.size → ZSt h z TI TO i1 i2 l1 l2 S xs ys i → (∀ b o, b ≠ S → b ≠ z → b ≠ TO → b ≠ i1 → b ≠ i2 → h₁.get? b = some o → h.get? b = some o) →
      h.get? S = some { cls := .type "list", dict := none, data := .seq acc c, slots := #[] } → acc.toList = as.map Value.ref → as.length = i → ZlG xs ys S h as →
      codeAny (model prog w) A (.builtin "list.extend.loop" ⟨[.ref S, .ref z, res], []⟩) R { s with heap := h, toks := tk } := by
  intro k
  induction k with
  | zero =>
    intro i h tk c acc as hk hi hst hkeep hS hacc hal hG
    have hin : i = min xs.size ys.size := by omega
    have hend : xs[i]? = none ∨ ys[i]? = none := by
      rcases Nat.le_total xs.size ys.size with q | q
      · exact .inl (Array.getElem?_eq_none (by omega))
      · exact .inr (Array.getElem?_eq_none (by omega))
    refine codeAny_builtin PySem.F.entry_extend_loop ?_
    rw [Around.under_plainId PySem.F.plain_extend_loop _]
    show wpAny _ A.in1 (pyNext (.ref z) >>= _) _ _ _
    refine wpAny_bind (zl_done (s := { s with heap := h, toks := tk }) (A := A.in1) hh f hst hend fun h' he => ?_)
    refine wpAny_pure (hR h' tk acc c as (fun b o c0 c1 c2 c3 c4 e => he b o c1 c2 c3 c4 (hkeep b o c0 c1 c2 c3 c4 e)) (he S _ f.z.symm f.TO.symm f.i1.symm f.i2.symm hS) (by omega) ⟨hG.rise, hG.above, fun j a hj => ?_⟩ hacc)
    obtain ⟨x, y, e1, e2, e3⟩ := hG.pairs j a hj
    have ha := hG.above a (List.mem_of_getElem? hj)
    exact ⟨x, y, e1, e2, he a _ (Nat.ne_of_gt (Nat.lt_trans hzS ha)) (Nat.ne_of_gt (Nat.lt_trans hTS ha)) (Nat.ne_of_gt (Nat.lt_trans h1S ha)) (Nat.ne_of_gt (Nat.lt_trans h2S ha)) e3⟩
  | succ k ih =>
    intro i h tk c acc as hk hi hst hkeep hS hacc hal hG
    have hlt : i < min xs.size ys.size := by omega
    have hx : xs[i]? = some xs[i] := Array.getElem?_eq_getElem (by omega)
    have hy : ys[i]? = some ys[i] := Array.getElem?_eq_getElem (by omega)
    have hsz : acc.size = i := by rw [← Array.length_toList, hacc, List.length_map, hal]
    refine codeAny_builtin PySem.F.entry_extend_loop ?_
    rw [Around.under_plainId PySem.F.plain_extend_loop _]
    show wpAny _ A.in1 (pyNext (.ref z) >>= _) _ _ _
    refine wpAny_bind (zl_item (s := { s with heap := h, toks := tk }) (S := S) f hst (Heap.lt_size hS) hx hy fun h' hst' ht hz hkp => ?_)
    dsimp only at ht hz hkp ⊢
    have hS' := hkp S _ f.z.symm f.TO.symm f.i1.symm f.i2.symm hS
    have up : ∀ b o, b ≠ S → h'.get? b = some o → (h'.update S (Obj.mapSeq (·.push (Value.ref h.objs.size)))).get? b = some o := fun b o hb e => (Heap.get?_update_other _ _ (Ne.symm hb)).trans e
    have hSl : S < h.objs.size := Heap.lt_size hS
    show wpAny _ A.in1 (updateSeq S (·.push (Value.ref h.objs.size)) >>= _) _ _ _
    refine wpAny_bind ?_
    refine wpAny_updateSeq hS' rfl (wpAny_pure ⟨plainId_quiet PySem.F.plain_extend_loop _, ih (i + 1) _ tk _ (acc.push (Value.ref h.objs.size)) (as ++ [h.objs.size]) (by omega) hlt (hst'.keep f up)
      (fun b o c0 c1 c2 c3 c4 e => up b o c0 (hkp b o c1 c2 c3 c4 (hkeep b o c0 c1 c2 c3 c4 e))) (Heap.get?_update_self _ hS' rfl) (by rw [Array.toList_push, hacc, List.map_append]; rfl) (by rw [List.length_append, hal]; rfl) ⟨?_, ?_, ?_⟩⟩) (by rw [hsz]; omega) (by show (acc.push (Value.ref h.objs.size)).size ≤ sizeLine + 1; rw [Array.size_push, hsz]; omega)
    · refine List.pairwise_append.mpr ⟨hG.rise, List.pairwise_singleton _ _, fun a ha b hb => ?_⟩
      rw [List.mem_singleton.mp hb]
      exact hG.there ha
    · intro a ha
      rcases List.mem_append.mp ha with ha | ha
      · exact hG.above a ha
      · rw [List.mem_singleton.mp ha]; exact hSl
    · intro j b hj
      rcases Nat.lt_trichotomy j as.length with h1 | h1 | h1
      · rw [List.getElem?_append_left h1] at hj
        obtain ⟨x, y, e1, e2, e3⟩ := hG.pairs j b hj
        have hb := hG.above b (List.mem_of_getElem? hj)
        exact ⟨x, y, e1, e2, up b _ (Nat.ne_of_gt hb) (hkp b _ (Nat.ne_of_gt (Nat.lt_trans hzS hb)) (Nat.ne_of_gt (Nat.lt_trans hTS hb)) (Nat.ne_of_gt (Nat.lt_trans h1S hb)) (Nat.ne_of_gt (Nat.lt_trans h2S hb)) e3)⟩
      · subst h1
        have hb : h.objs.size = b := by simpa using hj
        subst hb
        exact ⟨xs[i], ys[i], by rw [hal]; exact hx, by rw [hal]; exact hy, up _ _ (Nat.ne_of_gt hSl) ht⟩
      · have hnone : (as ++ [h.objs.size])[j]? = none := List.getElem?_eq_none (by rw [List.length_append, List.length_singleton]; omega)
        rw [hnone] at hj; cases hj
theorem zl_init {R : Result → Shared → Prop} (hh : A.handled = none) (f : ZFar z TI TO i1 i2 l1 l2 S) (hzS : z < S) (hTS : TO < S) (h1S : i1 < S) (h2S : i2 < S) (hn : min xs.size ys.size ≤ sizeLine) (hst : ZSt s.heap z TI TO i1 i2 l1 l2 S xs ys 0) (hz : IsZip s.heap z TI TO .none)
    (hS : s.heap.get? S = some { cls := .type "list", data := .seq #[] })
    (hR : ∀ h' tk acc c as, (∀ b o, b ≠ S → b ≠ z → b ≠ TO → b ≠ i1 → b ≠ i2 → s.heap.get? b = some o → h'.get? b = some o) → h'.get? S = some { cls := .type "list", dict := none, data := .seq acc c, slots := #[] } → as.length = min xs.size ys.size → ZlG xs ys S h' as →
      acc.toList = as.map Value.ref → R (.ok (.ret .none)) { s with heap := h', toks := tk }) :
    wpAny (model prog w) A.in1 (Builtin.«list.__init__» ⟨[.ref S, .ref z], []⟩)
      (fun fin s' => match fin with | .done f => R (.ok f) s' | .again c' => c'.quiet = true ∧ codeAny (model prog w) A c' R s') (fun e s' => R (.error e) s') s := by
  show wpAny _ _ (do let old ← Builtin.List.listItems (.ref S); Builtin.List.listUpdate (.ref S) (fun _ => #[]); letGo old.toList.reverse; Builtin.List.listExtendWith (.ref S) (.ref z) .none) _ _ s
  refine wpAny_bind ?_
  unfold Builtin.List.listItems
  refine wpAny_bind (wpAny_seqItems hS rfl (wpAny_pure ?_))
  show wpAny _ _ (updateSeq S (fun _ => #[]) >>= fun _ => letGo (#[] : Array Value).toList.reverse >>= fun _ => Builtin.List.listExtendWith (.ref S) (.ref z) .none) _ _ s
  refine wpAny_bind (wpAny_updateSeq hS rfl ?_)
  have hS₂ := Heap.get?_update_self (Obj.mapSeq (fun _ => (#[] : Array Value))) hS rfl
  have oth : ∀ b o, b ≠ S → s.heap.get? b = some o → (s.heap.update S (Obj.mapSeq (fun _ => (#[] : Array Value)))).get? b = some o :=
    fun b o hb e => (Heap.get?_update_other _ _ (Ne.symm hb)).trans e
  refine wpAny_bind (wpAny_letGo ?_)
  have hst₂ := hst.keep f oth
  have hz₂ := oth _ _ f.z hz
  have hT : ({ s with heap := s.heap.update S (Obj.mapSeq (fun _ => (#[] : Array Value))) } : Shared).TypeIs (.ref z) "zip" := ⟨_, hz₂, rfl⟩
  unfold Builtin.List.listExtendWith
  refine wpAny_bind (wpAny_typeOf hT ?_)
  have h1 : Builtin.List.listSameRef (.ref S) (.ref z) = false := by simp [Builtin.List.listSameRef, f.z.symm]
  have h2 : (Value.type "zip" == Value.type "list") = false := by decide
  have h3 : (Value.type "zip" == Value.type "tuple") = false := by decide
  simp only [h1, h2, h3, Bool.or_false, Bool.false_eq_true, if_false]
  refine wpAny_bind (wpAny_pyIter_zip hz₂ ?_)
  refine wpAny_bind (wpAny_holding ?_)
  unfold Builtin.List.listLengthHint
  refine wpAny_bind (wpAny_specialOf hT zl_nolen ?_)
  show wpAny _ A.in1 (specialOf (Value.ref z) (Str.ofString "__length_hint__") >>= _) _ _ _
  refine wpAny_bind (wpAny_specialOf hT zl_nohint ?_)
  refine wpAny_pure ?_
  show wpAny _ A.in1 (rule "list.extend.makes-room" >>= fun _ => Builtin.List.listTouch (.ref S) >>= fun _ =>
    again (.builtin "list.extend.loop" ⟨[.ref S, .ref z, .none], []⟩)) _ _ _
  refine wpAny_bind (wpAny_rule ?_)
  refine wpAny_bind ?_
  show wpAny _ A.in1 (updateSeq S (·.push .none) >>= fun _ => updateSeq S (·.pop)) _ _ _
  refine wpAny_bind (wpAny_updateSeq hS₂ rfl ?_)
  have hS₃ := Heap.get?_update_self (Obj.mapSeq (·.push Value.none)) hS₂ rfl
  refine wpAny_updateSeq (hz := by seq_fits) hS₃ rfl ?_
  have hS₄ := Heap.get?_update_self (Obj.mapSeq (·.pop)) hS₃ rfl
  have oth2 : ∀ b o, b ≠ S → s.heap.get? b = some o → (((s.heap.update S (Obj.mapSeq (fun _ => (#[] : Array Value)))).update S (Obj.mapSeq (·.push Value.none))).update S (Obj.mapSeq (·.pop))).get? b = some o :=
    fun b o hb e => (Heap.get?_update_other _ _ (Ne.symm hb)).trans ((Heap.get?_update_other _ _ (Ne.symm hb)).trans (oth b o hb e))
  refine wpAny_pure ⟨plainId_quiet PySem.F.plain_extend_loop _, ?_⟩
  exact zl_loop (s := s) (h₁ := s.heap) hh f hzS hTS h1S h2S hn .none hR (min xs.size ys.size) 0 _ _ _ #[] [] (Nat.sub_zero _) (Nat.zero_le _) (hst.keep f oth2) (fun b o c0 _ _ _ _ e => oth2 b o c0 e) hS₄ rfl rfl
    ⟨List.Pairwise.nil, (fun _ ha => nomatch ha), (fun j a hj => by simp at hj)⟩
theorem zl_call {Q : Value → Shared → Prop} (hh : A.handled = none) (f : ZipApart z TI TO i1 i2 l1 l2) (hz : IsZip s.heap z TI TO .none) (hTI : IsPair s.heap TI (.ref i1) (.ref i2)) {a b : Value} (hTO : IsPair s.heap TO a b)
    (h1 : s.heap.IsListIter i1 l1 0) (h2 : s.heap.IsListIter i2 l2 0) (hl1 : s.heap.IsList l1 xs) (hl2 : s.heap.IsList l2 ys) (hn : min xs.size ys.size ≤ sizeLine)
    (hQ : ∀ h' tk acc c as, (∀ b o, b ≠ z → b ≠ TO → b ≠ i1 → b ≠ i2 → s.heap.get? b = some o → h'.get? b = some o) → h'.get? s.heap.objs.size = some { cls := .type "list", dict := none, data := .seq acc c, slots := #[] } → as.length = min xs.size ys.size → ZlG xs ys s.heap.objs.size h' as →
      acc.toList = as.map Value.ref → Q (.ref s.heap.objs.size) { s with heap := h', toks := tk }) :
    wpAny (model prog w) A (call (.type "list") [.ref z]) Q E s := by
  refine callType_codes (Q₁ := fun obj s₁ => obj = .ref s.heap.objs.size ∧ s₁ = { s with heap := s.heap.push { cls := .type "list", data := .seq #[] } }) PySem.F.called_list (PySem.F.typeCall_list_1 _) PySem.F.entry_list_init
    (code_list_new _ ⟨rfl, rfl⟩) fun obj s₁ h₁ => ?_
  obtain ⟨rfl, rfl⟩ := h₁
  have hS : (s.heap.push { cls := .type "list", data := .seq #[] }).get? s.heap.objs.size = some { cls := .type "list", data := .seq #[] } := Heap.get?_push_size _ rfl
  have lt : ∀ {c o}, s.heap.get? c = some o → c < s.heap.objs.size := fun e => Heap.lt_size e
  have l1lt : l1 < s.heap.objs.size := by obtain ⟨_, e, _⟩ := hl1; exact lt e
  have l2lt : l2 < s.heap.objs.size := by obtain ⟨_, e, _⟩ := hl2; exact lt e
  have i1lt : i1 < s.heap.objs.size := by obtain ⟨_, e, _⟩ := h1; exact lt e
  have i2lt : i2 < s.heap.objs.size := by obtain ⟨_, e, _⟩ := h2; exact lt e
  have up : ∀ {c o}, s.heap.get? c = some o → (s.heap.push { cls := .type "list", data := .seq #[] }).get? c = some o := fun e => Heap.get?_push_of_some _ e
  refine ⟨⟨_, hS, rfl⟩, PySem.F.args_list_init_2 _ _, zl_init (S := s.heap.objs.size) (xs := xs) (ys := ys) (A := A.in1) hh ⟨f, Nat.ne_of_lt (lt hz), Nat.ne_of_lt (lt hTI), Nat.ne_of_lt (lt hTO), Nat.ne_of_lt i1lt, Nat.ne_of_lt i2lt, Nat.ne_of_lt l1lt, Nat.ne_of_lt l2lt⟩ (lt hz) (lt hTO) i1lt i2lt hn ⟨.inl ⟨rfl, up hz, _, _, up hTO⟩, up hTI, h1.at fun o e => up e, h2.at fun o e => up e, hl1.at fun o e => up e, hl2.at fun o e => up e⟩ (up hz) hS (fun h' tk acc c as hk hS' hl hG hacc => ?_)⟩
  exact ⟨rfl, hQ h' tk acc c as (fun b o c1 c2 c3 c4 e => hk b o (Nat.ne_of_lt (lt e)) c1 c2 c3 c4 (up e)) hS' hl hG hacc⟩
end
end Rv

set_option Elab.async false
set_option linter.all false
set_option maxRecDepth 100000
set_option maxHeartbeats 4000000
/-! Rv4: the small language, its evaluator, its tie to the text. -/
namespace Rv
open PySem PySem.Spec PyProof.Rows L2

inductive Rs (α : Type) where
  | ok (a : α)
  | exc (c : Str)
  | bot
def Rs.bind {α β : Type} (r : Rs α) (f : α → Rs β) : Rs β :=
  match r with
  | .ok a => f a
  | .exc c => .exc c
  | .bot => .bot
/-- nothing may be raised here -/
def Rs.nox {α : Type} (r : Rs α) : Rs α :=
  match r with
  | .exc _ => .bot
  | r => r

inductive Bop where | add | sub | mul | fdiv | mod | pow
inductive Cop where | eq | ne | lt | le | gt | ge | is | isnot | isin | notin
inductive Bi where | len | abs | int | list | tuple | all | any | sum | max | min | sorted | str
inductive Mt where | index | count
inductive Ty where | int | bool | str | tuple | list
inductive Tg where
  | nm (i : Nat)
  | tup (l : Tg)
  | nil
  | cons (a r : Tg)
inductive E where
  | var (i : Nat) | peek (i : Nat)
  | ci (i : Int) | cs (x : Str) | cb (b : Bool) | cn
  | glb (n : Nat)
  | bin (o : Bop) (a b : E) | neg (a : E)
  | cmp (o : Cop) (a b : E) | chain (o q : Cop) (a b c : E)
  | and_ (a b : E) | or_ (a b : E) | one (a : E) | not_ (a : E)
  | ite (c a b : E)
  | tup (es : E) | lst (es : E) | nil | cons (a r : E)
  | idx (a i : E) | sl (a lo hi : E) | rev (a : E)
  | bi (b : Bi) (es : E) | isi (a : E) (t : Ty)
  | call (f : Nat) (es : E) | callm (f i : Nat) (es : E)
  | lc (elt : E) (tg : Tg) (it cond : E) (own : List (Str × Nat))
  | rng1 (a : E) | rng2 (a b : E) | zip (a b : E) | enum (a : E)
  | pop (i : Nat)
  | sset (a : E) | lzip (a b : E) | meth (m : Mt) (o a : E)
  | din (neg : Bool) (k : E) (i : Nat) | dget (i : Nat) (k : E)
  | dgetd (i : Nat) (k e : E) | didx (i : Nat) (k : E) | dsort (i : Nat)
  | csort (f : Nat) (es : E) | lrng (a : E)
  | dlist (i : Nat) | dkeys (i : Nat) | ksort (i : Nat) | flat (it : E) (own : List (Str × Nat)) (j k : Nat)

structure FSem where
  mu : Bool
  fr : Bool
  ar : Nat
  f : List D → Rs (D × List D)
structure Genv where
  fn : Nat → Option FSem
  fnm : Nat → Str
  gl : Nat → Option D
  gnm : Nat → Str

def Bop.f : Bop → D → D → Option D
  | .add => addD | .sub => subD | .mul => mulD | .fdiv => fdivD | .mod => modD | .pow => powD
def Bop.op : Bop → Operator
  | .add => .Add | .sub => .Sub | .mul => .Mult | .fdiv => .FloorDiv | .mod => .Mod | .pow => .Pow
def Cop.f : Cop → D → D → Option D
  | .eq => eqD | .ne => neD | .lt => ltD | .le => leD | .gt => gtD | .ge => geD | .is => isD | .isnot => isNotD | .isin => inD | .notin => notInD
def Cop.op : Cop → CmpOp
  | .eq => .Eq | .ne => .NotEq | .lt => .Lt | .le => .LtE | .gt => .Gt | .ge => .GtE | .is => .Is | .isnot => .IsNot | .isin => .In | .notin => .NotIn
def Bi.f : Bi → List D → Option D
  | .len => lenD | .abs => absD | .int => intOf | .list => listOf | .tuple => tupOf | .all => allD | .any => anyD | .sum => sumD | .max => maxDD | .min => minDD | .sorted => sortD | .str => strOf
def Mt.nm : Mt → Str
  | .index => "index" | .count => "count"
def Mt.f (m : Mt) (o a : D) : Option D :=
  match o, a with
  | .list l, .int k => match intsD? l with
    | some ns => match m with
      | .count => some (.int (ns.count k : Nat))
      | .index => if k ∈ ns then some (.int (ns.idxOf k : Nat)) else none
    | none => none
  | _, _ => none
def Bi.nm : Bi → Str
  | .len => "len" | .abs => "abs" | .int => "int" | .list => "list" | .tuple => "tuple" | .all => "all" | .any => "any" | .sum => "sum" | .max => "max" | .min => "min" | .sorted => "sorted" | .str => "str"
def Ty.nm : Ty → String
  | .int => "int" | .bool => "bool" | .str => "str" | .tuple => "tuple" | .list => "list"
def isiD : D → Ty → Option D
  | .int _, .int => some (.bool true)
  | .bool _, .int => some (.bool true)
  | .bool _, .bool => some (.bool true)
  | .str _, .str => some (.bool true)
  | .tuple _, .tuple => some (.bool true)
  | .list _, .list => some (.bool true)
  | .dict _, _ => none
  | _, _ => some (.bool false)
def tru : D → Option Bool
  | .none => some false
  | .bool b => some b
  | .int i => some (i != 0)
  | .str x => if x.length ≤ sizeLine then some ((x.length : Int) != 0) else none
  | .list l => some (!l.isEmpty)
  | .tuple l => some (!l.isEmpty)
  | .dict _ => none
def ret1 (o : Option D) (env : En) : Rs (D × En) :=
  match o with
  | some d => .ok (d, env)
  | none => .bot
def wipeE (env : En) : List Nat → En
  | [] => env
  | v :: vs => (wipeE env vs).set v .no
def restE (env env0 : En) : List Nat → En
  | [] => env
  | v :: vs => (restE env env0 vs).set v (env0.getD v .no)
def dicAt (env : En) (i : Nat) : Option (List (List Key × D)) := match env[i]? with
  | some (.dic kvs) => some kvs
  | some (.dif kvs) => some kvs
  | _ => none
def dicOw (env : En) (i : Nat) : Option (List (List Key × D)) := match env[i]? with
  | some (.dic kvs) => some kvs
  | _ => none
def dikAt (env : En) (i : Nat) : Option (List (Key × D)) := match env[i]? with
  | some (.dik kvs) => some kvs
  | _ => none
def keyInts : List (Key × D) → Option (List Int)
  | [] => some []
  | (.inl i, _) :: r => (keyInts r).map (i :: ·)
  | (.inr _, _) :: _ => none
def lookD (kvs : List (List Key × D)) (k : List Key) : Option D := (kvs.find? fun kv => decide (kv.1 = k)).map (·.2)
def putD (kvs : List (List Key × D)) (k : List Key) (d : D) : List (List Key × D) :=
  if (lookD kvs k).isSome = true then kvs.map (fun kv => if kv.1 = k then (kv.1, d) else kv) else kvs ++ [(k, d)]
def noHeld (env : En) (vs : List Nat) : Bool := vs.all fun v => !ownsAt env v
mutual
def asgT : Tg → D → En → Option En
  | .nm i, d, env => match env[i]? with
    | some (.bor _) => none
    | some _ => some (env.set i (.pd d))
    | none => none
  | .tup l, .tuple ds, env => asgL l ds env
  | _, _, _ => none
def asgL : Tg → List D → En → Option En
  | .nil, [], env => some env
  | .cons a r, d :: ds, env => match asgT a d env with
    | some e1 => asgL r ds e1
    | none => none
  | _, _, _ => none
end
def seqOf : D → Option (List D)
  | .list l => some l
  | .tuple l => some l
  | _ => none
def itemsOf : D → Option (List D)
  | .list l => some l
  | .tuple l => some l
  | .str x => some (signsD x)
  | _ => none
/-- all items of all items -/
def flatD : List D → Option (List D)
  | [] => some []
  | d :: r => match seqOf d, flatD r with
    | some x, some y => some (x ++ y)
    | _, _ => none
def isDictD : D → Bool
  | .dict _ => true
  | _ => false
def keysD (kvs : List (List Key × D)) : List D := kvs.map fun kv => .tuple (kv.1.map kD)
def setHeld (env : En) (i : Nat) (l : List D) : En :=
  match env[i]? with
  | some (.own _) => env.set i (.own l)
  | some (.bor _) => env.set i (.bor l)
  | _ => env
def peekAt (env : En) (i : Nat) : Option D :=
  match env[i]? with
  | some (.pd d) => some d
  | some (.own l) => some (.list l)
  | some (.bor l) => some (.list l)
  | _ => none
def peekOf : E → Option Nat
  | .peek i => some i
  | _ => none
def isNil : E → Bool
  | .nil => true
  | _ => false
def two (fa fb : En → Rs (D × En)) (pa : Option Nat) (env : En) : Rs ((D × D) × En) :=
  match pa with
  | some i => if (peekAt env i).isSome then (fb env).bind fun r => match peekAt r.2 i with
      | some d => .ok ((d, r.1), r.2)
      | none => .bot
    else .bot
  | none => (fa env).bind fun r => (fb r.2).bind fun q => .ok ((r.1, q.1), q.2)
def partI (nil : Bool) (f : En → Rs (D × En)) (env : En) : Rs (Option Int × En) :=
  if nil then .ok (none, env) else (f env).bind fun r => match r.1 with
    | .int i => .ok (some i, r.2)
    | _ => .bot
def cgo (asg : D → En → Option En) (cond elt : En → Rs (D × En)) (vs : List Nat) : List D → En → List D → Rs (List D × En)
  | [], env, acc => .ok (acc, env)
  | x :: xs, env, acc => match asg x env with
    | none => .bot
    | some e1 => (cond e1).nox.bind fun r => match tru r.1 with
      | some true => (elt r.2).nox.bind fun q => cgo asg cond elt vs xs (wipeE q.2 vs) (acc ++ [q.1])
      | some false => cgo asg cond elt vs xs (wipeE r.2 vs) acc
      | none => .bot
def condF (nil : Bool) (f : En → Rs (D × En)) (env : En) : Rs (D × En) := if nil then .ok (.bool true, env) else f env
def rngD (lo hi : Int) : List D := (List.range (hi - lo).toNat).map fun k : Nat => PyData.int (lo + (k : Int))
def rngOk (i : Int) : Bool := decide (-(2 ^ 62) ≤ i) && decide (i < 2 ^ 62)

def strsD? : List D → Option (List Str)
  | [] => some []
  | .str x :: r => (strsD? r).map (x :: ·)
  | _ => none
/-- unlike texts, ascending -/
def ssetS (l : List D) (env : En) : Rs (D × En) := match strsD? l with
  | some xs => if xs.length < 4000 then .ok (.list ((sdS xs).map PyData.str), env) else .bot
  | none => .bot
def keysAll? : List D → Option (List (List Key))
  | [] => some []
  | d :: r => match keyOf d, keysAll? r with
    | some k, some ks => some (k :: ks)
    | _, _ => none
/-- unlike tuples of keys, ascending -/
def ssetM (l : List D) (env : En) : Rs (D × En) := match keysAll? l with
  | some ks => if decide (ks.length < 64) && sortOk ((nubK ks).map tupK) then .ok (.list (srt ((nubK ks).map tupK)), env) else .bot
  | none => .bot
/-- a dict's table as data, and back -/
def encD (kvs : List (List Key × D)) : List (D × D) := kvs.map fun kv => (.tuple (kv.1.map kD), kv.2)
def decD : List (D × D) → Option (List (List Key × D))
  | [] => some []
  | (k, d) :: r => match keyOf k, decD r with
    | some ks, some m => some ((ks, d) :: m)
    | _, _ => none
def ev (G : Genv) : E → En → Rs (D × En)
  | .var i, env => match env[i]? with
    | some (.pd d) => .ok (d, env)
    | some (.own l) => .ok (.list l, env.set i (.pd (.list l)))
    | _ => .bot
  | .peek i, env => match peekAt env i with
    | some d => .ok (d, env)
    | none => .bot
  | .ci i, env => .ok (.int i, env)
  | .cs x, env => .ok (.str x, env)
  | .cb b, env => .ok (.bool b, env)
  | .cn, env => .ok (.none, env)
  | .glb n, env => ret1 (G.gl n) env
  | .bin o a b, env => (two (ev G a) (ev G b) (peekOf a) env).bind fun r => ret1 (o.f r.1.1 r.1.2) r.2
  | .neg a, env => (ev G a env).bind fun r => match r.1 with
    | .int i => .ok (.int (-i), r.2)
    | _ => .bot
  | .cmp o a b, env => (two (ev G a) (ev G b) (peekOf a) env).bind fun r => ret1 (o.f r.1.1 r.1.2) r.2
  | .chain o q a b c, env => (two (ev G a) (ev G b) none env).bind fun r => match o.f r.1.1 r.1.2 with
    | some (.bool true) => (ev G c r.2).bind fun t => ret1 (q.f r.1.2 t.1) t.2
    | some (.bool false) => .ok (.bool false, r.2)
    | _ => .bot
  | .and_ a b, env => (ev G a env).bind fun r => match tru r.1 with
    | some true => ev G b r.2
    | some false => .ok r
    | none => .bot
  | .or_ a b, env => (ev G a env).bind fun r => match tru r.1 with
    | some true => .ok r
    | some false => ev G b r.2
    | none => .bot
  | .one a, env => ev G a env
  | .not_ a, env => (ev G a env).bind fun r => match tru r.1 with
    | some k => .ok (.bool (!k), r.2)
    | none => .bot
  | .ite c a b, env => (ev G c env).bind fun r => match tru r.1 with
    | some true => ev G a r.2
    | some false => ev G b r.2
    | none => .bot
  | .tup es, env => (ev G es env).bind fun r => match r.1 with
    | .list l => if l.length ≤ sizeLine then .ok (.tuple l, r.2) else .bot
    | _ => .bot
  | .lst es, env => (ev G es env).bind fun r => match r.1 with
    | .list l => if l.length ≤ sizeLine then .ok (.list l, r.2) else .bot
    | _ => .bot
  | .nil, env => .ok (.list [], env)
  | .cons a r, env => (two (ev G a) (ev G r) (peekOf a) env).bind fun q => match q.1.2 with
    | .list l => .ok (.list (q.1.1 :: l), q.2)
    | _ => .bot
  | .idx a i, env => (two (ev G a) (ev G i) (peekOf a) env).bind fun r => ret1 (idxD r.1.1 r.1.2) r.2
  | .sl a lo hi, env => match peekOf a with
    | some i => if (peekAt env i).isSome then (partI (isNil lo) (ev G lo) env).bind fun l => (partI (isNil hi) (ev G hi) l.2).bind fun h => match peekAt h.2 i with
        | some d => ret1 (slD d l.1 h.1) h.2
        | none => .bot
      else .bot
    | none => (ev G a env).bind fun r => (partI (isNil lo) (ev G lo) r.2).bind fun l => (partI (isNil hi) (ev G hi) l.2).bind fun h => ret1 (slD r.1 l.1 h.1) h.2
  | .rev a, env => (ev G a env).bind fun r => match r.1 with
    | .list l => .ok (.list l.reverse, r.2)
    | .tuple l => .ok (.tuple l.reverse, r.2)
    | _ => .bot
  | .bi b es, env => (ev G es env).bind fun r => match r.1 with
    | .list l => ret1 (b.f l) r.2
    | _ => .bot
  | .isi a t, env => (ev G a env).bind fun r => ret1 (isiD r.1 t) r.2
  | .call f es, env => (ev G es env).bind fun r => match r.1, G.fn f with
    | .list l, some fs => if fs.mu || !(l.length == fs.ar) then .bot else (fs.f l).bind fun q => if fs.fr && isDictD q.1 then .bot else .ok (q.1, r.2)
    | _, _ => .bot
  | .lrng a, env => (ev G a env).bind fun r => match r.1 with
    | .int i => if rngOk i && decide (i ≤ 16777216) then .ok (.list (rngD 0 i), r.2) else .bot
    | _ => .bot
  | .csort f es, env => (ev G es env).bind fun r => match r.1, G.fn f with
    | .list l, some fs => if fs.mu || !(l.length == fs.ar) || !fs.fr then .bot else (fs.f l).bind fun q => match q.1 with
      | .dict kvs => match decD kvs with
        | some m => ret1 (sortD [.list (keysD m)]) r.2
        | none => .bot
      | _ => .bot
    | _, _ => .bot
  | .callm f i es, env => if (heldAt env i).isSome then (ev G es env).bind fun r => match r.1, G.fn f, heldAt r.2 i with
    | .list l, some fs, some c => if fs.mu && (l.length + 1 == fs.ar) then (fs.f (.list c :: l)).bind fun q => if fs.fr && isDictD q.1 then .bot else .ok (q.1, setHeld r.2 i q.2) else .bot
    | _, _, _ => .bot
    else .bot
  | .lc elt tg it cond own, env => (ev G it env).bind fun r => match itemsOf r.1 with
    | some l => if noHeld r.2 (own.map (·.2)) && decide (l.length ≤ sizeLine) then
        (cgo (asgT tg) (condF (isNil cond) (ev G cond)) (ev G elt) (own.map (·.2)) l (wipeE r.2 (own.map (·.2))) []).bind fun q => .ok (.list q.1, restE q.2 r.2 (own.map (·.2)))
      else .bot
    | none => .bot
  | .rng1 a, env => (ev G a env).bind fun r => match r.1 with
    | .int i => if rngOk i then .ok (.list (rngD 0 i), r.2) else .bot
    | _ => .bot
  | .rng2 a b, env => (two (ev G a) (ev G b) none env).bind fun r => match r.1.1, r.1.2 with
    | .int i, .int j => if rngOk i && rngOk j then .ok (.list (rngD i j), r.2) else .bot
    | _, _ => .bot
  | .zip a b, env => (two (ev G a) (ev G b) none env).bind fun r => match r.1.1, r.1.2 with
    | .list x, .list y => .ok (.list (List.zipWith (fun d e => PyData.tuple [d, e]) x y), r.2)
    | .tuple x, .tuple y => .ok (.list (List.zipWith (fun d e => PyData.tuple [d, e]) x y), r.2)
    | _, _ => .bot
  | .enum a, env => (ev G a env).bind fun r => match seqOf r.1 with
    | some x => .ok (.list (List.zipWith (fun (k : Nat) e => PyData.tuple [.int (k : Int), e]) (List.range x.length) x), r.2)
    | none => .bot
  | .pop i, env => match heldAt env i with
    | some l => match l.getLast? with
      | some d => .ok (d, setHeld env i l.dropLast)
      | none => .bot
    | none => .bot
  | .sset a, env => (ev G a env).bind fun r => match r.1 with
    | .list l => match intsD? l with
      | some ns => if ns.length < 4000 ∧ (sdI ns).length < 64 then .ok (.list ((sdI ns).map PyData.int), r.2) else .bot
      | none => if (strsD? l).isSome then ssetS l r.2 else ssetM l r.2
    | .tuple l => ssetS l r.2
    | _ => .bot
  | .lzip a b, env => (two (ev G a) (ev G b) none env).bind fun r => match r.1.1, r.1.2 with
    | .list x, .list y => .ok (.list (List.zipWith (fun d e => PyData.tuple [d, e]) x y), r.2)
    | _, _ => .bot
  | .din neg k i, env => (ev G k env).bind fun r => match keyOf r.1, dicAt r.2 i with
    | some ks, some kvs => .ok (.bool (if neg then !(lookD kvs ks).isSome else (lookD kvs ks).isSome), r.2)
    | _, _ => .bot
  | .dget i k, env => if (dicAt env i).isSome then (ev G k env).bind fun r => match keyOf r.1, dicAt r.2 i with
    | some ks, some kvs => .ok ((lookD kvs ks).getD .none, r.2)
    | _, _ => .bot
    else .bot
  | .dlist i, env => match dicAt env i with
    | some kvs => if kvs.length ≤ sizeLine then .ok (.list (keysD kvs), env) else .bot
    | none => .bot
  | .dkeys i, env => match dicAt env i with
    | some kvs => .ok (.list (keysD kvs), env.set i (.dif kvs))
    | none => .bot
  | .dgetd i k e, env => if (dicAt env i).isSome then (ev G k env).bind fun r => (ev G e r.2).bind fun q => match keyOf r.1, dicAt q.2 i with
    | some ks, some kvs => .ok ((lookD kvs ks).getD q.1, q.2)
    | _, _ => .bot
    else .bot
  | .didx i k, env => if (dicAt env i).isSome then (ev G k env).bind fun r => match keyOf r.1, dicAt r.2 i with
    | some ks, some kvs => ret1 (lookD kvs ks) r.2
    | _, _ => .bot
    else .bot
  | .dsort i, env => match dicAt env i with
    | some kvs => ret1 (sortD [.list (keysD kvs)]) env
    | none => .bot
  | .ksort i, env => match dikAt env i with
    | some kvs => match keyInts kvs with
      | some ks => if decide ks.Nodup && decide (ks.length < 64) then .ok (.list ((sdI ks).map PyData.int), env) else .bot
      | none => .bot
    | none => .bot
  | .flat it own j k, env => (ev G it env).bind fun r => match itemsOf r.1 with
    | some l => match flatD l with
      | some m => if (noHeld r.2 (own.map (·.2)) && decide (m.length ≤ sizeLine)) && (decide (j < r.2.length) && decide (k < r.2.length)) then .ok (.list m, r.2) else .bot
      | none => .bot
    | none => .bot
  | .meth m o a, env => match peekOf o with
    | some i => match peekAt env i with
      | some (.list _) => (ev G a env).bind fun r => match peekAt r.2 i with
        | some d => ret1 (m.f d r.1) r.2
        | none => .bot
      | _ => .bot
    | none => (ev G o env).bind fun q => match q.1 with
      | .list l => (ev G a q.2).bind fun r => ret1 (m.f (.list l) r.1) r.2
      | _ => .bot

/-- a list that is new: its address is not known to anybody -/
def isFresh (G : Genv) : E → Bool
  | .bin _ _ _ => true
  | .lst _ => true
  | .sl _ _ _ => true
  | .rev _ => true
  | .bi _ _ => true
  | .lc _ _ _ _ _ => true
  | .sset _ => true
  | .lzip _ _ => true
  | .dlist _ => true
  | .flat _ _ _ _ => true
  | .ksort _ => true
  | .dsort _ => true
  | .csort _ _ => true
  | .lrng _ => true
  | .call f _ => match G.fn f with | some fs => fs.fr | none => false
  | .callm f _ _ => match G.fn f with | some fs => fs.fr | none => false
  | _ => false

/-! ### the tie to the text -/
def visB (sc : Scope) (x : Str) : Bool := match sc.names.lookup x with
  | some .local => true
  | some .cell => true
  | some .free => true
  | _ => false
def glB (sc : Scope) (x : Str) : Bool := match sc.names.lookup x with
  | some .globalImplicit => true
  | _ => false
def locB (raw : Scope) (x : Str) : Bool := match raw.names.lookup x with
  | some .local => true
  | some .cell => true
  | _ => false
def dbg (x : Str) : Bool := x == ("__debug__" : Str) || x == ("__classdict__" : Str)
def nmB (N : List Str) (i : Nat) (x : Str) : Bool := (N[i]? == some x) && !dbg x
def isName (e : PySem.Expr) (x : Str) : Bool := match e with
  | .Name y _ => y == x
  | _ => false
mutual
def okG (N : List Str) (raw : Scope) : Tg → PySem.Expr → Bool
  | .nm i, .Name x _ => nmB N i x && locB raw x
  | .tup l, .Tuple es _ _ => okGs N raw l es
  | _, _ => false
def okGs (N : List Str) (raw : Scope) : Tg → List PySem.Expr → Bool
  | .nil, [] => true
  | .cons a r, e :: es => okG N raw a e && okGs N raw r es
  | _, _ => false
end
def tgIn (vs : List Nat) : Tg → Bool
  | .nm i => vs.contains i
  | .tup l => tgIn vs l
  | .nil => true
  | .cons a r => tgIn vs a && tgIn vs r
def tgNames : Tg → Nat
  | .nm _ => 1
  | .tup l => tgNames l
  | .nil => 0
  | .cons a r => tgNames a + tgNames r
def constB (c : Const) : E → Bool
  | .ci i => match c with | .int j => i == j | _ => false
  | .cs x => match c with | .str y => x == y | _ => false
  | .cb b => match c with | .bool d => b == d | _ => false
  | .cn => match c with | .none => true | _ => false
  | _ => false
/-- what is asked: a value, an operand (a held list may be looked at), what is walked -/
inductive Md where | pl | pk | it
inductive Ar where
  | e (x : PySem.Expr)
  | l (xs : List PySem.Expr)
def optB (nil : Bool) (f : Ar → Bool) : Option PySem.Expr → Bool
  | none => nil
  | some e => !nil && f (.e e)
def ifsB (nil : Bool) (f : Ar → Bool) : List PySem.Expr → Bool
  | [] => nil
  | [e] => !nil && f (.e e)
  | _ => false
def plainIx : PySem.Expr → Bool
  | .Name _ _ => true
  | .Constant _ _ _ => true
  | .BinOp _ _ _ _ => true
  | .UnaryOp _ _ _ => true
  | .Call _ _ _ _ => true
  | .Subscript _ _ _ => true
  | _ => false
def Md.isPk : Md → Bool
  | .pk => true
  | _ => false
def Md.isIt : Md → Bool
  | .it => true
  | _ => false
def itTg (it : E) (tg : Tg) : Bool := match it with
  | .zip _ _ => (match tg with | .tup _ => true | _ => false)
  | .enum _ => (match tg with | .tup _ => true | _ => false)
  | _ => true
def notSetB : PySem.Expr → Bool
  | .Set _ _ _ => false
  | _ => true
section
variable (N : List Str) (G : Genv) (sc : Scope) (md : Md) (f1 f2 f3 : Ar → Bool) (g1 g2 g3 : Scope → Ar → Bool)
def kVar (i : Nat) : Ar → Bool
  | .e (.Name x _) => nmB N i x && visB sc x
  | _ => false
def kConst (m : E) : Ar → Bool
  | .e (.Constant c _ _) => constB c m
  | _ => false
def kGlb (n : Nat) : Ar → Bool
  | .e (.Name x _) => (G.gnm n == x) && glB sc x && !dbg x
  | _ => false
def kBin (o : Bop) : Ar → Bool
  | .e (.BinOp l op r _) => (o.op == op) && f1 (.e l) && f2 (.e r)
  | _ => false
def kNeg : Ar → Bool
  | .e (.UnaryOp .USub x _) => f1 (.e x)
  | _ => false
def kCmp (o : Cop) : Ar → Bool
  | .e (.Compare l [op] [r] _) => (o.op == op) && !(behindInMarks op r) && f1 (.e l) && f2 (.e r)
  | _ => false
def kChain (o q : Cop) : Ar → Bool
  | .e (.Compare l [op, oq] [m, r] _) => (o.op == op) && (q.op == oq) && !(behindInMarks op m) && !(behindInMarks oq r) && f1 (.e l) && f2 (.e m) && f3 (.e r)
  | _ => false
def kAnd : Ar → Bool
  | .e (.BoolOp .And (x :: y :: r) p) => f1 (.e x) && f2 (.e (.BoolOp .And (y :: r) p))
  | _ => false
def kOr : Ar → Bool
  | .e (.BoolOp .Or (x :: y :: r) p) => f1 (.e x) && f2 (.e (.BoolOp .Or (y :: r) p))
  | _ => false
def kOne : Ar → Bool
  | .e (.BoolOp _ [x] _) => f1 (.e x)
  | _ => false
def kNot : Ar → Bool
  | .e (.UnaryOp .Not x _) => f1 (.e x)
  | _ => false
def kIte : Ar → Bool
  | .e (.IfExp t x y _) => f1 (.e t) && f2 (.e x) && f3 (.e y)
  | _ => false
def kTup : Ar → Bool
  | .e (.Tuple xs _ _) => f1 (.l xs)
  | _ => false
def kLst : Ar → Bool
  | .e (.List xs _) => f1 (.l xs)
  | _ => false
def kNil : Ar → Bool
  | .l [] => true
  | _ => false
def starred : PySem.Expr → Bool
  | .Starred _ _ => true
  | _ => false
def kCons : Ar → Bool
  | .l (x :: xs) => !starred x && f1 (.e x) && f2 (.l xs)
  | _ => false
def kIdx : Ar → Bool
  | .e (.Subscript x ix _) => plainIx ix && f1 (.e x) && f2 (.e ix)
  | _ => false
def kSl (n1 n2 : Bool) : Ar → Bool
  | .e (.Subscript x (.Slice l h none _) _) => f1 (.e x) && optB n1 f2 l && optB n2 f3 h
  | _ => false
def kRev : Ar → Bool
  | .e (.Subscript x (.Slice none none (some (.UnaryOp .USub (.Constant (.int 1) _ _) _)) _) _) => f1 (.e x)
  | _ => false
def kBi (b : Bi) : Ar → Bool
  | .e (.Call (.Name f _) (x :: xs) [] _) => (b.nm == f) && glB sc f && f1 (.l (x :: xs))
  | _ => false
def kIsi (t : Ty) : Ar → Bool
  | .e (.Call (.Name f _) [x, .Name ty _] [] _) => (f == ("isinstance" : Str)) && glB sc f && (ty == Str.ofString t.nm) && glB sc ty && !starred x && f1 (.e x)
  | _ => false
def kCall (f : Nat) : Ar → Bool
  | .e (.Call (.Name x _) xs [] _) => (G.fn f).isSome && (G.fnm f == x) && glB sc x && !dbg x && f1 (.l xs)
  | _ => false
def kLrng : Ar → Bool
  | .e (.Call (.Name f _) [.Call (.Name g _) [x] [] _] [] _) => (f == ("list" : Str)) && glB sc f && (g == ("range" : Str)) && glB sc g && !starred x && f1 (.e x)
  | _ => false
def kCsort (f : Nat) : Ar → Bool
  | .e (.Call (.Name s _) [.Call (.Name x _) (y :: ys) [] _] [] _) => (s == ("sorted" : Str)) && glB sc s && (G.fn f).isSome && (G.fnm f == x) && glB sc x && !dbg x && f1 (.l (y :: ys))
  | _ => false
def kCallm (f i : Nat) : Ar → Bool
  | .e (.Call (.Name x _) (.Name y _ :: xs) [] _) => (G.fn f).isSome && (G.fnm f == x) && glB sc x && !dbg x && nmB N i y && visB sc y && f1 (.l xs)
  | _ => false
def kLc (tg : Tg) (tt nc : Bool) (own : List (Str × Nat)) : Ar → Bool
  | .e (.ListComp e [⟨t, i, ifs, as⟩] scope _) => (as == 0) && blkC N sc scope own && tt && notSetB i && tgIn (own.map (·.2)) tg && okG N scope tg t && f1 (.e i) && ifsB nc (g2 (relS scope sc)) ifs && g3 (relS scope sc) (.e e)
  | _ => false
def kFlat (j k : Nat) (tt : Bool) (own : List (Str × Nat)) : Ar → Bool
  | .e (.ListComp (.Name z _) [⟨.Name x _, i, [], a0⟩, ⟨.Name y _, .Name x2 _, [], a1⟩] scope _) => (a0 == 0) && (a1 == 0) && (z == y) && (x2 == x) && blkC N sc scope own && tt && notSetB i && ((own.map (·.2)).contains j && (own.map (·.2)).contains k && (j != k)) && (nmB N j x && locB scope x && visB (relS scope sc) x) && (nmB N k y && locB scope y && visB (relS scope sc) y) && f1 (.e i)
  | _ => false
def kKsort (i : Nat) : Ar → Bool
  | .e (.Call (.Name f _) [.Name x _] [] _) => (f == ("sorted" : Str)) && glB sc f && nmB N i x && visB sc x
  | _ => false
def kDlist (i : Nat) : Ar → Bool
  | .e (.Call (.Name f _) [.Name x _] [] _) => (f == ("list" : Str)) && glB sc f && nmB N i x && visB sc x
  | _ => false
def kKeys (i : Nat) (x : Ar) : Bool := md.isIt && kVar N sc i x
def kPop (i : Nat) : Ar → Bool
  | .e (.Call (.Attribute (.Name x _) m ap) [] [] cp) => nmB N i x && visB sc x && (m == ("pop" : Str)) && (ap.endLine == cp.line)
  | _ => false
def kSset : Ar → Bool
  | .e (.Call (.Name f _) [.Call (.Name g _) [x] [] _] [] _) => (f == ("sorted" : Str)) && glB sc f && (g == ("set" : Str)) && glB sc g && !starred x && f1 (.e x)
  | _ => false
def kLzip : Ar → Bool
  | .e (.Call (.Name f _) [.Call (.Name g _) [x, y] [] _] [] _) => (f == ("list" : Str)) && glB sc f && (g == ("zip" : Str)) && glB sc g && !starred x && !starred y && f1 (.e x) && f2 (.e y)
  | _ => false
def plainBase : PySem.Expr → Bool
  | .Name _ _ => true
  | .Call _ (_ :: _) _ _ => true
  | _ => false
def kMeth (m : Mt) : Ar → Bool
  | .e (.Call (.Attribute x nm ap) [v] [] cp) => (m.nm == nm) && (ap.endLine == cp.line) && plainBase x && !starred v && f1 (.e x) && f2 (.e v)
  | _ => false
def kDin (neg : Bool) (i : Nat) : Ar → Bool
  | .e (.Compare l [op] [.Name x _] _) => ((if neg then CmpOp.NotIn else CmpOp.In) == op) && nmB N i x && visB sc x && f1 (.e l)
  | _ => false
def kDget (i : Nat) : Ar → Bool
  | .e (.Call (.Attribute (.Name x _) m ap) [v] [] cp) => (m == ("get" : Str)) && nmB N i x && visB sc x && (ap.endLine == cp.line) && !starred v && f1 (.e v)
  | _ => false
def kDgetd (i : Nat) : Ar → Bool
  | .e (.Call (.Attribute (.Name x _) m ap) [v, w] [] cp) => (m == ("get" : Str)) && nmB N i x && visB sc x && (ap.endLine == cp.line) && !starred v && !starred w && f1 (.e v) && f2 (.e w)
  | _ => false
def kDidx (i : Nat) : Ar → Bool
  | .e (.Subscript (.Name x _) ix _) => plainIx ix && nmB N i x && visB sc x && f1 (.e ix)
  | _ => false
def kFn1 (nm : Str) : Ar → Bool
  | .e (.Call (.Name f _) [x] [] _) => md.isIt && (f == nm) && glB sc f && !starred x && f1 (.e x)
  | _ => false
def kFn2 (nm : Str) : Ar → Bool
  | .e (.Call (.Name f _) [x, y] [] _) => md.isIt && (f == nm) && glB sc f && !starred x && !starred y && f1 (.e x) && f2 (.e y)
  | _ => false
end
def okE (G : Genv) (N : List Str) : E → Md → Scope → Ar → Bool
  | .var i, _, sc, x => kVar N sc i x
  | .peek i, md, sc, x => md.isPk && kVar N sc i x
  | .ci i, _, _, x => kConst (.ci i) x
  | .cs i, _, _, x => kConst (.cs i) x
  | .cb i, _, _, x => kConst (.cb i) x
  | .cn, _, _, x => kConst .cn x
  | .glb n, _, sc, x => kGlb G sc n x
  | .bin o a b, _, sc, x => kBin (okE G N a .pk sc) (okE G N b .pk sc) o x
  | .neg a, _, sc, x => kNeg (okE G N a .pl sc) x
  | .cmp o a b, _, sc, x => kCmp (okE G N a .pk sc) (okE G N b .pk sc) o x
  | .chain o q a b c, _, sc, x => kChain (okE G N a .pl sc) (okE G N b .pl sc) (okE G N c .pl sc) o q x
  | .and_ a b, _, sc, x => kAnd (okE G N a .pl sc) (okE G N b .pl sc) x
  | .or_ a b, _, sc, x => kOr (okE G N a .pl sc) (okE G N b .pl sc) x
  | .one a, _, sc, x => kOne (okE G N a .pl sc) x
  | .not_ a, _, sc, x => kNot (okE G N a .pl sc) x
  | .ite c a b, _, sc, x => kIte (okE G N c .pl sc) (okE G N a .pl sc) (okE G N b .pl sc) x
  | .tup es, _, sc, x => kTup (okE G N es .pl sc) x
  | .lst es, _, sc, x => kLst (okE G N es .pl sc) x
  | .nil, _, _, x => kNil x
  | .cons a r, md, sc, x => kCons (okE G N a md sc) (okE G N r md sc) x
  | .idx a i, _, sc, x => kIdx (okE G N a .pk sc) (okE G N i .pl sc) x
  | .sl a lo hi, _, sc, x => kSl (okE G N a .pk sc) (okE G N lo .pl sc) (okE G N hi .pl sc) (isNil lo) (isNil hi) x
  | .rev a, _, sc, x => kRev (okE G N a .pk sc) x
  | .bi b es, _, sc, x => kBi sc (okE G N es .pk sc) b x
  | .isi a t, _, sc, x => kIsi sc (okE G N a .pl sc) t x
  | .call f es, _, sc, x => kCall G sc (okE G N es .pl sc) f x
  | .lrng a, _, sc, x => kLrng sc (okE G N a .pl sc) x
  | .csort f es, _, sc, x => kCsort G sc (okE G N es .pl sc) f x
  | .callm f i es, _, sc, x => kCallm N G sc (okE G N es .pl sc) f i x
  | .lc elt tg it cond own, _, sc, x => kLc N sc (okE G N it .it sc) (okE G N cond .pl) (okE G N elt .pl) tg (itTg it tg) (isNil cond) own x
  | .pop i, _, sc, x => kPop N sc i x
  | .sset a, _, sc, x => kSset sc (okE G N a .pl sc) x
  | .lzip a b, _, sc, x => kLzip sc (okE G N a .pl sc) (okE G N b .pl sc) x
  | .meth m o a, _, sc, x => kMeth (okE G N o .pk sc) (okE G N a .pl sc) m x
  | .din neg k i, _, sc, x => kDin N sc (okE G N k .pl sc) neg i x
  | .dget i k, _, sc, x => kDget N sc (okE G N k .pl sc) i x
  | .dlist i, _, sc, x => kDlist N sc i x
  | .dkeys i, md, sc, x => kKeys N sc md i x
  | .dgetd i k e, _, sc, x => kDgetd N sc (okE G N k .pl sc) (okE G N e .pl sc) i x
  | .didx i k, _, sc, x => kDidx N sc (okE G N k .pl sc) i x
  | .dsort i, _, sc, x => kKsort N sc i x
  | .ksort i, _, sc, x => kKsort N sc i x
  | .flat it own j k, _, sc, x => kFlat N sc (okE G N it .it sc) j k (itTg it (.nm j)) own x
  | .rng1 a, md, sc, x => kFn1 sc md (okE G N a .pl sc) "range" x
  | .rng2 a b, md, sc, x => kFn2 sc md (okE G N a .pl sc) (okE G N b .pl sc) "range" x
  | .zip a b, md, sc, x => kFn2 sc md (okE G N a .pl sc) (okE G N b .pl sc) "zip" x
  | .enum a, md, sc, x => kFn1 sc md (okE G N a .pl sc) "enumerate" x
end Rv

set_option Elab.async false
set_option linter.all false
set_option maxRecDepth 100000
set_option maxHeartbeats 4000000
/-! Rv5: what the evaluator says is what the text does: expressions. -/
namespace Rv
open PySem PySem.Spec PyProof.Rows L2

/-! ### promises of defs -/
structure CStep (mu : Option Addr) (F H F' H' : Hp) : Prop where
  sub : Same F' H'
  keep : ∀ b o, H b = some o → mu ≠ some b → H' b = some o
  kf : ∀ b, H b ≠ none → F' b = F b
  there : ∀ b, H b ≠ none → H' b ≠ none
def hsPm (K : PySem.W.Frag) (hs : List Key → Int) : Pm := ⟨K, fun _ => none, fun _ => none, none, hs⟩
theorem keysOf_kD : ∀ ks : List Key, keysOf (ks.map kD) = some ks
  | [] => rfl
  | .inl i :: r => by rw [List.map_cons]; show (keysOf (r.map kD)).map _ = _; rw [keysOf_kD r]; rfl
  | .inr x :: r => by rw [List.map_cons]; show (keysOf (r.map kD)).map _ = _; rw [keysOf_kD r]; rfl
theorem decD_encD : ∀ kvs : List (List Key × D), decD (encD kvs) = some kvs
  | [] => rfl
  | (k, d) :: r => by
    show (match keyOf (.tuple (k.map kD)), decD (encD r) with | some ks, some m => some ((ks, d) :: m) | _, _ => none) = _
    rw [show keyOf (.tuple (k.map kD)) = some k from keysOf_kD k, decD_encD r]
def ResF (K : PySem.W.Frag) (hs : List Key → Int) (fr : Bool) (H F' H' : Hp) (v : V) (d : D) : Prop :=
  match fr with
  | false => Rp K F' v d
  | true => match d with
    | .list l => ∃ a xs, v = .ref a ∧ H' a = some (.lst xs) ∧ F' a = none ∧ H a = none ∧ RpAll K F' xs l
    | .dict l => ∃ a kvs, v = .ref a ∧ decD l = some kvs ∧ F' a = none ∧ H a = none ∧ DicIs (hsPm K hs) F' a (H' a) kvs
    | _ => Rp K F' v d
/-- what is given: the data, or (the first one, where it is changed) a held list -/
def ArgsOk (K : PySem.W.Frag) (mu : Bool) (F H : Hp) (vs : List V) (ds : List D) (ma : Option Addr) : Prop :=
  match mu with
  | false => ma = none ∧ RpAll K F vs ds
  | true => ∃ a xs l ws es, ma = some a ∧ vs = .ref a :: ws ∧ ds = .list l :: es ∧ H a = some (.lst xs) ∧ F a = none ∧ RpAll K F xs l ∧ RpAll K F ws es
def MutOk (K : PySem.W.Frag) (ma : Option Addr) (F' H' : Hp) (l : List D) : Prop :=
  match ma with
  | none => True
  | some a => ∃ xs, H' a = some (.lst xs) ∧ RpAll K F' xs l
def spH (K : PySem.W.Frag) (hs : List Key → Int) (cl : Str → Value) (fs : FSem) : Sp := fun vs H Q E => ∃ F ds ma, Same F H ∧ vs.length = fs.ar ∧ ArgsOk K fs.mu F H vs ds ma ∧
  match fs.f ds with
  | .ok (r, l) => ∀ v F' H', CStep ma F H F' H' → MutOk K ma F' H' l → ResF K hs fs.fr H F' H' v r → Q v H'
  | .exc c => ∀ F' H', CStep ma F H F' H' → E (cl c) none H'
  | .bot => False
def spOf (K : PySem.W.Frag) (cl : Str → Value) (fs : FSem) : Sp := spH K (fun _ => 0) cl fs
theorem spOf_eq {K : PySem.W.Frag} {cl : Str → Value} {fs : FSem} (hs : List Key → Int) (h : fs.fr = false) : spH K hs cl fs = spOf K cl fs := by
  unfold spOf spH
  rw [h]; rfl

def bltNames : List Str := ["len", "abs", "int", "list", "tuple", "all", "any", "sum", "max", "min", "isinstance", "bool", "str", "range", "zip", "enumerate", "sorted", "set", "dict"]

structure CallOk (K : PySem.W.Frag) (cl : Str → Value) (CX : CXT) (X : Cx) (nm : Str) (fs : FSem) : Prop where
  ex : ∃ (f : Addr) (fd : FuncData) (ps : List Str) (k : Nat), FnOk X.prog X.w X.K X.mg X.base CX k f fd ps (spH K (PySem.tupleKind (mixKind X.prog X.w)).hash cl fs) ∧ Room k X.A ∧ X.mg nm = some (.ref f) ∧ PySem.W.keepIn X.K (.ref f) = true ∧ Binds X.K fd ps []
structure Cxt (p : Pm) (G : Genv) (cl : Str → Value) (CX : CXT) (Ex : XK) (sc : Scope) (X : Cx) : Prop where
  k : X.K = p.K
  calm : X.calm = true
  nd : X.N.Nodup
  sc : X.env.scope = sc
  un : X.A.units + 65 < cLine
  glb : ∀ n d, G.gl n = some d → ∃ u v, X.mg (G.gnm n) = some u ∧ RelV v u ∧ ∀ F, Rp p.K F v d
  blt : ∀ x ∈ bltNames, X.mg x = none
  fns : ∀ f fs, G.fn f = some fs → CallOk p.K cl CX X (G.fnm f) fs
  pass : Passes CX X Ex
  kind : X.env.scope.kind = .function
  cx0 : ∀ st H s e s', ¬ CX st H s (fun _ _ _ => False) e s'
  hs : p.hs = (PySem.tupleKind (mixKind X.prog X.w)).hash

/-! ### readings by the evaluator -/
def Po {α : Type} (p : Pm) (cl : Str → Value) (Ex : XK) (env : En) (σ : L2.St) (F H : Hp) (r : Rs (α × En)) (k : α → En → Hp → Hp → Prop) : Prop :=
  match r with
  | .ok (a, env') => ∀ F' H', Rel p env' σ F' H' → Step env σ F H env' F' H' → k a env' F' H'
  | .exc c => ∀ F' H', HRel p F' H' → Ex (cl c) none H'
  | .bot => False
section
variable {p : Pm} {cl : Str → Value} {Ex : XK} {env : En} {σ : L2.St} {F H : Hp} {α β : Type}
theorem Po.imp {r : Rs (α × En)} {k k' : α → En → Hp → Hp → Prop} (h : Po p cl Ex env σ F H r k) (hk : ∀ a env' F' H', Rel p env' σ F' H' → Step env σ F H env' F' H' → k a env' F' H' → k' a env' F' H') : Po p cl Ex env σ F H r k' := by
  cases r with
  | ok q => obtain ⟨a, env'⟩ := q; exact fun F' H' r s => hk a env' F' H' r s (h F' H' r s)
  | exc c => exact h
  | bot => exact h
theorem Po.bind {r : Rs (α × En)} {f : α × En → Rs (β × En)} {k : β → En → Hp → Hp → Prop} (h : Po p cl Ex env σ F H (r.bind f) k) :
    Po p cl Ex env σ F H r (fun a env1 F1 H1 => Po p cl Ex env1 σ F1 H1 (f (a, env1)) fun b env2 F2 H2 => Step env σ F H env2 F2 H2 → k b env2 F2 H2) := by
  cases r with
  | ok q =>
    obtain ⟨a, env1⟩ := q
    intro F1 H1 r1 s1
    show Po p cl Ex env1 σ F1 H1 (f (a, env1)) _
    have h : Po p cl Ex env σ F H (f (a, env1)) k := h
    cases e : f (a, env1) with
    | ok q2 =>
      obtain ⟨b, env2⟩ := q2
      rw [e] at h
      exact fun F2 H2 r2 s2 s3 => h F2 H2 r2 s3
    | exc c => rw [e] at h; exact h
    | bot => rw [e] at h; exact h
  | exc c => exact h
  | bot => exact h
/-- .. where the steps are put together -/
theorem Po.bind' {r : Rs (α × En)} {f : α × En → Rs (β × En)} {k : β → En → Hp → Hp → Prop} (h : Po p cl Ex env σ F H (r.bind f) k) :
    Po p cl Ex env σ F H r (fun a env1 F1 H1 => Po p cl Ex env1 σ F1 H1 (f (a, env1)) k) := by
  refine h.bind.imp fun a env1 F1 H1 r1 s1 q => q.imp fun b env2 F2 H2 r2 s2 q2 => q2 (s1.trans s2)
theorem Po.now {a : α} {env' : En} {k : α → En → Hp → Hp → Prop} (h : Po p cl Ex env σ F H (.ok (a, env')) k) (r : Rel p env' σ F H) (s : Step env σ F H env' F H) : k a env' F H := h F H r s
end

def Fresh (p : Pm) (env : En) (σ : L2.St) (Hs F H : Hp) (v : V) (l : List D) : Prop :=
  ∃ a xs, v = .ref a ∧ H a = some (.lst xs) ∧ F a = none ∧ p.H0 a = none ∧ Hs a = none ∧ ¬ Own env σ a ∧ RpAll p.K F xs l
def ResOk (fr : Bool) (p : Pm) (env : En) (σ : L2.St) (Hs F H : Hp) (v : V) (d : D) : Prop :=
  match fr, d with
  | true, .list l => Fresh p env σ Hs F H v l
  | _, _ => Rp p.K F v d
/-- an expression, its answer as it comes -/
def TB (p : Pm) (cl : Str → Value) (Ex : XK) (G : Genv) (m : E) : TE := fun σ H Q => ∃ F env, Rel p env σ F H ∧ Po p cl Ex env σ F H (ev G m env) fun d env' F' H' => ∀ v, ResOk (isFresh G m) p env' σ H F' H' v d → Q v H'
/-- .. frozen -/
def TR (p : Pm) (cl : Str → Value) (Ex : XK) (G : Genv) (m : E) : TE := fun σ H Q => ∃ F env, Rel p env σ F H ∧ Po p cl Ex env σ F H (ev G m env) fun d _ F' H' => ∀ v, Rp p.K F' v d → Q v H'
/-- .. looked at -/
def TV (p : Pm) (cl : Str → Value) (Ex : XK) (G : Genv) (m : E) : TE := fun σ H Q => ∃ F env, Rel p env σ F H ∧ Po p cl Ex env σ F H (ev G m env) fun d _ F' H' => ∀ v, Vw p.K F' H' v d → Q v H'
def TT_ (p : Pm) (cl : Str → Value) (Ex : XK) (G : Genv) (m : E) : TT := fun σ H Q => ∃ F env, Rel p env σ F H ∧ Po p cl Ex env σ F H (ev G m env) fun d _ _ H' => ∃ k, tru d = some k ∧ Q k H'
def TAv (p : Pm) (cl : Str → Value) (Ex : XK) (G : Genv) (m : E) : TA := fun σ H Q => ∃ F env, Rel p env σ F H ∧ Po p cl Ex env σ F H (ev G m env) fun d _ F' H' => ∃ ds, d = .list ds ∧ ∀ vs, Vws p.K F' H' vs ds → Q vs H'
def TAr (p : Pm) (cl : Str → Value) (Ex : XK) (G : Genv) (m : E) : TA := fun σ H Q => ∃ F env, Rel p env σ F H ∧ Po p cl Ex env σ F H (ev G m env) fun d _ F' H' => ∃ ds, d = .list ds ∧ ∀ vs, RpAll p.K F' vs ds → Q vs H'

section
variable {X : Cx} {p : Pm} {cl : Str → Value} {Ex : XK} {G : Genv} {CX : CXT} {sc : Scope} {m : E} {e : PySem.Expr}
theorem PE.weak {t t' : TE} (h : PE X e t) (hw : ∀ σ H Q, t' σ H Q → t σ H Q) : PE X e t' := ⟨fun pins s σ H Q I q => h.run pins s σ H Q I (hw σ H Q q)⟩
theorem PT.weak {t t' : TT} (h : PT X e t) (hw : ∀ σ H Q, t' σ H Q → t σ H Q) : PT X e t' := ⟨fun pins s σ H Q I q => h.run pins s σ H Q I (hw σ H Q q)⟩
theorem PA.weak {es : List PySem.Expr} {t t' : TA} (h : PA X es t) (hw : ∀ σ H Q, t' σ H Q → t σ H Q) : PA X es t' := ⟨fun pos pins s σ H Q I q => h.run pos pins s σ H Q I (hw σ H Q q)⟩
/-- Po, at another frozen part -/
theorem Po.frozen {env : En} {σ : L2.St} {F H : Hp} {r : Rs (D × En)} {k : D → En → Hp → Hp → Prop} {fr : Bool} {Q : VK}
    (h : Po p cl Ex env σ F H r fun d _ F' H' => ∀ v, Rp p.K F' v d → Q v H') : Po p cl Ex env σ F H r fun d env' F' H' => ∀ v, ResOk fr p env' σ H F' H' v d → Q v H' := by
  cases r with
  | ok q =>
    obtain ⟨d, env'⟩ := q
    intro F' H' r s v res
    unfold ResOk at res
    split at res
    · obtain ⟨a, xs, rfl, e1, e2, e3, e4, e5, e6⟩ := res
      have r2 := r.freeze (o := .lst xs) e1 e2 e3 e5
      have sf : Same F' (upd F' a (.lst xs)) := same_upd e2
      refine h _ H' r2 ?_ _ (.lst (.inl (.inl upd_same)) (e6.mono sf))
      refine ⟨s.keep, fun b hb n => ?_, s.there, s.owl, s.sub.trans sf⟩
      have nb : b ≠ a := fun z => hb (by rw [z]; exact e4)
      rw [upd_ne nb]
      exact s.kf b hb n
    · exact h F' H' r s v res
  | exc c => exact h
  | bot => exact h
theorem PE.r (h : PE X e (TB p cl Ex G m)) : PE X e (TR p cl Ex G m) := PE.weak h fun σ H Q ⟨F, env, r, q⟩ => ⟨F, env, r, q.frozen (k := fun _ _ _ _ => True)⟩
theorem PE.v (h : PE X e (TR p cl Ex G m)) : PE X e (TV p cl Ex G m) := PE.weak h fun σ H Q ⟨F, env, r, q⟩ => ⟨F, env, r, q.imp fun d env' F' H' _ _ k v hv => k v (.rp hv)⟩
/-- what is asked of the text's names -/
theorem nm_at {N : List Str} {i : Nat} {x : Str} (h : nmB N i x = true) : N[i]? = some x ∧ (x == ("__debug__" : Str)) = false ∧ (x == ("__classdict__" : Str)) = false := by
  unfold nmB dbg at h
  simp only [Bool.and_eq_true, beq_iff_eq, Bool.not_eq_true', Bool.or_eq_false_iff] at h
  exact ⟨h.1, h.2.1, h.2.2⟩
theorem vis_of (c : X.env.scope = sc) {x : Str} (h : visB sc x = true) : Vis X.env.scope x := by
  unfold visB at h
  rw [c]
  unfold Vis
  cases q : sc.names.lookup x with
  | none => rw [q] at h; cases h
  | some k =>
    rw [q] at h
    cases k with
    | «local» => exact .inl rfl
    | cell => exact .inr (.inl rfl)
    | free => exact .inr (.inr rfl)
    | globalExplicit => cases h
    | globalImplicit => cases h
theorem gl_of (c : X.env.scope = sc) {x : Str} (h : glB sc x = true) : Gl X x := by
  unfold glB at h
  unfold Gl Env.kindOf
  rw [c]
  cases q : sc.names.lookup x with
  | none => rw [q] at h; cases h
  | some k =>
    rw [q] at h
    cases k with
    | globalImplicit => rfl
    | «local» => cases h
    | cell => cases h
    | free => cases h
    | globalExplicit => cases h
theorem dbg_of {x : Str} (h : dbg x = false) : (x == ("__debug__" : Str)) = false ∧ (x == ("__classdict__" : Str)) = false := by
  unfold dbg at h
  simp only [Bool.or_eq_false_iff] at h
  exact h

/-! ### names and constants -/
theorem s_var {i : Nat} {x : Str} {pos : Pos} (C : Cxt p G cl CX Ex sc X) (h1 : nmB X.N i x = true) (h2 : visB sc x = true) : PE X (.Name x pos) (TB p cl Ex G (.var i)) := by
  obtain ⟨n1, n2, n3⟩ := nm_at h1
  refine PE.weak (pe_var n1 (vis_of C.sc h2) n2 n3) fun σ H Q ⟨F, env, r, q⟩ => ?_
  unfold ev at q
  split at q
  · rename_i d e1
    obtain ⟨v, e2, e3⟩ := r.pdo i d e1
    refine ⟨v, e2, q.now r (Step.refl _ _ _ _) v ?_⟩
    unfold ResOk
    exact e3
  · rename_i l e1
    obtain ⟨a, xs, e2, e3, r2, s2, e4⟩ := r.freezeSlot e1
    exact ⟨_, e2, q _ _ r2 s2 _ e4⟩
  · exact q.elim
theorem _root_.Rv.Rel.peek {env : En} {σ : L2.St} {F H : Hp} {i : Nat} {d : D} (r : Rel p env σ F H) (h : peekAt env i = some d) : ∃ v, σ[i]? = some (some v) ∧ Vw p.K F H v d := by
  unfold peekAt at h
  split at h
  · rename_i e
    cases h
    obtain ⟨v, q1, q2⟩ := r.pdo i _ e
    exact ⟨v, q1, .rp q2⟩
  · rename_i l e
    cases h
    obtain ⟨a, xs, q1, q2, _, q4⟩ := r.owo i l (by unfold heldAt; rw [e]; rfl)
    exact ⟨_, q1, .own q2 q4⟩
  · rename_i l e
    cases h
    obtain ⟨a, xs, q1, q2, _, q4⟩ := r.owo i l (by unfold heldAt; rw [e]; rfl)
    exact ⟨_, q1, .own q2 q4⟩
  · cases h
theorem s_peek {i : Nat} {x : Str} {pos : Pos} (C : Cxt p G cl CX Ex sc X) (h1 : nmB X.N i x = true) (h2 : visB sc x = true) : PE X (.Name x pos) (TV p cl Ex G (.peek i)) := by
  obtain ⟨n1, n2, n3⟩ := nm_at h1
  refine PE.weak (pe_var n1 (vis_of C.sc h2) n2 n3) fun σ H Q ⟨F, env, r, q⟩ => ?_
  unfold ev at q
  split at q
  · rename_i d e1
    obtain ⟨v, e2, e3⟩ := r.peek e1
    exact ⟨_, e2, q.now r (Step.refl _ _ _ _) _ e3⟩
  · exact q.elim
theorem s_const {c : Const} {k : Nat} {pos : Pos} (h : constB c m = true) : PE X (.Constant c k pos) (TB p cl Ex G m) := by
  cases m with
  | ci i =>
    cases c with
    | int j =>
      have e : i = j := beq_iff_eq.mp h
      subst e
      exact PE.weak pe_int fun σ H Q ⟨F, env, r, q⟩ => q.now r (Step.refl _ _ _ _) _ (.int i)
    | _ => cases h
  | cs i =>
    cases c with
    | str j =>
      have e : i = j := beq_iff_eq.mp h
      subst e
      exact PE.weak pe_str fun σ H Q ⟨F, env, r, q⟩ => q.now r (Step.refl _ _ _ _) _ (.str i)
    | _ => cases h
  | cb i =>
    cases c with
    | bool j =>
      have e : i = j := beq_iff_eq.mp h
      subst e
      exact PE.weak pe_bl fun σ H Q ⟨F, env, r, q⟩ => q.now r (Step.refl _ _ _ _) _ (.bl i)
    | _ => cases h
  | cn =>
    cases c with
    | none => exact PE.weak pe_non fun σ H Q ⟨F, env, r, q⟩ => q.now r (Step.refl _ _ _ _) _ .non
    | _ => cases h
  | _ => cases h
theorem s_glb {n : Nat} {x : Str} {pos : Pos} (C : Cxt p G cl CX Ex sc X) (h1 : G.gnm n = x) (h2 : glB sc x = true) (h3 : dbg x = false) : PE X (.Name x pos) (TB p cl Ex G (.glb n)) := by
  subst h1
  cases e : G.gl n with
  | none =>
    refine ⟨fun pins s σ H Q I ⟨F, env, r, q⟩ => ?_⟩
    unfold ev at q
    rw [e] at q
    exact q.elim
  | some d =>
    obtain ⟨u, v, e1, e2, e3⟩ := C.glb n d e
    refine PE.weak (pe_glob (gl_of C.sc h2) e1 e2 (dbg_of h3).1) fun σ H Q ⟨F, env, r, q⟩ => ?_
    unfold ev at q
    rw [e] at q
    refine q.now r (Step.refl _ _ _ _) v ?_
    unfold ResOk
    exact e3 F

/-! ### what an operation's answer leaves -/
theorem out_of {env env' : En} {σ : L2.St} {F H F' H' : Hp} {d : D} {Q : VK} (r : Rel p env' σ F' H') (s : Step env σ F H env' F' H')
    (h : ∀ F'' H'', Rel p env' σ F'' H'' → Step env' σ F' H' env' F'' H'' → ∀ v, ResOk true p env' σ H F'' H'' v d → Q v H'') : Out p.K F' H' d Q := by
  refine ⟨fun v hv hn => h F' H' r (Step.refl _ _ _ _) v ?_, fun q xs l e hq ha => ?_, fun q xs l e hq ha => ?_⟩
  · unfold ResOk
    cases d with
    | list l => exact absurd rfl (hn l)
    | _ => exact hv
  · subst e
    refine h F' _ (r.alloc hq) (Step.alloc hq) _ ⟨q, xs, rfl, upd_same, none_of_same r.hr.sub hq, ?_, ?_, ?_, ha⟩
    · exact Decidable.byContradiction fun z => r.hr.there q z hq
    · exact Decidable.byContradiction fun z => s.there q z hq
    · exact r.not_own hq
  · subst e
    have sf : Same F' (upd F' q (.tup xs)) := same_upd (none_of_same r.hr.sub hq)
    refine h _ _ (r.give hq) (Step.give r.hr.sub hq) _ ?_
    exact Rp.tup (SqT.of upd_same) (ha.mono sf)
/-- from what is wanted of ret1 -/
theorem Po.ret1 {env env' : En} {σ : L2.St} {F H : Hp} {o : Option D} {k : D → En → Hp → Hp → Prop} (h : Po p cl Ex env σ F H (ret1 o env') k) : ∃ d, o = some d ∧ ∀ F' H', Rel p env' σ F' H' → Step env σ F H env' F' H' → k d env' F' H' := by
  cases o with
  | none => exact h.elim
  | some d => exact ⟨d, rfl, h⟩

/-! ### two operands -/
theorem two_of {a b : E} {ta tb : TE} {σ : L2.St} {env : En} {F H : Hp} {R : V → V → Hp → Prop}
    (ha : (peekOf a).isSome = true → ta = tVar ((peekOf a).getD 0)) (ha' : peekOf a = none → ∀ σ H Q, TR p cl Ex G a σ H Q → ta σ H Q) (hb' : ∀ σ H Q, TV p cl Ex G b σ H Q → tb σ H Q)
    (r : Rel p env σ F H) (h : Po p cl Ex env σ F H (two (ev G a) (ev G b) (peekOf a) env) fun d env' F' H' => ∀ v u, Vw p.K F' H' v d.1 → Vw p.K F' H' u d.2 → R v u H') :
    ta σ H fun v H1 => tb σ H1 fun u H2 => R v u H2 := by
  unfold two at h
  cases e : peekOf a with
  | some i =>
    rw [e] at h
    have et : ta = tVar i := by rw [ha (by rw [e]; rfl), e]; rfl
    rw [et]
    dsimp only at h
    split at h
    · rename_i hi
      obtain ⟨l0, hl0⟩ := Option.isSome_iff_exists.mp hi
      obtain ⟨a0, e2, _⟩ := r.peek hl0
      refine ⟨_, e2, hb' _ _ _ ⟨F, env, r, ?_⟩⟩
      refine h.bind'.imp fun d env1 F1 H1 r1 s1 q u hu => ?_
      dsimp only at q
      split at q
      · rename_i l hl
        obtain ⟨a1, e3, e4⟩ := r1.peek hl
        rw [e2] at e3; cases e3
        exact q.now r1 (Step.refl _ _ _ _) _ _ e4 hu
      · exact q.elim
    · exact h.elim
  | none =>
    rw [e] at h
    dsimp only at h
    refine ha' e _ _ _ ⟨F, env, r, ?_⟩
    refine h.bind'.imp fun d env1 F1 H1 r1 s1 q v hv => ?_
    refine hb' _ _ _ ⟨F1, env1, r1, ?_⟩
    refine q.bind'.imp fun d2 env2 F2 H2 r2 s2 q2 u hu => ?_
    exact q2.now r2 (Step.refl _ _ _ _) _ _ (.rp (hv.mono s2.sub)) hu
/-- two frozen ones -/
theorem two_r {a b : E} {σ : L2.St} {env : En} {F H : Hp} {R : V → V → Hp → Prop}
    (r : Rel p env σ F H) (h : Po p cl Ex env σ F H (two (ev G a) (ev G b) none env) fun d env' F' H' => ∀ v u, Rp p.K F' v d.1 → Rp p.K F' u d.2 → R v u H') :
    TR p cl Ex G a σ H fun v H1 => TR p cl Ex G b σ H1 fun u H2 => R v u H2 := by
  unfold two at h
  refine ⟨F, env, r, ?_⟩
  refine h.bind'.imp fun d env1 F1 H1 r1 s1 q v hv => ?_
  refine ⟨F1, env1, r1, ?_⟩
  refine q.bind'.imp fun d2 env2 F2 H2 r2 s2 q2 u hu => ?_
  exact q2.now r2 (Step.refl _ _ _ _) _ _ (hv.mono s2.sub) hu

/-- a first operand -/
def Opd (X : Cx) (p : Pm) (cl : Str → Value) (Ex : XK) (G : Genv) (a : E) (ea : PySem.Expr) : Prop :=
  ∃ ta, PE X ea ta ∧ ((peekOf a).isSome = true → ta = tVar ((peekOf a).getD 0)) ∧ (peekOf a = none → ∀ σ H Q, TR p cl Ex G a σ H Q → ta σ H Q)

theorem Bop.rule (o : Bop) : OpR X (binaryOp o.op) (rOp X.K o.f) := by
  cases o with
  | add => exact op_addD
  | sub => exact op_subD
  | mul => exact op_mulD
  | fdiv => exact op_fdivD
  | mod => exact op_modD
  | pow => exact op_powD
theorem Cop.rule (hu : X.A.units + 65 < cLine) (o : Cop) : OpR X (compareOp o.op) (rOp X.K o.f) := by
  cases o with
  | eq => exact op_eqDD hu
  | ne => exact op_neDD hu
  | lt => exact op_ltD hu
  | le => exact op_leD hu
  | gt => exact op_gtD hu
  | ge => exact op_geD hu
  | is => exact op_isD
  | isnot => exact op_isNotD
  | isin => exact op_inDD hu
  | notin => exact op_notInDD hu
theorem s_bin {o : Bop} {a b : E} {ea eb : PySem.Expr} {pos : Pos} (C : Cxt p G cl CX Ex sc X) (ha : Opd X p cl Ex G a ea) (hb : PE X eb (TV p cl Ex G b)) :
    PE X (.BinOp ea o.op eb pos) (TB p cl Ex G (.bin o a b)) := by
  obtain ⟨ta, h1, h2, h3⟩ := ha
  refine PE.weak (pe_op (Bop.rule o) h1 hb) fun σ H Q ⟨F, env, r, q⟩ => ?_
  unfold ev at q
  refine two_of (R := fun v u H2 => rOp X.K o.f v u H2 Q) h2 h3 (fun _ _ _ z => z) r ?_
  refine q.bind'.imp fun d env' F' H' r' s' q' v u hv hu => ?_
  obtain ⟨d2, e, k⟩ := q'.ret1
  rw [C.k]
  exact ⟨F', _, _, d2, r'.hr.sub, hv, hu, e, out_of r' s' fun F'' H'' r2 s2 v2 hv2 => k F'' H'' r2 s2 v2 hv2⟩
end
end Rv

set_option Elab.async false
set_option linter.all false
set_option maxRecDepth 100000
set_option maxHeartbeats 4000000
/-! Rv6: expressions, further. -/
namespace Rv
open PySem PySem.Spec PyProof.Rows L2
section
variable {X : Cx} {p : Pm} {cl : Str → Value} {Ex : XK} {G : Genv} {CX : CXT} {sc : Scope} {m a b c : E} {e ea eb ec : PySem.Expr} {pos : Pos}

theorem Rs.bind_assoc {α β γ : Type} (r : Rs α) (f : α → Rs β) (g : β → Rs γ) : (r.bind f).bind g = r.bind fun a => (f a).bind g := by
  cases r <;> rfl
theorem s_neg (ha : PE X ea (TR p cl Ex G a)) : PE X (.UnaryOp .USub ea pos) (TB p cl Ex G (.neg a)) := by
  refine PE.weak (pe_un un_neg ha) fun σ H Q ⟨F, env, r, q⟩ => ?_
  unfold ev at q
  refine ⟨F, env, r, q.bind'.imp fun d env' F' H' r' s' q' v hv => ?_⟩
  dsimp only at q'
  split at q'
  · cases hv
    exact ⟨_, rfl, q'.now r' (Step.refl _ _ _ _) _ (.int _)⟩
  · exact q'.elim
theorem Cop.bool {o : Cop} {x y d : D} (h : o.f x y = some d) : ∃ k, d = .bool k := by
  have not_b : ∀ {z : Option D} {w : D}, notD z = some w → ∃ k, w = .bool k := fun {z w} h => by
    unfold notD at h
    split at h
    · cases h; exact ⟨_, rfl⟩
    · cases h
  cases o with
  | eq => unfold Cop.f eqD at h; dsimp only at h; split at h; · cases h; exact ⟨_, rfl⟩
          · split at h; · cases h; exact ⟨_, rfl⟩
            · cases h
  | ne => unfold Cop.f neD at h; dsimp only at h; split at h; · cases h; exact ⟨_, rfl⟩
          · split at h; · cases h; exact ⟨_, rfl⟩
            · cases h
  | lt =>
    unfold Cop.f ltD at h; dsimp only at h
    split at h
    · cases h; exact ⟨_, rfl⟩
    · cases h; exact ⟨_, rfl⟩
    · split at h
      · rename_i e
        cases h
        unfold lexInts at e
        split at e
        · cases e; exact ⟨_, rfl⟩
        · cases e
      · split at h
        · cases h; exact ⟨_, rfl⟩
        · cases h
    · cases h
  | le =>
    unfold Cop.f leD at h; dsimp only at h
    split at h
    · cases h; exact ⟨_, rfl⟩
    · cases h; exact ⟨_, rfl⟩
    · split at h
      · cases h; exact ⟨_, rfl⟩
      · cases h
    · cases h
  | gt =>
    unfold Cop.f gtD at h; dsimp only at h
    split at h
    · cases h; exact ⟨_, rfl⟩
    · cases h; exact ⟨_, rfl⟩
    · split at h
      · cases h; exact ⟨_, rfl⟩
      · cases h
    · cases h
  | ge =>
    unfold Cop.f geD at h; dsimp only at h
    split at h
    · cases h; exact ⟨_, rfl⟩
    · cases h; exact ⟨_, rfl⟩
    · split at h
      · cases h; exact ⟨_, rfl⟩
      · cases h
    · cases h
  | is =>
    unfold Cop.f isD at h; dsimp only at h
    split at h
    · cases h; exact ⟨_, rfl⟩
    · cases h; exact ⟨_, rfl⟩
    · cases h
  | isnot => exact not_b h
  | isin =>
    unfold Cop.f inD at h; dsimp only at h
    split at h
    · split at h
      · cases h; exact ⟨_, rfl⟩
      · cases h
    · split at h
      · cases h; exact ⟨_, rfl⟩
      · cases h
    · cases h; exact ⟨_, rfl⟩
    · cases h
  | notin => exact not_b h
theorem res_bool {fr : Bool} {env : En} {σ : L2.St} {Hs F H : Hp} {k : Bool} : ResOk fr p env σ Hs F H (.bl k) (.bool k) := by
  cases fr <;> exact .bl k
/-- the comparing itself -/
theorem cmp_core {o : Cop} {ta : TE} (C : Cxt p G cl CX Ex sc X) (h2 : (peekOf a).isSome = true → ta = tVar ((peekOf a).getD 0)) (h3 : peekOf a = none → ∀ σ H Q, TR p cl Ex G a σ H Q → ta σ H Q)
    {σ : L2.St} {F H : Hp} {env : En} {R : Bool → Hp → Prop} (r : Rel p env σ F H) (q : Po p cl Ex env σ F H (ev G (.cmp o a b) env) fun d _ _ H' => ∀ k, d = .bool k → R k H') :
    tOp (rOp X.K o.f) ta (TV p cl Ex G b) σ H fun z H' => ∃ k, z = .bl k ∧ R k H' := by
  unfold ev at q
  refine two_of (R := fun v u H2 => rOp X.K o.f v u H2 _) h2 h3 (fun _ _ _ z => z) r ?_
  refine q.bind'.imp fun d env' F' H' r' s' q' v u hv hu => ?_
  obtain ⟨d2, e, k⟩ := q'.ret1
  obtain ⟨kb, rfl⟩ := Cop.bool e
  rw [C.k]
  refine ⟨F', _, _, _, r'.hr.sub, hv, hu, e, ⟨fun w hw _ => ?_, (fun _ _ _ z => nomatch z), (fun _ _ _ z => nomatch z)⟩⟩
  cases hw
  exact ⟨kb, rfl, k F' H' r' (Step.refl _ _ _ _) kb rfl⟩
theorem s_cmp {o : Cop} (C : Cxt p G cl CX Ex sc X) (hm : behindInMarks o.op eb = false) (ha : Opd X p cl Ex G a ea) (hb : PE X eb (TV p cl Ex G b)) :
    PE X (.Compare ea [o.op] [eb] pos) (TB p cl Ex G (.cmp o a b)) ∧ PT X (.Compare ea [o.op] [eb] pos) (TT_ p cl Ex G (.cmp o a b)) := by
  obtain ⟨ta, h1, h2, h3⟩ := ha
  refine ⟨⟨fun pins s σ H Q I ⟨F, env, r, q⟩ => ?_⟩, PT.weak (pt_cmpR (Cop.rule C.un o) h1 hb hm) fun σ H Q ⟨F, env, r, q⟩ => ?_⟩
  · refine thn ((pe_cmpR (Cop.rule C.un o) h1 hb hm).run pins s σ H _ I (cmp_core (R := fun k H' => Q (.bl k) H') C h2 h3 r (q.imp fun d env' F' H' _ _ k kb e => k _ (by subst e; exact res_bool)))) fun u s' ⟨v, H', I', rv, k, e, q'⟩ => ?_
    exact ⟨v, H', I', rv, by rw [e]; exact q'⟩
  · exact cmp_core (R := Q) C h2 h3 r (q.imp fun d env' F' H' _ _ ⟨k, e1, e2⟩ kb e => by subst e; cases e1; exact e2)
theorem chain_core {o o' : Cop} (C : Cxt p G cl CX Ex sc X) {σ : L2.St} {F H : Hp} {env : En} {R : Bool → Hp → Prop} (r : Rel p env σ F H) (q : Po p cl Ex env σ F H (ev G (.chain o o' a b c) env) fun d _ _ H' => ∀ k, d = .bool k → R k H') :
    tChain (rOp X.K o.f) (rOp X.K o'.f) (TR p cl Ex G a) (TR p cl Ex G b) (TR p cl Ex G c) σ H fun z H' => ∃ k, z = .bl k ∧ R k H' := by
  unfold ev at q
  refine two_r (R := fun v u H2 => rOp X.K o.f v u H2 _) r ?_
  refine q.bind'.imp fun d env' F' H' r' s' q' v u hv hu => ?_
  dsimp only at q'
  rw [C.k]
  split at q'
  · rename_i e
    refine ⟨F', _, _, _, r'.hr.sub, .rp hv, .rp hu, e, ⟨fun w hw _ => ?_, (fun _ _ _ z => nomatch z), (fun _ _ _ z => nomatch z)⟩⟩
    cases hw
    refine ⟨true, rfl, ?_⟩
    refine iteT ?_
    refine ⟨F', env', r', q'.bind'.imp fun t env2 F2 H2 r2 s2 q2 w hw => ?_⟩
    obtain ⟨d2, e2, k⟩ := q2.ret1
    obtain ⟨kb, rfl⟩ := Cop.bool e2
    refine ⟨F2, _, _, _, r2.hr.sub, .rp (hu.mono s2.sub), .rp hw, e2, ⟨fun w hw _ => ?_, (fun _ _ _ z => nomatch z), (fun _ _ _ z => nomatch z)⟩⟩
    cases hw
    exact ⟨kb, rfl, k F2 H2 r2 (Step.refl _ _ _ _) kb rfl⟩
  · rename_i e
    refine ⟨F', _, _, _, r'.hr.sub, .rp hv, .rp hu, e, ⟨fun w hw _ => ?_, (fun _ _ _ z => nomatch z), (fun _ _ _ z => nomatch z)⟩⟩
    cases hw
    refine ⟨false, rfl, ?_⟩
    refine iteF ?_
    exact ⟨false, rfl, q'.now r' (Step.refl _ _ _ _) false rfl⟩
  · exact q'.elim
theorem s_chain {o o' : Cop} (C : Cxt p G cl CX Ex sc X) (hm : behindInMarks o'.op ec = false) (ha : PE X ea (TR p cl Ex G a)) (hb : PE X eb (TR p cl Ex G b)) (hc : PE X ec (TR p cl Ex G c)) :
    PE X (.Compare ea [o.op, o'.op] [eb, ec] pos) (TB p cl Ex G (.chain o o' a b c)) ∧ PT X (.Compare ea [o.op, o'.op] [eb, ec] pos) (TT_ p cl Ex G (.chain o o' a b c)) := by
  have hl : lastMarks [o.op, o'.op] [eb, ec] = false := by
    show lastMarks [o'.op] [ec] = false
    exact hm
  refine ⟨⟨fun pins s σ H Q I ⟨F, env, r, q⟩ => ?_⟩, PT.weak (pt_chain (Cop.rule C.un o) (Cop.rule C.un o') ha hb hc hl) fun σ H Q ⟨F, env, r, q⟩ => ?_⟩
  · refine thn ((pe_chain (Cop.rule C.un o) (Cop.rule C.un o') ha hb hc hl).run pins s σ H _ I (chain_core (R := fun k H' => Q (.bl k) H') C r (q.imp fun d env' F' H' _ _ k kb e => k _ (by subst e; exact res_bool)))) fun u s' ⟨v, H', I', rv, k, e, q'⟩ => ?_
    exact ⟨v, H', I', rv, by rw [e]; exact q'⟩
  · exact chain_core (R := Q) C r (q.imp fun d env' F' H' _ _ ⟨k, e1, e2⟩ kb e => by subst e; cases e1; exact e2)

/-! ### truth -/
theorem tru_of {K : PySem.W.Frag} {F H : Hp} {v : V} {d : D} {k : Bool} (sm : Same F H) (h : Rp K F v d) (e : tru d = some k) : TruV K v H k := by
  unfold tru at e
  cases h with
  | non => cases e; rfl
  | bl b => cases e; rfl
  | int i => cases e; rfl
  | str x =>
    dsimp only at e
    split at e
    · cases e; exact ⟨by assumption, rfl⟩
    · cases e
  | lst r a =>
    cases e
    refine .inl ⟨_, sql_same sm r, ?_⟩
    cases a <;> rfl
  | tup r a =>
    cases e
    refine .inr (.inl ⟨_, sqt_same sm r, ?_⟩)
    cases a <;> rfl
theorem s_truth (C : Cxt p G cl CX Ex sc X) (ha : PE X e (TR p cl Ex G m)) (he : ∀ whole, isTrue e X.env whole = (do let v ← whole; standAt e.pos; holding [v] (truthy v))) : PT X e (TT_ p cl Ex G m) := by
  refine PT.weak (pt_truth ha he) fun σ H Q ⟨F, env, r, q⟩ => ?_
  refine ⟨F, env, r, q.imp fun d env' F' H' r' s' ⟨k, e1, e2⟩ v hv => ⟨k, ?_, e2⟩⟩
  rw [C.k]
  exact tru_of r'.hr.sub hv e1
theorem s_and {x y : PySem.Expr} {rs : List PySem.Expr} (C : Cxt p G cl CX Ex sc X) (ha : PE X x (TR p cl Ex G a)) (hb : PE X (.BoolOp .And (y :: rs) pos) (TR p cl Ex G b)) : PE X (.BoolOp .And (x :: y :: rs) pos) (TB p cl Ex G (.and_ a b)) := by
  refine PE.weak (pe_andT ha hb) fun σ H Q ⟨F, env, r, q⟩ => ?_
  unfold ev at q
  refine ⟨F, env, r, q.bind'.imp fun d env' F' H' r' s' q' v hv => ?_⟩
  dsimp only at q'
  rw [C.k]
  split at q'
  · rename_i e
    refine ⟨true, tru_of r'.hr.sub hv e, ?_⟩
    refine iteT ?_
    exact ⟨F', env', r', q'.imp fun d2 env2 F2 H2 r2 s2 k v2 h2 => k v2 h2⟩
  · rename_i e
    refine ⟨false, tru_of r'.hr.sub hv e, ?_⟩
    refine iteF ?_
    exact q'.now r' (Step.refl _ _ _ _) v hv
  · exact q'.elim
theorem s_or {x y : PySem.Expr} {rs : List PySem.Expr} (C : Cxt p G cl CX Ex sc X) (ha : PE X x (TR p cl Ex G a)) (hb : PE X (.BoolOp .Or (y :: rs) pos) (TR p cl Ex G b)) : PE X (.BoolOp .Or (x :: y :: rs) pos) (TB p cl Ex G (.or_ a b)) := by
  refine PE.weak (pe_orT ha hb) fun σ H Q ⟨F, env, r, q⟩ => ?_
  unfold ev at q
  refine ⟨F, env, r, q.bind'.imp fun d env' F' H' r' s' q' v hv => ?_⟩
  dsimp only at q'
  rw [C.k]
  split at q'
  · rename_i e
    refine ⟨true, tru_of r'.hr.sub hv e, ?_⟩
    refine iteT ?_
    exact q'.now r' (Step.refl _ _ _ _) v hv
  · rename_i e
    refine ⟨false, tru_of r'.hr.sub hv e, ?_⟩
    refine iteF ?_
    exact ⟨F', env', r', q'.imp fun d2 env2 F2 H2 r2 s2 k v2 h2 => k v2 h2⟩
  · exact q'.elim
theorem s_one {x : PySem.Expr} {op : BoolOp} (ha : PE X x (TR p cl Ex G a)) : PE X (.BoolOp op [x] pos) (TB p cl Ex G (.one a)) := by
  refine PE.weak (pe_one ha) fun σ H Q ⟨F, env, r, q⟩ => ?_
  unfold ev at q
  exact ⟨F, env, r, q.imp fun d env' F' H' r' s' k v hv => k v hv⟩
theorem w_and {x y : PySem.Expr} {rs : List PySem.Expr} (ha : PT X x (TT_ p cl Ex G a)) (hb : PW X (.BoolOp .And (y :: rs) pos) (TT_ p cl Ex G b)) : PW X (.BoolOp .And (x :: y :: rs) pos) (TT_ p cl Ex G (.and_ a b)) := by
  refine ⟨fun wh pins s σ H Q I ⟨F, env, r, q⟩ => (pw_and ha hb).run wh pins s σ H Q I ?_⟩
  unfold ev at q
  refine ⟨F, env, r, q.bind'.imp fun d env' F' H' r' s' q' => ?_⟩
  dsimp only at q'
  split at q'
  · rename_i e
    refine ⟨true, e, ?_⟩
    refine iteT ?_
    exact ⟨F', env', r', q'⟩
  · rename_i e
    refine ⟨false, e, ?_⟩
    refine iteF ?_
    obtain ⟨k, e1, e2⟩ := q'.now r' (Step.refl _ _ _ _)
    rw [e] at e1; cases e1
    exact e2
  · exact q'.elim
theorem w_or {x y : PySem.Expr} {rs : List PySem.Expr} (ha : PT X x (TT_ p cl Ex G a)) (hb : PW X (.BoolOp .Or (y :: rs) pos) (TT_ p cl Ex G b)) : PW X (.BoolOp .Or (x :: y :: rs) pos) (TT_ p cl Ex G (.or_ a b)) := by
  refine ⟨fun wh pins s σ H Q I ⟨F, env, r, q⟩ => (pw_or ha hb).run wh pins s σ H Q I ?_⟩
  unfold ev at q
  refine ⟨F, env, r, q.bind'.imp fun d env' F' H' r' s' q' => ?_⟩
  dsimp only at q'
  split at q'
  · rename_i e
    refine ⟨true, e, ?_⟩
    refine iteT ?_
    obtain ⟨k, e1, e2⟩ := q'.now r' (Step.refl _ _ _ _)
    rw [e] at e1; cases e1
    exact e2
  · rename_i e
    refine ⟨false, e, ?_⟩
    refine iteF ?_
    exact ⟨F', env', r', q'⟩
  · exact q'.elim
theorem w_one {x : PySem.Expr} {op : BoolOp} (ha : PT X x (TT_ p cl Ex G a)) : PW X (.BoolOp op [x] pos) (TT_ p cl Ex G (.one a)) := by
  refine ⟨fun wh pins s σ H Q I ⟨F, env, r, q⟩ => ?_⟩
  unfold ev at q
  cases op with
  | And => exact (pw_and1 ha).run wh pins s σ H Q I ⟨F, env, r, q⟩
  | Or => exact (pw_or1 ha).run wh pins s σ H Q I ⟨F, env, r, q⟩
theorem s_not (C : Cxt p G cl CX Ex sc X) (ha : PE X ea (TR p cl Ex G a)) : PE X (.UnaryOp .Not ea pos) (TB p cl Ex G (.not_ a)) := by
  refine PE.weak (pe_notT ha) fun σ H Q ⟨F, env, r, q⟩ => ?_
  unfold ev at q
  refine ⟨F, env, r, q.bind'.imp fun d env' F' H' r' s' q' v hv => ?_⟩
  dsimp only at q'
  rw [C.k]
  split at q'
  · rename_i k e
    exact ⟨k, tru_of r'.hr.sub hv e, q'.now r' (Step.refl _ _ _ _) _ res_bool⟩
  · exact q'.elim
theorem t_not (ha : PT X ea (TT_ p cl Ex G a)) : PT X (.UnaryOp .Not ea pos) (TT_ p cl Ex G (.not_ a)) := by
  refine PT.weak (pt_not ha) fun σ H Q ⟨F, env, r, q⟩ => ?_
  unfold ev at q
  refine ⟨F, env, r, q.bind'.imp fun d env' F' H' r' s' q' => ?_⟩
  dsimp only at q'
  split at q'
  · rename_i k e
    obtain ⟨k2, e1, e2⟩ := q'.now r' (Step.refl _ _ _ _)
    cases e1
    exact ⟨k, e, e2⟩
  · exact q'.elim
theorem s_ite (hc : PT X ec (TT_ p cl Ex G c)) (ha : PE X ea (TR p cl Ex G a)) (hb : PE X eb (TR p cl Ex G b)) : PE X (.IfExp ec ea eb pos) (TB p cl Ex G (.ite c a b)) := by
  refine PE.weak (pe_ifExp hc ha hb) fun σ H Q ⟨F, env, r, q⟩ => ?_
  unfold ev at q
  refine ⟨F, env, r, q.bind'.imp fun d env' F' H' r' s' q' => ?_⟩
  dsimp only at q'
  split at q'
  · rename_i e
    refine ⟨true, e, ?_⟩
    refine iteT ?_
    exact ⟨F', env', r', q'.imp fun d2 env2 F2 H2 r2 s2 k v2 h2 => k v2 h2⟩
  · rename_i e
    refine ⟨false, e, ?_⟩
    refine iteF ?_
    exact ⟨F', env', r', q'.imp fun d2 env2 F2 H2 r2 s2 k v2 h2 => k v2 h2⟩
  · exact q'.elim
theorem t_ite (hc : PT X ec (TT_ p cl Ex G c)) (ha : PT X ea (TT_ p cl Ex G a)) (hb : PT X eb (TT_ p cl Ex G b)) : PT X (.IfExp ec ea eb pos) (TT_ p cl Ex G (.ite c a b)) := by
  refine ⟨fun pins s σ H Q I ⟨F, env, r, q⟩ => ?_⟩
  unfold ev at q
  show wpAny _ _ (do if ← isTrue ec X.env (eval ec X.env) then isTrue ea X.env (eval ea X.env) else isTrue eb X.env (eval eb X.env)) _ _ _
  refine wpAny_bind (thn (hc.run pins s σ H (fun k H1 => if k = true then TT_ p cl Ex G a σ H1 Q else TT_ p cl Ex G b σ H1 Q) I ⟨F, env, r, q.bind'.imp fun d env' F' H' r' s' q' => ?_⟩) fun k s1 ⟨H1, I1, q1⟩ => ?_)
  · dsimp only at q'
    split at q'
    · rename_i e
      refine ⟨true, e, ?_⟩
      refine iteT ?_
      exact ⟨F', env', r', q'⟩
    · rename_i e
      refine ⟨false, e, ?_⟩
      refine iteF ?_
      exact ⟨F', env', r', q'⟩
    · exact q'.elim
  · cases k with
    | true => exact ha.run pins s1 σ H1 Q I1 q1
    | false => exact hb.run pins s1 σ H1 Q I1 q1

/-! ### displays, arguments -/
theorem a_nil : PA X [] (TAv p cl Ex G .nil) ∧ PA X [] (TAr p cl Ex G .nil) := by
  refine ⟨PA.weak pa_nil fun σ H Q ⟨F, env, r, q⟩ => ?_, PA.weak pa_nil fun σ H Q ⟨F, env, r, q⟩ => ?_⟩
  · obtain ⟨ds, e, k⟩ := q.now r (Step.refl _ _ _ _)
    cases e
    exact k [] .nil
  · obtain ⟨ds, e, k⟩ := q.now r (Step.refl _ _ _ _)
    cases e
    exact k [] .nil
theorem a_consR {x : PySem.Expr} {xs : List PySem.Expr} (hp : peekOf a = none) (hs : starEach (x :: xs) X.env = (false, eval x X.env) :: starEach xs X.env) (ha : PE X x (TR p cl Ex G a)) (hb : PA X xs (TAr p cl Ex G b)) : PA X (x :: xs) (TAr p cl Ex G (.cons a b)) := by
  refine PA.weak (pa_cons ha hb hs) fun σ H Q ⟨F, env, r, q⟩ => ?_
  unfold ev two at q
  rw [hp] at q
  dsimp only at q
  rw [Rs.bind_assoc] at q
  refine ⟨F, env, r, q.bind'.imp fun d env1 F1 H1 r1 s1 q1 v hv => ?_⟩
  rw [Rs.bind_assoc] at q1
  refine ⟨F1, env1, r1, q1.bind'.imp fun d2 env2 F2 H2 r2 s2 q2 => ?_⟩
  dsimp only [Rs.bind] at q2
  split at q2
  · rename_i l
    refine ⟨l, rfl, fun vs hvs => ?_⟩
    obtain ⟨ds, e, k⟩ := q2.now r2 (Step.refl _ _ _ _)
    cases e
    exact k _ (.cons (hv.mono s2.sub) hvs)
  · exact q2.elim
theorem a_consV {x : PySem.Expr} {xs : List PySem.Expr} (hs : starEach (x :: xs) X.env = (false, eval x X.env) :: starEach xs X.env) (ha : Opd X p cl Ex G a x) (hb : PA X xs (TAv p cl Ex G b)) : PA X (x :: xs) (TAv p cl Ex G (.cons a b)) := by
  obtain ⟨ta, h1, h2, h3⟩ := ha
  refine PA.weak (pa_cons h1 hb hs) fun σ H Q ⟨F, env, r, q⟩ => ?_
  unfold ev two at q
  cases ep : peekOf a with
  | none =>
    rw [ep] at q
    dsimp only at q
    rw [Rs.bind_assoc] at q
    refine h3 ep _ _ _ ⟨F, env, r, q.bind'.imp fun d env1 F1 H1 r1 s1 q1 v hv => ?_⟩
    rw [Rs.bind_assoc] at q1
    refine ⟨F1, env1, r1, q1.bind'.imp fun d2 env2 F2 H2 r2 s2 q2 => ?_⟩
    dsimp only [Rs.bind] at q2
    split at q2
    · rename_i l
      refine ⟨l, rfl, fun vs hvs => ?_⟩
      obtain ⟨ds, e, k⟩ := q2.now r2 (Step.refl _ _ _ _)
      cases e
      exact k _ (.cons (.rp (hv.mono s2.sub)) hvs)
    · exact q2.elim
  | some i =>
    rw [ep] at q
    have et : ta = tVar i := by rw [h2 (by rw [ep]; rfl), ep]; rfl
    rw [et]
    dsimp only at q
    split at q
    · rename_i hi
      obtain ⟨l0, hl0⟩ := Option.isSome_iff_exists.mp hi
      obtain ⟨a0, e2, _⟩ := r.peek hl0
      rw [Rs.bind_assoc] at q
      refine ⟨_, e2, F, env, r, q.bind'.imp fun d2 env2 F2 H2 r2 s2 q2 => ?_⟩
      dsimp only at q2
      cases el : peekAt env2 i with
      | none => rw [el] at q2; exact q2.elim
      | some l =>
        rw [el] at q2
        dsimp only [Rs.bind] at q2
        obtain ⟨a1, e3, e4⟩ := r2.peek el
        rw [e2] at e3; cases e3
        split at q2
        · rename_i l'
          refine ⟨l', rfl, fun vs hvs => ?_⟩
          obtain ⟨ds, e, k⟩ := q2.now r2 (Step.refl _ _ _ _)
          cases e
          exact k _ (.cons e4 hvs)
        · exact q2.elim
    · exact q.elim
theorem s_tup {xs : List PySem.Expr} {k : Nat} (ha : PA X xs (TAr p cl Ex G a)) : PE X (.Tuple xs k pos) (TB p cl Ex G (.tup a)) := by
  refine PE.weak (pe_tup ha) fun σ H Q ⟨F, env, r, q⟩ => ?_
  unfold ev at q
  refine ⟨F, env, r, q.bind'.imp fun d env' F' H' r' s' q' => ?_⟩
  dsimp only at q'
  split at q'
  · rename_i l
    refine ⟨l, rfl, fun vs hvs => ?_⟩
    split at q'
    · rename_i hl
      refine ⟨by rw [hvs.length]; exact hl, fun u hu => ?_⟩
      have sf : Same F' (upd F' u (.tup vs)) := same_upd (none_of_same r'.hr.sub hu)
      exact q' _ _ (r'.give hu) (Step.give r'.hr.sub hu) _ (Rp.tup (SqT.of upd_same) (hvs.mono sf))
    · exact q'.elim
  · exact q'.elim
theorem s_lst {xs : List PySem.Expr} (ha : PA X xs (TAr p cl Ex G a)) : PE X (.List xs pos) (TB p cl Ex G (.lst a)) := by
  refine PE.weak (pe_lst ha) fun σ H Q ⟨F, env, r, q⟩ => ?_
  unfold ev at q
  refine ⟨F, env, r, q.bind.imp fun d env' F' H' r' s' q' => ?_⟩
  dsimp only at q'
  split at q'
  · rename_i l
    refine ⟨l, rfl, fun vs hvs => ?_⟩
    split at q'
    · rename_i hl
      refine ⟨by rw [hvs.length]; exact hl, fun u hu => ?_⟩
      refine q' _ _ (r'.alloc hu) (Step.alloc hu) (s'.trans (Step.alloc hu)) _ ?_
      refine ⟨u, vs, rfl, upd_same, none_of_same r'.hr.sub hu, ?_, ?_, r'.not_own hu, hvs⟩
      · exact Decidable.byContradiction fun z => r'.hr.there u z hu
      · exact Decidable.byContradiction fun z => s'.there u z hu
    · exact q'.elim
  · exact q'.elim
/-- an answer that is new, from Out -/
theorem new_of {env env' : En} {σ : L2.St} {F H F' H' : Hp} {o : Option D} {Q : VK} (hf : isFresh G m = true) (r' : Rel p env' σ F' H') (s' : Step env σ F H env' F' H')
    (q' : Po p cl Ex env' σ F' H' (ret1 o env') fun d env'' F'' H'' => ∀ v, ResOk (isFresh G m) p env'' σ H F'' H'' v d → Q v H'') : ∃ d, o = some d ∧ Out p.K F' H' d Q := by
  obtain ⟨d2, e, k⟩ := q'.ret1
  rw [hf] at k
  exact ⟨d2, e, out_of r' s' fun F'' H'' r2 s2 v2 hv2 => k F'' H'' r2 s2 v2 hv2⟩
theorem s_idx {pos : Pos} (C : Cxt p G cl CX Ex sc X) (hpl : PlainIx eb) (ha : Opd X p cl Ex G a ea) (hb : PE X eb (TR p cl Ex G b)) : PE X (.Subscript ea eb pos) (TB p cl Ex G (.idx a b)) := by
  obtain ⟨ta, h1, h2, h3⟩ := ha
  refine PE.weak (pe_ix ix_idxD h1 (PE.v hb) hpl) fun σ H Q ⟨F, env, r, q⟩ => ?_
  unfold ev at q
  refine two_of (R := fun v u H2 => rOpX X.K idxD v u H2 Q) h2 h3 (fun _ _ _ z => z) r ?_
  refine q.bind'.imp fun d env' F' H' r' s' q' v u hv hu => ?_
  obtain ⟨d2, e, k⟩ := q'.ret1
  rw [C.k]
  exact ⟨F', _, _, d2, r'.hr.sub, hv, hu, e, fun w hw => k F' H' r' (Step.refl _ _ _ _) w hw⟩
theorem Bi.rule (C : Cxt p G cl CX Ex sc X) (bb : Bi) {x : PySem.Expr} {xs : List PySem.Expr} {t : TA} {p1 pos : Pos} (hg : Gl X bb.nm) (ha : PA X (x :: xs) t)
    (he : starEach (x :: xs) X.env = (false, eval x X.env) :: starEach xs X.env) (hpl : (backTo pos (starEach xs X.env)).any (·.1) = false) : PE X (.Call (.Name bb.nm p1) (x :: xs) [] pos) (tCB (rCl X.K bb.f) t) := by
  have bl : ∀ s : Str, s ∈ bltNames → X.mg s = none := C.blt
  cases bb with
  | len => exact pe_callB cl_len hg (bl _ (by decide)) (by decide +kernel) ha (by decide) (by decide) he hpl
  | abs => exact pe_callB cl_abs hg (bl _ (by decide)) (by decide +kernel) ha (by decide) (by decide) he hpl
  | int => exact pe_callTy cl_int hg (bl _ (by decide)) (by decide +kernel) ha (by decide) (by decide) he hpl
  | list => exact pe_callTy (cl_list C.calm) hg (bl _ (by decide)) (by decide +kernel) ha (by decide) (by decide) he hpl
  | tuple => exact pe_callTy (cl_tuple C.calm) hg (bl _ (by decide)) (by decide +kernel) ha (by decide) (by decide) he hpl
  | all => exact pe_callB (cl_all C.calm) hg (bl _ (by decide)) (by decide +kernel) ha (by decide) (by decide) he hpl
  | any => exact pe_callB (cl_any C.calm) hg (bl _ (by decide)) (by decide +kernel) ha (by decide) (by decide) he hpl
  | sum => exact pe_callB (cl_sum C.calm) hg (bl _ (by decide)) (by decide +kernel) ha (by decide) (by decide) he hpl
  | max => exact pe_callB (cl_max C.calm C.un) hg (bl _ (by decide)) (by decide +kernel) ha (by decide) (by decide) he hpl
  | min => exact pe_callB (cl_min C.calm C.un) hg (bl _ (by decide)) (by decide +kernel) ha (by decide) (by decide) he hpl
  | sorted => exact pe_callB (cl_sorted C.un) hg (bl _ (by decide)) (by decide +kernel) ha (by decide) (by decide) he hpl
  | str => exact pe_callTy cl_str hg (bl _ (by decide)) (by decide +kernel) ha (by decide) (by decide) he hpl
theorem s_bi (C : Cxt p G cl CX Ex sc X) (bb : Bi) {x : PySem.Expr} {xs : List PySem.Expr} {p1 pos : Pos} (hg : Gl X bb.nm) (ha : PA X (x :: xs) (TAv p cl Ex G a))
    (he : starEach (x :: xs) X.env = (false, eval x X.env) :: starEach xs X.env) (hpl : (backTo pos (starEach xs X.env)).any (·.1) = false) : PE X (.Call (.Name bb.nm p1) (x :: xs) [] pos) (TB p cl Ex G (.bi bb a)) := by
  refine PE.weak (Bi.rule C bb hg ha he hpl) fun σ H Q ⟨F, env, r, q⟩ => ?_
  unfold ev at q
  refine ⟨F, env, r, q.bind'.imp fun d env' F' H' r' s' q' => ?_⟩
  dsimp only at q'
  split at q'
  · rename_i l
    refine ⟨l, rfl, fun vs hvs => ?_⟩
    obtain ⟨d2, e, o⟩ := new_of (m := .bi bb a) rfl r' s' q'
    rw [C.k]
    exact ⟨F', _, d2, r'.hr.sub, hvs, e, o⟩
  · exact q'.elim
end
end Rv

set_option Elab.async false
set_option linter.all false
set_option maxRecDepth 100000
set_option maxHeartbeats 4000000
/-! Rv6d: dicts whose keys are tuples of ints and texts. -/
namespace Rv
open PySem PySem.Spec PyProof.Rows L2
abbrev tk (X : Cx) : HeapKind X.prog X.w (List Key) := PySem.tupleKind (mixKind X.prog X.w)
/-- the dict at a: its entries' keys are tuples that stand -/
def DicK (X : Cx) (H : Hp) (a : Addr) (ys : List (List Key × Addr × Value)) : Prop :=
  ∃ es ep, H a = some (dicO a es ep) ∧ es.toList = ys.map (entryOfKey (tk X)) ∧ (ys.map (·.1)).Nodup ∧ ∀ y ∈ ys, SqT X.K H y.2.1 (y.1.map kV)
section
variable {X : Cx} {pins : List (Addr × Obj)} {σ : L2.St} {H : Hp} {s : Shared} {a b : Addr} {k : List Key} {ys : List (List Key × Addr × Value)} {A : Around} {E : Value → Shared → Prop}
theorem key_at (I : Inv X pins σ H s) (h : SqT X.K H b (k.map kV)) : (tk X).is s.heap k b := by
  obtain ⟨its, r, ⟨o, h1, h2, n, h3⟩, _⟩ := I.tuple h
  exact ⟨o, its.toArray, n, h1, h2, h3, by simpa using items_are r⟩
theorem dic_at (I : Inv X pins σ H s) (d : DicK X H a ys) : s.heap.DictOfH (tk X) a ys ∧ (a == sysModules) = false := by
  obtain ⟨es, ep, h1, h2, h3, h4⟩ := d
  obtain ⟨⟨⟨o, g1, g2, g3⟩, g4⟩, _⟩ := I.hok a _ h1
  exact ⟨⟨o, es, ep, g1, g2, g3, h2, fun y hy => key_at I (h4 y hy), h3⟩, g4⟩
theorem dicO_ok {P : Program} {w : World} {H : Hp} {h : Heap} {es : Array DictEntry} {ep : Nat} (r : DT.Raw h a es ep) (hs : (a == sysModules) = false) : ObjOk P w H h a (dicO a es ep) :=
  ⟨⟨r, hs⟩, let ⟨o, e, _⟩ := r; ⟨o, e⟩, fun h1 h2 ⟨r1, q⟩ k => ⟨r1.at' k, q⟩⟩
theorem dic_in (hu : A.units + 1 < cLine) {Q : Value → Shared → Prop} (I : Inv X pins σ H s) (d : DicK X H a ys) (hk : SqT X.K H b (k.map kV)) (h : ∀ s', Inv X pins σ H s' → Q (.bool (atKey ys k).isSome) s') :
    wpAny (model X.prog X.w) A (compareOp .In (.ref b) (.ref a)) Q E s :=
  wpAny_in_heap (tupleKind_room_in1 hu) (key_at I hk) (dic_at I d).2 (dic_at I d).1 (h _ (I.tok _))
theorem dic_notIn (hu : A.units + 1 < cLine) {Q : Value → Shared → Prop} (I : Inv X pins σ H s) (d : DicK X H a ys) (hk : SqT X.K H b (k.map kV)) (h : ∀ s', Inv X pins σ H s' → Q (.bool (!(atKey ys k).isSome)) s') :
    wpAny (model X.prog X.w) A (compareOp .NotIn (.ref b) (.ref a)) Q E s :=
  wpAny_notIn_heap (tupleKind_room_in1 hu) (key_at I hk) (dic_at I d).2 (dic_at I d).1 (h _ (I.tok _))
theorem dic_get (hu : A.units + 1 < cLine) {Q : Value → Shared → Prop} (I : Inv X pins σ H s) (d : DicK X H a ys) (hk : SqT X.K H b (k.map kV)) (h : ∀ s', Inv X pins σ H s' → Q (((atKey ys k).map (·.2)).getD .none) s') :
    wpAny (model X.prog X.w) A (call (.builtin "dict.get") [.ref a, .ref b]) Q E s := by
  obtain ⟨dd, hd⟩ := dic_at I d
  exact call_meetsIn PySem.F.slot_dict_get dd.typeIs PySem.F.entry_dict_get (PySem.F.args_dict_get_2 _ _) (meetsH_dict_get (tk X) a b hd) ⟨tupleKind_room_in1 hu, k, ys, key_at I hk, dd, h _ (I.tok _)⟩
theorem dic_set (hu : A.units + 1 < cLine) {Q : Unit → Shared → Prop} {u : Value} (I : Inv X pins σ H s) (d : DicK X H a ys) (hk : SqT X.K H b (k.map kV)) (hl : ys.length ≤ sizeLine)
    (h : ∀ es ep s', es.toList = (storedH ys k b u).map (entryOfKey (tk X)) → ((storedH ys k b u).map (·.1)).Nodup → Inv X pins σ (upd H a (dicO a es ep)) s' → Q () s') :
    wpAny (model X.prog X.w) A (setItem (.ref a) (.ref b) u) Q E s := by
  obtain ⟨dd, hd⟩ := dic_at I d
  obtain ⟨es0, ep0, h1, _⟩ := d
  refine wpAny_setItem_heap (hsz := hl) (tupleKind_room_in1 hu) (key_at I hk) dd fun h' dd' hs => ?_
  obtain ⟨q, es, ep, hq, h2, h3, h4, _, h5⟩ := dd'
  exact h es ep _ h4 h5 (d_write I (by rw [h1]; exact True.intro) hs ⟨q, hq⟩ (dicO_ok ⟨q, hq, h2, h3⟩ hd))
/-- {k: v} -/
def tDisp1 (X : Cx) (tkk tv : TE) : TE := fun σ H Q => ∀ q, H q = none → tkk σ (upd H q (dicO q #[] 0)) fun y H1 => tv σ H1 fun v H2 =>
  ∃ b k, H2 q = some (dicO q #[] 0) ∧ y = .ref b ∧ SqT X.K H2 b (k.map kV) ∧ ∀ es ep u, RelV v u → es.toList = [(k, b, u)].map (entryOfKey (tk X)) → Q (.ref q) (upd H2 q (dicO q es ep))
theorem pe_disp1 {ek ev : PySem.Expr} {pos : Pos} {tkk tv : TE} (hu : X.A.units + 1 < cLine) (hk : PE X ek tkk) (hv : PE X ev tv) : PE X (.Dict [some ek] [ev] pos) (tDisp1 X tkk tv) := by
  refine ⟨fun pins s σ H Q I q => ?_⟩
  have hn := I.hok.fresh (Nat.le_refl s.heap.objs.size)
  have hsys : (s.heap.objs.size == sysModules) = false := beq_eq_false_iff_ne.mpr (Ne.symm (Nat.ne_of_lt I.big))
  have I1 := I.laid (a := s.heap.objs.size) (o := dicO s.heap.objs.size #[] 0) (h' := s.heap.push { cls := .type "dict", data := .dict #[] }) (t' := s.toks) (fun _ _ q => Heap.get?_push_of_some _ q) (Nat.le_refl _) (dicO_ok ⟨_, Heap.get?_push_size _ rfl, ⟨rfl, rfl, rfl⟩, rfl⟩ hsys)
  refine wpAny_Dict_any rfl rfl (by simp) (Nat.le_of_ble_eq_true rfl) (pairTrees_cons_walk (thn (hk.run pins _ σ _ _ I1 (q _ hn)) fun u s1 ⟨y, H1, I2, ry, q1⟩ => thn (hv.run pins s1 σ H1 _ I2 q1) fun w s2 ⟨v, H2, I3, rv, b, k, e1, e2, e3, e4⟩ => pairTrees_nil_walk ?_))
  subst e2
  cases (show u = Value.ref b from ry)
  obtain ⟨dd, _⟩ := dic_at (ys := []) I3 ⟨#[], 0, e1, rfl, List.nodup_nil, fun y hy => nomatch hy⟩
  refine wpAny_storeAllH (knd := tk X) (by show X.A.units < cLine; omega) [(.ref b, w)] [(k, b, w)] [] s2 _ ⟨rfl, rfl, key_at I3 e3, trivial⟩ dd (by rw [sizeLine_eq]; exact Nat.le_of_ble_eq_true rfl) fun h' tk' dd' hs' => ?_
  obtain ⟨o, es, ep, hq, h2, h3, h4, _, h5⟩ := dd'
  exact ⟨.ref s.heap.objs.size, _, d_write I3 (by rw [e1]; exact True.intro) hs' ⟨o, hq⟩ (dicO_ok ⟨o, hq, h2, h3⟩ hsys), rfl, e4 es ep w rv h4⟩
theorem pe_dnewD {pos : Pos} : PE X (.Dict [] [] pos) (fun _ H Q => ∀ q, H q = none → Q (.ref q) (upd H q (dicO q #[] 0))) := ⟨fun pins s σ H Q I h => by
  have hsys : (s.heap.objs.size == sysModules) = false := beq_eq_false_iff_ne.mpr (Ne.symm (Nat.ne_of_lt I.big))
  exact wpAny_Dict_empty ⟨.ref s.heap.objs.size, _, I.laid (a := s.heap.objs.size) (o := dicO s.heap.objs.size #[] 0) (t' := s.toks) (fun _ _ q => Heap.get?_push_of_some _ q) (Nat.le_refl _) (dicO_ok ⟨_, Heap.get?_push_size _ rfl, ⟨rfl, rfl, rfl⟩, rfl⟩ hsys), rfl, h _ (I.hok.fresh (Nat.le_refl _))⟩⟩
end
/-! ### the table that is kept, the table that stands -/
section
variable {K : PySem.W.Frag} {F F' H : Hp}
theorem KyR.val {kvs : List (List Key × D)} {ys : List (List Key × Addr × Value)} (r : Paired (KyR K F) kvs ys) (k : List Key) :
    (lookD kvs k = none ∧ atKey ys k = none) ∨ ∃ d b u v, lookD kvs k = some d ∧ atKey ys k = some (b, u) ∧ RelV v u ∧ Rp K F v d := by
  induction r with
  | nil => exact .inl ⟨rfl, rfl⟩
  | @cons p q ps qs h t ih =>
    obtain ⟨h1, _, v, h2, h3⟩ := h
    by_cases e : p.1 = k
    · have e' : q.1 = k := h1.symm.trans e
      exact .inr ⟨p.2, q.2.1, q.2.2, v, by simp [lookD, List.find?_cons, e], by simp [atKey, List.find?_cons, e'], h2, h3⟩
    · have e' : ¬ q.1 = k := fun z => e (h1.trans z)
      have b1 : lookD (p :: ps) k = lookD ps k := by simp [lookD, List.find?_cons, e]
      have b2 : atKey (q :: qs) k = atKey qs k := by simp [atKey, List.find?_cons, e']
      rw [b1, b2]; exact ih
theorem KyR.some_eq {kvs : List (List Key × D)} {ys : List (List Key × Addr × Value)} (r : Paired (KyR K F) kvs ys) (k : List Key) : (atKey ys k).isSome = (lookD kvs k).isSome := by
  rcases KyR.val r k with ⟨h1, h2⟩ | ⟨d, b, u, v, h1, h2, _⟩ <;> rw [h1, h2] <;> rfl
theorem KyR.put {kvs : List (List Key × D)} {ys : List (List Key × Addr × Value)} (r : Paired (KyR K F) kvs ys) (k : List Key) {b : Addr} {v : V} {u : Value} {d : D} (hb : SqT K F b (k.map kV)) (ru : RelV v u) (rv : Rp K F v d) :
    Paired (KyR K F) (putD kvs k d) (storedH ys k b u) := by
  have repl : ∀ {kvs : List (List Key × D)} {ys : List (List Key × Addr × Value)}, Paired (KyR K F) kvs ys → Paired (KyR K F) (kvs.map fun kv => if kv.1 = k then (kv.1, d) else kv) (ys.map (putAt k u)) := fun {kvs ys} r => by
    induction r with
    | nil => exact .nil
    | @cons p q ps qs h t ih =>
      rw [List.map_cons, List.map_cons]
      refine .cons ?_ ih
      obtain ⟨h1, h2, w, h3, h4⟩ := h
      unfold putAt
      by_cases e : p.1 = k
      · rw [if_pos e, if_pos (h1.symm.trans e)]; exact ⟨h1, h2, v, ru, rv⟩
      · rw [if_neg e, if_neg (fun z => e (h1.trans z))]; exact ⟨h1, h2, w, h3, h4⟩
  have e := KyR.some_eq r k
  unfold putD storedH
  rw [e]
  by_cases q : (lookD kvs k).isSome = true
  · rw [if_pos q, if_pos q]; exact repl r
  · rw [if_neg q, if_neg q]; exact Paired.snoc r ⟨rfl, hb, v, ru, rv⟩
theorem keys_rp : ∀ {ds : List D} {ks : List Key} {xs : List V}, keysOf ds = some ks → RpAll K F xs ds → xs = ks.map kV
  | [], ks, xs, h, r => by cases h; cases r; rfl
  | .int i :: ds, ks, xs, h, r => by
    unfold keysOf at h
    cases e : keysOf ds with
    | none => rw [e] at h; cases h
    | some ks' =>
      rw [e] at h; cases h
      cases r with
      | cons a t => cases a; rw [keys_rp e t]; rfl
  | .str x :: ds, ks, xs, h, r => by
    unfold keysOf at h
    cases e : keysOf ds with
    | none => rw [e] at h; cases h
    | some ks' =>
      rw [e] at h; cases h
      cases r with
      | cons a t => cases a; rw [keys_rp e t]; rfl
  | .none :: _, _, _, h, _ => by cases h
  | .bool _ :: _, _, _, h, _ => by cases h
  | .list _ :: _, _, _, h, _ => by cases h
  | .tuple _ :: _, _, _, h, _ => by cases h
  | .dict _ :: _, _, _, h, _ => by cases h
theorem rp_key {v : V} {d : D} {ks : List Key} (h : keyOf d = some ks) (r : Rp K F v d) : ∃ b, v = .ref b ∧ SqT K F b (ks.map kV) := by
  cases d with
  | tuple ds =>
    cases r with
    | tup q a =>
      have := keys_rp (show keysOf ds = some ks from h) a
      subst this
      exact ⟨_, rfl, q⟩
  | _ => cases h
end
section
variable {X : Cx} {p : Pm} {cl : Str → Value} {Ex : XK} {G : Genv} {CX : CXT} {sc : Scope} {env : En} {σ : L2.St} {F H : Hp} {i : Nat} {kvs : List (List Key × D)} {k : E}
theorem mem_paired {α β : Type} {R : α → β → Prop} {l : List α} {m : List β} (h : Paired R l m) {y : β} (hy : y ∈ m) : ∃ x, R x y := by
  induction h with
  | nil => cases hy
  | cons h t ih =>
    rcases List.mem_cons.mp hy with e | hy
    · subst e; exact ⟨_, h⟩
    · exact ih hy
theorem dicOw_at (h : dicOw env i = some kvs) : env[i]? = some (.dic kvs) := by
  unfold dicOw at h
  split at h
  · rename_i k e; cases h; exact e
  · cases h
theorem dicAt_cases (h : dicAt env i = some kvs) : env[i]? = some (.dic kvs) ∨ env[i]? = some (.dif kvs) := by
  unfold dicAt at h
  split at h
  · rename_i k e; cases h; exact .inl e
  · rename_i k e; cases h; exact .inr e
  · cases h
theorem dicIs_k (C : Cxt p G cl CX Ex sc X) {a : Addr} {H' : Hp} (sm : Same F H') (h : DicIs p F a (H' a) kvs) : ∃ ys, DicK X H' a ys ∧ Paired (KyR p.K F) kvs ys := by
  obtain ⟨es, ep, ys, h1, h2, h3, h4⟩ := h
  refine ⟨ys, ⟨es, ep, h1, ?_, h3, fun y hy => ?_⟩, h4⟩
  · rw [h2, C.hs]; rfl
  · obtain ⟨x, _, q, _⟩ := mem_paired h4 hy
    rw [C.k]; exact sqt_same sm q
theorem dic_own (C : Cxt p G cl CX Ex sc X) (r : Rel p env σ F H) (h : dicOw env i = some kvs) : ∃ a ys, env[i]? = some (.dic kvs) ∧ σ[i]? = some (some (V.ref a)) ∧ F a = none ∧ DicK X H a ys ∧ Paired (KyR p.K F) kvs ys := by
  have he := dicOw_at h
  obtain ⟨a, e1, e2, e3, e4⟩ := r.dio i _ he rfl
  obtain ⟨ys, h1, h2⟩ := dicIs_k C r.hr.sub e4
  exact ⟨a, ys, he, e1, e2, h1, h2⟩
theorem dic_rel (C : Cxt p G cl CX Ex sc X) (r : Rel p env σ F H) (h : dicAt env i = some kvs) : ∃ a ys, σ[i]? = some (some (V.ref a)) ∧ DicK X H a ys ∧ Paired (KyR p.K F) kvs ys := by
  rcases dicAt_cases h with he | he
  · obtain ⟨a, e1, e2, e3, e4⟩ := r.dio i _ he rfl
    obtain ⟨ys, h1, h2⟩ := dicIs_k C r.hr.sub e4
    exact ⟨a, ys, e1, h1, h2⟩
  · obtain ⟨a, e1, e2⟩ := r.dfo i _ he
    have e3 : DicIs p F a (H a) kvs := by
      obtain ⟨es, ep, ys, h1, h2⟩ := e2
      exact ⟨es, ep, ys, r.hr.sub _ _ h1, h2⟩
    obtain ⟨ys, h1, h2⟩ := dicIs_k C r.hr.sub e3
    exact ⟨a, ys, e1, h1, h2⟩
theorem dicAt_some {env : En} {i : Nat} {kvs : List (List Key × D)} (h : env[i]? = some (.dic kvs)) : dicAt env i = some kvs := by unfold dicAt; rw [h]
/-- k in the dict, k not in it -/
def tDin (X : Cx) (neg : Bool) (i : Nat) (tkk : TE) : TE := fun σ H Q => tkk σ H fun v H1 => ∃ a b ks ys, σ[i]? = some (some (V.ref a)) ∧ DicK X H1 a ys ∧ v = .ref b ∧ SqT X.K H1 b (ks.map kV) ∧ Q (.bl (if neg then !(atKey ys ks).isSome else (atKey ys ks).isSome)) H1
theorem pc_dic {neg : Bool} {ek : PySem.Expr} {x : Str} {px : Pos} {tkk : TE} (hu : X.A.units + 1 < cLine) (hk : PE X ek tkk) (hx : PE X (.Name x px) (tVar i)) : PC X (if neg then CmpOp.NotIn else CmpOp.In) ek (.Name x px) (tDin X neg i tkk) := by
  refine ⟨fun pins s σ H Q I h => ?_⟩
  refine thn (hk.run pins s σ H _ I h) fun iv s1 ⟨y, H1, I1, ry, a, b, ks, ys, e1, dk, ey, hky, q1⟩ => thn (hx.run pins s1 σ H1 (fun v H2 => v = .ref a ∧ H2 = H1) I1 ⟨_, e1, rfl, rfl⟩) fun u s2 ⟨x, H2, I2, rx, e3, e4⟩ => ?_
  subst e3; subst e4; subst ey
  obtain rfl : u = Value.ref a := rx
  obtain rfl : iv = Value.ref b := ry
  cases neg with
  | false => exact dic_in hu I2 dk hky fun s3 I3 => ⟨V.bl (atKey ys ks).isSome, _, I3, rfl, q1⟩
  | true => exact dic_notIn hu I2 dk hky fun s3 I3 => ⟨V.bl (!(atKey ys ks).isSome), _, I3, rfl, q1⟩
theorem din_core {neg : Bool} (C : Cxt p G cl CX Ex sc X) {R : Bool → Hp → Prop} (r : Rel p env σ F H) (q : Po p cl Ex env σ F H (ev G (.din neg k i) env) fun d _ _ H' => ∀ kb, d = .bool kb → R kb H') :
    tDin X neg i (TR p cl Ex G k) σ H fun z H' => ∃ kb, z = .bl kb ∧ R kb H' := by
  unfold ev at q
  refine ⟨F, env, r, q.bind'.imp fun d env' F' H' r' s' q' v hv => ?_⟩
  dsimp only at q'
  split at q'
  · rename_i ks kvs e1 e2
    obtain ⟨a, ys, g1, g2, g3⟩ := dic_rel C r' e2
    obtain ⟨b, rfl, hb⟩ := rp_key e1 hv
    refine ⟨a, b, ks, ys, g1, g2, rfl, by rw [C.k]; exact sqt_same r'.hr.sub hb, _, rfl, ?_⟩
    rw [KyR.some_eq g3]
    exact q'.now r' (Step.refl _ _ _ _) _ rfl
  · exact q'.elim
theorem s_din {neg : Bool} {ek : PySem.Expr} {x : Str} {px pos : Pos} (C : Cxt p G cl CX Ex sc X) (h1 : nmB X.N i x = true) (h2 : visB sc x = true) (hk : PE X ek (TR p cl Ex G k)) :
    PE X (.Compare ek [if neg then CmpOp.NotIn else CmpOp.In] [.Name x px] pos) (TB p cl Ex G (.din neg k i)) ∧ PT X (.Compare ek [if neg then CmpOp.NotIn else CmpOp.In] [.Name x px] pos) (TT_ p cl Ex G (.din neg k i)) := by
  obtain ⟨n1, n2, n3⟩ := nm_at h1
  have hu : X.A.units + 1 < cLine := by have := C.un; omega
  have hpc := pc_dic (neg := neg) hu hk (pe_var (pos := px) n1 (vis_of C.sc h2) n2 n3)
  have hm : behindInMarks (if neg then CmpOp.NotIn else CmpOp.In) (.Name x px) = false := by cases neg <;> rfl
  refine ⟨⟨fun pins s σ H Q I ⟨F, env, r, q⟩ => ?_⟩, PT.weak (pt_cmp hpc hm) fun σ H Q ⟨F, env, r, q⟩ => ?_⟩
  · refine thn ((pe_cmp hpc hm).run pins s σ H _ I (din_core (R := fun k H' => Q (.bl k) H') C r (q.imp fun d env' F' H' _ _ k kb e => k _ (by subst e; exact res_bool)))) fun u s' ⟨v, H', I', rv, k, e, q'⟩ => ?_
    exact ⟨v, H', I', rv, by rw [e]; exact q'⟩
  · exact din_core (R := Q) C r (q.imp fun d env' F' H' _ _ ⟨k, e1, e2⟩ kb e => by subst e; cases e1; exact e2)
/-- the dict's get -/
theorem s_dget {x : Str} {v : PySem.Expr} {px ap pos : Pos} (C : Cxt p G cl CX Ex sc X) (h1 : nmB X.N i x = true) (h2 : visB sc x = true) (hl : (ap.endLine == pos.line) = true) (hs : starEach [v] X.env = (false, eval v X.env) :: starEach [] X.env) (hk : PE X v (TR p cl Ex G k)) :
    PE X (.Call (.Attribute (.Name x px) "get" ap) [v] [] pos) (TB p cl Ex G (.dget i k)) := by
  obtain ⟨n1, n2, n3⟩ := nm_at h1
  have hu : X.A.units + 1 < cLine := by have := C.un; omega
  have hx := pe_var (pos := px) n1 (vis_of C.sc h2) n2 n3
  have hst : backTo pos (starEach [v] X.env) = [(false, eval v X.env)] := by rw [hs]; rfl
  refine ⟨fun pins s σ H Q I ⟨F, env, r, q⟩ => ?_⟩
  unfold ev at q
  split at q
  case isFalse => exact q.elim
  rename_i hi
  obtain ⟨kvs0, hk0⟩ := Option.isSome_iff_exists.mp hi
  obtain ⟨a, ys0, g1, g2, _⟩ := dic_rel C r hk0
  refine wpAny_Call_method (by rfl) (by rw [hst]; rfl) hl PySem.F.plainAttrs_dict PySem.F.slot_dict_get PySem.F.type_dict_get (thn (hx.run pins s σ H (fun v H2 => v = .ref a ∧ H2 = H) I ⟨_, g1, rfl, rfl⟩) fun u s1 ⟨x, H1, I1, rx, e3, e4⟩ => ?_)
  subst e3; subst e4
  obtain rfl : u = Value.ref a := rx
  obtain ⟨dd, _⟩ := dic_at I1 g2
  refine ⟨dd.typeIs, fun b z => ?_, ?_⟩
  · cases z
    obtain ⟨ob, _, _, q1, q2, _⟩ := dd
    exact ⟨ob, q1, q2.2.1⟩
  rw [hst]
  refine Calls.callWith_builtin rfl (Calls.evalArgs_plain (Calls.spliced_cons (thn (hk.run pins s1 σ _ (fun y H2 => ∃ b ks ys, DicK X H2 a ys ∧ y = .ref b ∧ SqT X.K H2 b (ks.map kV) ∧ ∃ w, RelV w (((atKey ys ks).map (·.2)).getD .none) ∧ Q w H2) I1 ⟨F, env, r, q.bind'.imp fun d env' F' H' r' s' q' v hv => ?_⟩) fun iv s2 ⟨y, H2, I2, ry, b, ks, ys, dk, ey, hky, q2⟩ => Calls.spliced_nil ?_)))
  · dsimp only at q'
    split at q'
    · rename_i ks kvs e1 e2
      obtain ⟨a', ys, g1', g2', g3⟩ := dic_rel C r' e2
      rw [g1] at g1'; cases g1'
      obtain ⟨b, rfl, hb⟩ := rp_key e1 hv
      refine ⟨b, ks, ys, g2', rfl, by rw [C.k]; exact sqt_same r'.hr.sub hb, ?_⟩
      rcases KyR.val g3 ks with ⟨l1, l2⟩ | ⟨d1, b1, u1, v1, l1, l2, l3, l4⟩
      · rw [l1] at q'; rw [l2]
        exact ⟨.non, rfl, q'.now r' (Step.refl _ _ _ _) _ (.non)⟩
      · rw [l1] at q'; rw [l2]
        exact ⟨v1, l3, q'.now r' (Step.refl _ _ _ _) _ l4⟩
    · exact q'.elim
  · subst ey
    obtain rfl : iv = Value.ref b := ry
    obtain ⟨w, hw, q3⟩ := q2
    exact dic_get hu I2 dk hky fun s3 I3 => ⟨w, H2, I3, hw, q3⟩
/-- .. with a default -/
theorem dic_getd {pins : List (Addr × Obj)} {s : Shared} {a b : Addr} {k : List Key} {ys : List (List Key × Addr × Value)} {A : Around} {E : Value → Shared → Prop} (hu : A.units + 1 < cLine) {u : Value} {Q : Value → Shared → Prop} (I : Inv X pins σ H s) (d : DicK X H a ys) (hk : SqT X.K H b (k.map kV)) (h : ∀ s', Inv X pins σ H s' → Q (((atKey ys k).map (·.2)).getD u) s') :
    wpAny (model X.prog X.w) A (call (.builtin "dict.get") [.ref a, .ref b, u]) Q E s := by
  obtain ⟨dd, hd⟩ := dic_at I d
  exact call_meetsIn PySem.F.slot_dict_get dd.typeIs PySem.F.entry_dict_get (PySem.F.args_dict_get_3 _ _ _) (meetsH_dict_get_default (tk X) a b hd u) ⟨tupleKind_room_in1 hu, k, ys, key_at I hk, dd, h _ (I.tok _)⟩
theorem s_dgetd {x : Str} {v w : PySem.Expr} {px ap pos : Pos} {d : E} (C : Cxt p G cl CX Ex sc X) (h1 : nmB X.N i x = true) (h2 : visB sc x = true) (hl : (ap.endLine == pos.line) = true) (hs : starEach [v, w] X.env = [(false, eval v X.env), (false, eval w X.env)]) (hk : PE X v (TR p cl Ex G k)) (hd : PE X w (TR p cl Ex G d)) :
    PE X (.Call (.Attribute (.Name x px) "get" ap) [v, w] [] pos) (TB p cl Ex G (.dgetd i k d)) := by
  obtain ⟨n1, n2, n3⟩ := nm_at h1
  have hu : X.A.units + 1 < cLine := by have := C.un; omega
  have hx := pe_var (pos := px) n1 (vis_of C.sc h2) n2 n3
  have hst : backTo pos (starEach [v, w] X.env) = [(false, eval v X.env), (false, eval w X.env)] := by rw [hs]; rfl
  refine ⟨fun pins s σ H Q I ⟨F, env, r, q⟩ => ?_⟩
  unfold ev at q
  split at q
  case isFalse => exact q.elim
  rename_i hi
  obtain ⟨kvs0, hk0⟩ := Option.isSome_iff_exists.mp hi
  obtain ⟨a, ys0, g1, g2, _⟩ := dic_rel C r hk0
  refine wpAny_Call_method (by rfl) (by rw [hst]; rfl) hl PySem.F.plainAttrs_dict PySem.F.slot_dict_get PySem.F.type_dict_get (thn (hx.run pins s σ H (fun v H2 => v = .ref a ∧ H2 = H) I ⟨_, g1, rfl, rfl⟩) fun u s1 ⟨x, H1, I1, rx, e3, e4⟩ => ?_)
  subst e3; subst e4
  obtain rfl : u = Value.ref a := rx
  obtain ⟨dd, _⟩ := dic_at I1 g2
  refine ⟨dd.typeIs, fun b z => ?_, ?_⟩
  · cases z
    obtain ⟨ob, _, _, q1, q2, _⟩ := dd
    exact ⟨ob, q1, q2.2.1⟩
  rw [hst]
  refine Calls.callWith_builtin rfl (Calls.evalArgs_plain (Calls.spliced_cons (thn (hk.run pins s1 σ _ _ I1 ⟨F, env, r, q.bind'.imp fun kd env1 F1 H1 r1 s1 q1 v hv => (show TR p cl Ex G d σ H1 fun y2 H2 => ∃ b ks ys, DicK X H2 a ys ∧ v = .ref b ∧ SqT X.K H2 b (ks.map kV) ∧ ((atKey ys ks = none ∧ Q y2 H2) ∨ ∃ pr z, atKey ys ks = some pr ∧ RelV z pr.2 ∧ Q z H2) from ⟨F1, env1, r1, q1.bind'.imp fun dd env2 F2 H2 r2 s2 q2 y2 hy2 => ?_⟩)⟩) fun iv s2 ⟨y, H2, I2, ry, q2⟩ => Calls.spliced_cons (thn (hd.run pins s2 σ H2 _ I2 q2) fun w2 s3 ⟨z, H3, I3, rz, b, ks, ys, dk, ey, hky, q3⟩ => Calls.spliced_nil ?_))))
  · dsimp only at q2
    split at q2
    · rename_i ks kvs e1 e2
      obtain ⟨a', ys, g1', g2', g3⟩ := dic_rel C r2 e2
      rw [g1] at g1'; cases g1'
      obtain ⟨b, rfl, hb⟩ := rp_key e1 hv
      refine ⟨b, ks, ys, g2', rfl, by rw [C.k]; exact sqt_same r2.hr.sub (sqt_same s2.sub hb), ?_⟩
      rcases KyR.val g3 ks with ⟨l1, l2⟩ | ⟨d1, b1, u1, v1, l1, l2, l3, l4⟩
      · rw [l1] at q2
        exact .inl ⟨l2, q2.now r2 (Step.refl _ _ _ _) _ hy2⟩
      · rw [l1] at q2
        exact .inr ⟨_, v1, l2, l3, q2.now r2 (Step.refl _ _ _ _) _ l4⟩
    · exact q2.elim
  · subst ey
    obtain rfl : iv = Value.ref b := ry
    rcases q3 with ⟨q3, q4⟩ | ⟨pr, z', q3, q4, q5⟩
    · exact dic_getd hu I3 dk hky fun s4 I4 => by rw [q3]; exact ⟨z, H3, I4, rz, q4⟩
    · exact dic_getd hu I3 dk hky fun s4 I4 => by rw [q3]; exact ⟨z', H3, I4, q4, q5⟩
/-- an item of the dict -/
def rIxDic (X : Cx) : R2 := fun x y H Q => ∃ a b ks ys pr z, x = .ref a ∧ y = .ref b ∧ DicK X H a ys ∧ SqT X.K H b (ks.map kV) ∧ atKey ys ks = some pr ∧ RelV z pr.2 ∧ Q z H
theorem ix_dic (hu : X.A.units + 1 < cLine) : IxR X (rIxDic X) := by
  intro value slice pins s σ H x y v u Q I rx ry h hs
  obtain ⟨a, b, ks, ys, pr, z, rfl, rfl, dk, hk, hp, hz, q⟩ := h
  cases rx
  cases ry
  obtain ⟨dd, _⟩ := dic_at I dk
  refine tail_any (ops := [.ref a, .ref b]) dd.typeIs (PySem.F.slot_dict_getitem.lookup) ?_ hs
  exact wpAny_getItem_heap (tupleKind_room_in1 hu) (key_at I hk) dd hp ⟨z, H, I.tok _, hz, q⟩
theorem s_didx {x : Str} {ix : PySem.Expr} {px pos : Pos} (C : Cxt p G cl CX Ex sc X) (hpl : PlainIx ix) (h1 : nmB X.N i x = true) (h2 : visB sc x = true) (hk : PE X ix (TR p cl Ex G k)) : PE X (.Subscript (.Name x px) ix pos) (TB p cl Ex G (.didx i k)) := by
  obtain ⟨n1, n2, n3⟩ := nm_at h1
  have hu : X.A.units + 1 < cLine := by have := C.un; omega
  refine PE.weak (pe_ix (ix_dic hu) (pe_var n1 (vis_of C.sc h2) n2 n3) hk hpl) fun σ H Q ⟨F, env, r, q⟩ => ?_
  unfold ev at q
  split at q
  case isFalse => exact q.elim
  rename_i hi
  obtain ⟨kvs0, hk0⟩ := Option.isSome_iff_exists.mp hi
  obtain ⟨a, ys0, g1, g2, _⟩ := dic_rel C r hk0
  refine ⟨.ref a, g1, F, env, r, q.bind'.imp fun kd env1 F1 H1 r1 s1 q1 v hv => ?_⟩
  dsimp only at q1
  split at q1
  · rename_i ks kvs e1 e2
    obtain ⟨a', ys, g1', g2', g3⟩ := dic_rel C r1 e2
    rw [g1] at g1'; cases g1'
    obtain ⟨b, rfl, hb⟩ := rp_key e1 hv
    obtain ⟨d2, e, kk⟩ := q1.ret1
    rcases KyR.val g3 ks with ⟨l1, l2⟩ | ⟨d1, b1, u1, v1, l1, l2, l3, l4⟩
    · rw [l1] at e; cases e
    · rw [l1] at e; cases e
      exact ⟨a, b, ks, ys, _, v1, rfl, rfl, g2', by rw [C.k]; exact sqt_same r1.hr.sub hb, l2, l3, kk F1 H1 r1 (Step.refl _ _ _ _) v1 l4⟩
  · exact q1.elim
end
end Rv

set_option Elab.async false
set_option linter.all false
set_option maxRecDepth 100000
set_option maxHeartbeats 4000000
/-! Rv7: slices, isinstance, calls. -/
namespace HT
open PySem PySem.Spec PyProof.Rows L2
section
variable {prog : Program} {w : World} {A : Around} {E : Value → Shared → Prop} {s : Shared}
theorem places_rev (n : Nat) : Builtin.Slice.slicePlaces ((n : Int) - 1) (-1) (-1) = n := by
  unfold Builtin.Slice.slicePlaces
  have h1 : ¬ ((-1 : Int) > 0) := by omega
  simp only [h1, if_false]
  split
  · have : ((n : Int) - 1 - -1 - 1) / (- -1) + 1 = n := by
      have e : (- -1 : Int) = 1 := by omega
      rw [e, Int.ediv_one]; omega
    rw [this]; omega
  · omega
theorem sliceApplied_rev {sl : Addr} {vl vu vs : Value} {n : Nat} {Q : Int × Int × Nat → Shared → Prop} (hs : s.heap.IsSliceOf sl vl vu vs) (pl : IsPart vl none) (pu : IsPart vu none) (ps : IsPart vs (some (-1)))
    (h : Q ((n : Int) - 1, -1, n) s) : wpAny (model prog w) A (Builtin.Slice.sliceApplied (.ref sl) (pure (n : Int))) Q E s := by
  obtain ⟨os, hos, hcs, hds⟩ := id hs
  unfold Builtin.Slice.sliceApplied Builtin.Slice.sliceFields
  refine wpAny_bind (wpAny_bind (wpAny_field hos hds (x := vl) rfl (wpAny_bind (wpAny_field hos hds (x := vu) rfl (wpAny_bind (wpAny_field hos hds (x := vs) rfl (wpAny_pure ?_)))))))
  refine wpAny_bind (slicePart_ ps ?_)
  show wpAny _ _ (if ((-1 : Int) == 0) = true then _ else _) _ _ s
  rw [if_neg (by decide)]
  refine wpAny_bind (slicePart_ pl (wpAny_bind (slicePart_ pu (wpAny_bind (wpAny_pure ?_)))))
  show wpAny _ _ (match Builtin.Slice.sliceAdjust none none (-1) (n : Int) with | (lo, hi) => pure (lo, (-1 : Int), Builtin.Slice.slicePlaces lo hi (-1))) _ _ s
  have e : Builtin.Slice.sliceAdjust none none (-1) (n : Int) = ((n : Int) - 1, -1) := rfl
  rw [e]
  show wpAny _ _ (pure ((n : Int) - 1, (-1 : Int), Builtin.Slice.slicePlaces ((n : Int) - 1) (-1) (-1))) _ _ s
  rw [places_rev]
  exact wpAny_pure h
theorem filterMap_congr' {α β : Type} {f g : α → Option β} : ∀ {l : List α}, (∀ a ∈ l, f a = g a) → l.filterMap f = l.filterMap g
  | [], _ => rfl
  | a :: l, h => by
    rw [List.filterMap_cons, List.filterMap_cons, h a List.mem_cons_self, filterMap_congr' fun b hb => h b (List.mem_cons_of_mem _ hb)]
theorem pick_rev (xs : Array Value) : ((List.range xs.size).filterMap fun (m : Nat) => xs[(((xs.size : Nat) : Int) - 1 + (m : Int) * (-1)).toNat]?).toArray = xs.toList.reverse.toArray := by
  have e : ∀ m ∈ List.range xs.size, (fun (m : Nat) => xs[(((xs.size : Nat) : Int) - 1 + (m : Int) * (-1)).toNat]?) m = (fun m => xs[xs.size - 1 - m]?) m := fun m hm => by
    have := List.mem_range.mp hm
    show xs[(((xs.size : Nat) : Int) - 1 + (m : Int) * (-1)).toNat]? = xs[xs.size - 1 - m]?
    have : (((xs.size : Nat) : Int) - 1 + (m : Int) * (-1)).toNat = xs.size - 1 - m := by omega
    rw [this]
  rw [filterMap_congr' e]
  have e2 : (fun m => xs[xs.size - 1 - m]?) = (fun i => xs[i]?) ∘ fun k => xs.size - 1 - k := rfl
  rw [e2, ← List.filterMap_map, PySem.W.krv_range, List.filterMap_reverse, PySem.W.krv_all]
theorem getItem_tuple_rev {t sl : Addr} {items : Array Value} {vl vu vs : Value} {Q : Value → Shared → Prop} (ht : IsTup s.heap t items) (hs : s.heap.IsSliceOf sl vl vu vs) (pl : IsPart vl none) (pu : IsPart vu none) (ps : IsPart vs (some (-1)))
    (h : Q (.ref s.heap.objs.size) { s with heap := s.heap.push { cls := .type "tuple", data := .seq items.toList.reverse.toArray } })
    (hsz : items.size ≤ sizeLine) : wpAny (model prog w) A (getItem (.ref t) (.ref sl)) Q E s := by
  have htake : sizeOk (.seq items.toList.reverse.toArray) := by
    show items.toList.reverse.toArray.size ≤ sizeLine
    rw [List.size_toArray, List.length_reverse, Array.length_toList]
    exact hsz
  obtain ⟨os, hos, hcs, hds⟩ := id hs
  have hTs : s.TypeIs (.ref sl) "slice" := ⟨os, hos, hcs⟩
  unfold getItem
  try with_reducible refine wpAny_holding ?_
  first | refine wpAny_bind (wpAny_pure ?_) | skip
  refine wpAny_bind (wpAny_sequenceKey ht.typeIs (by decide) ?_)
  refine wpAny_bind (wpAny_callSpecial?_slot (name := Str.ofString "__getitem__") ht.typeIs PyProof.Rows.slot_tuple_getitem
    (wpAny_call_entry PyProof.Rows.slot_tuple_getitem ht.typeIs entry_tuple_getitem ?_ (args_tuple_getitem _ _)))
  show wpAny _ _ (Builtin.Tuple.tupleItemsOf (.ref t) >>= _) _ _ s
  refine wpAny_bind (tupleItemsOf_ ht ?_)
  refine wpAny_bind (wpAny_typeOf hTs ?_)
  rw [if_pos (by decide)]
  refine wpAny_bind (sliceApplied_rev hs pl pu ps ?_)
  have hno : ¬ (((((items.size : Nat) : Int) - 1) == 0 && (-1 : Int) == 1 && items.size == items.size) = true) := by
    intro q
    rw [Bool.and_eq_true, Bool.and_eq_true] at q
    exact absurd q.1.2 (by decide)
  show wpAny _ _ (if (((((items.size : Nat) : Int) - 1) == 0 && (-1 : Int) == 1 && items.size == items.size) = true) then _ else _) _ _ s
  rw [if_neg hno, pick_rev]
  first
    | exact wpAny_bind (m := Builtin.Tuple.tupleExact _) (wpAny_newObj_type (wpAny_pure ⟨_, rfl, wpAny_pure h⟩) htake)
    | exact wpAny_bind (m := Builtin.Tuple.tupleExact _) (wpAny_newObj_type (wpAny_bind (wpAny_pure (wpAny_pure ⟨_, rfl, wpAny_pure h⟩))) htake)
    | exact wpAny_bind (wpAny_bind (m := Builtin.Tuple.tupleExact _) (wpAny_newObj_type (wpAny_pure (wpAny_pure ⟨_, rfl, wpAny_pure h⟩)) htake))
    | exact wpAny_bind (wpAny_bind (m := Builtin.Tuple.tupleExact _) (wpAny_newObj_type (wpAny_pure ⟨_, rfl, wpAny_pure h⟩) htake))
end
end HT
namespace Rv
open PySem PySem.Spec PyProof.Rows L2
section
variable {X : Cx}
def tRevA (K : PySem.W.Frag) (te : TE) : TE := fun σ H Q => te σ H fun x H1 => ∃ a xs, x = .ref a ∧ ((SqL K H1 a xs ∧ ∀ p, H1 p = none → Q (.ref p) (upd H1 p (.lst xs.reverse))) ∨ (SqT K H1 a xs ∧ ∀ p, H1 p = none → Q (.ref p) (upd H1 p (.tup xs.reverse))))
theorem pe_revA {e : PySem.Expr} {te : TE} {k : Nat} {p1 p2 p3 pos : Pos} (he : PE X e te) : PE X (.Subscript e (.Slice none none (some (.UnaryOp .USub (.Constant (.int 1) k p1) p2)) p3) pos) (tRevA X.K te) := by
  refine ⟨fun pins s σ H Q I h => ?_⟩
  refine Subscript_ (thn (he.run pins s σ H _ I h) fun v s1 ⟨x, H1, I1, r1, q1⟩ => ?_)
  obtain ⟨a, xs, ex, hx⟩ := q1
  subst ex
  cases r1
  have hst : PO X (some (.UnaryOp .USub (.Constant (.int 1) k p1) p2)) (tPart (tUn (rU fun i => .int (-i)) (tC (.int 1)))) := po_some (pe_un un_neg pe_int)
  refine wpAny_Slice (thn (po_none.run pins s1 σ H1 (fun o H2 => o = none ∧ H2 = H1) I1 ⟨rfl, rfl⟩) fun vl s2 ⟨l, H2, I2, pl, el, e2⟩ => ?_)
  subst el e2
  refine thn (po_none.run pins s2 σ H2 (fun o H3 => o = none ∧ H3 = H2) I2 ⟨rfl, rfl⟩) fun vu s3 ⟨u, H3, I3, pu, eu, e3⟩ => ?_
  subst eu e3
  refine thn (hst.run pins s3 σ H3 (fun o H4 => o = some (-1) ∧ H4 = H3) I3 ⟨1, rfl, -1, rfl, rfl, rfl⟩) fun vs s4 ⟨o, H4, I4, ps, eo, e4⟩ => ?_
  subst eo e4
  have I5 : Inv X pins σ H4 { s4 with heap := s4.heap.push { cls := .type "slice", data := .fields #[vl, vu, vs] } } := I4.kept (t' := s4.toks) fun b ob q => Heap.get?_push_of_some _ q
  show wpAny (model X.prog X.w) X.A (subscriptTail e (.Slice none none (some (.UnaryOp .USub (.Constant (.int 1) k p1) p2)) p3) (.ref a) (.ref s4.heap.objs.size)) (EP X pins σ Q) X.xe { s4 with heap := s4.heap.push { cls := .type "slice", data := .fields #[vl, vu, vs] } }
  rcases hx with ⟨hx, q⟩ | ⟨hx, q⟩
  · obtain ⟨its, r, ht, hz⟩ := I5.list hx
    have hlen := r.length
    refine tail_any (ops := [.ref a, .ref s4.heap.objs.size]) ht.isList.typeIs (PySem.slot_list_getitem.lookup) ?_ (by with_unfolding_all rfl)
    refine wpAny_getItem_list_slice ht.isList (Heap.IsSliceOf.new _ vl vu vs) pl pu ps (by decide) ?_ (by rw [List.size_toArray]; omega)
    rw [PySem.W.krv_pick]
    refine ⟨.ref _, _, I5.laid (t' := s4.toks) (o := .lst xs.reverse) (fun b ob q => Heap.get?_push_of_some _ q) (Nat.le_refl _) ?_, rfl, q _ (I5.hok.fresh (Nat.le_refl _))⟩
    exact ⟨by rw [List.length_reverse]; exact hz, _, 0, r.reverse, Heap.get?_push_size _ rfl⟩
  · obtain ⟨its, r, ht, hz⟩ := I5.tuple hx
    have hlen := r.length
    refine tail_any (ops := [.ref a, .ref s4.heap.objs.size]) ht.typeIs (PyProof.Rows.slot_tuple_getitem.lookup) ?_ (by with_unfolding_all rfl)
    refine HT.getItem_tuple_rev ht (Heap.IsSliceOf.new _ vl vu vs) pl pu ps ?_ (by rw [List.size_toArray]; omega)
    refine ⟨.ref _, _, I5.laid (t' := s4.toks) (o := .tup xs.reverse) (fun b ob q => Heap.get?_push_of_some _ q) (Nat.le_refl _) ?_, rfl, q _ (I5.hok.fresh (Nat.le_refl _))⟩
    exact ⟨by rw [List.length_reverse]; exact hz, _, r.reverse, IsTup.new _ _⟩
end
section
variable {X : Cx} {p : Pm} {cl : Str → Value} {Ex : XK} {G : Genv} {CX : CXT} {sc : Scope} {m a b c lo hi : E} {e ea eb ec : PySem.Expr} {pos : Pos}
theorem s_rev {k : Nat} {p1 p2 p3 : Pos} (C : Cxt p G cl CX Ex sc X) (ha : PE X ea (TV p cl Ex G a)) : PE X (.Subscript ea (.Slice none none (some (.UnaryOp .USub (.Constant (.int 1) k p1) p2)) p3) pos) (TB p cl Ex G (.rev a)) := by
  refine PE.weak (pe_revA ha) fun σ H Q ⟨F, env, r, q⟩ => ?_
  unfold ev at q
  refine ⟨F, env, r, q.bind'.imp fun d env' F' H' r' s' q' v hv => ?_⟩
  dsimp only at q'
  have out : ∀ {d2 : D}, (∀ F'' H'', Rel p env' σ F'' H'' → Step env' σ F' H' env' F'' H'' → ∀ v, ResOk true p env' σ H F'' H'' v d2 → Q v H'') → Out p.K F' H' d2 Q := fun {d2} k => out_of r' s' k
  split at q'
  · obtain ⟨a, xs, rfl, h1, h2⟩ := hv.list r'.hr.sub
    rw [← C.k] at h1
    exact ⟨a, xs, rfl, .inl ⟨h1, fun u hu => (out q').lst u _ _ rfl hu h2.reverse⟩⟩
  · obtain ⟨a, xs, rfl, h1, h2⟩ := hv.tuple r'.hr.sub
    rw [← C.k] at h1
    exact ⟨a, xs, rfl, .inr ⟨h1, fun u hu => (out q').tup u _ _ rfl hu h2.reverse⟩⟩
  · exact q'.elim

/-! ### slices -/
def TO_ (p : Pm) (cl : Str → Value) (Ex : XK) (G : Genv) (m : E) : TO := fun σ H Q => ∃ F env, Rel p env σ F H ∧ Po p cl Ex env σ F H (partI (isNil m) (ev G m) env) fun o _ _ H' => Q o H'
theorem o_none (h : isNil m = true) : PO X none (TO_ p cl Ex G m) := ⟨fun pins s σ H Q I ⟨F, env, r, q⟩ => po_none.run pins s σ H Q I (by
  unfold partI at q
  rw [if_pos h] at q
  exact q.now r (Step.refl _ _ _ _))⟩
theorem o_some (h : isNil m = false) (ha : PE X e (TR p cl Ex G m)) : PO X (some e) (TO_ p cl Ex G m) := ⟨fun pins s σ H Q I ⟨F, env, r, q⟩ => (po_some ha).run pins s σ H Q I (by
  unfold partI at q
  rw [if_neg (by rw [h]; exact Bool.false_ne_true)] at q
  refine ⟨F, env, r, q.bind'.imp fun d env' F' H' r' s' q' v hv => ?_⟩
  dsimp only at q'
  split at q'
  · cases hv
    exact ⟨_, rfl, q'.now r' (Step.refl _ _ _ _)⟩
  · exact q'.elim)⟩
theorem s_sl {lo' hi' : Option PySem.Expr} {p2 : Pos} (C : Cxt p G cl CX Ex sc X) (ha : Opd X p cl Ex G a ea) (hl : PO X lo' (TO_ p cl Ex G lo)) (hh : PO X hi' (TO_ p cl Ex G hi)) : PE X (.Subscript ea (.Slice lo' hi' none p2) pos) (TB p cl Ex G (.sl a lo hi)) := by
  obtain ⟨ta, h1, h2, h3⟩ := ha
  refine PE.weak (pe_slice sl_dD h1 hl hh) fun σ H Q ⟨F, env, r, q⟩ => ?_
  unfold ev at q
  cases ep : peekOf a with
  | none =>
    rw [ep] at q
    refine h3 ep _ _ _ ⟨F, env, r, q.bind.imp fun d env1 F1 H1 r1 s1 q1 v hv => ?_⟩
    refine ⟨F1, env1, r1, q1.bind.imp fun l env2 F2 H2 r2 s2 q2 => ?_⟩
    refine ⟨F2, env2, r2, q2.bind.imp fun h env3 F3 H3 r3 s3 q3 => ?_⟩
    have s03 := (s1.trans s2).trans s3
    obtain ⟨d2, e, k⟩ := q3.ret1
    rw [C.k]
    refine ⟨F3, _, d2, r3.hr.sub, .rp (hv.mono (s2.sub.trans s3.sub)), e, out_of r3 s03 fun F'' H'' r4 s4 v2 hv2 => k F'' H'' r4 s4 (s3.trans s4) ((s2.trans s3).trans s4) (s03.trans s4) v2 hv2⟩
  | some i =>
    rw [ep] at q
    have et : ta = tVar i := by rw [h2 (by rw [ep]; rfl), ep]; rfl
    rw [et]
    dsimp only at q
    split at q
    · rename_i hi
      obtain ⟨l0, hl0⟩ := Option.isSome_iff_exists.mp hi
      obtain ⟨a0, e2, _⟩ := r.peek hl0
      refine ⟨_, e2, F, env, r, q.bind.imp fun l env2 F2 H2 r2 s2 q2 => ?_⟩
      refine ⟨F2, env2, r2, q2.bind.imp fun h env3 F3 H3 r3 s3 q3 => ?_⟩
      dsimp only at q3
      cases el : peekAt env3 i with
      | none => rw [el] at q3; exact q3.elim
      | some d =>
        rw [el] at q3
        dsimp only at q3
        obtain ⟨a1, e3, e4⟩ := r3.peek el
        rw [e2] at e3; cases e3
        obtain ⟨d2, e, k⟩ := q3.ret1
        rw [C.k]
        exact ⟨F3, _, d2, r3.hr.sub, e4, e, out_of r3 (s2.trans s3) fun F'' H'' r4 s4 v2 hv2 => k F'' H'' r4 s4 (s3.trans s4) ((s2.trans s3).trans s4) v2 hv2⟩
    · exact q.elim

/-! ### isinstance -/
theorem Ty.boot (t : Ty) : bootBuiltins (Str.ofString t.nm) = some (.type t.nm) := by cases t <;> decide +kernel
theorem Ty.blt (t : Ty) : Str.ofString t.nm ∈ bltNames := by cases t <;> decide +kernel
def tyNm : D → String
  | .none => "NoneType"
  | .bool _ => "bool"
  | .int _ => "int"
  | .str _ => "str"
  | .list _ => "list"
  | .tuple _ => "tuple"
  | .dict _ => "dict"
theorem tyx_of {K : PySem.W.Frag} {F H : Hp} {v : V} {d : D} (sm : Same F H) (h : Rp K F v d) : TyX K H v (.type (tyNm d)) := by
  cases h with
  | non => exact .base .non
  | bl b => exact .base (.bl b)
  | int i => exact .base (.int i)
  | str x => exact .base (.str x)
  | lst r a =>
    rcases r with (r | ⟨o, r⟩) | ⟨o, its, n, h1, h2, _⟩
    · exact .base (.lst (sm _ _ r))
    · exact .base (.frz (sm _ _ r))
    · exact .kList h1 h2
  | tup r a =>
    rcases r with (r | ⟨o, r⟩) | ⟨o, its, n, h1, h2, _⟩
    · exact .base (.tup (sm _ _ r))
    · exact .fTuple (sm _ _ r)
    · exact .kTuple h1 h2
theorem isi_tab (d : D) (t : Ty) (x : D) (h : isiD d t = some x) : ∃ k, x = .bool k ∧ kitB (tyNm d) t.nm = some k := by
  cases d <;> cases t <;> first
    | (exfalso; exact nomatch (show (none : Option D) = some x from h))
    | (cases h; exact ⟨true, rfl, by simp only [tyNm, Ty.nm]; decide +kernel⟩)
    | (cases h; exact ⟨false, rfl, by simp only [tyNm, Ty.nm]; decide +kernel⟩)
theorem s_isi {t : Ty} {p1 p2 pos : Pos} (C : Cxt p G cl CX Ex sc X) (hg : Gl X "isinstance") (hg2 : Gl X (Str.ofString t.nm)) (hs : starEach [ea, .Name (Str.ofString t.nm) p2] X.env = (false, eval ea X.env) :: starEach [.Name (Str.ofString t.nm) p2] X.env)
    (ha : PE X ea (TR p cl Ex G a)) : PE X (.Call (.Name "isinstance" p1) [ea, .Name (Str.ofString t.nm) p2] [] pos) (TB p cl Ex G (.isi a t)) := by
  have hn : (Str.ofString t.nm) ≠ "__name__" := by cases t <;> decide +kernel
  have hd : ((Str.ofString t.nm) == ("__debug__" : Str)) = false := by cases t <;> decide +kernel
  have ht : PE X (.Name (Str.ofString t.nm) p2) (tC (.ty t.nm)) := pe_bltn (v := .ty t.nm) hg2 (C.blt _ (Ty.blt t)) (Ty.boot t) rfl hn hd
  refine PE.weak (pe_callB call_isi hg (C.blt _ (by decide)) (by decide +kernel) (pa_cons ha (pa_cons ht pa_nil) hs) (by decide) (by decide) hs rfl) fun σ H Q ⟨F, env, r, q⟩ => ?_
  unfold ev at q
  refine ⟨F, env, r, q.bind'.imp fun d env' F' H' r' s' q' v hv => ?_⟩
  obtain ⟨d2, e, k⟩ := q'.ret1
  obtain ⟨kb, rfl, hk⟩ := isi_tab _ _ _ e
  refine ⟨v, .ty t.nm, .type (tyNm d), .type t.nm, kb, rfl, .ty _, ?_, kit_ty hk, k F' H' r' (Step.refl _ _ _ _) _ res_bool⟩
  rw [C.k]
  exact tyx_of r'.hr.sub hv

/-! ### calls -/
theorem CStep.same {mu : Option Addr} {F H F' H' : Hp} (sm : Same F H) (c : CStep mu F H F' H') : Same F F' := fun b o e => by
  rw [c.kf b (by rw [sm b o e]; simp)]
  exact e
theorem CStep.hrel {mu : Option Addr} {F H F' H' : Hp} (r : HRel p F H) (c : CStep mu F H F' H') (hm : ∀ b o, mu = some b → p.H0 b = some o → ∃ i, p.mu = some (i, b)) : HRel p F' H' :=
  ⟨c.sub, fun b o e n => c.keep b o (r.old b o e n) fun z => by
    obtain ⟨i, q⟩ := hm b o z e
    exact n i q, fun b e => (c.kf b (r.there b e)).trans (r.oldf b e), fun b e => c.there b (r.there b e)⟩
theorem Rel.called {env : En} {σ : L2.St} {F H F' H' : Hp} (r : Rel p env σ F H) (c : CStep none F H F' H') : Rel p env σ F' H' ∧ Step env σ F H env F' H' := by
  have sf := c.same r.hr.sub
  refine ⟨⟨c.hrel r.hr fun b o z => (nomatch z), fun i d e => ?_, fun i l e => ?_, r.inj, r.new, r.bor, r.mub, r.len, fun i s e hd => ?_, fun i kvs e => ?_⟩, ⟨fun b o e _ => c.keep b o e (fun z => nomatch z), fun b e _ => c.kf b e, c.there, fun _ z => z, sf⟩⟩
  · obtain ⟨v, e1, e2⟩ := r.pdo i d e
    exact ⟨v, e1, e2.mono sf⟩
  · obtain ⟨a, xs, e1, e2, e3, e4⟩ := r.owo i l e
    exact ⟨a, xs, e1, c.keep a _ e2 (fun z => nomatch z), by rw [c.kf a (by rw [e2]; simp)]; exact e3, e4.mono sf⟩
  · obtain ⟨a, e1, e2, e3, e4⟩ := r.dio i s e hd
    obtain ⟨o, e5⟩ := e4.some
    exact ⟨a, e1, by rw [c.kf a (by rw [e5]; simp)]; exact e2, e3, e4.keep (fun o h => c.keep a _ h (fun z => nomatch z)) sf⟩
  · obtain ⟨a, e1, e2⟩ := r.dfo i kvs e
    exact ⟨a, e1, e2.mono sf⟩
theorem res_of {fr : Bool} {env env' : En} {σ : L2.St} {Hs F1 H1 F' H' : Hp} {v : V} {d : D} (r1 : Rel p env' σ F1 H1) (hth : ∀ b, Hs b ≠ none → H1 b ≠ none) (hno : ∀ b, H1 b = none → ¬ Own env σ b)
    (hd : (fr && isDictD d) = false) (h : ResF p.K p.hs fr H1 F' H' v d) : ResOk fr p env σ Hs F' H' v d := by
  cases fr with
  | false => exact h
  | true =>
    cases d with
    | list l =>
      obtain ⟨a, xs, e1, e2, e3, e4, e5⟩ := h
      exact ⟨a, xs, e1, e2, e3, Decidable.byContradiction fun z => r1.hr.there a z e4, Decidable.byContradiction fun z => hth a z e4, hno a e4, e5⟩
    | dict l => cases hd
    | _ => exact h
theorem isFresh_call {f : Nat} {es : E} {fs : FSem} (h : G.fn f = some fs) : isFresh G (.call f es) = fs.fr := by
  show (match G.fn f with | some fs => fs.fr | none => false) = fs.fr
  rw [h]
theorem isFresh_callm {f i : Nat} {es : E} {fs : FSem} (h : G.fn f = some fs) : isFresh G (.callm f i es) = fs.fr := by
  show (match G.fn f with | some fs => fs.fr | none => false) = fs.fr
  rw [h]
/-- the promise asked, from what is wanted -/
theorem call_core {f : Nat} {es : E} {fs : FSem} (hf : G.fn f = some fs) {σ : L2.St} {H : Hp} {Q : VK} (h : TB p cl Ex G (.call f es) σ H Q) : TAr p cl Ex G es σ H fun vs H1 => spH p.K p.hs cl fs vs H1 Q Ex := by
  obtain ⟨F, env, r, q⟩ := h
  unfold ev at q
  rw [hf] at q
  refine ⟨F, env, r, q.bind.imp fun d env1 F1 H1 r1 s1 q1 => ?_⟩
  dsimp only at q1
  split at q1
  · rename_i l fs' el
    cases el
    refine ⟨l, rfl, fun vs hvs => ?_⟩
    split at q1
    · exact q1.elim
    · rename_i hb
      simp only [Bool.or_eq_true, Bool.not_eq_true', not_or, Bool.not_eq_true, Bool.not_eq_false, beq_iff_eq] at hb
      refine ⟨F1, l, none, r1.hr.sub, by rw [hvs.length]; exact hb.2, ?_, ?_⟩
      · unfold ArgsOk
        rw [hb.1]
        exact ⟨rfl, hvs⟩
      · cases e : fs.f l with
        | ok w =>
          obtain ⟨d2, l2⟩ := w
          rw [e] at q1
          replace q1 : Po p cl Ex env1 σ F1 H1 (if (fs.fr && isDictD d2) = true then .bot else .ok (d2, env1)) _ := q1
          split at q1
          · exact q1.elim
          rename_i hdd
          intro v F' H' c _ res
          obtain ⟨r2, s2⟩ := r1.called c
          rw [isFresh_call hf] at q1
          exact q1 F' H' r2 s2 (s1.trans s2) v (res_of r1 s1.there (fun b hb => r1.not_own hb) (by simpa using hdd) res)
        | exc c0 =>
          rw [e] at q1
          intro F' H' c
          exact q1 F' H' (c.hrel r1.hr fun b o z => (nomatch z))
        | bot => rw [e] at q1; exact q1.elim
  · exact q1.elim
theorem s_call {f : Nat} {es : E} {x : Str} {p1 : Pos} {y : PySem.Expr} {ys : List PySem.Expr} (C : Cxt p G cl CX Ex sc X) (hf : (G.fn f).isSome = true) (hx : G.fnm f = x) (hg : Gl X x) (hd : dbg x = false) (ha : PA X (y :: ys) (TAr p cl Ex G es))
    (he : starEach (y :: ys) X.env = (false, eval y X.env) :: starEach ys X.env) (hpl : (backTo pos (starEach ys X.env)).any (·.1) = false) : PE X (.Call (.Name x p1) (y :: ys) [] pos) (TB p cl Ex G (.call f es)) := by
  subst hx
  obtain ⟨fs, hf⟩ := Option.isSome_iff_exists.mp hf
  obtain ⟨fa, fd, ps, k, F, hr, hm, hk, hb⟩ := (C.fns f fs hf).ex
  refine PE.weak (pe_call F hr hg hm hk hb .nil C.pass ha (dbg_of hd).1 he hpl) fun σ H Q h => ?_
  obtain ⟨F, env, r, q⟩ := call_core hf h
  exact ⟨F, env, r, q.imp fun d env' F' H' _ _ ⟨ds, e, k⟩ => ⟨ds, e, fun vs hvs => by
    show spH p.K _ cl fs (vs ++ []) H' Q Ex
    rw [List.append_nil, ← C.hs]; exact k vs hvs⟩⟩
theorem s_call0 {f : Nat} {x : Str} {p1 : Pos} (C : Cxt p G cl CX Ex sc X) (hf : (G.fn f).isSome = true) (hx : G.fnm f = x) (hg : Gl X x) (hd : dbg x = false) : PE X (.Call (.Name x p1) [] [] pos) (TB p cl Ex G (.call f .nil)) := by
  subst hx
  obtain ⟨fs, hf⟩ := Option.isSome_iff_exists.mp hf
  obtain ⟨fa, fd, ps, k, F, hr, hm, hk, hb⟩ := (C.fns f fs hf).ex
  refine PE.weak (pe_call0 F hr hg hm hk hb .nil C.pass (dbg_of hd).1) fun σ H Q h => ?_
  obtain ⟨F, env, r, q⟩ := call_core hf h
  obtain ⟨ds, e, k⟩ := q.now r (Step.refl _ _ _ _)
  cases e
  rw [← C.hs]
  exact k [] .nil

/-! ### a def that changes its first argument -/
theorem upd_self {H : Hp} {a : Addr} {o : HO} (h : H a = some o) : upd H a o = H := by
  funext b
  by_cases e : b = a
  · subst e; rw [upd_same, h]
  · rw [upd_ne e]
theorem setHeld_cases {env : En} {i : Nat} {c : List D} (h : heldAt env i = some c) (l : List D) : ∃ s, setHeld env i l = env.set i s ∧ ((∃ m, env[i]? = some (.own m) ∧ s = .own l) ∨ (∃ m, env[i]? = some (.bor m) ∧ s = .bor l)) := by
  unfold heldAt at h
  unfold setHeld
  cases e : env[i]? with
  | none => rw [e] at h; cases h
  | some s =>
    rw [e] at h
    cases s with
    | no => cases h
    | pd d => cases h
    | own m => exact ⟨_, rfl, .inl ⟨m, rfl, rfl⟩⟩
    | bor m => exact ⟨_, rfl, .inr ⟨m, rfl, rfl⟩⟩
    | dic m => cases h
    | dik m => cases h
    | dif m => cases h
theorem Rel.calledM {env : En} {σ : L2.St} {F H F' H' : Hp} {i : Nat} {c l' : List D} {a : Addr} (r : Rel p env σ F H) (hh : heldAt env i = some c) (hσ : σ[i]? = some (some (.ref a))) (cs : CStep (some a) F H F' H') (mo : MutOk p.K (some a) F' H' l') :
    Rel p (setHeld env i l') σ F' H' ∧ Step env σ F H (setHeld env i l') F' H' := by
  obtain ⟨xs', m1, m2⟩ := mo
  obtain ⟨a0, xs, e1, e2, e3, e4⟩ := r.owo i c hh
  rw [hσ] at e1; cases e1
  obtain ⟨s, es, hs⟩ := setHeld_cases hh l'
  have f'a : F' a = none := (cs.kf a (by rw [e2]; simp)).trans e3
  have cs0 : CStep none F H F' (upd H' a (.lst xs)) := ⟨fun b o e => by
      have nb : b ≠ a := fun z => by rw [z, f'a] at e; cases e
      rw [upd_ne nb]; exact cs.sub b o e, fun b o e _ => by
      by_cases nb : b = a
      · subst nb; rw [upd_same]; rw [e2] at e; exact e
      · rw [upd_ne nb]; exact cs.keep b o e fun z => nb (Option.some.inj z).symm, cs.kf, fun b e => by
      by_cases nb : b = a
      · subst nb; rw [upd_same]; intro z; cases z
      · rw [upd_ne nb]; exact cs.there b e⟩
  obtain ⟨r1, s1⟩ := r.called cs0
  obtain ⟨r2, s2⟩ := r1.write hh hs hσ m2
  rw [upd_upd, upd_self m1] at r2 s2
  rw [es]
  exact ⟨r2, s1.trans s2⟩
theorem callm_core {f i : Nat} {es : E} {fs : FSem} (hf : G.fn f = some fs) {σ : L2.St} {H : Hp} {Q : VK} (h : TB p cl Ex G (.callm f i es) σ H Q) : tVar i σ H fun v H1 => TAr p cl Ex G es σ H1 fun vs H2 => spH p.K p.hs cl fs (v :: vs) H2 Q Ex := by
  obtain ⟨F, env, r, q⟩ := h
  unfold ev at q
  rw [hf] at q
  split at q
  · rename_i hi
    obtain ⟨l0, hl0⟩ := Option.isSome_iff_exists.mp hi
    obtain ⟨a0, xs0, e2, _⟩ := r.owo i l0 hl0
    refine ⟨_, e2, F, env, r, q.bind.imp fun d env1 F1 H1 r1 s1 q1 => ?_⟩
    dsimp only at q1
    split at q1
    · rename_i l fs' c el hc
      cases el
      obtain ⟨a1, xs1, e3, e4, e5, e6⟩ := r1.owo i c hc
      rw [e2] at e3; cases e3
      refine ⟨l, rfl, fun vs hvs => ?_⟩
      split at q1
      · rename_i hb
        simp only [Bool.and_eq_true, beq_iff_eq] at hb
        refine ⟨F1, .list c :: l, some a0, r1.hr.sub, by rw [List.length_cons, hvs.length]; exact hb.2, ?_, ?_⟩
        · unfold ArgsOk
          rw [hb.1]
          exact ⟨a0, xs1, c, vs, l, rfl, rfl, rfl, e4, e5, e6, hvs⟩
        · cases e : fs.f (.list c :: l) with
          | ok w =>
            obtain ⟨d2, l2⟩ := w
            rw [e] at q1
            replace q1 : Po p cl Ex env1 σ F1 H1 (if (fs.fr && isDictD d2) = true then .bot else .ok (d2, setHeld env1 i l2)) _ := q1
            split at q1
            · exact q1.elim
            rename_i hdd
            intro v F' H' cs mo res
            obtain ⟨r2, s2⟩ := r1.calledM hc e2 cs mo
            rw [isFresh_callm hf] at q1
            refine q1 F' H' r2 s2 (s1.trans s2) v (res_of r1 s1.there (fun b hb o => ?_) (by simpa using hdd) res)
            exact r1.not_own hb (s2.owl b o)
          | exc c0 =>
            rw [e] at q1
            intro F' H' cs
            refine q1 F' H' (cs.hrel r1.hr fun b o z hb0 => ?_)
            have : a0 = b := Option.some.inj z
            subst this
            unfold heldAt at hc
            cases ei : env1[i]? with
            | none => rw [ei] at hc; cases hc
            | some s =>
              rw [ei] at hc
              cases s with
              | no => cases hc
              | pd d => cases hc
              | own m => rw [r1.new i m a0 ei e2] at hb0; cases hb0
              | bor m =>
                obtain ⟨b, q1, q2⟩ := r1.bor i m ei
                rw [e2] at q2; cases q2
                exact ⟨i, q1⟩
              | dic m => cases hc
              | dik m => cases hc
              | dif m => cases hc
          | bot => rw [e] at q1; exact q1.elim
      · exact q1.elim
    · exact q1.elim
  · exact q.elim
theorem s_callm {f i : Nat} {es : E} {x y : Str} {p1 p2 : Pos} {ys : List PySem.Expr} (C : Cxt p G cl CX Ex sc X) (hf : (G.fn f).isSome = true) (hx : G.fnm f = x) (hg : Gl X x) (hd : dbg x = false) (h1 : nmB X.N i y = true) (h2 : visB sc y = true)
    (ha : PA X ys (TAr p cl Ex G es)) (hpl : (backTo pos (starEach ys X.env)).any (·.1) = false) : PE X (.Call (.Name x p1) (.Name y p2 :: ys) [] pos) (TB p cl Ex G (.callm f i es)) := by
  subst hx
  obtain ⟨fs, hf⟩ := Option.isSome_iff_exists.mp hf
  obtain ⟨fa, fd, ps, k, F, hr, hm, hk, hb⟩ := (C.fns f fs hf).ex
  obtain ⟨n1, n2, n3⟩ := nm_at h1
  have hs : starEach (PySem.Expr.Name y p2 :: ys) X.env = (false, eval (.Name y p2) X.env) :: starEach ys X.env := rfl
  refine PE.weak (pe_call F hr hg hm hk hb .nil C.pass (pa_cons (pe_var n1 (vis_of C.sc h2) n2 n3) ha hs) (dbg_of hd).1 hs hpl) fun σ H Q h => ?_
  obtain ⟨v, e, F, env, r, q⟩ := callm_core hf h
  exact ⟨v, e, F, env, r, q.imp fun d env' F' H' _ _ ⟨ds, e, k⟩ => ⟨ds, e, fun vs hvs => by
    show spH p.K _ cl fs ((v :: vs) ++ []) H' Q Ex
    rw [List.append_nil, ← C.hs]; exact k vs hvs⟩⟩
theorem s_pop {i : Nat} {x : Str} {p1 ap : Pos} (C : Cxt p G cl CX Ex sc X) (h1 : nmB X.N i x = true) (h2 : visB sc x = true) (hl : (ap.endLine == pos.line) = true) : PE X (.Call (.Attribute (.Name x p1) "pop" ap) [] [] pos) (TB p cl Ex G (.pop i)) := by
  obtain ⟨n1, n2, n3⟩ := nm_at h1
  refine PE.weak (pe_bm0 PySem.F.plainAttrs_list PySem.F.slot_list_pop PySem.F.type_list_pop mt_pop (pe_var n1 (vis_of C.sc h2) n2 n3) rfl hl) fun σ H Q ⟨F, env, r, q⟩ => ?_
  unfold ev at q
  cases hc : heldAt env i with
  | none => rw [hc] at q; exact q.elim
  | some l =>
    rw [hc] at q
    obtain ⟨a, xs, e1, e2, e3, e4⟩ := r.owo i l hc
    dsimp only at q
    cases hg : l.getLast? with
    | none => rw [hg] at q; exact q.elim
    | some d =>
      rw [hg] at q
      have hg' : l[l.length - 1]? = some d := by rw [← List.getLast?_eq_getElem?]; exact hg
      obtain ⟨v, g1, g2⟩ := e4.get' hg'
      refine ⟨.ref a, e1, .inl ⟨rfl, _, .inl (.inl e2)⟩, a, xs, v, rfl, rfl, e2, by rw [e4.length]; exact g1, ?_⟩
      obtain ⟨s, es, hs⟩ := setHeld_cases hc l.dropLast
      have e5 : RpAll p.K F xs.dropLast l.dropLast := by
        rw [List.dropLast_eq_take, List.dropLast_eq_take, e4.length]; exact e4.take _
      obtain ⟨r2, s2⟩ := r.write hc hs e1 e5
      rw [← es] at r2 s2
      refine q F _ r2 s2 v ?_
      cases d <;> exact g2
/-! ### sorted(set(..)), methods of lists -/
theorem strsD_some : ∀ {l : List D} {xs : List Str}, strsD? l = some xs → l = xs.map PyData.str
  | [], xs, h => by cases h; rfl
  | .str x :: r, xs, h => by
    unfold strsD? at h
    cases e : strsD? r with
    | none => rw [e] at h; cases h
    | some ys => rw [e] at h; cases h; rw [strsD_some e]; rfl
  | .none :: _, _, h => by cases h
  | .bool _ :: _, _, h => by cases h
  | .int _ :: _, _, h => by cases h
  | .list _ :: _, _, h => by cases h
  | .tuple _ :: _, _, h => by cases h
  | .dict _ :: _, _, h => by cases h
theorem RpAll.strs {K : PySem.W.Frag} {F : Hp} : ∀ {xs : List Str} {vs : List V}, RpAll K F vs (xs.map PyData.str) → vs = xs.map V.str
  | [], _, .nil => rfl
  | x :: xs, _, .cons a t => by cases a; rw [RpAll.strs t]; rfl
theorem RpAll.of_strs {K : PySem.W.Frag} {F : Hp} : ∀ xs : List Str, RpAll K F (xs.map V.str) (xs.map PyData.str)
  | [] => .nil
  | x :: xs => .cons (.str x) (RpAll.of_strs xs)
theorem insS_len (x : Str) : ∀ l : List Str, (insS x l).length ≤ l.length + 1
  | [] => Nat.le_refl _
  | y :: r => by
    unfold insS
    split
    · exact Nat.le_refl _
    · split
      · exact Nat.le_succ _
      · exact Nat.succ_le_succ (insS_len x r)
theorem sdS_len : ∀ l : List Str, (sdS l).length ≤ l.length
  | [] => Nat.le_refl _
  | x :: r => Nat.le_trans (insS_len x (sdS r)) (Nat.succ_le_succ (sdS_len r))
theorem s_ssetC {l : List D} {b : Addr} {F F' H H' : Hp} {env env' : En} {σ : L2.St} {Q : VK} {xs : List V} (C : Cxt p G cl CX Ex sc X) (hr : RpAll p.K F' xs l) (hq : SqL p.K H' b xs ∨ SqT p.K H' b xs) (r' : Rel p env' σ F' H') (s' : Step env σ F H env' F' H')
    (q' : Po p cl Ex env' σ F' H' (ssetS l env') fun d env'' F'' H'' => ∀ v, ResOk true p env'' σ H F'' H'' v d → Q v H'') :
    rSetS X.K X.prog X.w [V.ref b] H' fun v H1 => (rSortedSet X.w [v] H1 Q ∨ rSortedSO X.prog X.w [v] H1 Q) ∨ rSortedM X.K X.prog X.w [v] H1 Q := by
  unfold ssetS at q'
  split at q'
  · rename_i ns hns
    split at q'
    · rename_i hlt
      have := strsD_some hns; subst this
      have := RpAll.strs hr; subst this
      have hz := PySem.sizeLine_eq
      have hl := sdS_len ns
      refine ⟨b, ns, rfl, by rw [C.k]; exact hq, by unfold scanBound; omega, fun t c ht hc => ?_⟩
      refine .inl (.inr ⟨t, ns, c, rfl, upd_same, by omega, by omega, fun u hu => ?_⟩)
      have r1 := r'.alloc (o := SetSO X.prog X.w t (fun j => decide (j ∈ ns)) c) ht
      have sA : Step env' σ F' H' env' F' (upd H' t (SetSO X.prog X.w t (fun j => decide (j ∈ ns)) c)) := Step.alloc ht
      refine (out_of r1 (s'.trans sA) (Q := Q) (d := .list ((sdS ns).map PyData.str)) fun F'' H'' r2 s2 v2 hv2 => ?_).lst u _ _ rfl hu (RpAll.of_strs _)
      exact (show ∀ F'' H'', Rel p env' σ F'' H'' → Step env' σ F' H' env' F'' H'' → ∀ v, ResOk true p env' σ H F'' H'' v (.list ((sdS ns).map PyData.str)) → Q v H'' from q') F'' H'' r2 (sA.trans s2) v2 hv2
    · exact q'.elim
  · exact q'.elim
theorem rpk_keys {K : PySem.W.Frag} {F : Hp} : ∀ ks : List Key, RpAll K F (ks.map kV) (ks.map kD)
  | [] => .nil
  | .inl i :: r => .cons (.int i) (rpk_keys r)
  | .inr x :: r => .cons (.str x) (rpk_keys r)
theorem keys_refs {K : PySem.W.Frag} {F : Hp} : ∀ {ds : List D} {ks : List (List Key)} {xs : List V}, keysAll? ds = some ks → RpAll K F xs ds → ∃ ps : List (Addr × List Key), xs = ps.map (fun q => V.ref q.1) ∧ ps.map (·.2) = ks ∧ ∀ q ∈ ps, SqT K F q.1 (q.2.map kV)
  | [], ks, _, h, .nil => by cases h; exact ⟨[], rfl, rfl, fun q hq => (by cases hq)⟩
  | d :: ds, ks, _, h, .cons a t => by
    unfold keysAll? at h
    split at h
    · rename_i k ks' h1 h2
      cases h
      obtain ⟨ps, e1, e2, e3⟩ := keys_refs h2 t
      obtain ⟨b, rfl, hb⟩ := rp_key h1 a
      exact ⟨(b, k) :: ps, by rw [e1]; rfl, by rw [List.map_cons, e2], fun q hq => by
        rcases List.mem_cons.mp hq with z | z
        · rw [z]; exact hb
        · exact e3 q z⟩
    · cases h
theorem s_ssetM {l : List D} {b : Addr} {F F' H H' : Hp} {env env' : En} {σ : L2.St} {Q : VK} {xs : List V} (C : Cxt p G cl CX Ex sc X) (hr : RpAll p.K F' xs l) (hq : SqL p.K H' b xs) (r' : Rel p env' σ F' H') (s' : Step env σ F H env' F' H')
    (q' : Po p cl Ex env' σ F' H' (ssetM l env') fun d env'' F'' H'' => ∀ v, ResOk true p env'' σ H F'' H'' v d → Q v H'') :
    rSetM X.K X.prog X.w [V.ref b] H' fun v H1 => (rSortedSet X.w [v] H1 Q ∨ rSortedSO X.prog X.w [v] H1 Q) ∨ rSortedM X.K X.prog X.w [v] H1 Q := by
  unfold ssetM at q'
  split at q'
  · rename_i ks hks
    split at q'
    · rename_i hc
      rw [Bool.and_eq_true, decide_eq_true_iff] at hc
      obtain ⟨ps, rfl, e2, e3⟩ := keys_refs hks hr
      have hpl : ps.length = ks.length := by rw [← e2, List.length_map]
      refine ⟨b, ps, rfl, by rw [C.k]; exact hq, fun q hq => by rw [C.k]; exact sqt_same r'.hr.sub (e3 q hq), by rw [hpl]; exact hc.1, fun a L ha h1 h2 => ?_⟩
      have r1 := r'.alloc (o := SetMO X.prog X.w a L) ha
      have sA : Step env' σ F' H' env' F' (upd H' a (SetMO X.prog X.w a L)) := Step.alloc ha
      refine .inr ⟨a, L, ks, rfl, upd_same, fun q hq => by rw [C.k]; exact sqt_same r1.hr.sub (e3 q (h1 q hq)), fun k => ?_, hc.2, fun L' u hsub hsrt hu => ?_⟩
      · rw [← e2]
        constructor
        · intro h
          obtain ⟨q, hq, rfl⟩ := List.mem_map.mp h
          exact List.mem_map.mpr ⟨q, h1 q hq, rfl⟩
        · intro h
          obtain ⟨q, hq, rfl⟩ := List.mem_map.mp h
          exact h2 q hq
      · have hrp : RpAll p.K F' (L'.map fun q => V.ref q.1) (srt ((nubK ks).map tupK)) := by
          rw [← hsrt]
          have key : ∀ L' : List (Addr × List Key), (∀ q ∈ L', q ∈ L) → RpAll p.K F' (L'.map fun q => V.ref q.1) (L'.map fun q => tupK q.2) := by
            intro L'
            induction L' with
            | nil => intro _; exact .nil
            | cons q L' ih =>
              intro h
              exact .cons (.tup (e3 q (h1 q (h q List.mem_cons_self))) (rpk_keys q.2)) (ih fun r hr => h r (List.mem_cons_of_mem _ hr))
          exact key L' hsub
        refine (out_of r1 (s'.trans sA) (Q := Q) (d := .list (srt ((nubK ks).map tupK))) fun F'' H'' r2 s2 v2 hv2 => ?_).lst u _ _ rfl hu hrp
        exact (show ∀ F'' H'', Rel p env' σ F'' H'' → Step env' σ F' H' env' F'' H'' → ∀ v, ResOk true p env' σ H F'' H'' v (.list (srt ((nubK ks).map tupK))) → Q v H'' from q') F'' H'' r2 (sA.trans s2) v2 hv2
    · exact q'.elim
  · exact q'.elim
theorem s_sset {p1 p2 q2 : Pos} (C : Cxt p G cl CX Ex sc X) (hg : Gl X "sorted") (hg2 : Gl X "set") (hs : starEach [ea] X.env = [(false, eval ea X.env)]) (ha : PE X ea (TR p cl Ex G a)) :
    PE X (.Call (.Name "sorted" p1) [.Call (.Name "set" p2) [ea] [] q2] [] pos) (TB p cl Ex G (.sset a)) := by
  refine PE.weak (pe_callB (cr_or (cr_or (cr_sortedSet C.calm) (cr_sortedSO C.calm C.un)) (cr_sortedM C.calm C.un)) hg (C.blt _ (by decide +kernel)) (by decide +kernel) (pa_cons (pe_callTy (cr_or (cr_or (cr_setI C.calm) (cr_setS C.calm)) (cr_setM C.calm C.un)) hg2 (C.blt _ (by decide +kernel)) (by decide +kernel) (pa_cons ha pa_nil hs) (by decide) (by decide) hs rfl) pa_nil rfl) (by decide) (by decide) rfl rfl) fun σ H Q ⟨F, env, r, q⟩ => ?_
  unfold ev at q
  refine ⟨F, env, r, q.bind'.imp fun d env' F' H' r' s' q' v hv => ?_⟩
  dsimp only at q'
  split at q'
  · rename_i l
    split at q'
    · rename_i ns hns
      split at q'
      · rename_i hlt
        have := intsD_some hns; subst this
        cases hv with
        | lst hq hr =>
          rename_i b xs
          have := hr.ints; subst this
          refine .inl (.inl ⟨b, ns, rfl, by rw [C.k]; exact sql_same r'.hr.sub hq, by have := hlt.1; unfold scanBound; omega, fun t c ht hc hcn => ?_⟩)
          refine .inl (.inl ⟨t, _, c, rfl, upd_same, by rw [← hcn (sdI ns) (sdI_nodup ns) fun k => sdI_mem]; exact hlt.2, fun ms u h1 h2 h3 hu => ?_⟩)
          have e : ms = sdI ns := sdI_of h1 fun k => by rw [h2]; simp
          subst e
          have r1 := r'.alloc (o := SetO X.w t (fun j => decide (j ∈ ns)) c) ht
          have sA : Step env' σ F' H' env' F' (upd H' t (SetO X.w t (fun j => decide (j ∈ ns)) c)) := Step.alloc ht
          refine (out_of r1 (s'.trans sA) (Q := Q) (d := .list ((sdI ns).map PyData.int)) fun F'' H'' r2 s2 v2 hv2 => ?_).lst u _ _ rfl hu (RpAll.of_ints _)
          exact (show ∀ F'' H'', Rel p env' σ F'' H'' → Step env' σ F' H' env' F'' H'' → ∀ v, ResOk true p env' σ H F'' H'' v (.list ((sdI ns).map PyData.int)) → Q v H'' from q') F'' H'' r2 (sA.trans s2) v2 hv2
      · exact q'.elim
    · cases hv with
      | lst hq hr =>
        split at q'
        · exact .inl (.inr (s_ssetC C hr (.inl (sql_same r'.hr.sub hq)) r' s' q'))
        · exact .inr (s_ssetM C hr (sql_same r'.hr.sub hq) r' s' q')
  · rename_i l
    cases hv with
    | tup hq hr => exact .inl (.inr (s_ssetC C hr (.inr (sqt_same r'.hr.sub hq)) r' s' q'))
  · exact q'.elim
theorem Mt.some {m : Mt} {o x d : D} (h : m.f o x = some d) : ∃ (l : List D) (ns : List Int) (k : Int), o = .list l ∧ intsD? l = some ns ∧ x = .int k ∧ ((m = .count ∧ d = .int (ns.count k : Nat)) ∨ (m = .index ∧ k ∈ ns ∧ d = .int (ns.idxOf k : Nat))) := by
  unfold Mt.f at h
  split at h
  · rename_i l k
    split at h
    · rename_i ns hns
      split at h
      · cases h; exact ⟨l, ns, k, rfl, hns, rfl, .inl ⟨rfl, rfl⟩⟩
      · split at h
        · cases h; exact ⟨l, ns, k, rfl, hns, rfl, .inr ⟨rfl, by assumption, rfl⟩⟩
        · cases h
    · cases h
  · cases h
theorem flat_ints (ns : List Int) : (ns.map V.int).all flatV = true := by
  rw [List.all_eq_true]
  intro v hv
  obtain ⟨n, _, rfl⟩ := List.mem_map.mp hv
  rfl
theorem idx_of {ns : List Int} {k : Int} (h : k ∈ ns) : ns[ns.idxOf k]? = some k ∧ ∀ m, m < ns.idxOf k → ns[m]? ≠ some k := by
  have hl := List.idxOf_lt_length_of_mem h
  refine ⟨by rw [List.getElem?_eq_getElem hl]; exact congrArg some (List.getElem_idxOf hl), fun m hm e => ?_⟩
  obtain ⟨hm2, e2⟩ := List.getElem?_eq_some_iff.mp e
  exact absurd (List.not_of_lt_findIdx hm) (by rw [e2]; simp)
theorem s_meth {m : Mt} {x v : PySem.Expr} {ap : Pos} (C : Cxt p G cl CX Ex sc X) (hb : plainBase x = true) (hl : (ap.endLine == pos.line) = true) (hs : starEach [v] X.env = (false, eval v X.env) :: starEach [] X.env) (ha : Opd X p cl Ex G a x) (hbv : PE X v (TR p cl Ex G b)) :
    PE X (.Call (.Attribute x m.nm ap) [v] [] pos) (TB p cl Ex G (.meth m a b)) := by
  obtain ⟨ta, h1, h2, h3⟩ := ha
  have hbase : attributeBase x m.nm X.env (eval x X.env) = eval x X.env := by
    cases x <;> first | (cases hb; done) | (cases m <;> rfl) | skip
    rename_i f args kws ps
    cases args with
    | nil => cases hb
    | cons y ys => cases m <;> (cases f <;> rfl)
  have fin : ∀ {env env' : En} {σ : L2.St} {F H F' H' : Hp} {o x1 : D} {u w : V} {Q : VK}, Rel p env' σ F' H' → Vw p.K F' H' u o → Rp p.K F' w x1 → (∃ d, m.f o x1 = some d ∧ ∀ F'' H'', Rel p env' σ F'' H'' → Step env' σ F' H' env' F'' H'' → ∀ v, ResOk false p env' σ H F'' H'' v d → Q v H'') →
      (m = .count → rCntI X.K u [w] H' Q) ∧ (m = .index → rIndex X.K u [w] H' Q) := fun {env env' σ F H F' H' o x1 u w Q} r' hu hw ⟨d, e, k⟩ => by
    obtain ⟨l, ns, kk, rfl, hns, rfl, hm⟩ := Mt.some e
    have := intsD_some hns; subst this
    obtain ⟨a0, xs, rfl, q1, q2⟩ := hu.list r'.hr.sub
    have := q2.ints; subst this
    cases hw
    rw [← C.k] at q1
    rcases hm with ⟨rfl, rfl⟩ | ⟨rfl, hk, rfl⟩
    · exact ⟨fun _ => ⟨a0, ns, kk, rfl, rfl, q1, k F' H' r' (Step.refl _ _ _ _) _ (.int _)⟩, fun z => by cases z⟩
    · obtain ⟨i1, i2⟩ := idx_of hk
      refine ⟨fun z => by (cases z), fun _ => ⟨a0, ns.map V.int, .int kk, ns.idxOf kk, .int kk, rfl, rfl, q1, rfl, flat_ints ns, by rw [List.getElem?_map, i1]; rfl, by simp [eqV], fun j z hj hz => ?_, k F' H' r' (Step.refl _ _ _ _) _ (.int _)⟩⟩
      rw [List.getElem?_map] at hz
      cases hj2 : ns[j]? with
      | none => rw [hj2] at hz; cases hz
      | some n =>
        rw [hj2] at hz; cases hz
        have : n ≠ kk := fun z => i2 j hj (by rw [hj2, z])
        simp [eqV, this]
  have core : ∀ {r : V → List V → Hp → VK → Prop}, (∀ {u w : V} {H' : Hp} {Q : VK}, ((m = .count → rCntI X.K u [w] H' Q) ∧ (m = .index → rIndex X.K u [w] H' Q)) → r u [w] H' Q) → ∀ σ H Q, TB p cl Ex G (.meth m a b) σ H Q → tBM X.K "list" r ta (tCons (TR p cl Ex G b) tNil) σ H Q := fun {r} hr σ H Q ⟨F, env, rr, q⟩ => by
    unfold ev at q
    cases ep : peekOf a with
    | none =>
      rw [ep] at q
      refine h3 ep _ _ _ ⟨F, env, rr, q.bind'.imp fun d env1 F1 H1 r1 s1 q1 v hv => ?_⟩
      dsimp only at q1
      split at q1
      · rename_i l
        have hvl : ∃ a0 xs, v = .ref a0 ∧ SqL p.K F1 a0 xs := by
          cases hv with
          | lst hq hr => exact ⟨_, _, rfl, hq⟩
        obtain ⟨a0, xs0, rfl, hq0⟩ := hvl
        refine ⟨.inl ⟨rfl, _, by rw [C.k]; exact sql_same r1.hr.sub hq0⟩, F1, env1, r1, q1.bind'.imp fun d2 env2 F2 H2 r2 s2 q2 w hw => ?_⟩
        exact hr (fin (env := env) (F := F) (H := H) r2 (.rp (hv.mono s2.sub)) hw q2.ret1)
      · exact q1.elim
    | some i =>
      rw [ep] at q
      have et : ta = tVar i := by rw [h2 (by rw [ep]; rfl), ep]; rfl
      rw [et]
      dsimp only at q
      split at q
      · rename_i l0 hl0
        obtain ⟨v0, e2, hv0⟩ := rr.peek hl0
        obtain ⟨a0, xs0, rfl, hq0, _⟩ := hv0.list rr.hr.sub
        refine ⟨_, e2, .inl ⟨rfl, _, by rw [C.k]; exact hq0⟩, F, env, rr, q.bind'.imp fun d2 env2 F2 H2 r2 s2 q2 w hw => ?_⟩
        dsimp only at q2
        split at q2
        · rename_i d1 hd1
          obtain ⟨v1, e3, hv1⟩ := r2.peek hd1
          rw [e2] at e3; cases e3
          exact hr (fin (env := env) (F := F) (H := H) r2 hv1 hw q2.ret1)
        · exact q2.elim
      · exact q.elim
  cases m with
  | count => exact PE.weak (pe_bm PySem.F.plainAttrs_list PySem.F.slot_list_count PySem.F.type_list_count mt_lcount h1 (pa_cons hbv pa_nil hs) hbase (by rw [hs]; rfl) hl hs rfl) (core fun h => h.1 rfl)
  | index => exact PE.weak (pe_bm PySem.F.plainAttrs_list PySem.F.slot_list_index PySem.F.type_list_index mt_index h1 (pa_cons hbv pa_nil hs) hbase (by rw [hs]; rfl) hl hs rfl) (core fun h => h.2 rfl)
end
end Rv

set_option Elab.async false
set_option linter.all false
set_option maxRecDepth 100000
set_option maxHeartbeats 4000000
/-! Rv8: enumerate of a tuple; what is walked. -/
namespace PySem
open Sem (wp)
open AutoSeq1 (wpAny_loadPart')
theorem meets_enumerate_newT8 (l : Addr) (items : Array Value) (n : Nat) (dct : Option Addr) (sl : Array (Option Value)) :
    Meets (Builtin.«enumerate.__new__» ⟨[.type "enumerate", .ref l], []⟩) (fun _ R s => s.heap.get? l = some { cls := .type "tuple", dict := dct, data := .seq items n, slots := sl } ∧
      R (.ok (.ret (.ref (s.heap.push { cls := .type "tuple_iterator", data := .fields #[.ref l, .int 0 0] }).objs.size)))
        { s with heap := (s.heap.push { cls := .type "tuple_iterator", data := .fields #[.ref l, .int 0 0] }).push { cls := .type "enumerate", data := .fields #[.none, .bool false, .ref s.heap.objs.size, rawInt 0, .none, .none] } }) :=
  .of_wp fun prog w A R s h => by
    obtain ⟨hp, g, d, tk, os⟩ := s; obtain ⟨hl, h⟩ := h
    have hsub := sub_enumerate
    have hL : Heap.IsTuple (Shared.heap ⟨hp, g, d, tk, os⟩) l items := ⟨_, hl, rfl, n, rfl⟩
    wp_walk using wpAny_loadPart' hl
    refine wpAny_stack_any fun st => wpAny_pure ?_
    split
    · rename_i c _ _ _ _ _
      cases (c == Value.type "enumerate")
      · wp_walk using wpAny_loadPart' hl, wpAny_pyIter_tuple hL
        exact ⟨_, rfl, h⟩
      · wp_walk using wpAny_loadPart' hl, wpAny_pyIter_tuple hL
        exact ⟨_, rfl, h⟩
    · wp_walk using wpAny_loadPart' hl, wpAny_pyIter_tuple hL
      exact ⟨_, rfl, h⟩
section
variable {prog : Program} {w : World} {A : Around} {E : Value → Shared → Prop} {s : Shared}
theorem call_enumerate_tuple8 {l : Addr} {items : Array Value} {Q : Value → Shared → Prop} (hL : s.heap.IsTuple l items)
    (h : ∀ h', IsEnum h' (s.heap.objs.size + 1) s.heap.objs.size 0 .none → h'.IsTupleIter s.heap.objs.size l 0 → h'.objs.size = s.heap.objs.size + 2 →
      (∀ b o, s.heap.get? b = some o → h'.get? b = some o) → Q (.ref (s.heap.objs.size + 1)) { s with heap := h' }) :
    wpAny (model prog w) A (call (.type "enumerate") [.ref l]) Q E s := by
  obtain ⟨⟨c, dct, dt, sl⟩, hl, hc, n, hd⟩ := hL
  replace hc : c = .type "tuple" := hc
  replace hd : dt = .seq items n := hd
  subst hc hd
  refine callType_new F.called_enumerate (by decide) (F.typeCall_enumerate_1 _) (F.newCall_enumerate_1 _) (fun obj => F.args_object_init_2 obj _) F.entry_enumerate_new
    (meets_enumerate_newT8 l items n dct sl) ⟨hl, ?_⟩
  have hz : (s.heap.push { cls := .type "tuple_iterator", data := .fields #[.ref l, .int 0 0] }).objs.size = s.heap.objs.size + 1 := Heap.size_push ..
  show _ ∧ _
  rw [hz]
  have he : IsEnum ((s.heap.push { cls := .type "tuple_iterator", data := .fields #[.ref l, .int 0 0] }).push
      { cls := .type "enumerate", data := .fields #[.none, .bool false, .ref s.heap.objs.size, rawInt 0, .none, .none] }) (s.heap.objs.size + 1) s.heap.objs.size 0 .none := by
    have := Heap.get?_push_size (s.heap.push { cls := .type "tuple_iterator", data := .fields #[.ref l, .int 0 0] })
      (o := { cls := .type "enumerate", data := .fields #[.none, .bool false, .ref s.heap.objs.size, rawInt 0, .none, .none] }) rfl
    rw [hz] at this; exact this
  refine ⟨⟨_, he, rfl⟩, h _ he ⟨_, Heap.get?_push_of_some _ (Heap.get?_push_size _ rfl), rfl, rfl⟩ (by rw [Heap.size_push, hz]) fun b o x => Heap.get?_push_of_some _ (Heap.get?_push_of_some _ x)⟩
end
end PySem
namespace L2
open PySem PySem.Spec PyProof.Rows
def IteT (K : PySem.W.Frag) (a : Addr) : It :=
  ⟨fun i H => ∃ (xs : List V) (x : V), SqT K H a xs ∧ xs[i]? = some x, fun i H v H' => ∃ T x, v = .ref T ∧ H T = none ∧ H' = upd H T (.tup [.int (i : Nat), x]) ∧ ∀ xs, SqT K H a xs → xs[i]? = some x, fun i H => ∃ xs : List V, SqT K H a xs ∧ xs.length = i⟩
theorem tup_ne_iter {h : Heap} {a it : Addr} {items : Array Value} {i : Nat} (t : h.IsTuple a items) (q : h.IsTupleIter it a i) : a ≠ it := by
  obtain ⟨o, e1, e2, _⟩ := t
  obtain ⟨o', e3, e4, _⟩ := q
  intro z
  subst z
  have e3' : o = o' := Option.some.inj (e1.symm.trans e3)
  rw [← e3', e2] at e4
  exact absurd (Value.type.inj e4) (by decide)
theorem tup_ne_enum {h : Heap} {a e it : Addr} {items : Array Value} {i : Int} {old : Value} (t : h.IsTuple a items) (q : IsEnum h e it i old) : e ≠ a := by
  obtain ⟨o, e1, e2, _⟩ := t
  intro z
  subst z
  have q' := Option.some.inj (e1.symm.trans q)
  rw [q'] at e2
  exact absurd (Value.type.inj e2) (by decide)
theorem turn_enumT {P : Program} {w : World} {K : PySem.W.Frag} {elts : List Expr} {kk : Nat} {tpos : Pos} (a e it : Addr) :
    Turn P w K (.Tuple elts kk tpos) (IteT K a) [e, it] e (fun i h => (∃ old, IsEnum h e it ((i : Nat) : Int) old) ∧ h.IsTupleIter it a i ∧ e ≠ it) where
  mem := by simp
  obj := fun i h st b hb => by
    obtain ⟨⟨old, he⟩, ⟨o, ho, hc, hd⟩, _⟩ := st
    have e' : b = e ∨ b = it := by simpa using hb
    rcases e' with z | z
    · rw [z]; exact ⟨_, he, fun v q => nomatch q⟩
    · rw [z]; exact ⟨o, ho, fun v q => by rw [hd] at q; cases q⟩
  keep := fun i h h' st k => let ⟨⟨old, he⟩, hi, hne⟩ := st; ⟨⟨old, k e (by simp) _ he⟩, hi.at fun o q => k it (by simp) o q, hne⟩
  item := by
    intro X hP hw hK hc i pins s σ H E I hf st hg
    subst hP hw hK
    obtain ⟨⟨old, he⟩, hit, hne⟩ := st
    obtain ⟨xs, x, hq, hx⟩ := hg
    obtain ⟨its, rv, p, hz⟩ := I.tuple hq
    obtain ⟨u, hu, ru⟩ := rv.get hx
    have hel : e < s.heap.objs.size := Heap.lt_size he
    have hil : it < s.heap.objs.size := by obtain ⟨_, q, _⟩ := hit; exact Heap.lt_size q
    have hat := tup_ne_iter p hit
    have hea := tup_ne_enum p he
    have hlt : i < its.toArray.size := by rw [List.size_toArray]; exact (List.getElem?_eq_some_iff.mp hu).1
    refine wpAny_pyNext_enum_itemD (Draws.tuple (prog := X.prog) (w := X.w) (A := X.A.in1) (I.ok.hd hc) it a hat its.toArray) he ⟨hit, p⟩ hlt hne (by intro z; rcases List.mem_cons.mp z with z | z; exact hne z; exact hea (List.mem_singleton.mp z)) fun u' h' tk hu' ho st' hT hsz hk => ?_
    have eu : u' = u := by
      have hu' : its.toArray[i]? = some u' := hu'
      rw [List.getElem?_toArray, hu] at hu'
      exact (Option.some.inj hu').symm
    subst eu
    refine ⟨_, rfl, wpAny_letOwnedTupleGo_enum (s := { s with heap := h', toks := tk + 1 }) ho fun h'' he' sb => ?_⟩
    have hT2 : h''.get? s.heap.objs.size = some { cls := .type "tuple", data := .seq #[.int i tk, u'] } := (sb.2 _ (Nat.ne_of_gt hel)).trans hT
    have new : ObjOk X.prog X.w (upd H s.heap.objs.size (.tup [.int (i : Nat), x])) h'' s.heap.objs.size (.tup [.int (i : Nat), x]) :=
      ⟨by show 2 ≤ sizeLine; decide, [.int i tk, u'], .cons ⟨_, rfl⟩ (.cons ru .nil), ⟨_, hT2, rfl, _, rfl⟩⟩
    have I1 : Inv X pins σ (upd H s.heap.objs.size (.tup [.int (i : Nat), x])) { s with heap := h'', toks := tk + 1 } :=
      I.turnedNew (ch := [e, it]) (fun b ob hb q => (sb.2 b (fun z => hb (by simp [z]))).trans (hk b ob (fun z => hb (by simp [z])) (fun z => hb (by simp [z])) q)) hf (Nat.le_refl _) new
    refine ⟨.ref s.heap.objs.size, _, I1, rfl, ⟨_, x, rfl, I.hok.fresh (Nat.le_refl _), rfl, fun ys hy => by rw [I.tuple_inj hy hq]; exact hx⟩, ⟨⟨u', ?_⟩, st'.1.at fun o q => (sb.2 it (Ne.symm hne)).trans q, hne⟩, fun b hb => ?_⟩
    · have e1 : ((i + 1 : Nat) : Int) = (i : Int) + 1 := by omega
      rw [e1]; exact he'
    · have hb' : b < s.heap.objs.size := by
        have e' : b = e ∨ b = it := by simpa using hb
        rcases e' with z | z
        · rw [z]; exact hel
        · rw [z]; exact hil
      rw [upd_ne (Nat.ne_of_lt hb')]
      exact (hf b hb).1
  done := by
    intro X hP hw hK hc i pins s σ H E I hf st hg
    subst hP hw hK
    obtain ⟨⟨old, he⟩, hit, hne⟩ := st
    obtain ⟨xs, hq, hx⟩ := hg
    obtain ⟨its, rv, p, hz⟩ := I.tuple hq
    obtain ⟨f0, f1, f2, f3, f4, f5⟩ := hf it (by simp)
    have hl := rv.length
    have hat := tup_ne_iter p hit
    have hi : its.toArray.size = i := by rw [List.size_toArray]; omega
    have D := Draws.tuple (prog := X.prog) (w := X.w) (A := X.A.in1) (I.ok.hd hc) it a hat its.toArray
    rw [hi] at D
    exact wpAny_pyNext_enum_endD D he ⟨hit, p⟩ fun h' eb => ⟨rfl, I.turned (t' := s.toks) (fun b o hb q => eb b o hb q) f0 f1 f3 f4 f5⟩
  self := fun A i s Q E st h => let ⟨⟨_, he⟩, _⟩ := st; wpAny_pyIter_enum he h
def iEnumT (K : PySem.W.Frag) (ta : TA) : TI := fun σ H R => ta σ H fun vs H1 => ∃ a xs, vs = [.ref a] ∧ SqT K H1 a xs ∧ R (IteT K a) H1
theorem pi_enumT {X : Cx} {e : Expr} {ta : TA} {p pos tpos : Pos} {elts : List Expr} {kk : Nat} (hg : Gl X "enumerate") (hm : X.mg "enumerate" = none) (ha : PA X [e] ta) (hs : starEach [e] X.env = [(false, eval e X.env)] := by rfl) :
    PI X (.Tuple elts kk tpos) (.Call (.Name "enumerate" p) [e] [] pos) (iEnumT X.K ta) := by
  refine ⟨fun pins s σ H R I h => ?_⟩
  refine Call_ (ld_blt I hg hm boot_enumerate (PyProof.Rows.callWith_type1 (thn (ha.run pos pins s σ H _ I h) fun us s1 ⟨vs, H1, I1, r1, q1⟩ => ?_) hs rfl))
  obtain ⟨a, xs, ex, hq, q⟩ := q1
  subst ex
  cases r1 with
  | cons r rr =>
    cases rr
    cases r
    obtain ⟨its, rv, p', hz⟩ := I1.tuple hq
    refine call_enumerate_tuple8 p' fun h' he hit hsz hk => wpAny_pyIter_enum he ?_
    have I2 : Inv X pins σ H1 { s1 with heap := h' } := I1.kept (t' := s1.toks) hk
    refine ⟨s1.heap.objs.size + 1, [s1.heap.objs.size + 1, s1.heap.objs.size], _, _, H1, rfl, I2, turn_enumT a (s1.heap.objs.size + 1) s1.heap.objs.size, ⟨⟨.none, he⟩, hit, Nat.succ_ne_self _⟩, fun b hb => ?_, q⟩
    have e' : b = s1.heap.objs.size + 1 ∨ b = s1.heap.objs.size := by simpa using hb
    have hle : s1.heap.objs.size ≤ b := by
      rcases e' with z | z
      · rw [z]; exact Nat.le_add_right _ _
      · rw [z]; exact Nat.le_refl _
    exact I1.fpOk hle (I1.hok.fresh hle)
theorem walk_enumT {K : PySem.W.Frag} {a : Addr} {xs : List V} : Walk (IteT K a) xs.length (fun H => SqT K H a xs) (YPair (fun i => some (.int (i : Nat))) (fun i => xs[i]?)) := by
  refine ⟨fun i _ hi q => ⟨xs, xs[i], q, by simp [hi]⟩, fun _ q => ⟨xs, q, rfl⟩, fun i H v H' _ q y => ?_⟩
  obtain ⟨T, x, h1, h2, h3, h4⟩ := y
  exact ⟨T, .int (i : Nat), x, h1, h2, h3, rfl, h4 xs q⟩
theorem walk_zipT {K : PySem.W.Frag} {a b : Addr} {xs ys : List V} {n : Nat} (hn : n = min xs.length ys.length) : Walk (RZ.ItzT K a b) n (fun H => SqT K H a xs ∧ SqT K H b ys) (YPair (fun i => xs[i]?) (fun i => ys[i]?)) := by
  subst hn
  refine ⟨fun i _ hi q => ?_, fun _ q => ⟨xs, ys, q.1, q.2, by omega⟩, fun i H v H' _ q y => ?_⟩
  · have h1 : i < xs.length := by omega
    have h2 : i < ys.length := by omega
    exact ⟨xs, ys, xs[i], ys[i], q.1, q.2, by simp [h1], by simp [h2]⟩
  · obtain ⟨T, x, z, h1, h2, h3, h4, h5⟩ := y
    exact ⟨T, x, z, h1, h2, h3, h4 xs q.1, h5 ys q.2⟩
end L2

set_option Elab.async false
set_option linter.all false
set_option maxRecDepth 100000
set_option maxHeartbeats 4000000
/-! Rv9: targets, what is walked, comprehensions. -/
namespace Rv
open PySem PySem.Spec PyProof.Rows L2

/-! ### steps by what is owned -/
structure Stp (O : Addr → Prop) (F H : Hp) (O' : Addr → Prop) (F' H' : Hp) : Prop where
  keep : ∀ b o, H b = some o → ¬ O b → H' b = some o
  kf : ∀ b, H b ≠ none → ¬ O b → F' b = F b
  there : ∀ b, H b ≠ none → H' b ≠ none
  owl : ∀ b, O' b → O b
  sub : Same F F'
section
variable {O O' O'' : Addr → Prop} {F H F' H' F'' H'' : Hp} {p : Pm} {env env' env2 : En} {σ σ2 : L2.St}
theorem Stp.refl : Stp O F H O F H := ⟨fun _ _ h _ => h, fun _ _ _ => rfl, fun _ h => h, fun _ h => h, Same.refl F⟩
theorem Stp.trans (a : Stp O F H O' F' H') (b : Stp O' F' H' O'' F'' H'') : Stp O F H O'' F'' H'' :=
  ⟨fun c o h n => b.keep c o (a.keep c o h n) fun z => n (a.owl c z), fun c h n => (b.kf c (a.there c h) fun z => n (a.owl c z)).trans (a.kf c h n), fun c h => b.there c (a.there c h), fun c z => a.owl c (b.owl c z), a.sub.trans b.sub⟩
theorem Stp.less (a : Stp O F H O' F' H') (h : ∀ b, O'' b → O' b) : Stp O F H O'' F' H' := ⟨a.keep, a.kf, a.there, fun b z => a.owl b (h b z), a.sub⟩
theorem Step.stp (s : Step env σ F H env' F' H') : Stp (Own env σ) F H (Own env' σ) F' H' := ⟨s.keep, s.kf, s.there, s.owl, s.sub⟩
theorem Stp.step (s : Stp (Own env σ) F H (Own env' σ) F' H') : Step env σ F H env' F' H' := ⟨s.keep, s.kf, s.there, s.owl, s.sub⟩
/-- at what was not there, anything may stand -/
theorem Stp.poke (a : Stp O F H O' F' H') {q : Addr} {o : HO} (hq : H q = none) : Stp O F H O' F' (upd H' q o) := by
  refine ⟨fun b x e n => ?_, a.kf, fun b e => ?_, a.owl, a.sub⟩
  · have hb : b ≠ q := ne_of_none e hq
    rw [upd_ne hb]; exact a.keep b x e n
  · have hb : b ≠ q := fun z => e (by rw [z]; exact hq)
    rw [upd_ne hb]; exact a.there b e
theorem Rel.poke (r : Rel p env σ F H) {q : Addr} {o : HO} (h0 : p.H0 q = none) (hf : F q = none) (hn : ¬ Own env σ q) : Rel p env σ F (upd H q o) := by
  refine ⟨⟨fun b u e => ?_, fun b u e n => ?_, r.hr.oldf, fun b e => ?_⟩, r.pdo, fun i l e => ?_, r.inj, r.new, r.bor, r.mub, r.len, fun i s e hd => ?_, r.dfo⟩
  · have hb : b ≠ q := ne_of_none e hf
    rw [upd_ne hb]; exact r.hr.sub b u e
  · have hb : b ≠ q := ne_of_none e h0
    rw [upd_ne hb]; exact r.hr.old b u e n
  · by_cases hb : b = q
    · rw [hb, upd_same]; intro z; cases z
    · rw [upd_ne hb]; exact r.hr.there b e
  · obtain ⟨a, xs, e1, e2, e3, e4⟩ := r.owo i l e
    have hb : a ≠ q := fun z => hn ⟨i, owns_held e, by rw [← z]; exact e1⟩
    exact ⟨a, xs, e1, by rw [upd_ne hb]; exact e2, e3, e4⟩
  · obtain ⟨a, e1, e2, e3, e4⟩ := r.dio i s e hd
    have hb : a ≠ q := fun z => hn ⟨i, owns_d e hd, by rw [← z]; exact e1⟩
    exact ⟨a, e1, e2, e3, by rw [upd_ne hb]; exact e4⟩
theorem Rel.alter (r : Rel p env σ F H) (hl : env2.length = σ2.length)
    (h : ∀ i, (env2[i]? = env[i]? ∧ σ2[i]? = σ[i]?) ∨ ((∀ a, p.mu ≠ some (i, a)) ∧ (env2[i]? = some .no ∨ (∃ d v, env2[i]? = some (.pd d) ∧ σ2[i]? = some (some v) ∧ Rp p.K F v d) ∨ ∃ kvs a, env2[i]? = some (.dif kvs) ∧ σ2[i]? = some (some (V.ref a)) ∧ DifIs p F a kvs))) :
    Rel p env2 σ2 F H ∧ ∀ b, Own env2 σ2 b → Own env σ b := by
  have held : ∀ i l, heldAt env2 i = some l → heldAt env i = some l ∧ env2[i]? = env[i]? ∧ σ2[i]? = σ[i]? := fun i l e => by
    unfold heldAt at e ⊢
    rcases h i with ⟨h1, h2⟩ | ⟨_, h1 | ⟨d, v, h1, _⟩ | ⟨d, v, h1, _⟩⟩
    · rw [h1] at e; exact ⟨e, h1, h2⟩
    · rw [h1] at e; cases e
    · rw [h1] at e; cases e
    · rw [h1] at e; cases e
  have own : ∀ i a, OwnAt env2 σ2 i a → OwnAt env σ i a := fun i a ⟨o1, o2⟩ => by
    unfold ownsAt at o1
    rcases h i with ⟨h1, h2⟩ | ⟨_, h1 | ⟨d, v, h1, _⟩ | ⟨d, v, h1, _⟩⟩
    · exact ⟨by unfold ownsAt; rw [← h1]; exact o1, by rw [← h2]; exact o2⟩
    · rw [h1] at o1; cases o1
    · rw [h1] at o1; cases o1
    · rw [h1] at o1; cases o1
  refine ⟨⟨r.hr, fun i d e => ?_, fun i l e => ?_, fun i j a x y => r.inj i j a (own i a x) (own j a y), fun i l a e q => ?_, fun i l e => ?_, fun i a e => ?_, hl, fun i s e hd => ?_, fun i kvs e => ?_⟩, fun b ⟨i, o⟩ => ⟨i, own i b o⟩⟩
  · rcases h i with ⟨h1, h2⟩ | ⟨_, h1 | ⟨d', v, h1, h2, h3⟩ | ⟨d', v, h1, _⟩⟩
    · rw [h1] at e; rw [h2]; exact r.pdo i d e
    · rw [h1] at e; cases e
    · rw [h1] at e; cases e; exact ⟨v, h2, h3⟩
    · rw [h1] at e; cases e
  · obtain ⟨q1, _, q3⟩ := held i l e
    rw [q3]; exact r.owo i l q1
  · obtain ⟨q1, q2, q3⟩ := held i l (by unfold heldAt; rw [e]; rfl)
    exact r.new i l a (by rw [← q2]; exact e) (by rw [← q3]; exact q)
  · obtain ⟨q1, q2, q3⟩ := held i l (by unfold heldAt; rw [e]; rfl)
    rw [q3]; exact r.bor i l (by rw [← q2]; exact e)
  · obtain ⟨l, q⟩ := r.mub i a e
    rcases h i with ⟨h1, h2⟩ | ⟨h1, _⟩
    · exact ⟨l, by rw [h1]; exact q⟩
    · exact absurd e (h1 a)
  · rcases h i with ⟨h1, h2⟩ | ⟨_, h1 | ⟨d', v, h1, h2, h3⟩ | ⟨d', v, h1, _⟩⟩
    · rw [h1] at e; rw [h2]; exact r.dio i s e hd
    · rw [h1] at e; cases e; cases hd
    · rw [h1] at e; cases e; cases hd
    · rw [h1] at e; cases e; cases hd
  · rcases h i with ⟨h1, h2⟩ | ⟨_, h1 | ⟨d', v, h1, h2, h3⟩ | ⟨d', v, h1, h2, h3⟩⟩
    · rw [h1] at e; rw [h2]; exact r.dfo i kvs e
    · rw [h1] at e; cases e
    · rw [h1] at e; cases e
    · rw [h1] at e; cases e; exact ⟨v, h2, h3⟩

/-! ### wiped slots -/
theorem wipeE_length : ∀ (vs : List Nat), (wipeE env vs).length = env.length
  | [] => rfl
  | v :: vs => by unfold wipeE; rw [List.length_set, wipeE_length vs]
theorem wipeE_in {i : Nat} : ∀ {vs : List Nat}, i ∈ vs → i < env.length → (wipeE env vs)[i]? = some .no
  | v :: vs, h, hl => by
    unfold wipeE
    by_cases e : v = i
    · subst e
      exact List.getElem?_set_self (by rw [wipeE_length]; exact hl)
    · rw [List.getElem?_set_ne e]
      rcases List.mem_cons.mp h with z | z
      · exact absurd z.symm e
      · exact wipeE_in z hl
theorem wipeE_out {i : Nat} : ∀ {vs : List Nat}, i ∉ vs → (wipeE env vs)[i]? = env[i]?
  | [], _ => rfl
  | v :: vs, h => by
    unfold wipeE
    rw [List.getElem?_set_ne fun z => h (by rw [z]; exact List.mem_cons_self)]
    exact wipeE_out fun z => h (List.mem_cons_of_mem _ z)
theorem wipeS_in {i : Nat} : ∀ {vs : List Nat}, i ∈ vs → i < σ.length → (wipe σ vs)[i]? = some none
  | v :: vs, h, hl => by
    unfold wipe
    by_cases e : v = i
    · subst e
      exact List.getElem?_set_self (by rw [wipe_length]; exact hl)
    · rw [List.getElem?_set_ne e]
      rcases List.mem_cons.mp h with z | z
      · exact absurd z.symm e
      · exact wipeS_in z hl
theorem wipeS_out {i : Nat} : ∀ {vs : List Nat}, i ∉ vs → (wipe σ vs)[i]? = σ[i]?
  | [], _ => rfl
  | v :: vs, h => by
    unfold wipe
    rw [List.getElem?_set_ne fun z => h (by rw [z]; exact List.mem_cons_self)]
    exact wipeS_out fun z => h (List.mem_cons_of_mem _ z)
theorem wipe_eq {vs : List Nat} (hl : σ2.length = σ.length) (h : ∀ i, i ∉ vs → σ2[i]? = σ[i]?) : wipe σ2 vs = wipe σ vs := by
  refine List.ext_getElem? fun i => ?_
  by_cases hi : i ∈ vs
  · by_cases hs : i < σ.length
    · rw [wipeS_in hi hs, wipeS_in hi (by rw [hl]; exact hs)]
    · rw [List.getElem?_eq_none (by rw [wipe_length]; omega), List.getElem?_eq_none (by rw [wipe_length]; omega)]
  · rw [wipeS_out hi, wipeS_out hi]; exact h i hi
theorem restE_length {env0 : En} : ∀ (vs : List Nat), (restE env env0 vs).length = env.length
  | [] => rfl
  | v :: vs => by unfold restE; rw [List.length_set, restE_length vs]
theorem restE_in {env0 : En} (hl : env0.length = env.length) {i : Nat} : ∀ {vs : List Nat}, i ∈ vs → (restE env env0 vs)[i]? = env0[i]?
  | v :: vs, h => by
    unfold restE
    by_cases e : v = i
    · subst e
      by_cases hv : v < env.length
      · rw [List.getElem?_set_self (by rw [restE_length]; exact hv), List.getElem?_eq_getElem (by rw [hl]; exact hv), List.getD_eq_getElem?_getD, List.getElem?_eq_getElem (by rw [hl]; exact hv)]; rfl
      · rw [List.getElem?_eq_none (by rw [List.length_set, restE_length]; omega), List.getElem?_eq_none (by omega)]
    · rw [List.getElem?_set_ne e]
      rcases List.mem_cons.mp h with z | z
      · exact absurd z.symm e
      · exact restE_in hl z
theorem restE_out {env0 : En} {i : Nat} : ∀ {vs : List Nat}, i ∉ vs → (restE env env0 vs)[i]? = env[i]?
  | [], _ => rfl
  | v :: vs, h => by
    unfold restE
    rw [List.getElem?_set_ne fun z => h (by rw [z]; exact List.mem_cons_self)]
    exact restE_out fun z => h (List.mem_cons_of_mem _ z)
theorem noHeld_at {vs : List Nat} (h : noHeld env vs = true) {i : Nat} (hi : i ∈ vs) : ownsAt env i = false := by
  unfold noHeld at h
  have := List.all_eq_true.mp h i hi
  simpa using this
/-- no mutated parameter among them -/
theorem Rel.nomu (r : Rel p env σ F H) {vs : List Nat} (h : noHeld env vs = true) : ∀ i ∈ vs, ∀ a, p.mu ≠ some (i, a) := fun i hi a e => by
  obtain ⟨l, q⟩ := r.mub i a e
  have := noHeld_at h hi
  unfold ownsAt at this
  rw [q] at this; cases this
theorem Rel.wiped (r : Rel p env σ2 F H) {vs : List Nat} (hm : ∀ i ∈ vs, ∀ a, p.mu ≠ some (i, a)) (hw : wipe σ2 vs = wipe σ vs) : Rel p (wipeE env vs) (wipe σ vs) F H ∧ ∀ b, Own (wipeE env vs) (wipe σ vs) b → Own env σ2 b := by
  rw [← hw]
  refine r.alter (by rw [wipeE_length, wipe_length]; exact r.len) fun i => ?_
  by_cases hi : i ∈ vs
  · by_cases hl : i < env.length
    · exact .inr ⟨hm i hi, .inl (wipeE_in hi hl)⟩
    · have hl2 : ¬ i < σ2.length := by rw [← r.len]; exact hl
      exact .inl ⟨by rw [List.getElem?_eq_none (by rw [wipeE_length]; omega), List.getElem?_eq_none (by omega)], by rw [List.getElem?_eq_none (by rw [wipe_length]; omega), List.getElem?_eq_none (by omega)]⟩
  · exact .inl ⟨wipeE_out hi, wipeS_out hi⟩
theorem wipe_wipe {vs : List Nat} : wipe (wipe σ vs) vs = wipe σ vs := wipe_eq (wipe_length σ vs) fun i hi => wipeS_out hi
/-- the block is over: its slots as they were -/
theorem Rel.rested {env0 : En} {F0 H0 : Hp} (r : Rel p env (wipe σ vs) F H) (r0 : Rel p env0 σ F0 H0) (hs : Same F0 F) (hn : noHeld env0 vs = true) : Rel p (restE env env0 vs) σ F H ∧ ∀ b, Own (restE env env0 vs) σ b → Own env (wipe σ vs) b := by
  have hl : env0.length = env.length := by rw [r.len, r0.len, wipe_length]
  refine r.alter (by rw [restE_length, ← hl]; exact r0.len) fun i => ?_
  by_cases hi : i ∈ vs
  · have e := restE_in hl hi
    by_cases hl2 : i < env0.length
    · refine .inr ⟨r0.nomu hn i hi, ?_⟩
      rw [e]
      have hh := noHeld_at hn hi
      have ge := List.getElem?_eq_getElem hl2
      cases q : env0[i] with
      | no => exact .inl (by rw [ge, q])
      | pd d =>
        obtain ⟨v, q1, q2⟩ := r0.pdo i d (by rw [ge, q])
        exact .inr (.inl ⟨d, v, by rw [ge, q], q1, q2.mono hs⟩)
      | dif l =>
        obtain ⟨a, q1, q2⟩ := r0.dfo i l (by rw [ge, q])
        exact .inr (.inr ⟨l, a, by rw [ge, q], q1, q2.mono hs⟩)
      | own l => unfold ownsAt at hh; rw [ge, q] at hh; cases hh
      | bor l => unfold ownsAt at hh; rw [ge, q] at hh; cases hh
      | dic l => unfold ownsAt at hh; rw [ge, q] at hh; cases hh
      | dik l => unfold ownsAt at hh; rw [ge, q] at hh; cases hh
    · refine .inl ⟨by rw [e, List.getElem?_eq_none (by omega), List.getElem?_eq_none (by omega)], ?_⟩
      rw [List.getElem?_eq_none (by rw [← r0.len]; omega), List.getElem?_eq_none (by rw [wipe_length, ← r0.len]; omega)]
  · exact .inl ⟨restE_out hi, (wipeS_out hi).symm⟩
end

/-! ### targets -/
def TGo (p : Pm) (t : Tg) : TG := fun v σ H Q => ∃ F env d env', Rel p env σ F H ∧ Rp p.K F v d ∧ asgT t d env = some env' ∧
  ∀ σ', Rel p env' σ' F H → (∀ b, Own env' σ' b → Own env σ b) → (∀ vs, tgIn vs t = true → ∀ i, i ∉ vs → σ'[i]? = σ[i]?) → Q σ' H
def TGso (p : Pm) (t : Tg) : TGs := fun us σ H Q => ∃ F env ds env', Rel p env σ F H ∧ RpAll p.K F us ds ∧ asgL t ds env = some env' ∧
  ∀ σ', Rel p env' σ' F H → (∀ b, Own env' σ' b → Own env σ b) → (∀ vs, tgIn vs t = true → ∀ i, i ∉ vs → σ'[i]? = σ[i]?) → Q σ' H
section
variable {X : Cx} {p : Pm} {N : List Str} {raw : Scope} {pos : Pos}
theorem PG.weak {e : PySem.Expr} {t t' : TG} (h : PG X e t) (hw : ∀ v σ H Q, t' v σ H Q → t v σ H Q) : PG X e t' := ⟨fun pins s σ H v u Q I r q => h.run pins s σ H v u Q I r (hw v σ H Q q)⟩
theorem PGs.weak {e : List PySem.Expr} {t t' : TGs} (h : PGs X e t) (hw : ∀ v σ H Q, t' v σ H Q → t v σ H Q) : PGs X e t' := ⟨fun pins s σ H v u Q I r q => h.run pins s σ H v u Q I r (hw v σ H Q q)⟩
theorem Rel.setPd {env : En} {σ : L2.St} {F H : Hp} (r : Rel p env σ F H) {i : Nat} {d : D} {v : V} (hv : Rp p.K F v d) (hi : i < env.length) (hb : ∀ l, env[i]? ≠ some (.bor l)) :
    Rel p (env.set i (.pd d)) (σ.set i (some v)) F H ∧ ∀ b, Own (env.set i (.pd d)) (σ.set i (some v)) b → Own env σ b := by
  refine r.alter (by rw [List.length_set, List.length_set]; exact r.len) fun j => ?_
  by_cases e : i = j
  · subst e
    refine .inr ⟨fun a z => ?_, .inr (.inl ⟨d, v, List.getElem?_set_self hi, List.getElem?_set_self (by rw [← r.len]; exact hi), hv⟩)⟩
    obtain ⟨l, q⟩ := r.mub i a z
    exact hb l q
  · exact .inl ⟨List.getElem?_set_ne e, List.getElem?_set_ne e⟩
theorem okGs_len : ∀ (t : Tg) (es : List PySem.Expr) (ds : List D) (env env' : En), okGs N raw t es = true → asgL t ds env = some env' → es.length = ds.length
  | .nil, [], [], _, _, _, _ => rfl
  | .nil, [], _ :: _, _, _, _, h => by unfold asgL at h; cases h
  | .nil, _ :: _, _, _, _, h, _ => by unfold okGs at h; cases h
  | .cons a r, [], _, _, _, h, _ => by unfold okGs at h; cases h
  | .cons a r, e :: es, [], _, _, _, h => by unfold asgL at h; cases h
  | .cons a r, e :: es, d :: ds, env, env', h, g => by
    unfold okGs at h
    unfold asgL at g
    simp only [Bool.and_eq_true] at h
    split at g
    · rename_i e1 he
      simp only [List.length_cons]
      rw [okGs_len r es ds e1 env' h.2 g]
    · cases g
  | .nm _, es, _, _, _, h, _ => by unfold okGs at h; cases es <;> cases h
  | .tup _, es, _, _, _, h, _ => by unfold okGs at h; cases es <;> cases h
theorem okGs_plain {env : Env} : ∀ (t : Tg) (es : List PySem.Expr), okGs N raw t es = true → (assignEach es env).length = es.length ∧ (assignEach es env).findIdx? (·.1) = none
  | .nil, [], _ => ⟨rfl, rfl⟩
  | .nil, _ :: _, h => by unfold okGs at h; cases h
  | .cons a r, [], h => by unfold okGs at h; cases h
  | .cons a r, e :: es, h => by
    unfold okGs at h
    simp only [Bool.and_eq_true] at h
    obtain ⟨i1, i2⟩ := okGs_plain (env := env) r es h.2
    have he : assignEach (e :: es) env = (false, assign e env) :: assignEach es env := by
      have h1 := h.1
      cases a <;> cases e <;> first | rfl | (unfold okG at h1; cases h1)
    rw [he]
    refine ⟨by simp [i1], ?_⟩
    rw [List.findIdx?_cons, i2]; rfl
  | .nm _, es, h => by unfold okGs at h; cases es <;> cases h
  | .tup _, es, h => by unfold okGs at h; cases es <;> cases h
theorem g_ok (hc : X.calm = true) (hN : X.N.Nodup) (hk : X.K = p.K) (hraw : ∀ x, locB raw x = true → Loc X.env.scope x ∧ (X.fn x = true ∨ X.env.scope.names.lookup x = some .local)) (t : Tg) :
    (∀ e, okG X.N raw t e = true → PG X e (TGo p t)) ∧ (∀ es, okGs X.N raw t es = true → PGs X es (TGso p t)) := by
  induction t with
  | nm i =>
    refine ⟨fun e h => ?_, fun es h => ?_⟩
    · unfold okG at h
      cases e <;> try cases h
      rename_i x ps
      simp only [Bool.and_eq_true] at h
      obtain ⟨n1, n2, n3⟩ := nm_at h.1
      obtain ⟨l1, l2⟩ := hraw _ h.2
      refine PG.weak (pg_name hN n1 l1 l2) fun v σ H Q ⟨F, env, d, env', r, rv, ha, q⟩ => ?_
      unfold asgT at ha
      split at ha
      · cases ha
      · rename_i s hs1 hs2
        cases ha
        have hi : i < env.length := get_lt hs2
        obtain ⟨r2, o2⟩ := r.setPd rv hi fun l z => by rw [hs2] at z; cases z; exact hs1 l rfl
        refine q _ r2 o2 fun vs hv j hj => List.getElem?_set_ne fun z => hj ?_
        unfold tgIn at hv
        rw [← z]; exact List.contains_iff_mem.mp hv
      · cases ha
    · unfold okGs at h
      cases es <;> cases h
  | tup l ih =>
    refine ⟨fun e h => ?_, fun es h => ?_⟩
    · unfold okG at h
      cases e <;> try cases h
      rename_i es k ps
      obtain ⟨i1, i2⟩ := okGs_plain (env := X.env) l es h
      refine PG.weak (pg_tup (n := es.length) hc (ih.2 es h) i1 i2) fun v σ H Q ⟨F, env, d, env', r, rv, ha, q⟩ => ?_
      cases d with
      | tuple ds' =>
        unfold asgT at ha
        cases rv with
        | tup hq hr =>
          rename_i xs a
          rw [hk]
          exact ⟨_, _, rfl, sqt_same r.hr.sub hq, by rw [hr.length, okGs_len _ _ _ _ _ h ha], F, env, ds', env', r, hr, ha, fun σ' r' o' f => q σ' r' o' fun vs hv => f vs (by unfold tgIn at hv; exact hv)⟩
      | _ => unfold asgT at ha; cases ha
    · unfold okGs at h
      cases es <;> cases h
  | nil =>
    refine ⟨fun e h => ?_, fun es h => ?_⟩
    · unfold okG at h
      cases e <;> cases h
    · cases es with
      | nil =>
        refine PGs.weak pgs_nil fun us σ H Q ⟨F, env, ds, env', r, rv, ha, q⟩ => ?_
        unfold asgL at ha
        split at ha
        · cases ha
          cases rv
          exact ⟨rfl, q σ r (fun _ z => z) fun _ _ _ _ => rfl⟩
        · rename_i z; cases z
        · cases ha
      | cons _ _ => unfold okGs at h; cases h
  | cons a b iha ihb =>
    refine ⟨fun e h => ?_, fun es h => ?_⟩
    · unfold okG at h
      cases e <;> cases h
    · cases es with
      | nil => unfold okGs at h; cases h
      | cons e es =>
        unfold okGs at h
        simp only [Bool.and_eq_true] at h
        have he : (assignEach (e :: es) X.env).map (·.2) = assign e X.env :: (assignEach es X.env).map (·.2) := by
          have h1 := h.1
          cases a <;> cases e <;> first | rfl | (unfold okG at h1; cases h1)
        refine PGs.weak (pgs_cons (iha.1 e h.1) (ihb.2 es h.2) he) fun us σ H Q ⟨F, env, ds, env', r, rv, ha, q⟩ => ?_
        cases ds with
        | nil => unfold asgL at ha; cases ha
        | cons d ds' =>
          unfold asgL at ha
          split at ha
          · rename_i e1 he1
            cases rv with
            | cons r1 rr =>
              refine ⟨_, _, rfl, F, env, d, e1, r, r1, he1, fun σ1 r2 o2 f2 => ⟨F, e1, ds', env', r2, rr, ha, fun σ2 r3 o3 f3 => q σ2 r3 (fun b z => o2 b (o3 b z)) fun vs hv i hi => ?_⟩⟩
              unfold tgIn at hv
              simp only [Bool.and_eq_true] at hv
              rw [f3 vs hv.2 i hi, f2 vs hv.1 i hi]
          · cases ha
end
end Rv

set_option Elab.async false
set_option linter.all false
set_option maxRecDepth 100000
set_option maxHeartbeats 4000000
/-! Rv10: what is walked, comprehensions. -/
namespace Rv
open PySem PySem.Spec PyProof.Rows L2

/-! ### what is walked -/
def YR (K : PySem.W.Frag) (F' : Hp) (ds : List D) (i : Nat) (H1 : Hp) (x : V) (H2 : Hp) : Prop :=
  (H2 = H1 ∧ ∃ d, ds[i]? = some d ∧ Rp K F' x d) ∨ (∃ (T : Addr) (vs : List V) (es : List D), x = .ref T ∧ H1 T = none ∧ H2 = upd H1 T (.tup vs) ∧ ds[i]? = some (.tuple es) ∧ RpAll K F' vs es)
def WalkR (K : PySem.W.Frag) (F' : Hp) (J : It) (ds : List D) : Prop :=
  ∃ (Gd : Hp → Prop) (Y : Nat → Hp → V → Hp → Prop), Walk J ds.length Gd Y ∧ (∀ H'', Same F' H'' → Gd H'') ∧ ∀ i H1 x H2, i < ds.length → Y i H1 x H2 → YR K F' ds i H1 x H2
def TI_ (p : Pm) (cl : Str → Value) (Ex : XK) (G : Genv) (m : E) : TI := fun σ H R => ∃ F env, Rel p env σ F H ∧ Po p cl Ex env σ F H (ev G m env) fun d _ F' H' => ∃ ds, itemsOf d = some ds ∧ ∀ J, WalkR p.K F' J ds → R J H'
section
variable {K : PySem.W.Frag} {F : Hp} {a b : Addr} {xs ys : List V} {ds es : List D}
theorem walkR_list (h : SqL K F a xs) (r : RpAll K F xs ds) : WalkR K F (Itl K a) ds := by
  have hl := r.length
  rw [WalkR, ← hl]
  refine ⟨fun H => SqL K H a xs, YAt xs, walk_list, fun H'' s => ?_, fun i H1 x H2 hi (y : YAt xs i H1 x H2) => .inl ⟨y.1, let ⟨d, q1, q2⟩ := r.get y.2; ⟨d, q1, q2⟩⟩⟩
  rcases h with h | h
  · exact .inl (rd_same s h)
  · exact .inr h
theorem walkR_tup (h : SqT K F a xs) (r : RpAll K F xs ds) : WalkR K F (Itt K a) ds := by
  have hl := r.length
  rw [WalkR, ← hl]
  exact ⟨fun H => SqT K H a xs, YAt xs, walk_tup, fun H'' s => sqt_same s h, fun i H1 x H2 hi (y : YAt xs i H1 x H2) => .inl ⟨y.1, let ⟨d, q1, q2⟩ := r.get y.2; ⟨d, q1, q2⟩⟩⟩
theorem walkR_str {x : Str} : WalkR K F (Its x) (signsD x) := by
  have hl : (signsD x).length = x.cps.size := by unfold signsD; rw [List.length_map, Array.length_toList]
  rw [WalkR, hl]
  refine ⟨fun _ => True, fun i H v H' => H' = H ∧ ∃ c, x.cps[i]? = some c ∧ v = .str ⟨#[c]⟩, walk_str, fun _ _ => trivial, fun i H1 v H2 hi ⟨e, c, e1, e2⟩ => .inl ⟨e, .str ⟨#[c]⟩, ?_, by rw [e2]; exact .str _⟩⟩
  unfold signsD
  rw [List.getElem?_map, Array.getElem?_toList, e1]; rfl
theorem rngD_length (lo hi : Int) : (rngD lo hi).length = (hi - lo).toNat := by unfold rngD; rw [List.length_map, List.length_range]
theorem walkR_range {lo hi : Int} : WalkR K F (Itr lo (hi - lo).toNat) (rngD lo hi) := by
  refine ⟨fun _ => True, YFn fun i => .int (lo + i), by rw [rngD_length]; exact walk_range, fun _ _ => trivial, fun i H1 x H2 hi (y : YFn (fun i => V.int (lo + i)) i H1 x H2) => .inl ⟨y.1, .int (lo + (i : Int)), ?_, by rw [y.2]; exact .int _⟩⟩
  rw [rngD_length] at hi
  unfold rngD
  rw [List.getElem?_map, List.getElem?_range hi]; rfl
theorem zip_get {i : Nat} {x y : D} (h1 : ds[i]? = some x) (h2 : es[i]? = some y) : (List.zipWith (fun d e => PyData.tuple [d, e]) ds es)[i]? = some (.tuple [x, y]) := by
  rw [List.getElem?_zipWith, h1, h2]
theorem pairR {n : Nat} {fx fy : Nat → Option V} {i : Nat} {H1 H2 : Hp} {v : V} {J : List D} (y : YPair fx fy i H1 v H2) (h : ∀ x z, fx i = some x → fy i = some z → ∃ d e, J[i]? = some (.tuple [d, e]) ∧ Rp K F x d ∧ Rp K F z e) : YR K F J i H1 v H2 := by
  obtain ⟨T, x, z, h1, h2, h3, h4, h5⟩ := y
  obtain ⟨d, e, q1, q2, q3⟩ := h x z h4 h5
  exact .inr ⟨T, [x, z], [d, e], h1, h2, h3, q1, .cons q2 (.cons q3 .nil)⟩
theorem walkR_zip (h1 : SqL K F a xs) (h2 : SqL K F b ys) (r1 : RpAll K F xs ds) (r2 : RpAll K F ys es) : WalkR K F (Itz K a b) (List.zipWith (fun d e => PyData.tuple [d, e]) ds es) := by
  refine ⟨_, _, walk_zip (xs := xs) (ys := ys) (by rw [List.length_zipWith, r1.length, r2.length]), fun H'' s => ⟨?_, ?_⟩, fun i H1 x H2 hi y => pairR (n := 0) y fun x z e1 e2 => ?_⟩
  · rcases h1 with h | h; exact .inl (rd_same s h); exact .inr h
  · rcases h2 with h | h; exact .inl (rd_same s h); exact .inr h
  · obtain ⟨d, q1, q2⟩ := r1.get e1
    obtain ⟨e, q3, q4⟩ := r2.get e2
    exact ⟨d, e, zip_get q1 q3, q2, q4⟩
theorem walkR_zipT (h1 : SqT K F a xs) (h2 : SqT K F b ys) (r1 : RpAll K F xs ds) (r2 : RpAll K F ys es) : WalkR K F (RZ.ItzT K a b) (List.zipWith (fun d e => PyData.tuple [d, e]) ds es) := by
  refine ⟨_, _, walk_zipT (xs := xs) (ys := ys) (by rw [List.length_zipWith, r1.length, r2.length]), fun H'' s => ⟨sqt_same s h1, sqt_same s h2⟩, fun i H1 x H2 hi y => pairR (n := 0) y fun x z e1 e2 => ?_⟩
  obtain ⟨d, q1, q2⟩ := r1.get e1
  obtain ⟨e, q3, q4⟩ := r2.get e2
  exact ⟨d, e, zip_get q1 q3, q2, q4⟩
theorem enum_get {i : Nat} {x : D} (h1 : ds[i]? = some x) : (List.zipWith (fun (k : Nat) e => PyData.tuple [.int (k : Int), e]) (List.range ds.length) ds)[i]? = some (.tuple [.int (i : Int), x]) := by
  have hi : i < ds.length := (List.getElem?_eq_some_iff.mp h1).1
  rw [List.getElem?_zipWith, h1, List.getElem?_range hi]
theorem walkR_enum (h1 : SqL K F a xs) (r1 : RpAll K F xs ds) : WalkR K F (Ite K a) (List.zipWith (fun (k : Nat) e => PyData.tuple [.int (k : Int), e]) (List.range ds.length) ds) := by
  refine ⟨fun H => SqL K H a xs, YPair (fun i => some (.int (i : Nat))) (fun i => xs[i]?), ?_, fun H'' s => ?_, fun i H1 x H2 hi y => pairR (n := 0) y fun x z e1 e2 => ?_⟩
  · have e : (List.zipWith (fun (k : Nat) e => PyData.tuple [.int (k : Int), e]) (List.range ds.length) ds).length = xs.length := by rw [List.length_zipWith, List.length_range, Nat.min_self, r1.length]
    rw [e]; exact walk_enum
  · rcases h1 with h | h; exact .inl (rd_same s h); exact .inr h
  · obtain ⟨d, q1, q2⟩ := r1.get e2
    cases e1
    exact ⟨_, d, enum_get q1, .int _, q2⟩
theorem walkR_enumT (h1 : SqT K F a xs) (r1 : RpAll K F xs ds) : WalkR K F (IteT K a) (List.zipWith (fun (k : Nat) e => PyData.tuple [.int (k : Int), e]) (List.range ds.length) ds) := by
  refine ⟨fun H => SqT K H a xs, YPair (fun i => some (.int (i : Nat))) (fun i => xs[i]?), ?_, fun H'' s => ?_, fun i H1 x H2 hi y => pairR (n := 0) y fun x z e1 e2 => ?_⟩
  · have e : (List.zipWith (fun (k : Nat) e => PyData.tuple [.int (k : Int), e]) (List.range ds.length) ds).length = xs.length := by rw [List.length_zipWith, List.length_range, Nat.min_self, r1.length]
    rw [e]; exact walk_enumT
  · exact sqt_same s h1
  · obtain ⟨d, q1, q2⟩ := r1.get e2
    cases e1
    exact ⟨_, d, enum_get q1, .int _, q2⟩
end
section
variable {X : Cx} {p : Pm} {cl : Str → Value} {Ex : XK} {G : Genv} {CX : CXT} {sc : Scope} {m a b : E} {e ea eb tg : PySem.Expr} {pos p1 : Pos}
theorem PI.weak {t t' : TI} (h : PI X tg e t) (hw : ∀ σ H Q, t' σ H Q → t σ H Q) : PI X tg e t' := ⟨fun pins s σ H Q I q => h.run pins s σ H Q I (hw σ H Q q)⟩
theorem i_seq (C : Cxt p G cl CX Ex sc X) (ha : PE X e (TR p cl Ex G m)) : PI X tg e (TI_ p cl Ex G m) := by
  refine ⟨fun pins s σ H R I h => ?_⟩
  obtain ⟨F, env, r, q⟩ := h
  cases hev : ev G m env with
  | bot => rw [hev] at q; exact q.elim
  | exc c =>
    rw [hev] at q
    exact (pi_list ha).run pins s σ H R I ⟨F, env, r, by rw [hev]; exact q⟩
  | ok dd =>
    obtain ⟨d, env'⟩ := dd
    rw [hev] at q
    cases d with
    | list l =>
      refine (pi_list ha).run pins s σ H R I ⟨F, env, r, ?_⟩
      rw [hev]
      intro F' H' r' s' v hv
      obtain ⟨ds, e1, q'⟩ := q F' H' r' s'
      cases e1
      cases hv with
      | lst hq hr =>
        rename_i a xs
        rw [C.k]
        exact ⟨_, rfl, ⟨xs, sql_same r'.hr.sub hq⟩, q' _ (walkR_list hq hr)⟩
    | tuple l =>
      refine (pi_tup ha).run pins s σ H R I ⟨F, env, r, ?_⟩
      rw [hev]
      intro F' H' r' s' v hv
      obtain ⟨ds, e1, q'⟩ := q F' H' r' s'
      cases e1
      cases hv with
      | tup hq hr =>
        rename_i a xs
        rw [C.k]
        exact ⟨_, rfl, ⟨xs, sqt_same r'.hr.sub hq⟩, q' _ (walkR_tup hq hr)⟩
    | str x =>
      refine (pi_str ha).run pins s σ H R I ⟨F, env, r, ?_⟩
      rw [hev]
      intro F' H' r' s' v hv
      obtain ⟨ds, e1, q'⟩ := q F' H' r' s'
      cases e1
      cases hv
      exact ⟨x, rfl, q' _ walkR_str⟩
    | _ =>
      refine (pi_list ha).run pins s σ H R I ⟨F, env, r, ?_⟩
      rw [hev]
      intro F' H' r' s' v hv
      obtain ⟨ds, e1, q'⟩ := q F' H' r' s'
      cases e1
theorem rngOk_of {i : Int} (h : rngOk i = true) : -(2 ^ 62) ≤ i ∧ i < 2 ^ 62 := by
  unfold rngOk at h
  simp only [Bool.and_eq_true, decide_eq_true_eq] at h
  exact h
theorem Po.map {α β : Type} {env : En} {σ : L2.St} {F H : Hp} {r : Rs (α × En)} {g : α → β} {k : β → En → Hp → Hp → Prop} (h : Po p cl Ex env σ F H r fun d env' F' H' => k (g d) env' F' H') : Po p cl Ex env σ F H (r.bind fun q => .ok (g q.1, q.2)) k := by
  cases r with
  | ok q => obtain ⟨d, env'⟩ := q; exact h
  | exc c => exact h
  | bot => exact h
theorem ev_cons1 (hp : peekOf a = none) (env : En) : ev G (.cons a .nil) env = (ev G a env).bind fun r => .ok (.list [r.1], r.2) := by
  simp only [ev, two, hp]
  cases ev G a env with
  | ok q => rfl
  | exc c => rfl
  | bot => rfl
theorem ev_cons2 (hp : peekOf a = none) (hq : peekOf b = none) (env : En) : ev G (.cons a (.cons b .nil)) env = (two (ev G a) (ev G b) none env).bind fun r => .ok (.list [r.1.1, r.1.2], r.2) := by
  simp only [ev, two, hp, hq]
  cases ev G a env with
  | ok q =>
    simp only [Rs.bind]
    cases ev G b q.2 with
    | ok q2 => rfl
    | exc c => rfl
    | bot => rfl
  | exc c => rfl
  | bot => rfl
/-- one argument -/
theorem un_of {K : D → En → Hp → Hp → Prop} {f : D × En → Rs (D × En)} {R : List V → Hp → Prop} (hp : peekOf a = none) {env : En} {σ : L2.St} {F H : Hp} (r : Rel p env σ F H) (q : Po p cl Ex env σ F H ((ev G a env).bind f) K)
    (hR : ∀ d v env1 F1 H1, ev G a env = .ok (d, env1) → Rel p env1 σ F1 H1 → Rp p.K F1 v d → Po p cl Ex env1 σ F1 H1 (f (d, env1)) K → R [v] H1) : TAr p cl Ex G (.cons a .nil) σ H R := by
  refine ⟨F, env, r, ?_⟩
  rw [ev_cons1 hp]
  refine Po.map (g := fun d : D => PyData.list [d]) ?_
  have q' := q.bind'
  cases e : ev G a env with
  | bot => rw [e] at q'; exact q'
  | exc c => rw [e] at q'; exact q'
  | ok dd =>
    obtain ⟨d, env1⟩ := dd
    rw [e] at q'
    intro F1 H1 r1 s1
    refine ⟨[d], rfl, fun vs hv => ?_⟩
    cases hv with
    | cons h1 h2 => cases h2; exact hR _ _ _ _ _ e r1 h1 (q' F1 H1 r1 s1)
theorem bi_of {K : D → En → Hp → Hp → Prop} {f : (D × D) × En → Rs (D × En)} {R : List V → Hp → Prop} (hp : peekOf a = none) (hq : peekOf b = none) {env : En} {σ : L2.St} {F H : Hp} (r : Rel p env σ F H) (q : Po p cl Ex env σ F H ((two (ev G a) (ev G b) none env).bind f) K)
    (hR : ∀ d e v u env1 F1 H1, Rel p env1 σ F1 H1 → Rp p.K F1 v d → Rp p.K F1 u e → Po p cl Ex env1 σ F1 H1 (f ((d, e), env1)) K → R [v, u] H1) : TAr p cl Ex G (.cons a (.cons b .nil)) σ H R := by
  refine ⟨F, env, r, ?_⟩
  rw [ev_cons2 hp hq]
  refine Po.map (g := fun d : D × D => PyData.list [d.1, d.2]) (q.bind'.imp fun d env1 F1 H1 r1 s1 q1 => ⟨[d.1, d.2], rfl, fun vs hv => ?_⟩)
  cases hv with
  | cons h1 h2 => cases h2 with | cons h2 h3 => cases h3; exact hR _ _ _ _ _ _ _ r1 h1 h2 q1
theorem i_rng1 (C : Cxt p G cl CX Ex sc X) (hp : peekOf a = none) (hg : Gl X "range") (ha : PA X [ea] (TAr p cl Ex G (.cons a .nil))) (hs : starEach [ea] X.env = [(false, eval ea X.env)]) : PI X tg (.Call (.Name "range" p1) [ea] [] pos) (TI_ p cl Ex G (.rng1 a)) := by
  refine PI.weak (pi_range1 hg (C.blt _ (by decide +kernel)) ha hs) fun σ H R ⟨F, env, r, q⟩ => ?_
  unfold ev at q
  refine un_of hp r q fun d v env1 F1 H1 _ r1 rv q1 => ?_
  cases d <;> try exact q1.elim
  rename_i j _
  cases rv
  dsimp only at q1
  split at q1
  · rename_i hj
    obtain ⟨j1, j2⟩ := rngOk_of hj
    obtain ⟨ds, e1, q2⟩ := q1.now r1 (Step.refl _ _ _ _)
    cases e1
    refine ⟨j, rfl, j1, j2, ?_⟩
    have w := walkR_range (K := p.K) (F := F1) (lo := 0) (hi := j)
    rw [show j - 0 = j by omega] at w
    exact q2 _ w
  · exact q1.elim
theorem i_rng2 (C : Cxt p G cl CX Ex sc X) (hp : peekOf a = none) (hq : peekOf b = none) (hg : Gl X "range") (ha : PA X [ea, eb] (TAr p cl Ex G (.cons a (.cons b .nil)))) (hs : starEach [ea, eb] X.env = [(false, eval ea X.env), (false, eval eb X.env)]) (hs2 : starEach [eb] X.env = [(false, eval eb X.env)]) : PI X tg (.Call (.Name "range" p1) [ea, eb] [] pos) (TI_ p cl Ex G (.rng2 a b)) := by
  refine PI.weak (pi_range2 hg (C.blt _ (by decide +kernel)) ha hs hs2) fun σ H R ⟨F, env, r, q⟩ => ?_
  unfold ev at q
  refine bi_of hp hq r q fun d e v u env1 F1 H1 r1 rv ru q1 => ?_
  cases d <;> try exact q1.elim
  rename_i j
  cases e <;> try exact q1.elim
  rename_i k
  cases rv
  cases ru
  dsimp only at q1
  split at q1
  · rename_i hj
    simp only [Bool.and_eq_true] at hj
    obtain ⟨j1, j2⟩ := rngOk_of hj.1
    obtain ⟨k1, k2⟩ := rngOk_of hj.2
    obtain ⟨ds, e1, q2⟩ := q1.now r1 (Step.refl _ _ _ _)
    cases e1
    exact ⟨j, k, rfl, ⟨j1, j2, k1, k2⟩, q2 _ walkR_range⟩
  · exact q1.elim
theorem i_zip {elts : List PySem.Expr} {kk : Nat} {tpos : Pos} (C : Cxt p G cl CX Ex sc X) (hp : peekOf a = none) (hq : peekOf b = none) (hg : Gl X "zip") (ha : PA X [ea, eb] (TAr p cl Ex G (.cons a (.cons b .nil)))) (hs : starEach [ea, eb] X.env = (false, eval ea X.env) :: starEach [eb] X.env) (hs2 : ((backTo pos (starEach [eb] X.env)).any fun x => x.fst) = false) : PI X (.Tuple elts kk tpos) (.Call (.Name "zip" p1) [ea, eb] [] pos) (TI_ p cl Ex G (.zip a b)) := by
  refine PI.weak (RZ.pi_zipA hg (C.blt _ (by decide +kernel)) ha hs hs2) fun σ H R ⟨F, env, r, q⟩ => ?_
  unfold ev at q
  refine bi_of hp hq r q fun d e v u env1 F1 H1 r1 rv ru q1 => ?_
  cases d <;> try exact q1.elim
  · cases e <;> try exact q1.elim
    obtain ⟨ds, e1, q2⟩ := q1.now r1 (Step.refl _ _ _ _)
    cases e1
    cases rv with
    | lst hq1 hr1 =>
      cases ru with
      | lst hq2 hr2 =>
        rw [C.k]
        exact ⟨_, _, _, _, rfl, .inl ⟨sql_same r1.hr.sub hq1, sql_same r1.hr.sub hq2, q2 _ (walkR_zip hq1 hq2 hr1 hr2)⟩⟩
  · cases e <;> try exact q1.elim
    obtain ⟨ds, e1, q2⟩ := q1.now r1 (Step.refl _ _ _ _)
    cases e1
    cases rv with
    | tup hq1 hr1 =>
      cases ru with
      | tup hq2 hr2 =>
        rw [C.k]
        exact ⟨_, _, _, _, rfl, .inr ⟨sqt_same r1.hr.sub hq1, sqt_same r1.hr.sub hq2, q2 _ (walkR_zipT hq1 hq2 hr1 hr2)⟩⟩
theorem i_enum {elts : List PySem.Expr} {kk : Nat} {tpos : Pos} (C : Cxt p G cl CX Ex sc X) (hp : peekOf a = none) (hg : Gl X "enumerate") (ha : PA X [ea] (TAr p cl Ex G (.cons a .nil))) (hs : starEach [ea] X.env = [(false, eval ea X.env)]) : PI X (.Tuple elts kk tpos) (.Call (.Name "enumerate" p1) [ea] [] pos) (TI_ p cl Ex G (.enum a)) := by
  have hm := C.blt "enumerate" (by decide +kernel)
  refine ⟨fun pins s σ H R I h => ?_⟩
  obtain ⟨F, env, r, q⟩ := h
  unfold ev at q
  by_cases hk : ∃ l env1, ev G a env = .ok (.tuple l, env1)
  · obtain ⟨l, env0, hev⟩ := hk
    refine (pi_enumT (elts := elts) (kk := kk) (tpos := tpos) hg hm ha hs).run pins s σ H R I (un_of hp r q fun d v env1 F1 H1 e r1 rv q1 => ?_)
    rw [hev] at e; cases e
    obtain ⟨ds, e1, q2⟩ := q1.now r1 (Step.refl _ _ _ _)
    cases e1
    cases rv with
    | tup hq1 hr1 =>
      rw [C.k]
      exact ⟨_, _, rfl, sqt_same r1.hr.sub hq1, q2 _ (walkR_enumT hq1 hr1)⟩
  · refine (pi_enum (elts := elts) (kk := kk) (tpos := tpos) hg hm ha hs).run pins s σ H R I (un_of hp r q fun d v env1 F1 H1 e r1 rv q1 => ?_)
    cases d <;> try exact q1.elim
    · obtain ⟨ds, e1, q2⟩ := q1.now r1 (Step.refl _ _ _ _)
      cases e1
      cases rv with
      | lst hq1 hr1 =>
        rw [C.k]
        exact ⟨_, _, rfl, sql_same r1.hr.sub hq1, q2 _ (walkR_enum hq1 hr1)⟩
    · exact absurd ⟨_, _, e⟩ hk

/-! ### comprehensions -/
def tC (p : Pm) (cl : Str → Value) (Ex : XK) (G : Genv) (m : E) : TT := fun σ H Q => ∃ F env, Rel p env σ F H ∧ Po p cl Ex env σ F H (condF (isNil m) (ev G m) env) fun d _ _ H' => ∃ k, tru d = some k ∧ Q k H'
theorem tC_nil (h : isNil m = true) : PTs X [] (tC p cl Ex G m) := ⟨fun pins s σ H Q I ⟨F, env, r, q⟩ => pts_nil.run pins s σ H Q I (by
  rw [h] at q
  obtain ⟨k, e, q'⟩ := (show Po p cl Ex env σ F H (.ok (PyData.bool true, env)) _ from q).now r (Step.refl _ _ _ _)
  cases e
  exact q')⟩
theorem tC_one (h : isNil m = false) (ha : PT X e (TT_ p cl Ex G m)) : PTs X [e] (tC p cl Ex G m) := ⟨fun pins s σ H Q I ⟨F, env, r, q⟩ => (pts_one ha).run pins s σ H Q I ⟨F, env, r, by rw [h] at q; exact q⟩⟩
theorem cgo_noexc {asg : D → En → Option En} {cond elt : En → Rs (D × En)} {vs : List Nat} : ∀ (xs : List D) (env : En) (acc : List D) (c : Str), cgo asg cond elt vs xs env acc ≠ .exc c
  | [], env, acc, c => by unfold cgo; intro z; cases z
  | x :: xs, env, acc, c => by
    unfold cgo
    split
    · intro z; cases z
    · rename_i e1 _
      cases cond e1 with
      | exc c => intro z; cases z
      | bot => intro z; cases z
      | ok r =>
        simp only [Rs.nox, Rs.bind]
        split
        · cases elt r.2 with
          | exc c => intro z; cases z
          | bot => intro z; cases z
          | ok q => exact cgo_noexc xs _ _ c
        · exact cgo_noexc xs _ _ c
        · intro z; cases z
theorem cgo_cons {asg : D → En → Option En} {cond elt : En → Rs (D × En)} {vs : List Nat} {x : D} {xs : List D} {env : En} {acc : List D} {out : List D × En} (h : cgo asg cond elt vs (x :: xs) env acc = .ok out) :
    ∃ e1 c e2 k, asg x env = some e1 ∧ cond e1 = .ok (c, e2) ∧ tru c = some k ∧ (k = true → ∃ y e3, elt e2 = .ok (y, e3) ∧ cgo asg cond elt vs xs (wipeE e3 vs) (acc ++ [y]) = .ok out) ∧ (k = false → cgo asg cond elt vs xs (wipeE e2 vs) acc = .ok out) := by
  unfold cgo at h
  split at h
  · cases h
  · rename_i e1 h1
    cases h2 : cond e1 with
    | exc c => rw [h2] at h; cases h
    | bot => rw [h2] at h; cases h
    | ok r =>
      obtain ⟨c, e2⟩ := r
      rw [h2] at h
      simp only [Rs.nox, Rs.bind] at h
      split at h
      · rename_i ht
        refine ⟨e1, c, e2, true, h1, h2, ht, fun _ => ?_, fun z => Bool.noConfusion z⟩
        cases h3 : elt e2 with
        | exc c => rw [h3] at h; cases h
        | bot => rw [h3] at h; cases h
        | ok q => obtain ⟨y, e3⟩ := q; rw [h3] at h; exact ⟨y, e3, rfl, h⟩
      · rename_i ht
        exact ⟨e1, c, e2, false, h1, h2, ht, fun z => Bool.noConfusion z, fun _ => h⟩
      · cases h
mutual
theorem asgT_len : ∀ {t : Tg} {d : D} {env env' : En}, asgT t d env = some env' → env'.length = env.length
  | .nm i, d, env, env', h => by
    unfold asgT at h
    split at h
    · cases h
    · cases h; rw [List.length_set]
    · cases h
  | .tup l, .tuple ds, env, env', h => by unfold asgT at h; exact asgL_len h
  | .tup l, .none, env, env', h => by unfold asgT at h; cases h
  | .tup l, .bool _, env, env', h => by unfold asgT at h; cases h
  | .tup l, .int _, env, env', h => by unfold asgT at h; cases h
  | .tup l, .str _, env, env', h => by unfold asgT at h; cases h
  | .tup l, .list _, env, env', h => by unfold asgT at h; cases h
  | .tup l, .dict _, env, env', h => by unfold asgT at h; cases h
  | .nil, d, env, env', h => by unfold asgT at h; cases h
  | .cons _ _, d, env, env', h => by unfold asgT at h; cases h
theorem asgL_len : ∀ {t : Tg} {ds : List D} {env env' : En}, asgL t ds env = some env' → env'.length = env.length
  | .nil, [], env, env', h => by unfold asgL at h; cases h; rfl
  | .nil, _ :: _, env, env', h => by unfold asgL at h; cases h
  | .cons a r, [], env, env', h => by unfold asgL at h; cases h
  | .cons a r, d :: ds, env, env', h => by
    unfold asgL at h
    split at h
    · rename_i e1 he
      rw [asgL_len h, asgT_len he]
    · cases h
  | .nm _, ds, env, env', h => by unfold asgL at h; cases h
  | .tup _, ds, env, env', h => by unfold asgL at h; cases h
end
theorem YR.rel {env : En} {σ : L2.St} {F H H' : Hp} {ds : List D} {i : Nat} {x : V} {F1 : Hp} (r : Rel p env σ F H) (hs : Same F1 F) (y : YR p.K F1 ds i H x H') : ∃ F' d, Rel p env σ F' H' ∧ Stp (Own env σ) F H (Own env σ) F' H' ∧ ds[i]? = some d ∧ Rp p.K F' x d ∧ (∀ b o, H b = some o → H' b = some o) ∧ (∀ b, H b ≠ none → F' b = F b) := by
  rcases y with ⟨rfl, d, h1, h2⟩ | ⟨T, vs, es, rfl, h1, rfl, h2, h3⟩
  · exact ⟨F, d, r, .refl, h1, h2.mono hs, fun _ _ e => e, fun _ _ => rfl⟩
  · have sf : Same F (upd F T (.tup vs)) := same_upd (none_of_same r.hr.sub h1)
    refine ⟨upd F T (.tup vs), _, r.give h1, (Step.give r.hr.sub h1).stp, h2, .tup (SqT.of upd_same) (h3.mono (hs.trans sf)), fun b o e => ?_, fun b e => ?_⟩
    · rw [upd_ne (ne_of_none e h1)]; exact e
    · rw [upd_ne fun z => e (by rw [z]; exact h1)]
theorem lc_core' {elt : E} {tg : Tg} {it cond : E} {own : List (Str × Nat)} {σ : L2.St} {H : Hp} {Q : VK} (htg : tgIn (own.map (·.2)) tg = true)
    (h : TB p cl Ex G (.lc elt tg it cond own) σ H Q) : tLc (TI_ p cl Ex G it) (TGo p tg) (tC p cl (fun _ _ _ => False) G cond) (TR p cl (fun _ _ _ => False) G elt) (own.map (·.2)) σ H Q := by
  obtain ⟨F, env, r, q⟩ := h
  unfold ev at q
  generalize hvs : own.map (·.2) = vs at q htg ⊢
  refine ⟨F, env, r, q.bind'.imp fun d env1 F1 H1 r1 s1 q1 => ?_⟩
  cases hds : itemsOf d with
  | none => dsimp only at q1; rw [hds] at q1; exact q1.elim
  | some ds =>
  refine ⟨ds, rfl, fun J wk D hD => ?_⟩
  dsimp only at q1
  rw [hds] at q1
  dsimp only at q1
  split at q1
  case isFalse => exact q1.elim
  rename_i hif
  simp only [Bool.and_eq_true, decide_eq_true_eq] at hif
  obtain ⟨hnh, hlen⟩ := hif
  have hmu := r1.nomu hnh
  cases hcg : cgo (asgT tg) (condF (isNil cond) (ev G cond)) (ev G elt) vs ds (wipeE env1 vs) [] with
  | bot => rw [hcg] at q1; exact q1.elim
  | exc c => exact absurd hcg (cgo_noexc _ _ _ _)
  | ok out =>
  obtain ⟨accF, envF⟩ := out
  rw [hcg] at q1
  replace q1 : Po p cl Ex env1 σ F1 H1 (.ok (PyData.list accF, restE envF env1 vs)) _ := q1
  obtain ⟨Gd, Y, wk, hGd, hY⟩ := wk
  have dF : F1 D = none := none_of_same r1.hr.sub hD
  have d0 : p.H0 D = none := Decidable.byContradiction fun z => r1.hr.there D z hD
  have dOwn : ¬ Own env1 σ D := r1.not_own hD
  obtain ⟨rw1, ow1⟩ := r1.wiped (σ := σ) hmu rfl
  let O0 := Own env1 σ
  refine lc_it wk (fun i H => ∃ F env acc accD, Rel p env (wipe σ vs) F H ∧ Stp (Own env1 σ) F1 H1 (Own env (wipe σ vs)) F H ∧ H D = some (.lst acc) ∧ F D = none ∧ RpAll p.K F acc accD ∧ acc.length ≤ i ∧
      cgo (asgT tg) (condF (isNil cond) (ev G cond)) (ev G elt) vs (ds.drop i) env accD = .ok (accF, envF)) ?_ ?_ ?_ ?_
  · refine ⟨F1, wipeE env1 vs, [], [], rw1.poke d0 dF (fun z => dOwn (ow1 _ z)), (Stp.refl.less ow1).poke hD, upd_same, dF, .nil, Nat.le_refl _, hcg⟩
  · intro i H _ ⟨F, env, acc, accD, r, s, _⟩
    exact hGd H (s.sub.trans r.hr.sub)
  · intro i x H H' hi ⟨F, env, acc, accD, r, s, e1, e2, e3, e4, e5⟩ hy
    obtain ⟨F2, dx, r2, s2, g1, g2, g3, g4⟩ := YR.rel r s.sub (hY i H x H' hi hy)
    have hdrop : ds.drop i = dx :: ds.drop (i + 1) := by
      have hlt := (List.getElem?_eq_some_iff.mp g1)
      obtain ⟨h1, h2⟩ := hlt
      rw [List.drop_eq_getElem_cons h1, h2]
    rw [hdrop] at e5
    obtain ⟨en1, c, en2, k, a1, a2, a3, a4, a5⟩ := cgo_cons e5
    refine ⟨F2, env, dx, en1, r2, g2, a1, fun σ2 r3 o3 f3 => ?_⟩
    have hw : wipe σ2 vs = wipe (wipe σ vs) vs := wipe_eq (by rw [← r3.len, ← r2.len]; exact asgT_len a1) (f3 vs htg)
    rw [wipe_wipe] at hw
    refine ⟨hw, F2, en1, r3, ?_⟩
    rw [a2]
    intro F3 H3 r4 s4
    have nOwn2 : ∀ {F H en τ}, (Rel p en τ F H) → (∀ b, Own en τ b → Own env1 σ b) → ¬ Own en τ D := fun _ o z => dOwn (o _ z)
    have o1 : ∀ b, Own en1 σ2 b → Own env1 σ b := fun b z => s.owl b (o3 b z)
    have S2 : Stp (Own env1 σ) F1 H1 (Own en1 σ2) F2 H' := (s.trans s2).less o3
    have S3 : Stp (Own env1 σ) F1 H1 (Own en2 σ2) F3 H3 := S2.trans s4.stp
    have D2 : H' D = some (.lst acc) := g3 D _ e1
    have D3 : H3 D = some (.lst acc) := s4.keep D _ D2 fun z => dOwn (o1 _ z)
    have F3D : F3 D = none := by
      rw [s4.kf D (by rw [D2]; intro z; cases z) fun z => dOwn (o1 _ z), g4 D (by rw [e1]; intro z; cases z)]
      exact e2
    refine ⟨k, a3, ?_⟩
    cases k with
    | false =>
      rw [if_neg Bool.false_ne_true]
      obtain ⟨r5, o5⟩ := r4.wiped hmu hw
      exact ⟨F3, wipeE en2 vs, acc, accD, r5, S3.less o5, D3, F3D, e3.mono (s2.sub.trans s4.sub), Nat.le_succ_of_le e4, a5 rfl⟩
    | true =>
      rw [if_pos rfl]
      obtain ⟨y, en3, b1, b2⟩ := a4 rfl
      refine ⟨F3, en2, r4, ?_⟩
      rw [b1]
      intro F4 H4 r5 s5 v hv
      have S4 : Stp (Own env1 σ) F1 H1 (Own en3 σ2) F4 H4 := S3.trans s5.stp
      have D4 : H4 D = some (.lst acc) := s5.keep D _ D3 fun z => dOwn (S3.owl _ z)
      have F4D : F4 D = none := by
        rw [s5.kf D (by rw [D3]; intro z; cases z) fun z => dOwn (S3.owl _ z)]
        exact F3D
      refine ⟨acc, D4, Nat.lt_of_le_of_lt e4 (Nat.lt_of_lt_of_le hi hlen), ?_⟩
      obtain ⟨r6, o6⟩ := r5.wiped hmu hw
      exact ⟨F4, wipeE en3 vs, acc ++ [v], accD ++ [y], r6.poke d0 F4D (fun z => dOwn (S4.owl _ (o6 _ z))), (S4.less o6).poke hD, upd_same, F4D,
        (e3.mono ((s2.sub.trans s4.sub).trans s5.sub)).snoc hv, by rw [List.length_append]; exact Nat.add_le_add_right e4 1, b2⟩
  · intro H ⟨F, env, acc, accD, r, s, e1, e2, e3, e4, e5⟩
    rw [List.drop_length] at e5
    unfold cgo at e5
    cases e5
    obtain ⟨r7, o7⟩ := r.rested r1 s.sub hnh
    refine q1 F H r7 (Stp.step (s.less o7)) _ ?_
    unfold ResOk
    have hF : isFresh G (.lc elt tg it cond own) = true := rfl
    rw [hF]
    exact ⟨D, acc, rfl, e1, e2, d0, Decidable.byContradiction fun z => s1.there D z hD, fun z => dOwn (s.owl _ (o7 _ z)), e3⟩
end
end Rv

set_option Elab.async false
set_option linter.all false
set_option maxRecDepth 100000
set_option maxHeartbeats 4000000
/-! Rv10d: a walk of a dict's keys; all items of all items. -/
namespace Rv
open PySem PySem.Spec PyProof.Rows L2
/-- the keys of the dict at d -/
def Itq (d : Addr) (es : Array DictEntry) (ep : Nat) (ys : List (List Key × Addr × Value)) : It :=
  ⟨fun i H => H d = some (dicO d es ep) ∧ i < ys.length, fun i H x H' => H' = H ∧ ∃ y, ys[i]? = some y ∧ x = .ref y.2.1, fun i H => H d = some (dicO d es ep) ∧ ys.length ≤ i⟩
section
variable {P : Program} {w : World} {K : PySem.W.Frag} {tg : PySem.Expr} {d : Addr} {es : Array DictEntry} {ep : Nat} {ys : List (List Key × Addr × Value)}
theorem turn_dic (it : Addr) (he : es.toList.map (fun e => e.key) = ys.map fun y => Value.ref y.2.1) : Turn P w K tg (Itq d es ep ys) [it] it (fun i h => h.IsKeyIter it d i ys.length ep) := by
  have hsz : es.size = ys.length := by
    have := congrArg List.length he
    rwa [List.length_map, List.length_map, Array.length_toList] at this
  have one : ∀ b : Addr, b ∈ [it] → b = it := fun b hb => by simpa using hb
  refine ⟨by simp, fun i h st b hb => ?_, fun i h h' st k => st.at fun o e => k it (by simp) o e, ?_, ?_, fun A i s Q E st h => wpAny_pyIter_keyiter st h⟩
  · obtain rfl := one b hb
    obtain ⟨o, e, c, dd⟩ := st
    exact ⟨o, e, fun v z => by rw [dd] at z; cases z⟩
  · intro X hP hw hK hc i pins s σ H E I hf st hg
    subst hP hw hK
    obtain ⟨hd, hi⟩ := hg
    obtain ⟨f0, f1, f2, f3, f4, f5⟩ := hf it (by simp)
    obtain ⟨⟨⟨o, ho, hx, hdt⟩, hs⟩, _⟩ := I.hok d _ hd
    have hi' : i < es.size := by omega
    have hen : es[i]? = some es[i] := Array.getElem?_eq_getElem hi'
    have hkey : es[i].key = Value.ref ys[i].2.1 := by
      have := congrArg (fun l => l[i]?) he
      simp only [List.getElem?_map, Array.getElem?_toList, hen, List.getElem?_eq_getElem hi, Option.map_some, Option.some.injEq] at this
      exact this
    refine next_key_item st ho hdt hsz hen fun h' st' sb => ?_
    have I1 : Inv X pins σ H { s with heap := h' } := I.turned (t' := s.toks) (fun b ob hb e => (sb.2 b hb).trans e) f0 f1 f3 f4 f5
    obtain ⟨oi, e, c, dd⟩ := id st'
    exact ⟨es[i].key, rfl, go_of (s := { s with heap := h' }) e c dd (by decide) ⟨.ref ys[i].2.1, H, I1, hkey, ⟨rfl, ys[i], List.getElem?_eq_getElem hi, rfl⟩, st', fun b hb => (hf b hb).1⟩⟩
  · intro X hP hw hK hc i pins s σ H E I hf st hg
    subst hP hw hK
    obtain ⟨hd, hi⟩ := hg
    obtain ⟨f0, f1, f2, f3, f4, f5⟩ := hf it (by simp)
    obtain ⟨⟨⟨o, ho, hx, hdt⟩, hs⟩, _⟩ := I.hok d _ hd
    exact next_key_end (I.ok.hd hc) st ho hdt hsz hi fun h' eb => ⟨rfl, I.turned (t' := s.toks) (fun b ob hb e => eb b ob hb e) f0 f1 f3 f4 f5⟩
end
section
variable {X : Cx} {p : Pm} {cl : Str → Value} {Ex : XK} {G : Genv} {CX : CXT} {sc : Scope} {env env1 : En} {σ : L2.St} {F H : Hp} {i j k : Nat} {kvs : List (List Key × D)} {tg : PySem.Expr} {m it : E}
theorem rp_keys {K : PySem.W.Frag} {F : Hp} : ∀ ks : List Key, RpAll K F (ks.map kV) (ks.map kD)
  | [] => .nil
  | .inl i :: r => .cons (.int i) (rp_keys r)
  | .inr x :: r => .cons (.str x) (rp_keys r)
theorem get_paired {α β : Type} {R : α → β → Prop} {l : List α} {m : List β} (h : Paired R l m) {i : Nat} {y : β} (hy : m[i]? = some y) : ∃ x, l[i]? = some x ∧ R x y := by
  induction h generalizing i with
  | nil => cases hy
  | cons h t ih =>
    cases i with
    | zero => cases hy; exact ⟨_, rfl, h⟩
    | succ i => exact ih hy
/-- a dict that is walked is changed no more -/
theorem Rel.freezeD (r : Rel p env σ F H) (h : env[i]? = some (.dic kvs)) : ∃ a F', σ[i]? = some (some (V.ref a)) ∧ DifIs p F' a kvs ∧ Rel p (env.set i (.dif kvs)) σ F' H ∧ Step env σ F H (env.set i (.dif kvs)) F' H := by
  have hi := get_lt h
  obtain ⟨a, e1, e2, e3, es, ep, ys, g1, g2, g3, g4⟩ := r.dio i _ h rfl
  have oi : OwnAt env σ i a := ⟨owns_d h rfl, e1⟩
  have hmu : ∀ b, p.mu ≠ some (i, b) := fun b z => by
    obtain ⟨l, q⟩ := r.mub i b z
    rw [h] at q; cases q
  obtain ⟨r2, o2⟩ := r.alter (env2 := env.set i .no) (σ2 := σ) (by rw [List.length_set]; exact r.len) fun j => by
    by_cases e : i = j
    · subst e; exact .inr ⟨hmu, .inl (List.getElem?_set_self hi)⟩
    · exact .inl ⟨List.getElem?_set_ne e, rfl⟩
  have hn : ¬ Own (env.set i .no) σ a := fun ⟨j, o1, o3⟩ => by
    rw [ownsAt_set hi] at o1
    by_cases e : i = j
    · rw [if_pos e] at o1; cases o1
    · rw [if_neg e] at o1; exact e (r.inj i j a oi ⟨o1, o3⟩)
  have sf : Same F (upd F a (dicO a es ep)) := same_upd e2
  have fz : DifIs p (upd F a (dicO a es ep)) a kvs := ⟨es, ep, ys, upd_same, g2, g3, Paired.mapP g4 fun x y ⟨q1, q2, v, q3, q4⟩ => ⟨q1, sqt_same sf q2, v, q3, q4.mono sf⟩⟩
  have r3 := r2.freeze g1 e2 e3 hn
  obtain ⟨r4, o4⟩ := r3.alter (env2 := env.set i (.dif kvs)) (σ2 := σ) (by rw [List.length_set]; exact r.len) fun j => by
    by_cases e : i = j
    · subst e; exact .inr ⟨hmu, .inr (.inr ⟨kvs, a, List.getElem?_set_self hi, e1, fz⟩)⟩
    · exact .inl ⟨by rw [List.getElem?_set_ne e, List.getElem?_set_ne e], rfl⟩
  refine ⟨a, _, e1, fz, r4, ⟨fun b u e n => e, fun b e n => ?_, fun _ e => e, fun b z => o2 b (o4 b z), sf⟩⟩
  have hb : b ≠ a := fun z => n ⟨i, by rw [z]; exact oi⟩
  rw [upd_ne hb]
theorem set_same {env : En} {i : Nat} {s : Sl} (h : env[i]? = some s) : env.set i s = env := by
  refine List.ext_getElem? fun j => ?_
  by_cases e : i = j
  · subst e; rw [List.getElem?_set_self (get_lt h), h]
  · rw [List.getElem?_set_ne e]
theorem Rel.freezeA (r : Rel p env σ F H) (h : dicAt env i = some kvs) : ∃ a F', σ[i]? = some (some (V.ref a)) ∧ DifIs p F' a kvs ∧ Rel p (env.set i (.dif kvs)) σ F' H ∧ Step env σ F H (env.set i (.dif kvs)) F' H := by
  rcases dicAt_cases h with he | he
  · exact r.freezeD he
  · obtain ⟨a, e1, e2⟩ := r.dfo i _ he
    rw [set_same he]
    exact ⟨a, F, e1, e2, r, Step.refl _ _ _ _⟩
theorem s_dkeys {x : Str} {px : Pos} (C : Cxt p G cl CX Ex sc X) (h1 : nmB X.N i x = true) (h2 : visB sc x = true) : PI X tg (.Name x px) (TI_ p cl Ex G (.dkeys i)) := by
  obtain ⟨n1, n2, n3⟩ := nm_at h1
  refine ⟨fun pins s σ H R I ⟨F, env, r, q⟩ => ?_⟩
  unfold ev at q
  cases hk : dicAt env i with
  | none => rw [hk] at q; exact q.elim
  | some kvs =>
    rw [hk] at q
    obtain ⟨a, F', g1, ⟨es, ep, ys, g2', g3', _, g4⟩, r2, s2⟩ := r.freezeA hk
    have g2 := r2.hr.sub _ _ g2'
    have g3 : es.toList.map (fun e => e.key) = ys.map (fun y => Value.ref y.2.1) := by rw [g3', List.map_map]; rfl
    obtain ⟨ds, e1, q'⟩ := q _ H r2 s2
    cases e1
    refine thn ((pe_var (pos := px) n1 (vis_of C.sc h2) n2 n3).run pins s σ H (fun v H2 => v = .ref a ∧ H2 = H) I ⟨_, g1, rfl, rfl⟩) fun u s1 ⟨y, H1, I1, rx, e3, e4⟩ => ?_
    subst e3; subst e4
    obtain rfl : u = Value.ref a := rx
    obtain ⟨⟨⟨o, ho, hx, hdt⟩, hs⟩, _⟩ := I1.hok a _ g2
    have hsz : es.size = ys.length := by
      have := congrArg List.length g3
      rwa [List.length_map, List.length_map, Array.length_toList] at this
    have hl : (keysD kvs).length = ys.length := by unfold keysD; rw [List.length_map]; exact Paired.length g4
    refine iter_keys hs ho hx hdt (pi_one (tk := s1.toks) I1 _ (turn_dic _ g3) ⟨_, Heap.get?_push_size _ rfl, rfl, by rw [hsz] <;> rfl⟩ (q' _ ?_))
    refine ⟨fun H => H a = some (dicO a es ep), fun i H x H' => H' = H ∧ ∃ y, ys[i]? = some y ∧ x = .ref y.2.1, ?_, fun H'' sm => sm a _ g2', fun i H1 x H2 hi ⟨y1, y, y2, y3⟩ => .inl ⟨y1, ?_⟩⟩
    · rw [hl]
      exact ⟨fun _ _ hi q => ⟨q, hi⟩, fun _ q => ⟨q, Nat.le_refl _⟩, fun _ _ _ _ _ _ y => y⟩
    · obtain ⟨kv, z1, z2, z3, _⟩ := get_paired g4 y2
      subst y3
      exact ⟨_, by unfold keysD; rw [List.getElem?_map, z1]; rfl, .tup (by rw [← z2] at z3; exact z3) (rp_keys kv.1)⟩
/-! ### all items of all items -/
/-- over what stands in a name, a list or a tuple -/
def iEi (K : PySem.W.Frag) (j : Nat) : TI := fun σ H R => ∃ a xs, σ[j]? = some (some (V.ref a)) ∧ ((SqL K H a xs ∧ R (Itl K a) H) ∨ (SqT K H a xs ∧ R (Itt K a) H))
theorem pi_ei {e : PySem.Expr} (h : PE X e (tVar j)) : PI X tg e (iEi X.K j) := by
  refine ⟨fun pins s σ H R I ⟨a, xs, h1, q⟩ => ?_⟩
  rcases q with ⟨h2, q⟩ | ⟨h2, q⟩
  · exact (pi_list h).run pins s σ H R I ⟨_, h1, a, rfl, ⟨xs, h2⟩, q⟩
  · exact (pi_tup h).run pins s σ H R I ⟨_, h1, a, rfl, ⟨xs, h2⟩, q⟩
theorem restE_wipeE {vs : List Nat} : restE (wipeE env vs) env vs = env := by
  refine List.ext_getElem? fun i => ?_
  by_cases hi : i ∈ vs
  · exact restE_in (by rw [wipeE_length]) hi
  · rw [restE_out hi, wipeE_out hi]
theorem flat_in {K : PySem.W.Frag} {F : Hp} {x : V} {d : D} {l : List D} (r : Rp K F x d) (h : seqOf d = some l) : ∃ a xs, x = .ref a ∧ (SqL K F a xs ∨ SqT K F a xs) ∧ RpAll K F xs l := by
  cases d with
  | list m =>
    cases h
    cases r with
    | lst q a => exact ⟨_, _, rfl, .inl q, a⟩
  | tuple m =>
    cases h
    cases r with
    | tup q a => exact ⟨_, _, rfl, .inr q, a⟩
  | _ => cases h
theorem flatD_cons {d : D} {r m : List D} (h : flatD (d :: r) = some m) : ∃ x y, seqOf d = some x ∧ flatD r = some y ∧ m = x ++ y := by
  unfold flatD at h
  cases h1 : seqOf d with
  | none => rw [h1] at h; cases h
  | some x =>
    cases h2 : flatD r with
    | none => rw [h1, h2] at h; cases h
    | some y => rw [h1, h2] at h; cases h; exact ⟨x, y, rfl, rfl, rfl⟩
/-- the inner walk -/
theorem inner_it {J1 : It} {n1 : Nat} {G1 : Hp → Prop} {xs : List V} {k : Nat} {σ2 : L2.St} {H4 : Hp} {D : Addr} {Nx : Hp → Prop} (w : Walk J1 n1 G1 (YAt xs)) (hk : k < σ2.length) (Pv : Nat → Hp → Prop) (h0 : Pv 0 H4) (hG : ∀ i H, Pv i H → G1 H)
    (hs : ∀ i x H, i < n1 → Pv i H → xs[i]? = some x → ∃ acc, H D = some (.lst acc) ∧ acc.length < sizeLine ∧ Pv (i + 1) (upd H D (.lst (acc ++ [x])))) (hd : ∀ H, Pv n1 H → Nx H) :
    ∃ W1 : Nat → Nat → Hp → Prop, (∃ m, W1 0 m H4) ∧ ∀ j q H, W1 j q H →
      (J1.stop j H ∧ Nx H) ∨ (J1.go j H ∧ ∃ Nx1 : Hp → Prop, (∀ H', Nx1 H' → ∃ k', k' < q ∧ W1 (j + 1) k' H') ∧ ∀ x H', J1.yld j H x H' → gName k x (wipe σ2 [k]) H' fun σ3 H5 => wipe σ3 [k] = wipe σ2 [k] ∧ tYes σ3 H5 fun b H6 =>
        if b = true then tVar k σ3 H6 fun y H7 => ∃ acc, H7 D = some (.lst acc) ∧ acc.length < sizeLine ∧ Nx1 (upd H7 D (.lst (acc ++ [y]))) else Nx1 H6) := by
  refine ⟨fun i m H => m = n1 - i ∧ i ≤ n1 ∧ Pv i H, ⟨n1, by simp, Nat.zero_le _, h0⟩, ?_⟩
  rintro i m H ⟨rfl, hi, p⟩
  have q := hG i H p
  by_cases hlt : i < n1
  · refine .inr ⟨w.goes i H hlt q, Pv (i + 1), fun H' p' => ⟨n1 - (i + 1), by omega, rfl, hlt, p'⟩, fun x H' y => ?_⟩
    obtain ⟨e1, e2⟩ : YAt xs i H x H' := w.yields i H x H' hlt q y
    subst e1
    refine ⟨?_, ?_⟩
    · show ((((σ2.set k none).set k (some x)).set k none) : L2.St) = σ2.set k none
      rw [List.set_set, List.set_set]
    · unfold tYes
      dsimp only
      rw [if_pos rfl]
      refine ⟨x, ?_, hs i x H' hlt p e2⟩
      rw [List.getElem?_set_self (by rw [wipe_length]; exact hk)]
  · have e : i = n1 := by omega
    subst e
    exact .inl ⟨w.stops H q, hd H p⟩
theorem lc_flat {K : PySem.W.Frag} (hK : K = p.K) {own : List (Str × Nat)} {Q : VK} (hj : j ∈ own.map (·.2)) (hjk : j ≠ k)
    (h : TB p cl Ex G (.flat it own j k) σ H Q) : tLc2 (TI_ p cl Ex G it) (gName j) tYes (iEi K j) (gName k) tYes (tVar k) (own.map (·.2)) [k] σ H Q := by
  subst hK
  obtain ⟨F, env, r, q⟩ := h
  unfold ev at q
  generalize hvs : own.map (·.2) = vs at q hj ⊢
  refine ⟨F, env, r, q.bind'.imp fun d env1 F1 H1 r1 s1 q1 => ?_⟩
  cases hds : itemsOf d with
  | none => dsimp only at q1; rw [hds] at q1; exact q1.elim
  | some ds =>
  refine ⟨ds, rfl, fun J wk D hD => ?_⟩
  dsimp only at q1
  rw [hds] at q1
  dsimp only at q1
  cases hm : flatD ds with
  | none => rw [hm] at q1; exact q1.elim
  | some m =>
  rw [hm] at q1
  dsimp only at q1
  split at q1
  case isFalse => exact q1.elim
  rename_i hif
  simp only [Bool.and_eq_true, decide_eq_true_eq] at hif
  obtain ⟨⟨hnh, hlen⟩, hj2, hk2⟩ := hif
  have hmu := r1.nomu hnh
  replace q1 : Po p cl Ex env1 σ F1 H1 (.ok (PyData.list m, env1)) _ := q1
  obtain ⟨Gd, Y, wk, hGd, hY⟩ := wk
  have dF : F1 D = none := none_of_same r1.hr.sub hD
  have d0 : p.H0 D = none := Decidable.byContradiction fun z => r1.hr.there D z hD
  have dOwn : ¬ Own env1 σ D := r1.not_own hD
  obtain ⟨rw1, ow1⟩ := r1.wiped (σ := σ) hmu rfl
  have hlσ : env1.length = σ.length := r1.len
  let We := wipeE env1 vs
  let Ws := wipe σ vs
  let Pv : Nat → Hp → Prop := fun i H => ∃ F acc accD rest, Rel p We Ws F H ∧ Stp (Own env1 σ) F1 H1 (Own We Ws) F H ∧ H D = some (.lst acc) ∧ F D = none ∧ RpAll p.K F acc accD ∧ flatD (ds.drop i) = some rest ∧ accD ++ rest = m
  refine ⟨fun i m H => m = ds.length - i ∧ i ≤ ds.length ∧ Pv i H, ⟨ds.length, by simp, Nat.zero_le _, F1, [], [], m, rw1.poke d0 dF (fun z => dOwn (ow1 _ z)), (Stp.refl.less ow1).poke hD, upd_same, dF, .nil, hm, rfl⟩, ?_⟩
  rintro i mm H ⟨rfl, hi, pv⟩
  obtain ⟨F, acc, accD, rest, r, s, e1, e2, e3, e4, e5⟩ := pv
  have hg : Gd H := hGd H (s.sub.trans r.hr.sub)
  by_cases hlt : i < ds.length
  · refine .inr ⟨wk.goes i H hlt hg, Pv (i + 1), fun H' p' => ⟨ds.length - (i + 1), by omega, rfl, hlt, p'⟩, fun x H' y => ?_⟩
    obtain ⟨F2, dx, r2, s2, g1, g2, g3, g4⟩ := YR.rel r s.sub (hY i H x H' hlt (wk.yields i H x H' hlt hg y))
    have hdrop : ds.drop i = dx :: ds.drop (i + 1) := by
      obtain ⟨h1, h2⟩ := List.getElem?_eq_some_iff.mp g1
      rw [List.drop_eq_getElem_cons h1, h2]
    rw [hdrop] at e4
    obtain ⟨l, rest', f1, f2, f3⟩ := flatD_cons e4
    subst f3
    obtain ⟨a, xs, rfl, hax, hxl⟩ := flat_in g2 f1
    have hw : wipe ((Ws : L2.St).set j (some (V.ref a))) vs = Ws := by
      show wipe ((wipe σ vs).set j (some (V.ref a))) vs = wipe σ vs
      refine wipe_eq (by rw [List.length_set, wipe_length]) fun b hb => ?_
      have : j ≠ b := fun z => hb (z ▸ hj)
      rw [List.getElem?_set_ne this]
      exact wipe_out hb
    refine ⟨hw, ?_⟩
    unfold tYes
    dsimp only
    rw [if_pos rfl]
    have F2D : F2 D = none := by
      rw [g4 D (by rw [e1]; intro z; cases z)]; exact e2
    let P1 : Nat → Hp → Prop := fun t H => ∃ acc accD, Rel p We Ws F2 H ∧ Stp (Own env1 σ) F1 H1 (Own We Ws) F2 H ∧ H D = some (.lst acc) ∧ RpAll p.K F2 acc accD ∧ accD ++ (l.drop t ++ rest') = m
    have p10 : P1 0 H' := ⟨acc, accD, r2, s.trans s2, g3 D _ e1, e3.mono s2.sub, by rw [List.drop_zero]; exact e5⟩
    have hxl2 := hxl.length
    have hs1 : ∀ t x H, t < xs.length → P1 t H → xs[t]? = some x → ∃ acc, H D = some (.lst acc) ∧ acc.length < sizeLine ∧ P1 (t + 1) (upd H D (.lst (acc ++ [x]))) := by
      intro t x H ht ⟨acc, accD, r3, s3, c1, c2, c3⟩ hx
      obtain ⟨dd, hdd, hrp⟩ := hxl.get hx
      have hd2 : l.drop t = dd :: l.drop (t + 1) := by
        obtain ⟨h1, h2⟩ := List.getElem?_eq_some_iff.mp hdd
        rw [List.drop_eq_getElem_cons h1, h2]
      rw [hd2] at c3
      refine ⟨acc, c1, ?_, acc ++ [x], accD ++ [dd], r3.poke d0 F2D (fun z => dOwn (s3.owl _ z)), s3.poke hD, upd_same, c2.snoc hrp, ?_⟩
      · have := congrArg List.length c3
        simp only [List.length_append, List.length_cons] at this
        rw [c2.length]
        exact Nat.lt_of_lt_of_le (by omega) hlen
      · rw [← c3]; simp
    have hd1 : ∀ H, P1 xs.length H → Pv (i + 1) H := fun H ⟨acc, accD, r3, s3, c1, c2, c3⟩ => by
      rw [hxl2, List.drop_length, List.nil_append] at c3
      exact ⟨F2, acc, accD, rest', r3, s3, c1, F2D, c2, f2, c3⟩
    have hkl : k < ((Ws : L2.St).set j (some (V.ref a))).length := by
      rw [List.length_set]; show k < (wipe σ vs).length; rw [wipe_length, ← hlσ]; exact hk2
    refine ⟨a, xs, ?_, ?_⟩
    · show ((wipe σ vs).set j (some (V.ref a)))[j]? = _
      rw [List.getElem?_set_self (by rw [wipe_length, ← hlσ]; exact hj2)]
    · rcases hax with hax | hax
      · refine .inl ⟨sql_same r2.hr.sub hax, inner_it walk_list hkl P1 p10 (fun t H ⟨_, _, r3, _⟩ => sql_same r3.hr.sub hax) hs1 hd1⟩
      · refine .inr ⟨sqt_same r2.hr.sub hax, inner_it walk_tup hkl P1 p10 (fun t H ⟨_, _, r3, _⟩ => sqt_same r3.hr.sub hax) hs1 hd1⟩
  · have e : i = ds.length := by omega
    subst e
    refine .inl ⟨wk.stops H hg, ?_⟩
    rw [List.drop_length] at e4
    cases e4
    rw [List.append_nil] at e5
    subst e5
    obtain ⟨r7, o7⟩ := r.rested r1 s.sub hnh
    have r7 : Rel p (restE (wipeE env1 vs) env1 vs) σ F H := r7
    have o7 : ∀ b, Own (restE (wipeE env1 vs) env1 vs) σ b → _ := o7
    rw [restE_wipeE] at r7 o7
    refine q1 F H r7 (Stp.step (s.less o7)) _ ?_
    unfold ResOk
    have hF : isFresh G (.flat it own j k) = true := rfl
    rw [hF]
    exact ⟨D, acc, rfl, e1, e2, d0, Decidable.byContradiction fun z => s1.there D z hD, fun z => dOwn (s.owl _ (o7 _ z)), e3⟩
theorem dikAt_some {env : En} {i : Nat} {kvs : List (Key × D)} (h : dikAt env i = some kvs) : env[i]? = some (.dik kvs) := by
  unfold dikAt at h
  split at h
  · rename_i k e; cases h; exact e
  · cases h
theorem dik_rel {kvs : List (Key × D)} (r : Rel p env σ F H) (h : dikAt env i = some kvs) : ∃ a ys, env[i]? = some (.dik kvs) ∧ σ[i]? = some (some (V.ref a)) ∧ F a = none ∧ H a = some (.dK ys) ∧ Paired (fun (x : Key × D) (y : Key × V) => x.1 = y.1 ∧ Rp p.K F y.2 x.2) kvs ys := by
  have he := dikAt_some h
  obtain ⟨a, e1, e2, e3, ys, h1, h2⟩ := r.dio i _ he rfl
  exact ⟨a, ys, he, e1, e2, h1, h2⟩
theorem keyInts_keys {K : PySem.W.Frag} {kvs : List (Key × D)} {ys : List (Key × V)} {ks : List Int} (h : keyInts kvs = some ks) (r : Paired (fun (x : Key × D) (y : Key × V) => x.1 = y.1 ∧ Rp K F y.2 x.2) kvs ys) : ys.map (·.1) = ks.map Sum.inl := by
  induction r generalizing ks with
  | nil => cases h; rfl
  | @cons x y xs ys hxy t ih =>
    obtain ⟨k, d⟩ := x
    cases k with
    | inr z => cases h
    | inl z =>
      unfold keyInts at h
      cases hk : keyInts xs with
      | none => rw [hk] at h; cases h
      | some ks' =>
        rw [hk] at h; cases h
        rw [List.map_cons, List.map_cons, ih hk, ← hxy.1]
theorem s_ksort {x : Str} {p1 px pos : Pos} (C : Cxt p G cl CX Ex sc X) (hg : Gl X "sorted") (h1 : nmB X.N i x = true) (h2 : visB sc x = true) :
    PE X (.Call (.Name "sorted" p1) [.Name x px] [] pos) (TB p cl Ex G (.ksort i)) := by
  obtain ⟨n1, n2, n3⟩ := nm_at h1
  refine PE.weak (pe_callB (call_sortedDI C.calm) hg (C.blt _ (by decide +kernel)) (by decide +kernel) (pa_cons (pe_var n1 (vis_of C.sc h2) n2 n3) pa_nil rfl) (by decide) (by decide) rfl rfl) fun σ H Q ⟨F, env, r, q⟩ => ?_
  unfold ev at q
  split at q
  · rename_i kvs hk
    split at q
    · rename_i ks hks
      split at q
      · rename_i hc
        simp only [Bool.and_eq_true, decide_eq_true_eq] at hc
        obtain ⟨a, ys, he, g1, g2, g3, g4⟩ := dik_rel r hk
        refine ⟨.ref a, g1, a, ys, ks, rfl, .inl g3, keyInts_keys hks g4, hc.2, fun ms u w1 w2 hu => ?_⟩
        have w3 : ms.Pairwise (· < ·) := by
          have nd : ms.Nodup := w1.nodup_iff.mpr hc.1
          refine (List.Pairwise.and w2 nd).imp fun {a b} h => ?_
          have := h.1; have := h.2; omega
        have e : ms = sdI ks := sdI_of w3 fun k => w1.mem_iff
        subst e
        exact (out_of r (Step.refl _ _ _ _) (Q := Q) (d := .list ((sdI ks).map PyData.int)) fun F'' H'' r2 s2 v2 hv2 => (show ∀ F'' H'', Rel p env σ F'' H'' → Step env σ F H env F'' H'' → ∀ v, ResOk true p env σ H F'' H'' v (.list ((sdI ks).map PyData.int)) → Q v H'' from q) F'' H'' r2 s2 v2 hv2).lst u _ _ rfl hu (RpAll.of_ints _)
      · exact q.elim
    · exact q.elim
  · exact q.elim
/-! ### sorted of a dict whose keys are tuples -/
open PySem.W (EachIs) in
theorem each_keys {K : PySem.W.Frag} {kvs : List (List Key × D)} {ys : List (List Key × Addr × Value)} (h : Paired (KyR K F) kvs ys) : EachIs (ItR K F) (ys.map fun y => Value.ref y.2.1) (keysD kvs) := by
  unfold keysD
  induction h with
  | nil => exact .nil
  | @cons x y xs ys h t ih =>
    obtain ⟨h1, h2, _⟩ := h
    refine .cons ⟨.ref y.2.1, rfl, ?_⟩ ih
    rw [← h1] at h2
    exact .tup h2 (rp_keys x.1)
theorem sortD_ok {l : List D} {d : D} (h : sortD [.list l] = some d) : sortOk l = true ∧ d = .list (srt l) := by
  have e : sortD [.list l] = if sortOk l = true then some (.list (srt l)) else none := rfl
  rw [e] at h
  by_cases hk : sortOk l = true
  · rw [if_pos hk] at h; cases h; exact ⟨hk, rfl⟩
  · rw [if_neg hk] at h; cases h
def rSrtD (X : Cx) : List V → Hp → VK → Prop := fun xs H Q => ∃ F a es ep ys kvs d, Same F H ∧ xs = [V.ref a] ∧ H a = some (dicO a es ep) ∧ es.toList.map (fun e => e.key) = ys.map (fun y => Value.ref y.2.1) ∧ Paired (KyR X.K F) kvs ys ∧ sortD [.list (keysD kvs)] = some d ∧ Out X.K F H d Q
open PySem.W (KdlSrc kdu_collect) in
theorem cr_sortDic (hc : X.calm = true) (hu : X.A.units + 65 < cLine) : CallR X (.builtin "sorted") (rSrtD X) := by
  intro pins s σ H xs us Q I r h
  obtain ⟨F, a, es, ep, ys, kvs, d, sm, rfl, hH, he, hp, hd, o⟩ := h
  obtain ⟨hok, rfl⟩ := sortD_ok hd
  obtain ⟨h1, h2, h3, h4⟩ := sortOk_of hok
  rw [Vals.ref1 r]
  obtain ⟨⟨⟨ob, ho, hx, hdt⟩, hs⟩, _⟩ := I.hok a _ hH
  have hl : (keysD kvs).length = ys.length := by unfold keysD; rw [List.length_map]; exact Paired.length hp
  have hsz : es.size = ys.length := by
    have := congrArg List.length he
    rwa [List.length_map, List.length_map, Array.length_toList] at this
  have ek := each_keys hp
  have er : PySem.W.EachIs (fun u d => ∃ as, Reads s.heap u (id d) as) (ys.map fun y => Value.ref y.2.1) (keysD kvs) := ek.mono fun u d ⟨v, r1, r2⟩ => Dp.reads I _ _ _ (r2.mono sm).dp r1
  refine PySem.W.sorted_col_data (enc := id) (R := ItR X.K F) (fun R' k => kdu_collect (KdlSrc.rawDict hs) (I.ok.hd hc) ⟨ob, ho, hx, hdt⟩ (by rw [hsz, ← hl]; exact h3) fun h' tk acc hk it => ?_) ek er (by rw [List.map_id]; exact h1) (by rw [List.map_id]; exact h2) h3 (fun b hb => ?_) fun h1' h' tk q out n hkp hkp2 hq hat hlen eo => ?_
  · have ea : acc.toList = ys.map fun y => Value.ref y.2.1 := by
      rw [← he]
      refine List.ext_getElem? fun j => ?_
      by_cases hj : j < es.size
      · have hj2 : j < acc.toList.length := by rw [Array.length_toList, it.1]; exact hj
        obtain ⟨hi, e2⟩ := it.2 j acc.toList[j] (by rw [← Array.getElem?_toList]; exact List.getElem?_eq_getElem hj2)
        rw [List.getElem?_eq_getElem hj2, e2, List.getElem?_map, Array.getElem?_toList, Array.getElem?_eq_getElem hj]; rfl
      · rw [List.getElem?_eq_none (by rw [Array.length_toList, it.1]; omega), List.getElem?_eq_none (by rw [List.length_map, Array.length_toList]; omega)]
    rw [ea]
    exact k h' tk hk
  · have := h4 b hb
    show X.A.units + 2 + b.depth < cLine
    omega
  · obtain ⟨vs', q1, q2⟩ := each_back eo
    have hl' : vs'.length ≤ sizeLine := by rw [q1.length, hlen]; exact h3
    have I1 : Inv X pins σ H { s with heap := h1', toks := tk } := I.kept (t' := tk) hkp
    exact ⟨.ref _, upd H q (.lst vs'), I1.laid (t' := tk) hkp2 hq ⟨hl', out, n, q1, hat⟩, rfl, o.lst _ _ _ rfl (I1.hok.fresh hq) q2⟩
theorem s_dsort {x : Str} {p1 px pos : Pos} (C : Cxt p G cl CX Ex sc X) (hg : Gl X "sorted") (h1 : nmB X.N i x = true) (h2 : visB sc x = true) :
    PE X (.Call (.Name "sorted" p1) [.Name x px] [] pos) (TB p cl Ex G (.dsort i)) := by
  obtain ⟨n1, n2, n3⟩ := nm_at h1
  refine PE.weak (pe_callB (cr_sortDic C.calm C.un) hg (C.blt _ (by decide +kernel)) (by decide +kernel) (pa_cons (pe_var n1 (vis_of C.sc h2) n2 n3) pa_nil rfl) (by decide) (by decide) rfl rfl) fun σ H Q ⟨F, env, r, q⟩ => ?_
  unfold ev at q
  split at q
  · rename_i kvs hk
    obtain ⟨d, hd, k⟩ := q.ret1
    obtain ⟨a, ys, g1, ⟨es, ep, g2, g3, _⟩, g4⟩ := dic_rel C r hk
    refine ⟨.ref a, g1, F, a, es, ep, ys, kvs, d, r.hr.sub, rfl, g2, ?_, by rw [C.k]; exact g4, hd, ?_⟩
    · rw [g3, List.map_map]; rfl
    · rw [C.k]
      exact out_of r (Step.refl _ _ _ _) fun F'' H'' r2 s2 v2 hv2 => k F'' H'' r2 s2 v2 hv2
  · exact q.elim
/-! ### sorted of the dict that a def gives -/
theorem csort_core {f : Nat} {es : E} {fs : FSem} (C : Cxt p G cl CX Ex sc X) (hf : G.fn f = some fs) {σ : L2.St} {H : Hp} {Q : VK} (h : TB p cl Ex G (.csort f es) σ H Q) :
    TAr p cl Ex G es σ H fun vs H1 => spH p.K p.hs cl fs vs H1 (fun v H' => rSrtD X [v] H' Q) Ex := by
  obtain ⟨F, env, r, q⟩ := h
  unfold ev at q
  rw [hf] at q
  refine ⟨F, env, r, q.bind.imp fun d env1 F1 H1 r1 s1 q1 => ?_⟩
  dsimp only at q1
  split at q1
  case h_2 => exact q1.elim
  rename_i l fs' el
  cases el
  refine ⟨l, rfl, fun vs hvs => ?_⟩
  split at q1
  · exact q1.elim
  rename_i hb
  simp only [Bool.or_eq_true, Bool.not_eq_true', not_or, Bool.not_eq_true, Bool.not_eq_false, beq_iff_eq] at hb
  obtain ⟨⟨hb1, hb2⟩, hb3⟩ := hb
  refine ⟨F1, l, none, r1.hr.sub, by rw [hvs.length]; exact hb2, ?_, ?_⟩
  · unfold ArgsOk
    rw [hb1]
    exact ⟨rfl, hvs⟩
  cases e : fs.f l with
  | bot => rw [e] at q1; exact q1.elim
  | exc c0 =>
    rw [e] at q1
    intro F' H' c
    exact q1 F' H' (c.hrel r1.hr fun b o z => (nomatch z))
  | ok w =>
    obtain ⟨d2, l2⟩ := w
    rw [e] at q1
    dsimp only [Rs.bind] at q1
    split at q1
    case h_2 => exact q1.elim
    split at q1
    case h_2 => exact q1.elim
    rename_i kv hk
    obtain ⟨d, hd, k⟩ := q1.ret1
    intro v F' H' c _ res
    obtain ⟨r2, s2⟩ := r1.called c
    rw [hb3] at res
    obtain ⟨a, kv', rfl, g1, g2, g3, ⟨es', ep, ys, g4, g5, _, g6⟩⟩ := res
    rw [hk] at g1; cases g1
    refine ⟨F', a, es', ep, ys, kv, d, r2.hr.sub, rfl, g4, ?_, by rw [C.k]; exact g6, hd, ?_⟩
    · rw [g5, List.map_map]; rfl
    · rw [C.k]
      exact out_of r2 (s1.trans s2) fun F'' H'' r3 s3 v2 hv2 => k F'' H'' r3 (s2.trans s3) (s1.trans (s2.trans s3)) v2 hv2
theorem s_csort {f : Nat} {es : E} {x : Str} {p1 p2 q2 pos : Pos} {y : PySem.Expr} {ys : List PySem.Expr} (C : Cxt p G cl CX Ex sc X) (hs : Gl X "sorted") (hf : (G.fn f).isSome = true) (hx : G.fnm f = x) (hg : Gl X x) (hd : dbg x = false) (ha : PA X (y :: ys) (TAr p cl Ex G es))
    (he : starEach (y :: ys) X.env = (false, eval y X.env) :: starEach ys X.env) (hpl : (backTo q2 (starEach ys X.env)).any (·.1) = false) : PE X (.Call (.Name "sorted" p1) [.Call (.Name x p2) (y :: ys) [] q2] [] pos) (TB p cl Ex G (.csort f es)) := by
  subst hx
  obtain ⟨fs, hf⟩ := Option.isSome_iff_exists.mp hf
  obtain ⟨fa, fd, ps, k, F, hr, hm, hk, hb⟩ := (C.fns f fs hf).ex
  refine PE.weak (pe_callB (cr_sortDic C.calm C.un) hs (C.blt _ (by decide +kernel)) (by decide +kernel) (pa_cons (pe_call F hr hg hm hk hb .nil C.pass ha (dbg_of hd).1 he hpl) pa_nil rfl) (by decide) (by decide) rfl rfl) fun σ H Q h => ?_
  obtain ⟨F, env, r, q⟩ := csort_core C hf h
  exact ⟨F, env, r, q.imp fun d env' F' H' _ _ ⟨ds, e, k⟩ => ⟨ds, e, fun vs hvs => by
    show spH p.K _ cl fs (vs ++ []) H' _ Ex
    rw [List.append_nil, ← C.hs]; exact k vs hvs⟩⟩
/-! ### d.update(dict(pairs)) -/
def putQ (kvs : List (Key × D)) (k : Key) (v : D) : List (Key × D) :=
  if (kvs.any fun kv => decide (kv.1 = k)) = true then kvs.map (fun kv => if kv.1 = k then (kv.1, v) else kv) else kvs ++ [(k, v)]
def mergQ (kvs more : List (Key × D)) : List (Key × D) := more.foldl (fun acc kv => putQ acc kv.1 kv.2) kvs
def pairsD : List D → Option (List (Key × D))
  | [] => some []
  | .tuple [.int i, d] :: r => (pairsD r).map ((.inl i, d) :: ·)
  | .tuple [.str x, d] :: r => (pairsD r).map ((.inr x, d) :: ·)
  | _ => none
def prsOf : D → Option (List (Key × D))
  | .list l => pairsD l
  | _ => none
def KqR (K : PySem.W.Frag) (F : Hp) (x : Key × D) (y : Key × V) : Prop := x.1 = y.1 ∧ Rp K F y.2 x.2
theorem KqR.put {K : PySem.W.Frag} {kvs : List (Key × D)} {ys : List (Key × V)} (r : Paired (KqR K F) kvs ys) (k : Key) {d : D} {v : V} (h : Rp K F v d) : Paired (KqR K F) (putQ kvs k d) (putK ys k v) := by
  have e : (kvs.any fun kv => decide (kv.1 = k)) = (ys.any fun kv => decide (kv.1 = k)) := by
    induction r with
    | nil => rfl
    | cons h t ih => rw [List.any_cons, List.any_cons, ih, h.1]
  have repl : Paired (KqR K F) (kvs.map fun kv => if kv.1 = k then (kv.1, d) else kv) (ys.map fun kv => if kv.1 = k then (kv.1, v) else kv) := by
    clear e
    induction r with
    | nil => exact .nil
    | @cons p q ps qs h1 t ih =>
      rw [List.map_cons, List.map_cons]
      refine .cons ?_ ih
      by_cases e : p.1 = k
      · rw [if_pos e, if_pos (h1.1.symm.trans e)]; exact ⟨h1.1, h⟩
      · rw [if_neg e, if_neg (fun z => e (h1.1.trans z))]; exact h1
  unfold putQ putK
  rw [e]
  split
  · exact repl
  · exact Paired.snoc r ⟨rfl, h⟩
theorem KqR.merge {K : PySem.W.Frag} {more : List (Key × D)} {ms : List (Key × V)} (r : Paired (KqR K F) more ms) : ∀ {kvs : List (Key × D)} {ys : List (Key × V)}, Paired (KqR K F) kvs ys → Paired (KqR K F) (mergQ kvs more) (mergeK ys ms) := by
  induction r with
  | nil => exact fun h => h
  | @cons p q ps qs h t ih =>
    intro kvs ys r2
    have : Paired (KqR K F) (putQ kvs p.1 p.2) (putK ys q.1 q.2) := by rw [h.1]; exact KqR.put r2 q.1 h.2
    exact ih this
theorem pairs_rp {K : PySem.W.Frag} : ∀ {ds : List D} {more : List (Key × D)} {xs : List V}, pairsD ds = some more → RpAll K F xs ds → ∃ ps ms, xs = ps.map V.ref ∧ Paired (fun p (kv : Key × V) => SqT K F p [kV kv.1, kv.2]) ps ms ∧ Paired (KqR K F) more ms
  | [], more, xs, h, r => by cases h; cases r; exact ⟨[], [], rfl, .nil, .nil⟩
  | .tuple [.int i, d] :: ds, more, xs, h, r => by
    unfold pairsD at h
    cases e : pairsD ds with
    | none => rw [e] at h; cases h
    | some m =>
      rw [e] at h; cases h
      cases r with
      | cons a t =>
        obtain ⟨ps, ms, h1, h2, h3⟩ := pairs_rp e t
        cases a with
        | tup q w =>
          cases w with
          | cons w1 w2 =>
            cases w1
            cases w2 with
            | cons w3 w4 =>
              cases w4
              exact ⟨_ :: ps, (.inl i, _) :: ms, by rw [h1]; rfl, .cons q h2, .cons ⟨rfl, w3⟩ h3⟩
  | .tuple [.str i, d] :: ds, more, xs, h, r => by
    unfold pairsD at h
    cases e : pairsD ds with
    | none => rw [e] at h; cases h
    | some m =>
      rw [e] at h; cases h
      cases r with
      | cons a t =>
        obtain ⟨ps, ms, h1, h2, h3⟩ := pairs_rp e t
        cases a with
        | tup q w =>
          cases w with
          | cons w1 w2 =>
            cases w1
            cases w2 with
            | cons w3 w4 =>
              cases w4
              exact ⟨_ :: ps, (.inr i, _) :: ms, by rw [h1]; rfl, .cons q h2, .cons ⟨rfl, w3⟩ h3⟩
  | .none :: _, _, _, h, _ => by cases h
  | .bool _ :: _, _, _, h, _ => by cases h
  | .int _ :: _, _, _, h, _ => by cases h
  | .str _ :: _, _, _, h, _ => by cases h
  | .list _ :: _, _, _, h, _ => by cases h
  | .dict _ :: _, _, _, h, _ => by cases h
  | .tuple [] :: _, _, _, h, _ => by cases h
  | .tuple [x] :: _, _, _, h, _ => by cases x <;> (unfold pairsD at h; cases h)
  | .tuple (.none :: _ :: _) :: _, _, _, h, _ => by unfold pairsD at h; cases h
  | .tuple (.bool _ :: _ :: _) :: _, _, _, h, _ => by unfold pairsD at h; cases h
  | .tuple (.list _ :: _ :: _) :: _, _, _, h, _ => by unfold pairsD at h; cases h
  | .tuple (.tuple _ :: _ :: _) :: _, _, _, h, _ => by unfold pairsD at h; cases h
  | .tuple (.dict _ :: _ :: _) :: _, _, _, h, _ => by unfold pairsD at h; cases h
  | .tuple (.int _ :: _ :: _ :: _) :: _, _, _, h, _ => by unfold pairsD at h; cases h
  | .tuple (.str _ :: _ :: _ :: _) :: _, _, _, h, _ => by unfold pairsD at h; cases h
def tKupd (i : Nat) (tv : TE) : TE := fun σ H Q => ∃ a, σ[i]? = some (some (V.ref a)) ∧ (∃ kvs, H a = some (.dK kvs)) ∧ tv σ H fun y H1 => ∃ b ks ms, y = .ref b ∧ a ≠ b ∧ H1 a = some (.dK ks) ∧ H1 b = some (.dK ms) ∧ ks.length + ms.length ≤ sizeLine ∧ Q .non (upd H1 a (.dK (mergeK ks ms)))
theorem pe_kupd {x : Str} {v : PySem.Expr} {px ap pos : Pos} {tv : TE} (hx : PE X (.Name x px) (tVar i)) (hl : (ap.endLine == pos.line) = true) (hs : starEach [v] X.env = (false, eval v X.env) :: starEach [] X.env) (hv : PE X v tv) :
    PE X (.Call (.Attribute (.Name x px) "update" ap) [v] [] pos) (tKupd i tv) := by
  have hst : backTo pos (starEach [v] X.env) = [(false, eval v X.env)] := by rw [hs]; rfl
  refine ⟨fun pins s σ H Q I ⟨a, g1, ⟨kvs0, g2⟩, q⟩ => ?_⟩
  refine wpAny_Call_method (by rfl) (by rw [hst]; rfl) hl PySem.F.plainAttrs_dict PySem.F.slot_dict_update PySem.F.type_dict_update (thn (hx.run pins s σ H (fun v H2 => v = .ref a ∧ H2 = H) I ⟨_, g1, rfl, rfl⟩) fun u s1 ⟨x, H1, I1, rx, e3, e4⟩ => ?_)
  subst e3; subst e4
  obtain rfl : u = Value.ref a := rx
  obtain ⟨_, _, _, _, dd⟩ := dk_of I1.hok g2
  refine ⟨dd.typeIs, fun b z => ?_, ?_⟩
  · cases z
    obtain ⟨ob, _, _, q1, q2, _⟩ := dd
    exact ⟨ob, q1, q2.2.1⟩
  rw [hst]
  refine Calls.callWith_builtin rfl (Calls.evalArgs_plain (Calls.spliced_cons (thn (hv.run pins s1 σ _ _ I1 q) fun iv s2 ⟨y, H2, I2, ry, b, ks, ms, e1, hab, h1, h2, h3, q2⟩ => Calls.spliced_nil ?_)))
  subst e1
  obtain rfl : iv = Value.ref b := ry
  obtain ⟨z1, m1, vs1, r1, d1⟩ := dk_of I2.hok h1
  obtain ⟨z2, m2, vs2, r2, d2⟩ := dk_of I2.hok h2
  refine call_meetsIn PySem.F.slot_dict_update d1.typeIs PySem.F.entry_dict_update (PySem.F.args_dict_update_2 _ _) (meets_dict_update (mixKind X.prog X.w) a b hab m2) ⟨vs1, vs2, d1, d2, by rw [← r1.length, ← r2.length]; exact h3, fun h' hm _ hsb => ?_⟩
  refine ⟨.non, _, d_write I2 (by rw [h1]; exact True.intro) hsb ?_ (dk_new (Nat.le_trans (length_mergeK ms ks) h3) m1 (KV.merge r2 r1) hm), rfl, q2⟩
  obtain ⟨o, _, _, ho, _⟩ := hm
  exact ⟨o, ho⟩
end
end Rv

set_option Elab.async false
set_option linter.all false
set_option maxRecDepth 100000
set_option maxHeartbeats 4000000
/-! Rv10e: list(dict), dict comprehensions and update, keys that are tuples. -/
namespace Rv
open PySem PySem.Spec PyProof.Rows L2
section
variable {X : Cx} {p : Pm} {cl : Str → Value} {Ex : XK} {G : Genv} {CX : CXT} {sc : Scope} {env : En} {σ : L2.St} {F H : Hp} {i : Nat} {kvs : List (List Key × D)}
/-! ### list(x) -/
def rLstD (X : Cx) : List V → Hp → VK → Prop := fun xs H Q => ∃ F a es ep ys kvs, Same F H ∧ xs = [V.ref a] ∧ H a = some (dicO a es ep) ∧ es.toList.map (fun e => e.key) = ys.map (fun y => Value.ref y.2.1) ∧ Paired (KyR X.K F) kvs ys ∧ kvs.length ≤ sizeLine ∧ Out X.K F H (.list (keysD kvs)) Q
open PySem.W (KdlSrc kdl_call EachIs) in
theorem cr_lstDic (hc : X.calm = true) : CallR X (.type "list") (rLstD X) := by
  intro pins s σ H xs us Q I r h
  obtain ⟨F, a, es, ep, ys, kvs, sm, rfl, hH, he, hp, h3, o⟩ := h
  rw [Vals.ref1 r]
  obtain ⟨⟨⟨ob, ho, hx, hdt⟩, hs⟩, _⟩ := I.hok a _ hH
  have hl : (keysD kvs).length = ys.length := by unfold keysD; rw [List.length_map]; exact Paired.length hp
  have hl0 : (keysD kvs).length = kvs.length := by unfold keysD; rw [List.length_map]
  have hsz : es.size = ys.length := by
    have := congrArg List.length he
    rwa [List.length_map, List.length_map, Array.length_toList] at this
  have ek := each_keys hp
  refine kdl_call (KdlSrc.rawDict hs) (I.ok.hd hc) ⟨ob, ho, hx, hdt⟩ (by rw [hsz, ← hl, hl0]; exact h3) fun h' tk acc c hk hS it => ?_
  have ea : acc.toList = ys.map fun y => Value.ref y.2.1 := by
    rw [← he]
    refine List.ext_getElem? fun j => ?_
    by_cases hj : j < es.size
    · have hj2 : j < acc.toList.length := by rw [Array.length_toList, it.1]; exact hj
      obtain ⟨hi, e2⟩ := it.2 j acc.toList[j] (by rw [← Array.getElem?_toList]; exact List.getElem?_eq_getElem hj2)
      rw [List.getElem?_eq_getElem hj2, e2, List.getElem?_map, Array.getElem?_toList, Array.getElem?_eq_getElem hj]; rfl
    · rw [List.getElem?_eq_none (by rw [Array.length_toList, it.1]; omega), List.getElem?_eq_none (by rw [List.length_map, Array.length_toList]; omega)]
  rw [← ea] at ek
  obtain ⟨vs', q1, q2⟩ := each_back ek
  have hl' : vs'.length ≤ sizeLine := by rw [q1.length, Array.length_toList, it.1, hsz, ← hl, hl0]; exact h3
  have hn : H s.heap.objs.size = none := I.hok.fresh (Nat.le_refl _)
  exact ⟨.ref _, upd H s.heap.objs.size (.lst vs'), I.laid (t' := tk) hk (Nat.le_refl _) ⟨hl', acc.toList, c, q1, by rw [hS]⟩, rfl, o.lst _ _ _ rfl hn q2⟩
theorem s_dlist {x : Str} {p1 px pos : Pos} (C : Cxt p G cl CX Ex sc X) (hg : Gl X "list") (h1 : nmB X.N i x = true) (h2 : visB sc x = true) :
    PE X (.Call (.Name "list" p1) [.Name x px] [] pos) (TB p cl Ex G (.dlist i)) := by
  obtain ⟨n1, n2, n3⟩ := nm_at h1
  refine PE.weak (pe_callTy (cr_lstDic C.calm) hg (C.blt _ (by decide +kernel)) (by decide +kernel) (pa_cons (pe_var n1 (vis_of C.sc h2) n2 n3) pa_nil rfl) (by decide) (by decide) rfl rfl) fun σ H Q ⟨F, env, r, q⟩ => ?_
  unfold ev at q
  split at q
  · rename_i kvs hk
    split at q
    · rename_i hlen
      obtain ⟨a, ys, g1, ⟨es, ep, g2, g3, _⟩, g4⟩ := dic_rel C r hk
      refine ⟨.ref a, g1, F, a, es, ep, ys, kvs, r.hr.sub, rfl, g2, ?_, by rw [C.k]; exact g4, hlen, ?_⟩
      · rw [g3, List.map_map]; rfl
      · rw [C.k]
        exact out_of r (Step.refl _ _ _ _) fun F'' H'' r2 s2 v2 hv2 => (show ∀ F'' H'', Rel p env σ F'' H'' → Step env σ F H env F'' H'' → ∀ v, ResOk true p env σ H F'' H'' v (.list (keysD kvs)) → Q v H'' from q) F'' H'' r2 s2 v2 hv2
    · exact q.elim
  · exact q.elim
/-! ### {k: v for ..} -/
def tDcD (X : Cx) (wi : TI) (g : TG) (tt : TT) (tkk tv : TE) (vs : List Nat) : TE := fun σ H Q => wi σ H fun J H1 => ∀ D, H1 D = none → ∃ W : Nat → Nat → Hp → Prop, (∃ m, W 0 m (upd H1 D (dicO D #[] 0))) ∧ ∀ i m H, W i m H →
  (J.stop i H ∧ Q (.ref D) H) ∨ (J.go i H ∧ ∃ Nx : Hp → Prop, (∀ H', Nx H' → ∃ m', m' < m ∧ W (i + 1) m' H') ∧ ∀ x H', J.yld i H x H' → g x (wipe σ vs) H' fun σ2 H2 => wipe σ2 vs = wipe σ vs ∧ tt σ2 H2 fun b H3 =>
    if b = true then tkk σ2 H3 fun y H4 => tv σ2 H4 fun z H5 => ∃ ys k b, y = V.ref b ∧ DicK X H5 D ys ∧ SqT X.K H5 b (k.map kV) ∧ ys.length ≤ sizeLine ∧ (∀ es ep u, RelV z u → es.toList = (storedH ys k b u).map (entryOfKey (tk X)) → ((storedH ys k b u).map (·.1)).Nodup → Nx (upd H5 D (dicO D es ep))) else Nx H3)
/-- d[k] = v by a comprehension -/
theorem dic_dictSet {pins : List (Addr × Obj)} {s : Shared} {E : Value → Shared → Prop} {a b : Addr} {k : List Key} {ys : List (List Key × Addr × Value)} {A : Around} (hu : A.units + 1 < cLine) {Q : Unit → Shared → Prop} {u : Value} (I : Inv X pins σ H s) (d : DicK X H a ys) (hk : SqT X.K H b (k.map kV)) (hl : ys.length ≤ sizeLine)
    (h : ∀ es ep s', es.toList = (storedH ys k b u).map (entryOfKey (tk X)) → ((storedH ys k b u).map (·.1)).Nodup → Inv X pins σ (upd H a (dicO a es ep)) s' → Q () s') :
    wpAny (model X.prog X.w) A (dictSet a (.ref b) u) Q E s := by
  obtain ⟨dd, hd⟩ := dic_at I d
  obtain ⟨es0, ep0, h1, _⟩ := d
  refine wpAny_dictSet_heap (hsz := hl) (by show A.units < cLine; omega) (key_at I hk) dd fun h' dd' hs => ?_
  obtain ⟨q, es, ep, hq, h2, h3, h4, _, h5⟩ := dd'
  exact h es ep _ h4 h5 (d_write I (by rw [h1]; exact True.intro) hs ⟨q, hq⟩ (dicO_ok ⟨q, hq, h2, h3⟩ hd))
theorem dcD_core {pins : List (Addr × Obj)} {s : Shared} {σ : L2.St} {H : Hp} {Q : VK} {kx vx tg iter : PySem.Expr} {ifs : List PySem.Expr} {scope : Scope} {own : List (Str × Nat)} {pos pos' : Pos} {wi : TI} {g : TG} {tt : TT} {tkk tv : TE} {use : Option (Value → Sem Unit)} {Qf : Value → Shared → Prop}
    (hu : X.A.units + 1 < cLine) (hc : X.calm = true) (hN : X.N.Nodup) (I : Inv X pins σ H s) (hi : PI X tg iter wi) (ok : BlkOk X.N X.env.scope scope own)
    (hg : ∀ (s : Shared) (H : Hp) (C : Addr) (cl : List (Str × Addr)) (fp : List Addr), PG (X.blk s H scope (compEnvC scope cl C X.env) fp) tg g) (ht : ∀ (s : Shared) (H : Hp) (C : Addr) (cl : List (Str × Addr)) (fp : List Addr), PTs (X.blk s H scope (compEnvC scope cl C X.env) fp) ifs tt)
    (hk : ∀ (s : Shared) (H : Hp) (C : Addr) (cl : List (Str × Addr)) (fp : List Addr), PE (X.blk s H scope (compEnvC scope cl C X.env) fp) kx tkk)
    (he : ∀ (s : Shared) (H : Hp) (C : Addr) (cl : List (Str × Addr)) (fp : List Addr), PE (X.blk s H scope (compEnvC scope cl C X.env) fp) vx tv) (hs : ∀ x, foldedSetIterable iter X.env x = pure x)
    (h : tDcD X wi g tt tkk tv (own.map (·.2)) σ H Q)
    (hRR : ∀ D C s' m H', Inv X pins σ H' s' → Q (.ref D) H' → s'.heap.Ns C m → FpOk X pins H' C → compPost (model X.prog X.w) X.A X.xe use Qf (.ref D) C (.ok .next) s') :
    wpAny (model X.prog X.w) X.A (comprehension (.DictComp kx vx [⟨tg, iter, ifs, 0⟩] scope pos) scope X.env pos' newDict false (eval iter X.env) use) Qf X.xe s := by
  have hfree : ∀ y ∈ scope.names, y.2 = .free → ∃ c, X.env.cells.lookup y.1 = some c := fun y hy e => by
    rcases ok.free y hy e with k | k
    · exact I.ok.has _ (.inl k)
    · exact I.ok.has _ (.inr k)
  refine wpAny_comprehension_free (use := use) rfl hs (closure_ok hfree) ok.kind (fun y hy e => by rw [ok.uniq y hy, e])
    (thn (hi.run pins s σ H _ I h) fun xv s1 hx => thn hx fun itv s2 h2 => ?_)
  obtain ⟨it, fp, tn, J, H2, e, I2, T, st2, f2, q⟩ := h2
  subst e
  refine wpAny_newObj_type (newEnv_comp ?_)
  generalize hD : s2.heap.objs.size = D
  have hDn : H2 D = none := I2.hok.fresh (Nat.le_of_eq hD)
  obtain ⟨W, ⟨m0, w0⟩, turn⟩ := q D hDn
  -- the new list
  generalize hs3 : ({ s2 with heap := s2.heap.push { cls := .type "dict", data := .dict #[] } } : Shared) = s3
  have I3 : Inv X pins σ (upd H2 D (dicO D #[] 0)) s3 := by
    rw [← hs3]
    refine I2.laid (t' := s2.toks) (fun b o e => Heap.get?_push_of_some _ e) (Nat.le_of_eq hD) ?_
    rw [← hD]
    exact dicO_ok ⟨_, Heap.get?_push_size _ rfl, ⟨rfl, rfl, rfl⟩, rfl⟩ (beq_eq_false_iff_ne.mpr (Ne.symm (Nat.ne_of_lt I2.big)))
  have h3 : s3.heap = s2.heap.push { cls := .type "dict", data := .dict #[] } := by rw [← hs3]
  have sz : ∀ b ∈ fp, b < s2.heap.objs.size := fun b hb => by
    obtain ⟨o, e, _⟩ := T.obj _ _ st2 b hb
    exact Heap.lt_size e
  have f3 : ∀ b ∈ fp, FpOk X pins (upd H2 D (dicO D #[] 0)) b ∧ b < s3.heap.objs.size := fun b hb => by
    have hlt := sz b hb
    refine ⟨⟨?_, (f2 b hb).2⟩, by rw [h3, Heap.size_push]; exact Nat.lt_succ_of_lt hlt⟩
    rw [upd_ne (by rw [← hD]; exact Nat.ne_of_lt hlt)]
    exact (f2 b hb).1
  have st3 : tn 0 s3.heap := T.keep _ _ _ st2 fun b _ o e => by rw [h3]; exact Heap.get?_push_of_some _ e
  have I4 := block_start I3 ok hN f3
  have pg := hg s3 (upd H2 D (dicO D #[] 0)) s3.heap.objs.size (cellsFrom (s3.heap.objs.size + 1) scope.names (cloFrom X.env.cells scope.names [])) fp
  have pt := ht s3 (upd H2 D (dicO D #[] 0)) s3.heap.objs.size (cellsFrom (s3.heap.objs.size + 1) scope.names (cloFrom X.env.cells scope.names [])) fp
  have pk := hk s3 (upd H2 D (dicO D #[] 0)) s3.heap.objs.size (cellsFrom (s3.heap.objs.size + 1) scope.names (cloFrom X.env.cells scope.names [])) fp
  have pe := he s3 (upd H2 D (dicO D #[] 0)) s3.heap.objs.size (cellsFrom (s3.heap.objs.size + 1) scope.names (cloFrom X.env.cells scope.names [])) fp
  show codeAny _ _ (.compStart (.DictComp kx vx [⟨tg, iter, ifs, 0⟩] scope pos) 0 (.ref it) (.ref D) (compEnvC scope (cellsFrom (s3.heap.objs.size + 1) scope.names (cloFrom X.env.cells scope.names [])) s3.heap.objs.size X.env)) (compPost (model X.prog X.w) X.A X.xe use Qf (.ref D) s3.heap.objs.size) { s3 with heap := pushCells (s3.heap.push { cls := .type "dict", data := .dict #[] }) scope.names }
  have nfp : ∀ b ∈ fp, (upd H2 D (dicO D #[] 0)) b = none := fun b hb => (f3 b hb).1.1
  generalize hce : compEnvC scope (cellsFrom (s3.heap.objs.size + 1) scope.names (cloFrom X.env.cells scope.names [])) s3.heap.objs.size X.env = ce at I4 pg pt pk pe ⊢
  have cL : ce.locals = s3.heap.objs.size := by subst hce; rfl
  generalize hH3 : upd H2 D (dicO D #[] 0) = H3 at I3 I4 pg pt pk pe w0 nfp f3
  generalize hs4 : ({ s3 with heap := pushCells (s3.heap.push { cls := .type "dict", data := .dict #[] }) scope.names } : Shared) = s4 at I4 ⊢
  have st4 : tn 0 s4.heap := T.keep _ _ _ st3 fun b _ o e => by rw [← hs4]; exact pushCells_keeps _ _ _ _ (Heap.get?_push_of_some _ e)
  have stat : ∀ {σ' : L2.St} {H' : Hp} {s' : Shared}, Inv (X.blk s3 H3 scope ce fp) [] σ' H' s' → (∀ b ∈ fp, H' b = none) → ∀ b ∈ fp, FpOk (X.blk s3 H3 scope ce fp) [] H' b := fun {σ' H' s'} I' hn b hb =>
    ⟨hn b hb, (I'.ok.exf b hb).1, I'.ok.exfs b hb, .inl hb, fun x c e => (I'.ok.exf b hb).2 x c e, fun p hp => absurd (show p ∈ ([] : List (Addr × Obj)) ++ [] from hp) (by simp)⟩
  have loop : codeAny (model X.prog X.w) X.A (.compLoop (.DictComp kx vx [⟨tg, iter, ifs, 0⟩] scope pos) 0 (.ref it) (.ref D) ce) (compPost (model X.prog X.w) X.A X.xe use Qf (.ref D) s3.heap.objs.size) s4 := by
    refine compLoop_anyD (fun n s' => ∃ i H', Inv (X.blk s3 H3 scope ce fp) [] (wipe σ (own.map (·.2))) H' s' ∧ tn i s'.heap ∧ (∀ b ∈ fp, H' b = none) ∧ W i n H') ?_ m0 ⟨0, H3, I4, st4, nfp, w0⟩
    rintro n s5 ⟨i, H5, I5, st5, n5, w5⟩
    rcases turn i n H5 w5 with ⟨stop, qq⟩ | ⟨go, Nx, hNx, step⟩
    · have td := T.done (X.blk s3 H3 scope ce fp) rfl rfl rfl hc i [] s5 _ H5 (fun _ _ => False) I5 (stat I5 n5) st5 stop
      refine thnF td fun r s6 ⟨hr, I6⟩ => ?_
      subst hr
      -- back in the def's context
      have I7 : Inv X pins σ H5 s6 := I3.call' (ch := fp) I6.os I6.base I6.hok I6.bare fun b hb => ⟨(f3 b hb).1.2.2.2.1, (f3 b hb).1.2.1, (f3 b hb).1.2.2.2.2.1, (f3 b hb).1.2.2.2.2.2⟩
      have nC : H5 s3.heap.objs.size = none := by
        have z : H5 ce.locals = none := I6.free
        rw [cL] at z
        exact z
      obtain ⟨m, hn, _⟩ := I6.loc
      have hn : s6.heap.Ns ce.locals m := hn
      rw [cL] at hn
      exact hRR D s3.heap.objs.size s6 m H5 I7 qq hn (I3.fpOk (Nat.le_refl _) nC)
    · have ti := T.item (X.blk s3 H3 scope ce fp) rfl rfl rfl hc i [] s5 _ H5 (fun _ _ => False) I5 (stat I5 n5) st5 go
      refine thnF ti fun r s6 ⟨u, hr, h6⟩ => ?_
      subst hr
      refine thnF h6 fun _ s7 ⟨x, H7, I7, r7, y7, st7, n7⟩ => ?_
      have I7' := I7.pinned (stat I7 n7) (T.obj _ _ st7)
      refine thnF (pg.run _ s7 _ H7 x u _ I7' r7 (step x H7 y7)) fun _ s8 ⟨σ8, H8, I8, hw8, q8⟩ => ?_
      refine thnF (pt.run _ s8 σ8 H8 _ I8 q8) fun b s9 ⟨H9, I9, q9⟩ => ?_
      -- the turn's end
      have fin : ∀ {s' : Shared} {H' : Hp}, Inv (X.blk s3 H3 scope ce fp) ([] ++ pinsAt fp s7.heap) σ8 H' s' → Nx H' → ∃ m, m < n ∧ ∃ i H', Inv (X.blk s3 H3 scope ce fp) [] (wipe σ (own.map (·.2))) H' s' ∧ tn i s'.heap ∧ (∀ b ∈ fp, H' b = none) ∧ W i m H' := fun {s' H'} I' nx => by
        obtain ⟨m', hm, w'⟩ := hNx H' nx
        have pin' : ∀ b ∈ fp, ∀ o, s7.heap.get? b = some o → s'.heap.get? b = some o ∧ H' b = none := fun b hb o e =>
          let z := I'.pin (b, o) (List.mem_append_right _ (List.mem_append_right _ (mem_pinsAt hb e)))
          ⟨z.1, z.2.1⟩
        have hl : (wipe σ (own.map (·.2))).length = σ8.length := by rw [← hw8, wipe_length]
        refine ⟨m', hm, i + 1, H', (I'.unpinned (pins := [])).weak hl (fun j v e => ?_), T.keep _ _ _ st7 fun b hb o e => (pin' b hb o e).1, fun b hb => ?_, w'⟩
        · rw [← hw8] at e
          exact (wipe_some e).1
        · obtain ⟨o, e, _⟩ := T.obj _ _ st7 b hb
          exact (pin' b hb o e).2
      cases b with
      | false =>
        simp only [Bool.false_eq_true, if_false] at q9 ⊢
        exact fin I9 q9
      | true =>
        simp only [if_true] at q9 ⊢
        refine thnF (pk.run _ s9 σ8 H9 _ I9 q9) fun z s10 ⟨yk, H10, I10, r10, q10⟩ => ?_
        refine thnF (pe.run _ s10 σ8 H10 _ I10 q10) fun z2 s11 ⟨yv, H11, I11, r11, ys, k, b, ek, hD11, hb11, hz11, nx⟩ => ?_
        subst ek
        cases (show z = Value.ref b from r10)
        exact dic_dictSet (X := X.blk s3 H3 scope ce fp) hu I11 hD11 hb11 hz11 fun es ep s12 w1 w2 I12 => fin I12 (nx es ep z2 r11 w1 w2)
  exact codeAny_compStart_dict loop (T.self X.A 0 _ _ _ st4 loop)
/-- as a value -/
theorem pe_dcD {kx vx tg iter : PySem.Expr} {ifs : List PySem.Expr} {scope : Scope} {own : List (Str × Nat)} {pos : Pos} {wi : TI} {g : TG} {tt : TT} {tkk tv : TE} (hu : X.A.units + 1 < cLine) (hc : X.calm = true) (hN : X.N.Nodup) (hi : PI X tg iter wi) (ok : BlkOk X.N X.env.scope scope own)
    (hg : ∀ (s : Shared) (H : Hp) (C : Addr) (cl : List (Str × Addr)) (fp : List Addr), PG (X.blk s H scope (compEnvC scope cl C X.env) fp) tg g) (ht : ∀ (s : Shared) (H : Hp) (C : Addr) (cl : List (Str × Addr)) (fp : List Addr), PTs (X.blk s H scope (compEnvC scope cl C X.env) fp) ifs tt)
    (hk : ∀ (s : Shared) (H : Hp) (C : Addr) (cl : List (Str × Addr)) (fp : List Addr), PE (X.blk s H scope (compEnvC scope cl C X.env) fp) kx tkk)
    (he : ∀ (s : Shared) (H : Hp) (C : Addr) (cl : List (Str × Addr)) (fp : List Addr), PE (X.blk s H scope (compEnvC scope cl C X.env) fp) vx tv) (hs : ∀ x, foldedSetIterable iter X.env x = pure x := by intro _; rfl) :
    PE X (.DictComp kx vx [⟨tg, iter, ifs, 0⟩] scope pos) (tDcD X wi g tt tkk tv (own.map (·.2))) := by
  refine ⟨fun pins s σ H Q I h => ?_⟩
  rw [arm_eval_DictComp]
  refine dcD_core hu hc hN I hi ok hg ht hk he hs h fun D C s' m H' I' q hn f => ⟨m, hn, fun h'' sb => ?_⟩
  obtain ⟨f0, f1, f2, f3, f4, f5⟩ := f
  exact ⟨.ref D, H', I'.turned (t' := s'.toks) (fun b o hb e => (sb.2 b hb).trans e) f0 f1 f3 f4 f5, rfl, q⟩
/-! ### x.update({..}) -/
def tDupd (X : Cx) (i : Nat) (tv : TE) : TE := fun σ H Q => ∃ a, σ[i]? = some (some (V.ref a)) ∧ (∃ ys, DicK X H a ys) ∧ tv σ H fun y H1 => ∃ b ys zs, y = .ref b ∧ a ≠ b ∧ DicK X H1 a ys ∧ DicK X H1 b zs ∧ ys ≠ [] ∧ ys.length + zs.length ≤ sizeLine ∧
  ∀ es ep, es.toList = (storedAllH ys zs).map (entryOfKey (tk X)) → ((storedAllH ys zs).map (·.1)).Nodup → Q .non (upd H1 a (dicO a es ep))
theorem pe_dupd {x : Str} {v : PySem.Expr} {px ap pos : Pos} {tv : TE} (hu : X.A.units + 1 < cLine) (hx : PE X (.Name x px) (tVar i)) (hl : (ap.endLine == pos.line) = true) (hs : starEach [v] X.env = (false, eval v X.env) :: starEach [] X.env) (hv : PE X v tv) :
    PE X (.Call (.Attribute (.Name x px) "update" ap) [v] [] pos) (tDupd X i tv) := by
  have hst : backTo pos (starEach [v] X.env) = [(false, eval v X.env)] := by rw [hs]; rfl
  refine ⟨fun pins s σ H Q I ⟨a, g1, ⟨ys0, g2⟩, q⟩ => ?_⟩
  refine wpAny_Call_method (by rfl) (by rw [hst]; rfl) hl PySem.F.plainAttrs_dict PySem.F.slot_dict_update PySem.F.type_dict_update (thn (hx.run pins s σ H (fun v H2 => v = .ref a ∧ H2 = H) I ⟨_, g1, rfl, rfl⟩) fun u s1 ⟨x, H1, I1, rx, e3, e4⟩ => ?_)
  subst e3; subst e4
  obtain rfl : u = Value.ref a := rx
  obtain ⟨dd, _⟩ := dic_at I1 g2
  refine ⟨dd.typeIs, fun b z => ?_, ?_⟩
  · cases z
    obtain ⟨ob, _, _, q1, q2, _⟩ := dd
    exact ⟨ob, q1, q2.2.1⟩
  rw [hst]
  refine Calls.callWith_builtin rfl (Calls.evalArgs_plain (Calls.spliced_cons (thn (hv.run pins s1 σ _ _ I1 q) fun iv s2 ⟨y, H2, I2, ry, b, ys, zs, e1, hab, h1, h2, h3, h4, q2⟩ => Calls.spliced_nil ?_)))
  subst e1
  obtain rfl : iv = Value.ref b := ry
  obtain ⟨d1, m1⟩ := dic_at I2 h1
  obtain ⟨d2, m2⟩ := dic_at I2 h2
  obtain ⟨es0, ep0, w1, _⟩ := h1
  refine call_update_dictH (tupleKind_room_in1 hu) hab m2 d1 d2 (.inl h3) h4 fun h' dd' _ hs => ?_
  obtain ⟨qq, es, ep, hq, g2, g3, g4, _, g5⟩ := dd'
  exact ⟨.non, _, d_write I2 (by rw [w1]; exact True.intro) hs ⟨qq, hq⟩ (dicO_ok ⟨qq, hq, g2, g3⟩ m1), rfl, q2 es ep g4 g5⟩
/-- the table that a comprehension gives -/
def dgo (asg : D → En → Option En) (fk fv : En → Rs (D × En)) (vs : List Nat) : List D → En → List (List Key × D) → Rs (List (List Key × D) × En)
  | [], env, acc => .ok (acc, env)
  | x :: xs, env, acc => match asg x env with
    | none => .bot
    | some e1 => (fk e1).nox.bind fun r => (fv r.2).nox.bind fun q => match keyOf r.1 with
      | some ks => dgo asg fk fv vs xs (wipeE q.2 vs) (putD acc ks q.1)
      | none => .bot
def mergD (kvs more : List (List Key × D)) : List (List Key × D) := more.foldl (fun acc kv => putD acc kv.1 kv.2) kvs
theorem dgo_noexc {asg : D → En → Option En} {fk fv : En → Rs (D × En)} {vs : List Nat} : ∀ (xs : List D) (env : En) (acc : List (List Key × D)) (c : Str), dgo asg fk fv vs xs env acc ≠ .exc c
  | [], env, acc, c => by unfold dgo; intro z; cases z
  | x :: xs, env, acc, c => by
    unfold dgo
    split
    · intro z; cases z
    · rename_i e1 _
      cases fk e1 with
      | exc c => intro z; cases z
      | bot => intro z; cases z
      | ok r =>
        simp only [Rs.nox, Rs.bind]
        cases fv r.2 with
        | exc c => intro z; cases z
        | bot => intro z; cases z
        | ok q =>
          dsimp only
          split
          · exact dgo_noexc xs _ _ c
          · intro z; cases z
theorem dgo_cons {asg : D → En → Option En} {fk fv : En → Rs (D × En)} {vs : List Nat} {x : D} {xs : List D} {env : En} {acc : List (List Key × D)} {out : List (List Key × D) × En} (h : dgo asg fk fv vs (x :: xs) env acc = .ok out) :
    ∃ e1 kd e2 vd e3 ks, asg x env = some e1 ∧ fk e1 = .ok (kd, e2) ∧ fv e2 = .ok (vd, e3) ∧ keyOf kd = some ks ∧ dgo asg fk fv vs xs (wipeE e3 vs) (putD acc ks vd) = .ok out := by
  unfold dgo at h
  split at h
  · cases h
  · rename_i e1 h1
    cases h2 : fk e1 with
    | exc c => rw [h2] at h; cases h
    | bot => rw [h2] at h; cases h
    | ok r =>
      obtain ⟨kd, e2⟩ := r
      rw [h2] at h
      simp only [Rs.nox, Rs.bind] at h
      cases h3 : fv e2 with
      | exc c => rw [h3] at h; cases h
      | bot => rw [h3] at h; cases h
      | ok q =>
        obtain ⟨vd, e3⟩ := q
        rw [h3] at h
        dsimp only at h
        split at h
        · rename_i ks hk
          exact ⟨e1, kd, e2, vd, e3, ks, h1, h2, h3, hk, h⟩
        · cases h
theorem putD_len (kvs : List (List Key × D)) (k : List Key) (d : D) : (putD kvs k d).length ≤ kvs.length + 1 := by
  unfold putD
  split
  · rw [List.length_map]; omega
  · rw [List.length_append]; exact Nat.le_refl _
theorem KyR.merge {K : PySem.W.Frag} {F : Hp} {more : List (List Key × D)} {zs : List (List Key × Addr × Value)} (r : Paired (KyR K F) more zs) : ∀ {kvs : List (List Key × D)} {ys : List (List Key × Addr × Value)}, Paired (KyR K F) kvs ys → Paired (KyR K F) (mergD kvs more) (storedAllH ys zs) := by
  induction r with
  | nil => exact fun h => h
  | @cons p q ps qs h t ih =>
    intro kvs ys r2
    obtain ⟨h1, h2, v, h3, h4⟩ := h
    have : Paired (KyR K F) (putD kvs p.1 p.2) (storedH ys q.1 q.2.1 q.2.2) := by rw [← h1] at h2 ⊢; exact KyR.put r2 _ h2 h3 h4
    exact ih this
theorem dcD_it {J : It} {n : Nat} {Gd : Hp → Prop} {Y : Nat → Hp → V → Hp → Prop} (w : Walk J n Gd Y) {g : TG} {tt : TT} {tkk tv : TE} {vs : List Nat} {σ : L2.St} {H1 : Hp} {D : Addr} {Qd : Hp → Prop} (Pv : Nat → Hp → Prop) (h0 : Pv 0 (upd H1 D (dicO D #[] 0))) (hG : ∀ i H, i ≤ n → Pv i H → Gd H)
    (hs : ∀ i x H H', i < n → Pv i H → Y i H x H' → g x (wipe σ vs) H' fun σ2 H2 => wipe σ2 vs = wipe σ vs ∧ tt σ2 H2 fun b H3 =>
      if b = true then tkk σ2 H3 fun y H4 => tv σ2 H4 fun z H5 => ∃ ys k b, y = V.ref b ∧ DicK X H5 D ys ∧ SqT X.K H5 b (k.map kV) ∧ ys.length ≤ sizeLine ∧ (∀ es ep u, RelV z u → es.toList = (storedH ys k b u).map (entryOfKey (tk X)) → ((storedH ys k b u).map (·.1)).Nodup → Pv (i + 1) (upd H5 D (dicO D es ep))) else Pv (i + 1) H3) (hd : ∀ H, Pv n H → Qd H) :
    ∃ W : Nat → Nat → Hp → Prop, (∃ m, W 0 m (upd H1 D (dicO D #[] 0))) ∧ ∀ i m H, W i m H →
      (J.stop i H ∧ Qd H) ∨ (J.go i H ∧ ∃ Nx : Hp → Prop, (∀ H', Nx H' → ∃ m', m' < m ∧ W (i + 1) m' H') ∧ ∀ x H', J.yld i H x H' → g x (wipe σ vs) H' fun σ2 H2 => wipe σ2 vs = wipe σ vs ∧ tt σ2 H2 fun b H3 =>
        if b = true then tkk σ2 H3 fun y H4 => tv σ2 H4 fun z H5 => ∃ ys k b, y = V.ref b ∧ DicK X H5 D ys ∧ SqT X.K H5 b (k.map kV) ∧ ys.length ≤ sizeLine ∧ (∀ es ep u, RelV z u → es.toList = (storedH ys k b u).map (entryOfKey (tk X)) → ((storedH ys k b u).map (·.1)).Nodup → Nx (upd H5 D (dicO D es ep))) else Nx H3) := by
  refine ⟨fun i m H => m = n - i ∧ i ≤ n ∧ Pv i H, ⟨n, by simp, Nat.zero_le _, h0⟩, ?_⟩
  rintro i m H ⟨rfl, hi, p⟩
  have q := hG i H hi p
  by_cases hlt : i < n
  · exact .inr ⟨w.goes i H hlt q, Pv (i + 1), fun H' p' => ⟨n - (i + 1), by omega, rfl, hlt, p'⟩, fun x H' y => hs i x H H' hlt p (w.yields i H x H' hlt q y)⟩
  · have e : i = n := by omega
    subst e
    exact .inl ⟨w.stops H q, hd H p⟩
end
end Rv

set_option Elab.async false
set_option linter.all false
set_option maxRecDepth 100000
set_option maxHeartbeats 4000000
/-! Rv10z: list(zip(a, b)) as a value. -/
namespace Rv
open PySem PySem.Spec PyProof.Rows L2
/-- the pairs at their addresses -/
def putZ : Hp → List Addr → List (V × V) → Hp
  | H, a :: as, p :: ps => putZ (upd H a (.tup [p.1, p.2])) as ps
  | H, _, _ => H
theorem putZ_off {b : Addr} : ∀ (as : List Addr) (ps : List (V × V)) (H : Hp), b ∉ as → putZ H as ps b = H b
  | [], _, _, _ => rfl
  | _ :: _, [], _, _ => rfl
  | a :: as, p :: ps, H, h => by
    show putZ (upd H a (.tup [p.1, p.2])) as ps b = H b
    rw [putZ_off as ps _ (fun z => h (List.mem_cons_of_mem _ z)), upd_ne (fun z => h (by rw [z]; exact List.mem_cons_self))]
theorem putZ_at : ∀ (as : List Addr) (ps : List (V × V)) (H : Hp), as.length = ps.length → as.Nodup → Paired (fun (t : Addr) (p : V × V) => putZ H as ps t = some (.tup [p.1, p.2])) as ps
  | [], [], _, _, _ => .nil
  | [], _ :: _, _, h, _ => by cases h
  | _ :: _, [], _, h, _ => by cases h
  | a :: as, p :: ps, H, h, hn => by
    have hn' := List.nodup_cons.mp hn
    have ih := putZ_at as ps (upd H a (.tup [p.1, p.2])) (Nat.succ.inj h) hn'.2
    refine .cons ?_ ih
    show putZ (upd H a (.tup [p.1, p.2])) as ps a = some (.tup [p.1, p.2])
    rw [putZ_off as ps _ hn'.1, upd_same]
section
variable {X : Cx} {p : Pm} {cl : Str → Value} {Ex : XK} {G : Genv} {CX : CXT} {sc : Scope} {env : En} {σ : L2.St} {F H : Hp}
theorem rel_putZ : ∀ (as : List Addr) (ps : List (V × V)) {F H : Hp}, Rel p env σ F H → (∀ t ∈ as, H t = none) → as.Nodup → Rel p env σ (putZ F as ps) (putZ H as ps) ∧ Step env σ F H env (putZ F as ps) (putZ H as ps)
  | [], _, F, H, r, _, _ => ⟨r, Step.refl _ _ _ _⟩
  | _ :: _, [], F, H, r, _, _ => ⟨r, Step.refl _ _ _ _⟩
  | a :: as, q :: ps, F, H, r, h, hn => by
    have hn' := List.nodup_cons.mp hn
    have ha := h a List.mem_cons_self
    have r1 := r.give (o := .tup [q.1, q.2]) ha
    have s1 : Step env σ F H env (upd F a (.tup [q.1, q.2])) (upd H a (.tup [q.1, q.2])) := Step.give r.hr.sub ha
    obtain ⟨r2, s2⟩ := rel_putZ as ps r1 (fun t ht => by rw [upd_ne (fun z => hn'.1 (by rw [← z]; exact ht))]; exact h t (List.mem_cons_of_mem _ ht)) hn'.2
    exact ⟨r2, s1.trans s2⟩
theorem zip_laid {pins : List (Addr × Obj)} {s : Shared} {h' : Heap} {tk : Nat} {xs ys : List V} {its its2 : List Value} {acc : Array Value} {c : Nat} {as : List Addr} {P : Addr} (I : Inv X pins σ H s) (hz : xs.length ≤ sizeLine) (v1 : Vals xs its) (v2 : Vals ys its2)
    (hk : ∀ b o, s.heap.get? b = some o → h'.get? b = some o) (hP : s.heap.objs.size ≤ P) (hS : h'.get? P = some { cls := .type "list", dict := none, data := .seq acc c, slots := #[] }) (hl : as.length = min its.toArray.size its2.toArray.size) (hG : ZlG its.toArray its2.toArray P h' as) (hacc : acc.toList = as.map Value.ref) :
    (∀ t ∈ as, H t = none) ∧ as.Nodup ∧ P ∉ as ∧ H P = none ∧ as.length = (xs.zip ys).length ∧ Inv X pins σ (upd (putZ H as (xs.zip ys)) P (.lst (as.map V.ref))) { s with heap := h', toks := tk } := by
  have k1 := v1.length
  have k2 := v2.length
  have lk : as.length = (xs.zip ys).length := by rw [List.length_zip, hl, List.size_toArray, List.size_toArray]; omega
  have hPn : P ∉ as := fun z => Nat.lt_irrefl _ (hG.above _ z)
  have nd : as.Nodup := List.Pairwise.imp (fun {a b} (h : a < b) => Nat.ne_of_lt h) hG.rise
  have new : ∀ t ∈ as, H t = none := fun t ht => I.hok.fresh (Nat.le_trans hP (Nat.le_of_lt (hG.above t ht)))
  have newP : H P = none := I.hok.fresh hP
  have atP := putZ_at as (xs.zip ys) H lk nd
  have off : ∀ b, b ∉ as → b ≠ P → upd (putZ H as (xs.zip ys)) P (.lst (as.map V.ref)) b = H b := fun b h1 h2 => by rw [upd_ne h2, putZ_off as _ _ h1]
  have low : ∀ b o, s.heap.get? b = some o → b ∉ as ∧ b ≠ P := fun b o e => ⟨fun z => absurd (Heap.lt_size e) (Nat.not_lt.mpr (Nat.le_trans hP (Nat.le_of_lt (hG.above b z)))), Nat.ne_of_lt (Nat.lt_of_lt_of_le (Heap.lt_size e) hP)⟩
  have kp : ∀ b u, H b = some u → upd (putZ H as (xs.zip ys)) P (.lst (as.map V.ref)) b = some u := fun b u e => by
    rw [off b (fun z => by rw [new b z] at e; cases e) (fun z => by rw [z, newP] at e; cases e)]
    exact e
  refine ⟨new, nd, hPn, newP, lk, ?_⟩
  refine I.call' (ch := []) rfl ⟨fun b o q _ _ _ => hk b o q, fun b o q _ _ _ => ⟨o.slots, hk b o q⟩, fun b o q n _ => ?_, fun b o q _ => ⟨o, hk b o q⟩, fun b xs q => kp b _ q, fun b o u q => kp b _ q, fun b ps q => ⟨#[], by rw [kp b _ q]; simp⟩⟩ (fun b u q => ?_) I.bare fun b z => by simp at z
  · obtain ⟨z1, z2⟩ := low b o q
    rw [off b z1 z2]
    exact n
  · by_cases hb2 : b = P
    · rw [hb2] at q ⊢
      rw [upd_same] at q
      cases q
      refine ⟨by rw [List.length_map, lk, List.length_zip]; omega, acc.toList, c, by rw [hacc]; exact LiI.vals_refs as, ?_⟩
      rw [Array.toArray_toList]
      exact hS
    · by_cases hb : b ∈ as
      · rw [upd_ne hb2] at q
        obtain ⟨j, pk, e1, e2, e3⟩ := LiI.paired_ix atP hb
        rw [e3] at q
        cases q
        obtain ⟨x, y, f1, f2, f3⟩ := hG.pairs j b e1
        have e4 := List.getElem?_zip_eq_some.mp e2
        obtain ⟨u, hu, ru⟩ := v1.get e4.1
        obtain ⟨u2, hu2, ru2⟩ := v2.get e4.2
        rw [List.getElem?_toArray, hu] at f1
        rw [List.getElem?_toArray, hu2] at f2
        cases f1
        cases f2
        exact ⟨by show 2 ≤ sizeLine; decide, [x, y], .cons ru (.cons ru2 .nil), ⟨_, f3, rfl, _, rfl⟩⟩
      · rw [off b hb hb2] at q
        exact (I.hok b u q).stay (fun d v _ y => hk d v y) (fun d y => kp d _ y) fun d xs y => kp d _ y
def tLzip (K : PySem.W.Frag) (ta : TA) : TE := fun σ H Q => ta σ H fun vs H1 => ∃ a b xs ys, vs = [.ref a, .ref b] ∧ SqL K H1 a xs ∧ SqL K H1 b ys ∧
  ∀ as P, (∀ t ∈ as, H1 t = none) → as.Nodup → P ∉ as → H1 P = none → as.length = (xs.zip ys).length → Q (.ref P) (upd (putZ H1 as (xs.zip ys)) P (.lst (as.map V.ref)))
theorem pe_lzip {e e2 : PySem.Expr} {ta : TA} {p1 p2 q2 pos : Pos} (hc : X.calm = true) (hg : Gl X "list") (hm : X.mg "list" = none) (hg2 : Gl X "zip") (hm2 : X.mg "zip" = none) (ha : PA X [e, e2] ta)
    (hs : starEach [e, e2] X.env = (false, eval e X.env) :: starEach [e2] X.env) (hpl : (backTo q2 (starEach [e2] X.env)).any (·.1) = false) :
    PE X (.Call (.Name "list" p1) [.Call (.Name "zip" p2) [e, e2] [] q2] [] pos) (tLzip X.K ta) := by
  refine ⟨fun pins s σ H Q I h => ?_⟩
  have hs0 : starEach [.Call (.Name "zip" p2) [e, e2] [] q2] X.env = (false, eval (.Call (.Name "zip" p2) [e, e2] [] q2) X.env) :: starEach [] X.env := by rfl
  refine wpAny_Call_Name_kw (ld_blt I hg hm (show bootBuiltins "list" = some (.type "list") by decide +kernel) ?_)
  refine PyProof.Rows.callWith_type1 ?_ hs0 rfl
  rw [hs0]
  show wpAny _ _ (spliced ((false, eval (.Call (.Name "zip" p2) [e, e2] [] q2) X.env) :: backTo pos (starEach [] X.env))) _ _ s
  refine Calls.spliced_cons ?_
  refine Call_ (ld_blt I hg2 hm2 PyProof.Rows.boot_zip (PyProof.Rows.callWith_type1 (thn (ha.run q2 pins s σ H _ I h) fun us s1 ⟨vs, H1, I1, r1, q1⟩ => ?_) hs hpl))
  obtain ⟨a, b, xs, ys, ex, hqx, hqy, q⟩ := q1
  subst ex
  cases r1 with
  | cons r rr =>
    cases rr with
    | cons r' rr =>
      cases rr
      cases r
      cases r'
      obtain ⟨its, rv, P1, z1⟩ := I1.list hqx
      obtain ⟨its2, rv2, P2, z2⟩ := I1.list hqy
      have l1 := rv.length
      have l2 := rv2.length
      refine call_zip_2 P1.isList P2.isList fun h' hz hTI hTO h1 h2 hsz hk => ?_
      refine Calls.spliced_nil ?_
      have lt : ∀ {b o}, s1.heap.get? b = some o → b < s1.heap.objs.size := fun e => Heap.lt_size e
      refine zl_call (s := { s1 with heap := h' }) (xs := its.toArray) (ys := its2.toArray) (I1.ok.hd hc) (PySem.W.ktu_apart s1.heap.objs.size a b P1.lt P2.lt) hz hTI hTO h1 h2 (P1.isList.at fun o e => hk _ o e) (P2.isList.at fun o e => hk _ o e) (by rw [List.size_toArray, List.size_toArray]; omega) fun h'' tk acc c as hk2 hS hl hG hacc => ?_
      have hk3 : ∀ b o, s1.heap.get? b = some o → h''.get? b = some o := fun b o e => hk2 b o (Nat.ne_of_lt (Nat.lt_add_right 4 (lt e))) (Nat.ne_of_lt (Nat.lt_add_right 3 (lt e))) (Nat.ne_of_lt (lt e)) (Nat.ne_of_lt (Nat.lt_add_right 1 (lt e))) (hk b o e)
      obtain ⟨g1, g2, g3, g4, g5, I3⟩ := zip_laid (tk := tk) (P := h'.objs.size) I1 z1 rv rv2 hk3 (by show s1.heap.objs.size ≤ h'.objs.size; omega) hS hl hG hacc
      exact ⟨.ref _, _, I3, rfl, q as _ g1 g2 g3 g4 g5⟩
theorem rp_zip {K : PySem.W.Frag} {F F0 : Hp} (sm : Same F0 F) : ∀ {as : List Addr} {xs ys : List V} {l m : List D}, RpAll K F0 xs l → RpAll K F0 ys m → Paired (fun (t : Addr) (q : V × V) => F t = some (.tup [q.1, q.2])) as (xs.zip ys) →
    RpAll K F (as.map V.ref) (List.zipWith (fun d e => PyData.tuple [d, e]) l m)
  | _, _, _, _, _, .nil, _, h => by
    simp only [List.zip_nil_left] at h
    cases h
    simp only [List.zipWith_nil_left]
    exact .nil
  | _, _, _, _, _, .cons _ _, .nil, h => by
    simp only [List.zip_nil_right] at h
    cases h
    simp only [List.zipWith_nil_right]
    exact .nil
  | _, _, _, _, _, .cons a b, .cons c d, h => by
    rw [List.zip_cons_cons] at h
    cases h with
    | cons e t => exact .cons (.tup (SqT.of e) (.cons (a.mono sm) (.cons (c.mono sm) .nil))) (rp_zip sm b d t)
theorem bi_ofS {a b : E} {K : D → En → Hp → Hp → Prop} {f : (D × D) × En → Rs (D × En)} {R : List V → Hp → Prop} (hp : peekOf a = none) (hq : peekOf b = none) {env : En} {σ : L2.St} {F H : Hp} (r : Rel p env σ F H) (q : Po p cl Ex env σ F H ((two (ev G a) (ev G b) none env).bind f) K)
    (hR : ∀ d e v u env1 F1 H1, Rel p env1 σ F1 H1 → Step env σ F H env1 F1 H1 → Rp p.K F1 v d → Rp p.K F1 u e → Po p cl Ex env1 σ F1 H1 (f ((d, e), env1)) K → R [v, u] H1) : TAr p cl Ex G (.cons a (.cons b .nil)) σ H R := by
  refine ⟨F, env, r, ?_⟩
  rw [ev_cons2 hp hq]
  refine Po.map (g := fun d : D × D => PyData.list [d.1, d.2]) (q.bind'.imp fun d env1 F1 H1 r1 s1 q1 => ⟨[d.1, d.2], rfl, fun vs hv => ?_⟩)
  cases hv with
  | cons h1 h2 => cases h2 with | cons h2 h3 => cases h3; exact hR _ _ _ _ _ _ _ r1 s1 h1 h2 q1
theorem s_lzip {ea eb : PySem.Expr} {a b : E} {p1 p2 q2 pos : Pos} (C : Cxt p G cl CX Ex sc X) (hp : peekOf a = none) (hq : peekOf b = none) (hg : Gl X "list") (hg2 : Gl X "zip") (ha : PA X [ea, eb] (TAr p cl Ex G (.cons a (.cons b .nil))))
    (hs : starEach [ea, eb] X.env = (false, eval ea X.env) :: starEach [eb] X.env) (hs2 : (backTo q2 (starEach [eb] X.env)).any (·.1) = false) :
    PE X (.Call (.Name "list" p1) [.Call (.Name "zip" p2) [ea, eb] [] q2] [] pos) (TB p cl Ex G (.lzip a b)) := by
  refine PE.weak (pe_lzip C.calm hg (C.blt _ (by decide +kernel)) hg2 (C.blt _ (by decide +kernel)) ha hs hs2) fun σ H Q ⟨F, env, r, q⟩ => ?_
  unfold ev at q
  refine bi_ofS hp hq r q fun d e v u env1 F1 H1 r1 s1 rv ru q1 => ?_
  cases d <;> try exact q1.elim
  cases e <;> try exact q1.elim
  cases rv with
  | lst hq1 hr1 =>
    cases ru with
    | lst hq2 hr2 =>
      rename_i A1 X1 A2 X2
      refine ⟨A1, A2, X1, X2, rfl, by rw [C.k]; exact sql_same r1.hr.sub hq1, by rw [C.k]; exact sql_same r1.hr.sub hq2, fun as P g1 g2 g3 g4 g5 => ?_⟩
      obtain ⟨r2, s2⟩ := rel_putZ as (X1.zip X2) r1 g1 g2
      have e1 : putZ H1 as (X1.zip X2) P = none := by rw [putZ_off _ _ _ g3]; exact g4
      have nF : F1 P = none := none_of_same r1.hr.sub g4
      refine q1 _ _ (r2.alloc e1) (s2.trans (Step.alloc e1)) _ ⟨P, as.map V.ref, rfl, upd_same, by rw [putZ_off _ _ _ g3]; exact nF, ?_, ?_, r2.not_own e1, ?_⟩
      · exact Decidable.byContradiction fun z => r1.hr.there P z g4
      · exact Decidable.byContradiction fun z => s1.there P z g4
      · exact rp_zip s2.sub hr1 hr2 (putZ_at as (X1.zip X2) F1 g5 g2)
end
end Rv

set_option Elab.async false
set_option linter.all false
set_option maxRecDepth 100000
set_option maxHeartbeats 4000000
/-! Rv10k: list(range(n)); d[k] += i, dict comprehensions given to a name, displays of two entries. -/
namespace Rv
open PySem PySem.Spec PyProof.Rows L2
section
variable {X : Cx} {p : Pm} {cl : Str → Value} {Ex : XK} {G : Genv} {CX : CXT} {sc : Scope} {env : En} {σ : L2.St} {F H : Hp} {i : Nat} {kvs : List (List Key × D)}
theorem rg_rp {K : PySem.W.Frag} {F : Hp} (n : Int) : RpAll K F (rgV 0 n) (rngD 0 n) := by
  have h := RpAll.of_ints (K := K) (H := F) ((List.range (n - 0).toNat).map fun k : Nat => (0 : Int) + (k : Int))
  rw [List.map_map, List.map_map] at h
  exact h
theorem s_lrng {ea : PySem.Expr} {a : E} {p1 p2 q2 pos : Pos} (C : Cxt p G cl CX Ex sc X) (hg : Gl X "list") (hg2 : Gl X "range") (hs : starEach [ea] X.env = (false, eval ea X.env) :: starEach [] X.env) (ha : PE X ea (TR p cl Ex G a)) :
    PE X (.Call (.Name "list" p1) [.Call (.Name "range" p2) [ea] [] q2] [] pos) (TB p cl Ex G (.lrng a)) := by
  refine PE.weak (pe_listRg C.calm hg (C.blt _ (by decide +kernel)) (prg_1 hg2 (C.blt _ (by decide +kernel)) ha hs)) fun σ H Q ⟨F, env, r, q⟩ => ?_
  unfold ev at q
  refine ⟨F, env, r, q.bind'.imp fun d env1 F1 H1 r1 s1 q1 v hv => ?_⟩
  dsimp only at q1
  split at q1
  · rename_i n
    split at q1
    · rename_i hk
      unfold rngOk at hk
      simp only [Bool.and_eq_true, decide_eq_true_eq] at hk
      cases hv
      refine ⟨n, rfl, ⟨by omega, by omega, hk.1.1, hk.1.2, by omega⟩, fun a ha => ?_⟩
      have hq : ∀ F' H', Rel p env1 σ F' H' → Step env1 σ F1 H1 env1 F' H' → ∀ v, ResOk true p env1 σ H F' H' v (.list (rngD 0 n)) → Q v H' := q1
      refine hq F1 _ (r1.alloc ha) (Step.alloc ha) _ ⟨a, _, rfl, upd_same, none_of_same r1.hr.sub ha, ?_, ?_, ?_, rg_rp n⟩
      · exact Decidable.byContradiction fun z => r1.hr.there a z ha
      · exact Decidable.byContradiction fun z => s1.there a z ha
      · exact r1.not_own ha
    · exact q1.elim
  · exact q1.elim
/-! ### d[k] += i -/
def gDic (X : Cx) : V → V → Hp → VK → Prop := fun x y H Q => ∃ a b ks ys pr z, x = .ref a ∧ y = .ref b ∧ DicK X H a ys ∧ SqT X.K H b (ks.map kV) ∧ atKey ys ks = some pr ∧ RelV z pr.2 ∧ Q z H
theorem pget_dic (hu : X.A.units + 1 < cLine) : PGet X (gDic X) := by
  intro pins s σ H x y v u Q I rx ry h
  obtain ⟨a, b, ks, ys, pr, z, rfl, rfl, dk, hk, hp, hz, q⟩ := h
  cases rx
  cases ry
  obtain ⟨dd, _⟩ := dic_at I dk
  exact wpAny_getItem_heap (tupleKind_room_in1 hu) (key_at I hk) dd hp ⟨z, H, I.tok _, hz, q⟩
def sDic (X : Cx) : TSet := fun x y z H Q => ∃ a b ks ys, x = .ref a ∧ y = .ref b ∧ DicK X H a ys ∧ SqT X.K H b (ks.map kV) ∧ ys.length ≤ sizeLine ∧
  ∀ es ep u, RelV z u → es.toList = (storedH ys ks b u).map (entryOfKey (tk X)) → ((storedH ys ks b u).map (·.1)).Nodup → Q (upd H a (dicO a es ep))
theorem pset_dic (hu : X.A.units + 1 < cLine) : PSet X (sDic X) := by
  intro pins s σ H x y z v u w Q I rx ry rz h
  obtain ⟨a, b, ks, ys, rfl, rfl, dk, hk, hl, q⟩ := h
  cases rx
  cases ry
  exact dic_set hu I dk hk hl fun es ep s4 g1 g2 I4 => ⟨_, I4, q es ep w rz g1 g2⟩
/-! ### name = {k: v for ..} -/
theorem ps_setDcD {i : Nat} {y : Str} {py : Pos} {kx vx tg iter : PySem.Expr} {ifs : List PySem.Expr} {scope : Scope} {own : List (Str × Nat)} {pos spos : Pos} {wi : TI} {g : TG} {tt : TT} {tkk tv : TE} (hu : X.A.units + 1 < cLine) (hc : X.calm = true) (hN : X.N.Nodup) (hy : X.N[i]? = some y) (hyl : X.env.scope.names.lookup y = some .local)
    (hsw : swapsWith (.DictComp kx vx [⟨tg, iter, ifs, 0⟩] scope pos) (some (.Name y py)) spos.line X.env = pure true) (hi : PI X tg iter wi) (ok : BlkOk X.N X.env.scope scope own)
    (hg : ∀ (s : Shared) (H : Hp) (C : Addr) (cl : List (Str × Addr)) (fp : List Addr), PG (X.blk s H scope (compEnvC scope cl C X.env) fp) tg g) (ht : ∀ (s : Shared) (H : Hp) (C : Addr) (cl : List (Str × Addr)) (fp : List Addr), PTs (X.blk s H scope (compEnvC scope cl C X.env) fp) ifs tt)
    (hk : ∀ (s : Shared) (H : Hp) (C : Addr) (cl : List (Str × Addr)) (fp : List Addr), PE (X.blk s H scope (compEnvC scope cl C X.env) fp) kx tkk)
    (he : ∀ (s : Shared) (H : Hp) (C : Addr) (cl : List (Str × Addr)) (fp : List Addr), PE (X.blk s H scope (compEnvC scope cl C X.env) fp) vx tv) (hs : ∀ x, foldedSetIterable iter X.env x = pure x := by intro _; rfl) :
    PS X (.Assign [.Name y py] (.DictComp kx vx [⟨tg, iter, ifs, 0⟩] scope pos) spos) (fun D σ H => tDcD X wi g tt tkk tv (own.map (·.2)) σ H fun x H1 => D.nx (σ.set i (some x)) H1) := by
  refine ⟨fun pins s σ H D I h => ?_⟩
  rw [exec_Assign_Name_used _ _ _ _ hsw]
  refine wpAny_bind (wpAny_standAt (wpAny_bind ?_))
  refine wpAny_bind (thn (dcD_core (Qf := fun _ s2 => SP X pins D .next s2) (use := some (assign (.Name y py) X.env)) hu hc hN I hi ok hg ht hk he hs h fun L C s2 m H2 I2 q hn f => ?_) fun _ s2 hq => wpAny_pure (wpAny_pure hq))
  show wpAny _ _ (assign (.Name y py) X.env (.ref L)) _ _ _
  refine wpAny_assign_Name (store_ok2 (v := V.ref L) I2 hN hy (.inl hyl) rfl (fun s3 I3 ⟨a, sb, ha⟩ => ?_) (.inr hyl))
  obtain ⟨f0, f1, f2, f3, f4, f5⟩ := f
  refine ⟨m, hn.sameBut sb ?_, fun h3 sb3 => ?_⟩
  · rcases ha with z | z
    · rw [z]; exact f1
    · exact fun e => f4 y a z e.symm
  · exact ⟨_, H2, I3.turned (t' := s3.toks) (fun b o hb e => (sb3.2 b hb).trans e) f0 f1 f3 f4 f5, q⟩
theorem sw_trueD {kx vx : PySem.Expr} {gs : List Comprehension} {scope : Scope} {pos py : Pos} {y : Str} {l : Nat} {env : Env} (hk : env.scope.kind = .function) (hy : env.scope.names.lookup y = some .local) (hl : (py.line == pos.line) = true)
    (ha : (scope.names.any fun (n, k) => n == y && (k == .local || k == .cell)) = false) : swapsWith (.DictComp kx vx gs scope pos) (some (.Name y py)) l env = pure true := by
  have ky : env.kindOf y = some .local := hy
  have hb : env.blockKind = .function := by unfold Env.blockKind; rw [hk]; rfl
  unfold swapsWith
  simp only [hb, ky, ha, Expr.pos, hl]
  rfl
/-! ### a display of two entries, and update by it -/
def intHash (ns : List Int) : Int := reduceHash (Builtin.Tuple.tupleHashOf (ns.map hashInt))
theorem hash_ints (P : Program) (w : World) (ns : List Int) : (tupleKind (mixKind P w)).hash (ns.map Sum.inl) = intHash ns := by
  show reduceHash (Builtin.Tuple.tupleHashOf ((ns.map Sum.inl).map (keyH w))) = _
  rw [List.map_map]; rfl
/-- rows of one to three numbers from 1 to 3 -/
def SMI : List (List Int) := ([1, 2, 3].map fun a => [a]) ++ ([1, 2, 3].map fun a => [1, 2, 3].map fun b => [a, b]).flatten ++ ([1, 2, 3].map fun a => ([1, 2, 3].map fun b => [1, 2, 3].map fun c => [a, b, c]).flatten).flatten
theorem smi_hash : ∀ x ∈ SMI, ∀ y ∈ SMI, intHash x = intHash y → x = y := by
  have h : (SMI.all fun x => SMI.all fun y => !(intHash x == intHash y) || x == y) = true := by decide +kernel
  intro x hx y hy e
  have := List.all_eq_true.mp (List.all_eq_true.mp h x hx) y hy
  rw [e, beq_self_eq_true, Bool.not_true, Bool.false_or, beq_iff_eq] at this
  exact this
def keyIs? : List Key → Option (List Int)
  | [] => some []
  | .inl i :: r => (keyIs? r).map (i :: ·)
  | .inr _ :: _ => none
theorem keyIs_eq : ∀ {k : List Key} {ns : List Int}, keyIs? k = some ns → k = ns.map Sum.inl
  | [], ns, h => by cases h; rfl
  | .inl i :: r, ns, h => by
    unfold keyIs? at h
    cases e : keyIs? r with
    | none => rw [e] at h; cases h
    | some m =>
      rw [e] at h
      cases h
      rw [keyIs_eq e]; rfl
  | .inr x :: r, ns, h => by cases h
def smallK (k : List Key) : Bool := match keyIs? k with
  | some ns => SMI.contains ns
  | none => false
theorem smallK_hash {P : Program} {w : World} {k1 k2 : List Key} (h1 : smallK k1 = true) (h2 : smallK k2 = true) (e : (tupleKind (mixKind P w)).hash k1 = (tupleKind (mixKind P w)).hash k2) : k1 = k2 := by
  unfold smallK at h1 h2
  split at h1
  case h_2 => cases h1
  rename_i n1 e1
  split at h2
  case h_2 => cases h2
  rename_i n2 e2
  obtain rfl := keyIs_eq e1
  obtain rfl := keyIs_eq e2
  rw [hash_ints, hash_ints] at e
  rw [smi_hash _ (List.contains_iff_mem.mp h1) _ (List.contains_iff_mem.mp h2) e]
def tDisp2 (X : Cx) (tk1 tv1 tk2 tv2 : TE) : TE := fun σ H Q => ∀ q, H q = none → tk1 σ (upd H q (dicO q #[] 0)) fun y1 H1 => tv1 σ H1 fun v1 H2 => tk2 σ H2 fun y2 H3 => tv2 σ H3 fun v2 H4 =>
  ∃ b1 k1 b2 k2, H4 q = some (dicO q #[] 0) ∧ y1 = .ref b1 ∧ SqT X.K H4 b1 (k1.map kV) ∧ y2 = .ref b2 ∧ SqT X.K H4 b2 (k2.map kV) ∧
  ∀ es ep u1 u2, RelV v1 u1 → RelV v2 u2 → es.toList = (storedH [(k1, b1, u1)] k2 b2 u2).map (entryOfKey (tk X)) → ((storedH [(k1, b1, u1)] k2 b2 u2).map (·.1)).Nodup → Q (.ref q) (upd H4 q (dicO q es ep))
theorem pe_disp2 {ek ev ek2 ev2 : PySem.Expr} {pos : Pos} {tk1 tv1 tk2 tv2 : TE} (hu : X.A.units + 1 < cLine) (hk : PE X ek tk1) (hv : PE X ev tv1) (hk2 : PE X ek2 tk2) (hv2 : PE X ev2 tv2) : PE X (.Dict [some ek, some ek2] [ev, ev2] pos) (tDisp2 X tk1 tv1 tk2 tv2) := by
  refine ⟨fun pins s σ H Q I q => ?_⟩
  have hn := I.hok.fresh (Nat.le_refl s.heap.objs.size)
  have hsys : (s.heap.objs.size == sysModules) = false := beq_eq_false_iff_ne.mpr (Ne.symm (Nat.ne_of_lt I.big))
  have I1 := I.laid (a := s.heap.objs.size) (o := dicO s.heap.objs.size #[] 0) (h' := s.heap.push { cls := .type "dict", data := .dict #[] }) (t' := s.toks) (fun _ _ q => Heap.get?_push_of_some _ q) (Nat.le_refl _) (dicO_ok ⟨_, Heap.get?_push_size _ rfl, ⟨rfl, rfl, rfl⟩, rfl⟩ hsys)
  refine wpAny_Dict_any rfl rfl (by simp) (Nat.le_of_ble_eq_true rfl) (pairTrees_cons_walk (thn (hk.run pins _ σ _ _ I1 (q _ hn)) fun u s1 ⟨y, H1, I2, ry, q1⟩ => thn (hv.run pins s1 σ H1 _ I2 q1) fun w s2 ⟨v, H2, I3, rv, q2⟩ =>
    pairTrees_cons_walk (thn (hk2.run pins s2 σ H2 _ I3 q2) fun u2 s3 ⟨y2, H3, I4, ry2, q3⟩ => thn (hv2.run pins s3 σ H3 _ I4 q3) fun w2 s4 ⟨v2, H4, I5, rv2, b1, k1, b2, k2, e1, e2, e3, e4, e5, e6⟩ => pairTrees_nil_walk ?_)))
  subst e2 e4
  cases (show u = Value.ref b1 from ry)
  cases (show u2 = Value.ref b2 from ry2)
  obtain ⟨dd, _⟩ := dic_at (ys := []) I5 ⟨#[], 0, e1, rfl, List.nodup_nil, fun y hy => nomatch hy⟩
  refine wpAny_storeAllH (knd := tk X) (by show X.A.units < cLine; omega) [(.ref b1, w), (.ref b2, w2)] [(k1, b1, w), (k2, b2, w2)] [] s4 _ ⟨rfl, rfl, key_at I5 e3, rfl, rfl, key_at I5 e5, trivial⟩ dd (by rw [sizeLine_eq]; exact Nat.le_of_ble_eq_true rfl) fun h' tk' dd' hs' => ?_
  obtain ⟨o, es, ep, hq, h2, h3, h4, _, h5⟩ := dd'
  exact ⟨.ref s.heap.objs.size, _, d_write I5 (by rw [e1]; exact True.intro) hs' ⟨o, hq⟩ (dicO_ok ⟨o, hq, h2, h3⟩ hsys), rfl, e6 es ep w w2 rv rv2 h4 h5⟩
def tDupdE (X : Cx) (i : Nat) (tv : TE) : TE := fun σ H Q => ∃ a, σ[i]? = some (some (V.ref a)) ∧ (∃ ys, DicK X H a ys) ∧ tv σ H fun y H1 => ∃ b ys zs, y = .ref b ∧ a ≠ b ∧ DicK X H1 a ys ∧ DicK X H1 b zs ∧ (ys ≠ [] ∨ (zs.map fun x => (tk X).hash x.1).Nodup) ∧ ys.length + zs.length ≤ sizeLine ∧
  ∀ es ep, es.toList = (storedAllH ys zs).map (entryOfKey (tk X)) → ((storedAllH ys zs).map (·.1)).Nodup → Q .non (upd H1 a (dicO a es ep))
theorem pe_dupdE {x : Str} {v : PySem.Expr} {px ap pos : Pos} {tv : TE} (hu : X.A.units + 1 < cLine) (hx : PE X (.Name x px) (tVar i)) (hl : (ap.endLine == pos.line) = true) (hs : starEach [v] X.env = (false, eval v X.env) :: starEach [] X.env) (hv : PE X v tv) :
    PE X (.Call (.Attribute (.Name x px) "update" ap) [v] [] pos) (tDupdE X i tv) := by
  have hst : backTo pos (starEach [v] X.env) = [(false, eval v X.env)] := by rw [hs]; rfl
  refine ⟨fun pins s σ H Q I ⟨a, g1, ⟨ys0, g2⟩, q⟩ => ?_⟩
  refine wpAny_Call_method (by rfl) (by rw [hst]; rfl) hl PySem.F.plainAttrs_dict PySem.F.slot_dict_update PySem.F.type_dict_update (thn (hx.run pins s σ H (fun v H2 => v = .ref a ∧ H2 = H) I ⟨_, g1, rfl, rfl⟩) fun u s1 ⟨x, H1, I1, rx, e3, e4⟩ => ?_)
  subst e3; subst e4
  obtain rfl : u = Value.ref a := rx
  obtain ⟨dd, _⟩ := dic_at I1 g2
  refine ⟨dd.typeIs, fun b z => ?_, ?_⟩
  · cases z
    obtain ⟨ob, _, _, q1, q2, _⟩ := dd
    exact ⟨ob, q1, q2.2.1⟩
  rw [hst]
  refine Calls.callWith_builtin rfl (Calls.evalArgs_plain (Calls.spliced_cons (thn (hv.run pins s1 σ _ _ I1 q) fun iv s2 ⟨y, H2, I2, ry, b, ys, zs, e1, hab, h1, h2, h3, h4, q2⟩ => Calls.spliced_nil ?_)))
  subst e1
  obtain rfl : iv = Value.ref b := ry
  obtain ⟨d1, m1⟩ := dic_at I2 h1
  obtain ⟨d2, m2⟩ := dic_at I2 h2
  have hty : ∀ x ∈ zs, s2.TypeIs (.ref x.2.1) "tuple" := fun x hx => by
    obtain ⟨_, _, _, _, _, hk⟩ := h2
    obtain ⟨its, rv, pl, hz⟩ := I2.tuple (hk x hx)
    exact pl.typeIs
  obtain ⟨es0, ep0, w1, _⟩ := h1
  refine call_update_dictH (tupleKind_room_in1 hu) hab m2 d1 d2 (h3.imp id fun z => ⟨hty, z⟩) h4 fun h' dd' _ hs => ?_
  obtain ⟨qq, es, ep, hq, g2, g3, g4, _, g5⟩ := dd'
  exact ⟨.non, _, d_write I2 (by rw [w1]; exact True.intro) hs ⟨qq, hq⟩ (dicO_ok ⟨qq, hq, g2, g3⟩ m1), rfl, q2 es ep g4 g5⟩
end
end Rv

set_option Elab.async false
set_option linter.all false
set_option maxRecDepth 100000
set_option maxHeartbeats 4000000
/-! Rv11: every expression that okE lets pass is read as ev says. -/
namespace Rv
open PySem PySem.Spec PyProof.Rows L2

theorem _root_.L2.PE.r {X : Cx} {p : Pm} {cl : Str → Value} {Ex : XK} {G : Genv} {m : E} {e : PySem.Expr} (h : PE X e (TB p cl Ex G m)) : PE X e (TR p cl Ex G m) := Rv.PE.r h
theorem _root_.L2.PE.v {X : Cx} {p : Pm} {cl : Str → Value} {Ex : XK} {G : Genv} {m : E} {e : PySem.Expr} (h : PE X e (TR p cl Ex G m)) : PE X e (TV p cl Ex G m) := Rv.PE.v h
/-! ### what the text's shape gives -/
section
variable {env : Env} {pos : Pos}
theorem star_cons {x : PySem.Expr} {xs : List PySem.Expr} (h : starred x = false) : starEach (x :: xs) env = (false, eval x env) :: starEach xs env := by
  cases x <;> first | rfl | cases h
theorem back_any {xs : List (Bool × Sem Value)} (h : xs.any (·.1) = false) : (backTo pos xs).any (·.1) = false := by
  unfold backTo
  rw [List.any_map]
  exact h
def noStar : List PySem.Expr → Bool
  | [] => true
  | x :: xs => !starred x && noStar xs
theorem noStar_any : ∀ {xs : List PySem.Expr}, noStar xs = true → (starEach xs env).any (·.1) = false
  | [], _ => rfl
  | x :: xs, h => by
    unfold noStar at h
    simp only [Bool.and_eq_true, Bool.not_eq_true'] at h
    rw [star_cons h.1, List.any_cons, noStar_any h.2]; rfl
theorem noStar_back {xs : List PySem.Expr} (h : noStar xs = true) : (backTo pos (starEach xs env)).any (·.1) = false := back_any (noStar_any h)
def plainT : PySem.Expr → Bool
  | .UnaryOp .Not _ _ => false
  | .BoolOp _ _ _ => false
  | .IfExp _ _ _ _ => false
  | .Compare _ _ _ _ => false
  | _ => true
theorem plainT_he {e : PySem.Expr} (h : plainT e = true) : ∀ whole, isTrue e env whole = (do let v ← whole; standAt e.pos; holding [v] (truthy v)) := by
  cases e <;> first | (intro whole; rfl) | cases h | skip
  rename_i op x ps
  cases op <;> first | (intro whole; rfl) | cases h
theorem plainIx_of {e : PySem.Expr} (h : plainIx e = true) : PlainIx e := by
  cases e <;> first | (intro o i; rfl) | cases h
theorem set_none {i : PySem.Expr} (h : notSetB i = true) : ∀ x, foldedSetIterable i env x = pure x := by
  intro x
  cases i <;> first | rfl | cases h
theorem relS_lookup {scope sc : Scope} {x : Str} {k : NameKind} (h : scope.names.lookup x = some k) (hk : k ≠ .free) : (relS scope sc).names.lookup x = some k := by
  show List.lookup x (scope.names.map _) = some k
  generalize scope.names = l at h
  induction l with
  | nil => cases h
  | cons y r ih =>
    obtain ⟨n, j⟩ := y
    rw [List.lookup_cons] at h
    rw [List.map_cons]
    dsimp only
    cases hb : x == n with
    | true =>
      rw [hb] at h
      cases h
      have hf : (k == NameKind.free) = false := by cases k <;> first | rfl | exact absurd rfl hk
      rw [hf, Bool.false_and, Bool.false_and, if_neg Bool.false_ne_true, List.lookup_cons, hb]
    | false =>
      rw [hb] at h
      split
      · rw [List.lookup_cons, hb]; exact ih h
      · rw [List.lookup_cons, hb]; exact ih h
end

section
variable {G : Genv} {N : List Str}
theorem okE_noStar {m : E} : ∀ {md : Md} {sc : Scope} {xs : List PySem.Expr}, okE G N m md sc (.l xs) = true → noStar xs = true := by
  induction m with
  | nil => intro md sc xs h; cases xs <;> first | rfl | cases h
  | cons a r _ ih =>
    intro md sc xs h
    cases xs with
    | nil => cases h
    | cons x xs =>
      have h : (!starred x && okE G N a md sc (.e x) && okE G N r md sc (.l xs)) = true := h
      simp only [Bool.and_eq_true] at h
      show (!starred x && noStar xs) = true
      rw [h.1.1, ih h.2]; rfl
  | peek i => intro md sc xs h; cases md <;> cases h
  | dkeys i => intro md sc xs h; cases md <;> cases h
  | _ => intro md sc xs h; cases h

/-- all that is asked of an expression -/
structure Okx (G : Genv) (N : List Str) (m : E) : Prop where
  a : ∀ {X : Cx} {p : Pm} {cl : Str → Value} {CX : CXT} {Ex : XK} {sc : Scope}, Cxt p G cl CX Ex sc X → X.N = N → ∀ e, okE G N m .pl sc (.e e) = true → PE X e (TB p cl Ex G m)
  t : ∀ {X : Cx} {p : Pm} {cl : Str → Value} {CX : CXT} {Ex : XK} {sc : Scope}, Cxt p G cl CX Ex sc X → X.N = N → ∀ e, okE G N m .pl sc (.e e) = true → PT X e (TT_ p cl Ex G m)
  w : ∀ {X : Cx} {p : Pm} {cl : Str → Value} {CX : CXT} {Ex : XK} {sc : Scope}, Cxt p G cl CX Ex sc X → X.N = N → ∀ op xs pos, okE G N m .pl sc (.e (.BoolOp op xs pos)) = true → PW X (.BoolOp op xs pos) (TT_ p cl Ex G m)
  o : ∀ {X : Cx} {p : Pm} {cl : Str → Value} {CX : CXT} {Ex : XK} {sc : Scope}, Cxt p G cl CX Ex sc X → X.N = N → ∀ e, okE G N m .pk sc (.e e) = true → Opd X p cl Ex G m e ∧ PE X e (TV p cl Ex G m)
  r : ∀ {X : Cx} {p : Pm} {cl : Str → Value} {CX : CXT} {Ex : XK} {sc : Scope}, Cxt p G cl CX Ex sc X → X.N = N → ∀ xs, okE G N m .pl sc (.l xs) = true → PA X xs (TAr p cl Ex G m)
  v : ∀ {X : Cx} {p : Pm} {cl : Str → Value} {CX : CXT} {Ex : XK} {sc : Scope}, Cxt p G cl CX Ex sc X → X.N = N → ∀ xs, okE G N m .pk sc (.l xs) = true → PA X xs (TAv p cl Ex G m)
  i : ∀ {X : Cx} {p : Pm} {cl : Str → Value} {CX : CXT} {Ex : XK} {sc : Scope}, Cxt p G cl CX Ex sc X → X.N = N → ∀ e tg (t : Tg) raw, okE G N m .it sc (.e e) = true → okG N raw t tg = true → itTg m t = true → PI X tg e (TI_ p cl Ex G m)
abbrev PropA (G : Genv) (N : List Str) (m : E) : Prop := ∀ {X : Cx} {p : Pm} {cl : Str → Value} {CX : CXT} {Ex : XK} {sc : Scope}, Cxt p G cl CX Ex sc X → X.N = N → ∀ e, okE G N m .pl sc (.e e) = true → PE X e (TB p cl Ex G m)
abbrev PropT (G : Genv) (N : List Str) (m : E) : Prop := ∀ {X : Cx} {p : Pm} {cl : Str → Value} {CX : CXT} {Ex : XK} {sc : Scope}, Cxt p G cl CX Ex sc X → X.N = N → ∀ e, okE G N m .pl sc (.e e) = true → PT X e (TT_ p cl Ex G m)
abbrev PropW (G : Genv) (N : List Str) (m : E) : Prop := ∀ {X : Cx} {p : Pm} {cl : Str → Value} {CX : CXT} {Ex : XK} {sc : Scope}, Cxt p G cl CX Ex sc X → X.N = N → ∀ op xs pos, okE G N m .pl sc (.e (.BoolOp op xs pos)) = true → PW X (.BoolOp op xs pos) (TT_ p cl Ex G m)
theorem Okx.mk1 {m : E} (hp : peekOf m = none) (hk : ∀ sc x, okE G N m .pk sc x = okE G N m .pl sc x) (hi : ∀ sc x, okE G N m .it sc x = okE G N m .pl sc x) (hl : ∀ sc xs, okE G N m .pl sc (.l xs) = false)
    (ha : PropA G N m) (ht : PropT G N m) (hw : PropW G N m) : Okx G N m where
  a := ha
  t := ht
  w := hw
  o := fun C hN e h => by
    rw [hk] at h
    have q := ha C hN e h
    exact ⟨⟨_, q.r, fun z => by rw [hp] at z; (cases z), fun _ _ _ _ z => z⟩, q.r.v⟩
  r := fun C hN xs h => by rw [hl] at h; cases h
  v := fun C hN xs h => by rw [hk, hl] at h; cases h
  i := fun C hN e tg t raw h _ _ => by
    rw [hi] at h
    exact i_seq C (ha C hN e h).r
/-- .. whose truth is that of its value -/
theorem Okx.mk2 {m : E} (hp : peekOf m = none) (hk : ∀ sc x, okE G N m .pk sc x = okE G N m .pl sc x) (hi : ∀ sc x, okE G N m .it sc x = okE G N m .pl sc x) (hl : ∀ sc xs, okE G N m .pl sc (.l xs) = false)
    (hpl : ∀ sc e, okE G N m .pl sc (.e e) = true → plainT e = true) (ha : PropA G N m) : Okx G N m :=
  Okx.mk1 hp hk hi hl ha (fun C hN e h => s_truth C (ha C hN e h).r (plainT_he (hpl _ _ h))) fun C hN op xs pos h => by
    have := hpl _ _ h
    cases this
/-- what can only be walked -/
theorem Okx.mk3 {m : E} (hp : ∀ sc x, okE G N m .pl sc x = false) (hk : ∀ sc x, okE G N m .pk sc x = false)
    (hi : ∀ {X : Cx} {p : Pm} {cl : Str → Value} {CX : CXT} {Ex : XK} {sc : Scope}, Cxt p G cl CX Ex sc X → X.N = N → ∀ e tg (t : Tg) raw, okE G N m .it sc (.e e) = true → okG N raw t tg = true → itTg m t = true → PI X tg e (TI_ p cl Ex G m)) : Okx G N m where
  a := fun _ _ _ h => by rw [hp] at h; cases h
  t := fun _ _ _ h => by rw [hp] at h; cases h
  w := fun _ _ _ _ _ h => by rw [hp] at h; cases h
  o := fun _ _ _ h => by rw [hk] at h; cases h
  r := fun _ _ _ h => by rw [hp] at h; cases h
  v := fun _ _ _ h => by rw [hk] at h; cases h
  i := hi
theorem Okx.opd {m : E} (q : Okx G N m) {X : Cx} {p : Pm} {cl : Str → Value} {CX : CXT} {Ex : XK} {sc : Scope} (C : Cxt p G cl CX Ex sc X) (hN : X.N = N) {e : PySem.Expr} (h : okE G N m .pk sc (.e e) = true) : Opd X p cl Ex G m e := (q.o C hN e h).1
theorem Okx.vw {m : E} (q : Okx G N m) {X : Cx} {p : Pm} {cl : Str → Value} {CX : CXT} {Ex : XK} {sc : Scope} (C : Cxt p G cl CX Ex sc X) (hN : X.N = N) {e : PySem.Expr} (h : okE G N m .pk sc (.e e) = true) : PE X e (TV p cl Ex G m) := (q.o C hN e h).2
theorem tuple_of {N : List Str} {raw : Scope} {t : Tg} {tg : PySem.Expr} (h : okG N raw t tg = true) (ht : itTg (.enum .nil) t = true) : ∃ es k ps, tg = .Tuple es k ps := by
  cases t <;> try cases ht
  cases tg <;> first | exact ⟨_, _, _, rfl⟩ | (unfold okG at h; cases h)

theorem okx (m : E) : Okx G N m := by
  induction m with
  | var i =>
    refine .mk2 rfl (fun _ _ => rfl) (fun _ _ => rfl) (fun _ _ => rfl) (fun sc e h => ?_) fun {X p cl CX Ex sc} C hN e h => ?_
    · cases e <;> first | rfl | cases h
    · cases e <;> try cases h
      have h : (nmB N i _ && visB sc _) = true := h
      simp only [Bool.and_eq_true] at h
      subst hN
      exact s_var C h.1 h.2
  | peek i =>
    refine ⟨fun _ _ _ h => (by cases h), fun _ _ _ h => (by cases h), fun _ _ _ _ _ h => (by cases h), fun {X p cl CX Ex sc} C hN e h => ?_, fun _ _ _ h => (by cases h), fun _ _ _ h => (by cases h), fun _ _ _ _ _ _ h => (by cases h)⟩
    cases e <;> try cases h
    have h : (nmB N i _ && visB sc _) = true := h
    simp only [Bool.and_eq_true] at h
    subst hN
    obtain ⟨n1, n2, n3⟩ := nm_at h.1
    exact ⟨⟨tVar i, pe_var n1 (vis_of C.sc h.2) n2 n3, fun _ => rfl, fun z => (by cases z)⟩, s_peek C h.1 h.2⟩
  | ci i =>
    refine .mk2 rfl (fun _ _ => rfl) (fun _ _ => rfl) (fun _ _ => rfl) (fun sc e h => ?_) fun {X p cl CX Ex sc} C hN e h => ?_
    · cases e <;> first | rfl | cases h
    · cases e <;> try cases h
      exact s_const h
  | cs i =>
    refine .mk2 rfl (fun _ _ => rfl) (fun _ _ => rfl) (fun _ _ => rfl) (fun sc e h => ?_) fun {X p cl CX Ex sc} C hN e h => ?_
    · cases e <;> first | rfl | cases h
    · cases e <;> try cases h
      exact s_const h
  | cb i =>
    refine .mk2 rfl (fun _ _ => rfl) (fun _ _ => rfl) (fun _ _ => rfl) (fun sc e h => ?_) fun {X p cl CX Ex sc} C hN e h => ?_
    · cases e <;> first | rfl | cases h
    · cases e <;> try cases h
      exact s_const h
  | cn =>
    refine .mk2 rfl (fun _ _ => rfl) (fun _ _ => rfl) (fun _ _ => rfl) (fun sc e h => ?_) fun {X p cl CX Ex sc} C hN e h => ?_
    · cases e <;> first | rfl | cases h
    · cases e <;> try cases h
      exact s_const h
  | glb n =>
    refine .mk2 rfl (fun _ _ => rfl) (fun _ _ => rfl) (fun _ _ => rfl) (fun sc e h => ?_) fun {X p cl CX Ex sc} C hN e h => ?_
    · cases e <;> first | rfl | cases h
    · cases e <;> try cases h
      have h : ((G.gnm n == _) && glB sc _ && !dbg _) = true := h
      simp only [Bool.and_eq_true, beq_iff_eq, Bool.not_eq_true'] at h
      exact s_glb C h.1.1 h.1.2 h.2
  | bin o a b iha ihb =>
    refine .mk2 rfl (fun _ _ => rfl) (fun _ _ => rfl) (fun _ _ => rfl) (fun sc e h => ?_) fun {X p cl CX Ex sc} C hN e h => ?_
    · cases e <;> first | rfl | cases h
    · cases e <;> try cases h
      rename_i l op r ps
      have h : ((o.op == op) && okE G N a .pk sc (.e l) && okE G N b .pk sc (.e r)) = true := h
      simp only [Bool.and_eq_true] at h
      have ho : o.op = op := by have := h.1.1; cases o <;> cases op <;> first | rfl | cases this
      subst ho
      exact s_bin C (iha.opd C hN h.1.2) (ihb.vw C hN h.2)
  | neg a iha =>
    refine .mk2 rfl (fun _ _ => rfl) (fun _ _ => rfl) (fun _ _ => rfl) (fun sc e h => ?_) fun {X p cl CX Ex sc} C hN e h => ?_
    · cases e <;> first | rfl | cases h | skip
      rename_i op _ _
      cases op <;> first | rfl | cases h
    · cases e <;> try cases h
      rename_i op x ps
      cases op <;> try cases h
      exact s_neg (iha.a C hN _ h).r
  | cmp o a b iha ihb =>
    have hh : ∀ {X : Cx} {p : Pm} {cl : Str → Value} {CX : CXT} {Ex : XK} {sc : Scope}, Cxt p G cl CX Ex sc X → X.N = N → ∀ e, okE G N (.cmp o a b) .pl sc (.e e) = true → PE X e (TB p cl Ex G (.cmp o a b)) ∧ PT X e (TT_ p cl Ex G (.cmp o a b)) := fun {X p cl CX Ex sc} C hN e h => by
      unfold okE kCmp at h
      split at h
      · rename_i z
        cases z
        simp only [Bool.and_eq_true, Bool.not_eq_true'] at h
        rename_i l op r ps
        have ho : o.op = op := by have := h.1.1.1; cases o <;> cases op <;> first | rfl | cases this
        subst ho
        exact s_cmp C h.1.1.2 (iha.opd C hN h.1.2) (ihb.vw C hN h.2)
      · cases h
    exact .mk1 rfl (fun _ _ => rfl) (fun _ _ => rfl) (fun _ _ => rfl) (fun C hN e h => (hh C hN e h).1) (fun C hN e h => (hh C hN e h).2) fun _ _ _ _ _ h => by cases h
  | chain o q a b c iha ihb ihc =>
    have hh : ∀ {X : Cx} {p : Pm} {cl : Str → Value} {CX : CXT} {Ex : XK} {sc : Scope}, Cxt p G cl CX Ex sc X → X.N = N → ∀ e, okE G N (.chain o q a b c) .pl sc (.e e) = true → PE X e (TB p cl Ex G (.chain o q a b c)) ∧ PT X e (TT_ p cl Ex G (.chain o q a b c)) := fun {X p cl CX Ex sc} C hN e h => by
      unfold okE kChain at h
      split at h
      · rename_i z
        cases z
        rename_i l op oq m r ps
        simp only [Bool.and_eq_true, Bool.not_eq_true'] at h
        obtain ⟨⟨⟨⟨⟨⟨h1, h2⟩, h3⟩, h4⟩, h5⟩, h6⟩, h7⟩ := h
        have ho : o.op = op := by cases o <;> cases op <;> first | rfl | cases h1
        have hq : q.op = oq := by cases q <;> cases oq <;> first | rfl | cases h2
        subst ho hq
        exact s_chain C h4 (iha.a C hN _ h5).r (ihb.a C hN _ h6).r (ihc.a C hN _ h7).r
      · cases h
    exact .mk1 rfl (fun _ _ => rfl) (fun _ _ => rfl) (fun _ _ => rfl) (fun C hN e h => (hh C hN e h).1) (fun C hN e h => (hh C hN e h).2) fun _ _ _ _ _ h => by cases h
  | and_ a b iha ihb =>
    have hh : ∀ {X : Cx} {p : Pm} {cl : Str → Value} {CX : CXT} {Ex : XK} {sc : Scope}, Cxt p G cl CX Ex sc X → X.N = N → ∀ e, okE G N (.and_ a b) .pl sc (.e e) = true → PE X e (TB p cl Ex G (.and_ a b)) ∧ PW X e (TT_ p cl Ex G (.and_ a b)) := fun {X p cl CX Ex sc} C hN e h => by
      unfold okE kAnd at h
      split at h
      · rename_i z
        cases z
        simp only [Bool.and_eq_true] at h
        exact ⟨s_and C (iha.a C hN _ h.1).r (ihb.a C hN _ h.2).r, w_and (iha.t C hN _ h.1) (ihb.w C hN _ _ _ h.2)⟩
      · cases h
    exact .mk1 rfl (fun _ _ => rfl) (fun _ _ => rfl) (fun _ _ => rfl) (fun C hN e h => (hh C hN e h).1) (fun C hN e h => (hh C hN e h).2.pt) fun C hN op xs pos h => (hh C hN _ h).2
  | or_ a b iha ihb =>
    have hh : ∀ {X : Cx} {p : Pm} {cl : Str → Value} {CX : CXT} {Ex : XK} {sc : Scope}, Cxt p G cl CX Ex sc X → X.N = N → ∀ e, okE G N (.or_ a b) .pl sc (.e e) = true → PE X e (TB p cl Ex G (.or_ a b)) ∧ PW X e (TT_ p cl Ex G (.or_ a b)) := fun {X p cl CX Ex sc} C hN e h => by
      unfold okE kOr at h
      split at h
      · rename_i z
        cases z
        simp only [Bool.and_eq_true] at h
        exact ⟨s_or C (iha.a C hN _ h.1).r (ihb.a C hN _ h.2).r, w_or (iha.t C hN _ h.1) (ihb.w C hN _ _ _ h.2)⟩
      · cases h
    exact .mk1 rfl (fun _ _ => rfl) (fun _ _ => rfl) (fun _ _ => rfl) (fun C hN e h => (hh C hN e h).1) (fun C hN e h => (hh C hN e h).2.pt) fun C hN op xs pos h => (hh C hN _ h).2
  | one a iha =>
    have hh : ∀ {X : Cx} {p : Pm} {cl : Str → Value} {CX : CXT} {Ex : XK} {sc : Scope}, Cxt p G cl CX Ex sc X → X.N = N → ∀ e, okE G N (.one a) .pl sc (.e e) = true → PE X e (TB p cl Ex G (.one a)) ∧ PW X e (TT_ p cl Ex G (.one a)) := fun {X p cl CX Ex sc} C hN e h => by
      unfold okE kOne at h
      split at h
      · rename_i z
        cases z
        exact ⟨s_one (iha.a C hN _ h).r, w_one (iha.t C hN _ h)⟩
      · cases h
    exact .mk1 rfl (fun _ _ => rfl) (fun _ _ => rfl) (fun _ _ => rfl) (fun C hN e h => (hh C hN e h).1) (fun C hN e h => (hh C hN e h).2.pt) fun C hN op xs pos h => (hh C hN _ h).2
  | not_ a iha =>
    have hh : ∀ {X : Cx} {p : Pm} {cl : Str → Value} {CX : CXT} {Ex : XK} {sc : Scope}, Cxt p G cl CX Ex sc X → X.N = N → ∀ e, okE G N (.not_ a) .pl sc (.e e) = true → PE X e (TB p cl Ex G (.not_ a)) ∧ PT X e (TT_ p cl Ex G (.not_ a)) := fun {X p cl CX Ex sc} C hN e h => by
      unfold okE kNot at h
      split at h
      · rename_i z
        cases z
        exact ⟨s_not C (iha.a C hN _ h).r, t_not (iha.t C hN _ h)⟩
      · cases h
    exact .mk1 rfl (fun _ _ => rfl) (fun _ _ => rfl) (fun _ _ => rfl) (fun C hN e h => (hh C hN e h).1) (fun C hN e h => (hh C hN e h).2) fun _ _ _ _ _ h => by cases h
  | ite c a b ihc iha ihb =>
    have hh : ∀ {X : Cx} {p : Pm} {cl : Str → Value} {CX : CXT} {Ex : XK} {sc : Scope}, Cxt p G cl CX Ex sc X → X.N = N → ∀ e, okE G N (.ite c a b) .pl sc (.e e) = true → PE X e (TB p cl Ex G (.ite c a b)) ∧ PT X e (TT_ p cl Ex G (.ite c a b)) := fun {X p cl CX Ex sc} C hN e h => by
      unfold okE kIte at h
      split at h
      · rename_i z
        cases z
        simp only [Bool.and_eq_true] at h
        exact ⟨s_ite (ihc.t C hN _ h.1.1) (iha.a C hN _ h.1.2).r (ihb.a C hN _ h.2).r, t_ite (ihc.t C hN _ h.1.1) (iha.t C hN _ h.1.2) (ihb.t C hN _ h.2)⟩
      · cases h
    exact .mk1 rfl (fun _ _ => rfl) (fun _ _ => rfl) (fun _ _ => rfl) (fun C hN e h => (hh C hN e h).1) (fun C hN e h => (hh C hN e h).2) fun _ _ _ _ _ h => by cases h
  | tup es ih =>
    refine .mk2 rfl (fun _ _ => rfl) (fun _ _ => rfl) (fun _ _ => rfl) (fun sc e h => ?_) fun {X p cl CX Ex sc} C hN e h => ?_
    · cases e <;> first | rfl | cases h
    · cases e <;> try cases h
      exact s_tup (ih.r C hN _ h)
  | lst es ih =>
    refine .mk2 rfl (fun _ _ => rfl) (fun _ _ => rfl) (fun _ _ => rfl) (fun sc e h => ?_) fun {X p cl CX Ex sc} C hN e h => ?_
    · cases e <;> first | rfl | cases h
    · cases e <;> try cases h
      exact s_lst (ih.r C hN _ h)
  | nil =>
    refine ⟨fun _ _ _ h => (by cases h), fun _ _ _ h => (by cases h), fun _ _ _ _ _ h => (by cases h), fun _ _ _ h => (by cases h), fun C hN xs h => ?_, fun C hN xs h => ?_, fun _ _ _ _ _ _ h => (by cases h)⟩
    · cases xs with
      | nil => exact a_nil.2
      | cons _ _ => cases h
    · cases xs with
      | nil => exact a_nil.1
      | cons _ _ => cases h
  | cons a r iha ihr =>
    refine ⟨fun _ _ _ h => (by cases h), fun _ _ _ h => (by cases h), fun _ _ _ _ _ h => (by cases h), fun _ _ _ h => (by cases h), fun {X p cl CX Ex sc} C hN xs h => ?_, fun {X p cl CX Ex sc} C hN xs h => ?_, fun _ _ _ _ _ _ h => (by cases h)⟩
    · cases xs with
      | nil => cases h
      | cons x xs =>
        have h : (!starred x && okE G N a .pl sc (.e x) && okE G N r .pl sc (.l xs)) = true := h
        simp only [Bool.and_eq_true, Bool.not_eq_true'] at h
        have hp : peekOf a = none := by
          cases a <;> first | rfl | exact absurd h.1.2 (by intro z; cases z)
        exact a_consR hp (star_cons h.1.1) (iha.a C hN _ h.1.2).r (ihr.r C hN _ h.2)
    · cases xs with
      | nil => cases h
      | cons x xs =>
        have h : (!starred x && okE G N a .pk sc (.e x) && okE G N r .pk sc (.l xs)) = true := h
        simp only [Bool.and_eq_true, Bool.not_eq_true'] at h
        exact a_consV (star_cons h.1.1) (iha.opd C hN h.1.2) (ihr.v C hN _ h.2)
  | idx a i iha ihi =>
    refine .mk2 rfl (fun _ _ => rfl) (fun _ _ => rfl) (fun _ _ => rfl) (fun sc e h => ?_) fun {X p cl CX Ex sc} C hN e h => ?_
    · cases e <;> first | rfl | cases h
    · cases e <;> try cases h
      rename_i x ix ps
      have h : (plainIx ix && okE G N a .pk sc (.e x) && okE G N i .pl sc (.e ix)) = true := h
      simp only [Bool.and_eq_true] at h
      exact s_idx C (plainIx_of h.1.1) (iha.opd C hN h.1.2) (ihi.a C hN _ h.2).r
  | sl a lo hi iha ihl ihh =>
    refine .mk2 rfl (fun _ _ => rfl) (fun _ _ => rfl) (fun _ _ => rfl) (fun sc e h => ?_) fun {X p cl CX Ex sc} C hN e h => ?_
    · cases e <;> first | rfl | cases h
    · unfold okE kSl at h
      split at h
      · rename_i z
        cases z
        rename_i x l hh ps1 ps2
        simp only [Bool.and_eq_true] at h
        refine s_sl C (iha.opd C hN h.1.1) ?_ ?_
        · have h2 := h.1.2
          cases l with
          | none => exact o_none h2
          | some e =>
            have h2 : (!isNil lo && okE G N lo .pl sc (.e e)) = true := h2
            simp only [Bool.and_eq_true, Bool.not_eq_true'] at h2
            exact o_some h2.1 (ihl.a C hN _ h2.2).r
        · have h2 := h.2
          cases hh with
          | none => exact o_none h2
          | some e =>
            have h2 : (!isNil hi && okE G N hi .pl sc (.e e)) = true := h2
            simp only [Bool.and_eq_true, Bool.not_eq_true'] at h2
            exact o_some h2.1 (ihh.a C hN _ h2.2).r
      · cases h
  | rev a iha =>
    refine .mk2 rfl (fun _ _ => rfl) (fun _ _ => rfl) (fun _ _ => rfl) (fun sc e h => ?_) fun {X p cl CX Ex sc} C hN e h => ?_
    · cases e <;> first | rfl | cases h
    · unfold okE kRev at h
      split at h
      · rename_i z
        cases z
        exact s_rev C (iha.vw C hN h)
      · cases h
  | bi bb es ih =>
    refine .mk2 rfl (fun _ _ => rfl) (fun _ _ => rfl) (fun _ _ => rfl) (fun sc e h => ?_) fun {X p cl CX Ex sc} C hN e h => ?_
    · cases e <;> first | rfl | cases h
    · unfold okE kBi at h
      split at h
      · rename_i z
        cases z
        rename_i f p1 x xs ps
        simp only [Bool.and_eq_true, beq_iff_eq] at h
        obtain ⟨⟨h1, h2⟩, h3⟩ := h
        subst h1
        have hs := okE_noStar h3
        have hs' : (!starred x && noStar xs) = true := hs
        simp only [Bool.and_eq_true, Bool.not_eq_true'] at hs'
        exact s_bi C bb (gl_of C.sc h2) (ih.v C hN _ h3) (star_cons hs'.1) (noStar_back hs'.2)
      · cases h
  | isi a t ih =>
    refine .mk2 rfl (fun _ _ => rfl) (fun _ _ => rfl) (fun _ _ => rfl) (fun sc e h => ?_) fun {X p cl CX Ex sc} C hN e h => ?_
    · cases e <;> first | rfl | cases h
    · unfold okE kIsi at h
      split at h
      · rename_i z
        cases z
        simp only [Bool.and_eq_true, beq_iff_eq, Bool.not_eq_true'] at h
        obtain ⟨⟨⟨⟨⟨h1, h2⟩, h3⟩, h4⟩, h5⟩, h6⟩ := h
        subst h1 h3
        exact s_isi C (gl_of C.sc h2) (gl_of C.sc h4) (star_cons h5) (ih.a C hN _ h6).r
      · cases h
  | call f es ih =>
    refine .mk2 rfl (fun _ _ => rfl) (fun _ _ => rfl) (fun _ _ => rfl) (fun sc e h => ?_) fun {X p cl CX Ex sc} C hN e h => ?_
    · cases e <;> first | rfl | cases h
    · unfold okE kCall at h
      split at h
      · rename_i z
        cases z
        rename_i x p1 xs ps
        simp only [Bool.and_eq_true, beq_iff_eq, Bool.not_eq_true'] at h
        obtain ⟨⟨⟨⟨h1, h2⟩, h3⟩, h4⟩, h5⟩ := h
        cases xs with
        | nil =>
          have he : es = .nil := by
            cases es <;> first | rfl | cases h5
          subst he
          exact s_call0 C h1 h2 (gl_of C.sc h3) h4
        | cons y ys =>
          have hs' : (!starred y && noStar ys) = true := okE_noStar h5
          simp only [Bool.and_eq_true, Bool.not_eq_true'] at hs'
          exact s_call C h1 h2 (gl_of C.sc h3) h4 (ih.r C hN _ h5) (star_cons hs'.1) (noStar_back hs'.2)
      · cases h
  | callm f i es ih =>
    refine .mk2 rfl (fun _ _ => rfl) (fun _ _ => rfl) (fun _ _ => rfl) (fun sc e h => ?_) fun {X p cl CX Ex sc} C hN e h => ?_
    · cases e <;> first | rfl | cases h
    · unfold okE kCallm at h
      split at h
      · rename_i z
        cases z
        simp only [Bool.and_eq_true, beq_iff_eq, Bool.not_eq_true'] at h
        obtain ⟨⟨⟨⟨⟨⟨h1, h2⟩, h3⟩, h4⟩, h5⟩, h6⟩, h7⟩ := h
        subst hN
        exact s_callm C h1 h2 (gl_of C.sc h3) h4 h5 h6 (ih.r C rfl _ h7) (noStar_back (okE_noStar h7))
      · cases h
  | lc elt tg it cond own ihe ihi ihc =>
    refine .mk2 rfl (fun _ _ => rfl) (fun _ _ => rfl) (fun _ _ => rfl) (fun sc e h => ?_) fun {X p cl CX Ex sc} C hN e h => ?_
    · cases e <;> first | rfl | cases h
    · unfold okE kLc at h
      split at h
      · rename_i z
        cases z
        rename_i e t i ifs as scope ps
        simp only [Bool.and_eq_true, beq_iff_eq] at h
        obtain ⟨⟨⟨⟨⟨⟨⟨⟨h1, h2⟩, h3⟩, h4⟩, h5⟩, h6⟩, h7⟩, h8⟩, h9⟩ := h
        subst hN h1
        have hb := blkOk_by h2
        rw [← C.sc] at hb
        have CB : ∀ (s : Shared) (H : Hp) (Cc : Addr) (cll : List (Str × Addr)) (fp : List Addr), Cxt p G cl CX (fun _ _ _ => False) (relS scope sc) (X.blk s H scope (compEnvC scope cll Cc X.env) fp) := fun s H Cc cll fp =>
          ⟨C.k, C.calm, C.nd, by rw [← C.sc]; rfl, C.un, C.glb, C.blt, fun f fs z => ⟨(C.fns f fs z).ex⟩, fun _ _ _ _ _ _ _ z => absurd z (C.cx0 _ _ _ _ _), hb.kind, C.cx0, C.hs⟩
        refine PE.weak (pe_lc C.calm C.nd (ihi.i C rfl _ _ tg scope h7 h6 h3) hb (fun s H Cc cll fp => (g_ok (CB s H Cc cll fp).calm (CB s H Cc cll fp).nd (CB s H Cc cll fp).k (fun x hx => ?_) tg).1 _ h6) (fun s H Cc cll fp => ?_) (fun s H Cc cll fp => (ihe.a (CB s H Cc cll fp) rfl _ h9).r) (set_none h4)) fun σ H Q q => lc_core' h5 q
        · show L2.Loc (relS scope X.env.scope) x ∧ ((scope.names.lookup x == some .cell) = true ∨ (relS scope X.env.scope).names.lookup x = some .local)
          unfold locB at hx
          split at hx
          · rename_i e1
            have := relS_lookup (sc := X.env.scope) e1 (by intro z; cases z)
            exact ⟨.inl this, .inr this⟩
          · rename_i e1
            have := relS_lookup (sc := X.env.scope) e1 (by intro z; cases z)
            exact ⟨.inr this, .inl (by rw [e1]; rfl)⟩
          · cases hx
        · cases ifs with
          | nil => exact tC_nil h8
          | cons c r =>
            cases r with
            | nil =>
              have h8 : (!isNil cond && okE G X.N cond .pl (relS scope sc) (.e c)) = true := h8
              simp only [Bool.and_eq_true, Bool.not_eq_true'] at h8
              exact tC_one h8.1 (ihc.t (CB s H Cc cll fp) rfl _ h8.2)
            | cons _ _ => cases h8
      · cases h
  | pop i =>
    refine .mk2 rfl (fun _ _ => rfl) (fun _ _ => rfl) (fun _ _ => rfl) (fun sc e h => ?_) fun {X p cl CX Ex sc} C hN e h => ?_
    · cases e <;> first | rfl | cases h
    · unfold okE kPop at h
      split at h
      · rename_i z
        cases z
        simp only [Bool.and_eq_true, beq_iff_eq] at h
        obtain ⟨⟨⟨h1, h2⟩, h3⟩, h4⟩ := h
        subst hN h3
        exact s_pop C h1 h2 (beq_iff_eq.mpr h4)
      · cases h
  | sset a iha =>
    refine .mk2 rfl (fun _ _ => rfl) (fun _ _ => rfl) (fun _ _ => rfl) (fun sc e h => ?_) fun {X p cl CX Ex sc} C hN e h => ?_
    · cases e <;> first | rfl | cases h
    · unfold okE kSset at h
      split at h
      · rename_i z
        cases z
        simp only [Bool.and_eq_true, beq_iff_eq, Bool.not_eq_true'] at h
        obtain ⟨⟨⟨⟨⟨h1, h2⟩, h3⟩, h4⟩, h5⟩, h6⟩ := h
        subst h1 h3
        exact s_sset C (gl_of C.sc h2) (gl_of C.sc h4) (star_cons h5) (iha.a C hN _ h6).r
      · cases h
  | lzip a b iha ihb =>
    refine .mk2 rfl (fun _ _ => rfl) (fun _ _ => rfl) (fun _ _ => rfl) (fun sc e h => ?_) fun {X p cl CX Ex sc} C hN e h => ?_
    · cases e <;> first | rfl | cases h
    · unfold okE kLzip at h
      split at h
      · rename_i z
        cases z
        simp only [Bool.and_eq_true, beq_iff_eq, Bool.not_eq_true'] at h
        obtain ⟨⟨⟨⟨⟨⟨⟨h1, h2⟩, h3⟩, h4⟩, h5⟩, h6⟩, h7⟩, h8⟩ := h
        subst h1 h3
        have hp : peekOf a = none := by
          cases a <;> first | rfl | exact absurd h7 (by intro z; cases z)
        have hq : peekOf b = none := by
          cases b <;> first | rfl | exact absurd h8 (by intro z; cases z)
        exact s_lzip C hp hq (gl_of C.sc h2) (gl_of C.sc h4) (a_consR hp (star_cons h5) (iha.a C hN _ h7).r (a_consR hq (star_cons h6) (ihb.a C hN _ h8).r a_nil.2)) (star_cons h5) (noStar_back (xs := [_]) (by show (!starred _ && true) = true; rw [h6]; rfl))
      · cases h
  | meth m a b iha ihb =>
    refine .mk2 rfl (fun _ _ => rfl) (fun _ _ => rfl) (fun _ _ => rfl) (fun sc e h => ?_) fun {X p cl CX Ex sc} C hN e h => ?_
    · cases e <;> first | rfl | cases h
    · unfold okE kMeth at h
      split at h
      · rename_i z
        cases z
        simp only [Bool.and_eq_true, beq_iff_eq, Bool.not_eq_true'] at h
        obtain ⟨⟨⟨⟨⟨h1, h2⟩, h3⟩, h4⟩, h5⟩, h6⟩ := h
        subst h1
        exact s_meth C h3 (beq_iff_eq.mpr h2) (star_cons h4) (iha.opd C hN h5) (ihb.a C hN _ h6).r
      · cases h
  | din neg k i ihk =>
    have hh : ∀ {X : Cx} {p : Pm} {cl : Str → Value} {CX : CXT} {Ex : XK} {sc : Scope}, Cxt p G cl CX Ex sc X → X.N = N → ∀ e, okE G N (.din neg k i) .pl sc (.e e) = true → PE X e (TB p cl Ex G (.din neg k i)) ∧ PT X e (TT_ p cl Ex G (.din neg k i)) := fun {X p cl CX Ex sc} C hN e h => by
      unfold okE kDin at h
      split at h
      · rename_i z
        cases z
        simp only [Bool.and_eq_true, beq_iff_eq] at h
        obtain ⟨⟨⟨h1, h2⟩, h3⟩, h4⟩ := h
        subst h1; subst hN
        exact s_din C h2 h3 (ihk.a C rfl _ h4).r
      · cases h
    exact .mk1 rfl (fun _ _ => rfl) (fun _ _ => rfl) (fun _ _ => rfl) (fun C hN e h => (hh C hN e h).1) (fun C hN e h => (hh C hN e h).2) fun _ _ _ _ _ h => by cases h
  | dget i k ihk =>
    refine .mk2 rfl (fun _ _ => rfl) (fun _ _ => rfl) (fun _ _ => rfl) (fun sc e h => ?_) fun {X p cl CX Ex sc} C hN e h => ?_
    · cases e <;> first | rfl | cases h
    · unfold okE kDget at h
      split at h
      · rename_i z
        cases z
        simp only [Bool.and_eq_true, beq_iff_eq, Bool.not_eq_true'] at h
        obtain ⟨⟨⟨⟨⟨h1, h2⟩, h3⟩, h4⟩, h5⟩, h6⟩ := h
        subst h1; subst hN
        exact s_dget C h2 h3 (beq_iff_eq.mpr h4) (star_cons h5) (ihk.a C rfl _ h6).r
      · cases h
  | dkeys i =>
    refine .mk3 (fun sc x => rfl) (fun sc x => rfl) fun {X p cl CX Ex sc} C hN e tg t raw h ht hi => ?_
    replace h : kVar N sc i (.e e) = true := h
    unfold kVar at h
    split at h
    · rename_i z
      cases z
      have h2 := Bool.and_eq_true_iff.mp h
      subst hN
      exact s_dkeys C h2.1 h2.2
    · cases h
  | dgetd i k e ihk ihe =>
    refine .mk2 rfl (fun _ _ => rfl) (fun _ _ => rfl) (fun _ _ => rfl) (fun sc e h => ?_) fun {X p cl CX Ex sc} C hN e h => ?_
    · cases e <;> first | rfl | cases h
    · unfold okE kDgetd at h
      split at h
      · rename_i z
        cases z
        simp only [Bool.and_eq_true, beq_iff_eq, Bool.not_eq_true'] at h
        obtain ⟨⟨⟨⟨⟨⟨⟨h1, h2⟩, h3⟩, h4⟩, h5⟩, h5'⟩, h6⟩, h7⟩ := h
        subst h1; subst hN
        exact s_dgetd C h2 h3 (beq_iff_eq.mpr h4) (by rw [star_cons h5, star_cons h5']; rfl) (ihk.a C rfl _ h6).r (ihe.a C rfl _ h7).r
      · cases h
  | didx i k ihk =>
    refine .mk2 rfl (fun _ _ => rfl) (fun _ _ => rfl) (fun _ _ => rfl) (fun sc e h => ?_) fun {X p cl CX Ex sc} C hN e h => ?_
    · cases e <;> first | rfl | cases h
    · unfold okE kDidx at h
      split at h
      · rename_i z
        cases z
        simp only [Bool.and_eq_true] at h
        obtain ⟨⟨⟨h1, h2⟩, h3⟩, h4⟩ := h
        subst hN
        exact s_didx C (plainIx_of h1) h2 h3 (ihk.a C rfl _ h4).r
      · cases h
  | dsort i =>
    refine .mk2 rfl (fun _ _ => rfl) (fun _ _ => rfl) (fun _ _ => rfl) (fun sc e h => ?_) fun {X p cl CX Ex sc} C hN e h => ?_
    · cases e <;> first | rfl | cases h
    · unfold okE kKsort at h
      split at h
      · rename_i z
        cases z
        simp only [Bool.and_eq_true, beq_iff_eq] at h
        obtain ⟨⟨⟨h1, h2⟩, h3⟩, h4⟩ := h
        subst h1; subst hN
        exact s_dsort C (gl_of C.sc h2) h3 h4
      · cases h
  | lrng a iha =>
    refine .mk2 rfl (fun _ _ => rfl) (fun _ _ => rfl) (fun _ _ => rfl) (fun sc e h => ?_) fun {X p cl CX Ex sc} C hN e h => ?_
    · cases e <;> first | rfl | cases h
    · unfold okE kLrng at h
      split at h
      · rename_i z
        cases z
        simp only [Bool.and_eq_true, beq_iff_eq, Bool.not_eq_true'] at h
        obtain ⟨⟨⟨⟨⟨h1, h2⟩, h3⟩, h4⟩, h5⟩, h6⟩ := h
        subst h1 h3; subst hN
        exact s_lrng C (gl_of C.sc h2) (gl_of C.sc h4) (star_cons h5) (iha.a C rfl _ h6).r
      · cases h
  | csort f es ihe =>
    refine .mk2 rfl (fun _ _ => rfl) (fun _ _ => rfl) (fun _ _ => rfl) (fun sc e h => ?_) fun {X p cl CX Ex sc} C hN e h => ?_
    · cases e <;> first | rfl | cases h
    · unfold okE kCsort at h
      split at h
      · rename_i z
        cases z
        simp only [Bool.and_eq_true, beq_iff_eq, Bool.not_eq_true'] at h
        obtain ⟨⟨⟨⟨⟨⟨h1, h2⟩, h3⟩, h4⟩, h5⟩, h6⟩, h7⟩ := h
        subst h1
        have hs := okE_noStar h7
        have hs' : (!starred _ && noStar _) = true := hs
        simp only [Bool.and_eq_true, Bool.not_eq_true'] at hs'
        exact s_csort C (gl_of C.sc h2) h3 h4 (gl_of C.sc h5) h6 (ihe.r C hN _ h7) (star_cons hs'.1) (noStar_back hs'.2)
      · cases h
  | dlist i =>
    refine .mk2 rfl (fun _ _ => rfl) (fun _ _ => rfl) (fun _ _ => rfl) (fun sc e h => ?_) fun {X p cl CX Ex sc} C hN e h => ?_
    · cases e <;> first | rfl | cases h
    · unfold okE kDlist at h
      split at h
      · rename_i z
        cases z
        simp only [Bool.and_eq_true, beq_iff_eq] at h
        obtain ⟨⟨⟨h1, h2⟩, h3⟩, h4⟩ := h
        subst h1; subst hN
        exact s_dlist C (gl_of C.sc h2) h3 h4
      · cases h
  | ksort i =>
    refine .mk2 rfl (fun _ _ => rfl) (fun _ _ => rfl) (fun _ _ => rfl) (fun sc e h => ?_) fun {X p cl CX Ex sc} C hN e h => ?_
    · cases e <;> first | rfl | cases h
    · unfold okE kKsort at h
      split at h
      · rename_i z
        cases z
        simp only [Bool.and_eq_true, beq_iff_eq] at h
        obtain ⟨⟨⟨h1, h2⟩, h3⟩, h4⟩ := h
        subst h1; subst hN
        exact s_ksort C (gl_of C.sc h2) h3 h4
      · cases h
  | flat it own j k ihi =>
    refine .mk2 rfl (fun _ _ => rfl) (fun _ _ => rfl) (fun _ _ => rfl) (fun sc e h => ?_) fun {X p cl CX Ex sc} C hN e h => ?_
    · cases e <;> first | rfl | cases h
    · unfold okE kFlat at h
      split at h
      · rename_i e0
        cases e0
        rename_i z zp x xp i a0 y yp x2 x2p a1 scope ps
        simp only [Bool.and_eq_true, beq_iff_eq, bne_iff_ne, List.contains_iff_mem] at h
        obtain ⟨⟨⟨⟨⟨⟨⟨⟨⟨⟨h1, h2⟩, h3⟩, h4⟩, h5⟩, htt⟩, h6⟩, ⟨h7, h8⟩, h9⟩, ⟨h10, h11⟩, h12⟩, ⟨h13, h14⟩, h15⟩, h16⟩ := h
        subst hN h1 h2 h3 h4
        have hb := blkOk_by h5
        rw [← C.sc] at hb
        obtain ⟨m1, m2, m3⟩ := nm_at h10
        obtain ⟨n1, n2, n3⟩ := nm_at h13
        have lc : ∀ {w : Str} (hw : locB scope w = true), L2.Loc (relS scope X.env.scope) w ∧ ((scope.names.lookup w == some .cell) = true ∨ (relS scope X.env.scope).names.lookup w = some .local) := fun {w} hw => by
          unfold locB at hw
          split at hw
          · rename_i e1
            have := relS_lookup (sc := X.env.scope) e1 (by intro z; cases z)
            exact ⟨.inl this, .inr this⟩
          · rename_i e1
            have := relS_lookup (sc := X.env.scope) e1 (by intro z; cases z)
            exact ⟨.inr this, .inl (by rw [e1]; rfl)⟩
          · cases hw
        have vs : ∀ {w : Str} (s : Shared) (H : Hp) (Cc : Addr) (cll : List (Str × Addr)) (fp : List Addr) (hw : visB (relS scope sc) w = true), Vis (X.blk s H scope (compEnvC scope cll Cc X.env) fp).env.scope w := fun s H Cc cll fp hw => vis_of (by rw [← C.sc]; rfl) hw
        refine PE.weak (pe_lc2 C.calm C.nd (ihi.i C rfl _ _ (.nm j) scope h16 (by show (nmB X.N j _ && locB scope _) = true; rw [h10, h11]; rfl) htt) hb (vs1 := [k]) (by intro w hw; simp only [List.mem_singleton] at hw; subst hw; exact h8) (fun s H Cc cll fp => pg_name C.nd m1 (lc h11).1 (lc h11).2) (fun s H Cc cll fp => pts_nil) (fun s H Cc cll fp => pi_ei (pe_var (X := X.blk s H scope (compEnvC scope cll Cc X.env) fp) m1 (vs s H Cc cll fp h12) m2 m3))
          (fun s H Cc cll fp => pg_name C.nd n1 (lc h14).1 (lc h14).2) (fun s H Cc cll fp => pts_nil) (fun s H Cc cll fp => pe_var (X := X.blk s H scope (compEnvC scope cll Cc X.env) fp) n1 (vs s H Cc cll fp h15) n2 n3) (set_none h6)) fun σ H Q q => lc_flat (K := X.K) C.k h7 h9 q
      · cases h
  | rng1 a iha =>
    refine .mk3 (fun sc x => ?_) (fun sc x => ?_) fun {X p cl CX Ex sc} C hN e tg t raw h ht hi => ?_
    · unfold okE kFn1; split <;> rfl
    · unfold okE kFn1; split <;> rfl
    · unfold okE kFn1 at h
      split at h
      · rename_i z
        cases z
        simp only [Bool.and_eq_true, beq_iff_eq, Bool.not_eq_true'] at h
        obtain ⟨⟨⟨⟨_, h2⟩, h3⟩, h4⟩, h5⟩ := h
        subst h2
        have hp : peekOf a = none := by
          cases a <;> first | rfl | exact absurd h5 (by intro z; cases z)
        exact i_rng1 C hp (gl_of C.sc h3) (a_consR hp (star_cons h4) (iha.a C hN _ h5).r a_nil.2) (star_cons h4)
      · cases h
  | rng2 a b iha ihb =>
    refine .mk3 (fun sc x => ?_) (fun sc x => ?_) fun {X p cl CX Ex sc} C hN e tg t raw h ht hi => ?_
    · unfold okE kFn2; split <;> rfl
    · unfold okE kFn2; split <;> rfl
    · unfold okE kFn2 at h
      split at h
      · rename_i z
        cases z
        simp only [Bool.and_eq_true, beq_iff_eq, Bool.not_eq_true'] at h
        obtain ⟨⟨⟨⟨⟨⟨_, h2⟩, h3⟩, h4⟩, h4'⟩, h5⟩, h6⟩ := h
        subst h2
        have hp : peekOf a = none := by
          cases a <;> first | rfl | exact absurd h5 (by intro z; cases z)
        have hq : peekOf b = none := by
          cases b <;> first | rfl | exact absurd h6 (by intro z; cases z)
        exact i_rng2 C hp hq (gl_of C.sc h3) (a_consR hp (star_cons h4) (iha.a C hN _ h5).r (a_consR hq (star_cons h4') (ihb.a C hN _ h6).r a_nil.2)) (by rw [star_cons h4, star_cons h4']; rfl) (star_cons h4')
      · cases h
  | zip a b iha ihb =>
    refine .mk3 (fun sc x => ?_) (fun sc x => ?_) fun {X p cl CX Ex sc} C hN e tg t raw h ht hi => ?_
    · unfold okE kFn2; split <;> rfl
    · unfold okE kFn2; split <;> rfl
    · unfold okE kFn2 at h
      split at h
      · rename_i z
        cases z
        simp only [Bool.and_eq_true, beq_iff_eq, Bool.not_eq_true'] at h
        obtain ⟨⟨⟨⟨⟨⟨_, h2⟩, h3⟩, h4⟩, h4'⟩, h5⟩, h6⟩ := h
        subst h2
        have hp : peekOf a = none := by
          cases a <;> first | rfl | exact absurd h5 (by intro z; cases z)
        have hq : peekOf b = none := by
          cases b <;> first | rfl | exact absurd h6 (by intro z; cases z)
        obtain ⟨es, k, ps, rfl⟩ := tuple_of ht hi
        exact i_zip C hp hq (gl_of C.sc h3) (a_consR hp (star_cons h4) (iha.a C hN _ h5).r (a_consR hq (star_cons h4') (ihb.a C hN _ h6).r a_nil.2)) (star_cons h4) (noStar_back (xs := [_]) (by show (!starred _ && true) = true; rw [h4']; rfl))
      · cases h
  | enum a iha =>
    refine .mk3 (fun sc x => ?_) (fun sc x => ?_) fun {X p cl CX Ex sc} C hN e tg t raw h ht hi => ?_
    · unfold okE kFn1; split <;> rfl
    · unfold okE kFn1; split <;> rfl
    · unfold okE kFn1 at h
      split at h
      · rename_i z
        cases z
        simp only [Bool.and_eq_true, beq_iff_eq, Bool.not_eq_true'] at h
        obtain ⟨⟨⟨⟨_, h2⟩, h3⟩, h4⟩, h5⟩ := h
        subst h2
        have hp : peekOf a = none := by
          cases a <;> first | rfl | exact absurd h5 (by intro z; cases z)
        obtain ⟨es, k, ps, rfl⟩ := tuple_of ht hi
        exact i_enum C hp (gl_of C.sc h3) (a_consR hp (star_cons h4) (iha.a C hN _ h5).r a_nil.2) (star_cons h4)
      · cases h
end
end Rv

set_option Elab.async false
set_option linter.all false
set_option maxRecDepth 100000
set_option maxHeartbeats 4000000
/-! Rv12: statements: the language, its evaluator, its tie to the text. -/
namespace Rv
open PySem PySem.Spec PyProof.Rows L2

inductive S where
  | nil | seq (a b : S)
  | skip
  | set (o : Bool) (i : Nat) (e : E)
  | asg (t : Tg) (e : E)
  | par2 (i : Nat) (o : Bool) (a : E) (j : Nat) (q : Bool) (b : E)
  | par3 (i : Nat) (o : Bool) (a : E) (j : Nat) (q : Bool) (b : E) (k : Nat) (w : Bool) (c : E)
  | parT (t : Tg) (a : E) (j : Nat) (q : Bool) (b : E)
  | dnew (i : Nat) | dput (i : Nat) (k e : E)
  | dnw1 (i : Nat) (k v : E) | dupd (i : Nat) (k v : E) (t : Tg) (it : E) (own : List (Str × Nat))
  | setD (i f : Nat) (es : E) | retD (i : Nat)
  | knew (i : Nat) | kupd (i : Nat) (e : E)
  | parD (i : Nat) (k v : E) (j : Nat) (q : Bool) (b : E)
  | aug (i : Nat) (sub : Bool) (e : E)
  | augl (i : Nat) (e : E) | daug (i : Nat) (k : E) (sub : Bool) (e : E)
  | dcm (i : Nat) (k v : E) (t : Tg) (it : E) (own : List (Str × Nat)) | dup2 (i : Nat) (k v k2 v2 : E) | parN (i j : Nat) (q : Bool) (b : E)
  | expr (e : E)
  | app (i : Nat) (e : E)
  | seti (i : Nat) (ix e : E)
  | if_ (c : E) (a b : S)
  | while_ (n : Nat) (c : E) (b : S)
  | for_ (t : Tg) (it : E) (b : S)
  | ret (e : E) | retO (i : Nat) | retN
  | brk | cont | never
inductive So where
  | nx (env : En)
  | rt (d : D) (env : En)
  | bk (env : En)
  | ct (env : En)
  | exc (c : Str)
  | bot
def after {α : Type} (r : Rs (α × En)) (k : α → En → So) : So :=
  match r with
  | .ok q => k q.1 q.2
  | .exc c => .exc c
  | .bot => .bot
def So.then (r : So) (k : En → So) : So :=
  match r with
  | .nx e => k e
  | r => r
def mkSl (o : Bool) (d : D) : Sl :=
  match o, d with
  | true, .list l => .own l
  | _, d => .pd d
def setS (env : En) (i : Nat) (s : Sl) : Option En :=
  match env[i]? with
  | none => none
  | some (.bor _) => none
  | some _ => some (env.set i s)
def oNx (o : Option En) : So :=
  match o with
  | some e => .nx e
  | none => .bot
def augD (sub : Bool) (x y : D) : Option D :=
  match x, y with
  | .int i, .int j => some (.int (if sub then i - j else i + j))
  | _, _ => none
def setD (l : List D) (k d : D) : Option (List D) :=
  match k with
  | .int i => (ixN l.length i).map fun j => l.set j d
  | _ => none
def isListD : D → Bool
  | .list _ => true
  | _ => false
def forGo (asg : D → En → Option En) (body : En → So) : List D → En → So
  | [], env => .nx env
  | x :: xs, env => match asg x env with
    | none => .bot
    | some e1 => match body e1 with
      | .nx e2 => forGo asg body xs e2
      | .ct e2 => forGo asg body xs e2
      | .bk e2 => .nx e2
      | .rt d e2 => .rt d e2
      | .exc c => .exc c
      | .bot => .bot
def whGo (cond : En → Rs (D × En)) (body : En → So) : Nat → En → So
  | 0, _ => .bot
  | n + 1, env => after (cond env) fun d e1 => match tru d with
    | some true => match body e1 with
      | .nx e2 => whGo cond body n e2
      | .ct e2 => whGo cond body n e2
      | .bk e2 => .nx e2
      | .rt d e2 => .rt d e2
      | .exc c => .exc c
      | .bot => .bot
    | some false => .nx e1
    | none => .bot
def dputS (fe fk : En → Rs (D × En)) (i : Nat) (env : En) : So := after (fe env) fun d e1 => if (dicOw e1 i).isSome then after (fk e1) fun kd e2 => match dicOw e2 i, keyOf kd with
    | some kvs, some ks => if kvs.length < sizeLine then .nx (e2.set i (.dic (putD kvs ks d))) else .bot
    | _, _ => .bot
  else .bot
def parDS (fk fv fb : En → Rs (D × En)) (i j : Nat) (q : Bool) (env : En) : So := after (fk env) fun kd e1 => after (fv e1) fun vd e2 => match keyOf kd with
  | some ks => after (fb e2) fun bd e3 => oNx ((setS e3 i (.dic [(ks, vd)])).bind fun e4 => setS e4 j (mkSl q bd))
  | none => .bot
def dnw1S (fk fv : En → Rs (D × En)) (i : Nat) (env : En) : So := after (fk env) fun kd e1 => after (fv e1) fun vd e2 => match keyOf kd with
  | some ks => oNx (setS e2 i (.dic [(ks, vd)]))
  | none => .bot
def dupdS (fi : En → Rs (D × En)) (asg : D → En → Option En) (fk fv : En → Rs (D × En)) (vs : List Nat) (i : Nat) (env : En) : So := if (dicOw env i).isSome then after (fi env) fun d e1 => match itemsOf d with
    | some l => if noHeld e1 vs && decide (l.length ≤ sizeLine) then after (dgo asg fk fv vs l (wipeE e1 vs) []) fun acc e2 => match dicOw (restE e2 e1 vs) i with
        | some kvs => if !kvs.isEmpty && decide (kvs.length + acc.length ≤ sizeLine) then .nx ((restE e2 e1 vs).set i (.dic (mergD kvs acc))) else .bot
        | none => .bot
      else .bot
    | none => .bot
  else .bot
def auglS (fe : En → Rs (D × En)) (i : Nat) (env : En) : So := if (heldAt env i).isSome then after (fe env) fun d e1 => match d, heldAt e1 i with
    | .list m, some l => if l.length + m.length ≤ sizeLine then .nx (setHeld e1 i (l ++ m)) else .bot
    | _, _ => .bot
  else .bot
def daugS (fk fe : En → Rs (D × En)) (sub : Bool) (i : Nat) (env : En) : So := if (dicOw env i).isSome then after (fk env) fun kd e1 => match keyOf kd, dicOw e1 i with
    | some ks, some kvs => match lookD kvs ks with
      | some (.int x) => after (fe e1) fun d e2 => match d, dicOw e2 i with
        | .int y, some kvs2 => if kvs2.length < sizeLine then .nx (e2.set i (.dic (putD kvs2 ks (.int (if sub then x - y else x + y))))) else .bot
        | _, _ => .bot
      | _ => .bot
    | _, _ => .bot
  else .bot
def dcmS (fi : En → Rs (D × En)) (asg : D → En → Option En) (fk fv : En → Rs (D × En)) (vs : List Nat) (i : Nat) (env : En) : So := after (fi env) fun d e1 => match itemsOf d with
    | some l => if noHeld e1 vs && decide (l.length ≤ sizeLine) then after (dgo asg fk fv vs l (wipeE e1 vs) []) fun acc e2 => oNx (setS (restE e2 e1 vs) i (.dic acc))
      else .bot
    | none => .bot
def dup2S (fk fv fk2 fv2 : En → Rs (D × En)) (i : Nat) (env : En) : So := if (dicOw env i).isSome then after (fk env) fun kd e1 => after (fv e1) fun vd e2 => after (fk2 e2) fun kd2 e3 => after (fv2 e3) fun vd2 e4 => match keyOf kd, keyOf kd2, dicOw e4 i with
    | some k1, some k2, some kvs => if (!kvs.isEmpty || (smallK k1 && smallK k2)) && decide (kvs.length + 2 ≤ sizeLine) then .nx (e4.set i (.dic (mergD kvs (putD [(k1, vd)] k2 vd2)))) else .bot
    | _, _, _ => .bot
  else .bot
def parNS (fb : En → Rs (D × En)) (i j : Nat) (q : Bool) (env : En) : So := after (fb env) fun bd e1 => oNx ((setS e1 i (.dic [])).bind fun e2 => setS e2 j (mkSl q bd))
def kupdS (fe : En → Rs (D × En)) (i : Nat) (env : En) : So := if (dikAt env i).isSome then after (fe env) fun d e1 => match dikAt e1 i, prsOf d with
    | some kvs, some more => if kvs.length + more.length ≤ sizeLine then .nx (e1.set i (.dik (mergQ kvs (mergQ [] more)))) else .bot
    | _, _ => .bot
  else .bot
def setDS (G : Genv) (fe : En → Rs (D × En)) (f i : Nat) (env : En) : So := after (fe env) fun d e1 => match d, G.fn f with
  | .list l, some fs => if fs.mu || !(l.length == fs.ar) || !fs.fr then .bot else match fs.f l with
    | .ok (.dict kvs, _) => match decD kvs with
      | some m => oNx (setS e1 i (.dic m))
      | none => .bot
    | .exc c => .exc c
    | _ => .bot
  | _, _ => .bot
def evS (G : Genv) (fr : Bool) : S → En → So
  | .nil, env => .nx env
  | .seq a b, env => (evS G fr a env).then fun e => evS G fr b e
  | .skip, env => .nx env
  | .set o i e, env => after (ev G e env) fun d e1 => oNx (setS e1 i (mkSl o d))
  | .asg t e, env => after (ev G e env) fun d e1 => oNx (asgT t d e1)
  | .par2 i o a j q b, env => after (ev G a env) fun d e1 => after (ev G b e1) fun d2 e2 => oNx ((setS e2 i (mkSl o d)).bind fun e3 => setS e3 j (mkSl q d2))
  | .par3 i o a j q b k w c, env => after (ev G a env) fun d e1 => after (ev G b e1) fun d2 e2 => after (ev G c e2) fun d3 e3 =>
      oNx ((setS e3 i (mkSl o d)).bind fun e4 => (setS e4 j (mkSl q d2)).bind fun e5 => setS e5 k (mkSl w d3))
  | .parT t a j q b, env => after (ev G a env) fun d e1 => after (ev G b e1) fun d2 e2 => oNx ((asgT t d e2).bind fun e3 => setS e3 j (mkSl q d2))
  | .dnew i, env => oNx (setS env i (.dic []))
  | .dnw1 i k v, env => dnw1S (ev G k) (ev G v) i env
  | .dupd i k v t it own, env => dupdS (ev G it) (asgT t) (ev G k) (ev G v) (own.map (·.2)) i env
  | .dput i k e, env => dputS (ev G e) (ev G k) i env
  | .setD i f es, env => setDS G (ev G es) f i env
  | .retD i, env => if fr then match dicOw env i with
      | some kvs => .rt (.dict (encD kvs)) env
      | none => .bot
    else .bot
  | .knew i, env => oNx (setS env i (.dik []))
  | .kupd i e, env => kupdS (ev G e) i env
  | .parD i k v j q b, env => parDS (ev G k) (ev G v) (ev G b) i j q env
  | .augl i e, env => auglS (ev G e) i env
  | .daug i k sub e, env => daugS (ev G k) (ev G e) sub i env
  | .dcm i k v t it own, env => dcmS (ev G it) (asgT t) (ev G k) (ev G v) (own.map (·.2)) i env
  | .dup2 i k v k2 v2, env => dup2S (ev G k) (ev G v) (ev G k2) (ev G v2) i env
  | .parN i j q b, env => parNS (ev G b) i j q env
  | .aug i sub e, env => match env[i]? with
    | some (.pd x) => after (ev G e env) fun d e1 => match augD sub x d with
      | some z => oNx (setS e1 i (.pd z))
      | none => .bot
    | _ => .bot
  | .expr e, env => after (ev G e env) fun _ e1 => .nx e1
  | .app i e, env => if (heldAt env i).isSome then after (ev G e env) fun d e1 => match heldAt e1 i with
      | some l => if l.length < sizeLine then .nx (setHeld e1 i (l ++ [d])) else .bot
      | none => .bot
    else .bot
  | .seti i ix e, env => after (ev G e env) fun d e1 => if (heldAt e1 i).isSome then after (ev G ix e1) fun k e2 => match heldAt e2 i with
      | some l => match setD l k d with
        | some l2 => .nx (setHeld e2 i l2)
        | none => .bot
      | none => .bot
    else .bot
  | .if_ c a b, env => after (ev G c env) fun d e1 => match tru d with
    | some true => evS G fr a e1
    | some false => evS G fr b e1
    | none => .bot
  | .while_ n c b, env => whGo (ev G c) (evS G fr b) n env
  | .for_ t it b, env => after (ev G it env) fun d e1 => match itemsOf d with
    | some l => forGo (asgT t) (evS G fr b) l e1
    | none => .bot
  | .ret e, env => after (ev G e env) fun d e1 => if fr && !isFresh G e && isListD d then .bot else .rt d e1
  | .retO i, env => if fr then match env[i]? with
      | some (.own l) => .rt (.list l) env
      | _ => .bot
    else .bot
  | .retN, env => .rt .none env
  | .brk, env => .bk env
  | .cont, env => .ct env
  | .never, _ => .bot

/-! ### what is wanted behind a statement -/
def RtOk (fr : Bool) (p : Pm) (F H : Hp) (v : V) (d : D) : Prop :=
  match fr with
  | false => Rp p.K F v d
  | true => match d with
    | .list l => ∃ a xs, v = .ref a ∧ H a = some (.lst xs) ∧ F a = none ∧ p.H0 a = none ∧ RpAll p.K F xs l
    | .dict l => ∃ a kvs, v = .ref a ∧ decD l = some kvs ∧ F a = none ∧ p.H0 a = none ∧ DicIs p F a (H a) kvs
    | _ => Rp p.K F v d
def Ps (p : Pm) (cl : Str → Value) (Ex : XK) (fr : Bool) (F : Hp) (r : So) (D : Ends) : Prop :=
  match r with
  | .nx env => ∀ σ' F' H', Rel p env σ' F' H' → Same F F' → D.nx σ' H'
  | .rt d env => ∀ v σ' F' H', Rel p env σ' F' H' → Same F F' → RtOk fr p F' H' v d → D.rt v H'
  | .bk env => ∀ σ' F' H', Rel p env σ' F' H' → Same F F' → D.bk σ' H'
  | .ct env => ∀ σ' F' H', Rel p env σ' F' H' → Same F F' → D.ct σ' H'
  | .exc c => ∀ F' H', HRel p F' H' → Ex (cl c) none H'
  | .bot => False
def TSo (p : Pm) (cl : Str → Value) (Ex : XK) (G : Genv) (fr : Bool) (m : S) : TS := fun D σ H => ∃ F env, Rel p env σ F H ∧ Ps p cl Ex fr F (evS G fr m env) D
section
variable {p : Pm} {cl : Str → Value} {Ex : XK} {fr : Bool} {env : En} {σ : L2.St} {F H F' : Hp} {α : Type} {G : Genv} {m : E} {D : Ends}
theorem Ps.mono {r : So} (h : Ps p cl Ex fr F r D) (s : Same F F') : Ps p cl Ex fr F' r D := by
  cases r with
  | nx env => exact fun σ' F'' H' r s' => h σ' F'' H' r (s.trans s')
  | rt d env => exact fun v σ' F'' H' r s' => h v σ' F'' H' r (s.trans s')
  | bk env => exact fun σ' F'' H' r s' => h σ' F'' H' r (s.trans s')
  | ct env => exact fun σ' F'' H' r s' => h σ' F'' H' r (s.trans s')
  | exc c => exact h
  | bot => exact h
/-- an expression, then the rest -/
theorem Ps.after {r : Rs (α × En)} {k : α → En → So} (h : Ps p cl Ex fr F (after r k) D) : Po p cl Ex env σ F H r fun a e1 F1 H1 => Ps p cl Ex fr F1 (k a e1) D := by
  cases r with
  | ok q => exact fun F1 H1 r1 s1 => Ps.mono h s1.sub
  | exc c => exact h
  | bot => exact h
theorem Ps.oNx {o : Option En} (h : Ps p cl Ex fr F (oNx o) D) : ∃ e, o = some e ∧ Ps p cl Ex fr F (.nx e) D := by
  cases o with
  | none => exact h.elim
  | some e => exact ⟨e, rfl, h⟩
/-! ### what waits to be stored -/
def Pend (p : Pm) (env : En) (σ : L2.St) (Hs F H : Hp) (s : Sl) (v : V) : Prop :=
  match s with
  | .pd d => Rp p.K F v d
  | .own l => Fresh p env σ Hs F H v l
  | .dic kvs => ∃ a, v = .ref a ∧ F a = none ∧ p.H0 a = none ∧ Hs a = none ∧ ¬ Own env σ a ∧ DicS p F a (H a) (.dic kvs)
  | .dik kvs => ∃ a, v = .ref a ∧ F a = none ∧ p.H0 a = none ∧ Hs a = none ∧ ¬ Own env σ a ∧ DicS p F a (H a) (.dik kvs)
  | _ => False
theorem TB.pend (o : Bool) (ho : o = true → isFresh G m = true) {Q : VK} (r : Rel p env σ F H) (h : Po p cl Ex env σ F H (ev G m env) fun d env' F' H' => ∀ v, Pend p env' σ H F' H' (mkSl o d) v → Q v H') : TB p cl Ex G m σ H Q := by
  refine ⟨F, env, r, ?_⟩
  cases o with
  | false => exact h.frozen (k := fun _ _ _ _ => True)
  | true =>
    refine h.imp fun d env' F' H' r' s' q v hv => q v ?_
    rw [ho rfl] at hv
    unfold ResOk at hv
    cases d <;> exact hv
theorem setS_some {env e : En} {i : Nat} {s : Sl} (h : setS env i s = some e) : e = env.set i s ∧ i < env.length ∧ ∀ l, env[i]? ≠ some (.bor l) := by
  unfold setS at h
  split at h
  · cases h
  · cases h
  · rename_i s' hs hs2
    cases h
    exact ⟨rfl, get_lt hs2, fun l z => by rw [hs2] at z; cases z; exact hs l rfl⟩
theorem Rel.setSl (r : Rel p env σ F H) {i : Nat} {s : Sl} {v : V} {Hs : Hp} (hp : Pend p env σ Hs F H s v) (hi : i < env.length) (hb : ∀ l, env[i]? ≠ some (.bor l)) :
    Rel p (env.set i s) (σ.set i (some v)) F H ∧ ∀ b, Own (env.set i s) (σ.set i (some v)) b → Own env σ b ∨ (s.owns = true ∧ v = .ref b) := by
  cases s with
  | no => exact hp.elim
  | bor l => exact hp.elim
  | dif l => exact hp.elim
  | pd d =>
    obtain ⟨r2, o2⟩ := r.setPd hp hi hb
    exact ⟨r2, fun b z => .inl (o2 b z)⟩
  | own l =>
    obtain ⟨a, xs, rfl, e1, e2, e3, e4, e5, e6⟩ := hp
    have hσ : i < σ.length := by rw [← r.len]; exact hi
    have own : ∀ j b, OwnAt (env.set i (.own l)) (σ.set i (some (.ref a))) j b → (j ≠ i ∧ OwnAt env σ j b) ∨ (j = i ∧ b = a) := fun j b ⟨o1, o2⟩ => by
      by_cases e : i = j
      · subst e
        rw [List.getElem?_set_self hσ] at o2
        cases o2
        exact .inr ⟨rfl, rfl⟩
      · rw [ownsAt_set hi, if_neg e] at o1
        rw [List.getElem?_set_ne e] at o2
        exact .inl ⟨fun z => e z.symm, o1, o2⟩
    refine ⟨⟨r.hr, fun j d e => ?_, fun j m e => ?_, fun j k b x y => ?_, fun j m b e q => ?_, fun j m e => ?_, fun j b e => ?_, by rw [List.length_set, List.length_set]; exact r.len, fun j t e hd => ?_, fun j kvs e => ?_⟩, fun b ⟨j, o⟩ => ?_⟩
    · by_cases ej : i = j
      · subst ej; rw [List.getElem?_set_self hi] at e; cases e
      · rw [List.getElem?_set_ne ej] at e ⊢; exact r.pdo j d e
    · rw [heldAt_set hi] at e
      by_cases ej : i = j
      · subst ej
        rw [if_pos rfl] at e
        cases e
        exact ⟨a, xs, List.getElem?_set_self hσ, e1, e2, e6⟩
      · rw [if_neg ej] at e
        rw [List.getElem?_set_ne ej]; exact r.owo j m e
    · rcases own j b x with ⟨h1, h2⟩ | ⟨h1, h2⟩ <;> rcases own k b y with ⟨h3, h4⟩ | ⟨h3, h4⟩
      · exact r.inj j k b h2 h4
      · rw [h4] at h2; exact absurd ⟨j, h2⟩ e5
      · rw [h2] at h4; exact absurd ⟨k, h4⟩ e5
      · rw [h1, h3]
    · by_cases ej : i = j
      · subst ej
        rw [List.getElem?_set_self hσ] at q
        cases q
        exact e3
      · rw [List.getElem?_set_ne ej] at e q; exact r.new j m b e q
    · by_cases ej : i = j
      · subst ej; rw [List.getElem?_set_self hi] at e; cases e
      · rw [List.getElem?_set_ne ej] at e ⊢; exact r.bor j m e
    · obtain ⟨m, q⟩ := r.mub j b e
      have ej : i ≠ j := fun z => by subst z; exact hb m q
      exact ⟨m, by rw [List.getElem?_set_ne ej]; exact q⟩
    · by_cases ej : i = j
      · subst ej; rw [List.getElem?_set_self hi] at e; cases e; cases hd
      · rw [List.getElem?_set_ne ej] at e ⊢; exact r.dio j t e hd
    · have ej : i ≠ j := fun z => by subst z; rw [List.getElem?_set_self hi] at e; cases e
      rw [List.getElem?_set_ne ej] at e ⊢; exact r.dfo j kvs e
    · rcases own j b o with ⟨h1, h2⟩ | ⟨h1, h2⟩
      · exact .inl ⟨j, h2⟩
      · rw [h2]; exact .inr ⟨rfl, rfl⟩
  | dic kvs0 =>
    obtain ⟨a, rfl, e1, e2, e3, e4, e5⟩ := hp
    have hσ : i < σ.length := by rw [← r.len]; exact hi
    have own : ∀ j b, OwnAt (env.set i (.dic kvs0)) (σ.set i (some (.ref a))) j b → (j ≠ i ∧ OwnAt env σ j b) ∨ (j = i ∧ b = a) := fun j b ⟨o1, o2⟩ => by
      by_cases e : i = j
      · subst e
        rw [List.getElem?_set_self hσ] at o2
        cases o2
        exact .inr ⟨rfl, rfl⟩
      · rw [ownsAt_set hi, if_neg e] at o1
        rw [List.getElem?_set_ne e] at o2
        exact .inl ⟨fun z => e z.symm, o1, o2⟩
    refine ⟨⟨r.hr, fun j d e => ?_, fun j m e => ?_, fun j k b x y => ?_, fun j m b e q => ?_, fun j m e => ?_, fun j b e => ?_, by rw [List.length_set, List.length_set]; exact r.len, fun j t e hd => ?_, fun j kvs e => ?_⟩, fun b ⟨j, o⟩ => ?_⟩
    · by_cases ej : i = j
      · subst ej; rw [List.getElem?_set_self hi] at e; cases e
      · rw [List.getElem?_set_ne ej] at e ⊢; exact r.pdo j d e
    · rw [heldAt_set hi] at e
      by_cases ej : i = j
      · rw [if_pos ej] at e; cases e
      · rw [if_neg ej] at e
        rw [List.getElem?_set_ne ej]; exact r.owo j m e
    · rcases own j b x with ⟨h1, h2⟩ | ⟨h1, h2⟩ <;> rcases own k b y with ⟨h3, h4⟩ | ⟨h3, h4⟩
      · exact r.inj j k b h2 h4
      · rw [h4] at h2; exact absurd ⟨j, h2⟩ e4
      · rw [h2] at h4; exact absurd ⟨k, h4⟩ e4
      · rw [h1, h3]
    · by_cases ej : i = j
      · subst ej; rw [List.getElem?_set_self hi] at e; cases e
      · rw [List.getElem?_set_ne ej] at e q; exact r.new j m b e q
    · by_cases ej : i = j
      · subst ej; rw [List.getElem?_set_self hi] at e; cases e
      · rw [List.getElem?_set_ne ej] at e ⊢; exact r.bor j m e
    · obtain ⟨m, q⟩ := r.mub j b e
      have ej : i ≠ j := fun z => by subst z; exact hb m q
      exact ⟨m, by rw [List.getElem?_set_ne ej]; exact q⟩
    · by_cases ej : i = j
      · subst ej; rw [List.getElem?_set_self hi] at e; cases e
        exact ⟨a, List.getElem?_set_self hσ, e1, e2, e5⟩
      · rw [List.getElem?_set_ne ej] at e ⊢; exact r.dio j t e hd
    · have ej : i ≠ j := fun z => by subst z; rw [List.getElem?_set_self hi] at e; cases e
      rw [List.getElem?_set_ne ej] at e ⊢; exact r.dfo j kvs e
    · rcases own j b o with ⟨h1, h2⟩ | ⟨h1, h2⟩
      · exact .inl ⟨j, h2⟩
      · rw [h2]; exact .inr ⟨rfl, rfl⟩
  | dik kvs0 =>
    obtain ⟨a, rfl, e1, e2, e3, e4, e5⟩ := hp
    have hσ : i < σ.length := by rw [← r.len]; exact hi
    have own : ∀ j b, OwnAt (env.set i (.dik kvs0)) (σ.set i (some (.ref a))) j b → (j ≠ i ∧ OwnAt env σ j b) ∨ (j = i ∧ b = a) := fun j b ⟨o1, o2⟩ => by
      by_cases e : i = j
      · subst e
        rw [List.getElem?_set_self hσ] at o2
        cases o2
        exact .inr ⟨rfl, rfl⟩
      · rw [ownsAt_set hi, if_neg e] at o1
        rw [List.getElem?_set_ne e] at o2
        exact .inl ⟨fun z => e z.symm, o1, o2⟩
    refine ⟨⟨r.hr, fun j d e => ?_, fun j m e => ?_, fun j k b x y => ?_, fun j m b e q => ?_, fun j m e => ?_, fun j b e => ?_, by rw [List.length_set, List.length_set]; exact r.len, fun j t e hd => ?_, fun j kvs e => ?_⟩, fun b ⟨j, o⟩ => ?_⟩
    · by_cases ej : i = j
      · subst ej; rw [List.getElem?_set_self hi] at e; cases e
      · rw [List.getElem?_set_ne ej] at e ⊢; exact r.pdo j d e
    · rw [heldAt_set hi] at e
      by_cases ej : i = j
      · rw [if_pos ej] at e; cases e
      · rw [if_neg ej] at e
        rw [List.getElem?_set_ne ej]; exact r.owo j m e
    · rcases own j b x with ⟨h1, h2⟩ | ⟨h1, h2⟩ <;> rcases own k b y with ⟨h3, h4⟩ | ⟨h3, h4⟩
      · exact r.inj j k b h2 h4
      · rw [h4] at h2; exact absurd ⟨j, h2⟩ e4
      · rw [h2] at h4; exact absurd ⟨k, h4⟩ e4
      · rw [h1, h3]
    · by_cases ej : i = j
      · subst ej; rw [List.getElem?_set_self hi] at e; cases e
      · rw [List.getElem?_set_ne ej] at e q; exact r.new j m b e q
    · by_cases ej : i = j
      · subst ej; rw [List.getElem?_set_self hi] at e; cases e
      · rw [List.getElem?_set_ne ej] at e ⊢; exact r.bor j m e
    · obtain ⟨m, q⟩ := r.mub j b e
      have ej : i ≠ j := fun z => by subst z; exact hb m q
      exact ⟨m, by rw [List.getElem?_set_ne ej]; exact q⟩
    · by_cases ej : i = j
      · subst ej; rw [List.getElem?_set_self hi] at e; cases e
        exact ⟨a, List.getElem?_set_self hσ, e1, e2, e5⟩
      · rw [List.getElem?_set_ne ej] at e ⊢; exact r.dio j t e hd
    · have ej : i ≠ j := fun z => by subst z; rw [List.getElem?_set_self hi] at e; cases e
      rw [List.getElem?_set_ne ej] at e ⊢; exact r.dfo j kvs e
    · rcases own j b o with ⟨h1, h2⟩ | ⟨h1, h2⟩
      · exact .inl ⟨j, h2⟩
      · rw [h2]; exact .inr ⟨rfl, rfl⟩
theorem Pend.step {env' : En} {H' Hs : Hp} {s : Sl} {v : V} (h : Pend p env σ Hs F H s v) (st : Step env σ F H env' F' H') : Pend p env' σ Hs F' H' s v := by
  cases s with
  | no => exact h
  | bor l => exact h
  | dif l => exact h
  | pd d =>
    have h : Rp p.K F v d := h
    exact h.mono st.sub
  | own l =>
    obtain ⟨a, xs, rfl, e1, e2, e3, e4, e5, e6⟩ := h
    exact ⟨a, xs, rfl, st.keep a _ e1 e5, by rw [st.kf a (by rw [e1]; intro z; cases z) e5]; exact e2, e3, e4, fun z => e5 (st.owl a z), e6.mono st.sub⟩
  | dic kvs =>
    obtain ⟨a, rfl, e1, e2, e3, e4, e5⟩ := h
    obtain ⟨o, e6⟩ := e5.some
    exact ⟨a, rfl, by rw [st.kf a (by rw [e6]; intro z; cases z) e4]; exact e1, e2, e3, fun z => e4 (st.owl a z), e5.keep (fun o h => st.keep a _ h e4) st.sub⟩
  | dik kvs =>
    obtain ⟨a, rfl, e1, e2, e3, e4, e5⟩ := h
    obtain ⟨o, e6⟩ := e5.some
    exact ⟨a, rfl, by rw [st.kf a (by rw [e6]; intro z; cases z) e4]; exact e1, e2, e3, fun z => e4 (st.owl a z), e5.keep (fun o h => st.keep a _ h e4) st.sub⟩
/-- .. while another one is stored -/
theorem Pend.set {Hs : Hp} {s t : Sl} {v u : V} {i : Nat} (h : Pend p env σ Hs F H s v) (ow : ∀ b, Own (env.set i t) (σ.set i (some u)) b → Own env σ b ∨ (t.owns = true ∧ u = .ref b))
    (hne : ∀ a, t.owns = true → u = .ref a → Hs a ≠ none) : Pend p (env.set i t) (σ.set i (some u)) Hs F H s v := by
  cases s with
  | no => exact h
  | bor l => exact h
  | dif l => exact h
  | pd d => exact h
  | own l =>
    obtain ⟨a, xs, rfl, e1, e2, e3, e4, e5, e6⟩ := h
    refine ⟨a, xs, rfl, e1, e2, e3, e4, fun z => ?_, e6⟩
    rcases ow a z with z | ⟨z1, z2⟩
    · exact e5 z
    · exact hne a z1 z2 e4
  | dic kvs =>
    obtain ⟨a, rfl, e1, e2, e3, e4, e5⟩ := h
    refine ⟨a, rfl, e1, e2, e3, fun z => ?_, e5⟩
    rcases ow a z with z | ⟨z1, z2⟩
    · exact e4 z
    · exact hne a z1 z2 e3
  | dik kvs =>
    obtain ⟨a, rfl, e1, e2, e3, e4, e5⟩ := h
    refine ⟨a, rfl, e1, e2, e3, fun z => ?_, e5⟩
    rcases ow a z with z | ⟨z1, z2⟩
    · exact e4 z
    · exact hne a z1 z2 e3
theorem Pend.there {Hs : Hp} {s : Sl} {v : V} (h : Pend p env σ Hs F H s v) : ∀ a, s.owns = true → v = .ref a → H a ≠ none := by
  rintro a ho rfl
  cases s with
  | no => cases ho
  | pd d => cases ho
  | bor l => exact h.elim
  | dif l => exact h.elim
  | own l =>
    obtain ⟨b, xs, e0, e1, _⟩ := h
    cases e0
    rw [e1]; intro z; cases z
  | dic kvs =>
    obtain ⟨b, e0, _, _, _, _, e5⟩ := h
    cases e0
    obtain ⟨o, e6⟩ := e5.some
    rw [e6]; intro z; cases z
  | dik kvs =>
    obtain ⟨b, e0, _, _, _, _, e5⟩ := h
    cases e0
    obtain ⟨o, e6⟩ := e5.some
    rw [e6]; intro z; cases z
/-- a dict's object is written -/
theorem Rel.writeD (r : Rel p env σ F H) {i : Nat} {s s' : Sl} {a : Addr} {ob : HO} (h : env[i]? = some s) (hs : s.isD = true) (hs' : s'.isD = true) (hσ : σ[i]? = some (some (.ref a))) (new : DicS p F a (some ob) s') :
    Rel p (env.set i s') σ F (upd H a ob) := by
  have hi := get_lt h
  obtain ⟨b, e1, e2, e3, e4⟩ := r.dio i s h hs
  rw [hσ] at e1; cases e1
  have oi : OwnAt env σ i a := ⟨owns_d h hs, hσ⟩
  have back : ∀ j b, OwnAt (env.set i s') σ j b → OwnAt env σ j b := fun j b ⟨o1, o2⟩ => by
    rw [ownsAt_set hi] at o1
    by_cases e : i = j
    · subst e; rw [hσ] at o2; cases o2; exact oi
    · rw [if_neg e] at o1; exact ⟨o1, o2⟩
  refine ⟨⟨fun b u e => ?_, fun b u e n => ?_, r.hr.oldf, fun b e => ?_⟩, fun j d e => ?_, fun j m e => ?_, fun j k b oj ok => r.inj j k b (back j b oj) (back k b ok), fun j m b e q => ?_, fun j m e => ?_, fun j b e => ?_, by rw [List.length_set]; exact r.len, fun j t e hd => ?_, fun j kvs e => ?_⟩
  · have hb : b ≠ a := fun z => by rw [z, e2] at e; cases e
    rw [upd_ne hb]; exact r.hr.sub b u e
  · have hb : b ≠ a := fun z => by rw [z, e3] at e; cases e
    rw [upd_ne hb]; exact r.hr.old b u e n
  · by_cases hb : b = a
    · subst hb; rw [upd_same]; intro z; cases z
    · rw [upd_ne hb]; exact r.hr.there b e
  · by_cases ej : i = j
    · subst ej; rw [List.getElem?_set_self hi] at e; cases e; cases hs'
    · rw [List.getElem?_set_ne ej] at e; exact r.pdo j d e
  · rw [heldAt_set hi] at e
    by_cases ej : i = j
    · rw [if_pos ej] at e; cases s' <;> first | (cases hs'; done) | (cases e; done)
    · rw [if_neg ej] at e
      obtain ⟨b, ys, q1, q2, q3, q4⟩ := r.owo j m e
      have na : b ≠ a := fun z => ej (r.inj i j a oi ⟨owns_held e, by rw [← z]; exact q1⟩)
      exact ⟨b, ys, q1, by rw [upd_ne na]; exact q2, q3, q4⟩
  · by_cases ej : i = j
    · subst ej; rw [List.getElem?_set_self hi] at e; cases e; cases hs'
    · rw [List.getElem?_set_ne ej] at e; exact r.new j m b e q
  · by_cases ej : i = j
    · subst ej; rw [List.getElem?_set_self hi] at e; cases e; cases hs'
    · rw [List.getElem?_set_ne ej] at e; exact r.bor j m e
  · obtain ⟨m, q⟩ := r.mub j b e
    have ej : i ≠ j := fun z => by subst z; rw [h] at q; cases q; cases hs
    exact ⟨m, by rw [List.getElem?_set_ne ej]; exact q⟩
  · by_cases ej : i = j
    · subst ej; rw [List.getElem?_set_self hi] at e; cases e
      exact ⟨a, hσ, e2, e3, by rw [upd_same]; exact new⟩
    · rw [List.getElem?_set_ne ej] at e
      obtain ⟨b, q1, q2, q3, q4⟩ := r.dio j t e hd
      have na : b ≠ a := fun z => ej (r.inj i j a oi ⟨owns_d e hd, by rw [← z]; exact q1⟩)
      exact ⟨b, q1, q2, q3, by rw [upd_ne na]; exact q4⟩
  · have ej : i ≠ j := fun z => by subst z; rw [List.getElem?_set_self hi] at e; cases e; cases hs'
    rw [List.getElem?_set_ne ej] at e; exact r.dfo j kvs e
end
end Rv

set_option Elab.async false
set_option linter.all false
set_option maxRecDepth 100000
set_option maxHeartbeats 4000000
/-! Rv13: every statement that okS lets pass does as evS says. -/
namespace Rv
open PySem PySem.Spec PyProof.Rows L2

inductive Sr where
  | s (x : Stmt)
  | b (xs : List Stmt)
def compOf : PySem.Expr → Option Scope
  | .ListComp _ _ s _ => some s
  | .SetComp _ _ s _ => some s
  | .DictComp _ _ _ s _ => some s
  | _ => none
def localB (sc : Scope) (x : Str) : Bool := match sc.names.lookup x with
  | some .local => true
  | _ => false
def oneGen : PySem.Expr → Bool
  | .ListComp _ [_] _ _ => true
  | _ => false
def swOk (sc : Scope) (x : Str) (px : Pos) (v : PySem.Expr) : Bool := match compOf v with
  | none => true
  | some s => if localB sc x then (px.line == v.pos.line) && !(s.names.any fun (n, k) => n == x && (k == .local || k == .cell)) && oneGen v else true
def isTuple : PySem.Expr → Bool
  | .Tuple _ _ _ => true
  | _ => false
def isNameE (sc : Scope) : PySem.Expr → Bool
  | .Name x _ => localB sc x
  | _ => false
def noSwap (sc : Scope) (ts : List PySem.Expr) (v : PySem.Expr) : Bool := match v with
  | .Tuple vs _ _ => !(ts.length == 2 || ts.length == 3) || vs.length != ts.length || !(ts.all (isNameE sc)) || vs.all (foldedForSure 8)
  | _ => true
section
variable (N : List Str) (G : Genv) (fr : Bool) (sc : Scope) (f1 f2 f3 : Ar → Bool) (g1 g2 : Sr → Bool)
def cNil : Sr → Bool
  | .b [] => true
  | _ => false
def cSeq : Sr → Bool
  | .b (st :: r) => g1 (.s st) && g2 (.b r)
  | _ => false
def cSkip : Sr → Bool
  | .s (.Pass _) => true
  | .s (.Expr (.Constant (.str _) _ _) _) => true
  | _ => false
def cSet (o fs : Bool) (i : Nat) : Sr → Bool
  | .s (.Assign [.Name x px] v _) => nmB N i x && locB sc x && (!o || fs) && swOk sc x px v && f1 (.e v)
  | _ => false
def cAsg (t : Tg) : Sr → Bool
  | .s (.Assign [.Tuple es k pt] v _) => okG N sc t (.Tuple es k pt) && noSwap sc es v && f1 (.e v)
  | _ => false
def cPar2 (i : Nat) (o fa : Bool) (j : Nat) (q fb : Bool) : Sr → Bool
  | .s (.Assign [.Tuple [.Name x px, .Name y py] _ _] (.Tuple [a, b] _ _) _) => nmB N i x && nmB N j y && localB sc x && localB sc y && (py.line == px.line) && (i != j) && (x != y) && !starred a && !starred b &&
      !(foldedForSure 8 a && foldedForSure 8 b) && !(constantsAlone 8 a && constantsAlone 8 b) && (!o || fa) && (!q || fb) && f1 (.e a) && f2 (.e b)
  | _ => false
def cPar3 (i : Nat) (o fa : Bool) (j : Nat) (q fb : Bool) (k : Nat) (w fc : Bool) : Sr → Bool
  | .s (.Assign [.Tuple [.Name x px, .Name y py, .Name z pz] _ _] (.Tuple [a, b, c] _ _) _) => nmB N i x && nmB N j y && nmB N k z && localB sc x && localB sc y && localB sc z && (py.line == px.line) && (pz.line == px.line) &&
      (i != j) && (i != k) && (j != k) && (x != y) && (x != z) && (y != z) && !starred a && !starred b && !starred c &&
      !(foldedForSure 8 a && foldedForSure 8 b && foldedForSure 8 c) && !(constantsAlone 8 a && constantsAlone 8 b && constantsAlone 8 c) && (!o || fa) && (!q || fb) && (!w || fc) && f1 (.e a) && f2 (.e b) && f3 (.e c)
  | _ => false
def cParT (t : Tg) (j : Nat) (q fb : Bool) : Sr → Bool
  | .s (.Assign [.Tuple [tg, .Name y py] kt pt] (.Tuple [a, b] k2 pt2) _) => okG N sc t tg && nmB N j y && locB sc y && noSwap sc [tg, .Name y py] (.Tuple [a, b] k2 pt2) && !starred a && !starred b && (!q || fb) && f1 (.e a) && f2 (.e b)
  | _ => false
def cDnew (i : Nat) : Sr → Bool
  | .s (.Assign [.Name x px] (.Dict [] [] _) _) => nmB N i x && locB sc x
  | _ => false
def cDput (i : Nat) : Sr → Bool
  | .s (.Assign [.Subscript (.Name x _) ix _] v _) => nmB N i x && visB sc x && f1 (.e ix) && f2 (.e v)
  | _ => false
def cDnw1 (i : Nat) : Sr → Bool
  | .s (.Assign [.Name x px] (.Dict [some ek] [ev] _) _) => nmB N i x && locB sc x && f1 (.e ek) && f2 (.e ev)
  | _ => false
def cDupd (i : Nat) (tg : Tg) (tt : Bool) (own : List (Str × Nat)) (fi : Ar → Bool) (fk fv : Scope → Ar → Bool) : Sr → Bool
  | .s (.Expr (.Call (.Attribute (.Name x _) m ap) [.DictComp ek ev [⟨t, it, [], as⟩] scope _] [] cp) _) => (m == ("update" : Str)) && nmB N i x && visB sc x && (ap.endLine == cp.line) && (as == 0) && blkC N sc scope own && tt && notSetB it && tgIn (own.map (·.2)) tg && okG N scope tg t && fi (.e it) && fk (relS scope sc) (.e ek) && fv (relS scope sc) (.e ev)
  | _ => false
def cAugl (i : Nat) (fa : Bool) : Sr → Bool
  | .s (.AugAssign (.Name x _) op v _) => (op == Operator.Add) && nmB N i x && locB sc x && fa && f1 (.e v)
  | _ => false
def cDaug (i : Nat) (sub : Bool) : Sr → Bool
  | .s (.AugAssign (.Subscript (.Name x _) (.Name y py) _) op v _) => ((if sub then Operator.Sub else Operator.Add) == op) && nmB N i x && visB sc x && f1 (.e (.Name y py)) && f2 (.e v)
  | _ => false
def cDcm (i : Nat) (tg : Tg) (tt : Bool) (own : List (Str × Nat)) (fi : Ar → Bool) (fk fv : Scope → Ar → Bool) : Sr → Bool
  | .s (.Assign [.Name x px] (.DictComp ek ev [⟨t, it, [], as⟩] scope dp) _) => nmB N i x && localB sc x && (px.line == dp.line) && !(scope.names.any fun (n, k) => n == x && (k == .local || k == .cell)) && (as == 0) && blkC N sc scope own && tt && notSetB it && tgIn (own.map (·.2)) tg && okG N scope tg t && fi (.e it) && fk (relS scope sc) (.e ek) && fv (relS scope sc) (.e ev)
  | _ => false
def cDup2 (i : Nat) (f4 : Ar → Bool) : Sr → Bool
  | .s (.Expr (.Call (.Attribute (.Name x _) m ap) [.Dict [some ek, some ek2] [ev, ev2] _] [] cp) _) => (m == ("update" : Str)) && nmB N i x && visB sc x && (ap.endLine == cp.line) && f1 (.e ek) && f2 (.e ev) && f3 (.e ek2) && f4 (.e ev2)
  | _ => false
def cParN (i j : Nat) (q fb : Bool) : Sr → Bool
  | .s (.Assign [.Tuple [.Name x px, .Name y py] _ _] (.Tuple [.Dict [] [] pd, b] _ _) _) => nmB N i x && nmB N j y && localB sc x && localB sc y && (py.line == px.line) && (i != j) && (x != y) && !starred b &&
      !(foldedForSure 8 (.Dict [] [] pd) && foldedForSure 8 b) && !(constantsAlone 8 (.Dict [] [] pd) && constantsAlone 8 b) && (!q || fb) && f1 (.e b)
  | _ => false
def cSetD (i f : Nat) : Sr → Bool
  | .s (.Assign [.Name x px] (.Call (.Name g _) (y :: ys) [] _) _) => nmB N i x && locB sc x && (G.fn f).isSome && (G.fnm f == g) && glB sc g && !dbg g && f1 (.l (y :: ys))
  | _ => false
def cKupd (i : Nat) : Sr → Bool
  | .s (.Expr (.Call (.Attribute (.Name x _) m ap) [.Call (.Name f _) [v] [] _] [] cp) _) => (m == ("update" : Str)) && (f == ("dict" : Str)) && glB sc f && nmB N i x && visB sc x && (ap.endLine == cp.line) && !starred v && f1 (.e v)
  | _ => false
def cParD (i j : Nat) (q fb : Bool) : Sr → Bool
  | .s (.Assign [.Tuple [.Name x px, .Name y py] _ _] (.Tuple [.Dict [some ek] [ev] pd, b] _ _) _) => nmB N i x && nmB N j y && localB sc x && localB sc y && (py.line == px.line) && (i != j) && (x != y) && !starred b &&
      !(foldedForSure 8 (.Dict [some ek] [ev] pd) && foldedForSure 8 b) && !(constantsAlone 8 (.Dict [some ek] [ev] pd) && constantsAlone 8 b) && (!q || fb) && f1 (.e ek) && f2 (.e ev) && f3 (.e b)
  | _ => false
def cAug (i : Nat) (sub : Bool) : Sr → Bool
  | .s (.AugAssign (.Name x _) op v _) => ((if sub then Operator.Sub else Operator.Add) == op) && nmB N i x && locB sc x && f1 (.e v)
  | _ => false
def cExpr : Sr → Bool
  | .s (.Expr v _) => (compOf v).isNone && f1 (.e v)
  | _ => false
def cApp (i : Nat) : Sr → Bool
  | .s (.Expr (.Call (.Attribute (.Name x _) m ap) [v] [] cp) _) => (m == ("append" : Str)) && nmB N i x && visB sc x && (ap.endLine == cp.line) && !starred v && f1 (.e v)
  | _ => false
def cSeti (i : Nat) : Sr → Bool
  | .s (.Assign [.Subscript (.Name x _) ix _] v _) => nmB N i x && visB sc x && plainIx ix && f1 (.e ix) && f2 (.e v)
  | _ => false
def cIf : Sr → Bool
  | .s (.If c a b _) => f1 (.e c) && g1 (.b a) && g2 (.b b)
  | _ => false
def cWhile : Sr → Bool
  | .s (.While c b [] _) => f1 (.e c) && g1 (.b b)
  | _ => false
def cFor (t : Tg) (tt : Bool) : Sr → Bool
  | .s (.For tg it b [] _) => okG N sc t tg && tt && notSetB it && f1 (.e it) && g1 (.b b)
  | _ => false
def cRet : Sr → Bool
  | .s (.Return (some v) _) => f1 (.e v)
  | _ => false
def cRetO (i : Nat) : Sr → Bool
  | .s (.Return (some (.Name x _)) _) => nmB N i x && visB sc x
  | _ => false
def cRetN : Sr → Bool
  | .s (.Return none _) => true
  | _ => false
def cBrk : Sr → Bool
  | .s (.Break _) => true
  | _ => false
def cCont : Sr → Bool
  | .s (.Continue _) => true
  | _ => false
end
def okS (G : Genv) (N : List Str) (sc : Scope) : S → Sr → Bool
  | .nil, x => cNil x
  | .seq a b, x => cSeq (okS G N sc a) (okS G N sc b) x
  | .skip, x => cSkip x
  | .set o i e, x => cSet N sc (okE G N e .pl sc) o (isFresh G e) i x
  | .asg t e, x => cAsg N sc (okE G N e .pl sc) t x
  | .par2 i o a j q b, x => cPar2 N sc (okE G N a .pl sc) (okE G N b .pl sc) i o (isFresh G a) j q (isFresh G b) x
  | .par3 i o a j q b k w c, x => cPar3 N sc (okE G N a .pl sc) (okE G N b .pl sc) (okE G N c .pl sc) i o (isFresh G a) j q (isFresh G b) k w (isFresh G c) x
  | .parT t a j q b, x => cParT N sc (okE G N a .pl sc) (okE G N b .pl sc) t j q (isFresh G b) x
  | .dnew i, x => cDnew N sc i x
  | .dput i k e, x => cDput N sc (okE G N k .pl sc) (okE G N e .pl sc) i x
  | .dnw1 i k v, x => cDnw1 N sc (okE G N k .pl sc) (okE G N v .pl sc) i x
  | .dupd i k v t it own, x => cDupd N sc i t (itTg it t) own (okE G N it .it sc) (okE G N k .pl) (okE G N v .pl) x
  | .setD i f es, x => cSetD N G sc (okE G N es .pl sc) i f x
  | .retD i, x => cRetO N sc i x
  | .knew i, x => cDnew N sc i x
  | .kupd i e, x => cKupd N sc (okE G N e .pl sc) i x
  | .parD i k v j q b, x => cParD N sc (okE G N k .pl sc) (okE G N v .pl sc) (okE G N b .pl sc) i j q (isFresh G b) x
  | .augl i e, x => cAugl N sc (okE G N e .pl sc) i (isFresh G e) x
  | .daug i k sub e, x => cDaug N sc (okE G N k .pl sc) (okE G N e .pl sc) i sub x
  | .dcm i k v t it own, x => cDcm N sc i t (itTg it t) own (okE G N it .it sc) (okE G N k .pl) (okE G N v .pl) x
  | .dup2 i k v k2 v2, x => cDup2 N sc (okE G N k .pl sc) (okE G N v .pl sc) (okE G N k2 .pl sc) i (okE G N v2 .pl sc) x
  | .parN i j q b, x => cParN N sc (okE G N b .pl sc) i j q (isFresh G b) x
  | .aug i sub e, x => cAug N sc (okE G N e .pl sc) i sub x
  | .expr e, x => cExpr (okE G N e .pl sc) x
  | .app i e, x => cApp N sc (okE G N e .pl sc) i x
  | .seti i ix e, x => cSeti N sc (okE G N ix .pl sc) (okE G N e .pl sc) i x
  | .if_ c a b, x => cIf (okE G N c .pl sc) (okS G N sc a) (okS G N sc b) x
  | .while_ _ c b, x => cWhile (okE G N c .pl sc) (okS G N sc b) x
  | .for_ t it b, x => cFor N sc (okE G N it .it sc) (okS G N sc b) t (itTg it t) x
  | .ret e, x => cRet (okE G N e .pl sc) x
  | .retO i, x => cRetO N sc i x
  | .retN, x => cRetN x
  | .brk, x => cBrk x
  | .cont, x => cCont x
  | .never, _ => true

/-! ### how stores are swapped -/
section
variable {env : Env} {l : Nat}
theorem sw_no {v : PySem.Expr} {t : Option PySem.Expr} (h : compOf v = none) : swapsWith v t l env = pure false := by
  cases v <;> first | rfl | cases h
theorem sw_far {v t : PySem.Expr} (h : ∀ x p, t ≠ .Name x p) : swapsWith v (some t) l env = pure false := by
  cases t <;> first | (cases v <;> rfl) | exact absurd rfl (h _ _)
theorem sw_tup {v : PySem.Expr} {es : List PySem.Expr} {k : Nat} {pt : Pos} : swapsWithSole [.Tuple es k pt] v l env = pure false := by cases v <;> rfl
theorem sw_sub {v a b : PySem.Expr} {pt : Pos} : swapsWithSole [.Subscript a b pt] v l env = pure false := by cases v <;> rfl
theorem sw_cell {v : PySem.Expr} {x : Str} {px : Pos} (h : env.scope.names.lookup x = some .cell) : swapsWith v (some (.Name x px)) l env = pure false := by
  have hk : (env.kindOf x == some NameKind.local) = false := by
    have : env.kindOf x = some .cell := h
    rw [this]; rfl
  cases v <;> first | rfl | (simp only [swapsWith, hk, Bool.and_false, Bool.false_and] <;> rfl)
theorem star_fun : (fun (e : PySem.Expr) => match e with | .Starred .. => true | _ => false) = starred := by
  funext e; cases e <;> rfl
end

section
variable {X : Cx} {p : Pm} {cl : Str → Value} {Ex : XK} {G : Genv} {CX : CXT} {sc : Scope} {fr : Bool}
theorem PS.weak {st : Stmt} {t t' : TS} (h : PS X st t) (hw : ∀ D σ H, t' D σ H → t D σ H) : PS X st t' := ⟨fun pins s σ H D I q => h.run pins s σ H D I (hw D σ H q)⟩
theorem PSs.weak {st : List Stmt} {t t' : TS} (h : PSs X st t) (hw : ∀ D σ H, t' D σ H → t D σ H) : PSs X st t' := ⟨fun pins s σ H D I q => h.run pins s σ H D I (hw D σ H q)⟩
/-- the parts of a comprehension -/
theorem lc_parts {elt : E} {tg : Tg} {it cond : E} {own : List (Str × Nat)} {e t i : PySem.Expr} {ifs : List PySem.Expr} {as : Int} {scope : Scope} {ps : Pos} (C : Cxt p G cl CX Ex sc X)
    (ho : okE G X.N (.lc elt tg it cond own) .pl sc (.e (.ListComp e [⟨t, i, ifs, as⟩] scope ps)) = true) : as = 0 ∧ PI X t i (TI_ p cl Ex G it) ∧ BlkOk X.N X.env.scope scope own ∧
    (∀ (s : Shared) (H : Hp) (Cc : Addr) (cll : List (Str × Addr)) (fp : List Addr), PG (X.blk s H scope (compEnvC scope cll Cc X.env) fp) t (TGo p tg)) ∧
    (∀ (s : Shared) (H : Hp) (Cc : Addr) (cll : List (Str × Addr)) (fp : List Addr), PTs (X.blk s H scope (compEnvC scope cll Cc X.env) fp) ifs (tC p cl (fun _ _ _ => False) G cond)) ∧
    (∀ (s : Shared) (H : Hp) (Cc : Addr) (cll : List (Str × Addr)) (fp : List Addr), PE (X.blk s H scope (compEnvC scope cll Cc X.env) fp) e (TR p cl (fun _ _ _ => False) G elt)) ∧
    (∀ x, foldedSetIterable i X.env x = pure x) ∧ tgIn (own.map (·.2)) tg = true := by
  have ho : ((as == 0) && blkC X.N sc scope own && itTg it tg && notSetB i && tgIn (own.map (·.2)) tg && okG X.N scope tg t && okE G X.N it .it sc (.e i) && ifsB (isNil cond) (okE G X.N cond .pl (relS scope sc)) ifs && okE G X.N elt .pl (relS scope sc) (.e e)) = true := ho
  simp only [Bool.and_eq_true, beq_iff_eq] at ho
  obtain ⟨⟨⟨⟨⟨⟨⟨⟨h1, h2⟩, h3⟩, h4⟩, h5⟩, h6⟩, h7⟩, h8⟩, h9⟩ := ho
  have hb := blkOk_by h2
  rw [← C.sc] at hb
  have CB : ∀ (s : Shared) (H : Hp) (Cc : Addr) (cll : List (Str × Addr)) (fp : List Addr), Cxt p G cl CX (fun _ _ _ => False) (relS scope sc) (X.blk s H scope (compEnvC scope cll Cc X.env) fp) := fun s H Cc cll fp =>
    ⟨C.k, C.calm, C.nd, by rw [← C.sc]; rfl, C.un, C.glb, C.blt, fun f fs z => ⟨(C.fns f fs z).ex⟩, fun _ _ _ _ _ _ _ z => absurd z (C.cx0 _ _ _ _ _), hb.kind, C.cx0, C.hs⟩
  refine ⟨h1, (okx it).i C rfl _ _ tg scope h7 h6 h3, hb, fun s H Cc cll fp => (g_ok (CB s H Cc cll fp).calm (CB s H Cc cll fp).nd (CB s H Cc cll fp).k (fun x hx => ?_) tg).1 _ h6, fun s H Cc cll fp => ?_, fun s H Cc cll fp => ((okx elt).a (CB s H Cc cll fp) rfl _ h9).r, set_none h4, h5⟩
  · show L2.Loc (relS scope X.env.scope) x ∧ ((scope.names.lookup x == some .cell) = true ∨ (relS scope X.env.scope).names.lookup x = some .local)
    unfold locB at hx
    split at hx
    · rename_i e1
      have := relS_lookup (sc := X.env.scope) e1 (by intro z; cases z)
      exact ⟨.inl this, .inr this⟩
    · rename_i e1
      have := relS_lookup (sc := X.env.scope) e1 (by intro z; cases z)
      exact ⟨.inr this, .inl (by rw [e1]; rfl)⟩
    · cases hx
  · cases ifs with
    | nil => exact tC_nil h8
    | cons c r =>
      cases r with
      | nil =>
        have h8 : (!isNil cond && okE G X.N cond .pl (relS scope sc) (.e c)) = true := h8
        simp only [Bool.and_eq_true, Bool.not_eq_true'] at h8
        exact tC_one h8.1 ((okx cond).t (CB s H Cc cll fp) rfl _ h8.2)
      | cons _ _ => cases h8
/-- name = e, a comprehension too -/
def tName (p : Pm) (cl : Str → Value) (Ex : XK) (G : Genv) (m : E) (i : Nat) : TS := fun D σ H => TB p cl Ex G m σ H fun v H1 => D.nx (σ.set i (some v)) H1
theorem localB_of {x : Str} (h : localB sc x = true) : sc.names.lookup x = some .local := by
  unfold localB at h
  split at h
  · assumption
  · cases h
abbrev HRaw (X : Cx) (sc : Scope) : Prop := ∀ x, locB sc x = true → L2.Loc X.env.scope x ∧ (X.fn x = true ∨ X.env.scope.names.lookup x = some .local)
theorem comp_lc {N : List Str} {m : E} {v : PySem.Expr} {s : Scope} (hc : compOf v = some s) (ho : okE G N m .pl sc (.e v) = true) (h1 : oneGen v = true) : ∃ elt tg it cond own, m = .lc elt tg it cond own := by
  unfold oneGen at h1
  split at h1
  · cases m <;> first | exact ⟨_, _, _, _, _, rfl⟩ | (cases ho; done) | skip
    unfold okE kFlat at ho
    split at ho
    · rename_i z; cases z
    · cases ho
  · cases h1
theorem p_set {m : E} {i : Nat} {x : Str} {px pos : Pos} {v : PySem.Expr} (C : Cxt p G cl CX Ex sc X) (hraw : HRaw X sc) (h1 : nmB X.N i x = true) (h2 : locB sc x = true) (hs : swOk sc x px v = true) (ho : okE G X.N m .pl sc (.e v) = true) :
    PS X (.Assign [.Name x px] v pos) (tName p cl Ex G m i) := by
  obtain ⟨n1, n2, n3⟩ := nm_at h1
  obtain ⟨l1, l2⟩ := hraw _ h2
  have ha := (okx (G := G) (N := X.N) m).a C rfl _ ho
  unfold swOk at hs
  cases hc : compOf v with
  | none =>
    exact PS.weak (ps_set C.nd n1 l1 ha (sw_no hc) l2) fun D σ H q => q
  | some s =>
    rw [hc] at hs
    dsimp only at hs
    by_cases hs1 : localB sc x = true
    case neg =>
      have hcell : X.env.scope.names.lookup x = some .cell := by
        rcases l1 with e | e
        · exfalso
          rw [C.sc] at e
          exact hs1 (by unfold localB; rw [e])
        · exact e
      exact PS.weak (ps_set C.nd n1 l1 ha (sw_cell hcell) l2) fun D σ H q => q
    rw [if_pos hs1] at hs
    simp only [Bool.and_eq_true, beq_iff_eq, Bool.not_eq_true'] at hs
    obtain ⟨⟨hs2, hs3⟩, hs4⟩ := hs
    have hl := localB_of hs1
    obtain ⟨elt, tg, it, cond, own, rfl⟩ := comp_lc hc ho hs4
    have ho' := ho
    unfold okE kLc at ho
    split at ho
    · rename_i z
      cases z
      cases hc
      obtain ⟨h0, q1, q2, q3, q4, q5, q6, q7⟩ := lc_parts C ho'
      subst h0
      rw [← C.sc] at hl
      exact PS.weak (ps_setLc C.calm C.nd n1 hl (sw_true C.kind hl (beq_iff_eq.mpr hs2) hs3) q1 q2 q3 q4 q5 q6) fun D σ H q => lc_core' q7 q
    · cases ho
/-- names stored from the right -/
theorem dups2 {x y : Str} (h : x ≠ y) : ([x, y].eraseDups.length != [x, y].length) = false := by
  have e1 : (y == x) = false := by rw [beq_eq_false_iff_ne]; exact Ne.symm h
  simp [List.eraseDups, List.eraseDupsBy, List.eraseDupsBy.loop, e1]
theorem dups3 {x y z : Str} (h : x ≠ y) (h2 : x ≠ z) (h3 : y ≠ z) : ([x, y, z].eraseDups.length != [x, y, z].length) = false := by
  have e1 : (y == x) = false := by rw [beq_eq_false_iff_ne]; exact Ne.symm h
  have e2 : (z == x) = false := by rw [beq_eq_false_iff_ne]; exact Ne.symm h2
  have e3 : (z == y) = false := by rw [beq_eq_false_iff_ne]; exact Ne.symm h3
  simp [List.eraseDups, List.eraseDupsBy, List.eraseDupsBy.loop, e1, e2, e3]
theorem any_st {vs : List PySem.Expr} (h : vs.any starred = false) (f : PySem.Expr → Bool) (hf : ∀ e, f e = starred e) : vs.any f = false := by
  rw [← h]; congr 1; funext e; exact hf e
theorem fm_names {env : Env} (f : PySem.Expr → Option Str) (l : Nat) (hf : ∀ e, f e = match e with | .Name id pos => if env.kindOf id == some .local && pos.line == l then some id else none | _ => none) :
    ∀ (xs : List (Str × Pos)), (∀ x ∈ xs, env.kindOf x.1 = some .local ∧ x.2.line = l) → (xs.map fun x => PySem.Expr.Name x.1 x.2).filterMap f = xs.map (·.1)
  | [], _ => rfl
  | x :: xs, h => by
    obtain ⟨h1, h2⟩ := h x List.mem_cons_self
    rw [List.map_cons, List.filterMap_cons, hf]
    dsimp only
    rw [h1, h2, if_pos (by simp), fm_names f l hf xs fun y hy => h y (List.mem_cons_of_mem _ hy)]
    rfl
theorem swap_gen {env : Env} {xs : List (Str × Pos)} {vs : List PySem.Expr} {pt : Pos} {kt k2 pt2} (hk : env.scope.kind = .function) (hlen : xs.length = 2 ∨ xs.length = 3) (hvl : vs.length = xs.length)
    (hx : ∀ x ∈ xs, env.kindOf x.1 = some .local ∧ x.2.line = ((xs.head?.map fun y => y.2.line).getD 0)) (hd : ((xs.map (·.1)).eraseDups.length != (xs.map (·.1)).length) = false)
    (hs : vs.any starred = false) (hf : vs.all (foldedForSure 8) = false) (hc : vs.all (constantsAlone 8) = false) :
    swappedStores [.Tuple (xs.map fun x => PySem.Expr.Name x.1 x.2) kt pt] (.Tuple vs k2 pt2) env = pure (some (xs.map (·.1))) := by
  have hb : env.blockKind = .function := by unfold Env.blockKind; rw [hk]; rfl
  simp only [swappedStores, hb]
  rw [if_neg (by rw [List.length_map, hvl]; rcases hlen with h | h <;> rw [h] <;> simp), if_neg (by rw [any_st hs _ (by intro e; cases e <;> rfl)]; exact Bool.false_ne_true)]
  have hh : ((xs.map fun x => PySem.Expr.Name x.1 x.2).head?.map (·.pos.line)).getD 0 = (xs.head?.map fun y => y.2.line).getD 0 := by
    cases xs with
    | nil => rfl
    | cons x xs => rfl
  rw [hh, fm_names (env := env) _ ((xs.head?.map fun y => y.2.line).getD 0) (by intro e; cases e <;> rfl) xs hx]
  rw [if_neg (by rw [hd, List.length_map, List.length_map]; simp), if_neg (by rw [hf]; exact Bool.false_ne_true)]
  rw [hc]
  rfl
theorem names_short {env : Env} (f : PySem.Expr → Option Str) (l : Nat) (hf : ∀ e, f e = match e with | .Name id pos => if env.kindOf id == some .local && pos.line == l then some id else none | _ => none) :
    ∀ (ts : List PySem.Expr), ts.all (isNameE env.scope) = false → (ts.filterMap f).length < ts.length
  | [], h => by cases h
  | t :: ts, h => by
    rw [List.filterMap_cons]
    have le : (ts.filterMap f).length ≤ ts.length := List.length_filterMap_le f ts
    by_cases ht : isNameE env.scope t = true
    · have h2 : ts.all (isNameE env.scope) = false := by rw [List.all_cons, ht, Bool.true_and] at h; exact h
      have ih := names_short f l hf ts h2
      split
      · rw [List.length_cons]; omega
      · rw [List.length_cons, List.length_cons]; omega
    · have e : f t = none := by
        rw [hf]
        cases t <;> first | rfl | skip
        rename_i id pos
        have hn : (env.kindOf id == some NameKind.local) = false := by
          cases e : env.scope.names.lookup id with
          | none => show (env.scope.names.lookup id == _) = _; rw [e]; rfl
          | some kd =>
            show (env.scope.names.lookup id == _) = _
            rw [e]
            cases kd <;> first | rfl | exact absurd (by show localB env.scope id = true; unfold localB; rw [e]) ht
        dsimp only
        rw [hn]; rfl
      rw [e, List.length_cons]; dsimp only; omega
theorem no_swap {env : Env} {ts : List PySem.Expr} {v : PySem.Expr} {k : Nat} {pt : Pos} (h : noSwap env.scope ts v = true) : swappedStores [.Tuple ts k pt] v env = pure none := by
  cases v <;> first | rfl | skip
  rename_i vs k2 pt2
  unfold noSwap at h
  simp only [Bool.or_eq_true, Bool.not_eq_true', bne_iff_ne] at h
  simp only [swappedStores]
  split
  · rfl
  · rename_i h1
    split
    · rfl
    · rename_i h2
      split
      · rfl
      · rename_i h3
        rcases h with ((h | h) | h) | h
        · exact absurd (by rw [h]; simp) h1
        · exact absurd (by simp [h]) h1
        · refine absurd ?_ h3
          rw [Bool.or_eq_true]
          refine .inl (bne_iff_ne.mpr (Nat.ne_of_lt (names_short (env := env) _ ((ts.head?.map (·.pos.line)).getD 0) ?_ ts h)))
          intro e; cases e <;> rfl
        · rw [if_pos h]
/-! ### statements -/
theorem PSs.cons_ok {st : Stmt} {rest : List Stmt} {a b : S} (h1 : PS X st (TSo p cl Ex G fr a)) (h2 : PSs X rest (TSo p cl Ex G fr b)) : PSs X (st :: rest) (TSo p cl Ex G fr (.seq a b)) :=
  PSs.weak (pss_cons h1 h2) fun D σ H ⟨F, env, r, q⟩ => ⟨F, env, r, by
    unfold evS at q
    cases e : evS G fr a env with
    | nx e1 =>
      rw [e] at q
      exact fun σ' F' H' r' s' => ⟨F', e1, r', Ps.mono q s'⟩
    | rt d e1 => rw [e] at q; exact q
    | bk e1 => rw [e] at q; exact q
    | ct e1 => rw [e] at q; exact q
    | exc c => rw [e] at q; exact q
    | bot => rw [e] at q; exact q⟩
structure Oks (G : Genv) (N : List Str) (fr : Bool) (m : S) : Prop where
  s : ∀ {X : Cx} {p : Pm} {cl : Str → Value} {CX : CXT} {Ex : XK} {sc : Scope}, Cxt p G cl CX Ex sc X → X.N = N → HRaw X sc → PassesOwn (model X.prog X.w) X.A X.env X.xe → ∀ st, okS G N sc m (.s st) = true → PS X st (TSo p cl Ex G fr m)
  b : ∀ {X : Cx} {p : Pm} {cl : Str → Value} {CX : CXT} {Ex : XK} {sc : Scope}, Cxt p G cl CX Ex sc X → X.N = N → HRaw X sc → PassesOwn (model X.prog X.w) X.A X.env X.xe → ∀ sts, okS G N sc m (.b sts) = true → PSs X sts (TSo p cl Ex G fr m)
variable {N : List Str}
theorem Oks.mk1 {m : S} (hb : ∀ sc sts, okS G N sc m (.b sts) = false)
    (h : ∀ {X : Cx} {p : Pm} {cl : Str → Value} {CX : CXT} {Ex : XK} {sc : Scope}, Cxt p G cl CX Ex sc X → X.N = N → HRaw X sc → PassesOwn (model X.prog X.w) X.A X.env X.xe → ∀ st, okS G N sc m (.s st) = true → PS X st (TSo p cl Ex G fr m)) : Oks G N fr m :=
  ⟨h, fun _ _ _ _ sts z => by rw [hb] at z; cases z⟩
theorem Rel.lt {env : En} {σ : L2.St} {F H : Hp} (r : Rel p env σ F H) {i : Nat} (h : i < env.length) : i < σ.length := by rw [← r.len]; exact h
/-- d[k] = v -/
def tDput (X : Cx) (i : Nat) (ty tv : TE) : TS := fun D σ H => tv σ H fun v H1 => ∃ a, σ[i]? = some (some (V.ref a)) ∧ ty σ H1 fun y H2 => ∃ b ks ys, DicK X H2 a ys ∧ ys.length ≤ sizeLine ∧ y = .ref b ∧ SqT X.K H2 b (ks.map kV) ∧
  ∀ es ep u, RelV v u → es.toList = (storedH ys ks b u).map (entryOfKey (tk X)) → ((storedH ys ks b u).map (·.1)).Nodup → D.nx σ (upd H2 a (dicO a es ep))
theorem ps_dput1 {i : Nat} {x : Str} {px pos pos' : Pos} {ik value : PySem.Expr} {ty tv : TE} (hu : X.A.units + 1 < cLine) (hx : PE X (.Name x px) (tVar i)) (hi : PE X ik ty) (hv : PE X value tv) (hs : swapsWith value (some (.Subscript (.Name x px) ik pos')) pos.line X.env = pure false) :
    PS X (.Assign [.Subscript (.Name x px) ik pos'] value pos) (tDput X i ty tv) := by
  refine ⟨fun pins s σ H D I h => ?_⟩
  refine wpAny_Assign_Subscript (thn (hv.run pins s σ H _ I h) fun r s1 ⟨v, H1, I1, rv, a, e1, q1⟩ => thn (hx.run pins s1 σ H1 (fun v H2 => v = .ref a ∧ H2 = H1) I1 ⟨_, e1, rfl, rfl⟩) fun u s2 ⟨x, H2, I2, rx, e3, e4⟩ => ?_) hs
  subst e3; subst e4
  obtain rfl : u = Value.ref a := rx
  refine thn (hi.run pins s2 σ _ _ I2 q1) fun iv s3 ⟨y, H3, I3, ry, b, ks, ys, dk, hl, ey, hky, q2⟩ => ?_
  subst ey
  obtain rfl : iv = Value.ref b := ry
  exact dic_set hu I3 dk hky hl fun es ep s4 g1 g2 I4 => ⟨σ, _, I4, q2 es ep r rv g1 g2⟩
theorem dupd_core {kE vE it : E} {tg : Tg} {vs : List Nat} {Dn : Ends} {i : Nat} {F H : Hp} {env : En} {σ : L2.St} (C : Cxt p G cl CX Ex sc X) (htg : tgIn vs tg = true) (r : Rel p env σ F H) (q : Ps p cl Ex fr F (dupdS (ev G it) (asgT tg) (ev G kE) (ev G vE) vs i env) Dn) :
    tDupd X i (tDcD X (TI_ p cl Ex G it) (TGo p tg) tYes (TR p cl (fun _ _ _ => False) G kE) (TR p cl (fun _ _ _ => False) G vE) vs) σ H (fun _ H' => Dn.nx σ H') := by
  unfold dupdS at q
  split at q
  case isFalse => exact q.elim
  rename_i hi
  obtain ⟨kvs0, hk0⟩ := Option.isSome_iff_exists.mp hi
  obtain ⟨a, ys0, _, g1, _, g2, _⟩ := dic_own C r hk0
  refine ⟨a, g1, ⟨ys0, g2⟩, F, env, r, (Ps.after q).imp fun d env1 F1 H1 r1 s1 q1 => ?_⟩
  cases hds : itemsOf d with
  | none => rw [hds] at q1; exact q1.elim
  | some ds =>
  refine ⟨ds, rfl, fun J wk D hD => ?_⟩
  rw [hds] at q1
  dsimp only at q1
  split at q1
  case isFalse => exact q1.elim
  rename_i hif
  simp only [Bool.and_eq_true, decide_eq_true_eq] at hif
  obtain ⟨hnh, hlen⟩ := hif
  have hmu := r1.nomu hnh
  cases hcg : dgo (asgT tg) (ev G kE) (ev G vE) vs ds (wipeE env1 vs) [] with
  | bot => rw [hcg] at q1; exact q1.elim
  | exc c => exact absurd hcg (dgo_noexc _ _ _ _)
  | ok out =>
  obtain ⟨accF, envF⟩ := out
  rw [hcg] at q1
  obtain ⟨es0, ep0, ga, _⟩ := g2
  have aH1 : H1 a ≠ none := s1.there a (by rw [ga]; intro z; cases z)
  have haD : a ≠ D := fun z => aH1 (by rw [z]; exact hD)
  obtain ⟨Gd, Y, wk, hGd, hY⟩ := wk
  have dF : F1 D = none := none_of_same r1.hr.sub hD
  have d0 : p.H0 D = none := Decidable.byContradiction fun z => r1.hr.there D z hD
  have dOwn : ¬ Own env1 σ D := r1.not_own hD
  obtain ⟨rw1, ow1⟩ := r1.wiped (σ := σ) hmu rfl
  refine dcD_it wk (fun i H => ∃ F env acc, Rel p env (wipe σ vs) F H ∧ Stp (Own env1 σ) F1 H1 (Own env (wipe σ vs)) F H ∧ DicIs p F D (H D) acc ∧ F D = none ∧ acc.length ≤ i ∧
      dgo (asgT tg) (ev G kE) (ev G vE) vs (ds.drop i) env acc = .ok (accF, envF)) ?_ ?_ ?_ ?_
  · exact ⟨F1, wipeE env1 vs, [], rw1.poke d0 dF (fun z => dOwn (ow1 _ z)), (Stp.refl.less ow1).poke hD, ⟨#[], 0, [], upd_same, rfl, List.nodup_nil, .nil⟩, dF, Nat.le_refl _, hcg⟩
  · intro i H _ ⟨F, env, acc, r, s, _⟩
    exact hGd H (s.sub.trans r.hr.sub)
  · intro i x H H' hi ⟨F, env, acc, r, s, e1, e2, e4, e5⟩ hy
    obtain ⟨F2, dx, r2, s2, g1, g2, g3, g4⟩ := YR.rel r s.sub (hY i H x H' hi hy)
    have hdrop : ds.drop i = dx :: ds.drop (i + 1) := by
      have hlt := (List.getElem?_eq_some_iff.mp g1)
      obtain ⟨h1, h2⟩ := hlt
      rw [List.drop_eq_getElem_cons h1, h2]
    rw [hdrop] at e5
    obtain ⟨en1, kd, en2, vd, en3, ks, a1, a2, a3, a4, a5⟩ := dgo_cons e5
    refine ⟨F2, env, dx, en1, r2, g2, a1, fun σ2 r3 o3 f3 => ?_⟩
    have hw : wipe σ2 vs = wipe (wipe σ vs) vs := wipe_eq (by rw [← r3.len, ← r2.len]; exact asgT_len a1) (f3 vs htg)
    rw [wipe_wipe] at hw
    refine ⟨hw, ?_⟩
    dsimp only [tYes]
    rw [if_pos rfl]
    refine ⟨F2, en1, r3, ?_⟩
    rw [a2]
    intro F3 H3 r4 s4 y hy2
    refine ⟨F3, en2, r4, ?_⟩
    rw [a3]
    intro F4 H4 r5 s5 z hz
    obtain ⟨b, rfl, hb⟩ := rp_key a4 hy2
    have o1 : ∀ b, Own en1 σ2 b → Own env1 σ b := fun b z => s.owl b (o3 b z)
    have S2 : Stp (Own env1 σ) F1 H1 (Own en1 σ2) F2 H' := (s.trans s2).less o3
    have S3 : Stp (Own env1 σ) F1 H1 (Own en2 σ2) F3 H3 := S2.trans s4.stp
    have S4 : Stp (Own env1 σ) F1 H1 (Own en3 σ2) F4 H4 := S3.trans s5.stp
    obtain ⟨es, ep, ys, w1, w2, w3, w4⟩ := e1
    have D2 : H' D = some (dicO D es ep) := g3 D _ w1
    have D3 : H3 D = some (dicO D es ep) := s4.keep D _ D2 fun z => dOwn (o1 _ z)
    have D4 : H4 D = some (dicO D es ep) := s5.keep D _ D3 fun z => dOwn (S3.owl _ z)
    have F2D : F2 D = none := by rw [g4 D (by rw [w1]; intro z; cases z)]; exact e2
    have F3D : F3 D = none := by rw [s4.kf D (by rw [D2]; intro z; cases z) fun z => dOwn (o1 _ z)]; exact F2D
    have F4D : F4 D = none := by rw [s5.kf D (by rw [D3]; intro z; cases z) fun z => dOwn (S3.owl _ z)]; exact F3D
    have w4' : Paired (KyR p.K F4) acc ys := Paired.mapP w4 fun x y ⟨q1, q2, v, q3, q4⟩ => ⟨q1, sqt_same ((s2.sub.trans s4.sub).trans s5.sub) q2, v, q3, q4.mono ((s2.sub.trans s4.sub).trans s5.sub)⟩
    have e1' : DicIs p F4 D (H4 D) acc := ⟨es, ep, ys, D4, w2, w3, w4'⟩
    have hbF : SqT p.K F4 b (ks.map kV) := sqt_same s5.sub hb
    refine ⟨ys, ks, b, rfl, ⟨es, ep, D4, by rw [w2, C.hs]; rfl, w3, fun y hy => ?_⟩, by rw [C.k]; exact sqt_same r5.hr.sub hbF, by rw [← Paired.length w4]; omega, fun es' ep' u hu v1 v2 => ?_⟩
    · obtain ⟨x, _, qq, _⟩ := mem_paired w4' hy
      rw [C.k]; exact sqt_same r5.hr.sub qq
    · obtain ⟨r6, o6⟩ := r5.wiped hmu hw
      exact ⟨F4, wipeE en3 vs, putD acc ks vd, r6.poke d0 F4D (fun z => dOwn (S4.owl _ (o6 _ z))), (S4.less o6).poke hD, ⟨es', ep', _, upd_same, by rw [v1, C.hs]; rfl, v2, KyR.put w4' ks hbF hu hz⟩, F4D, Nat.le_trans (putD_len _ _ _) (Nat.succ_le_succ e4), a5⟩
  · intro H ⟨F, env, acc, r, s, e1, e2, e4, e5⟩
    rw [List.drop_length] at e5
    unfold dgo at e5
    cases e5
    obtain ⟨r7, o7⟩ := r.rested r1 s.sub hnh
    replace q1 : Ps p cl Ex fr F1 (match dicOw (restE envF env1 vs) i with
      | some kvs => if (!kvs.isEmpty && decide (kvs.length + accF.length ≤ sizeLine)) = true then So.nx ((restE envF env1 vs).set i (.dic (mergD kvs accF))) else So.bot
      | none => So.bot) Dn := q1
    split at q1
    case h_2 => exact q1.elim
    rename_i kvs hkv
    split at q1
    case isFalse => exact q1.elim
    rename_i hc2
    simp only [Bool.and_eq_true, decide_eq_true_eq, Bool.not_eq_true', List.isEmpty_eq_false_iff] at hc2
    obtain ⟨a', ys, he, g1', f1', g3, g4⟩ := dic_own C r7 hkv
    rw [g1] at g1'; cases g1'
    obtain ⟨zs, dk, pz⟩ := dicIs_k C r7.hr.sub e1
    have ly := Paired.length g4
    have lz := Paired.length pz
    refine ⟨D, ys, zs, rfl, haD, g3, dk, fun z => hc2.1 (by rw [z] at ly; exact List.length_eq_zero_iff.mp ly), by rw [← ly, ← lz]; exact hc2.2, fun es ep v1 v2 => ?_⟩
    exact q1 σ F _ (r7.writeD he rfl rfl g1 ⟨es, ep, _, rfl, by rw [v1, C.hs]; rfl, v2, KyR.merge pz g4⟩) s.sub
theorem set_id {α : Type} {l : List α} {i : Nat} {a : α} (h : l[i]? = some a) : l.set i a = l := by
  obtain ⟨h1, rfl⟩ := List.getElem?_eq_some_iff.mp h
  exact List.set_getElem_self h1
theorem augl_core {e : E} {i : Nat} {D : Ends} {F H : Hp} {env : En} {σ : L2.St} (hfr : isFresh G e = true) (r : Rel p env σ F H) (q : Ps p cl Ex fr F (auglS (ev G e) i env) D) :
    tAug i (TB p cl Ex G e) rExt2 D σ H := by
  unfold auglS at q
  split at q
  case isFalse => exact q.elim
  rename_i hh
  obtain ⟨l0, hl0⟩ := Option.isSome_iff_exists.mp hh
  obtain ⟨a, xs0, e1, _, _, _⟩ := r.owo i l0 hl0
  refine ⟨.ref a, e1, F, env, r, (Ps.after q).imp fun d env1 F1 H1 r1 s1 q1 y hy => ?_⟩
  split at q1
  case h_2 => exact q1.elim
  rename_i m l hl
  split at q1
  case isFalse => exact q1.elim
  rename_i hz
  rw [hfr] at hy
  obtain ⟨b, ys, rfl, b1, b2, b3, b4, b5, b6⟩ := hy
  obtain ⟨a1, xs, g1, g2, g3, g4⟩ := r1.owo i l hl
  rw [e1] at g1; cases g1
  obtain ⟨s, es, hs⟩ := setHeld_cases hl (l ++ m)
  obtain ⟨r2, s2⟩ := r1.write hl hs e1 (g4.append b6)
  rw [← es] at r2
  refine ⟨a, b, xs, ys, rfl, rfl, g2, b1, by rw [g4.length, b6.length]; exact hz, ?_⟩
  show D.nx (σ.set i (some (V.ref a))) _
  rw [set_id e1]
  exact q1 σ F1 _ r2 (Same.refl _)
theorem daug_core {k e : E} {sub : Bool} {i : Nat} {D : Ends} {F H : Hp} {env : En} {σ : L2.St} (C : Cxt p G cl CX Ex sc X) (r : Rel p env σ F H) (q : Ps p cl Ex fr F (daugS (ev G k) (ev G e) sub i env) D) {tip : TIp}
    (ht : ∀ (x y : Int) (H : Hp) (Q : VK), Q (.int (if sub then x - y else x + y)) H → tip (.int x) (.int y) H Q) :
    tAugS (tVar i) (TR p cl Ex G k) (TR p cl Ex G e) (gDic X) tip (sDic X) D σ H := by
  unfold daugS at q
  split at q
  case isFalse => exact q.elim
  rename_i hi
  obtain ⟨kvs0, hk0⟩ := Option.isSome_iff_exists.mp hi
  obtain ⟨a, ys0, _, g1, _, _, _⟩ := dic_own C r hk0
  refine ⟨.ref a, g1, F, env, r, (Ps.after q).imp fun kd env1 F1 H1 r1 s1 q1 y hy => ?_⟩
  split at q1
  case h_2 => exact q1.elim
  rename_i ks kvs e1 e2
  obtain ⟨b, rfl, hb⟩ := rp_key e1 hy
  obtain ⟨a', ys, he, g1', _, g2, g3⟩ := dic_own C r1 e2
  rw [g1] at g1'; cases g1'
  split at q1
  case h_2 => exact q1.elim
  rename_i x hx
  rcases KyR.val g3 ks with ⟨l1, l2⟩ | ⟨d1, b1, u1, v1, l1, l2, l3, l4⟩
  · rw [l1] at hx; cases hx
  rw [l1] at hx; cases hx
  cases l4
  refine ⟨a, b, ks, ys, _, .int x, rfl, rfl, g2, by rw [C.k]; exact sqt_same r1.hr.sub hb, l2, l3, F1, env1, r1, (Ps.after q1).imp fun d env2 F2 H2 r2 s2 q2 z hz => ?_⟩
  split at q2
  case h_2 => exact q2.elim
  rename_i yy kvs2 e3
  split at q2
  case isFalse => exact q2.elim
  rename_i hlen
  cases hz
  obtain ⟨a2, ys2, he2, g12, _, g22, g32⟩ := dic_own C r2 e3
  rw [g1] at g12; cases g12
  have hb2 := sqt_same s2.sub hb
  refine ht _ _ _ _ ⟨a, b, ks, ys2, rfl, rfl, g22, by rw [C.k]; exact sqt_same r2.hr.sub hb2, by rw [← Paired.length g32]; omega, fun es ep u hu w1 w2 => ?_⟩
  exact q2 σ F2 _ (r2.writeD he2 rfl rfl g1 ⟨es, ep, _, rfl, by rw [w1, C.hs]; rfl, w2, KyR.put g32 ks hb2 hu (.int _)⟩) (Same.refl _)
theorem dup2_core {k1 v1 k2 v2 : E} {i : Nat} {D : Ends} {F H : Hp} {env : En} {σ : L2.St} (C : Cxt p G cl CX Ex sc X) (r : Rel p env σ F H) (q : Ps p cl Ex fr F (dup2S (ev G k1) (ev G v1) (ev G k2) (ev G v2) i env) D) :
    tDupdE X i (tDisp2 X (TR p cl Ex G k1) (TR p cl Ex G v1) (TR p cl Ex G k2) (TR p cl Ex G v2)) σ H (fun _ H' => D.nx σ H') := by
  unfold dup2S at q
  split at q
  case isFalse => exact q.elim
  rename_i hi
  obtain ⟨kvs0, hk0⟩ := Option.isSome_iff_exists.mp hi
  obtain ⟨a, ys0, _, g1, _, g2, _⟩ := dic_own C r hk0
  refine ⟨a, g1, ⟨ys0, g2⟩, fun b hb => ?_⟩
  obtain ⟨es0, ep0, ga, _⟩ := g2
  have hab : a ≠ b := fun z => by rw [z, hb] at ga; cases ga
  have r0 := r.alloc (o := dicO b #[] 0) hb
  have d0 : p.H0 b = none := Decidable.byContradiction fun z => r.hr.there b z hb
  have hF := none_of_same r.hr.sub hb
  have no := r.not_own hb
  refine ⟨F, env, r0, (Ps.after q).imp fun kd env1 F1 H1 r1 s1 q1 y py => ?_⟩
  refine ⟨F1, env1, r1, (Ps.after q1).imp fun vd env2 F2 H2 r2 s2 q2 w pw => ?_⟩
  refine ⟨F2, env2, r2, (Ps.after q2).imp fun kd2 env3 F3 H3 r3 s3 q3 y2 py2 => ?_⟩
  refine ⟨F3, env3, r3, (Ps.after q3).imp fun vd2 env4 F4 H4 r4 s4 q4 w2 pw2 => ?_⟩
  split at q4
  case h_2 => exact q4.elim
  rename_i ks1 ks2 kvs e1 e2 e3
  split at q4
  case isFalse => exact q4.elim
  rename_i hc
  simp only [Bool.and_eq_true, Bool.or_eq_true, Bool.not_eq_true', decide_eq_true_eq, List.isEmpty_eq_false_iff] at hc
  obtain ⟨b1, rfl, hb1⟩ := rp_key e1 py
  obtain ⟨b2, rfl, hb2⟩ := rp_key e2 py2
  have a1 : H1 b = some (dicO b #[] 0) := s1.keep b _ upd_same no
  have no1 : ¬ Own env1 σ b := fun z => no (s1.owl b z)
  have a2 : H2 b = some (dicO b #[] 0) := s2.keep b _ a1 no1
  have no2 : ¬ Own env2 σ b := fun z => no1 (s2.owl b z)
  have a3 : H3 b = some (dicO b #[] 0) := s3.keep b _ a2 no2
  have no3 : ¬ Own env3 σ b := fun z => no2 (s3.owl b z)
  have a4 : H4 b = some (dicO b #[] 0) := s4.keep b _ a3 no3
  have no4 : ¬ Own env4 σ b := fun z => no3 (s4.owl b z)
  have f1 : F1 b = none := (s1.kf b (by rw [upd_same]; intro z; cases z) no).trans hF
  have f2 : F2 b = none := (s2.kf b (by rw [a1]; intro z; cases z) no1).trans f1
  have f3 : F3 b = none := (s3.kf b (by rw [a2]; intro z; cases z) no2).trans f2
  have f4 : F4 b = none := (s4.kf b (by rw [a3]; intro z; cases z) no3).trans f3
  have hb14 := sqt_same s4.sub (sqt_same s3.sub (sqt_same s2.sub hb1))
  have hb24 := sqt_same s4.sub hb2
  have pw4 := (pw.mono s3.sub).mono s4.sub
  refine ⟨b1, ks1, b2, ks2, a4, rfl, by rw [C.k]; exact sqt_same r4.hr.sub hb14, rfl, by rw [C.k]; exact sqt_same r4.hr.sub hb24, fun es ep u1 u2 ru1 ru2 w1 w2 => ?_⟩
  have r5 := r4.poke (o := dicO b es ep) d0 f4 no4
  have pz : Paired (KyR p.K F4) (putD [(ks1, vd)] ks2 vd2) (storedH [(ks1, b1, u1)] ks2 b2 u2) := KyR.put (.cons ⟨rfl, hb14, w, ru1, pw4⟩ .nil) ks2 hb24 ru2 pw2
  obtain ⟨a', ys, he, g1', f1', g3, g4⟩ := dic_own C r5 e3
  rw [g1] at g1'; cases g1'
  have lz := Paired.length pz
  have ly := Paired.length g4
  have hput : (putD [(ks1, vd)] ks2 vd2).length ≤ 2 := putD_len _ _ _
  refine ⟨b, ys, storedH [(ks1, b1, u1)] ks2 b2 u2, rfl, hab, g3, ⟨es, ep, upd_same, w1, w2, fun y hy => ?_⟩, ?_, by rw [← ly, ← lz]; omega, fun es2 ep2 v1 v2 => ?_⟩
  · obtain ⟨x, _, qq, _⟩ := mem_paired pz hy
    rw [C.k]; exact sqt_same r5.hr.sub qq
  · rcases hc.1 with hc1 | hc1
    · exact .inl fun z => hc1 (by rw [z] at ly; exact List.length_eq_zero_iff.mp ly)
    · refine .inr ?_
      have hm : ∀ x ∈ storedH [(ks1, b1, u1)] ks2 b2 u2, smallK x.1 = true := fun x hx => by
        obtain ⟨z, e0, _, _⟩ := mem_paired pz hx
        have hzm : ∀ (l : List (List Key × Rv.D)) (m : List (List Key × Addr × Value)), Paired (KyR p.K F4) l m → (∀ z ∈ l, smallK z.1 = true) → ∀ x ∈ m, smallK x.1 = true := fun l m hp hl => by
          induction hp with
          | nil => intro x hx; cases hx
          | cons h t ih =>
            intro x hx
            rcases List.mem_cons.mp hx with rfl | hx
            · rw [← h.1]; exact hl _ List.mem_cons_self
            · exact ih (fun z hz => hl z (List.mem_cons_of_mem _ hz)) x hx
        refine hzm _ _ pz (fun z hz => ?_) x hx
        unfold putD at hz
        split at hz
        · obtain ⟨z0, hz0, rfl⟩ := List.mem_map.mp hz
          rw [List.mem_singleton] at hz0
          subst hz0
          dsimp only
          split
          · exact hc1.1
          · exact hc1.1
        · rcases List.mem_append.mp hz with hz | hz
          · rw [List.mem_singleton] at hz; subst hz; exact hc1.1
          · rw [List.mem_singleton] at hz; subst hz; exact hc1.2
      rw [List.nodup_iff_pairwise_ne, List.pairwise_map] at w2 ⊢
      exact List.Pairwise.imp_of_mem (fun {x y} hx hy hne e => hne (smallK_hash (hm x hx) (hm y hy) e)) w2
  · exact q4 σ F4 _ (r5.writeD he rfl rfl g1 ⟨es2, ep2, _, rfl, by rw [v1, C.hs]; rfl, v2, KyR.merge pz g4⟩) (Same.refl _)
theorem dcm_core {kE vE it : E} {tg : Tg} {vs : List Nat} {Dn : Ends} {i : Nat} {F H : Hp} {env : En} {σ : L2.St} (C : Cxt p G cl CX Ex sc X) (htg : tgIn vs tg = true) (r : Rel p env σ F H) (q : Ps p cl Ex fr F (dcmS (ev G it) (asgT tg) (ev G kE) (ev G vE) vs i env) Dn) :
    tDcD X (TI_ p cl Ex G it) (TGo p tg) tYes (TR p cl (fun _ _ _ => False) G kE) (TR p cl (fun _ _ _ => False) G vE) vs σ H (fun x H' => Dn.nx (σ.set i (some x)) H') := by
  unfold dcmS at q
  refine ⟨F, env, r, (Ps.after q).imp fun d env1 F1 H1 r1 s1 q1 => ?_⟩
  cases hds : itemsOf d with
  | none => rw [hds] at q1; exact q1.elim
  | some ds =>
  refine ⟨ds, rfl, fun J wk D hD => ?_⟩
  rw [hds] at q1
  dsimp only at q1
  split at q1
  case isFalse => exact q1.elim
  rename_i hif
  simp only [Bool.and_eq_true, decide_eq_true_eq] at hif
  obtain ⟨hnh, hlen⟩ := hif
  have hmu := r1.nomu hnh
  cases hcg : dgo (asgT tg) (ev G kE) (ev G vE) vs ds (wipeE env1 vs) [] with
  | bot => rw [hcg] at q1; exact q1.elim
  | exc c => exact absurd hcg (dgo_noexc _ _ _ _)
  | ok out =>
  obtain ⟨accF, envF⟩ := out
  rw [hcg] at q1
  obtain ⟨Gd, Y, wk, hGd, hY⟩ := wk
  have dF : F1 D = none := none_of_same r1.hr.sub hD
  have d0 : p.H0 D = none := Decidable.byContradiction fun z => r1.hr.there D z hD
  have dOwn : ¬ Own env1 σ D := r1.not_own hD
  obtain ⟨rw1, ow1⟩ := r1.wiped (σ := σ) hmu rfl
  refine dcD_it wk (fun i H => ∃ F env acc, Rel p env (wipe σ vs) F H ∧ Stp (Own env1 σ) F1 H1 (Own env (wipe σ vs)) F H ∧ DicIs p F D (H D) acc ∧ F D = none ∧ acc.length ≤ i ∧
      dgo (asgT tg) (ev G kE) (ev G vE) vs (ds.drop i) env acc = .ok (accF, envF)) ?_ ?_ ?_ ?_
  · exact ⟨F1, wipeE env1 vs, [], rw1.poke d0 dF (fun z => dOwn (ow1 _ z)), (Stp.refl.less ow1).poke hD, ⟨#[], 0, [], upd_same, rfl, List.nodup_nil, .nil⟩, dF, Nat.le_refl _, hcg⟩
  · intro i H _ ⟨F, env, acc, r, s, _⟩
    exact hGd H (s.sub.trans r.hr.sub)
  · intro i x H H' hi ⟨F, env, acc, r, s, e1, e2, e4, e5⟩ hy
    obtain ⟨F2, dx, r2, s2, g1, g2, g3, g4⟩ := YR.rel r s.sub (hY i H x H' hi hy)
    have hdrop : ds.drop i = dx :: ds.drop (i + 1) := by
      have hlt := (List.getElem?_eq_some_iff.mp g1)
      obtain ⟨h1, h2⟩ := hlt
      rw [List.drop_eq_getElem_cons h1, h2]
    rw [hdrop] at e5
    obtain ⟨en1, kd, en2, vd, en3, ks, a1, a2, a3, a4, a5⟩ := dgo_cons e5
    refine ⟨F2, env, dx, en1, r2, g2, a1, fun σ2 r3 o3 f3 => ?_⟩
    have hw : wipe σ2 vs = wipe (wipe σ vs) vs := wipe_eq (by rw [← r3.len, ← r2.len]; exact asgT_len a1) (f3 vs htg)
    rw [wipe_wipe] at hw
    refine ⟨hw, ?_⟩
    dsimp only [tYes]
    rw [if_pos rfl]
    refine ⟨F2, en1, r3, ?_⟩
    rw [a2]
    intro F3 H3 r4 s4 y hy2
    refine ⟨F3, en2, r4, ?_⟩
    rw [a3]
    intro F4 H4 r5 s5 z hz
    obtain ⟨b, rfl, hb⟩ := rp_key a4 hy2
    have o1 : ∀ b, Own en1 σ2 b → Own env1 σ b := fun b z => s.owl b (o3 b z)
    have S2 : Stp (Own env1 σ) F1 H1 (Own en1 σ2) F2 H' := (s.trans s2).less o3
    have S3 : Stp (Own env1 σ) F1 H1 (Own en2 σ2) F3 H3 := S2.trans s4.stp
    have S4 : Stp (Own env1 σ) F1 H1 (Own en3 σ2) F4 H4 := S3.trans s5.stp
    obtain ⟨es, ep, ys, w1, w2, w3, w4⟩ := e1
    have D2 : H' D = some (dicO D es ep) := g3 D _ w1
    have D3 : H3 D = some (dicO D es ep) := s4.keep D _ D2 fun z => dOwn (o1 _ z)
    have D4 : H4 D = some (dicO D es ep) := s5.keep D _ D3 fun z => dOwn (S3.owl _ z)
    have F2D : F2 D = none := by rw [g4 D (by rw [w1]; intro z; cases z)]; exact e2
    have F3D : F3 D = none := by rw [s4.kf D (by rw [D2]; intro z; cases z) fun z => dOwn (o1 _ z)]; exact F2D
    have F4D : F4 D = none := by rw [s5.kf D (by rw [D3]; intro z; cases z) fun z => dOwn (S3.owl _ z)]; exact F3D
    have w4' : Paired (KyR p.K F4) acc ys := Paired.mapP w4 fun x y ⟨q1, q2, v, q3, q4⟩ => ⟨q1, sqt_same ((s2.sub.trans s4.sub).trans s5.sub) q2, v, q3, q4.mono ((s2.sub.trans s4.sub).trans s5.sub)⟩
    have hbF : SqT p.K F4 b (ks.map kV) := sqt_same s5.sub hb
    refine ⟨ys, ks, b, rfl, ⟨es, ep, D4, by rw [w2, C.hs]; rfl, w3, fun y hy => ?_⟩, by rw [C.k]; exact sqt_same r5.hr.sub hbF, by rw [← Paired.length w4]; omega, fun es' ep' u hu v1 v2 => ?_⟩
    · obtain ⟨x, _, qq, _⟩ := mem_paired w4' hy
      rw [C.k]; exact sqt_same r5.hr.sub qq
    · obtain ⟨r6, o6⟩ := r5.wiped hmu hw
      exact ⟨F4, wipeE en3 vs, putD acc ks vd, r6.poke d0 F4D (fun z => dOwn (S4.owl _ (o6 _ z))), (S4.less o6).poke hD, ⟨es', ep', _, upd_same, by rw [v1, C.hs]; rfl, v2, KyR.put w4' ks hbF hu hz⟩, F4D, Nat.le_trans (putD_len _ _ _) (Nat.succ_le_succ e4), a5⟩
  · intro H ⟨F, env, acc, r, s, e1, e2, e4, e5⟩
    rw [List.drop_length] at e5
    unfold dgo at e5
    cases e5
    obtain ⟨r7, o7⟩ := r.rested r1 s.sub hnh
    obtain ⟨e3, h6, q2⟩ := Ps.oNx q1
    obtain ⟨rfl, hi, hb⟩ := setS_some h6
    have pd : Pend p (restE envF env1 vs) σ H1 F H (.dic accF) (.ref D) := ⟨D, rfl, e2, d0, hD, fun z => dOwn (s.owl _ (o7 _ z)), e1⟩
    exact q2 _ F H (r7.setSl pd hi hb).1 s.sub
theorem setD_core {f i : Nat} {es : E} {fs : FSem} {D : Ends} {F H : Hp} {env : En} {σ : L2.St} (hf : G.fn f = some fs) (r : Rel p env σ F H) (q : Ps p cl Ex fr F (setDS G (ev G es) f i env) D) :
    TAr p cl Ex G es σ H fun vs H1 => spH p.K p.hs cl fs vs H1 (fun v H' => D.nx (σ.set i (some v)) H') Ex := by
  unfold setDS at q
  refine ⟨F, env, r, (Ps.after q).imp fun d env1 F1 H1 r1 s1 q1 => ?_⟩
  rw [hf] at q1
  split at q1
  case h_2 => exact q1.elim
  rename_i l fs' el
  cases el
  refine ⟨l, rfl, fun vs hvs => ?_⟩
  split at q1
  · exact q1.elim
  rename_i hb
  simp only [Bool.or_eq_true, Bool.not_eq_true', not_or, Bool.not_eq_true, Bool.not_eq_false, beq_iff_eq] at hb
  obtain ⟨⟨hb1, hb2⟩, hb3⟩ := hb
  refine ⟨F1, l, none, r1.hr.sub, by rw [hvs.length]; exact hb2, ?_, ?_⟩
  · unfold ArgsOk
    rw [hb1]
    exact ⟨rfl, hvs⟩
  split at q1
  · rename_i kvs m e
    rw [e]
    split at q1
    case h_2 => exact q1.elim
    rename_i kv hk
    obtain ⟨e2, h6, q2⟩ := Ps.oNx q1
    obtain ⟨rfl, hi, hb⟩ := setS_some h6
    intro v F' H' c _ res
    obtain ⟨r2, s2⟩ := r1.called c
    rw [hb3] at res
    obtain ⟨a, kv', rfl, g1, g2, g3, g4⟩ := res
    rw [hk] at g1; cases g1
    have pd : Pend p env1 σ H1 F' H' (.dic kv) (.ref a) := ⟨a, rfl, g2, Decidable.byContradiction fun z => r1.hr.there a z g3, g3, r1.not_own g3, g4⟩
    exact q2 _ F' H' (r2.setSl pd hi hb).1 s2.sub
  · rename_i c0 e
    rw [e]
    intro F' H' c
    exact q1 F' H' (c.hrel r1.hr fun b o z => (nomatch z))
  · exact q1.elim
theorem oks (m : S) : Oks G N fr m := by
  induction m with
  | nil =>
    refine ⟨fun _ _ _ _ st h => (by cases h), fun {X p cl CX Ex sc} C hN hr hp sts h => ?_⟩
    cases sts with
    | nil => exact PSs.weak pss_nil fun D σ H ⟨F, env, r, q⟩ => q σ F H r (Same.refl F)
    | cons _ _ => cases h
  | seq a b iha ihb =>
    refine ⟨fun _ _ _ _ st h => (by cases h), fun {X p cl CX Ex sc} C hN hr hp sts h => ?_⟩
    cases sts with
    | nil => cases h
    | cons st rest =>
      have h : (okS G N sc a (.s st) && okS G N sc b (.b rest)) = true := h
      simp only [Bool.and_eq_true] at h
      exact PSs.cons_ok (iha.s C hN hr hp _ h.1) (ihb.b C hN hr hp _ h.2)
  | skip =>
    refine .mk1 (fun _ _ => rfl) fun {X p cl CX Ex sc} C hN hr hp st h => ?_
    unfold okS cSkip at h
    split at h
    · rename_i z; cases z
      exact PS.weak ps_pass fun D σ H ⟨F, env, r, q⟩ => q σ F H r (Same.refl F)
    · rename_i z; cases z
      exact PS.weak ps_doc fun D σ H ⟨F, env, r, q⟩ => q σ F H r (Same.refl F)
    · cases h
  | set o i e =>
    refine .mk1 (fun _ _ => rfl) fun {X p cl CX Ex sc} C hN hr hp st h => ?_
    unfold okS cSet at h
    split at h
    · rename_i z; cases z
      rename_i x px v pos
      simp only [Bool.and_eq_true] at h
      obtain ⟨⟨⟨⟨h1, h2⟩, h3⟩, h4⟩, h5⟩ := h
      subst hN
      refine PS.weak (p_set C hr h1 h2 h4 h5) fun D σ H ⟨F, env, r, q⟩ => ?_
      unfold evS at q
      refine TB.pend o (fun z => ?_) r ((Ps.after q).imp fun d env1 F1 H1 r1 s1 q1 v pv => ?_)
      · rw [z] at h3; exact h3
      · obtain ⟨e2, h6, q2⟩ := Ps.oNx q1
        obtain ⟨rfl, hi, hb⟩ := setS_some h6
        exact q2 _ F1 H1 (r1.setSl pv hi hb).1 (Same.refl _)
    · cases h
  | asg t e =>
    refine .mk1 (fun _ _ => rfl) fun {X p cl CX Ex sc} C hN hr hp st h => ?_
    unfold okS cAsg at h
    split at h
    · rename_i z; cases z
      rename_i es k pt v pos
      simp only [Bool.and_eq_true] at h
      obtain ⟨⟨h1, h2⟩, h3⟩ := h
      subst hN
      refine PS.weak (ps_asg ((okx e).a C rfl _ h3).r ((g_ok C.calm C.nd C.k hr t).1 _ h1) sw_tup (no_swap (by rw [C.sc]; exact h2)) rfl) fun D σ H ⟨F, env, r, q⟩ => ?_
      unfold evS at q
      refine ⟨F, env, r, (Ps.after q).imp fun d env1 F1 H1 r1 s1 q1 v hv => ?_⟩
      obtain ⟨e2, h6, q2⟩ := Ps.oNx q1
      exact ⟨F1, env1, d, e2, r1, hv, h6, fun σ' r' _ _ => q2 σ' F1 H1 r' (Same.refl _)⟩
    · cases h
  | par2 i o a j o2 b =>
    refine .mk1 (fun _ _ => rfl) fun {X p cl CX Ex sc} C hN hr hp st h => ?_
    unfold okS cPar2 at h
    split at h
    · rename_i z; cases z
      rename_i x px y py kt pt ea eb k2 pt2 pos
      simp only [Bool.and_eq_true, bne_iff_ne, Bool.not_eq_true', beq_iff_eq] at h
      obtain ⟨⟨⟨⟨⟨⟨⟨⟨⟨⟨⟨⟨⟨⟨h1, h2⟩, h3⟩, h4⟩, h5⟩, h6⟩, h7⟩, h8⟩, h9⟩, h10⟩, h11⟩, h12⟩, h13⟩, h14⟩, h15⟩ := h
      subst hN
      have hlx := localB_of h3
      have hly := localB_of h4
      rw [← C.sc] at hlx hly
      have hw := swap_gen (env := X.env) (xs := [(x, px), (y, py)]) (vs := [ea, eb]) (kt := kt) (pt := pt) (k2 := k2) (pt2 := pt2) C.kind (.inl rfl) rfl
        (by intro z hz; simp only [List.mem_cons, List.mem_nil_iff, or_false] at hz; rcases hz with rfl | rfl; exact ⟨hlx, rfl⟩; exact ⟨hly, h5⟩) (dups2 h7) (by simp [h8, h9]) (by simpa using h10) (by simpa using h11)
      refine PS.weak (ps_par C.calm C.nd (nm_at h1).1 (nm_at h2).1 h6 hlx hly (pa_cons ((okx a).a C rfl _ h14) (pa_cons ((okx b).a C rfl _ h15) pa_nil (star_cons h9)) (star_cons h8)) hw rfl) fun D σ H ⟨F, env, r, q⟩ => ?_
      unfold evS at q
      refine TB.pend o (fun z => by rw [z] at h12; exact h12) r ((Ps.after q).imp fun d env1 F1 H1 r1 s1 q1 v pv => ?_)
      refine TB.pend o2 (fun z => by rw [z] at h13; exact h13) r1 ((Ps.after q1).imp fun d2 env2 F2 H2 r2 s2 q2 u pu => ?_)
      obtain ⟨e2, h16, q3⟩ := Ps.oNx q2
      cases h17 : setS env2 i (mkSl o d) with
      | none => rw [h17] at h16; cases h16
      | some e3 =>
        rw [h17] at h16
        obtain ⟨rfl, hi, hb⟩ := setS_some h17
        obtain ⟨rfl, hj, hb2⟩ := setS_some h16
        have pv2 := pv.step s2
        obtain ⟨r3, o3⟩ := r2.setSl pv2 hi hb
        have pu2 := pu.set o3 fun a z1 z2 => pv.there a z1 z2
        obtain ⟨r4, o4⟩ := r3.setSl pu2 hj hb2
        exact ⟨v, u, rfl, q3 _ F2 H2 r4 (Same.refl _)⟩
    · cases h
  | par3 i o a j oq b k w c =>
    refine .mk1 (fun _ _ => rfl) fun {X p cl CX Ex sc} C hN hr hp st h => ?_
    unfold okS cPar3 at h
    split at h
    · rename_i z; cases z
      rename_i x px y py z pz kt pt ea eb ec k2 pt2 pos
      simp only [Bool.and_eq_true, bne_iff_ne, Bool.not_eq_true', beq_iff_eq] at h
      obtain ⟨⟨⟨⟨⟨⟨⟨⟨⟨⟨⟨⟨⟨⟨⟨⟨⟨⟨⟨⟨⟨⟨⟨⟨h1, h2⟩, h3⟩, l1⟩, l2⟩, l3⟩, g1⟩, g2⟩, n1⟩, n2⟩, n3⟩, m1⟩, m2⟩, m3⟩, s1⟩, s2⟩, s3⟩, hf⟩, hc⟩, o1⟩, o2⟩, o3⟩, a1⟩, a2⟩, a3⟩ := h
      subst hN
      have hlx := localB_of l1
      have hly := localB_of l2
      have hlz := localB_of l3
      rw [← C.sc] at hlx hly hlz
      have hw := swap_gen (env := X.env) (xs := [(x, px), (y, py), (z, pz)]) (vs := [ea, eb, ec]) (kt := kt) (pt := pt) (k2 := k2) (pt2 := pt2) C.kind (.inr rfl) rfl
        (by intro z hz; simp only [List.mem_cons, List.mem_nil_iff, or_false] at hz; rcases hz with rfl | rfl | rfl; exact ⟨hlx, rfl⟩; exact ⟨hly, g1⟩; exact ⟨hlz, g2⟩) (dups3 m1 m2 m3) (by simp [s1, s2, s3]) (by simpa [Bool.and_assoc] using hf) (by simpa [Bool.and_assoc] using hc)
      refine PS.weak (ps_par3 C.calm C.nd (nm_at h1).1 (nm_at h2).1 (nm_at h3).1 n1 n2 n3 hlx hly hlz (pa_cons ((okx a).a C rfl _ a1) (pa_cons ((okx b).a C rfl _ a2) (pa_cons ((okx c).a C rfl _ a3) pa_nil (star_cons s3)) (star_cons s2)) (star_cons s1)) hw rfl) fun D σ H ⟨F, env, r, q⟩ => ?_
      unfold evS at q
      refine TB.pend o (fun z => by rw [z] at o1; exact o1) r ((Ps.after q).imp fun d env1 F1 H1 r1 s1 q1 v pv => ?_)
      refine TB.pend oq (fun z => by rw [z] at o2; exact o2) r1 ((Ps.after q1).imp fun d2 env2 F2 H2 r2 s2 q2 u pu => ?_)
      refine TB.pend w (fun z => by rw [z] at o3; exact o3) r2 ((Ps.after q2).imp fun d3 env3 F3 H3 r3 s3 q3 t pt => ?_)
      obtain ⟨e2, h16, q4⟩ := Ps.oNx q3
      cases h17 : setS env3 i (mkSl o d) with
      | none => rw [h17] at h16; cases h16
      | some e4 =>
        rw [h17] at h16
        replace h16 : ((setS e4 j (mkSl oq d2)).bind fun e5 => setS e5 k (mkSl w d3)) = some e2 := h16
        cases h18 : setS e4 j (mkSl oq d2) with
        | none => rw [h18] at h16; cases h16
        | some e5 =>
          rw [h18] at h16
          obtain ⟨rfl, hi, hb⟩ := setS_some h17
          obtain ⟨rfl, hj, hb2⟩ := setS_some h18
          obtain ⟨rfl, hk, hb3⟩ := setS_some h16
          have pv2 := (pv.step s2).step s3
          have pu2 := pu.step s3
          obtain ⟨r4, ow4⟩ := r3.setSl pv2 hi hb
          have pu3 := pu2.set ow4 fun a z1 z2 => pv.there a z1 z2
          have pt3 := pt.set ow4 fun a z1 z2 => (pv.step s2).there a z1 z2
          obtain ⟨r5, ow5⟩ := r4.setSl pu3 hj hb2
          have pt4 := pt3.set ow5 fun a z1 z2 => pu.there a z1 z2
          obtain ⟨r6, ow6⟩ := r5.setSl pt4 hk hb3
          exact ⟨v, u, t, rfl, q4 _ F3 H3 r6 (Same.refl _)⟩
    · cases h
  | parT t a j o2 b =>
    refine .mk1 (fun _ _ => rfl) fun {X p cl CX Ex sc} C hN hr hp st h => ?_
    unfold okS cParT at h
    split at h
    · rename_i z; cases z
      rename_i tg y py kt pt ea eb k2 pt2 pos
      simp only [Bool.and_eq_true, Bool.not_eq_true'] at h
      obtain ⟨⟨⟨⟨⟨⟨⟨⟨h1, h2⟩, h3⟩, h4⟩, h5⟩, h6⟩, h7⟩, h8⟩, h9⟩ := h
      subst hN
      obtain ⟨n1, n2, n3⟩ := nm_at h2
      obtain ⟨l1, l2⟩ := hr _ h3
      have ea1 : ∀ es : List PySem.Expr, assignEach (tg :: es) X.env = (false, assign tg X.env) :: assignEach es X.env := fun es => by
        have h1 := h1
        cases t <;> cases tg <;> first | rfl | (unfold okG at h1; cases h1)
      have hlen : (assignEach [tg, .Name y py] X.env).length = 2 := by rw [ea1]; rfl
      have hst : (assignEach [tg, .Name y py] X.env).findIdx? (·.1) = none := by rw [ea1]; rfl
      refine PS.weak (ps_asg (pe_tup (pa_cons ((okx a).a C rfl _ h8).r (pa_cons ((okx b).a C rfl _ h9) pa_nil (star_cons h6)) (star_cons h5))) (pg_tup (n := 2) C.calm (pgs_cons ((g_ok C.calm C.nd C.k hr t).1 _ h1) (pgs_cons (pg_name C.nd n1 l1 l2) pgs_nil rfl) (by rw [ea1]; rfl)) hlen hst) sw_tup (no_swap (by rw [C.sc]; exact h4)) rfl) fun D σ H ⟨F, env, r, q⟩ => ?_
      unfold evS at q
      refine ⟨F, env, r, (Ps.after q).imp fun d env1 F1 H1 r1 s1 q1 v pv => ?_⟩
      refine TB.pend o2 (fun z => by rw [z] at h7; exact h7) r1 ((Ps.after q1).imp fun d2 env2 F2 H2 r2 s2 q2 u pu => ?_)
      obtain ⟨e2, h16, q3⟩ := Ps.oNx q2
      refine ⟨by show 2 ≤ sizeLine; rw [PySem.sizeLine_eq]; decide, fun w hw => ?_⟩
      have r3 := r2.alloc (o := .tup [v, u]) hw
      cases h17 : asgT t d env2 with
      | none => rw [h17] at h16; cases h16
      | some e3 =>
        rw [h17] at h16
        obtain ⟨rfl, hj, hb2⟩ := setS_some h16
        refine ⟨w, [v, u], rfl, SqT.of upd_same, rfl, v, [u], rfl, F2, env2, d, e3, r3, pv.mono s2.sub, h17, fun σ3 r4 o4 _ => ?_⟩
        have pu3 := pu.step (Step.alloc (env := env2) (σ := σ) (F := F2) (o := .tup [v, u]) hw)
        have pu4 : Pend p e3 σ3 H1 F2 (upd H2 w (.tup [v, u])) (mkSl o2 d2) u := by
          cases hm : mkSl o2 d2 with
          | no => rw [hm] at pu3; exact pu3
          | bor l => rw [hm] at pu3; exact pu3
          | dif l => rw [hm] at pu3; exact pu3
          | pd d => rw [hm] at pu3; exact pu3
          | own l =>
            rw [hm] at pu3
            obtain ⟨a, xs, g0, g1, g2, g3, g4, g5, g6⟩ := pu3
            exact ⟨a, xs, g0, g1, g2, g3, g4, fun z => g5 (o4 a z), g6⟩
          | dic kvs =>
            rw [hm] at pu3
            obtain ⟨a, g0, g1, g2, g3, g4, g5⟩ := pu3
            exact ⟨a, g0, g1, g2, g3, fun z => g4 (o4 a z), g5⟩
          | dik kvs =>
            rw [hm] at pu3
            obtain ⟨a, g0, g1, g2, g3, g4, g5⟩ := pu3
            exact ⟨a, g0, g1, g2, g3, fun z => g4 (o4 a z), g5⟩
        obtain ⟨r5, o5⟩ := r4.setSl pu4 hj hb2
        exact ⟨u, [], rfl, ⟨rfl, q3 _ F2 _ r5 (Same.refl _)⟩⟩
    · cases h
  | dnew i =>
    refine .mk1 (fun _ _ => rfl) fun {X p cl CX Ex sc} C hN hr hp st h => ?_
    unfold okS cDnew at h
    split at h
    · rename_i z; cases z
      rename_i x px pd pos
      simp only [Bool.and_eq_true] at h
      obtain ⟨h1, h2⟩ := h
      subst hN
      obtain ⟨n1, n2, n3⟩ := nm_at h1
      obtain ⟨l1, l2⟩ := hr _ h2
      refine PS.weak (ps_set C.nd n1 l1 pe_dnewD (sw_no rfl) l2) fun D σ H ⟨F, env, r, q⟩ => ?_
      unfold evS at q
      obtain ⟨e2, h6, q2⟩ := Ps.oNx q
      obtain ⟨rfl, hi, hb⟩ := setS_some h6
      intro a ha
      have r1 := r.alloc (o := dicO a #[] 0) ha
      have pd : Pend p env σ H F (upd H a (dicO a #[] 0)) (.dic []) (.ref a) := ⟨a, rfl, none_of_same r.hr.sub ha, Decidable.byContradiction fun z => r.hr.there a z ha, ha, r.not_own ha, #[], 0, [], upd_same, rfl, List.nodup_nil, .nil⟩
      exact q2 _ F _ (r1.setSl pd hi hb).1 (Same.refl _)
    · cases h
  | dput i k e =>
    refine .mk1 (fun _ _ => rfl) fun {X p cl CX Ex sc} C hN hr hp st h => ?_
    unfold okS cDput at h
    split at h
    · rename_i z; cases z
      rename_i x px ix ps v pos
      simp only [Bool.and_eq_true] at h
      obtain ⟨⟨⟨h1, h2⟩, h3⟩, h4⟩ := h
      subst hN
      obtain ⟨n1, n2, n3⟩ := nm_at h1
      refine PS.weak (ps_dput1 (by have := C.un; omega) (pe_var n1 (vis_of C.sc h2) n2 n3) ((okx k).a C rfl _ h3).r ((okx e).a C rfl _ h4).r (sw_far fun _ _ z => nomatch z)) fun D σ H ⟨F, env, r, q⟩ => ?_
      unfold evS dputS at q
      refine ⟨F, env, r, (Ps.after q).imp fun d env1 F1 H1 r1 s1 q1 v hv => ?_⟩
      split at q1
      case isFalse => exact q1.elim
      rename_i hi
      obtain ⟨kvs0, hk0⟩ := Option.isSome_iff_exists.mp hi
      obtain ⟨a, ys0, _, g1, _, _, _⟩ := dic_own C r1 hk0
      refine ⟨a, g1, F1, env1, r1, (Ps.after q1).imp fun kd env2 F2 H2 r2 s2 q2 y hy => ?_⟩
      split at q2
      · rename_i kvs ks e1 e2
        split at q2
        · rename_i hlen
          obtain ⟨a', ys, he, g1', _, g2, g3⟩ := dic_own C r2 e1
          rw [g1] at g1'; cases g1'
          obtain ⟨b, rfl, hb⟩ := rp_key e2 hy
          refine ⟨b, ks, ys, g2, by rw [← Paired.length g3]; omega, rfl, by rw [C.k]; exact sqt_same r2.hr.sub hb, fun es ep u hu w1 w2 => ?_⟩
          exact q2 σ F2 _ (r2.writeD he rfl rfl g1 ⟨es, ep, _, rfl, by rw [w1, C.hs]; rfl, w2, KyR.put g3 ks hb hu (hv.mono s2.sub)⟩) (Same.refl _)
        · exact q2.elim
      · exact q2.elim
    · cases h
  | dnw1 i k v =>
    refine .mk1 (fun _ _ => rfl) fun {X p cl CX Ex sc} C hN hr hp st h => ?_
    unfold okS cDnw1 at h
    split at h
    · rename_i z; cases z
      rename_i x px ek ev0 pd pos
      simp only [Bool.and_eq_true] at h
      obtain ⟨⟨⟨h1, h2⟩, h14⟩, h15⟩ := h
      subst hN
      obtain ⟨n1, n2, n3⟩ := nm_at h1
      obtain ⟨l1, l2⟩ := hr _ h2
      refine PS.weak (ps_set C.nd n1 l1 (pe_disp1 (by have := C.un; omega) ((okx k).a C rfl _ h14).r ((okx v).a C rfl _ h15).r) (sw_no rfl) l2) fun D σ H ⟨F, env, r, q⟩ => ?_
      unfold evS dnw1S at q
      intro a ha
      have r0 := r.alloc (o := dicO a #[] 0) ha
      have d0 : p.H0 a = none := Decidable.byContradiction fun z => r.hr.there a z ha
      have hF := none_of_same r.hr.sub ha
      have no := r.not_own ha
      refine ⟨F, env, r0, (Ps.after q).imp fun kd env1 F1 H1 r1 s1 q1 y py => ?_⟩
      refine ⟨F1, env1, r1, (Ps.after q1).imp fun vd env2 F2 H2 r2 s2 q2 w pw => ?_⟩
      split at q2
      · rename_i ks hk
        obtain ⟨c, rfl, hc⟩ := rp_key hk py
        have a1 : H1 a = some (dicO a #[] 0) := s1.keep a _ upd_same no
        have no1 : ¬ Own env1 σ a := fun z => no (s1.owl a z)
        have a2 : H2 a = some (dicO a #[] 0) := s2.keep a _ a1 no1
        have no2 : ¬ Own env2 σ a := fun z => no1 (s2.owl a z)
        have f1 : F1 a = none := (s1.kf a (by rw [upd_same]; intro z; cases z) no).trans hF
        have f2 : F2 a = none := (s2.kf a (by rw [a1]; intro z; cases z) no1).trans f1
        have hc2 := sqt_same s2.sub hc
        refine ⟨c, ks, a2, rfl, by rw [C.k]; exact sqt_same r2.hr.sub hc2, fun es ep u ru w1 => ?_⟩
        have r3 := r2.poke (o := dicO a es ep) d0 f2 no2
        have pv : Pend p env2 σ H F2 (upd H2 a (dicO a es ep)) (.dic [(ks, vd)]) (.ref a) :=
          ⟨a, rfl, f2, d0, ha, no2, es, ep, [(ks, c, u)], upd_same, by rw [w1, C.hs]; rfl, by simp, .cons ⟨rfl, hc2, w, ru, pw⟩ .nil⟩
        obtain ⟨e2, h6, q3⟩ := Ps.oNx q2
        obtain ⟨rfl, hi, hb⟩ := setS_some h6
        exact q3 _ F2 _ (r3.setSl pv hi hb).1 (Same.refl _)
      · exact q2.elim
    · cases h
  | dupd i k v tg it own =>
    refine .mk1 (fun _ _ => rfl) fun {X p cl CX Ex sc} C hN hr hp st h => ?_
    unfold okS cDupd at h
    split at h
    · rename_i z; cases z
      rename_i x px m ap ek ev0 t ie as scope dp cp pos
      simp only [Bool.and_eq_true, beq_iff_eq] at h
      obtain ⟨⟨⟨⟨⟨⟨⟨⟨⟨⟨⟨⟨hm, h1⟩, h2⟩, hl⟩, ha⟩, hb0⟩, h3⟩, h4⟩, h5⟩, h6⟩, h7⟩, h8⟩, h9⟩ := h
      subst hN hm ha
      obtain ⟨n1, n2, n3⟩ := nm_at h1
      have hb := blkOk_by hb0
      rw [← C.sc] at hb
      have CB : ∀ (s : Shared) (H : Hp) (Cc : Addr) (cll : List (Str × Addr)) (fp : List Addr), Cxt p G cl CX (fun _ _ _ => False) (relS scope sc) (X.blk s H scope (compEnvC scope cll Cc X.env) fp) := fun s H Cc cll fp =>
        ⟨C.k, C.calm, C.nd, by rw [← C.sc]; rfl, C.un, C.glb, C.blt, fun f fs z => ⟨(C.fns f fs z).ex⟩, fun _ _ _ _ _ _ _ z => absurd z (C.cx0 _ _ _ _ _), hb.kind, C.cx0, C.hs⟩
      have hu : X.A.units + 1 < cLine := by have := C.un; omega
      refine PS.weak (ps_expr (pe_dupd hu (pe_var n1 (vis_of C.sc h2) n2 n3) (beq_iff_eq.mpr hl) rfl (pe_dcD hu C.calm C.nd ((okx it).i C rfl _ _ tg scope h7 h6 h3) hb (fun s H Cc cll fp => (g_ok (CB s H Cc cll fp).calm (CB s H Cc cll fp).nd (CB s H Cc cll fp).k (fun x hx => ?_) tg).1 _ h6) (fun s H Cc cll fp => pts_nil) (fun s H Cc cll fp => ((okx k).a (CB s H Cc cll fp) rfl _ h8).r) (fun s H Cc cll fp => ((okx v).a (CB s H Cc cll fp) rfl _ h9).r) (set_none h4)))) fun D σ H ⟨F, env, r, q⟩ => ?_
      · show L2.Loc (relS scope X.env.scope) x ∧ ((scope.names.lookup x == some .cell) = true ∨ (relS scope X.env.scope).names.lookup x = some .local)
        unfold locB at hx
        split at hx
        · rename_i e1
          have := relS_lookup (sc := X.env.scope) e1 (by intro z; cases z)
          exact ⟨.inl this, .inr this⟩
        · rename_i e1
          have := relS_lookup (sc := X.env.scope) e1 (by intro z; cases z)
          exact ⟨.inr this, .inl (by rw [e1]; rfl)⟩
        · cases hx
      · unfold evS at q
        exact dupd_core C h5 r q
    · cases h
  | augl i e =>
    refine .mk1 (fun _ _ => rfl) fun {X p cl CX Ex sc} C hN hr hp st h => ?_
    unfold okS cAugl at h
    split at h
    · rename_i z; cases z
      rename_i x px op v pos
      simp only [Bool.and_eq_true, beq_iff_eq] at h
      obtain ⟨⟨⟨⟨h1, h2⟩, h3⟩, h4⟩, h5⟩ := h
      subst hN h1
      obtain ⟨l1, l2⟩ := hr _ h3
      refine PS.weak (ps_aug C.nd (nm_at h2).1 l1 ((okx e).a C rfl _ h5) (show PIp X .Add rExt2 from iop_ext) l2) fun D σ H ⟨F, env, r, q⟩ => ?_
      unfold evS at q
      exact augl_core h4 r q
    · cases h
  | daug i k sub e =>
    refine .mk1 (fun _ _ => rfl) fun {X p cl CX Ex sc} C hN hr hp st h => ?_
    unfold okS cDaug at h
    split at h
    · rename_i z; cases z
      rename_i x px y py tpos op v pos
      simp only [Bool.and_eq_true] at h
      obtain ⟨⟨⟨⟨h1, h2⟩, h3⟩, h4⟩, h5⟩ := h
      subst hN
      obtain ⟨n1, n2, n3⟩ := nm_at h2
      have hu : X.A.units + 1 < cLine := by have := C.un; omega
      cases sub with
      | true =>
        have h1 : (Operator.Sub == op) = true := h1
        cases beq_iff_eq.mp h1
        refine PS.weak (ps_augS (pe_var n1 (vis_of C.sc h3) n2 n3) ((okx k).a C rfl _ h4).r (pget_dic hu) ((okx e).a C rfl _ h5).r ip_sub (pset_dic hu) (fun _ _ _ => rfl)) fun D σ H ⟨F, env, r, q⟩ => ?_
        unfold evS at q
        exact daug_core C r q fun x y H Q hq => ⟨x, y, rfl, rfl, hq⟩
      | false =>
        have h1 : (Operator.Add == op) = true := h1
        cases beq_iff_eq.mp h1
        refine PS.weak (ps_augS (pe_var n1 (vis_of C.sc h3) n2 n3) ((okx k).a C rfl _ h4).r (pget_dic hu) ((okx e).a C rfl _ h5).r ip_add (pset_dic hu) (fun _ _ _ => rfl)) fun D σ H ⟨F, env, r, q⟩ => ?_
        unfold evS at q
        exact daug_core C r q fun x y H Q hq => ⟨x, y, rfl, rfl, hq⟩
    · cases h
  | dcm i k v tg it own =>
    refine .mk1 (fun _ _ => rfl) fun {X p cl CX Ex sc} C hN hr hp st h => ?_
    unfold okS cDcm at h
    split at h
    · rename_i z; cases z
      rename_i x px ek ev0 t ie as scope dp pos
      simp only [Bool.and_eq_true, beq_iff_eq, Bool.not_eq_true'] at h
      obtain ⟨⟨⟨⟨⟨⟨⟨⟨⟨⟨⟨⟨h1, h2⟩, hl⟩, hx⟩, ha⟩, hb0⟩, h3⟩, h4⟩, h5⟩, h6⟩, h7⟩, h8⟩, h9⟩ := h
      subst hN ha
      obtain ⟨n1, n2, n3⟩ := nm_at h1
      have hb := blkOk_by hb0
      rw [← C.sc] at hb
      have CB : ∀ (s : Shared) (H : Hp) (Cc : Addr) (cll : List (Str × Addr)) (fp : List Addr), Cxt p G cl CX (fun _ _ _ => False) (relS scope sc) (X.blk s H scope (compEnvC scope cll Cc X.env) fp) := fun s H Cc cll fp =>
        ⟨C.k, C.calm, C.nd, by rw [← C.sc]; rfl, C.un, C.glb, C.blt, fun f fs z => ⟨(C.fns f fs z).ex⟩, fun _ _ _ _ _ _ _ z => absurd z (C.cx0 _ _ _ _ _), hb.kind, C.cx0, C.hs⟩
      have hu : X.A.units + 1 < cLine := by have := C.un; omega
      have hlx := localB_of h2
      rw [← C.sc] at hlx
      refine PS.weak (ps_setDcD hu C.calm C.nd n1 hlx (sw_trueD C.kind hlx (beq_iff_eq.mpr hl) hx) ((okx it).i C rfl _ _ tg scope h7 h6 h3) hb (fun s H Cc cll fp => (g_ok (CB s H Cc cll fp).calm (CB s H Cc cll fp).nd (CB s H Cc cll fp).k (fun x hx => ?_) tg).1 _ h6) (fun s H Cc cll fp => pts_nil) (fun s H Cc cll fp => ((okx k).a (CB s H Cc cll fp) rfl _ h8).r) (fun s H Cc cll fp => ((okx v).a (CB s H Cc cll fp) rfl _ h9).r) (set_none h4)) fun D σ H ⟨F, env, r, q⟩ => ?_
      · show L2.Loc (relS scope X.env.scope) x ∧ ((scope.names.lookup x == some .cell) = true ∨ (relS scope X.env.scope).names.lookup x = some .local)
        unfold locB at hx
        split at hx
        · rename_i e1
          have := relS_lookup (sc := X.env.scope) e1 (by intro z; cases z)
          exact ⟨.inl this, .inr this⟩
        · rename_i e1
          have := relS_lookup (sc := X.env.scope) e1 (by intro z; cases z)
          exact ⟨.inr this, .inl (by rw [e1]; rfl)⟩
        · cases hx
      · unfold evS at q
        exact dcm_core C h5 r q
    · cases h
  | dup2 i k v k2 v2 =>
    refine .mk1 (fun _ _ => rfl) fun {X p cl CX Ex sc} C hN hr hp st h => ?_
    unfold okS cDup2 at h
    split at h
    · rename_i z; cases z
      simp only [Bool.and_eq_true, beq_iff_eq] at h
      obtain ⟨⟨⟨⟨⟨⟨⟨hm, h1⟩, h2⟩, hl⟩, h3⟩, h4⟩, h5⟩, h6⟩ := h
      subst hN hm
      obtain ⟨n1, n2, n3⟩ := nm_at h1
      have hu : X.A.units + 1 < cLine := by have := C.un; omega
      refine PS.weak (ps_expr (pe_dupdE hu (pe_var n1 (vis_of C.sc h2) n2 n3) (beq_iff_eq.mpr hl) rfl (pe_disp2 hu ((okx k).a C rfl _ h3).r ((okx v).a C rfl _ h4).r ((okx k2).a C rfl _ h5).r ((okx v2).a C rfl _ h6).r))) fun D σ H ⟨F, env, r, q⟩ => ?_
      unfold evS at q
      exact dup2_core C r q
    · cases h
  | parN i j o2 b =>
    refine .mk1 (fun _ _ => rfl) fun {X p cl CX Ex sc} C hN hr hp st h => ?_
    unfold okS cParN at h
    split at h
    · rename_i z; cases z
      rename_i x px y py kt pt pd eb k2 pt2 pos
      simp only [Bool.and_eq_true, bne_iff_ne, Bool.not_eq_true', beq_iff_eq] at h
      obtain ⟨⟨⟨⟨⟨⟨⟨⟨⟨⟨⟨h1, h2⟩, h3⟩, h4⟩, h5⟩, h6⟩, h7⟩, h9⟩, h10⟩, h11⟩, h13⟩, h16⟩ := h
      subst hN
      have hlx := localB_of h3
      have hly := localB_of h4
      rw [← C.sc] at hlx hly
      have hw := swap_gen (env := X.env) (xs := [(x, px), (y, py)]) (vs := [.Dict [] [] pd, eb]) (kt := kt) (pt := pt) (k2 := k2) (pt2 := pt2) C.kind (.inl rfl) rfl
        (by intro z hz; simp only [List.mem_cons, List.mem_nil_iff, or_false] at hz; rcases hz with rfl | rfl; exact ⟨hlx, rfl⟩; exact ⟨hly, h5⟩) (dups2 h7) (by rw [List.any_cons, List.any_cons, h9]; rfl) (by simpa using h10) (by simpa using h11)
      refine PS.weak (ps_par C.calm C.nd (nm_at h1).1 (nm_at h2).1 h6 hlx hly (pa_cons pe_dnewD (pa_cons ((okx b).a C rfl _ h16) pa_nil (star_cons h9)) rfl) hw rfl) fun D σ H ⟨F, env, r, q⟩ => ?_
      unfold evS parNS at q
      intro a ha
      have r0 := r.alloc (o := dicO a #[] 0) ha
      have pv : Pend p env σ H F (upd H a (dicO a #[] 0)) (.dic []) (.ref a) :=
        ⟨a, rfl, none_of_same r.hr.sub ha, Decidable.byContradiction fun z => r.hr.there a z ha, ha, r.not_own ha, #[], 0, [], upd_same, rfl, List.nodup_nil, .nil⟩
      refine TB.pend o2 (fun z => by rw [z] at h13; exact h13) r0 ((Ps.after q).imp fun d2 env3 F3 H3 r4 s3 q3 u2 pu => ?_)
      obtain ⟨e2, h18, q4⟩ := Ps.oNx q3
      cases h17 : setS env3 i (.dic []) with
      | none => rw [h17] at h18; cases h18
      | some e3 =>
        rw [h17] at h18
        obtain ⟨rfl, hi, hb⟩ := setS_some h17
        obtain ⟨rfl, hj, hb2⟩ := setS_some h18
        have pv2 := pv.step s3
        obtain ⟨r5, o3⟩ := r4.setSl pv2 hi hb
        have pu2 := pu.set o3 fun a z1 z2 => pv.there a z1 z2
        obtain ⟨r6, o4⟩ := r5.setSl pu2 hj hb2
        exact ⟨_, _, rfl, q4 _ F3 H3 r6 (Same.refl _)⟩
    · cases h
  | setD i f es =>
    refine .mk1 (fun _ _ => rfl) fun {X p cl CX Ex sc} C hN hr hp st h => ?_
    unfold okS cSetD at h
    split at h
    · rename_i z; cases z
      rename_i x px g p1 y ys ps pos
      simp only [Bool.and_eq_true, beq_iff_eq, Bool.not_eq_true'] at h
      obtain ⟨⟨⟨⟨⟨⟨h1, h2⟩, h3⟩, h4⟩, h5⟩, h6⟩, h7⟩ := h
      subst hN h4
      obtain ⟨n1, n2, n3⟩ := nm_at h1
      obtain ⟨l1, l2⟩ := hr _ h2
      obtain ⟨fs, hf⟩ := Option.isSome_iff_exists.mp h3
      obtain ⟨fa, fd, ps', k, F, hrm, hm, hk, hb⟩ := (C.fns f fs hf).ex
      have hs' : (!starred y && noStar ys) = true := okE_noStar h7
      simp only [Bool.and_eq_true, Bool.not_eq_true'] at hs'
      refine PS.weak (ps_set C.nd n1 l1 (pe_call F hrm (gl_of C.sc h5) hm hk hb .nil C.pass ((okx es).r C rfl _ h7) (dbg_of h6).1 (star_cons hs'.1) (noStar_back hs'.2)) (sw_no rfl) l2) fun D σ H ⟨F, env, r, q⟩ => ?_
      obtain ⟨F, env, r, q⟩ := setD_core hf r q
      exact ⟨F, env, r, q.imp fun d env' F' H' _ _ ⟨ds, e, k⟩ => ⟨ds, e, fun vs hvs => by
        show spH p.K _ cl fs (vs ++ []) H' _ Ex
        rw [List.append_nil, ← C.hs]; exact k vs hvs⟩⟩
    · cases h
  | retD i =>
    refine .mk1 (fun _ _ => rfl) fun {X p cl CX Ex sc} C hN hr hp st h => ?_
    unfold okS cRetO at h
    split at h
    · rename_i z; cases z
      simp only [Bool.and_eq_true] at h
      subst hN
      obtain ⟨n1, n2, n3⟩ := nm_at h.1
      refine PS.weak (ps_ret (pe_var n1 (vis_of C.sc h.2) n2 n3)) fun D σ H ⟨F, env, r, q⟩ => ?_
      unfold evS at q
      cases fr with
      | false => exact q.elim
      | true =>
        rw [if_pos rfl] at q
        split at q
        · rename_i kvs he
          obtain ⟨a, e1, e2, e3, e4⟩ := r.dio i _ (dicOw_at he) rfl
          exact ⟨_, e1, q _ σ F H r (Same.refl _) ⟨a, kvs, rfl, decD_encD kvs, e2, e3, e4⟩⟩
        · exact q.elim
    · cases h
  | knew i =>
    refine .mk1 (fun _ _ => rfl) fun {X p cl CX Ex sc} C hN hr hp st h => ?_
    unfold okS cDnew at h
    split at h
    · rename_i z; cases z
      rename_i x px pd pos
      simp only [Bool.and_eq_true] at h
      obtain ⟨h1, h2⟩ := h
      subst hN
      obtain ⟨n1, n2, n3⟩ := nm_at h1
      obtain ⟨l1, l2⟩ := hr _ h2
      refine PS.weak (ps_set C.nd n1 l1 pe_dnewK (sw_no rfl) l2) fun D σ H ⟨F, env, r, q⟩ => ?_
      unfold evS at q
      obtain ⟨e2, h6, q2⟩ := Ps.oNx q
      obtain ⟨rfl, hi, hb⟩ := setS_some h6
      intro a ha
      have r1 := r.alloc (o := .dK []) ha
      have pd : Pend p env σ H F (upd H a (.dK [])) (.dik []) (.ref a) := ⟨a, rfl, none_of_same r.hr.sub ha, Decidable.byContradiction fun z => r.hr.there a z ha, ha, r.not_own ha, [], upd_same, .nil⟩
      exact q2 _ F _ (r1.setSl pd hi hb).1 (Same.refl _)
    · cases h
  | kupd i e =>
    refine .mk1 (fun _ _ => rfl) fun {X p cl CX Ex sc} C hN hr hp st h => ?_
    unfold okS cKupd at h
    split at h
    · rename_i z; cases z
      rename_i x px m ap f p2 v q2 cp pos
      simp only [Bool.and_eq_true, beq_iff_eq, Bool.not_eq_true'] at h
      obtain ⟨⟨⟨⟨⟨⟨⟨h1, h2⟩, h3⟩, h4⟩, h5⟩, h6⟩, h7⟩, h8⟩ := h
      subst hN h1 h2
      obtain ⟨n1, n2, n3⟩ := nm_at h4
      refine PS.weak (ps_expr (pe_kupd (pe_var n1 (vis_of C.sc h5) n2 n3) (beq_iff_eq.mpr h6) rfl (pe_callTy (call_dictP C.calm) (gl_of C.sc h3) (C.blt _ (by decide +kernel)) (by decide +kernel) (pa_cons ((okx e).a C rfl _ h8).r pa_nil (star_cons h7)) (by decide) (by decide) (star_cons h7) rfl))) fun D σ H ⟨F, env, r, q⟩ => ?_
      unfold evS kupdS at q
      split at q
      case isFalse => exact q.elim
      rename_i hi
      obtain ⟨kvs0, hk0⟩ := Option.isSome_iff_exists.mp hi
      obtain ⟨a, ys0, _, g1, _, g2, _⟩ := dik_rel r hk0
      refine ⟨a, g1, ⟨_, g2⟩, F, env, r, (Ps.after q).imp fun d e1 F1 H1 r1 s1 q1 w hw => ?_⟩
      split at q1
      case h_2 => exact q1.elim
      rename_i kvs more k1 k2
      split at q1
      case isFalse => exact q1.elim
      rename_i hlen
      obtain ⟨a', ys, he, g1', _, g3, g4⟩ := dik_rel r1 k1
      rw [g1] at g1'; cases g1'
      unfold prsOf at k2
      split at k2
      case h_2 => cases k2
      rename_i l
      cases hw with
      | lst hq hr2 =>
        rename_i b xs
        obtain ⟨ps, ms, w1, w2, w3⟩ := pairs_rp k2 hr2
        subst w1
        refine ⟨b, ps, ms, rfl, by rw [C.k]; exact sql_same r1.hr.sub hq, Paired.mapP w2 fun x y z => by rw [C.k]; exact sqt_same r1.hr.sub z, fun t ht => ?_⟩
        have r2 := r1.alloc (o := .dK (mergeK [] ms)) ht
        have hat : a ≠ t := ne_of_none g3 ht
        have lm : ms.length = more.length := (Paired.length w3).symm
        have ly : ys.length = kvs.length := (Paired.length g4).symm
        refine ⟨t, ys, mergeK [] ms, rfl, hat, by rw [upd_ne hat]; exact g3, upd_same, ?_, ?_⟩
        · have := length_mergeK ms []
          rw [List.length_nil] at this
          omega
        · exact q1 σ F1 _ (r2.writeD he rfl rfl g1 ⟨_, rfl, KqR.merge (KqR.merge w3 .nil) g4⟩) (Same.refl _)
    · cases h
  | parD i k v j o2 b =>
    refine .mk1 (fun _ _ => rfl) fun {X p cl CX Ex sc} C hN hr hp st h => ?_
    unfold okS cParD at h
    split at h
    · rename_i z; cases z
      rename_i x px y py kt pt ek ev0 pd eb k2 pt2 pos
      simp only [Bool.and_eq_true, bne_iff_ne, Bool.not_eq_true', beq_iff_eq] at h
      obtain ⟨⟨⟨⟨⟨⟨⟨⟨⟨⟨⟨⟨⟨h1, h2⟩, h3⟩, h4⟩, h5⟩, h6⟩, h7⟩, h9⟩, h10⟩, h11⟩, h13⟩, h14⟩, h15⟩, h16⟩ := h
      subst hN
      have hlx := localB_of h3
      have hly := localB_of h4
      rw [← C.sc] at hlx hly
      have hw := swap_gen (env := X.env) (xs := [(x, px), (y, py)]) (vs := [.Dict [some ek] [ev0] pd, eb]) (kt := kt) (pt := pt) (k2 := k2) (pt2 := pt2) C.kind (.inl rfl) rfl
        (by intro z hz; simp only [List.mem_cons, List.mem_nil_iff, or_false] at hz; rcases hz with rfl | rfl; exact ⟨hlx, rfl⟩; exact ⟨hly, h5⟩) (dups2 h7) (by rw [List.any_cons, List.any_cons, h9]; rfl) (by simpa using h10) (by simpa using h11)
      refine PS.weak (ps_par C.calm C.nd (nm_at h1).1 (nm_at h2).1 h6 hlx hly (pa_cons (pe_disp1 (by have := C.un; omega) ((okx k).a C rfl _ h14).r ((okx v).a C rfl _ h15).r) (pa_cons ((okx b).a C rfl _ h16) pa_nil (star_cons h9)) rfl) hw rfl) fun D σ H ⟨F, env, r, q⟩ => ?_
      unfold evS parDS at q
      intro a ha
      have r0 := r.alloc (o := dicO a #[] 0) ha
      have d0 : p.H0 a = none := Decidable.byContradiction fun z => r.hr.there a z ha
      have hF := none_of_same r.hr.sub ha
      have no := r.not_own ha
      refine ⟨F, env, r0, (Ps.after q).imp fun kd env1 F1 H1 r1 s1 q1 y py => ?_⟩
      refine ⟨F1, env1, r1, (Ps.after q1).imp fun vd env2 F2 H2 r2 s2 q2 w pw => ?_⟩
      split at q2
      · rename_i ks hk
        obtain ⟨c, rfl, hc⟩ := rp_key hk py
        have a1 : H1 a = some (dicO a #[] 0) := s1.keep a _ upd_same no
        have no1 : ¬ Own env1 σ a := fun z => no (s1.owl a z)
        have a2 : H2 a = some (dicO a #[] 0) := s2.keep a _ a1 no1
        have no2 : ¬ Own env2 σ a := fun z => no1 (s2.owl a z)
        have f1 : F1 a = none := (s1.kf a (by rw [upd_same]; intro z; cases z) no).trans hF
        have f2 : F2 a = none := (s2.kf a (by rw [a1]; intro z; cases z) no1).trans f1
        have hc2 := sqt_same s2.sub hc
        refine ⟨c, ks, a2, rfl, by rw [C.k]; exact sqt_same r2.hr.sub hc2, fun es ep u ru w1 => ?_⟩
        have r3 := r2.poke (o := dicO a es ep) d0 f2 no2
        have pv : Pend p env2 σ H F2 (upd H2 a (dicO a es ep)) (.dic [(ks, vd)]) (.ref a) :=
          ⟨a, rfl, f2, d0, ha, no2, es, ep, [(ks, c, u)], upd_same, by rw [w1, C.hs]; rfl, by simp, .cons ⟨rfl, hc2, w, ru, pw⟩ .nil⟩
        refine TB.pend o2 (fun z => by rw [z] at h13; exact h13) r3 ((Ps.after q2).imp fun d2 env3 F3 H3 r4 s3 q3 u2 pu => ?_)
        obtain ⟨e2, h18, q4⟩ := Ps.oNx q3
        cases h17 : setS env3 i (.dic [(ks, vd)]) with
        | none => rw [h17] at h18; cases h18
        | some e3 =>
          rw [h17] at h18
          obtain ⟨rfl, hi, hb⟩ := setS_some h17
          obtain ⟨rfl, hj, hb2⟩ := setS_some h18
          have pv2 := pv.step s3
          obtain ⟨r5, o3⟩ := r4.setSl pv2 hi hb
          have pu2 := pu.set o3 fun a z1 z2 => pv.there a z1 z2
          obtain ⟨r6, o4⟩ := r5.setSl pu2 hj hb2
          exact ⟨.ref a, u2, rfl, q4 _ F3 H3 r6 (Same.refl _)⟩
      · exact q2.elim
    · cases h
  | aug i sub e =>
    refine .mk1 (fun _ _ => rfl) fun {X p cl CX Ex sc} C hN hr hp st h => ?_
    unfold okS cAug at h
    split at h
    · rename_i z; cases z
      rename_i x px op v pos
      simp only [Bool.and_eq_true] at h
      obtain ⟨⟨⟨h1, h2⟩, h3⟩, h4⟩ := h
      subst hN
      obtain ⟨l1, l2⟩ := hr _ h3
      have red : ∀ {ti : TIp}, PIp X op ti → (∀ x y : Int, ∀ H1 (Q : VK), Q (.int (if sub then x - y else x + y)) H1 → ti (.int x) (.int y) H1 Q) → PS X (.AugAssign (.Name x px) op v pos) (TSo p cl Ex G fr (.aug i sub e)) := fun {ti} hip hti => by
        refine PS.weak (ps_aug C.nd (nm_at h2).1 l1 ((okx e).a C rfl _ h4).r hip l2) fun D σ H ⟨F, env, r, q⟩ => ?_
        unfold evS at q
        split at q
        · rename_i x0 he
          obtain ⟨vx, e1, e2⟩ := r.pdo i x0 he
          refine ⟨vx, e1, F, env, r, (Ps.after q).imp fun d env1 F1 H1 r1 s1 q1 v hv => ?_⟩
          cases ha : augD sub x0 d with
          | none => rw [ha] at q1; exact q1.elim
          | some z =>
            rw [ha] at q1
            obtain ⟨e3, h6, q2⟩ := Ps.oNx q1
            obtain ⟨rfl, hi, hb⟩ := setS_some h6
            unfold augD at ha
            split at ha
            · cases ha
              cases e2
              cases hv
              exact hti _ _ _ _ (q2 _ F1 H1 (r1.setPd (.int _) hi hb).1 (Same.refl _))
            · cases ha
        · exact q.elim
      cases sub with
      | true =>
        cases op <;> first | (cases h1; done) | skip
        exact red ip_sub fun x y H1 Q hq => ⟨x, y, rfl, rfl, hq⟩
      | false =>
        cases op <;> first | (cases h1; done) | skip
        exact red ip_add fun x y H1 Q hq => ⟨x, y, rfl, rfl, hq⟩
    · cases h
  | expr e =>
    refine .mk1 (fun _ _ => rfl) fun {X p cl CX Ex sc} C hN hr hp st h => ?_
    unfold okS cExpr at h
    split at h
    · rename_i z; cases z
      simp only [Bool.and_eq_true, Option.isNone_iff_eq_none] at h
      refine PS.weak (ps_expr ((okx e).a C hN _ h.2).r (sw_no h.1)) fun D σ H ⟨F, env, r, q⟩ => ?_
      unfold evS at q
      exact ⟨F, env, r, (Ps.after q).imp fun d env1 F1 H1 r1 s1 q1 v hv => q1 σ F1 H1 r1 (Same.refl _)⟩
    · cases h
  | app i e =>
    refine .mk1 (fun _ _ => rfl) fun {X p cl CX Ex sc} C hN hr hp st h => ?_
    unfold okS cApp at h
    split at h
    · rename_i z; cases z
      rename_i x px m ap v cp pos
      simp only [Bool.and_eq_true, beq_iff_eq, Bool.not_eq_true'] at h
      obtain ⟨⟨⟨⟨⟨h1, h2⟩, h3⟩, h4⟩, h5⟩, h6⟩ := h
      subst hN h1
      obtain ⟨n1, n2, n3⟩ := nm_at h2
      have hst : starEach [v] X.env = (false, eval v X.env) :: starEach [] X.env := star_cons h5
      refine PS.weak (ps_expr (pe_bm PySem.F.plainAttrs_list PySem.F.slot_list_append PySem.F.type_list_append mt_append (pe_var n1 (vis_of C.sc h3) n2 n3) (pa_cons ((okx e).a C rfl _ h6).r pa_nil hst) rfl (by rw [hst]; rfl) (beq_iff_eq.mpr h4) hst rfl) rfl) fun D σ H ⟨F, env, r, q⟩ => ?_
      unfold evS at q
      split at q
      · rename_i hh
        obtain ⟨l0, hl0⟩ := Option.isSome_iff_exists.mp hh
        obtain ⟨a, xs, e1, e2, e3, e4⟩ := r.owo i l0 hl0
        refine ⟨.ref a, e1, .inl ⟨rfl, _, .inl (.inl e2)⟩, F, env, r, (Ps.after q).imp fun d env1 F1 H1 r1 s1 q1 v hv => ?_⟩
        cases hl : heldAt env1 i with
        | none => rw [hl] at q1; exact q1.elim
        | some l =>
          rw [hl] at q1
          dsimp only at q1
          split at q1
          · rename_i hz
            obtain ⟨a1, xs1, g1, g2, g3, g4⟩ := r1.owo i l hl
            rw [e1] at g1; cases g1
            obtain ⟨s, es, hs⟩ := setHeld_cases hl (l ++ [d])
            obtain ⟨r2, s2⟩ := r1.write hl hs e1 (g4.snoc hv)
            rw [← es] at r2
            exact ⟨a, xs1, v, rfl, rfl, g2, by rw [g4.length]; exact hz, q1 σ F1 _ r2 (Same.refl _)⟩
          · exact q1.elim
      · exact q.elim
    · cases h
  | seti i ix e =>
    refine .mk1 (fun _ _ => rfl) fun {X p cl CX Ex sc} C hN hr hp st h => ?_
    unfold okS cSeti at h
    split at h
    · rename_i z; cases z
      rename_i x px ei ps v pos
      simp only [Bool.and_eq_true] at h
      obtain ⟨⟨⟨⟨h1, h2⟩, h3⟩, h4⟩, h5⟩ := h
      subst hN
      obtain ⟨n1, n2, n3⟩ := nm_at h1
      refine PS.weak (ps_asg ((okx e).a C rfl _ h5).r (pg_sub (pe_var n1 (vis_of C.sc h2) n2 n3) ((okx ix).a C rfl _ h4).r set_list ?_) sw_sub ?_ rfl) fun D σ H ⟨F, env, r, q⟩ => ?_
      · intro v; cases ei <;> first | rfl | (cases h3; done)
      · cases v <;> rfl
      · unfold evS at q
        refine ⟨F, env, r, (Ps.after q).imp fun d env1 F1 H1 r1 s1 q1 v hv => ?_⟩
        split at q1
        · rename_i hh
          obtain ⟨l0, hl0⟩ := Option.isSome_iff_exists.mp hh
          obtain ⟨a, xs, e1, e2, e3, e4⟩ := r1.owo i l0 hl0
          refine ⟨.ref a, e1, F1, env1, r1, (Ps.after q1).imp fun k env2 F2 H2 r2 s2 q2 u hu => ?_⟩
          cases hl : heldAt env2 i with
          | none => rw [hl] at q2; exact q2.elim
          | some l =>
            rw [hl] at q2
            dsimp only at q2
            cases hd : setD l k d with
            | none => rw [hd] at q2; exact q2.elim
            | some l2 =>
              rw [hd] at q2
              unfold setD at hd
              split at hd
              · rename_i n
                cases hu
                obtain ⟨a1, xs1, g1, g2, g3, g4⟩ := r2.owo i l hl
                rw [e1] at g1; cases g1
                cases hx : ixN l.length n with
                | none => rw [hx] at hd; cases hd
                | some j =>
                  rw [hx] at hd
                  cases hd
                  obtain ⟨s, es, hs⟩ := setHeld_cases hl (l.set j d)
                  obtain ⟨r3, s3⟩ := r2.write hl hs e1 (g4.set j (hv.mono s2.sub))
                  rw [← es] at r3
                  exact ⟨a, xs1, n, j, rfl, rfl, g2, by rw [g4.length]; exact hx, q2 σ F2 _ r3 (Same.refl _)⟩
              · cases hd
        · exact q1.elim
    · cases h
  | if_ c a b iha ihb =>
    refine .mk1 (fun _ _ => rfl) fun {X p cl CX Ex sc} C hN hr hp st h => ?_
    unfold okS cIf at h
    split at h
    · rename_i z; cases z
      simp only [Bool.and_eq_true] at h
      refine PS.weak (ps_if ((okx c).t C hN _ h.1.1) (iha.b C hN hr hp _ h.1.2) (ihb.b C hN hr hp _ h.2)) fun D σ H ⟨F, env, r, q⟩ => ?_
      unfold evS at q
      refine ⟨F, env, r, (Ps.after q).imp fun d env1 F1 H1 r1 s1 q1 => ?_⟩
      cases ht : tru d with
      | none => rw [ht] at q1; exact q1.elim
      | some k =>
        rw [ht] at q1
        refine ⟨k, rfl, ?_⟩
        cases k with
        | true => rw [if_pos rfl]; exact ⟨F1, env1, r1, q1⟩
        | false => rw [if_neg Bool.false_ne_true]; exact ⟨F1, env1, r1, q1⟩
    · cases h
  | while_ n c b ihb =>
    refine .mk1 (fun _ _ => rfl) fun {X p cl CX Ex sc} C hN hr hp st h => ?_
    unfold okS cWhile at h
    split at h
    · rename_i z; cases z
      simp only [Bool.and_eq_true] at h
      refine PS.weak (ps_while hp ((okx c).t C hN _ h.1) (ihb.b C hN hr hp _ h.2)) fun D σ H ⟨F, env, r, q⟩ => ?_
      unfold evS at q
      refine ⟨fun m σ H => ∃ F env, Rel p env σ F H ∧ Ps p cl Ex fr F (whGo (ev G c) (evS G fr b) m env) D, ⟨n, F, env, r, q⟩, ?_⟩
      rintro m σ H ⟨F, env, r, q⟩
      cases m with
      | zero => exact q.elim
      | succ m =>
        unfold whGo at q
        refine ⟨F, env, r, (Ps.after q).imp fun d env1 F1 H1 r1 s1 q1 => ?_⟩
        cases ht : tru d with
        | none => rw [ht] at q1; exact q1.elim
        | some k =>
          rw [ht] at q1
          refine ⟨k, rfl, ?_⟩
          cases k with
          | false => rw [if_neg Bool.false_ne_true]; exact q1 σ F1 H1 r1 (Same.refl _)
          | true =>
            rw [if_pos rfl]
            refine ⟨fun σ H => ∃ F env, Rel p env σ F H ∧ Ps p cl Ex fr F (whGo (ev G c) (evS G fr b) m env) D, fun σ' H' w => ⟨m, Nat.lt_succ_self m, w⟩, F1, env1, r1, ?_⟩
            dsimp only at q1
            cases hb : evS G fr b env1 with
            | nx e2 => rw [hb] at q1; exact fun σ' F' H' r' s' => ⟨F', e2, r', Ps.mono q1 s'⟩
            | ct e2 => rw [hb] at q1; exact fun σ' F' H' r' s' => ⟨F', e2, r', Ps.mono q1 s'⟩
            | bk e2 => rw [hb] at q1; exact q1
            | rt d2 e2 => rw [hb] at q1; exact q1
            | exc c2 => rw [hb] at q1; exact q1
            | bot => rw [hb] at q1; exact q1
    · cases h
  | for_ t it b ihb =>
    refine .mk1 (fun _ _ => rfl) fun {X p cl CX Ex sc} C hN hr hp st h => ?_
    unfold okS cFor at h
    split at h
    · rename_i z; cases z
      simp only [Bool.and_eq_true] at h
      obtain ⟨⟨⟨⟨h1, h2⟩, h3⟩, h4⟩, h5⟩ := h
      subst hN
      refine PS.weak (ps_for hp C.calm ((okx it).i C rfl _ _ t sc h4 h1 h2) ((g_ok C.calm C.nd C.k hr t).1 _ h1) (ihb.b C rfl hr hp _ h5) (set_none h3)) fun D σ H ⟨F, env, r, q⟩ => ?_
      unfold evS at q
      refine ⟨F, env, r, (Ps.after q).imp fun d env1 F1 H1 r1 s1 q1 => ?_⟩
      cases hds : itemsOf d with
      | none => rw [hds] at q1; exact q1.elim
      | some ds =>
        rw [hds] at q1
        refine ⟨ds, rfl, fun J wk => ?_⟩
        obtain ⟨Gd, Y, wk, hGd, hY⟩ := wk
        refine for_it wk (fun i σ H => ∃ F env, Rel p env σ F H ∧ Same F1 F ∧ Ps p cl Ex fr F (forGo (asgT t) (evS G fr b) (ds.drop i) env) D) ⟨F1, env1, r1, Same.refl _, q1⟩ ?_ ?_ ?_
        · intro i σ H _ ⟨F, env, r, s, _⟩
          exact hGd H (s.trans r.hr.sub)
        · intro i x σ H H' hi ⟨F, env, r, s, q⟩ hy
          obtain ⟨F2, dx, r2, s2, g1, g2, g3, g4⟩ := YR.rel r s (hY i H x H' hi hy)
          have hdrop : ds.drop i = dx :: ds.drop (i + 1) := by
            have hlt := (List.getElem?_eq_some_iff.mp g1)
            obtain ⟨h1, h2⟩ := hlt
            rw [List.drop_eq_getElem_cons h1, h2]
          rw [hdrop] at q
          unfold forGo at q
          cases ha : asgT t dx env with
          | none => rw [ha] at q; exact q.elim
          | some e1 =>
            rw [ha] at q
            refine ⟨F2, env, dx, e1, r2, g2, ha, fun σ' r' _ _ => ⟨F2, e1, r', ?_⟩⟩
            dsimp only at q
            have sF := s.trans s2.sub
            cases hb : evS G fr b e1 with
            | nx e2 => rw [hb] at q; exact fun σ' F' H' r' s' => ⟨F', e2, r', sF.trans s', Ps.mono q (s2.sub.trans s')⟩
            | ct e2 => rw [hb] at q; exact fun σ' F' H' r' s' => ⟨F', e2, r', sF.trans s', Ps.mono q (s2.sub.trans s')⟩
            | bk e2 => rw [hb] at q; exact fun σ' F' H' r' s' => q σ' F' H' r' (s2.sub.trans s')
            | rt d2 e2 => rw [hb] at q; exact fun v σ' F' H' r' s' => q v σ' F' H' r' (s2.sub.trans s')
            | exc c2 => rw [hb] at q; exact q
            | bot => rw [hb] at q; exact q
        · intro σ H ⟨F, env, r, s, q⟩
          rw [List.drop_length] at q
          unfold forGo at q
          exact q σ F H r (Same.refl _)
    · cases h
  | ret e =>
    refine .mk1 (fun _ _ => rfl) fun {X p cl CX Ex sc} C hN hr hp st h => ?_
    unfold okS cRet at h
    split at h
    · rename_i z; cases z
      refine PS.weak (ps_ret ((okx e).a C hN _ h)) fun D σ H ⟨F, env, r, q⟩ => ?_
      unfold evS at q
      refine ⟨F, env, r, ?_⟩
      have q' := Ps.after (env := env) (σ := σ) (H := H) q
      cases fr with
      | false =>
        refine (q'.imp (k' := fun d _ F' H' => ∀ v, Rp p.K F' v d → D.rt v H') fun d env1 F1 H1 r1 s1 q1 v hv => ?_).frozen (k := fun _ _ _ _ => True)
        exact q1 v σ F1 H1 r1 (Same.refl _) hv
      | true =>
        by_cases hf : isFresh G e = true
        · refine q'.imp fun d env1 F1 H1 r1 s1 q1 v hv => ?_
          rw [hf] at q1 hv
          refine q1 v σ F1 H1 r1 (Same.refl _) ?_
          unfold ResOk at hv
          unfold RtOk
          cases d with
          | list l =>
            obtain ⟨a, xs, g1, g2, g3, g4, g5, g6, g7⟩ := hv
            exact ⟨a, xs, g1, g2, g3, g4, g7⟩
          | dict l => cases hv
          | _ => exact hv
        · have hf' : isFresh G e = false := by simpa using hf
          refine q'.imp fun d env1 F1 H1 r1 s1 q1 v hv => ?_
          rw [hf'] at q1 hv
          cases d with
          | list l => exact q1.elim
          | dict l => cases hv
          | _ => exact q1 v σ F1 H1 r1 (Same.refl _) hv
    · cases h
  | retO i =>
    refine .mk1 (fun _ _ => rfl) fun {X p cl CX Ex sc} C hN hr hp st h => ?_
    unfold okS cRetO at h
    split at h
    · rename_i z; cases z
      simp only [Bool.and_eq_true] at h
      subst hN
      obtain ⟨n1, n2, n3⟩ := nm_at h.1
      refine PS.weak (ps_ret (pe_var n1 (vis_of C.sc h.2) n2 n3)) fun D σ H ⟨F, env, r, q⟩ => ?_
      unfold evS at q
      cases fr with
      | false => exact q.elim
      | true =>
        rw [if_pos rfl] at q
        split at q
        · rename_i l he
          obtain ⟨a, xs, e1, e2, e3, e4⟩ := r.owo i l (by unfold heldAt; rw [he]; rfl)
          exact ⟨_, e1, q _ σ F H r (Same.refl _) ⟨a, xs, rfl, e2, e3, r.new i l a he e1, e4⟩⟩
        · exact q.elim
    · cases h
  | retN =>
    refine .mk1 (fun _ _ => rfl) fun {X p cl CX Ex sc} C hN hr hp st h => ?_
    unfold okS cRetN at h
    split at h
    · rename_i z; cases z
      refine PS.weak ps_retN fun D σ H ⟨F, env, r, q⟩ => q _ σ F H r (Same.refl _) ?_
      unfold RtOk
      cases fr <;> exact .non
    · cases h
  | brk =>
    refine .mk1 (fun _ _ => rfl) fun {X p cl CX Ex sc} C hN hr hp st h => ?_
    unfold okS cBrk at h
    split at h
    · rename_i z; cases z
      exact PS.weak ps_break fun D σ H ⟨F, env, r, q⟩ => q σ F H r (Same.refl _)
    · cases h
  | cont =>
    refine .mk1 (fun _ _ => rfl) fun {X p cl CX Ex sc} C hN hr hp st h => ?_
    unfold okS cCont at h
    split at h
    · rename_i z; cases z
      exact PS.weak ps_continue fun D σ H ⟨F, env, r, q⟩ => q σ F H r (Same.refl _)
    · cases h
  | never => exact ⟨fun C hN hr hp st h => PS.weak ps_never fun D σ H ⟨F, env, r, q⟩ => q, fun C hN hr hp st h => PSs.weak pss_never fun D σ H ⟨F, env, r, q⟩ => q⟩
end
end Rv

set_option Elab.async false
set_option linter.all false
set_option maxRecDepth 100000
set_option maxHeartbeats 4000000
/-! Rv14: defs, the table of defs, the law. -/
namespace Rv
open PySem PySem.Spec PyProof.Rows L2
open C8 (scC fnScope_by)

structure Fn where
  nm : Str
  st : Stmt
  N : List Str
  ps : List Str
  mu : Bool
  fr : Bool
  body : S
def startE (mu : Bool) (n : Nat) (ds : List D) : En :=
  (match mu, ds with
    | true, .list l :: r => Sl.bor l :: r.map Sl.pd
    | _, ds => ds.map Sl.pd) ++ List.replicate (n - ds.length) Sl.no
def held0 (mu : Bool) (e : En) : List D := if mu then (heldAt e 0).getD [] else []
def outF (mu : Bool) (r : So) : Rs (D × List D) :=
  match r with
  | .rt d e => .ok (d, held0 mu e)
  | .nx e => .ok (.none, held0 mu e)
  | .exc c => .exc c
  | _ => .bot
def semF (G : Genv) (f : Fn) : FSem := ⟨f.mu, f.fr, f.ps.length, fun ds => outF f.mu (evS G f.fr f.body (startE f.mu f.N.length ds))⟩

/-! ### the state at a def's entry -/
theorem get_pad {α β : Type} {A : List α} {n : Nat} {z : α} {i : Nat} {s : α} (h : (A ++ List.replicate n z)[i]? = some s) (hs : s ≠ z) : A[i]? = some s := by
  by_cases hi : i < A.length
  · rw [List.getElem?_append_left hi] at h; exact h
  · rw [List.getElem?_append_right (by omega)] at h
    have := List.mem_of_getElem? h
    exact absurd (List.eq_of_mem_replicate this) hs
theorem start_at {N : List Str} {vs : List V} {i : Nat} {v : V} (h : vs[i]? = some v) : (L2.start N vs)[i]? = some (some v) := by
  have hi : i < vs.length := (List.getElem?_eq_some_iff.mp h).1
  unfold L2.start
  rw [List.getElem?_append_left (by rw [List.length_map]; exact hi), List.getElem?_map, h]; rfl
theorem start_length {N : List Str} {vs : List V} (h : vs.length ≤ N.length) : (L2.start N vs).length = N.length := by
  unfold L2.start
  rw [List.length_append, List.length_map, List.length_replicate]; omega
theorem rel_start {hs : List Key → Int} {K : PySem.W.Frag} {H F : Hp} {N : List Str} {mu : Bool} {vs : List V} {ds : List D} {ma : Option Addr} (sm : Same F H) (ha : ArgsOk K mu F H vs ds ma) (hl : vs.length ≤ N.length) :
    Rel ⟨K, H, F, ma.map fun a => (0, a), hs⟩ (startE mu N.length ds) (L2.start N vs) F H := by
  have hr : HRel ⟨K, H, F, ma.map fun a => (0, a), hs⟩ F H := ⟨sm, fun _ _ e _ => e, fun _ _ => rfl, fun _ e => e⟩
  cases mu with
  | false =>
    obtain ⟨rfl, hv⟩ := ha
    have nh : ∀ i l, heldAt (startE false N.length ds) i ≠ some l := fun i l e => by
      unfold heldAt at e
      cases q : (startE false N.length ds)[i]? with
      | none => rw [q] at e; cases e
      | some s =>
        rw [q] at e
        cases s with
        | no => cases e
        | pd d => cases e
        | own m =>
          have := get_pad (β := Nat) q (by intro z; cases z)
          rw [List.getElem?_map] at this
          cases z : ds[i]? with
          | none => rw [z] at this; cases this
          | some d => rw [z] at this; cases this
        | bor m =>
          have := get_pad (β := Nat) q (by intro z; cases z)
          rw [List.getElem?_map] at this
          cases z : ds[i]? with
          | none => rw [z] at this; cases this
          | some d => rw [z] at this; cases this
        | dic m => cases e
        | dik m => cases e
        | dif m => cases e
    have nf : ∀ (i : Nat) (m : List (List Key × D)), (startE false N.length ds)[i]? = some (.dif m) → False := fun i m q => by
      have := get_pad (β := Nat) q (by intro z; cases z)
      rw [List.getElem?_map] at this
      cases z : ds[i]? with
      | none => rw [z] at this; cases this
      | some d => rw [z] at this; cases this
    have nd : ∀ (i : Nat) (s : Sl), (startE false N.length ds)[i]? = some s → s.isD = true → False := fun i s q hd => by
      have := get_pad (β := Nat) q (by intro z; subst z; cases hd)
      rw [List.getElem?_map] at this
      cases z : ds[i]? with
      | none => rw [z] at this; cases this
      | some d => rw [z] at this; cases this; cases hd
    refine ⟨hr, fun i d e => ?_, fun i l e => absurd e (nh i l), fun i j a o _ => ?_, fun i l a e => ?_, fun i l e => ?_, fun i a e => ?_, ?_, fun i s e hd => (nd i s e hd).elim, fun i m e => (nf i m e).elim⟩
    · have := get_pad (β := Nat) e (by intro z; cases z)
      rw [List.getElem?_map] at this
      cases z : ds[i]? with
      | none => rw [z] at this; cases this
      | some d' =>
        rw [z] at this; cases this
        obtain ⟨v, q1, q2⟩ := hv.get' z
        exact ⟨v, start_at q1, q2⟩
    · rcases owns_cases o.1 with ⟨l, hl⟩ | ⟨s, hk, hd⟩
      · exact absurd hl (nh i l)
      · exact (nd i s hk hd).elim
    · exact absurd (show heldAt _ i = some l by unfold heldAt; rw [e]; rfl) (nh i l)
    · exact absurd (show heldAt _ i = some l by unfold heldAt; rw [e]; rfl) (nh i l)
    · cases e
    · rw [start_length hl]
      show (ds.map Sl.pd ++ List.replicate (N.length - ds.length) Sl.no).length = _
      have := hv.length
      rw [List.length_append, List.length_map, List.length_replicate]; omega
  | true =>
    obtain ⟨a, xs, l, ws, es, rfl, rfl, rfl, h1, h2, h3, h4⟩ := ha
    have hlen := h4.length
    have at0 : (startE true N.length (.list l :: es))[0]? = some (.bor l) := rfl
    have s0 : (start N (V.ref a :: ws))[0]? = some (some (V.ref a)) := start_at rfl
    have atS : ∀ i s, (startE true N.length (.list l :: es))[i + 1]? = some s → s ≠ .no → ∃ d, es[i]? = some d ∧ s = .pd d := fun i s e hs => by
      have e : ((Sl.bor l :: es.map Sl.pd) ++ List.replicate (N.length - (es.length + 1)) Sl.no)[i + 1]? = some s := e
      have := get_pad (β := Nat) e hs
      rw [List.getElem?_cons_succ, List.getElem?_map] at this
      cases z : es[i]? with
      | none => rw [z] at this; cases this
      | some d => rw [z] at this; cases this; exact ⟨d, rfl, rfl⟩
    have h0 : ∀ i m, heldAt (startE true N.length (.list l :: es)) i = some m → i = 0 ∧ m = l := fun i m e => by
      unfold heldAt at e
      cases i with
      | zero => rw [at0] at e; cases e; exact ⟨rfl, rfl⟩
      | succ i =>
        cases q : (startE true N.length (.list l :: es))[i + 1]? with
        | none => rw [q] at e; cases e
        | some s =>
          rw [q] at e
          by_cases hs : s = .no
          · subst hs; cases e
          · obtain ⟨d, _, rfl⟩ := atS i s q hs
            cases e
    have nf : ∀ (i : Nat) (m : List (List Key × D)), (startE true N.length (.list l :: es))[i]? = some (.dif m) → False := fun i m q => by
      cases i with
      | zero => rw [at0] at q; cases q
      | succ i =>
        obtain ⟨d, _, z⟩ := atS i _ q (by intro z; cases z)
        cases z
    have nd : ∀ (i : Nat) (s : Sl), (startE true N.length (.list l :: es))[i]? = some s → s.isD = true → False := fun i s q hd => by
      cases i with
      | zero => rw [at0] at q; cases q; cases hd
      | succ i =>
        obtain ⟨d, _, z⟩ := atS i s q (by intro z; subst z; cases hd)
        subst z; cases hd
    refine ⟨hr, fun i d e => ?_, fun i m e => ?_, fun i j b o o' => ?_, fun i m b e => ?_, fun i m e => ?_, fun i b e => ?_, ?_, fun i s e hd => (nd i s e hd).elim, fun i m e => (nf i m e).elim⟩
    · cases i with
      | zero => rw [at0] at e; cases e
      | succ i =>
        obtain ⟨d', q, e'⟩ := atS i _ e (by intro z; cases z)
        cases e'
        obtain ⟨v, q1, q2⟩ := h4.get' q
        exact ⟨v, start_at (vs := V.ref a :: ws) (by rw [List.getElem?_cons_succ]; exact q1), q2⟩
    · obtain ⟨rfl, rfl⟩ := h0 i m e
      exact ⟨a, xs, s0, h1, h2, h3⟩
    · rcases owns_cases o.1 with ⟨m, hm⟩ | ⟨s, hk, hd⟩
      · rcases owns_cases o'.1 with ⟨m', hm'⟩ | ⟨s, hk, hd⟩
        · rw [(h0 _ _ hm).1, (h0 _ _ hm').1]
        · exact (nd _ s hk hd).elim
      · exact (nd _ s hk hd).elim
    · cases i with
      | zero => rw [at0] at e; cases e
      | succ i =>
        obtain ⟨d', q, e'⟩ := atS i _ e (by intro z; cases z)
        cases e'
    · obtain ⟨rfl, rfl⟩ := h0 i m (by unfold heldAt; rw [e]; rfl)
      exact ⟨a, rfl, s0⟩
    · cases e
      exact ⟨l, rfl⟩
    · rw [start_length hl]
      show ((Sl.bor l :: es.map Sl.pd) ++ List.replicate (N.length - (es.length + 1)) Sl.no).length = _
      have hl2 : ws.length + 1 ≤ N.length := hl
      rw [List.length_append, List.length_cons, List.length_map, List.length_replicate]; omega

/-! ### what stands behind the top -/
structure Gok (P : Program) (w : World) (K : PySem.W.Frag) (mg : Str → Option Value) (base : Heap) (cl : Str → Value) (k : Nat) (G : Genv) : Prop where
  glb : ∀ n d, G.gl n = some d → ∃ u v, mg (G.gnm n) = some u ∧ RelV v u ∧ ∀ F, Rp K F v d
  blt : ∀ x ∈ bltNames, mg x = none
  fns : ∀ i fs, G.fn i = some fs → ∃ (a : Addr) (fd : FuncData) (ps : List Str), FnOk P w K mg base CX0 k a fd ps (spH K (PySem.tupleKind (mixKind P w)).hash cl fs) ∧ mg (G.fnm i) = some (.ref a) ∧ PySem.W.keepIn K (.ref a) = true ∧ L2.Binds K fd ps []
theorem hrel_cstep {hs : List Key → Int} {K : PySem.W.Frag} {H F F' H' : Hp} {ma : Option Addr} (r : HRel ⟨K, H, F, ma.map fun a => (0, a), hs⟩ F' H') : CStep ma F H F' H' :=
  ⟨r.sub, fun b o e n => r.old b o e fun i z => n (by
    cases ma with
    | none => cases z
    | some a => cases z; rfl), r.oldf, r.there⟩
section
variable {P : Program} {w : World} {K : PySem.W.Frag} {mg : Str → Option Value} {base : Heap} {cl : Str → Value} {k : Nat} {G : Genv}
theorem fn_ok {f : Fn} {a : Addr} {fd : FuncData} (F : Fun K f.nm f.nm f.st a fd) (g : Gok P w K mg base cl k G) (sc : scC f.N f.ps (defScope f.st) = true) (chk : okS G f.N (defScope f.st) f.body (.b (defBody f.st)) = true) :
    FnOk P w K mg base CX0 (k + 1) a fd f.ps (spH K (PySem.tupleKind (mixKind P w)).hash cl (semF G f)) := by
  have S := fnScope_by sc
  refine F.ok S (fun vs H Q E h => let ⟨_, _, _, _, hl, _⟩ := h; hl) fun cdv A outer s H vs Q E hr hsp => ?_
  obtain ⟨F0, ds, ma, sm, hl, ha, hres⟩ := hsp
  have hpl : f.ps.length ≤ f.N.length := by have := congrArg List.length S.pre; rw [List.length_take] at this; omega
  let p : Pm := ⟨K, H, F0, ma.map fun a => (0, a), (PySem.tupleKind (mixKind P w)).hash⟩
  let X := (cxOf CX0 P w K mg base f.N f.nm (defScope f.st) a cdv A outer s H E).nox
  have C : Cxt p G cl CX0 E (defScope f.st) X := ⟨rfl, rfl, S.nd, rfl, by have := hr.un; show (A.deeper _).units + 65 < cLine; omega, g.glb, g.blt, fun i fs hi => by
    obtain ⟨a', fd', ps', h1, h2, h3, h4⟩ := g.fns i fs hi
    exact ⟨a', fd', ps', k, h1, hr, h2, h3, h4⟩, (fun _ _ _ _ _ _ _ z => z.elim), S.kind, fun _ _ _ _ _ z => z, rfl⟩
  have hraw : HRaw X (defScope f.st) := fun x hx => by
    unfold locB at hx
    split at hx
    · rename_i e; exact ⟨.inl e, .inl rfl⟩
    · rename_i e; exact ⟨.inr e, .inl rfl⟩
    · cases hx
  refine ⟨TSo p cl E G f.fr f.body, (oks f.body).b C rfl hraw PassesOwn.never _ chk, F0, startE f.mu f.N.length ds, rel_start sm ha (by rw [hl]; exact hpl), ?_⟩
  have mo : ∀ {env' σ' F' H'}, Rel p env' σ' F' H' → MutOk K ma F' H' (held0 f.mu env') := fun {env' σ' F' H'} r => by
    cases ma with
    | none => trivial
    | some b =>
      have hmu : f.mu = true := by
        cases e : f.mu with
        | true => rfl
        | false =>
          have ha' : ArgsOk K f.mu F0 H vs ds (some b) := ha
          rw [e] at ha'
          cases ha'.1
      obtain ⟨l, q⟩ := r.mub 0 b rfl
      obtain ⟨b', q1, q2⟩ := r.bor 0 l q
      cases q1
      have hh : heldAt env' 0 = some l := by unfold heldAt; rw [q]; rfl
      obtain ⟨b'', xs, q3, q4, q5, q6⟩ := r.owo 0 l hh
      rw [q2] at q3; cases q3
      refine ⟨xs, q4, ?_⟩
      unfold held0
      rw [if_pos hmu, hh]
      exact q6
  have hres : (match outF f.mu (evS G f.fr f.body (startE f.mu f.N.length ds)) with
    | .ok (r, l) => ∀ v F' H', CStep ma F0 H F' H' → MutOk K ma F' H' l → ResF K (PySem.tupleKind (mixKind P w)).hash f.fr H F' H' v r → Q v H'
    | .exc c => ∀ F' H', CStep ma F0 H F' H' → E (cl c) none H'
    | .bot => False) := hres
  cases e : evS G f.fr f.body (startE f.mu f.N.length ds) with
  | nx env' =>
    rw [e] at hres
    exact fun σ' F' H' r _ => hres _ F' H' (hrel_cstep r.hr) (mo r) (by unfold ResF; cases f.fr <;> exact .non)
  | rt d env' =>
    rw [e] at hres
    refine fun v σ' F' H' r _ rv => hres _ F' H' (hrel_cstep r.hr) (mo r) ?_
    unfold RtOk at rv
    unfold ResF
    cases hfr : f.fr with
    | false => rw [hfr] at rv; exact rv
    | true =>
      rw [hfr] at rv
      cases d with
      | list l =>
        obtain ⟨b, xs, g1, g2, g3, g4, g5⟩ := rv
        exact ⟨b, xs, g1, g2, g3, g4, g5⟩
      | dict l =>
        obtain ⟨b, kv, g1, g2, g3, g4, g5⟩ := rv
        exact ⟨b, kv, g1, g2, g3, g4, g5⟩
      | _ => exact rv
  | bk env' => rw [e] at hres; exact hres.elim
  | ct env' => rw [e] at hres; exact hres.elim
  | exc c => rw [e] at hres; exact fun F' H' r => hres F' H' (hrel_cstep r)
  | bot => rw [e] at hres; exact hres.elim

theorem fn_ok_law {f : Fn} {a : Addr} {fd : FuncData} (hfr : f.fr = false) (F : Fun K f.nm f.nm f.st a fd) (g : Gok P w K mg base cl k G) (sc : scC f.N f.ps (defScope f.st) = true) (chk : okS G f.N (defScope f.st) f.body (.b (defBody f.st)) = true) :
    FnOk P w K mg base CX0 (k + 1) a fd f.ps (spOf K cl (semF G f)) := by
  have h := fn_ok F g sc chk
  rwa [spOf_eq _ hfr] at h
/-! ### the table of defs -/
def mkG (gl : List (Str × D)) (L : List (Str × FSem)) : Genv := ⟨fun i => (L[i]?).map (·.2), fun i => ((L[i]?).map (·.1)).getD "", fun i => (gl[i]?).map (·.2), fun i => ((gl[i]?).map (·.1)).getD ""⟩
/-- a def of the module, called with each parameter given -/
structure Df (K : PySem.W.Frag) (mg : Str → Option Value) (nm : Str) (st : Stmt) (ps : List Str) : Prop where
  ex : ∃ (f : Addr) (fd : FuncData), Fun K nm nm st f fd ∧ mg nm = some (.ref f) ∧ L2.Binds K fd ps []
theorem Gok.start {gl : List (Str × D)} (hg : ∀ p ∈ gl, ∃ u v, mg p.1 = some u ∧ RelV v u ∧ ∀ F, Rp K F v p.2) (hb : ∀ x ∈ bltNames, mg x = none) : Gok P w K mg base cl 0 (mkG gl []) := by
  refine ⟨fun n d h => ?_, hb, fun i fs h => ?_⟩
  · have h : (gl[n]?).map (·.2) = some d := h
    show ∃ u v, mg (((gl[n]?).map (·.1)).getD "") = some u ∧ _
    cases e : gl[n]? with
    | none => rw [e] at h; cases h
    | some q =>
      rw [e] at h; cases h
      obtain ⟨u, v, h1, h2, h3⟩ := hg q (List.mem_of_getElem? e)
      exact ⟨u, v, h1, h2, h3⟩
  · have h : (([] : List (Str × FSem))[i]?).map (·.2) = some fs := h
    cases h
theorem Gok.add {gl : List (Str × D)} {L : List (Str × FSem)} {f : Fn} (g : Gok P w K mg base cl k (mkG gl L)) (d : Df K mg f.nm f.st f.ps) (sc : scC f.N f.ps (defScope f.st) = true) (chk : okS (mkG gl L) f.N (defScope f.st) f.body (.b (defBody f.st)) = true) :
    Gok P w K mg base cl (k + 1) (mkG gl (L ++ [(f.nm, semF (mkG gl L) f)])) := by
  refine ⟨g.glb, g.blt, fun i fs h => ?_⟩
  have h : ((L ++ [(f.nm, semF (mkG gl L) f)])[i]?).map (·.2) = some fs := h
  show ∃ a fd ps, _ ∧ mg ((((L ++ [(f.nm, semF (mkG gl L) f)])[i]?).map (·.1)).getD "") = _ ∧ _
  by_cases hi : i < L.length
  · rw [List.getElem?_append_left hi] at h ⊢
    obtain ⟨a, fd, ps, h1, h2, h3, h4⟩ := g.fns i fs h
    exact ⟨a, fd, ps, h1.mono (Nat.le_succ k), h2, h3, h4⟩
  · rw [List.getElem?_append_right (by omega)] at h ⊢
    cases e : i - L.length with
    | zero =>
      rw [e] at h
      cases h
      obtain ⟨a, fd, h1, h2, h4⟩ := d.ex
      exact ⟨a, fd, f.ps, fn_ok h1 g sc chk, h2, h1.kp, h4⟩
    | succ n => rw [e] at h; cases h
/-- from what the head's end tells of a def -/
theorem df_mk {h : Heap} {nm : Str} {st : Stmt} {ps : List Str} {f : Addr} {oc : Value} {od an : Option Addr} {osl : Array (Option Value)} {kV doc pm cdv ct : Value} (X : K.In h) (G : h.Ns mainGlobals mg) (hb : ∀ (kV doc pm : Value) (an : Option Addr) (cdv ct : Value) (us : List Value), us.length = ps.length → bindArgs (PySem.W.fnOf nm nm (defArgs st) (defBody st) (defScope st) .none kV doc pm an cdv ct) ⟨us, []⟩ = pure (ps.zip us))
    (a : PySem.W.nsIn K mainGlobals nm = some (some (.ref f))) (l : K.lookup f = some ⟨oc, od, .func (PySem.W.fnOf nm nm (defArgs st) (defBody st) (defScope st) .none kV doc pm an cdv ct), osl⟩) (c : PySem.W.codeIn K cdv nm = true) (k : PySem.W.keepIn K (.ref f) = true) : Df K mg nm st ps :=
  ⟨f, _, fun_mk l c k, PySem.W.mg_of X G a, (fun_mk l c k).binds hb⟩
/-- the last def -/
theorem df_last {h : Heap} {nm : Str} {st : Stmt} {fa f : Addr} {oc : Value} {od an : Option Addr} {osl : Array (Option Value)} {kV doc pm cdv ct : Value} (X : K.In h) (G : h.Ns mainGlobals mg) (hfa : mg nm = some (.ref fa))
    (a : PySem.W.nsIn K mainGlobals nm = some (some (.ref f))) (l : K.lookup f = some ⟨oc, od, .func (PySem.W.fnOf nm nm (defArgs st) (defBody st) (defScope st) .none kV doc pm an cdv ct), osl⟩) (c : PySem.W.codeIn K cdv nm = true) (k : PySem.W.keepIn K (.ref f) = true) :
    Fun K nm nm st fa (PySem.W.fnOf nm nm (defArgs st) (defBody st) (defScope st) .none kV doc pm an cdv ct) := by
  have e := hfa.symm.trans (PySem.W.mg_of X G a)
  cases e
  exact fun_mk l c k
/-- the law's end, where the promise needs what the top computed (names that stand loose) -/
theorem walk_ofX {l : PySem.W.OpenLaw} {n kk : Nat} {q : Program} {loose : List Str} {XP : (Str → Option Value) → Heap → Prop} {YP : World → Heap → Prop} {d : DefRec} {Kp : Params → PySem.W.Frag} {cx : World → CXT} {sq : World → Sp} {x : Str}
    (a1 : l.most = some n) (a2 : n ≤ sizeLine) (a3 : d.params.defaults = []) (a4 : Room kk callerA) (a5 : ∀ (w : World) (h : Heap), YP w h → (Kp w.params).In h)
    (a6 : ∀ (w : World) (mg : Str → Option Value) (fa : Addr) (h : Heap), (Kp w.params).In h → h.Ns mainGlobals mg → mg d.name = some (.ref fa) → XP mg h →
      ∃ fd : FuncData, (∀ (s : Shared) (u : Value), BindsTo s fd ⟨[u], []⟩ [(x, u)]) ∧ ∀ b : Heap, (Kp w.params).In b → b.Ns mainGlobals mg → FnOk l.prog w (Kp w.params) mg b (cx w) kk fa fd [x] (sq w))
    (a7 : ∀ (w : World) (H : Hp) (a : Addr) (ns : List Int), ns.length ≤ n → Only H → SqL (Kp w.params) H a (ns.map V.int) → sq w [.ref a] H (fun v _ => v = .bl true) fun _ _ _ => False)
    (a8 : ∀ (w : World) (H : Hp) (s : Shared) (e : Value) (s' : Shared), cx w [] H s (fun _ _ _ => False) e s' → False) :
    PySem.W.WalkO q loose XP YP l.row.toRowW d [] (fun f vs => PySem.call f vs) := by
  refine Att.attach_call a1 a3 fun w s0 s1 mg mb fa o pm cd doc a vs ns G Y _ _ _ hm ho hi hl hg => ?_
  obtain ⟨fd, hb, hF⟩ := a6 w mg fa _ (a5 w _ Y) G.T.g hm G.X
  exact law_call (a5 w _ Y) G.T.g G.T.b G.T.builtins G.T.nolimit hg ho hi (Nat.le_trans hl a2) a4 hF hb (fun H h1 h2 => a7 w H a ns hl h1 h2) fun H e s' => a8 w H s1 e s'
/-- the law's promise -/
theorem law_sp {fs : FSem} {n : Nat} (h1 : fs.mu = false) (h2 : fs.fr = false) (h3 : fs.ar = 1) (hL : ∀ ns : List Int, ns.length ≤ n → fs.f [.list (ns.map PyData.int)] = .ok (.bool true, [])) (H : Hp) (a : Addr) (ns : List Int) (hl : ns.length ≤ n) (hS : SqL K H a (ns.map V.int)) :
    spOf K cl fs [.ref a] H (fun v _ => v = .bl true) fun _ _ _ => False := by
  unfold spOf
  refine ⟨H, [.list (ns.map PyData.int)], none, Same.refl H, h3.symm, ?_, ?_⟩
  · rw [h1]
    exact ⟨rfl, .cons (.lst hS (RpAll.of_ints ns)) .nil⟩
  · rw [hL ns hl]
    intro v F' H' _ _ hr
    rw [h2] at hr
    have hr : Rp K F' v (.bool true) := hr
    cases hr
    rfl
end
end Rv

set_option Elab.async false
set_option linter.all false
set_option maxRecDepth 100000
set_option maxHeartbeats 4000000
/-! Rv15: rules that run the evaluator. -/
namespace Rv
open PySem

@[irreducible] def Ev (G : Genv) (e : E) (env : En) (d : D) (env' : En) : Prop := ev G e env = .ok (d, env')
@[irreducible] def Evs (G : Genv) (fr : Bool) (s : S) (env : En) (r : So) : Prop := evS G fr s env = r
section
variable {G : Genv} {fr : Bool} {env e1 e2 e3 e4 : En} {a b c es : E} {d x y z w : D} {i j n f : Nat} {k m : Bool} {l : List D}
theorem Ev.ok (h : Ev G a env d e1) : ev G a env = .ok (d, e1) := by unfold Ev at h; exact h
theorem Ev.of (h : ev G a env = .ok (d, e1)) : Ev G a env d e1 := by unfold Ev; exact h
theorem Evs.ok {s : S} {r : So} (h : Evs G fr s env r) : evS G fr s env = r := by unfold Evs at h; exact h
theorem Evs.of {s : S} {r : So} (h : evS G fr s env = r) : Evs G fr s env r := by unfold Evs; exact h
theorem Ev.var (h : env[i]? = some (.pd d)) : Ev G (.var i) env d env := by unfold Ev ev; rw [h]
theorem Ev.varO (h : env[i]? = some (.own l)) : Ev G (.var i) env (.list l) (env.set i (.pd (.list l))) := by unfold Ev ev; rw [h]
theorem Ev.peek (h : peekAt env i = some d) : Ev G (.peek i) env d env := by unfold Ev ev; rw [h]
theorem Ev.ci {i : Int} : Ev G (.ci i) env (.int i) env := by unfold Ev; rfl
theorem Ev.cs {i : Str} : Ev G (.cs i) env (.str i) env := by unfold Ev; rfl
theorem Ev.cb {i : Bool} : Ev G (.cb i) env (.bool i) env := by unfold Ev; rfl
theorem Ev.cn : Ev G .cn env .none env := by unfold Ev; rfl
theorem Ev.glb (h : G.gl n = some d) : Ev G (.glb n) env d env := by unfold Ev ev; rw [h]; rfl
theorem two_ok {fa fb : En → Rs (D × En)} (ha : fa env = .ok (x, e1)) (hb : fb e1 = .ok (y, e2)) : two fa fb none env = .ok ((x, y), e2) := by
  unfold two; dsimp only; rw [ha]; show (fb e1).bind _ = _; rw [hb]; rfl
theorem two_okP {fa fb : En → Rs (D × En)} (hb : fb env = .ok (y, e2)) (h1 : (peekAt env i).isSome = true) (h2 : peekAt e2 i = some x) : two fa fb (some i) env = .ok ((x, y), e2) := by
  unfold two; dsimp only; rw [if_pos h1, hb]; show (match peekAt e2 i with | some d => _ | none => _) = _; rw [h2]
theorem Ev.bin {o : Bop} (hp : peekOf a = none) (ha : Ev G a env x e1) (hb : Ev G b e1 y e2) (ho : o.f x y = some d) : Ev G (.bin o a b) env d e2 := by
  unfold Ev ev; rw [hp, two_ok (Ev.ok ha) (Ev.ok hb)]; show ret1 (o.f x y) e2 = _; rw [ho]; rfl
theorem Ev.binP {o : Bop} (hb : Ev G b env y e2) (h1 : (peekAt env i).isSome = true) (h2 : peekAt e2 i = some x) (ho : o.f x y = some d) : Ev G (.bin o (.peek i) b) env d e2 := by
  unfold Ev ev; rw [show peekOf (.peek i) = some i from rfl, two_okP (Ev.ok hb) h1 h2]; show ret1 (o.f x y) e2 = _; rw [ho]; rfl
theorem Ev.cmp {o : Cop} (hp : peekOf a = none) (ha : Ev G a env x e1) (hb : Ev G b e1 y e2) (ho : o.f x y = some d) : Ev G (.cmp o a b) env d e2 := by
  unfold Ev ev; rw [hp, two_ok (Ev.ok ha) (Ev.ok hb)]; show ret1 (o.f x y) e2 = _; rw [ho]; rfl
theorem Ev.cmpP {o : Cop} (hb : Ev G b env y e2) (h1 : (peekAt env i).isSome = true) (h2 : peekAt e2 i = some x) (ho : o.f x y = some d) : Ev G (.cmp o (.peek i) b) env d e2 := by
  unfold Ev ev; rw [show peekOf (.peek i) = some i from rfl, two_okP (Ev.ok hb) h1 h2]; show ret1 (o.f x y) e2 = _; rw [ho]; rfl
theorem Ev.neg {i : Int} (ha : Ev G a env (.int i) e1) : Ev G (.neg a) env (.int (-i)) e1 := by
  unfold Ev ev; rw [show ev G a env = _ from Ev.ok ha]; rfl
theorem Ev.chain {o q : Cop} (ha : Ev G a env x e1) (hb : Ev G b e1 y e2) (ho : o.f x y = some (.bool k)) (hc : k = true → ∃ z, Ev G c e2 z e2 ∧ q.f y z = some (.bool m)) : Ev G (.chain o q a b c) env (.bool (k && m)) e2 := by
  unfold Ev ev; rw [two_ok (Ev.ok ha) (Ev.ok hb)]
  show (match o.f x y with | some (.bool true) => _ | some (.bool false) => _ | _ => _) = _
  rw [ho]
  cases k with
  | false => rfl
  | true =>
    obtain ⟨z, h1, h2⟩ := hc rfl
    show (ev G c e2).bind _ = _
    rw [show ev G c e2 = _ from Ev.ok h1]
    show ret1 (q.f y z) e2 = _
    rw [h2]; rfl
theorem Ev.andB (ha : Ev G a env x e1) (ht : tru x = some k) (hx : k = false → x = .bool false) (hb : k = true → Ev G b e1 (.bool m) e1) : Ev G (.and_ a b) env (.bool (k && m)) e1 := by
  unfold Ev ev; rw [show ev G a env = _ from Ev.ok ha]
  show (match tru x with | some true => _ | some false => _ | none => _) = _
  rw [ht]
  cases k with
  | false => rw [hx rfl]; rfl
  | true => exact Ev.ok (hb rfl)
theorem Ev.orB (ha : Ev G a env x e1) (ht : tru x = some k) (hx : k = true → x = .bool true) (hb : k = false → Ev G b e1 (.bool m) e1) : Ev G (.or_ a b) env (.bool (k || m)) e1 := by
  unfold Ev ev; rw [show ev G a env = _ from Ev.ok ha]
  show (match tru x with | some true => _ | some false => _ | none => _) = _
  rw [ht]
  cases k with
  | true => rw [hx rfl]; rfl
  | false => exact Ev.ok (hb rfl)
theorem Ev.andT (ha : Ev G a env x e1) (ht : tru x = some true) (hb : Ev G b e1 d e2) : Ev G (.and_ a b) env d e2 := by
  unfold Ev ev; rw [show ev G a env = _ from Ev.ok ha]; show (match tru x with | some true => _ | some false => _ | none => _) = _; rw [ht]; exact Ev.ok hb
theorem Ev.andF (ha : Ev G a env x e1) (ht : tru x = some false) : Ev G (.and_ a b) env x e1 := by
  unfold Ev ev; rw [show ev G a env = _ from Ev.ok ha]; show (match tru x with | some true => _ | some false => _ | none => _) = _; rw [ht]
theorem Ev.orF (ha : Ev G a env x e1) (ht : tru x = some false) (hb : Ev G b e1 d e2) : Ev G (.or_ a b) env d e2 := by
  unfold Ev ev; rw [show ev G a env = _ from Ev.ok ha]; show (match tru x with | some true => _ | some false => _ | none => _) = _; rw [ht]; exact Ev.ok hb
theorem Ev.orT (ha : Ev G a env x e1) (ht : tru x = some true) : Ev G (.or_ a b) env x e1 := by
  unfold Ev ev; rw [show ev G a env = _ from Ev.ok ha]; show (match tru x with | some true => _ | some false => _ | none => _) = _; rw [ht]
theorem Ev.one (ha : Ev G a env x e1) : Ev G (.one a) env x e1 := by unfold Ev ev; exact Ev.ok ha
theorem Ev.not (ha : Ev G a env x e1) (ht : tru x = some k) : Ev G (.not_ a) env (.bool (!k)) e1 := by
  unfold Ev ev; rw [show ev G a env = _ from Ev.ok ha]; show (match tru x with | some k => _ | none => _) = _; rw [ht]
theorem Ev.notb (ha : Ev G a env (.bool k) e1) : Ev G (.not_ a) env (.bool (!k)) e1 := Ev.not ha rfl
theorem Ev.andb (ha : Ev G a env (.bool k) e1) (hb : k = true → Ev G b e1 (.bool m) e1) : Ev G (.and_ a b) env (.bool (k && m)) e1 := Ev.andB ha rfl (fun z => by rw [z]) hb
theorem Ev.orb (ha : Ev G a env (.bool k) e1) (hb : k = false → Ev G b e1 (.bool m) e1) : Ev G (.or_ a b) env (.bool (k || m)) e1 := Ev.orB ha rfl (fun z => by rw [z]) hb
theorem Ev.ite (hc : Ev G c env x e1) (ht : tru x = some k) (ha : k = true → Ev G a e1 y e2) (hb : k = false → Ev G b e1 z e2) : Ev G (.ite c a b) env (if k then y else z) e2 := by
  unfold Ev ev; rw [show ev G c env = _ from Ev.ok hc]; show (match tru x with | some true => _ | some false => _ | none => _) = _; rw [ht]
  cases k with
  | true => exact Ev.ok (ha rfl)
  | false => exact Ev.ok (hb rfl)
theorem Ev.iteT (hc : Ev G c env x e1) (ht : tru x = some true) (ha : Ev G a e1 y e2) : Ev G (.ite c a b) env y e2 := by
  unfold Ev ev; rw [show ev G c env = _ from Ev.ok hc]; show (match tru x with | some true => _ | some false => _ | none => _) = _; rw [ht]; exact Ev.ok ha
theorem Ev.iteF (hc : Ev G c env x e1) (ht : tru x = some false) (hb : Ev G b e1 y e2) : Ev G (.ite c a b) env y e2 := by
  unfold Ev ev; rw [show ev G c env = _ from Ev.ok hc]; show (match tru x with | some true => _ | some false => _ | none => _) = _; rw [ht]; exact Ev.ok hb
theorem Ev.nil : Ev G .nil env (.list []) env := by unfold Ev; rfl
theorem Ev.cons (hp : peekOf a = none) (ha : Ev G a env x e1) (hb : Ev G b e1 (.list l) e2) : Ev G (.cons a b) env (.list (x :: l)) e2 := by
  unfold Ev ev; rw [hp, two_ok (Ev.ok ha) (Ev.ok hb)]; rfl
theorem Ev.consP (hb : Ev G b env (.list l) e2) (h1 : (peekAt env i).isSome = true) (h2 : peekAt e2 i = some x) : Ev G (.cons (.peek i) b) env (.list (x :: l)) e2 := by
  unfold Ev ev; rw [show peekOf (.peek i) = some i from rfl, two_okP (Ev.ok hb) h1 h2]; rfl
theorem Ev.tup (h : Ev G es env (.list l) e1) (hl : l.length ≤ sizeLine) : Ev G (.tup es) env (.tuple l) e1 := by
  unfold Ev ev; rw [show ev G es env = _ from Ev.ok h]; show (if l.length ≤ sizeLine then _ else _) = _; rw [if_pos hl]
theorem Ev.lst (h : Ev G es env (.list l) e1) (hl : l.length ≤ sizeLine) : Ev G (.lst es) env (.list l) e1 := by
  unfold Ev ev; rw [show ev G es env = _ from Ev.ok h]; show (if l.length ≤ sizeLine then _ else _) = _; rw [if_pos hl]
theorem Ev.idx (hp : peekOf a = none) (ha : Ev G a env x e1) (hb : Ev G b e1 y e2) (ho : idxD x y = some d) : Ev G (.idx a b) env d e2 := by
  unfold Ev ev; rw [hp, two_ok (Ev.ok ha) (Ev.ok hb)]; show ret1 (idxD x y) e2 = _; rw [ho]; rfl
theorem Ev.idxP (hb : Ev G b env y e2) (h1 : (peekAt env i).isSome = true) (h2 : peekAt e2 i = some x) (ho : idxD x y = some d) : Ev G (.idx (.peek i) b) env d e2 := by
  unfold Ev ev; rw [show peekOf (.peek i) = some i from rfl, two_okP (Ev.ok hb) h1 h2]; show ret1 (idxD x y) e2 = _; rw [ho]; rfl
/-- a part of a slice -/
@[irreducible] def Evp (G : Genv) (e : E) (env : En) (o : Option Int) (env' : En) : Prop := partI (isNil e) (ev G e) env = .ok (o, env')
theorem Evp.ok {o : Option Int} (h : Evp G a env o e1) : partI (isNil a) (ev G a) env = .ok (o, e1) := by unfold Evp at h; exact h
theorem Evp.nil : Evp G .nil env none env := by unfold Evp; rfl
theorem Evp.some {i : Int} (hn : isNil a = false) (h : Ev G a env (.int i) e1) : Evp G a env (some i) e1 := by
  unfold Evp partI; rw [hn, if_neg Bool.false_ne_true, show ev G a env = _ from Ev.ok h]; rfl
theorem Ev.sl {o q : Option Int} (hp : peekOf a = none) (ha : Ev G a env x e1) (hb : Evp G b e1 o e2) (hc : Evp G c e2 q e3) (ho : slD x o q = some d) : Ev G (.sl a b c) env d e3 := by
  unfold Ev ev; rw [hp, show ev G a env = _ from Ev.ok ha]
  show (partI (isNil b) (ev G b) e1).bind _ = _
  rw [show partI (isNil b) (ev G b) e1 = _ from Evp.ok hb]
  show (partI (isNil c) (ev G c) e2).bind _ = _
  rw [show partI (isNil c) (ev G c) e2 = _ from Evp.ok hc]
  show ret1 (slD x o q) e3 = _
  rw [ho]; rfl
theorem Ev.slP {o q : Option Int} (h1 : (peekAt env i).isSome = true) (hb : Evp G b env o e2) (hc : Evp G c e2 q e3) (h2 : peekAt e3 i = some x) (ho : slD x o q = some d) : Ev G (.sl (.peek i) b c) env d e3 := by
  unfold Ev ev; rw [show peekOf (.peek i) = some i from rfl]; dsimp only
  rw [if_pos h1, show partI (isNil b) (ev G b) env = _ from Evp.ok hb]
  show (partI (isNil c) (ev G c) e2).bind _ = _
  rw [show partI (isNil c) (ev G c) e2 = _ from Evp.ok hc]
  show (match peekAt e3 i with | some d => _ | none => _) = _
  rw [h2]
  show ret1 (slD x o q) e3 = _
  rw [ho]; rfl
theorem Ev.revL (ha : Ev G a env (.list l) e1) : Ev G (.rev a) env (.list l.reverse) e1 := by unfold Ev ev; rw [show ev G a env = _ from Ev.ok ha]; rfl
theorem Ev.revT (ha : Ev G a env (.tuple l) e1) : Ev G (.rev a) env (.tuple l.reverse) e1 := by unfold Ev ev; rw [show ev G a env = _ from Ev.ok ha]; rfl
theorem Ev.bi {o : Bi} (h : Ev G es env (.list l) e1) (ho : o.f l = some d) : Ev G (.bi o es) env d e1 := by
  unfold Ev ev; rw [show ev G es env = _ from Ev.ok h]; show ret1 (o.f l) e1 = _; rw [ho]; rfl
theorem Ev.isi {t : Ty} (h : Ev G a env x e1) (ho : isiD x t = some d) : Ev G (.isi a t) env d e1 := by
  unfold Ev ev; rw [show ev G a env = _ from Ev.ok h]; show ret1 (isiD x t) e1 = _; rw [ho]; rfl
theorem Ev.call {fs : FSem} {r : List D} (hf : G.fn f = some fs) (h : Ev G es env (.list l) e1) (hm : (fs.mu || !(l.length == fs.ar)) = false) (hr : fs.f l = .ok (d, r)) (hdd : (fs.fr && isDictD d) = false := by rfl) : Ev G (.call f es) env d e1 := by
  unfold Ev ev; rw [show ev G es env = _ from Ev.ok h]
  show (match PyData.list l, G.fn f with | .list l, some fs => _ | _, _ => _) = _
  rw [hf]; dsimp only
  rw [hm, if_neg Bool.false_ne_true, hr]
  show (if (fs.fr && isDictD d) = true then _ else _) = _
  rw [hdd, if_neg Bool.false_ne_true]
theorem Ev.callm {fs : FSem} {c r : List D} (hf : G.fn f = some fs) (h0 : (heldAt env i).isSome = true) (h : Ev G es env (.list l) e1) (hc : heldAt e1 i = some c) (hm : (fs.mu && (l.length + 1 == fs.ar)) = true) (hr : fs.f (.list c :: l) = .ok (d, r)) (hdd : (fs.fr && isDictD d) = false := by rfl) : Ev G (.callm f i es) env d (setHeld e1 i r) := by
  unfold Ev ev; rw [if_pos h0, show ev G es env = _ from Ev.ok h]
  show (match PyData.list l, G.fn f, heldAt e1 i with | .list l, some fs, some c => _ | _, _, _ => _) = _
  rw [hf, hc]; dsimp only
  rw [if_pos hm, hr]
  show (if (fs.fr && isDictD d) = true then _ else _) = _
  rw [hdd, if_neg Bool.false_ne_true]
theorem Ev.sset {ns : List Int} (h : Ev G a env (.list (ns.map PyData.int)) e1) (hl : ns.length < 4000) (hd : (sdI ns).length < 64) : Ev G (.sset a) env (.list ((sdI ns).map PyData.int)) e1 := by
  have hi : ∀ ns : List Int, intsD? (ns.map PyData.int) = some ns := fun ns => by
    induction ns with
    | nil => rfl
    | cons x r ih => rw [List.map_cons]; unfold intsD?; rw [ih]; rfl
  unfold Ev ev; rw [show ev G a env = _ from Ev.ok h]
  show (match intsD? (ns.map PyData.int) with | some ns => _ | none => _) = _
  rw [hi]; dsimp only; rw [if_pos ⟨hl, hd⟩]
theorem strsD_map : ∀ xs : List Str, strsD? (xs.map PyData.str) = some xs
  | [] => rfl
  | x :: r => by rw [List.map_cons]; unfold strsD?; rw [strsD_map r]; rfl
theorem Ev.ssetT {xs : List Str} (h : Ev G a env (.tuple (xs.map PyData.str)) e1) (hl : xs.length < 4000) : Ev G (.sset a) env (.list ((sdS xs).map PyData.str)) e1 := by
  unfold Ev ev; rw [show ev G a env = _ from Ev.ok h]
  show ssetS (xs.map PyData.str) e1 = _
  unfold ssetS
  rw [strsD_map]; dsimp only; rw [if_pos hl]
theorem Ev.ssetL {xs : List Str} (h : Ev G a env (.list (xs.map PyData.str)) e1) (hl : xs.length < 4000) : Ev G (.sset a) env (.list ((sdS xs).map PyData.str)) e1 := by
  cases xs with
  | nil => exact Ev.sset (ns := []) h (by decide) (by decide)
  | cons x r =>
    unfold Ev ev; rw [show ev G a env = _ from Ev.ok h]
    show (if (strsD? ((x :: r).map PyData.str)).isSome then ssetS ((x :: r).map PyData.str) e1 else ssetM ((x :: r).map PyData.str) e1) = _
    rw [if_pos (by rw [strsD_map]; rfl)]
    unfold ssetS
    rw [strsD_map]; dsimp only; rw [if_pos hl]
theorem keysAll_map : ∀ ks : List (List L2.Key), keysAll? (ks.map tupK) = some ks
  | [] => rfl
  | k :: r => by
    rw [List.map_cons]
    unfold keysAll?
    rw [show keyOf (tupK k) = some k from keysK_kD k, keysAll_map r]
theorem Ev.ssetK {ks : List (List L2.Key)} (h : Ev G a env (.list (ks.map tupK)) e1) (hne : ks ≠ []) (hl : ks.length < 64) (ho : sortOk ((nubK ks).map tupK) = true) : Ev G (.sset a) env (.list (srt ((nubK ks).map tupK))) e1 := by
  obtain ⟨k, r, rfl⟩ : ∃ k r, ks = k :: r := by
    cases ks with
    | nil => exact absurd rfl hne
    | cons k r => exact ⟨k, r, rfl⟩
  unfold Ev ev; rw [show ev G a env = _ from Ev.ok h]
  show ssetM ((k :: r).map tupK) e1 = _
  unfold ssetM
  rw [keysAll_map]; dsimp only; rw [if_pos (by rw [decide_eq_true hl, ho]; rfl)]
theorem Ev.dlist {kvs : List (List L2.Key × D)} (h : dicAt env i = some kvs) (hl : kvs.length ≤ sizeLine) : Ev G (.dlist i) env (.list (keysD kvs)) env := by
  unfold Ev ev; rw [h]; dsimp only; rw [if_pos hl]
theorem Ev.meth {m : Mt} (hp : peekOf a = none) (ha : Ev G a env (.list l) e1) (hb : Ev G b e1 y e2) (ho : m.f (.list l) y = some d) : Ev G (.meth m a b) env d e2 := by
  unfold Ev ev; rw [hp]; dsimp only; rw [show ev G a env = _ from Ev.ok ha]
  show ((ev G b e1).bind fun r => ret1 (m.f (.list l) r.1) r.2) = _
  rw [show ev G b e1 = _ from Ev.ok hb]; show ret1 (m.f (.list l) y) e2 = _; rw [ho]; rfl
theorem Ev.methP {m : Mt} (h0 : peekAt env i = some (.list l)) (hb : Ev G b env y e2) (h2 : peekAt e2 i = some x) (ho : m.f x y = some d) : Ev G (.meth m (.peek i) b) env d e2 := by
  unfold Ev ev; rw [show peekOf (.peek i) = some i from rfl]; dsimp only; rw [h0]; dsimp only
  rw [show ev G b env = _ from Ev.ok hb]
  show (match peekAt e2 i with | some d => _ | none => _) = _
  rw [h2]; show ret1 (m.f x y) e2 = _; rw [ho]; rfl
theorem Ev.dkeys {kvs : List (List L2.Key × D)} (h : dicAt env i = some kvs) : Ev G (.dkeys i) env (.list (keysD kvs)) (env.set i (.dif kvs)) := by
  unfold Ev ev; rw [h]
theorem Ev.ksort {kvs : List (L2.Key × D)} {ks : List Int} (h : dikAt env i = some kvs) (h2 : keyInts kvs = some ks) (h3 : ks.Nodup) (h4 : ks.length < 64) : Ev G (.ksort i) env (.list ((sdI ks).map PyData.int)) env := by
  unfold Ev ev; rw [h]; dsimp only; rw [h2]; dsimp only; rw [decide_eq_true h3, decide_eq_true h4]; rfl
theorem Ev.flat {j k : Nat} {m : List D} {own : List (Str × Nat)} (h : Ev G a env d e1) (hi : itemsOf d = some l) (hm : flatD l = some m) (hn : noHeld e1 (own.map (·.2)) = true) (hl : m.length ≤ sizeLine) (hj : j < e1.length) (hk : k < e1.length) : Ev G (.flat a own j k) env (.list m) e1 := by
  unfold Ev ev; rw [show ev G a env = _ from Ev.ok h]
  show (match itemsOf d with | some l => _ | none => _) = _
  rw [hi]; dsimp only; rw [hm]; dsimp only; rw [hn, decide_eq_true hl, decide_eq_true hj, decide_eq_true hk]; rfl
theorem Ev.din {neg : Bool} {ks : List L2.Key} {kvs : List (List L2.Key × D)} (h : Ev G a env d e1) (hk : keyOf d = some ks) (hd : dicAt e1 i = some kvs) : Ev G (.din neg a i) env (.bool (if neg then !(lookD kvs ks).isSome else (lookD kvs ks).isSome)) e1 := by
  unfold Ev ev; rw [show ev G a env = _ from Ev.ok h]
  show (match keyOf d, dicAt e1 i with | some ks, some kvs => _ | _, _ => _) = _
  rw [hk, hd]
theorem Ev.dget {ks : List L2.Key} {kvs kv0 : List (List L2.Key × D)} (h0 : dicAt env i = some kv0) (h : Ev G a env d e1) (hk : keyOf d = some ks) (hd : dicAt e1 i = some kvs) : Ev G (.dget i a) env ((lookD kvs ks).getD .none) e1 := by
  unfold Ev ev; rw [h0, if_pos (show (some kv0).isSome = true from rfl), show ev G a env = _ from Ev.ok h]
  show (match keyOf d, dicAt e1 i with | some ks, some kvs => _ | _, _ => _) = _
  rw [hk, hd]
theorem Ev.dgetd {ks : List L2.Key} {kvs kv0 : List (List L2.Key × D)} (h0 : dicAt env i = some kv0) (h : Ev G a env d e1) (h2 : Ev G b e1 y e2) (hk : keyOf d = some ks) (hd : dicAt e2 i = some kvs) : Ev G (.dgetd i a b) env ((lookD kvs ks).getD y) e2 := by
  unfold Ev ev; rw [h0, if_pos (show (some kv0).isSome = true from rfl), show ev G a env = _ from Ev.ok h]
  show ((ev G b e1).bind _) = _
  rw [show ev G b e1 = _ from Ev.ok h2]
  show (match keyOf d, dicAt e2 i with | some ks, some kvs => _ | _, _ => _) = _
  rw [hk, hd]
theorem Ev.didx {ks : List L2.Key} {kvs kv0 : List (List L2.Key × D)} (h0 : dicAt env i = some kv0) (h : Ev G a env d e1) (hk : keyOf d = some ks) (hd : dicAt e1 i = some kvs) (hl : lookD kvs ks = some y) : Ev G (.didx i a) env y e1 := by
  unfold Ev ev; rw [h0, if_pos (show (some kv0).isSome = true from rfl), show ev G a env = _ from Ev.ok h]
  show (match keyOf d, dicAt e1 i with | some ks, some kvs => _ | _, _ => _) = _
  rw [hk, hd]; dsimp only; rw [hl]; rfl
theorem Ev.dsort {kvs : List (List L2.Key × D)} (h : dicAt env i = some kvs) (ho : sortD [.list (keysD kvs)] = some d) : Ev G (.dsort i) env d env := by
  unfold Ev ev; rw [h]; dsimp only; rw [ho]; rfl
theorem Ev.lrng {i : Int} (h : Ev G a env (.int i) e1) (ho : (rngOk i && decide (i ≤ 16777216)) = true) : Ev G (.lrng a) env (.list (rngD 0 i)) e1 := by
  unfold Ev ev; rw [show ev G a env = _ from Ev.ok h]; dsimp only [Rs.bind]; rw [if_pos ho]
theorem Ev.csort {fs : FSem} {r : List D} {kvs : List (List L2.Key × D)} (hf : G.fn f = some fs) (h : Ev G es env (.list l) e1) (hm : (fs.mu || !(l.length == fs.ar) || !fs.fr) = false) (hr : fs.f l = .ok (.dict (encD kvs), r)) (ho : sortD [.list (keysD kvs)] = some d) : Ev G (.csort f es) env d e1 := by
  unfold Ev ev; rw [show ev G es env = _ from Ev.ok h, hf]; dsimp only [Rs.bind]; rw [hm, if_neg Bool.false_ne_true, hr]; dsimp only; rw [decD_encD]; dsimp only; rw [ho]; rfl
theorem Ev.rng1 {i : Int} (h : Ev G a env (.int i) e1) (ho : rngOk i = true) : Ev G (.rng1 a) env (.list (rngD 0 i)) e1 := by
  unfold Ev ev; rw [show ev G a env = _ from Ev.ok h]; show (if rngOk i = true then _ else _) = _; rw [if_pos ho]
theorem Ev.rng2 {i j : Int} (h : Ev G a env (.int i) e1) (h2 : Ev G b e1 (.int j) e2) (ho : (rngOk i && rngOk j) = true) : Ev G (.rng2 a b) env (.list (rngD i j)) e2 := by
  unfold Ev ev; rw [two_ok (Ev.ok h) (Ev.ok h2)]; show (if (rngOk i && rngOk j) = true then _ else _) = _; rw [if_pos ho]
theorem Ev.zipL {l r : List D} (h : Ev G a env (.list l) e1) (h2 : Ev G b e1 (.list r) e2) : Ev G (.zip a b) env (.list (List.zipWith (fun d e => PyData.tuple [d, e]) l r)) e2 := by
  unfold Ev ev; rw [two_ok (Ev.ok h) (Ev.ok h2)]; rfl
theorem Ev.zipT {l r : List D} (h : Ev G a env (.tuple l) e1) (h2 : Ev G b e1 (.tuple r) e2) : Ev G (.zip a b) env (.list (List.zipWith (fun d e => PyData.tuple [d, e]) l r)) e2 := by
  unfold Ev ev; rw [two_ok (Ev.ok h) (Ev.ok h2)]; rfl
theorem Ev.lzip {l r : List D} (h : Ev G a env (.list l) e1) (h2 : Ev G b e1 (.list r) e2) : Ev G (.lzip a b) env (.list (List.zipWith (fun d e => PyData.tuple [d, e]) l r)) e2 := by
  unfold Ev ev; rw [two_ok (Ev.ok h) (Ev.ok h2)]; rfl
theorem Ev.enum (h : Ev G a env x e1) (hl : seqOf x = some l) : Ev G (.enum a) env (.list (List.zipWith (fun (k : Nat) e => PyData.tuple [.int (k : Int), e]) (List.range l.length) l)) e1 := by
  unfold Ev ev; rw [show ev G a env = _ from Ev.ok h]; show (match seqOf x with | some x => _ | none => _) = _; rw [hl]
theorem Ev.lc {elt it cond : E} {tg : Tg} {own : List (Str × Nat)} {r : List D} (h : Ev G it env x e1) (hl : itemsOf x = some l) (hn : (noHeld e1 (own.map (·.2)) && decide (l.length ≤ sizeLine)) = true)
    (hg : cgo (asgT tg) (condF (isNil cond) (ev G cond)) (ev G elt) (own.map (·.2)) l (wipeE e1 (own.map (·.2))) [] = .ok (r, e2)) (hr : restE e2 e1 (own.map (·.2)) = e3) : Ev G (.lc elt tg it cond own) env (.list r) e3 := by
  unfold Ev ev; rw [show ev G it env = _ from Ev.ok h]
  show (match itemsOf x with | some l => _ | none => _) = _
  rw [hl]; dsimp only; rw [if_pos hn, hg]; subst hr; rfl
/-! ### comprehensions -/
/-- the block leaves the names as they were -/
theorem cgo_map {asg : D → En → Option En} {cond elt : En → Rs (D × En)} {vs : List Nat} {env : En} (f : D → D) (p : D → Bool) : ∀ (xs : List D) (acc : List D),
    (∀ x ∈ xs, ∃ e1 c e2, asg x env = some e1 ∧ cond e1 = .ok (c, e2) ∧ tru c = some (p x) ∧ (p x = false → wipeE e2 vs = env) ∧ (p x = true → ∃ e3, elt e2 = .ok (f x, e3) ∧ wipeE e3 vs = env)) →
    cgo asg cond elt vs xs env acc = .ok (acc ++ (xs.filter p).map f, env)
  | [], acc, _ => by unfold cgo; simp
  | x :: xs, acc, h => by
    obtain ⟨e1, c, e2, h1, h2, h3, h4, h5⟩ := h x List.mem_cons_self
    have ih := fun acc => cgo_map f p xs acc fun y hy => h y (List.mem_cons_of_mem _ hy)
    unfold cgo
    rw [h1]; dsimp only; rw [h2]
    show (match tru c with | some true => _ | some false => _ | none => _) = _
    rw [h3]
    cases hp : p x with
    | false =>
      show cgo _ _ _ _ _ (wipeE e2 vs) _ = _
      rw [h4 hp, ih, List.filter_cons_of_neg (by rw [hp]; exact Bool.false_ne_true)]
    | true =>
      obtain ⟨e3, g1, g2⟩ := h5 hp
      show ((elt e2).nox.bind fun q => _) = _
      rw [g1]
      show cgo _ _ _ _ _ (wipeE e3 vs) _ = _
      rw [g2, ih, List.filter_cons_of_pos hp, List.map_cons, List.append_assoc]; rfl
theorem cgo_all {asg : D → En → Option En} {cond elt : En → Rs (D × En)} {vs : List Nat} {env : En} (f : D → D) (xs : List D)
    (h : ∀ x ∈ xs, ∃ e1 c e2 e3, asg x env = some e1 ∧ cond e1 = .ok (c, e2) ∧ tru c = some true ∧ elt e2 = .ok (f x, e3) ∧ wipeE e3 vs = env) :
    cgo asg cond elt vs xs env [] = .ok (xs.map f, env) := by
  have := cgo_map (asg := asg) (cond := cond) (elt := elt) (vs := vs) (env := env) f (fun _ => true) xs [] fun x hx => by
    obtain ⟨e1, c, e2, e3, h1, h2, h3, h4, h5⟩ := h x hx
    exact ⟨e1, c, e2, h1, h2, h3, fun z => Bool.noConfusion z, fun _ => ⟨e3, h4, h5⟩⟩
  rw [List.nil_append, List.filter_eq_self.mpr fun _ _ => rfl] at this
  exact this
/-- .. by an invariant of what is made and of the names -/
theorem cgo_inv {asg : D → En → Option En} {cond elt : En → Rs (D × En)} {vs : List Nat} (P : List D → List D → En → Prop) : ∀ (xs : List D) (acc : List D) (env : En), P xs acc env →
    (∀ x xs acc env, P (x :: xs) acc env → ∃ e1 c e2 k, asg x env = some e1 ∧ cond e1 = .ok (c, e2) ∧ tru c = some k ∧ (k = false → P xs acc (wipeE e2 vs)) ∧ (k = true → ∃ y e3, elt e2 = .ok (y, e3) ∧ P xs (acc ++ [y]) (wipeE e3 vs))) →
    ∃ out e, cgo asg cond elt vs xs env acc = .ok (out, e) ∧ P [] out e
  | [], acc, env, h, _ => ⟨acc, env, rfl, h⟩
  | x :: xs, acc, env, h, hs => by
    obtain ⟨e1, c, e2, k, h1, h2, h3, h4, h5⟩ := hs x xs acc env h
    cases k with
    | false =>
      obtain ⟨out, e, g1, g2⟩ := cgo_inv P xs acc _ (h4 rfl) hs
      refine ⟨out, e, ?_, g2⟩
      unfold cgo
      rw [h1]; dsimp only; rw [h2]
      show (match tru c with | some true => _ | some false => _ | none => _) = _
      rw [h3]
      exact g1
    | true =>
      obtain ⟨y, e3, q1, q2⟩ := h5 rfl
      obtain ⟨out, e, g1, g2⟩ := cgo_inv P xs (acc ++ [y]) _ q2 hs
      refine ⟨out, e, ?_, g2⟩
      unfold cgo
      rw [h1]; dsimp only; rw [h2]
      show (match tru c with | some true => _ | some false => _ | none => _) = _
      rw [h3]
      show ((elt e2).nox.bind fun q => _) = _
      rw [q1]
      exact g1
/-! ### statements -/
variable {r : So} {s t : S}
theorem after_ok {k : D → En → So} : after (.ok (x, e1)) k = k x e1 := rfl
theorem Evs.nil : Evs G fr .nil env (.nx env) := by unfold Evs; rfl
theorem Evs.skip : Evs G fr .skip env (.nx env) := by unfold Evs; rfl
theorem Evs.seq (h1 : Evs G fr s env (.nx e1)) (h2 : Evs G fr t e1 r) : Evs G fr (.seq s t) env r := by
  unfold Evs evS; rw [show evS G fr s env = _ from Evs.ok h1]; exact Evs.ok h2
theorem Evs.seqX (h1 : Evs G fr s env r) (h2 : ∀ e, r ≠ .nx e) : Evs G fr (.seq s t) env r := by
  unfold Evs evS; rw [show evS G fr s env = _ from Evs.ok h1]
  cases r <;> first | rfl | exact absurd rfl (h2 _)
theorem Evs.set {o : Bool} (h : Ev G a env d e1) (hs : setS e1 i (mkSl o d) = some e2) : Evs G fr (.set o i a) env (.nx e2) := by
  unfold Evs evS; rw [show ev G a env = _ from Ev.ok h]; show oNx (setS e1 i (mkSl o d)) = _; rw [hs]; rfl
theorem Evs.asg {tg : Tg} (h : Ev G a env d e1) (hs : asgT tg d e1 = some e2) : Evs G fr (.asg tg a) env (.nx e2) := by
  unfold Evs evS; rw [show ev G a env = _ from Ev.ok h]; show oNx (asgT tg d e1) = _; rw [hs]; rfl
theorem Evs.par2 {o q : Bool} (h : Ev G a env x e1) (h2 : Ev G b e1 y e2) (hs : setS e2 i (mkSl o x) = some e3) (hs2 : setS e3 j (mkSl q y) = some e4) : Evs G fr (.par2 i o a j q b) env (.nx e4) := by
  unfold Evs evS
  rw [show ev G a env = _ from Ev.ok h, after_ok, show ev G b e1 = _ from Ev.ok h2, after_ok, hs]
  show oNx (setS e3 j (mkSl q y)) = _
  rw [hs2]; rfl
theorem Evs.parT {tg : Tg} {q : Bool} (h : Ev G a env x e1) (h2 : Ev G b e1 y e2) (hs : asgT tg x e2 = some e3) (hs2 : setS e3 j (mkSl q y) = some e4) : Evs G fr (.parT tg a j q b) env (.nx e4) := by
  unfold Evs evS
  rw [show ev G a env = _ from Ev.ok h, after_ok, show ev G b e1 = _ from Ev.ok h2, after_ok, hs]
  show oNx (setS e3 j (mkSl q y)) = _
  rw [hs2]; rfl
theorem Evs.dnew (hs : setS env i (.dic []) = some e1) : Evs G fr (.dnew i) env (.nx e1) := by unfold Evs evS; rw [hs]; rfl
theorem Evs.knew (hs : setS env i (.dik []) = some e1) : Evs G fr (.knew i) env (.nx e1) := by unfold Evs evS; rw [hs]; rfl
theorem Evs.kupd {kvs kv0 more : List (L2.Key × D)} (h0 : dikAt env i = some kv0) (h : Ev G a env d e1) (hd : dikAt e1 i = some kvs) (hm : prsOf d = some more) (hl : kvs.length + more.length ≤ sizeLine) : Evs G fr (.kupd i a) env (.nx (e1.set i (.dik (mergQ kvs (mergQ [] more))))) := by
  unfold Evs evS kupdS; rw [h0, if_pos (show (some kv0).isSome = true from rfl), show ev G a env = _ from Ev.ok h, after_ok, hd, hm]; dsimp only; rw [if_pos hl]
theorem Evs.dput {ks : List L2.Key} {kvs kv0 : List (List L2.Key × D)} (h : Ev G b env d e1) (h0 : dicOw e1 i = some kv0) (h2 : Ev G a e1 x e2) (hd : dicOw e2 i = some kvs) (hk : keyOf x = some ks) (hl : kvs.length < sizeLine) : Evs G fr (.dput i a b) env (.nx (e2.set i (.dic (putD kvs ks d)))) := by
  unfold Evs evS dputS; rw [show ev G b env = _ from Ev.ok h, after_ok, h0, if_pos (show (some kv0).isSome = true from rfl), show ev G a e1 = _ from Ev.ok h2, after_ok, hd, hk]; dsimp only; rw [if_pos hl]
theorem Evs.parD {q : Bool} {ks : List L2.Key} (h : Ev G a env x e1) (h2 : Ev G b e1 y e2) (hk : keyOf x = some ks) (h3 : Ev G c e2 z e3) {e5 : En} (hs : setS e3 i (.dic [(ks, y)]) = some e4) (hs2 : setS e4 j (mkSl q z) = some e5) : Evs G fr (.parD i a b j q c) env (.nx e5) := by
  unfold Evs evS parDS; rw [show ev G a env = _ from Ev.ok h, after_ok, show ev G b e1 = _ from Ev.ok h2, after_ok, hk]; dsimp only; rw [show ev G c e2 = _ from Ev.ok h3, after_ok, hs]
  show oNx (setS e4 j (mkSl q z)) = _
  rw [hs2]; rfl
theorem Evs.dnw1 {ks : List L2.Key} (h : Ev G a env x e1) (h2 : Ev G b e1 y e2) (hk : keyOf x = some ks) (hs : setS e2 i (.dic [(ks, y)]) = some e3) : Evs G fr (.dnw1 i a b) env (.nx e3) := by
  unfold Evs evS dnw1S; rw [show ev G a env = _ from Ev.ok h, after_ok, show ev G b e1 = _ from Ev.ok h2, after_ok, hk]; dsimp only; rw [hs]; rfl
theorem Evs.dupd {it : E} {tg : Tg} {own : List (Str × Nat)} {kvs kv0 acc : List (List L2.Key × D)} (h0 : dicOw env i = some kv0) (h : Ev G it env d e1) (hl : itemsOf d = some l) (hn : (noHeld e1 (own.map (·.2)) && decide (l.length ≤ sizeLine)) = true)
    (hg : dgo (asgT tg) (ev G a) (ev G b) (own.map (·.2)) l (wipeE e1 (own.map (·.2))) [] = .ok (acc, e2)) (hr : restE e2 e1 (own.map (·.2)) = e3) (hk : dicOw e3 i = some kvs) (hc : (!kvs.isEmpty && decide (kvs.length + acc.length ≤ sizeLine)) = true) :
    Evs G fr (.dupd i a b tg it own) env (.nx (e3.set i (.dic (mergD kvs acc)))) := by
  unfold Evs evS dupdS
  rw [h0, if_pos (show (some kv0).isSome = true from rfl), show ev G it env = _ from Ev.ok h, after_ok, hl]
  dsimp only
  rw [if_pos hn, hg]
  show (match dicOw (restE e2 e1 (own.map (·.2))) i with | some kvs => _ | none => _) = _
  rw [hr, hk]; dsimp only; rw [if_pos hc]
theorem dgo_const {α : Type} {asg : D → En → Option En} {fk fv : En → Rs (D × En)} {vs : List Nat} {W : En} {enc : α → D} {kf : α → List L2.Key} {vf : α → D} : ∀ (xs : List α), (∀ x ∈ xs, ∃ e1 e2 e3 kd, asg (enc x) W = some e1 ∧ fk e1 = .ok (kd, e2) ∧ fv e2 = .ok (vf x, e3) ∧ keyOf kd = some (kf x) ∧ wipeE e3 vs = W) →
    ∀ acc, dgo asg fk fv vs (xs.map enc) W acc = .ok (xs.foldl (fun a x => putD a (kf x) (vf x)) acc, W)
  | [], _, acc => rfl
  | x :: xs, h, acc => by
    obtain ⟨e1, e2, e3, kd, h1, h2, h3, h4, h5⟩ := h x List.mem_cons_self
    rw [List.map_cons]
    unfold dgo
    rw [h1]; dsimp only; rw [h2]; simp only [Rs.nox, Rs.bind]; rw [h3]; dsimp only; rw [h4]; dsimp only; rw [h5]
    exact dgo_const xs (fun y hy => h y (List.mem_cons_of_mem _ hy)) _
theorem Evs.par3 {o q w' : Bool} {e5 e6 : En} (h : Ev G a env x e1) (h2 : Ev G b e1 y e2) (h3 : Ev G c e2 z e3) (hs : setS e3 i (mkSl o x) = some e4) (hs2 : setS e4 j (mkSl q y) = some e5) (hs3 : setS e5 n (mkSl w' z) = some e6) : Evs G fr (.par3 i o a j q b n w' c) env (.nx e6) := by
  unfold Evs evS
  rw [show ev G a env = _ from Ev.ok h, after_ok, show ev G b e1 = _ from Ev.ok h2, after_ok, show ev G c e2 = _ from Ev.ok h3, after_ok, hs]
  show oNx ((setS e4 j (mkSl q y)).bind fun e5 => setS e5 n (mkSl w' z)) = _
  rw [hs2]
  show oNx (setS e5 n (mkSl w' z)) = _
  rw [hs3]; rfl
theorem Evs.aug {sub : Bool} (hx : env[i]? = some (.pd x)) (h : Ev G a env y e1) (hz : augD sub x y = some z) (hs : setS e1 i (.pd z) = some e2) : Evs G fr (.aug i sub a) env (.nx e2) := by
  unfold Evs evS; rw [hx]; dsimp only; rw [show ev G a env = _ from Ev.ok h]
  show (match augD sub x y with | some z => _ | none => _) = _
  rw [hz]; show oNx (setS e1 i (.pd z)) = _; rw [hs]; rfl
theorem Evs.augl {l m : List D} (h0 : (heldAt env i).isSome = true) (h : Ev G a env (.list m) e1) (h1 : heldAt e1 i = some l) (hl : l.length + m.length ≤ sizeLine) : Evs G fr (.augl i a) env (.nx (setHeld e1 i (l ++ m))) := by
  unfold Evs evS auglS; rw [if_pos h0, show ev G a env = _ from Ev.ok h, after_ok, h1]; dsimp only; rw [if_pos hl]
theorem Evs.daug {sub : Bool} {ks : List L2.Key} {kvs kvs2 kv0 : List (List L2.Key × D)} {u v : Int} (h0 : dicOw env i = some kv0) (h : Ev G a env x e1) (hk : keyOf x = some ks) (hd : dicOw e1 i = some kvs) (hl : lookD kvs ks = some (.int u)) (h2 : Ev G b e1 (.int v) e2) (hd2 : dicOw e2 i = some kvs2) (hz : kvs2.length < sizeLine) :
    Evs G fr (.daug i a sub b) env (.nx (e2.set i (.dic (putD kvs2 ks (.int (if sub then u - v else u + v)))))) := by
  unfold Evs evS daugS; rw [if_pos (by rw [h0]; rfl), show ev G a env = _ from Ev.ok h, after_ok, hk, hd]; dsimp only; rw [hl]; dsimp only; rw [show ev G b e1 = _ from Ev.ok h2, after_ok, hd2]; dsimp only; rw [if_pos hz]
theorem Evs.dup2 {ea eb ec ed : E} {e5 : En} {u v : D} {k1 k2 : List L2.Key} {kvs kv0 : List (List L2.Key × D)} (h0 : dicOw env i = some kv0) (h1 : Ev G ea env x e1) (h2 : Ev G eb e1 u e2) (h3 : Ev G ec e2 y e3) (h4 : Ev G ed e3 v e5) (hk1 : keyOf x = some k1) (hk2 : keyOf y = some k2) (hd : dicOw e5 i = some kvs)
    (hc : ((!kvs.isEmpty || (smallK k1 && smallK k2)) && decide (kvs.length + 2 ≤ sizeLine)) = true) : Evs G fr (.dup2 i ea eb ec ed) env (.nx (e5.set i (.dic (mergD kvs (putD [(k1, u)] k2 v))))) := by
  unfold Evs evS dup2S; rw [if_pos (by rw [h0]; rfl), show ev G ea env = _ from Ev.ok h1, after_ok, show ev G eb e1 = _ from Ev.ok h2, after_ok, show ev G ec e2 = _ from Ev.ok h3, after_ok, show ev G ed e3 = _ from Ev.ok h4, after_ok, hk1, hk2, hd]; dsimp only; rw [if_pos hc]
theorem Evs.parN {q : Bool} (h : Ev G b env y e1) (hs : setS e1 i (.dic []) = some e2) (hs2 : setS e2 j (mkSl q y) = some e3) : Evs G fr (.parN i j q b) env (.nx e3) := by
  unfold Evs evS parNS; rw [show ev G b env = _ from Ev.ok h, after_ok, hs]; show oNx (setS e2 j (mkSl q y)) = _; rw [hs2]; rfl
theorem Evs.dcm {it : E} {tg : Tg} {own : List (Str × Nat)} {acc : List (List L2.Key × D)} {e5 : En} (h : Ev G it env d e1) (hl : itemsOf d = some l) (hn : (noHeld e1 (own.map (·.2)) && decide (l.length ≤ sizeLine)) = true)
    (hg : dgo (asgT tg) (ev G a) (ev G b) (own.map (·.2)) l (wipeE e1 (own.map (·.2))) [] = .ok (acc, e2)) (hs : setS (restE e2 e1 (own.map (·.2))) i (.dic acc) = some e5) : Evs G fr (.dcm i a b tg it own) env (.nx e5) := by
  unfold Evs evS dcmS; rw [show ev G it env = _ from Ev.ok h, after_ok, hl]; dsimp only; rw [if_pos hn, hg]; show oNx (setS (restE e2 e1 (own.map (·.2))) i (.dic acc)) = _; rw [hs]; rfl
theorem Evs.expr (h : Ev G a env d e1) : Evs G fr (.expr a) env (.nx e1) := by unfold Evs evS; rw [show ev G a env = _ from Ev.ok h]; rfl
theorem Evs.app {l : List D} (h0 : (heldAt env i).isSome = true) (h : Ev G a env d e1) (h1 : heldAt e1 i = some l) (hl : l.length < sizeLine) : Evs G fr (.app i a) env (.nx (setHeld e1 i (l ++ [d]))) := by
  unfold Evs evS; rw [if_pos h0, show ev G a env = _ from Ev.ok h]
  show (match heldAt e1 i with | some l => _ | none => _) = _
  rw [h1]; dsimp only; rw [if_pos hl]
theorem Evs.seti {l l2 : List D} (h : Ev G b env d e1) (h0 : (heldAt e1 i).isSome = true) (hk : Ev G a e1 x e2) (h1 : heldAt e2 i = some l) (hs : setD l x d = some l2) : Evs G fr (.seti i a b) env (.nx (setHeld e2 i l2)) := by
  unfold Evs evS; rw [show ev G b env = _ from Ev.ok h]
  show (if (heldAt e1 i).isSome then _ else _) = _
  rw [if_pos h0, show ev G a e1 = _ from Ev.ok hk]
  show (match heldAt e2 i with | some l => _ | none => _) = _
  rw [h1]; dsimp only; rw [hs]
theorem Evs.ifT (h : Ev G c env x e1) (ht : tru x = some true) (h2 : Evs G fr s e1 r) : Evs G fr (.if_ c s t) env r := by
  unfold Evs evS; rw [show ev G c env = _ from Ev.ok h]; show (match tru x with | some true => _ | some false => _ | none => _) = _; rw [ht]; exact Evs.ok h2
theorem Evs.ifF (h : Ev G c env x e1) (ht : tru x = some false) (h2 : Evs G fr t e1 r) : Evs G fr (.if_ c s t) env r := by
  unfold Evs evS; rw [show ev G c env = _ from Ev.ok h]; show (match tru x with | some true => _ | some false => _ | none => _) = _; rw [ht]; exact Evs.ok h2
theorem Evs.if_ (h : Ev G c env x e1) (ht : tru x = some k) (h1 : k = true → Evs G fr s e1 r) (h2 : k = false → Evs G fr t e1 r) : Evs G fr (.if_ c s t) env r := by
  cases k with
  | true => exact .ifT h ht (h1 rfl)
  | false => exact .ifF h ht (h2 rfl)
theorem Evs.ret (h : Ev G a env d e1) (hf : (fr && !isFresh G a && isListD d) = false) : Evs G fr (.ret a) env (.rt d e1) := by
  unfold Evs evS; rw [show ev G a env = _ from Ev.ok h]; show (if (fr && !isFresh G a && isListD d) = true then _ else _) = _; rw [hf, if_neg Bool.false_ne_true]
theorem Evs.retO {l : List D} (h : env[i]? = some (.own l)) : Evs G true (.retO i) env (.rt (.list l) env) := by
  unfold Evs evS; rw [if_pos rfl, h]
theorem Evs.retD {kvs : List (List L2.Key × D)} (h : dicOw env i = some kvs) : Evs G true (.retD i) env (.rt (.dict (encD kvs)) env) := by
  unfold Evs evS; rw [if_pos rfl, h]
theorem Evs.setD {f : Nat} {fs : FSem} {r : List D} {l : List D} {kvs : List (List L2.Key × D)} (h : Ev G a env (.list l) e1) (hf : G.fn f = some fs) (hm : (fs.mu || !(l.length == fs.ar) || !fs.fr) = false) (hr : fs.f l = .ok (.dict (encD kvs), r)) (hs : setS e1 i (.dic kvs) = some e2) :
    Evs G fr (.setD i f a) env (.nx e2) := by
  unfold Evs evS setDS; rw [show ev G a env = _ from Ev.ok h, after_ok, hf]; dsimp only; rw [hm, if_neg Bool.false_ne_true, hr]; dsimp only; rw [decD_encD]; dsimp only; rw [hs]; rfl
theorem Evs.retN : Evs G fr .retN env (.rt .none env) := by unfold Evs; rfl
theorem Evs.brk : Evs G fr .brk env (.bk env) := by unfold Evs; rfl
theorem Evs.cont : Evs G fr .cont env (.ct env) := by unfold Evs; rfl
/-- a loop by an invariant: what is left, the names -/
theorem forGo_inv {asg : D → En → Option En} {body : En → So} (P : List D → En → Prop) : ∀ (xs : List D) (env : En), P xs env →
    (∀ x xs env, P (x :: xs) env → ∃ e1 e2, asg x env = some e1 ∧ (body e1 = .nx e2 ∨ body e1 = .ct e2) ∧ P xs e2) → ∃ e, forGo asg body xs env = .nx e ∧ P [] e
  | [], env, h, _ => ⟨env, rfl, h⟩
  | x :: xs, env, h, hs => by
    obtain ⟨e1, e2, h1, h2, h3⟩ := hs x xs env h
    obtain ⟨e, g1, g2⟩ := forGo_inv P xs e2 h3 hs
    refine ⟨e, ?_, g2⟩
    unfold forGo
    rw [h1]; dsimp only
    rcases h2 with h2 | h2 <;> (rw [h2]; exact g1)
theorem Evs.for_ {tg : Tg} {it : E} {l : List D} (h : Ev G it env x e1) (hl : itemsOf x = some l) (hg : forGo (asgT tg) (evS G fr s) l e1 = r) : Evs G fr (.for_ tg it s) env r := by
  unfold Evs evS; rw [show ev G it env = _ from Ev.ok h]; show (match itemsOf x with | some l => _ | none => _) = _; rw [hl]; exact hg
theorem whGo_T {cond : En → Rs (D × En)} {body : En → So} {n : Nat} (h : cond env = .ok (x, e1)) (ht : tru x = some true) (hb : body e1 = .nx e2 ∨ body e1 = .ct e2) : whGo cond body (n + 1) env = whGo cond body n e2 := by
  show after (cond env) _ = _
  rw [h]; show (match tru x with | some true => _ | some false => _ | none => _) = _; rw [ht]; dsimp only
  rcases hb with hb | hb <;> rw [hb]
theorem whGo_F {cond : En → Rs (D × En)} {body : En → So} {n : Nat} (h : cond env = .ok (x, e1)) (ht : tru x = some false) : whGo cond body (n + 1) env = .nx e1 := by
  show after (cond env) _ = _
  rw [h]; show (match tru x with | some true => _ | some false => _ | none => _) = _; rw [ht]
/-- a while by an invariant and a measure below the fuel -/
theorem whGo_inv {cond : En → Rs (D × En)} {body : En → So} (P : Nat → En → Prop) (R : En → Prop) (hs : ∀ m env, P m env → ∃ x e1 k, cond env = .ok (x, e1) ∧ tru x = some k ∧ (k = false → R e1) ∧ (k = true → ∃ e2 m', (body e1 = .nx e2 ∨ body e1 = .ct e2) ∧ m' < m ∧ P m' e2)) :
    ∀ (n m : Nat) (env : En), m < n → P m env → ∃ e, whGo cond body n env = .nx e ∧ R e
  | 0, m, env, h, _ => absurd h (Nat.not_lt_zero m)
  | n + 1, m, env, h, hp => by
    obtain ⟨x, e1, k, h1, h2, h3, h4⟩ := hs m env hp
    cases k with
    | false => exact ⟨e1, whGo_F h1 h2, h3 rfl⟩
    | true =>
      obtain ⟨e2, m', g1, g2, g3⟩ := h4 rfl
      obtain ⟨e, q1, q2⟩ := whGo_inv P R hs n m' e2 (by omega) g3
      exact ⟨e, by rw [whGo_T h1 h2 g1]; exact q1, q2⟩
theorem Evs.while_ (h : whGo (ev G c) (evS G fr s) n env = r) : Evs G fr (.while_ n c s) env r := by unfold Evs evS; exact h
/-- a def's answer -/
theorem sem_rt {F : Fn} {ds r' : List D} (h : Evs G F.fr F.body (startE F.mu F.N.length ds) (.rt d e1)) (hh : held0 F.mu e1 = r') : (semF G F).f ds = .ok (d, r') := by
  show outF F.mu (evS G F.fr F.body (startE F.mu F.N.length ds)) = _
  rw [show evS G F.fr F.body _ = _ from Evs.ok h, ← hh]; rfl
theorem sem_rt2 {F : Fn} {ds r' : List D} (h : ∃ e1, Evs G F.fr F.body (startE F.mu F.N.length ds) (.rt d e1) ∧ held0 F.mu e1 = r') : (semF G F).f ds = .ok (d, r') := let ⟨_, h1, h2⟩ := h; sem_rt h1 h2
theorem sem_nx {F : Fn} {ds r' : List D} (h : Evs G F.fr F.body (startE F.mu F.N.length ds) (.nx e1)) (hh : held0 F.mu e1 = r') : (semF G F).f ds = .ok (.none, r') := by
  show outF F.mu (evS G F.fr F.body (startE F.mu F.N.length ds)) = _
  rw [show evS G F.fr F.body _ = _ from Evs.ok h, ← hh]; rfl
end
/-! ### side facts -/
theorem mulOk_l {i j : Int} (h1 : -(2 ^ 64) < i) (h2 : i < 2 ^ 64) : mulOk i j = true := by unfold mulOk; rw [decide_eq_true h1, decide_eq_true h2]; rfl
theorem mulOk_r {i j : Int} (h1 : -(2 ^ 64) < j) (h2 : j < 2 ^ 64) : mulOk i j = true := by unfold mulOk; rw [decide_eq_true h1, decide_eq_true h2, Bool.true_and, Bool.or_true, Bool.true_or]
theorem mul_l {i j : Int} (h1 : -(2 ^ 64) < i) (h2 : i < 2 ^ 64) : Bop.mul.f (.int i) (.int j) = some (.int (i * j)) := by
  show (if mulOk i j = true then _ else _) = _; rw [if_pos (mulOk_l h1 h2)]
theorem mul_r {i j : Int} (h1 : -(2 ^ 64) < j) (h2 : j < 2 ^ 64) : Bop.mul.f (.int i) (.int j) = some (.int (i * j)) := by
  show (if mulOk i j = true then _ else _) = _; rw [if_pos (mulOk_r h1 h2)]
theorem mod_p {i j : Int} (h : 0 < j) : Bop.mod.f (.int i) (.int j) = some (.int (i % j)) := by show (if 0 < j then _ else _) = _; rw [if_pos h]
theorem fdiv_p {i j : Int} (h : 0 < j) (h2 : j.natAbs.log2 < 9000) : Bop.fdiv.f (.int i) (.int j) = some (.int (i / j)) := by show (if 0 < j ∧ j.natAbs.log2 < 9000 then _ else _) = _; rw [if_pos ⟨h, h2⟩]
theorem log2_small {n : Nat} (h : n < 2 ^ 64) : n.log2 < 9000 := by
  by_cases h0 : n = 0
  · subst h0; decide
  · have := (Nat.log2_lt h0).mpr h; omega
end Rv

set_option Elab.async false
set_option linter.all false
set_option maxRecDepth 100000
set_option maxHeartbeats 4000000
namespace K26
open PySem Rv
def topS (i : Nat) : Stmt := PySem.Challenge.pw_leadlights_k26_whole_fitting_shards.main.body.getD i (.Pass ⟨0, 0, 0, 0⟩)
def b_is_whole : S := .seq (.ret (.and_ (.isi (.var 0) .int) (.one (.not_ (.isi (.var 0) .bool))))) .nil
def f_is_whole : Fn := ⟨"is_whole", topS 5, ["value"], ["value"], false, false, b_is_whole⟩
def b_fits_whole : S := .seq (.ret (.and_ (.call 0 (.cons (.var 0) .nil)) (.one (.chain .le .le (.var 1) (.var 0) (.var 2))))) .nil
def f_fits_whole : Fn := ⟨"fits_whole", topS 6, ["value", "low", "high"], ["value", "low", "high"], false, false, b_fits_whole⟩
def b_is_tuple_of : S := .seq (.ret (.and_ (.isi (.var 0) .tuple) (.one (.chain .le .le (.var 1) (.bi .len (.cons (.peek 0) .nil)) (.var 2))))) .nil
def f_is_tuple_of : Fn := ⟨"is_tuple_of", topS 7, ["value", "least", "most"], ["value", "least", "most"], false, false, b_is_tuple_of⟩
def b_fits_edge : S := .seq (.ret (.and_ (.call 2 (.cons (.var 0) (.cons (.ci 1) (.cons (.glb 0) .nil)))) (.one (.bi .all (.cons (.lc (.call 1 (.cons (.var 1) (.cons (.ci 1) (.cons (.glb 1) .nil)))) (.nm 1) (.var 0) .nil [("one", 1)]) .nil))))) .nil
def f_fits_edge : Fn := ⟨"fits_edge", topS 12, ["value", "one"], ["value"], false, false, b_fits_edge⟩
def b_fits_shards : S := .seq (.if_ (.or_ (.not_ (.call 2 (.cons (.var 0) (.cons (.ci 0) (.cons (.glb 2) .nil))))) (.one (.not_ (.bi .all (.cons (.lc (.call 2 (.cons (.var 1) (.cons (.ci 2) (.cons (.ci 2) .nil)))) (.nm 1) (.var 0) .nil [("one", 1)]) .nil))))) (.seq (.ret (.cb false)) .nil) (.nil)) (.seq (.if_ (.not_ (.bi .all (.cons (.lc (.and_ (.call 3 (.cons (.var 3) .nil)) (.one (.call 3 (.cons (.var 4) .nil)))) (.tup (.cons (.nm 3) (.cons (.nm 4) .nil))) (.var 0) .nil [("left", 3), ("right", 4)]) .nil))) (.seq (.ret (.cb false)) .nil) (.nil)) (.seq (.ret (.bi .all (.cons (.lc (.cmp .le (.peek 1) (.peek 2)) (.tup (.cons (.nm 1) (.cons (.nm 2) .nil))) (.zip (.var 0) (.sl (.peek 0) (.ci 1) .nil)) .nil [("one", 1), ("other", 2)]) .nil))) .nil))
def f_fits_shards : Fn := ⟨"fits_shards", topS 13, ["value", "one", "other", "left", "right"], ["value"], false, false, b_fits_shards⟩
def b_need_shards : S := .seq (.if_ (.not_ (.call 4 (.cons (.var 0) .nil))) (.seq (.never) .nil) (.nil)) .nil
def f_need_shards : Fn := ⟨"need_shards", topS 14, ["value"], ["value"], false, false, b_need_shards⟩
def b_edges_in : S := .seq (.ret (.sset (.flat (.var 0) [("shard", 1), ("edge", 2)] 1 2))) .nil
def f_edges_in : Fn := ⟨"edges_in", topS 15, ["shards", "shard", "edge"], ["shards"], false, false, b_edges_in⟩
def b_parts_in : S := .seq (.par2 1 false (.lrng ((.bi .len (.cons (.peek 0) .nil)))) 2 true (.lst (.nil))) (.seq (.while_ 1000000 (.cmp .ne (.peek 1) (.lst (.nil))) (.seq (.par2 3 false (.lst (.cons (.idx (.peek 1) (.ci 0)) .nil)) 4 true (.lst (.cons (.idx (.peek 1) (.ci 0)) .nil))) (.seq (.set false 1 (.sl (.peek 1) (.ci 1) .nil)) (.seq (.while_ 1000000 (.cmp .ne (.peek 4) (.lst (.nil))) (.seq (.set false 5 (.idx (.peek 0) (.pop 4))) (.seq (.set false 6 (.lc (.var 7) (.nm 7) (.var 1) (.bi .any (.cons (.lc (.cmp .isin (.peek 8) (.peek 5)) (.nm 8) (.idx (.peek 0) (.var 7)) .nil [("edge", 8)]) .nil)) [("at", 7)])) (.seq (.set false 1 (.lc (.var 7) (.nm 7) (.var 1) (.cmp .notin (.peek 7) (.peek 6)) [("at", 7)])) (.seq (.par2 3 false (.bin .add (.peek 3) (.peek 6)) 4 true (.bin .add (.peek 4) (.peek 6))) .nil))))) (.seq (.app 2 (.bi .sorted (.cons (.peek 3) .nil))) .nil))))) (.seq (.ret (.var 2)) .nil))
def f_parts_in : Fn := ⟨"parts_in", topS 16, ["shards", "left", "found", "part", "line", "own", "more", "at", "edge"], ["shards"], false, false, b_parts_in⟩
def b_excess_in : S := .seq (.dcm 1 (.var 4) (.ci 0) (.nm 4) (.call 6 (.cons (.var 0) .nil)) [("edge", 4)]) (.seq (.for_ (.tup (.cons (.nm 2) (.cons (.nm 3) .nil))) (.var 0) (.seq (.daug 1 (.var 2) false (.ci 1)) (.seq (.daug 1 (.var 3) true (.ci 1)) .nil))) (.seq (.retD 1) .nil))
def f_excess_in : Fn := ⟨"excess_in", topS 17, ["shards", "found", "left", "right", "edge"], ["shards"], false, true, b_excess_in⟩
def b_are_shards : S := .seq (.ret (.call 4 (.cons (.var 0) .nil))) .nil
def f_are_shards : Fn := ⟨"are_shards", topS 18, ["value"], ["value"], false, false, b_are_shards⟩
def b_shard_edges : S := .seq (.expr (.call 5 (.cons (.var 0) .nil))) (.seq (.ret (.bi .tuple (.cons (.call 6 (.cons (.var 0) .nil)) .nil))) .nil)
def f_shard_edges : Fn := ⟨"shard_edges", topS 19, ["shards"], ["shards"], false, false, b_shard_edges⟩
def b_fit_pairs : S := .seq (.expr (.call 5 (.cons (.var 0) .nil))) (.seq (.set true 1 (.lst (.nil))) (.seq (.for_ (.nm 2) (.rng1 (.bi .len (.cons (.peek 0) .nil))) (.seq (.augl 1 (.lc (.tup (.cons (.var 2) (.cons (.var 3) .nil))) (.nm 3) (.rng1 (.bi .len (.cons (.peek 0) .nil))) (.and_ (.cmp .ne (.peek 3) (.peek 2)) (.one (.cmp .eq (.idx (.idx (.peek 0) (.var 2)) (.ci 1)) (.idx (.idx (.peek 0) (.var 3)) (.ci 0))))) [("other", 3)])) .nil)) (.seq (.ret (.bi .tuple (.cons (.peek 1) .nil))) .nil)))
def f_fit_pairs : Fn := ⟨"fit_pairs", topS 20, ["shards", "found", "one", "other"], ["shards"], false, false, b_fit_pairs⟩
def b_shard_parts : S := .seq (.expr (.call 5 (.cons (.var 0) .nil))) (.seq (.ret (.bi .tuple (.cons (.lc (.bi .tuple (.cons (.peek 1) .nil)) (.nm 1) (.call 7 (.cons (.var 0) .nil)) .nil [("part", 1)]) .nil))) .nil)
def f_shard_parts : Fn := ⟨"shard_parts", topS 21, ["shards", "part"], ["shards"], false, false, b_shard_parts⟩
def b_edge_excess : S := .seq (.expr (.call 5 (.cons (.var 0) .nil))) (.seq (.setD 1 8 (.cons (.var 0) .nil)) (.seq (.ret (.bi .tuple (.cons (.lc (.tup (.cons (.var 2) (.cons (.didx 1 (.var 2)) .nil))) (.nm 2) (.dsort 1) (.cmp .ne (.didx 1 (.var 2)) (.ci 0)) [("edge", 2)]) .nil))) .nil))
def f_edge_excess : Fn := ⟨"edge_excess", topS 22, ["shards", "excess", "edge"], ["shards"], false, false, b_edge_excess⟩
def b_shards_with : S := .seq (.expr (.call 5 (.cons (.var 0) .nil))) (.seq (.if_ (.not_ (.call 1 (.cons (.var 1) (.cons (.ci 1) (.cons (.glb 1) .nil))))) (.seq (.never) .nil) (.nil)) (.seq (.ret (.bi .tuple (.cons (.lc (.var 2) (.tup (.cons (.nm 2) (.cons (.nm 3) .nil))) (.enum (.var 0)) (.bi .any (.cons (.lc (.cmp .isin (.peek 1) (.peek 4)) (.nm 4) (.var 3) .nil [("edge", 4)]) .nil)) [("at", 2), ("shard", 3)]) .nil))) .nil))
def f_shards_with : Fn := ⟨"shards_with", topS 23, ["shards", "length", "at", "shard", "edge"], ["shards", "length"], false, false, b_shards_with⟩
def b_law_cup : S := .seq (.set false 1 (.bi .abs (.cons (.idx (.bin .add (.bi .list (.cons (.peek 0) .nil)) (.lst (.cons (.ci 0) .nil))) (.ci 0)) .nil))) (.seq (.ret (.lst (.cons (.ite (.cmp .ge (.peek 1) (.bin .pow (.ci 10) (.ci 18))) (.bin .fdiv (.peek 1) (.ci 101)) (.ci 0)) (.cons (.bin .add (.bin .mod (.bi .int (.cons (.bin .add (.bin .mul (.peek 1) (.ci 347)) (.ci 3929)) .nil)) (.ci 2077502087)) (.ci 223)) .nil)))) .nil)
def f_law_cup : Fn := ⟨"_law_cup", topS 25, ["script", "cell"], ["script"], false, true, b_law_cup⟩
def b_law_roll : S := .seq (.if_ (.cmp .gt (.idx (.peek 0) (.ci 0)) (.ci 0)) (.seq (.set false 3 (.bin .mod (.bi .int (.cons (.idx (.peek 0) (.ci 0)) .nil)) (.peek 1))) (.seq (.seti 0 (.ci 0) (.bin .fdiv (.idx (.peek 0) (.ci 0)) (.peek 1))) (.seq (.ret (.var 3)) .nil))) (.nil)) (.seq (.seti 0 (.ci 1) (.bin .mod (.bi .int (.cons (.bin .add (.bin .mul (.idx (.peek 0) (.ci 1)) (.ci 30757)) (.ci 7793)) .nil)) (.ci 2147482951))) (.seq (.set false 2 (.bin .mod (.bi .int (.cons (.bin .mul (.idx (.peek 0) (.ci 1)) (.bin .add (.idx (.peek 0) (.ci 1)) (.ci 239))) .nil)) (.ci 2147483059))) (.seq (.ret (.bin .mod (.bi .int (.cons (.bin .fdiv (.peek 2) (.ci 839)) .nil)) (.peek 1))) .nil)))
def f_law_roll : Fn := ⟨"_law_roll", topS 26, ["cup", "many", "deep", "found"], ["cup", "many"], true, false, b_law_roll⟩
def b_law_some : S := .seq (.ret (.idx (.peek 1) (.callm 16 0 (.cons (.bi .len (.cons (.peek 1) .nil)) .nil)))) .nil
def f_law_some : Fn := ⟨"_law_some", topS 27, ["cup", "things"], ["cup", "things"], true, false, b_law_some⟩
def b_law_same (self : Nat) : S := .seq (.if_ (.isi (.var 1) .tuple) (.seq (.if_ (.or_ (.not_ (.isi (.var 0) .tuple)) (.one (.cmp .ne (.bi .len (.cons (.peek 0) .nil)) (.bi .len (.cons (.peek 1) .nil))))) (.seq (.ret (.cb false)) .nil) (.nil)) (.seq (.ret (.bi .all (.cons (.lc (.call self (.cons (.idx (.peek 0) (.var 2)) (.cons (.idx (.peek 1) (.var 2)) .nil))) (.nm 2) (.rng1 (.bi .len (.cons (.peek 1) .nil))) .nil [("at", 2)]) .nil))) .nil)) (.nil)) (.seq (.if_ (.cmp .is (.peek 1) (.cn)) (.seq (.ret (.cmp .is (.peek 0) (.cn))) .nil) (.nil)) (.seq (.if_ (.isi (.var 1) .bool) (.seq (.ret (.ite (.var 1) (.cmp .is (.peek 0) (.cb true)) (.cmp .is (.peek 0) (.cb false)))) .nil) (.nil)) (.seq (.if_ (.isi (.var 1) .int) (.seq (.ret (.and_ (.isi (.var 0) .int) (.and_ (.not_ (.isi (.var 0) .bool)) (.one (.cmp .eq (.bi .int (.cons (.peek 0) .nil)) (.peek 1)))))) .nil) (.nil)) (.seq (.ret (.and_ (.isi (.var 0) .str) (.one (.cmp .eq (.bi .str (.cons (.peek 0) .nil)) (.peek 1))))) .nil))))
def f_law_same_0 : Fn := ⟨"_law_same", topS 28, ["told", "due", "at"], ["told", "due"], false, false, .never⟩
def f_law_same_1 : Fn := ⟨"_law_same", topS 28, ["told", "due", "at"], ["told", "due"], false, false, b_law_same 18⟩
def f_law_same_2 : Fn := ⟨"_law_same", topS 28, ["told", "due", "at"], ["told", "due"], false, false, b_law_same 19⟩
def f_law_same_3 : Fn := ⟨"_law_same", topS 28, ["told", "due", "at"], ["told", "due"], false, false, b_law_same 20⟩
def f_law_same_4 : Fn := ⟨"_law_same", topS 28, ["told", "due", "at"], ["told", "due"], false, false, b_law_same 21⟩
def f_law_same_5 : Fn := ⟨"_law_same", topS 28, ["told", "due", "at"], ["told", "due"], false, false, b_law_same 22⟩
def b_law_shards : S := .seq (.set false 3 (.lc (.bi .tuple (.cons (.lc (.bin .add (.ci 1) (.callm 16 0 (.cons (.ci 3) .nil))) (.nm 5) (.rng1 (.bin .add (.ci 1) (.callm 16 0 (.cons (.ci 3) .nil)))) .nil [("turn", 5)]) .nil)) (.nm 4) (.rng1 (.var 2)) .nil [("edge", 4)])) (.seq (.ret (.bi .tuple (.cons (.bi .sorted (.cons (.lc (.tup (.cons (.callm 17 0 (.cons (.var 3) .nil)) (.cons (.callm 17 0 (.cons (.var 3) .nil)) .nil))) (.nm 5) (.rng1 (.callm 16 0 (.cons (.bin .add (.peek 1) (.ci 1)) .nil))) .nil [("turn", 5)]) .nil)) .nil))) .nil)
def f_law_shards : Fn := ⟨"_law_shards", topS 29, ["cup", "many", "edges", "some", "edge", "turn"], ["cup", "many", "edges"], true, false, b_law_shards⟩
def b_law_parts : S := .seq (.set false 1 (.lst (.nil))) (.seq (.for_ (.tup (.cons (.nm 2) (.cons (.nm 3) .nil))) (.enum (.var 0)) (.seq (.set false 4 (.lc (.var 6) (.nm 6) (.var 1) (.cmp .ne (.lc (.ci 1) (.nm 7) (.var 6) (.or_ (.cmp .isin (.idx (.idx (.peek 0) (.var 7)) (.ci 0)) (.peek 3)) (.one (.cmp .isin (.idx (.idx (.peek 0) (.var 7)) (.ci 1)) (.peek 3)))) [("other", 7)]) (.lst (.nil))) [("part", 6)])) (.seq (.set false 5 (.lst (.cons (.var 2) .nil))) (.seq (.for_ (.nm 6) (.var 4) (.seq (.set false 5 (.bin .add (.peek 5) (.bi .list (.cons (.peek 6) .nil)))) .nil)) (.seq (.set false 1 (.bin .add (.lc (.var 6) (.nm 6) (.var 1) (.cmp .notin (.peek 6) (.peek 4)) [("part", 6)]) (.lst (.cons (.bi .tuple (.cons (.bi .sorted (.cons (.peek 5) .nil)) .nil)) .nil)))) .nil))))) (.seq (.ret (.bi .sorted (.cons (.peek 1) .nil))) .nil))
def f_law_parts : Fn := ⟨"_law_parts", topS 30, ["shards", "found", "at", "own", "joined", "whole", "part", "other"], ["shards"], false, false, b_law_parts⟩
def b_law_excess : S := .seq (.dnew 1) (.seq (.for_ (.tup (.cons (.nm 2) (.cons (.nm 3) .nil))) (.var 0) (.seq (.dput 1 (.var 2) (.bin .add (.dgetd 1 (.var 2) (.ci 0)) (.ci 1))) (.seq (.dput 1 (.var 3) (.bin .sub (.dgetd 1 (.var 3) (.ci 0)) (.ci 1))) .nil))) (.seq (.retD 1) .nil))
def f_law_excess : Fn := ⟨"_law_excess", topS 31, ["shards", "found", "left", "right"], ["shards"], false, true, b_law_excess⟩
def b_law_is_edge : S := .seq (.if_ (.or_ (.not_ (.isi (.var 0) .tuple)) (.one (.not_ (.chain .le .le (.ci 1) (.bi .len (.cons (.peek 0) .nil)) (.ci 6))))) (.seq (.ret (.cb false)) .nil) (.nil)) (.seq (.ret (.cmp .eq (.lc (.var 1) (.nm 1) (.var 0) (.or_ (.not_ (.isi (.var 1) .int)) (.or_ (.isi (.var 1) .bool) (.one (.not_ (.chain .le .le (.ci 1) (.var 1) (.ci 20)))))) [("one", 1)]) (.lst (.nil)))) .nil)
def f_law_is_edge : Fn := ⟨"_law_is_edge", topS 32, ["value", "one"], ["value"], false, false, b_law_is_edge⟩
def b_law_are_shards : S := .seq (.if_ (.or_ (.not_ (.isi (.var 0) .tuple)) (.or_ (.cmp .gt (.bi .len (.cons (.peek 0) .nil)) (.ci 30)) (.one (.cmp .ne (.lc (.var 1) (.nm 1) (.var 0) (.or_ (.not_ (.isi (.var 1) .tuple)) (.one (.cmp .ne (.bi .len (.cons (.peek 1) .nil)) (.ci 2)))) [("one", 1)]) (.lst (.nil)))))) (.seq (.ret (.cb false)) .nil) (.nil)) (.seq (.if_ (.cmp .ne (.lc (.var 1) (.nm 1) (.var 0) (.or_ (.not_ (.call 27 (.cons (.idx (.peek 1) (.ci 0)) .nil))) (.one (.not_ (.call 27 (.cons (.idx (.peek 1) (.ci 1)) .nil))))) [("one", 1)]) (.lst (.nil))) (.seq (.ret (.cb false)) .nil) (.nil)) (.seq (.ret (.cmp .eq (.bi .list (.cons (.peek 0) .nil)) (.bi .sorted (.cons (.peek 0) .nil)))) .nil))
def f_law_are_shards : Fn := ⟨"_law_are_shards", topS 33, ["value", "one"], ["value"], false, false, b_law_are_shards⟩
def b_law_near : S := .seq (.set false 2 (.tup (.cons (.ci 20) (.cons (.ci 20) .nil)))) (.seq (.set false 3 (.lst (.cons (.tup (.cons (.var 2) (.cons (.tup (.nil)) .nil))) (.cons (.tup (.cons (.var 2) (.cons (.tup (.cons (.ci 0) .nil)) .nil))) (.cons (.tup (.cons (.var 2) (.cons (.tup (.cons (.ci 21) .nil)) .nil))) (.cons (.tup (.cons (.var 2) (.cons (.bin .mul (.tup (.cons (.ci 20) .nil)) (.ci 6)) .nil))) (.cons (.tup (.cons (.var 2) (.cons (.bin .mul (.tup (.cons (.ci 1) .nil)) (.ci 7)) .nil))) (.cons (.tup (.cons (.var 2) (.cons (.tup (.cons (.cb true) .nil)) .nil))) (.cons (.tup (.cons (.var 2) (.cons (.tup (.cons (.cn) .nil)) .nil))) (.cons (.tup (.cons (.var 2) (.cons (.lst (.cons (.ci 1) .nil)) .nil))) (.cons (.tup (.cons (.var 2) .nil)) .nil))))))))))) (.seq (.set false 3 (.bin .add (.peek 3) (.lst (.cons (.lst (.cons (.var 2) (.cons (.var 2) .nil))) (.cons (.cn) (.cons (.tup (.cons (.var 2) (.cons (.var 2) (.cons (.var 2) .nil)))) (.cons (.tup (.cons (.var 2) (.cons (.ci 5) .nil))) (.cons (.tup (.cons (.cs "ab") (.cons (.var 2) .nil))) (.cons (.tup (.cons (.var 2) (.cons (.var 2) .nil))) .nil))))))))) (.seq (.set false 4 (.lst (.cons (.var 1) (.cons (.rev (.peek 1)) (.cons (.bi .list (.cons (.peek 1) .nil)) (.cons (.cn) (.cons (.tup (.nil)) (.cons (.cs "shards") (.cons (.ci 5) (.cons (.bin .add (.peek 1) (.sl (.peek 1) (.neg (.ci 1)) .nil)) (.cons (.bin .mul (.tup (.cons (.tup (.cons (.var 2) (.cons (.var 2) .nil))) .nil)) (.ci 30)) (.cons (.bin .mul (.tup (.cons (.tup (.cons (.var 2) (.cons (.var 2) .nil))) .nil)) (.ci 31)) .nil)))))))))))) (.seq (.ret (.bin .add (.bin .add (.peek 4) (.lc (.bin .add (.peek 1) (.tup (.cons (.var 5) .nil))) (.nm 5) (.var 3) .nil [("odd", 5)])) (.lc (.bin .add (.tup (.cons (.var 5) .nil)) (.peek 1)) (.nm 5) (.var 3) .nil [("odd", 5)]))) .nil))))
def f_law_near : Fn := ⟨"_law_near", topS 34, ["cup", "shards", "good", "odds", "found", "odd"], ["cup", "shards"], true, false, b_law_near⟩
def b_law_right : S := .seq (.set false 1 (.callm 24 0 (.cons (.callm 17 0 (.cons (.lst (.cons (.ci 4) (.cons (.ci 12) .nil))) .nil)) (.cons (.callm 17 0 (.cons (.lst (.cons (.ci 2) (.cons (.ci 5) .nil))) .nil)) .nil)))) (.seq (.parN 6 7 false (.lst (.nil))) (.seq (.for_ (.tup (.cons (.nm 8) (.cons (.nm 9) .nil))) (.var 1) (.seq (.dup2 6 (.var 8) (.cb true) (.var 9) (.cb true)) .nil)) (.seq (.for_ (.tup (.cons (.nm 10) (.cons (.nm 11) .nil))) (.enum (.var 1)) (.seq (.set false 7 (.bin .add (.peek 7) (.lc (.tup (.cons (.var 10) (.cons (.var 14) .nil))) (.tup (.cons (.nm 14) (.cons (.nm 15) .nil))) (.enum (.var 1)) (.and_ (.cmp .ne (.peek 14) (.peek 10)) (.one (.cmp .eq (.idx (.peek 11) (.ci 1)) (.idx (.peek 15) (.ci 0))))) [("other", 14), ("two", 15)]))) .nil)) (.seq (.set false 2 (.tup (.cons (.call 10 (.cons (.var 1) .nil)) (.cons (.call 11 (.cons (.var 1) .nil)) (.cons (.call 12 (.cons (.var 1) .nil)) .nil))))) (.seq (.if_ (.not_ (.call 23 (.cons (.var 2) (.cons (.tup (.cons (.bi .tuple (.cons (.dsort 6) .nil)) (.cons (.bi .tuple (.cons (.peek 7) .nil)) (.cons (.bi .tuple (.cons (.call 25 (.cons (.var 1) .nil)) .nil)) .nil)))) .nil)))) (.seq (.ret (.cb false)) .nil) (.nil)) (.seq (.setD 3 26 (.cons (.var 1) .nil)) (.seq (.if_ (.not_ (.call 23 (.cons (.call 13 (.cons (.var 1) .nil)) (.cons (.bi .tuple (.cons (.lc (.tup (.cons (.var 16) (.cons (.didx 3 (.var 16)) .nil))) (.nm 16) (.dsort 3) (.cmp .ne (.didx 3 (.var 16)) (.ci 0)) [("edge", 16)]) .nil)) .nil)))) (.seq (.ret (.cb false)) .nil) (.nil)) (.seq (.set false 4 (.bin .add (.ci 1) (.callm 17 0 (.cons (.lst (.cons (.callm 16 0 (.cons (.ci 3) .nil)) (.cons (.callm 16 0 (.cons (.ci 20) .nil)) .nil))) .nil)))) (.seq (.set false 5 (.lc (.var 12) (.tup (.cons (.nm 12) (.cons (.tup (.cons (.nm 8) (.cons (.nm 9) .nil))) .nil))) (.enum (.var 1)) (.cmp .isin (.peek 4) (.bin .add (.peek 8) (.peek 9))) [("at", 12), ("left", 8), ("right", 9)])) (.seq (.if_ (.not_ (.call 23 (.cons (.call 14 (.cons (.var 1) (.cons (.var 4) .nil))) (.cons (.bi .tuple (.cons (.peek 5) .nil)) .nil)))) (.seq (.ret (.cb false)) .nil) (.nil)) (.seq (.ret (.cmp .eq (.lc (.var 13) (.nm 13) (.callm 29 0 (.cons (.var 1) .nil)) (.not_ (.call 23 (.cons (.call 9 (.cons (.var 13) .nil)) (.cons (.call 28 (.cons (.var 13) .nil)) .nil)))) [("value", 13)]) (.lst (.nil)))) .nil)))))))))))
def f_law_right : Fn := ⟨"_law_right", topS 35, ["cup", "shards", "told", "excess", "length", "due", "edges", "pairs", "left", "right", "one", "own", "at", "value", "other", "two", "edge"], ["cup"], true, false, b_law_right⟩
def b_law : S := .seq (.set true 1 (.call 15 (.cons (.var 0) .nil))) (.seq (.for_ (.nm 2) (.rng1 (.ci 6)) (.seq (.if_ (.not_ (.callm 30 1 (.nil))) (.seq (.ret (.cb false)) .nil) (.nil)) .nil)) (.seq (.set false 3 (.bin .add (.ci 1) (.callm 16 1 (.cons (.ci 19) .nil)))) (.seq (.set false 4 (.bi .tuple (.cons (.lc (.tup (.cons (.tup (.cons (.bin .add (.ci 1) (.peek 7)) .nil)) (.cons (.tup (.cons (.bin .add (.ci 2) (.peek 7)) .nil)) .nil))) (.nm 7) (.rng1 (.var 3)) .nil [("at", 7)]) .nil))) (.seq (.set false 5 (.tup (.cons (.call 11 (.cons (.var 4) .nil)) (.cons (.call 12 (.cons (.var 4) .nil)) (.cons (.call 13 (.cons (.var 4) .nil)) .nil))))) (.seq (.set false 6 (.tup (.cons (.bi .tuple (.cons (.lc (.tup (.cons (.var 7) (.cons (.bin .add (.peek 7) (.ci 1)) .nil))) (.nm 7) (.rng1 (.bin .sub (.peek 3) (.ci 1))) .nil [("at", 7)]) .nil)) (.cons (.tup (.cons (.bi .tuple (.cons (.lrng ((.var 3))) .nil)) .nil)) (.cons (.tup (.cons (.tup (.cons (.tup (.cons (.ci 1) .nil)) (.cons (.ci 1) .nil))) (.cons (.tup (.cons (.tup (.cons (.bin .add (.peek 3) (.ci 1)) .nil)) (.cons (.neg (.ci 1)) .nil))) .nil))) .nil))))) (.seq (.ret (.call 23 (.cons (.var 5) (.cons (.var 6) .nil)))) .nil))))))
def f_law : Fn := ⟨"law", topS 36, ["script", "cup", "turn", "many", "shards", "told", "due", "at"], ["script"], false, false, b_law⟩
def gl : List (Str × D) := [(("TEETH" : Str), .int 6), (("LENGTH" : Str), .int 20), (("SHARDS" : Str), .int 30)]
def L0 : List (Str × FSem) := []
def sem0 : FSem := semF (mkG gl L0) f_is_whole
def L1 : List (Str × FSem) := L0 ++ [(("is_whole" : Str), sem0)]
def sem1 : FSem := semF (mkG gl L1) f_fits_whole
def L2 : List (Str × FSem) := L1 ++ [(("fits_whole" : Str), sem1)]
def sem2 : FSem := semF (mkG gl L2) f_is_tuple_of
def L3 : List (Str × FSem) := L2 ++ [(("is_tuple_of" : Str), sem2)]
def sem3 : FSem := semF (mkG gl L3) f_fits_edge
def L4 : List (Str × FSem) := L3 ++ [(("fits_edge" : Str), sem3)]
def sem4 : FSem := semF (mkG gl L4) f_fits_shards
def L5 : List (Str × FSem) := L4 ++ [(("fits_shards" : Str), sem4)]
def sem5 : FSem := semF (mkG gl L5) f_need_shards
def L6 : List (Str × FSem) := L5 ++ [(("need_shards" : Str), sem5)]
def sem6 : FSem := semF (mkG gl L6) f_edges_in
def L7 : List (Str × FSem) := L6 ++ [(("edges_in" : Str), sem6)]
def sem7 : FSem := semF (mkG gl L7) f_parts_in
def L8 : List (Str × FSem) := L7 ++ [(("parts_in" : Str), sem7)]
def sem8 : FSem := semF (mkG gl L8) f_excess_in
def L9 : List (Str × FSem) := L8 ++ [(("excess_in" : Str), sem8)]
def sem9 : FSem := semF (mkG gl L9) f_are_shards
def L10 : List (Str × FSem) := L9 ++ [(("are_shards" : Str), sem9)]
def sem10 : FSem := semF (mkG gl L10) f_shard_edges
def L11 : List (Str × FSem) := L10 ++ [(("shard_edges" : Str), sem10)]
def sem11 : FSem := semF (mkG gl L11) f_fit_pairs
def L12 : List (Str × FSem) := L11 ++ [(("fit_pairs" : Str), sem11)]
def sem12 : FSem := semF (mkG gl L12) f_shard_parts
def L13 : List (Str × FSem) := L12 ++ [(("shard_parts" : Str), sem12)]
def sem13 : FSem := semF (mkG gl L13) f_edge_excess
def L14 : List (Str × FSem) := L13 ++ [(("edge_excess" : Str), sem13)]
def sem14 : FSem := semF (mkG gl L14) f_shards_with
def L15 : List (Str × FSem) := L14 ++ [(("shards_with" : Str), sem14)]
def sem15 : FSem := semF (mkG gl L15) f_law_cup
def L16 : List (Str × FSem) := L15 ++ [(("_law_cup" : Str), sem15)]
def sem16 : FSem := semF (mkG gl L16) f_law_roll
def L17 : List (Str × FSem) := L16 ++ [(("_law_roll" : Str), sem16)]
def sem17 : FSem := semF (mkG gl L17) f_law_some
def L18 : List (Str × FSem) := L17 ++ [(("_law_some" : Str), sem17)]
def sem18 : FSem := semF (mkG gl L18) f_law_same_0
def L19 : List (Str × FSem) := L18 ++ [(("_law_same" : Str), sem18)]
def sem19 : FSem := semF (mkG gl L19) f_law_same_1
def L20 : List (Str × FSem) := L19 ++ [(("_law_same" : Str), sem19)]
def sem20 : FSem := semF (mkG gl L20) f_law_same_2
def L21 : List (Str × FSem) := L20 ++ [(("_law_same" : Str), sem20)]
def sem21 : FSem := semF (mkG gl L21) f_law_same_3
def L22 : List (Str × FSem) := L21 ++ [(("_law_same" : Str), sem21)]
def sem22 : FSem := semF (mkG gl L22) f_law_same_4
def L23 : List (Str × FSem) := L22 ++ [(("_law_same" : Str), sem22)]
def sem23 : FSem := semF (mkG gl L23) f_law_same_5
def L24 : List (Str × FSem) := L23 ++ [(("_law_same" : Str), sem23)]
def sem24 : FSem := semF (mkG gl L24) f_law_shards
def L25 : List (Str × FSem) := L24 ++ [(("_law_shards" : Str), sem24)]
def sem25 : FSem := semF (mkG gl L25) f_law_parts
def L26 : List (Str × FSem) := L25 ++ [(("_law_parts" : Str), sem25)]
def sem26 : FSem := semF (mkG gl L26) f_law_excess
def L27 : List (Str × FSem) := L26 ++ [(("_law_excess" : Str), sem26)]
def sem27 : FSem := semF (mkG gl L27) f_law_is_edge
def L28 : List (Str × FSem) := L27 ++ [(("_law_is_edge" : Str), sem27)]
def sem28 : FSem := semF (mkG gl L28) f_law_are_shards
def L29 : List (Str × FSem) := L28 ++ [(("_law_are_shards" : Str), sem28)]
def sem29 : FSem := semF (mkG gl L29) f_law_near
def L30 : List (Str × FSem) := L29 ++ [(("_law_near" : Str), sem29)]
def sem30 : FSem := semF (mkG gl L30) f_law_right
def L31 : List (Str × FSem) := L30 ++ [(("_law_right" : Str), sem30)]
def sem31 : FSem := semF (mkG gl L31) f_law
def L32 : List (Str × FSem) := L31 ++ [(("law" : Str), sem31)]
theorem sc0 : C8.scC f_is_whole.N f_is_whole.ps (L2.defScope f_is_whole.st) = true := by decide +kernel
theorem ck0 : okS (mkG gl L0) f_is_whole.N (L2.defScope f_is_whole.st) f_is_whole.body (.b (L2.defBody f_is_whole.st)) = true := by decide +kernel
theorem sc1 : C8.scC f_fits_whole.N f_fits_whole.ps (L2.defScope f_fits_whole.st) = true := by decide +kernel
theorem ck1 : okS (mkG gl L1) f_fits_whole.N (L2.defScope f_fits_whole.st) f_fits_whole.body (.b (L2.defBody f_fits_whole.st)) = true := by decide +kernel
theorem sc2 : C8.scC f_is_tuple_of.N f_is_tuple_of.ps (L2.defScope f_is_tuple_of.st) = true := by decide +kernel
theorem ck2 : okS (mkG gl L2) f_is_tuple_of.N (L2.defScope f_is_tuple_of.st) f_is_tuple_of.body (.b (L2.defBody f_is_tuple_of.st)) = true := by decide +kernel
theorem sc3 : C8.scC f_fits_edge.N f_fits_edge.ps (L2.defScope f_fits_edge.st) = true := by decide +kernel
theorem ck3 : okS (mkG gl L3) f_fits_edge.N (L2.defScope f_fits_edge.st) f_fits_edge.body (.b (L2.defBody f_fits_edge.st)) = true := by decide +kernel
theorem sc4 : C8.scC f_fits_shards.N f_fits_shards.ps (L2.defScope f_fits_shards.st) = true := by decide +kernel
theorem ck4 : okS (mkG gl L4) f_fits_shards.N (L2.defScope f_fits_shards.st) f_fits_shards.body (.b (L2.defBody f_fits_shards.st)) = true := by decide +kernel
theorem sc5 : C8.scC f_need_shards.N f_need_shards.ps (L2.defScope f_need_shards.st) = true := by decide +kernel
theorem ck5 : okS (mkG gl L5) f_need_shards.N (L2.defScope f_need_shards.st) f_need_shards.body (.b (L2.defBody f_need_shards.st)) = true := by decide +kernel
theorem sc6 : C8.scC f_edges_in.N f_edges_in.ps (L2.defScope f_edges_in.st) = true := by decide +kernel
theorem ck6 : okS (mkG gl L6) f_edges_in.N (L2.defScope f_edges_in.st) f_edges_in.body (.b (L2.defBody f_edges_in.st)) = true := by decide +kernel
theorem sc7 : C8.scC f_parts_in.N f_parts_in.ps (L2.defScope f_parts_in.st) = true := by decide +kernel
theorem ck7 : okS (mkG gl L7) f_parts_in.N (L2.defScope f_parts_in.st) f_parts_in.body (.b (L2.defBody f_parts_in.st)) = true := by decide +kernel
theorem sc8 : C8.scC f_excess_in.N f_excess_in.ps (L2.defScope f_excess_in.st) = true := by decide +kernel
theorem ck8 : okS (mkG gl L8) f_excess_in.N (L2.defScope f_excess_in.st) f_excess_in.body (.b (L2.defBody f_excess_in.st)) = true := by decide +kernel
theorem sc9 : C8.scC f_are_shards.N f_are_shards.ps (L2.defScope f_are_shards.st) = true := by decide +kernel
theorem ck9 : okS (mkG gl L9) f_are_shards.N (L2.defScope f_are_shards.st) f_are_shards.body (.b (L2.defBody f_are_shards.st)) = true := by decide +kernel
theorem sc10 : C8.scC f_shard_edges.N f_shard_edges.ps (L2.defScope f_shard_edges.st) = true := by decide +kernel
theorem ck10 : okS (mkG gl L10) f_shard_edges.N (L2.defScope f_shard_edges.st) f_shard_edges.body (.b (L2.defBody f_shard_edges.st)) = true := by decide +kernel
theorem sc11 : C8.scC f_fit_pairs.N f_fit_pairs.ps (L2.defScope f_fit_pairs.st) = true := by decide +kernel
theorem ck11 : okS (mkG gl L11) f_fit_pairs.N (L2.defScope f_fit_pairs.st) f_fit_pairs.body (.b (L2.defBody f_fit_pairs.st)) = true := by decide +kernel
theorem sc12 : C8.scC f_shard_parts.N f_shard_parts.ps (L2.defScope f_shard_parts.st) = true := by decide +kernel
theorem ck12 : okS (mkG gl L12) f_shard_parts.N (L2.defScope f_shard_parts.st) f_shard_parts.body (.b (L2.defBody f_shard_parts.st)) = true := by decide +kernel
theorem sc13 : C8.scC f_edge_excess.N f_edge_excess.ps (L2.defScope f_edge_excess.st) = true := by decide +kernel
theorem ck13 : okS (mkG gl L13) f_edge_excess.N (L2.defScope f_edge_excess.st) f_edge_excess.body (.b (L2.defBody f_edge_excess.st)) = true := by decide +kernel
theorem sc14 : C8.scC f_shards_with.N f_shards_with.ps (L2.defScope f_shards_with.st) = true := by decide +kernel
theorem ck14 : okS (mkG gl L14) f_shards_with.N (L2.defScope f_shards_with.st) f_shards_with.body (.b (L2.defBody f_shards_with.st)) = true := by decide +kernel
theorem sc15 : C8.scC f_law_cup.N f_law_cup.ps (L2.defScope f_law_cup.st) = true := by decide +kernel
theorem ck15 : okS (mkG gl L15) f_law_cup.N (L2.defScope f_law_cup.st) f_law_cup.body (.b (L2.defBody f_law_cup.st)) = true := by decide +kernel
theorem sc16 : C8.scC f_law_roll.N f_law_roll.ps (L2.defScope f_law_roll.st) = true := by decide +kernel
theorem ck16 : okS (mkG gl L16) f_law_roll.N (L2.defScope f_law_roll.st) f_law_roll.body (.b (L2.defBody f_law_roll.st)) = true := by decide +kernel
theorem sc17 : C8.scC f_law_some.N f_law_some.ps (L2.defScope f_law_some.st) = true := by decide +kernel
theorem ck17 : okS (mkG gl L17) f_law_some.N (L2.defScope f_law_some.st) f_law_some.body (.b (L2.defBody f_law_some.st)) = true := by decide +kernel
theorem sc18 : C8.scC f_law_same_0.N f_law_same_0.ps (L2.defScope f_law_same_0.st) = true := by decide +kernel
theorem ck18 : okS (mkG gl L18) f_law_same_0.N (L2.defScope f_law_same_0.st) f_law_same_0.body (.b (L2.defBody f_law_same_0.st)) = true := by decide +kernel
theorem sc19 : C8.scC f_law_same_1.N f_law_same_1.ps (L2.defScope f_law_same_1.st) = true := by decide +kernel
theorem ck19 : okS (mkG gl L19) f_law_same_1.N (L2.defScope f_law_same_1.st) f_law_same_1.body (.b (L2.defBody f_law_same_1.st)) = true := by decide +kernel
theorem sc20 : C8.scC f_law_same_2.N f_law_same_2.ps (L2.defScope f_law_same_2.st) = true := by decide +kernel
theorem ck20 : okS (mkG gl L20) f_law_same_2.N (L2.defScope f_law_same_2.st) f_law_same_2.body (.b (L2.defBody f_law_same_2.st)) = true := by decide +kernel
theorem sc21 : C8.scC f_law_same_3.N f_law_same_3.ps (L2.defScope f_law_same_3.st) = true := by decide +kernel
theorem ck21 : okS (mkG gl L21) f_law_same_3.N (L2.defScope f_law_same_3.st) f_law_same_3.body (.b (L2.defBody f_law_same_3.st)) = true := by decide +kernel
theorem sc22 : C8.scC f_law_same_4.N f_law_same_4.ps (L2.defScope f_law_same_4.st) = true := by decide +kernel
theorem ck22 : okS (mkG gl L22) f_law_same_4.N (L2.defScope f_law_same_4.st) f_law_same_4.body (.b (L2.defBody f_law_same_4.st)) = true := by decide +kernel
theorem sc23 : C8.scC f_law_same_5.N f_law_same_5.ps (L2.defScope f_law_same_5.st) = true := by decide +kernel
theorem ck23 : okS (mkG gl L23) f_law_same_5.N (L2.defScope f_law_same_5.st) f_law_same_5.body (.b (L2.defBody f_law_same_5.st)) = true := by decide +kernel
theorem sc24 : C8.scC f_law_shards.N f_law_shards.ps (L2.defScope f_law_shards.st) = true := by decide +kernel
theorem ck24 : okS (mkG gl L24) f_law_shards.N (L2.defScope f_law_shards.st) f_law_shards.body (.b (L2.defBody f_law_shards.st)) = true := by decide +kernel
theorem sc25 : C8.scC f_law_parts.N f_law_parts.ps (L2.defScope f_law_parts.st) = true := by decide +kernel
theorem ck25 : okS (mkG gl L25) f_law_parts.N (L2.defScope f_law_parts.st) f_law_parts.body (.b (L2.defBody f_law_parts.st)) = true := by decide +kernel
theorem sc26 : C8.scC f_law_excess.N f_law_excess.ps (L2.defScope f_law_excess.st) = true := by decide +kernel
theorem ck26 : okS (mkG gl L26) f_law_excess.N (L2.defScope f_law_excess.st) f_law_excess.body (.b (L2.defBody f_law_excess.st)) = true := by decide +kernel
theorem sc27 : C8.scC f_law_is_edge.N f_law_is_edge.ps (L2.defScope f_law_is_edge.st) = true := by decide +kernel
theorem ck27 : okS (mkG gl L27) f_law_is_edge.N (L2.defScope f_law_is_edge.st) f_law_is_edge.body (.b (L2.defBody f_law_is_edge.st)) = true := by decide +kernel
theorem sc28 : C8.scC f_law_are_shards.N f_law_are_shards.ps (L2.defScope f_law_are_shards.st) = true := by decide +kernel
theorem ck28 : okS (mkG gl L28) f_law_are_shards.N (L2.defScope f_law_are_shards.st) f_law_are_shards.body (.b (L2.defBody f_law_are_shards.st)) = true := by decide +kernel
theorem sc29 : C8.scC f_law_near.N f_law_near.ps (L2.defScope f_law_near.st) = true := by decide +kernel
theorem ck29 : okS (mkG gl L29) f_law_near.N (L2.defScope f_law_near.st) f_law_near.body (.b (L2.defBody f_law_near.st)) = true := by decide +kernel
theorem sc30 : C8.scC f_law_right.N f_law_right.ps (L2.defScope f_law_right.st) = true := by decide +kernel
theorem ck30 : okS (mkG gl L30) f_law_right.N (L2.defScope f_law_right.st) f_law_right.body (.b (L2.defBody f_law_right.st)) = true := by decide +kernel
theorem sc31 : C8.scC f_law.N f_law.ps (L2.defScope f_law.st) = true := by decide +kernel
theorem ck31 : okS (mkG gl L31) f_law.N (L2.defScope f_law.st) f_law.body (.b (L2.defBody f_law.st)) = true := by decide +kernel
theorem bi0 : ∀ (kV doc pm : Value) (an : Option Addr) (cdv ct : Value) (us : List Value), us.length = [("value" : Str)].length → bindArgs (PySem.W.fnOf "is_whole" "is_whole" (L2.defArgs f_is_whole.st) (L2.defBody f_is_whole.st) (L2.defScope f_is_whole.st) .none kV doc pm an cdv ct) ⟨us, []⟩ = pure ((["value"] : List Str).zip us) := fun _ _ _ _ _ _ us hl => match us, hl with | [_], _ => rfl
theorem bi1 : ∀ (kV doc pm : Value) (an : Option Addr) (cdv ct : Value) (us : List Value), us.length = [("value" : Str), ("low" : Str), ("high" : Str)].length → bindArgs (PySem.W.fnOf "fits_whole" "fits_whole" (L2.defArgs f_fits_whole.st) (L2.defBody f_fits_whole.st) (L2.defScope f_fits_whole.st) .none kV doc pm an cdv ct) ⟨us, []⟩ = pure ((["value", "low", "high"] : List Str).zip us) := fun _ _ _ _ _ _ us hl => match us, hl with | [_, _, _], _ => rfl
theorem bi2 : ∀ (kV doc pm : Value) (an : Option Addr) (cdv ct : Value) (us : List Value), us.length = [("value" : Str), ("least" : Str), ("most" : Str)].length → bindArgs (PySem.W.fnOf "is_tuple_of" "is_tuple_of" (L2.defArgs f_is_tuple_of.st) (L2.defBody f_is_tuple_of.st) (L2.defScope f_is_tuple_of.st) .none kV doc pm an cdv ct) ⟨us, []⟩ = pure ((["value", "least", "most"] : List Str).zip us) := fun _ _ _ _ _ _ us hl => match us, hl with | [_, _, _], _ => rfl
theorem bi3 : ∀ (kV doc pm : Value) (an : Option Addr) (cdv ct : Value) (us : List Value), us.length = [("value" : Str)].length → bindArgs (PySem.W.fnOf "fits_edge" "fits_edge" (L2.defArgs f_fits_edge.st) (L2.defBody f_fits_edge.st) (L2.defScope f_fits_edge.st) .none kV doc pm an cdv ct) ⟨us, []⟩ = pure ((["value"] : List Str).zip us) := fun _ _ _ _ _ _ us hl => match us, hl with | [_], _ => rfl
theorem bi4 : ∀ (kV doc pm : Value) (an : Option Addr) (cdv ct : Value) (us : List Value), us.length = [("value" : Str)].length → bindArgs (PySem.W.fnOf "fits_shards" "fits_shards" (L2.defArgs f_fits_shards.st) (L2.defBody f_fits_shards.st) (L2.defScope f_fits_shards.st) .none kV doc pm an cdv ct) ⟨us, []⟩ = pure ((["value"] : List Str).zip us) := fun _ _ _ _ _ _ us hl => match us, hl with | [_], _ => rfl
theorem bi5 : ∀ (kV doc pm : Value) (an : Option Addr) (cdv ct : Value) (us : List Value), us.length = [("value" : Str)].length → bindArgs (PySem.W.fnOf "need_shards" "need_shards" (L2.defArgs f_need_shards.st) (L2.defBody f_need_shards.st) (L2.defScope f_need_shards.st) .none kV doc pm an cdv ct) ⟨us, []⟩ = pure ((["value"] : List Str).zip us) := fun _ _ _ _ _ _ us hl => match us, hl with | [_], _ => rfl
theorem bi6 : ∀ (kV doc pm : Value) (an : Option Addr) (cdv ct : Value) (us : List Value), us.length = [("shards" : Str)].length → bindArgs (PySem.W.fnOf "edges_in" "edges_in" (L2.defArgs f_edges_in.st) (L2.defBody f_edges_in.st) (L2.defScope f_edges_in.st) .none kV doc pm an cdv ct) ⟨us, []⟩ = pure ((["shards"] : List Str).zip us) := fun _ _ _ _ _ _ us hl => match us, hl with | [_], _ => rfl
theorem bi7 : ∀ (kV doc pm : Value) (an : Option Addr) (cdv ct : Value) (us : List Value), us.length = [("shards" : Str)].length → bindArgs (PySem.W.fnOf "parts_in" "parts_in" (L2.defArgs f_parts_in.st) (L2.defBody f_parts_in.st) (L2.defScope f_parts_in.st) .none kV doc pm an cdv ct) ⟨us, []⟩ = pure ((["shards"] : List Str).zip us) := fun _ _ _ _ _ _ us hl => match us, hl with | [_], _ => rfl
theorem bi8 : ∀ (kV doc pm : Value) (an : Option Addr) (cdv ct : Value) (us : List Value), us.length = [("shards" : Str)].length → bindArgs (PySem.W.fnOf "excess_in" "excess_in" (L2.defArgs f_excess_in.st) (L2.defBody f_excess_in.st) (L2.defScope f_excess_in.st) .none kV doc pm an cdv ct) ⟨us, []⟩ = pure ((["shards"] : List Str).zip us) := fun _ _ _ _ _ _ us hl => match us, hl with | [_], _ => rfl
theorem bi9 : ∀ (kV doc pm : Value) (an : Option Addr) (cdv ct : Value) (us : List Value), us.length = [("value" : Str)].length → bindArgs (PySem.W.fnOf "are_shards" "are_shards" (L2.defArgs f_are_shards.st) (L2.defBody f_are_shards.st) (L2.defScope f_are_shards.st) .none kV doc pm an cdv ct) ⟨us, []⟩ = pure ((["value"] : List Str).zip us) := fun _ _ _ _ _ _ us hl => match us, hl with | [_], _ => rfl
theorem bi10 : ∀ (kV doc pm : Value) (an : Option Addr) (cdv ct : Value) (us : List Value), us.length = [("shards" : Str)].length → bindArgs (PySem.W.fnOf "shard_edges" "shard_edges" (L2.defArgs f_shard_edges.st) (L2.defBody f_shard_edges.st) (L2.defScope f_shard_edges.st) .none kV doc pm an cdv ct) ⟨us, []⟩ = pure ((["shards"] : List Str).zip us) := fun _ _ _ _ _ _ us hl => match us, hl with | [_], _ => rfl
theorem bi11 : ∀ (kV doc pm : Value) (an : Option Addr) (cdv ct : Value) (us : List Value), us.length = [("shards" : Str)].length → bindArgs (PySem.W.fnOf "fit_pairs" "fit_pairs" (L2.defArgs f_fit_pairs.st) (L2.defBody f_fit_pairs.st) (L2.defScope f_fit_pairs.st) .none kV doc pm an cdv ct) ⟨us, []⟩ = pure ((["shards"] : List Str).zip us) := fun _ _ _ _ _ _ us hl => match us, hl with | [_], _ => rfl
theorem bi12 : ∀ (kV doc pm : Value) (an : Option Addr) (cdv ct : Value) (us : List Value), us.length = [("shards" : Str)].length → bindArgs (PySem.W.fnOf "shard_parts" "shard_parts" (L2.defArgs f_shard_parts.st) (L2.defBody f_shard_parts.st) (L2.defScope f_shard_parts.st) .none kV doc pm an cdv ct) ⟨us, []⟩ = pure ((["shards"] : List Str).zip us) := fun _ _ _ _ _ _ us hl => match us, hl with | [_], _ => rfl
theorem bi13 : ∀ (kV doc pm : Value) (an : Option Addr) (cdv ct : Value) (us : List Value), us.length = [("shards" : Str)].length → bindArgs (PySem.W.fnOf "edge_excess" "edge_excess" (L2.defArgs f_edge_excess.st) (L2.defBody f_edge_excess.st) (L2.defScope f_edge_excess.st) .none kV doc pm an cdv ct) ⟨us, []⟩ = pure ((["shards"] : List Str).zip us) := fun _ _ _ _ _ _ us hl => match us, hl with | [_], _ => rfl
theorem bi14 : ∀ (kV doc pm : Value) (an : Option Addr) (cdv ct : Value) (us : List Value), us.length = [("shards" : Str), ("length" : Str)].length → bindArgs (PySem.W.fnOf "shards_with" "shards_with" (L2.defArgs f_shards_with.st) (L2.defBody f_shards_with.st) (L2.defScope f_shards_with.st) .none kV doc pm an cdv ct) ⟨us, []⟩ = pure ((["shards", "length"] : List Str).zip us) := fun _ _ _ _ _ _ us hl => match us, hl with | [_, _], _ => rfl
theorem bi15 : ∀ (kV doc pm : Value) (an : Option Addr) (cdv ct : Value) (us : List Value), us.length = [("script" : Str)].length → bindArgs (PySem.W.fnOf "_law_cup" "_law_cup" (L2.defArgs f_law_cup.st) (L2.defBody f_law_cup.st) (L2.defScope f_law_cup.st) .none kV doc pm an cdv ct) ⟨us, []⟩ = pure ((["script"] : List Str).zip us) := fun _ _ _ _ _ _ us hl => match us, hl with | [_], _ => rfl
theorem bi16 : ∀ (kV doc pm : Value) (an : Option Addr) (cdv ct : Value) (us : List Value), us.length = [("cup" : Str), ("many" : Str)].length → bindArgs (PySem.W.fnOf "_law_roll" "_law_roll" (L2.defArgs f_law_roll.st) (L2.defBody f_law_roll.st) (L2.defScope f_law_roll.st) .none kV doc pm an cdv ct) ⟨us, []⟩ = pure ((["cup", "many"] : List Str).zip us) := fun _ _ _ _ _ _ us hl => match us, hl with | [_, _], _ => rfl
theorem bi17 : ∀ (kV doc pm : Value) (an : Option Addr) (cdv ct : Value) (us : List Value), us.length = [("cup" : Str), ("things" : Str)].length → bindArgs (PySem.W.fnOf "_law_some" "_law_some" (L2.defArgs f_law_some.st) (L2.defBody f_law_some.st) (L2.defScope f_law_some.st) .none kV doc pm an cdv ct) ⟨us, []⟩ = pure ((["cup", "things"] : List Str).zip us) := fun _ _ _ _ _ _ us hl => match us, hl with | [_, _], _ => rfl
theorem bi18 : ∀ (kV doc pm : Value) (an : Option Addr) (cdv ct : Value) (us : List Value), us.length = [("told" : Str), ("due" : Str)].length → bindArgs (PySem.W.fnOf "_law_same" "_law_same" (L2.defArgs f_law_same_0.st) (L2.defBody f_law_same_0.st) (L2.defScope f_law_same_0.st) .none kV doc pm an cdv ct) ⟨us, []⟩ = pure ((["told", "due"] : List Str).zip us) := fun _ _ _ _ _ _ us hl => match us, hl with | [_, _], _ => rfl
theorem bi19 : ∀ (kV doc pm : Value) (an : Option Addr) (cdv ct : Value) (us : List Value), us.length = [("cup" : Str), ("many" : Str), ("edges" : Str)].length → bindArgs (PySem.W.fnOf "_law_shards" "_law_shards" (L2.defArgs f_law_shards.st) (L2.defBody f_law_shards.st) (L2.defScope f_law_shards.st) .none kV doc pm an cdv ct) ⟨us, []⟩ = pure ((["cup", "many", "edges"] : List Str).zip us) := fun _ _ _ _ _ _ us hl => match us, hl with | [_, _, _], _ => rfl
theorem bi20 : ∀ (kV doc pm : Value) (an : Option Addr) (cdv ct : Value) (us : List Value), us.length = [("shards" : Str)].length → bindArgs (PySem.W.fnOf "_law_parts" "_law_parts" (L2.defArgs f_law_parts.st) (L2.defBody f_law_parts.st) (L2.defScope f_law_parts.st) .none kV doc pm an cdv ct) ⟨us, []⟩ = pure ((["shards"] : List Str).zip us) := fun _ _ _ _ _ _ us hl => match us, hl with | [_], _ => rfl
theorem bi21 : ∀ (kV doc pm : Value) (an : Option Addr) (cdv ct : Value) (us : List Value), us.length = [("shards" : Str)].length → bindArgs (PySem.W.fnOf "_law_excess" "_law_excess" (L2.defArgs f_law_excess.st) (L2.defBody f_law_excess.st) (L2.defScope f_law_excess.st) .none kV doc pm an cdv ct) ⟨us, []⟩ = pure ((["shards"] : List Str).zip us) := fun _ _ _ _ _ _ us hl => match us, hl with | [_], _ => rfl
theorem bi22 : ∀ (kV doc pm : Value) (an : Option Addr) (cdv ct : Value) (us : List Value), us.length = [("value" : Str)].length → bindArgs (PySem.W.fnOf "_law_is_edge" "_law_is_edge" (L2.defArgs f_law_is_edge.st) (L2.defBody f_law_is_edge.st) (L2.defScope f_law_is_edge.st) .none kV doc pm an cdv ct) ⟨us, []⟩ = pure ((["value"] : List Str).zip us) := fun _ _ _ _ _ _ us hl => match us, hl with | [_], _ => rfl
theorem bi23 : ∀ (kV doc pm : Value) (an : Option Addr) (cdv ct : Value) (us : List Value), us.length = [("value" : Str)].length → bindArgs (PySem.W.fnOf "_law_are_shards" "_law_are_shards" (L2.defArgs f_law_are_shards.st) (L2.defBody f_law_are_shards.st) (L2.defScope f_law_are_shards.st) .none kV doc pm an cdv ct) ⟨us, []⟩ = pure ((["value"] : List Str).zip us) := fun _ _ _ _ _ _ us hl => match us, hl with | [_], _ => rfl
theorem bi24 : ∀ (kV doc pm : Value) (an : Option Addr) (cdv ct : Value) (us : List Value), us.length = [("cup" : Str), ("shards" : Str)].length → bindArgs (PySem.W.fnOf "_law_near" "_law_near" (L2.defArgs f_law_near.st) (L2.defBody f_law_near.st) (L2.defScope f_law_near.st) .none kV doc pm an cdv ct) ⟨us, []⟩ = pure ((["cup", "shards"] : List Str).zip us) := fun _ _ _ _ _ _ us hl => match us, hl with | [_, _], _ => rfl
theorem bi25 : ∀ (kV doc pm : Value) (an : Option Addr) (cdv ct : Value) (us : List Value), us.length = [("cup" : Str)].length → bindArgs (PySem.W.fnOf "_law_right" "_law_right" (L2.defArgs f_law_right.st) (L2.defBody f_law_right.st) (L2.defScope f_law_right.st) .none kV doc pm an cdv ct) ⟨us, []⟩ = pure ((["cup"] : List Str).zip us) := fun _ _ _ _ _ _ us hl => match us, hl with | [_], _ => rfl
theorem bi26 : ∀ (kV doc pm : Value) (an : Option Addr) (cdv ct : Value) (us : List Value), us.length = [("script" : Str)].length → bindArgs (PySem.W.fnOf "law" "law" (L2.defArgs f_law.st) (L2.defBody f_law.st) (L2.defScope f_law.st) .none kV doc pm an cdv ct) ⟨us, []⟩ = pure ((["script"] : List Str).zip us) := fun _ _ _ _ _ _ us hl => match us, hl with | [_], _ => rfl
abbrev semLaw : FSem := sem31
set_option maxHeartbeats 0 in
theorem all_mk {P : Program} {w : World} {K : PySem.W.Frag} {h : Heap} {mg : Str → Option Value} {fa : Addr} (X : K.In h) (G : h.Ns mainGlobals mg) (hfa : mg "law" = some (.ref fa))
    {r0 : Addr} {oc0 : Value} {od0 an0 : Option Addr} {sl0 : Array (Option Value)} {kV0 dc0 pm0 cd0 ct0 : Value}
    {r1 : Addr} {oc1 : Value} {od1 an1 : Option Addr} {sl1 : Array (Option Value)} {kV1 dc1 pm1 cd1 ct1 : Value}
    {r2 : Addr} {oc2 : Value} {od2 an2 : Option Addr} {sl2 : Array (Option Value)} {kV2 dc2 pm2 cd2 ct2 : Value}
    {r3 : Addr} {oc3 : Value} {od3 an3 : Option Addr} {sl3 : Array (Option Value)} {kV3 dc3 pm3 cd3 ct3 : Value}
    {r4 : Addr} {oc4 : Value} {od4 an4 : Option Addr} {sl4 : Array (Option Value)} {kV4 dc4 pm4 cd4 ct4 : Value}
    {r5 : Addr} {oc5 : Value} {od5 an5 : Option Addr} {sl5 : Array (Option Value)} {kV5 dc5 pm5 cd5 ct5 : Value}
    {r6 : Addr} {oc6 : Value} {od6 an6 : Option Addr} {sl6 : Array (Option Value)} {kV6 dc6 pm6 cd6 ct6 : Value}
    {r7 : Addr} {oc7 : Value} {od7 an7 : Option Addr} {sl7 : Array (Option Value)} {kV7 dc7 pm7 cd7 ct7 : Value}
    {r8 : Addr} {oc8 : Value} {od8 an8 : Option Addr} {sl8 : Array (Option Value)} {kV8 dc8 pm8 cd8 ct8 : Value}
    {r9 : Addr} {oc9 : Value} {od9 an9 : Option Addr} {sl9 : Array (Option Value)} {kV9 dc9 pm9 cd9 ct9 : Value}
    {r10 : Addr} {oc10 : Value} {od10 an10 : Option Addr} {sl10 : Array (Option Value)} {kV10 dc10 pm10 cd10 ct10 : Value}
    {r11 : Addr} {oc11 : Value} {od11 an11 : Option Addr} {sl11 : Array (Option Value)} {kV11 dc11 pm11 cd11 ct11 : Value}
    {r12 : Addr} {oc12 : Value} {od12 an12 : Option Addr} {sl12 : Array (Option Value)} {kV12 dc12 pm12 cd12 ct12 : Value}
    {r13 : Addr} {oc13 : Value} {od13 an13 : Option Addr} {sl13 : Array (Option Value)} {kV13 dc13 pm13 cd13 ct13 : Value}
    {r14 : Addr} {oc14 : Value} {od14 an14 : Option Addr} {sl14 : Array (Option Value)} {kV14 dc14 pm14 cd14 ct14 : Value}
    {r15 : Addr} {oc15 : Value} {od15 an15 : Option Addr} {sl15 : Array (Option Value)} {kV15 dc15 pm15 cd15 ct15 : Value}
    {r16 : Addr} {oc16 : Value} {od16 an16 : Option Addr} {sl16 : Array (Option Value)} {kV16 dc16 pm16 cd16 ct16 : Value}
    {r17 : Addr} {oc17 : Value} {od17 an17 : Option Addr} {sl17 : Array (Option Value)} {kV17 dc17 pm17 cd17 ct17 : Value}
    {r18 : Addr} {oc18 : Value} {od18 an18 : Option Addr} {sl18 : Array (Option Value)} {kV18 dc18 pm18 cd18 ct18 : Value}
    {r19 : Addr} {oc19 : Value} {od19 an19 : Option Addr} {sl19 : Array (Option Value)} {kV19 dc19 pm19 cd19 ct19 : Value}
    {r20 : Addr} {oc20 : Value} {od20 an20 : Option Addr} {sl20 : Array (Option Value)} {kV20 dc20 pm20 cd20 ct20 : Value}
    {r21 : Addr} {oc21 : Value} {od21 an21 : Option Addr} {sl21 : Array (Option Value)} {kV21 dc21 pm21 cd21 ct21 : Value}
    {r22 : Addr} {oc22 : Value} {od22 an22 : Option Addr} {sl22 : Array (Option Value)} {kV22 dc22 pm22 cd22 ct22 : Value}
    {r23 : Addr} {oc23 : Value} {od23 an23 : Option Addr} {sl23 : Array (Option Value)} {kV23 dc23 pm23 cd23 ct23 : Value}
    {r24 : Addr} {oc24 : Value} {od24 an24 : Option Addr} {sl24 : Array (Option Value)} {kV24 dc24 pm24 cd24 ct24 : Value}
    {r25 : Addr} {oc25 : Value} {od25 an25 : Option Addr} {sl25 : Array (Option Value)} {kV25 dc25 pm25 cd25 ct25 : Value}
    {r26 : Addr} {oc26 : Value} {od26 an26 : Option Addr} {sl26 : Array (Option Value)} {kV26 dc26 pm26 cd26 ct26 : Value}
    (a0 : PySem.W.nsIn K mainGlobals "is_whole" = some (some (.ref r0))) (l0 : K.lookup r0 = some ⟨oc0, od0, .func (PySem.W.fnOf "is_whole" "is_whole" (L2.defArgs f_is_whole.st) (L2.defBody f_is_whole.st) (L2.defScope f_is_whole.st) .none kV0 dc0 pm0 an0 cd0 ct0), sl0⟩) (c0 : PySem.W.codeIn K cd0 "is_whole" = true) (k0 : PySem.W.keepIn K (.ref r0) = true)
    (a1 : PySem.W.nsIn K mainGlobals "fits_whole" = some (some (.ref r1))) (l1 : K.lookup r1 = some ⟨oc1, od1, .func (PySem.W.fnOf "fits_whole" "fits_whole" (L2.defArgs f_fits_whole.st) (L2.defBody f_fits_whole.st) (L2.defScope f_fits_whole.st) .none kV1 dc1 pm1 an1 cd1 ct1), sl1⟩) (c1 : PySem.W.codeIn K cd1 "fits_whole" = true) (k1 : PySem.W.keepIn K (.ref r1) = true)
    (a2 : PySem.W.nsIn K mainGlobals "is_tuple_of" = some (some (.ref r2))) (l2 : K.lookup r2 = some ⟨oc2, od2, .func (PySem.W.fnOf "is_tuple_of" "is_tuple_of" (L2.defArgs f_is_tuple_of.st) (L2.defBody f_is_tuple_of.st) (L2.defScope f_is_tuple_of.st) .none kV2 dc2 pm2 an2 cd2 ct2), sl2⟩) (c2 : PySem.W.codeIn K cd2 "is_tuple_of" = true) (k2 : PySem.W.keepIn K (.ref r2) = true)
    (a3 : PySem.W.nsIn K mainGlobals "fits_edge" = some (some (.ref r3))) (l3 : K.lookup r3 = some ⟨oc3, od3, .func (PySem.W.fnOf "fits_edge" "fits_edge" (L2.defArgs f_fits_edge.st) (L2.defBody f_fits_edge.st) (L2.defScope f_fits_edge.st) .none kV3 dc3 pm3 an3 cd3 ct3), sl3⟩) (c3 : PySem.W.codeIn K cd3 "fits_edge" = true) (k3 : PySem.W.keepIn K (.ref r3) = true)
    (a4 : PySem.W.nsIn K mainGlobals "fits_shards" = some (some (.ref r4))) (l4 : K.lookup r4 = some ⟨oc4, od4, .func (PySem.W.fnOf "fits_shards" "fits_shards" (L2.defArgs f_fits_shards.st) (L2.defBody f_fits_shards.st) (L2.defScope f_fits_shards.st) .none kV4 dc4 pm4 an4 cd4 ct4), sl4⟩) (c4 : PySem.W.codeIn K cd4 "fits_shards" = true) (k4 : PySem.W.keepIn K (.ref r4) = true)
    (a5 : PySem.W.nsIn K mainGlobals "need_shards" = some (some (.ref r5))) (l5 : K.lookup r5 = some ⟨oc5, od5, .func (PySem.W.fnOf "need_shards" "need_shards" (L2.defArgs f_need_shards.st) (L2.defBody f_need_shards.st) (L2.defScope f_need_shards.st) .none kV5 dc5 pm5 an5 cd5 ct5), sl5⟩) (c5 : PySem.W.codeIn K cd5 "need_shards" = true) (k5 : PySem.W.keepIn K (.ref r5) = true)
    (a6 : PySem.W.nsIn K mainGlobals "edges_in" = some (some (.ref r6))) (l6 : K.lookup r6 = some ⟨oc6, od6, .func (PySem.W.fnOf "edges_in" "edges_in" (L2.defArgs f_edges_in.st) (L2.defBody f_edges_in.st) (L2.defScope f_edges_in.st) .none kV6 dc6 pm6 an6 cd6 ct6), sl6⟩) (c6 : PySem.W.codeIn K cd6 "edges_in" = true) (k6 : PySem.W.keepIn K (.ref r6) = true)
    (a7 : PySem.W.nsIn K mainGlobals "parts_in" = some (some (.ref r7))) (l7 : K.lookup r7 = some ⟨oc7, od7, .func (PySem.W.fnOf "parts_in" "parts_in" (L2.defArgs f_parts_in.st) (L2.defBody f_parts_in.st) (L2.defScope f_parts_in.st) .none kV7 dc7 pm7 an7 cd7 ct7), sl7⟩) (c7 : PySem.W.codeIn K cd7 "parts_in" = true) (k7 : PySem.W.keepIn K (.ref r7) = true)
    (a8 : PySem.W.nsIn K mainGlobals "excess_in" = some (some (.ref r8))) (l8 : K.lookup r8 = some ⟨oc8, od8, .func (PySem.W.fnOf "excess_in" "excess_in" (L2.defArgs f_excess_in.st) (L2.defBody f_excess_in.st) (L2.defScope f_excess_in.st) .none kV8 dc8 pm8 an8 cd8 ct8), sl8⟩) (c8 : PySem.W.codeIn K cd8 "excess_in" = true) (k8 : PySem.W.keepIn K (.ref r8) = true)
    (a9 : PySem.W.nsIn K mainGlobals "are_shards" = some (some (.ref r9))) (l9 : K.lookup r9 = some ⟨oc9, od9, .func (PySem.W.fnOf "are_shards" "are_shards" (L2.defArgs f_are_shards.st) (L2.defBody f_are_shards.st) (L2.defScope f_are_shards.st) .none kV9 dc9 pm9 an9 cd9 ct9), sl9⟩) (c9 : PySem.W.codeIn K cd9 "are_shards" = true) (k9 : PySem.W.keepIn K (.ref r9) = true)
    (a10 : PySem.W.nsIn K mainGlobals "shard_edges" = some (some (.ref r10))) (l10 : K.lookup r10 = some ⟨oc10, od10, .func (PySem.W.fnOf "shard_edges" "shard_edges" (L2.defArgs f_shard_edges.st) (L2.defBody f_shard_edges.st) (L2.defScope f_shard_edges.st) .none kV10 dc10 pm10 an10 cd10 ct10), sl10⟩) (c10 : PySem.W.codeIn K cd10 "shard_edges" = true) (k10 : PySem.W.keepIn K (.ref r10) = true)
    (a11 : PySem.W.nsIn K mainGlobals "fit_pairs" = some (some (.ref r11))) (l11 : K.lookup r11 = some ⟨oc11, od11, .func (PySem.W.fnOf "fit_pairs" "fit_pairs" (L2.defArgs f_fit_pairs.st) (L2.defBody f_fit_pairs.st) (L2.defScope f_fit_pairs.st) .none kV11 dc11 pm11 an11 cd11 ct11), sl11⟩) (c11 : PySem.W.codeIn K cd11 "fit_pairs" = true) (k11 : PySem.W.keepIn K (.ref r11) = true)
    (a12 : PySem.W.nsIn K mainGlobals "shard_parts" = some (some (.ref r12))) (l12 : K.lookup r12 = some ⟨oc12, od12, .func (PySem.W.fnOf "shard_parts" "shard_parts" (L2.defArgs f_shard_parts.st) (L2.defBody f_shard_parts.st) (L2.defScope f_shard_parts.st) .none kV12 dc12 pm12 an12 cd12 ct12), sl12⟩) (c12 : PySem.W.codeIn K cd12 "shard_parts" = true) (k12 : PySem.W.keepIn K (.ref r12) = true)
    (a13 : PySem.W.nsIn K mainGlobals "edge_excess" = some (some (.ref r13))) (l13 : K.lookup r13 = some ⟨oc13, od13, .func (PySem.W.fnOf "edge_excess" "edge_excess" (L2.defArgs f_edge_excess.st) (L2.defBody f_edge_excess.st) (L2.defScope f_edge_excess.st) .none kV13 dc13 pm13 an13 cd13 ct13), sl13⟩) (c13 : PySem.W.codeIn K cd13 "edge_excess" = true) (k13 : PySem.W.keepIn K (.ref r13) = true)
    (a14 : PySem.W.nsIn K mainGlobals "shards_with" = some (some (.ref r14))) (l14 : K.lookup r14 = some ⟨oc14, od14, .func (PySem.W.fnOf "shards_with" "shards_with" (L2.defArgs f_shards_with.st) (L2.defBody f_shards_with.st) (L2.defScope f_shards_with.st) .none kV14 dc14 pm14 an14 cd14 ct14), sl14⟩) (c14 : PySem.W.codeIn K cd14 "shards_with" = true) (k14 : PySem.W.keepIn K (.ref r14) = true)
    (a15 : PySem.W.nsIn K mainGlobals "_law_cup" = some (some (.ref r15))) (l15 : K.lookup r15 = some ⟨oc15, od15, .func (PySem.W.fnOf "_law_cup" "_law_cup" (L2.defArgs f_law_cup.st) (L2.defBody f_law_cup.st) (L2.defScope f_law_cup.st) .none kV15 dc15 pm15 an15 cd15 ct15), sl15⟩) (c15 : PySem.W.codeIn K cd15 "_law_cup" = true) (k15 : PySem.W.keepIn K (.ref r15) = true)
    (a16 : PySem.W.nsIn K mainGlobals "_law_roll" = some (some (.ref r16))) (l16 : K.lookup r16 = some ⟨oc16, od16, .func (PySem.W.fnOf "_law_roll" "_law_roll" (L2.defArgs f_law_roll.st) (L2.defBody f_law_roll.st) (L2.defScope f_law_roll.st) .none kV16 dc16 pm16 an16 cd16 ct16), sl16⟩) (c16 : PySem.W.codeIn K cd16 "_law_roll" = true) (k16 : PySem.W.keepIn K (.ref r16) = true)
    (a17 : PySem.W.nsIn K mainGlobals "_law_some" = some (some (.ref r17))) (l17 : K.lookup r17 = some ⟨oc17, od17, .func (PySem.W.fnOf "_law_some" "_law_some" (L2.defArgs f_law_some.st) (L2.defBody f_law_some.st) (L2.defScope f_law_some.st) .none kV17 dc17 pm17 an17 cd17 ct17), sl17⟩) (c17 : PySem.W.codeIn K cd17 "_law_some" = true) (k17 : PySem.W.keepIn K (.ref r17) = true)
    (a18 : PySem.W.nsIn K mainGlobals "_law_same" = some (some (.ref r18))) (l18 : K.lookup r18 = some ⟨oc18, od18, .func (PySem.W.fnOf "_law_same" "_law_same" (L2.defArgs f_law_same_0.st) (L2.defBody f_law_same_0.st) (L2.defScope f_law_same_0.st) .none kV18 dc18 pm18 an18 cd18 ct18), sl18⟩) (c18 : PySem.W.codeIn K cd18 "_law_same" = true) (k18 : PySem.W.keepIn K (.ref r18) = true)
    (a19 : PySem.W.nsIn K mainGlobals "_law_shards" = some (some (.ref r19))) (l19 : K.lookup r19 = some ⟨oc19, od19, .func (PySem.W.fnOf "_law_shards" "_law_shards" (L2.defArgs f_law_shards.st) (L2.defBody f_law_shards.st) (L2.defScope f_law_shards.st) .none kV19 dc19 pm19 an19 cd19 ct19), sl19⟩) (c19 : PySem.W.codeIn K cd19 "_law_shards" = true) (k19 : PySem.W.keepIn K (.ref r19) = true)
    (a20 : PySem.W.nsIn K mainGlobals "_law_parts" = some (some (.ref r20))) (l20 : K.lookup r20 = some ⟨oc20, od20, .func (PySem.W.fnOf "_law_parts" "_law_parts" (L2.defArgs f_law_parts.st) (L2.defBody f_law_parts.st) (L2.defScope f_law_parts.st) .none kV20 dc20 pm20 an20 cd20 ct20), sl20⟩) (c20 : PySem.W.codeIn K cd20 "_law_parts" = true) (k20 : PySem.W.keepIn K (.ref r20) = true)
    (a21 : PySem.W.nsIn K mainGlobals "_law_excess" = some (some (.ref r21))) (l21 : K.lookup r21 = some ⟨oc21, od21, .func (PySem.W.fnOf "_law_excess" "_law_excess" (L2.defArgs f_law_excess.st) (L2.defBody f_law_excess.st) (L2.defScope f_law_excess.st) .none kV21 dc21 pm21 an21 cd21 ct21), sl21⟩) (c21 : PySem.W.codeIn K cd21 "_law_excess" = true) (k21 : PySem.W.keepIn K (.ref r21) = true)
    (a22 : PySem.W.nsIn K mainGlobals "_law_is_edge" = some (some (.ref r22))) (l22 : K.lookup r22 = some ⟨oc22, od22, .func (PySem.W.fnOf "_law_is_edge" "_law_is_edge" (L2.defArgs f_law_is_edge.st) (L2.defBody f_law_is_edge.st) (L2.defScope f_law_is_edge.st) .none kV22 dc22 pm22 an22 cd22 ct22), sl22⟩) (c22 : PySem.W.codeIn K cd22 "_law_is_edge" = true) (k22 : PySem.W.keepIn K (.ref r22) = true)
    (a23 : PySem.W.nsIn K mainGlobals "_law_are_shards" = some (some (.ref r23))) (l23 : K.lookup r23 = some ⟨oc23, od23, .func (PySem.W.fnOf "_law_are_shards" "_law_are_shards" (L2.defArgs f_law_are_shards.st) (L2.defBody f_law_are_shards.st) (L2.defScope f_law_are_shards.st) .none kV23 dc23 pm23 an23 cd23 ct23), sl23⟩) (c23 : PySem.W.codeIn K cd23 "_law_are_shards" = true) (k23 : PySem.W.keepIn K (.ref r23) = true)
    (a24 : PySem.W.nsIn K mainGlobals "_law_near" = some (some (.ref r24))) (l24 : K.lookup r24 = some ⟨oc24, od24, .func (PySem.W.fnOf "_law_near" "_law_near" (L2.defArgs f_law_near.st) (L2.defBody f_law_near.st) (L2.defScope f_law_near.st) .none kV24 dc24 pm24 an24 cd24 ct24), sl24⟩) (c24 : PySem.W.codeIn K cd24 "_law_near" = true) (k24 : PySem.W.keepIn K (.ref r24) = true)
    (a25 : PySem.W.nsIn K mainGlobals "_law_right" = some (some (.ref r25))) (l25 : K.lookup r25 = some ⟨oc25, od25, .func (PySem.W.fnOf "_law_right" "_law_right" (L2.defArgs f_law_right.st) (L2.defBody f_law_right.st) (L2.defScope f_law_right.st) .none kV25 dc25 pm25 an25 cd25 ct25), sl25⟩) (c25 : PySem.W.codeIn K cd25 "_law_right" = true) (k25 : PySem.W.keepIn K (.ref r25) = true)
    (a26 : PySem.W.nsIn K mainGlobals "law" = some (some (.ref r26))) (l26 : K.lookup r26 = some ⟨oc26, od26, .func (PySem.W.fnOf "law" "law" (L2.defArgs f_law.st) (L2.defBody f_law.st) (L2.defScope f_law.st) .none kV26 dc26 pm26 an26 cd26 ct26), sl26⟩) (c26 : PySem.W.codeIn K cd26 "law" = true) (k26 : PySem.W.keepIn K (.ref r26) = true)
    (z_len : PySem.W.nsIn K mainGlobals "len" = some none)
    (z_abs : PySem.W.nsIn K mainGlobals "abs" = some none)
    (z_int : PySem.W.nsIn K mainGlobals "int" = some none)
    (z_list : PySem.W.nsIn K mainGlobals "list" = some none)
    (z_tuple : PySem.W.nsIn K mainGlobals "tuple" = some none)
    (z_all : PySem.W.nsIn K mainGlobals "all" = some none)
    (z_any : PySem.W.nsIn K mainGlobals "any" = some none)
    (z_sum : PySem.W.nsIn K mainGlobals "sum" = some none)
    (z_max : PySem.W.nsIn K mainGlobals "max" = some none)
    (z_min : PySem.W.nsIn K mainGlobals "min" = some none)
    (z_isinstance : PySem.W.nsIn K mainGlobals "isinstance" = some none)
    (z_bool : PySem.W.nsIn K mainGlobals "bool" = some none)
    (z_str : PySem.W.nsIn K mainGlobals "str" = some none)
    (z_range : PySem.W.nsIn K mainGlobals "range" = some none)
    (z_zip : PySem.W.nsIn K mainGlobals "zip" = some none)
    (z_enumerate : PySem.W.nsIn K mainGlobals "enumerate" = some none)
    (z_sorted : PySem.W.nsIn K mainGlobals "sorted" = some none)
    (z_set : PySem.W.nsIn K mainGlobals "set" = some none)
    (z_dict : PySem.W.nsIn K mainGlobals "dict" = some none)
    {t0 : Tok} (glb0 : PySem.W.nsIn K mainGlobals "TEETH" = some (some (.int 6 t0)))
    {t1 : Tok} (glb1 : PySem.W.nsIn K mainGlobals "LENGTH" = some (some (.int 20 t1)))
    {t2 : Tok} (glb2 : PySem.W.nsIn K mainGlobals "SHARDS" = some (some (.int 30 t2)))
    : ∃ fd : FuncData, (∀ (s : Shared) (v : Value), BindsTo s fd ⟨[v], []⟩ [("script", v)]) ∧ ∀ base : Heap, K.In base → base.Ns mainGlobals mg → L2.FnOk P w K mg base L2.CX0 32 fa fd ["script"] (spOf K (fun _ => .none) semLaw) := by
  have d0 : Df K mg "is_whole" f_is_whole.st ["value"] := df_mk X G bi0 a0 l0 c0 k0
  have d1 : Df K mg "fits_whole" f_fits_whole.st ["value", "low", "high"] := df_mk X G bi1 a1 l1 c1 k1
  have d2 : Df K mg "is_tuple_of" f_is_tuple_of.st ["value", "least", "most"] := df_mk X G bi2 a2 l2 c2 k2
  have d3 : Df K mg "fits_edge" f_fits_edge.st ["value"] := df_mk X G bi3 a3 l3 c3 k3
  have d4 : Df K mg "fits_shards" f_fits_shards.st ["value"] := df_mk X G bi4 a4 l4 c4 k4
  have d5 : Df K mg "need_shards" f_need_shards.st ["value"] := df_mk X G bi5 a5 l5 c5 k5
  have d6 : Df K mg "edges_in" f_edges_in.st ["shards"] := df_mk X G bi6 a6 l6 c6 k6
  have d7 : Df K mg "parts_in" f_parts_in.st ["shards"] := df_mk X G bi7 a7 l7 c7 k7
  have d8 : Df K mg "excess_in" f_excess_in.st ["shards"] := df_mk X G bi8 a8 l8 c8 k8
  have d9 : Df K mg "are_shards" f_are_shards.st ["value"] := df_mk X G bi9 a9 l9 c9 k9
  have d10 : Df K mg "shard_edges" f_shard_edges.st ["shards"] := df_mk X G bi10 a10 l10 c10 k10
  have d11 : Df K mg "fit_pairs" f_fit_pairs.st ["shards"] := df_mk X G bi11 a11 l11 c11 k11
  have d12 : Df K mg "shard_parts" f_shard_parts.st ["shards"] := df_mk X G bi12 a12 l12 c12 k12
  have d13 : Df K mg "edge_excess" f_edge_excess.st ["shards"] := df_mk X G bi13 a13 l13 c13 k13
  have d14 : Df K mg "shards_with" f_shards_with.st ["shards", "length"] := df_mk X G bi14 a14 l14 c14 k14
  have d15 : Df K mg "_law_cup" f_law_cup.st ["script"] := df_mk X G bi15 a15 l15 c15 k15
  have d16 : Df K mg "_law_roll" f_law_roll.st ["cup", "many"] := df_mk X G bi16 a16 l16 c16 k16
  have d17 : Df K mg "_law_some" f_law_some.st ["cup", "things"] := df_mk X G bi17 a17 l17 c17 k17
  have d18 : Df K mg "_law_same" f_law_same_0.st ["told", "due"] := df_mk X G bi18 a18 l18 c18 k18
  have d19 : Df K mg "_law_shards" f_law_shards.st ["cup", "many", "edges"] := df_mk X G bi19 a19 l19 c19 k19
  have d20 : Df K mg "_law_parts" f_law_parts.st ["shards"] := df_mk X G bi20 a20 l20 c20 k20
  have d21 : Df K mg "_law_excess" f_law_excess.st ["shards"] := df_mk X G bi21 a21 l21 c21 k21
  have d22 : Df K mg "_law_is_edge" f_law_is_edge.st ["value"] := df_mk X G bi22 a22 l22 c22 k22
  have d23 : Df K mg "_law_are_shards" f_law_are_shards.st ["value"] := df_mk X G bi23 a23 l23 c23 k23
  have d24 : Df K mg "_law_near" f_law_near.st ["cup", "shards"] := df_mk X G bi24 a24 l24 c24 k24
  have d25 : Df K mg "_law_right" f_law_right.st ["cup"] := df_mk X G bi25 a25 l25 c25 k25
  have F := df_last (st := f_law.st) X G hfa a26 l26 c26 k26
  have hb : ∀ x ∈ bltNames, mg x = none := by
    intro x hx
    simp only [bltNames, List.mem_cons, List.mem_nil_iff, or_false] at hx
    rcases hx with rfl | rfl | rfl | rfl | rfl | rfl | rfl | rfl | rfl | rfl | rfl | rfl | rfl | rfl | rfl | rfl | rfl | rfl | rfl
    · exact PySem.W.mg_none_of X G z_len
    · exact PySem.W.mg_none_of X G z_abs
    · exact PySem.W.mg_none_of X G z_int
    · exact PySem.W.mg_none_of X G z_list
    · exact PySem.W.mg_none_of X G z_tuple
    · exact PySem.W.mg_none_of X G z_all
    · exact PySem.W.mg_none_of X G z_any
    · exact PySem.W.mg_none_of X G z_sum
    · exact PySem.W.mg_none_of X G z_max
    · exact PySem.W.mg_none_of X G z_min
    · exact PySem.W.mg_none_of X G z_isinstance
    · exact PySem.W.mg_none_of X G z_bool
    · exact PySem.W.mg_none_of X G z_str
    · exact PySem.W.mg_none_of X G z_range
    · exact PySem.W.mg_none_of X G z_zip
    · exact PySem.W.mg_none_of X G z_enumerate
    · exact PySem.W.mg_none_of X G z_sorted
    · exact PySem.W.mg_none_of X G z_set
    · exact PySem.W.mg_none_of X G z_dict
  have hg : ∀ p ∈ gl, ∃ u v, mg p.1 = some u ∧ L2.RelV v u ∧ ∀ F, Rp K F v p.2 := by
    intro p hp
    simp only [gl, List.mem_cons, List.mem_nil_iff, or_false] at hp
    rcases hp with rfl | rfl | rfl
    · exact ⟨_, .int 6, PySem.W.mg_of X G glb0, ⟨_, rfl⟩, fun _ => .int _⟩
    · exact ⟨_, .int 20, PySem.W.mg_of X G glb1, ⟨_, rfl⟩, fun _ => .int _⟩
    · exact ⟨_, .int 30, PySem.W.mg_of X G glb2, ⟨_, rfl⟩, fun _ => .int _⟩
  refine ⟨PySem.W.fnOf "law" "law" (L2.defArgs f_law.st) (L2.defBody f_law.st) (L2.defScope f_law.st) .none kV26 dc26 pm26 an26 cd26 ct26, fun s v => .of_eq rfl, fun base _ _ => ?_⟩
  have g0 : Gok P w K mg base (fun _ => .none) 0 (mkG gl L0) := Gok.start hg hb
  have g1' : Gok P w K mg base (fun _ => .none) 1 (mkG gl L1) := g0.add (f := f_is_whole) d0 sc0 ck0
  have g2' : Gok P w K mg base (fun _ => .none) 2 (mkG gl L2) := g1'.add (f := f_fits_whole) d1 sc1 ck1
  have g3' : Gok P w K mg base (fun _ => .none) 3 (mkG gl L3) := g2'.add (f := f_is_tuple_of) d2 sc2 ck2
  have g4' : Gok P w K mg base (fun _ => .none) 4 (mkG gl L4) := g3'.add (f := f_fits_edge) d3 sc3 ck3
  have g5' : Gok P w K mg base (fun _ => .none) 5 (mkG gl L5) := g4'.add (f := f_fits_shards) d4 sc4 ck4
  have g6' : Gok P w K mg base (fun _ => .none) 6 (mkG gl L6) := g5'.add (f := f_need_shards) d5 sc5 ck5
  have g7' : Gok P w K mg base (fun _ => .none) 7 (mkG gl L7) := g6'.add (f := f_edges_in) d6 sc6 ck6
  have g8' : Gok P w K mg base (fun _ => .none) 8 (mkG gl L8) := g7'.add (f := f_parts_in) d7 sc7 ck7
  have g9' : Gok P w K mg base (fun _ => .none) 9 (mkG gl L9) := g8'.add (f := f_excess_in) d8 sc8 ck8
  have g10' : Gok P w K mg base (fun _ => .none) 10 (mkG gl L10) := g9'.add (f := f_are_shards) d9 sc9 ck9
  have g11' : Gok P w K mg base (fun _ => .none) 11 (mkG gl L11) := g10'.add (f := f_shard_edges) d10 sc10 ck10
  have g12' : Gok P w K mg base (fun _ => .none) 12 (mkG gl L12) := g11'.add (f := f_fit_pairs) d11 sc11 ck11
  have g13' : Gok P w K mg base (fun _ => .none) 13 (mkG gl L13) := g12'.add (f := f_shard_parts) d12 sc12 ck12
  have g14' : Gok P w K mg base (fun _ => .none) 14 (mkG gl L14) := g13'.add (f := f_edge_excess) d13 sc13 ck13
  have g15' : Gok P w K mg base (fun _ => .none) 15 (mkG gl L15) := g14'.add (f := f_shards_with) d14 sc14 ck14
  have g16' : Gok P w K mg base (fun _ => .none) 16 (mkG gl L16) := g15'.add (f := f_law_cup) d15 sc15 ck15
  have g17' : Gok P w K mg base (fun _ => .none) 17 (mkG gl L17) := g16'.add (f := f_law_roll) d16 sc16 ck16
  have g18' : Gok P w K mg base (fun _ => .none) 18 (mkG gl L18) := g17'.add (f := f_law_some) d17 sc17 ck17
  have g19' : Gok P w K mg base (fun _ => .none) 19 (mkG gl L19) := g18'.add (f := f_law_same_0) d18 sc18 ck18
  have g20' : Gok P w K mg base (fun _ => .none) 20 (mkG gl L20) := g19'.add (f := f_law_same_1) d18 sc19 ck19
  have g21' : Gok P w K mg base (fun _ => .none) 21 (mkG gl L21) := g20'.add (f := f_law_same_2) d18 sc20 ck20
  have g22' : Gok P w K mg base (fun _ => .none) 22 (mkG gl L22) := g21'.add (f := f_law_same_3) d18 sc21 ck21
  have g23' : Gok P w K mg base (fun _ => .none) 23 (mkG gl L23) := g22'.add (f := f_law_same_4) d18 sc22 ck22
  have g24' : Gok P w K mg base (fun _ => .none) 24 (mkG gl L24) := g23'.add (f := f_law_same_5) d18 sc23 ck23
  have g25' : Gok P w K mg base (fun _ => .none) 25 (mkG gl L25) := g24'.add (f := f_law_shards) d19 sc24 ck24
  have g26' : Gok P w K mg base (fun _ => .none) 26 (mkG gl L26) := g25'.add (f := f_law_parts) d20 sc25 ck25
  have g27' : Gok P w K mg base (fun _ => .none) 27 (mkG gl L27) := g26'.add (f := f_law_excess) d21 sc26 ck26
  have g28' : Gok P w K mg base (fun _ => .none) 28 (mkG gl L28) := g27'.add (f := f_law_is_edge) d22 sc27 ck27
  have g29' : Gok P w K mg base (fun _ => .none) 29 (mkG gl L29) := g28'.add (f := f_law_are_shards) d23 sc28 ck28
  have g30' : Gok P w K mg base (fun _ => .none) 30 (mkG gl L30) := g29'.add (f := f_law_near) d24 sc29 ck29
  have g31' : Gok P w K mg base (fun _ => .none) 31 (mkG gl L31) := g30'.add (f := f_law_right) d25 sc30 ck30
  exact fn_ok_law rfl F g31' sc31 ck31
end K26

namespace K26
open PySem Rv
local macro_rules | `(tactic| walk_at "op") => `(tactic| first
  | (show Bop.f Bop.add (PyData.int _) (PyData.int _) = some _; exact rfl) | (show Bop.f Bop.sub (PyData.int _) (PyData.int _) = some _; exact rfl)
  | (show Bop.f Bop.mul (PyData.int _) (PyData.int _) = some _; first | exact mul_l (by omega) (by omega) | exact mul_r (by omega) (by omega))
  | (show Bop.f Bop.mod _ _ = some _; exact mod_p (by omega)) | (show Bop.f Bop.fdiv _ _ = some _; exact fdiv_p (by omega) (log2_small (by omega))))
local macro_rules | `(tactic| walk_at "ee") => `(tactic| first
  | apply Ev.ci | apply Ev.cb | apply Ev.cn | apply Ev.cs | apply Ev.nil | apply Ev.peek | apply Ev.var | apply Ev.binP | apply Ev.bin | apply Ev.consP | apply Ev.cons
  | apply Ev.cmpP | apply Ev.cmp | apply Ev.idxP | apply Ev.idx | apply Ev.call | apply Ev.callm | apply Ev.bi | apply Ev.glb | apply Ev.one | apply Ev.neg | apply Ev.tup | apply Ev.lst
  | apply Ev.slP | apply Ev.sl | apply Ev.isi | apply Ev.rng1 | apply Ev.rng2 | apply Ev.not | apply Ev.varO)
local macro_rules | `(tactic| walk_at "e") => `(tactic| first
  | (show Ev _ _ _ _ _; walk_at "ee")
  | (show peekOf _ = none; exact rfl) | (show Option.isSome _ = true; exact rfl) | (show peekAt _ _ = some _; exact rfl)
  | (show Bop.f _ _ _ = some _; walk_at "op")
  | (show Cop.f _ (PyData.int _) (PyData.int _) = some _; exact rfl)
  | (show Evp _ _ _ _ _; first | apply Evp.nil | apply Evp.some)
  | (show (_ : Option _) = some _; exact rfl) | (show isNil _ = false; exact rfl)
  | (show (_ || _) = false; exact rfl) | (show (_ && _) = true; exact rfl) | (show List.length _ ≤ sizeLine; exact Nat.le_of_ble_eq_true rfl))
local macro_rules | `(tactic| walk_at "s") => `(tactic| first
  | (show Evs _ _ _ _ _; first | (apply Evs.seqX (Evs.ret ?_ rfl) (fun _ z => nomatch z)) | (apply Evs.seqX (Evs.retO rfl) (fun _ z => nomatch z)) | apply Evs.seq | apply Evs.nil | apply Evs.skip | apply Evs.set | apply Evs.asg | apply Evs.par2 | apply Evs.par3 | apply Evs.expr | apply Evs.seti | apply Evs.app)
  | walk_at "e")

theorem lcP {G : Genv} {elt it cond : E} {tg : Tg} {own : List (Str × Nat)} {env ew e3 : En} {d : D} {α : Type} (xs : List α) (mk f : α → D) (p : α → Bool)
    (h : Ev G it env d e3) (hl : itemsOf d = some (xs.map mk)) (hn : noHeld e3 (own.map (·.2)) = true) (hz : xs.length ≤ sizeLine) (hw : wipeE e3 (own.map (·.2)) = ew) (hr : restE ew e3 (own.map (·.2)) = e3) (hc : isNil cond = false)
    (hs : ∀ x ∈ xs, ∃ e1, asgT tg (mk x) ew = some e1 ∧ Ev G cond e1 (.bool (p x)) e1 ∧ wipeE e1 (own.map (·.2)) = ew ∧ (p x = true → Ev G elt e1 (f x) e1)) :
    Ev G (.lc elt tg it cond own) env (.list ((xs.filter p).map f)) e3 := by
  refine Ev.lc h hl (by rw [hn, List.length_map, decide_eq_true hz]; rfl) ?_ hr
  rw [hw]
  have key : ∀ (ys : List α) (acc : List D), (∀ x ∈ ys, x ∈ xs) → cgo (asgT tg) (condF (isNil cond) (ev G cond)) (ev G elt) (own.map (·.2)) (ys.map mk) ew acc = .ok (acc ++ (ys.filter p).map f, ew) := by
    intro ys
    induction ys with
    | nil => intro acc _; unfold cgo; simp
    | cons y ys ih =>
      intro acc hm
      obtain ⟨e1, g1, g2, g3, g4⟩ := hs y (hm y List.mem_cons_self)
      have ih := fun acc => ih acc fun x hx => hm x (List.mem_cons_of_mem _ hx)
      rw [List.map_cons]
      unfold cgo
      rw [g1]; dsimp only
      rw [hc]
      show ((ev G cond e1).nox.bind fun r => _) = _
      rw [show ev G cond e1 = _ from Ev.ok g2]
      show (match some (p y) with | some true => _ | some false => _ | none => _) = _
      cases hp : p y with
      | false =>
        show cgo _ _ _ _ _ (wipeE e1 _) _ = _
        rw [g3]
        have := ih acc
        rw [hc] at this
        rw [List.filter_cons_of_neg (by rw [hp]; exact Bool.false_ne_true)]
        exact this
      | true =>
        show ((ev G elt e1).nox.bind fun q => _) = _
        rw [show ev G elt e1 = _ from Ev.ok (g4 hp)]
        show cgo _ _ _ _ _ (wipeE e1 _) _ = _
        rw [g3]
        have := ih (acc ++ [f y])
        rw [hc] at this
        rw [List.filter_cons_of_pos hp, List.map_cons]
        rw [List.append_assoc] at this
        exact this
  exact key xs [] fun _ hx => hx
theorem lcA {G : Genv} {elt it : E} {tg : Tg} {own : List (Str × Nat)} {env ew e3 : En} {d : D} {α : Type} (xs : List α) (mk f : α → D)
    (h : Ev G it env d e3) (hl : itemsOf d = some (xs.map mk)) (hn : noHeld e3 (own.map (·.2)) = true) (hz : xs.length ≤ sizeLine) (hw : wipeE e3 (own.map (·.2)) = ew) (hr : restE ew e3 (own.map (·.2)) = e3)
    (hs : ∀ x ∈ xs, ∃ e1, asgT tg (mk x) ew = some e1 ∧ wipeE e1 (own.map (·.2)) = ew ∧ Ev G elt e1 (f x) e1) :
    Ev G (.lc elt tg it .nil own) env (.list (xs.map f)) e3 := by
  refine Ev.lc h hl (by rw [hn, List.length_map, decide_eq_true hz]; rfl) ?_ hr
  rw [hw]
  have key : ∀ (ys : List α) (acc : List D), (∀ x ∈ ys, x ∈ xs) → cgo (asgT tg) (condF (isNil .nil) (ev G .nil)) (ev G elt) (own.map (·.2)) (ys.map mk) ew acc = .ok (acc ++ ys.map f, ew) := by
    intro ys
    induction ys with
    | nil => intro acc _; unfold cgo; simp
    | cons y ys ih =>
      intro acc hm
      obtain ⟨e1, g1, g2, g3⟩ := hs y (hm y List.mem_cons_self)
      have ih := fun acc => ih acc fun x hx => hm x (List.mem_cons_of_mem _ hx)
      rw [List.map_cons]
      unfold cgo
      rw [g1]; dsimp only
      show ((ev G elt e1).nox.bind fun q => _) = _
      rw [show ev G elt e1 = _ from Ev.ok g3]
      show cgo _ _ _ _ _ (wipeE e1 _) _ = _
      rw [g2, List.map_cons]
      have := ih (acc ++ [f y])
      rw [List.append_assoc] at this
      exact this
  exact key xs [] fun _ hx => hx
theorem boolsD_map {α : Type} (f : α → Bool) : ∀ l : List α, boolsD? (l.map fun x => PyData.bool (f x)) = some (l.map f)
  | [] => rfl
  | x :: r => by
    show (boolsD? (r.map fun x => PyData.bool (f x))).map (f x :: ·) = _
    rw [boolsD_map f r]; rfl
theorem all_map {α : Type} (f : α → Bool) (l : List α) : Bi.all.f [.list (l.map fun x => PyData.bool (f x))] = some (.bool (l.all f)) := by
  show (boolsD? (l.map fun x => PyData.bool (f x))).map (fun bs => PyData.bool (bs.all id)) = _
  rw [boolsD_map]
  show some (PyData.bool ((l.map f).all id)) = _
  rw [List.all_map]; rfl
theorem canLay_all : ∀ {l : List D}, (∀ x ∈ l, x.canLay0 = true) → PyData.canLayAll0 l = true
  | [], _ => rfl
  | x :: r, h => by
    show (x.canLay0 && PyData.canLayAll0 r) = true
    rw [h x List.mem_cons_self, canLay_all fun y hy => h y (List.mem_cons_of_mem _ hy)]; rfl
theorem depth_all : ∀ {l : List D} {n : Nat}, (∀ x ∈ l, x.depth ≤ n) → PyData.depthAll l ≤ n
  | [], _, _ => Nat.zero_le _
  | x :: r, n, h => by
    show max x.depth (PyData.depthAll r) ≤ n
    exact Nat.max_le.mpr ⟨h x List.mem_cons_self, depth_all fun y hy => h y (List.mem_cons_of_mem _ hy)⟩
def Flt (n : Nat) (d : D) : Prop := d.canLay0 = true ∧ d.depth ≤ n
theorem Flt.shaped {n : Nat} {d : D} (h : Flt n d) (hn : n ≤ 64) : SeqAt.shaped d = true := by
  unfold SeqAt.shaped
  rw [h.1, decide_eq_true (Nat.le_trans h.2 hn)]; rfl
theorem Flt.tup {n : Nat} {l : List D} (h : ∀ x ∈ l, Flt n x) : Flt (n + 1) (.tuple l) := ⟨canLay_all fun x hx => (h x hx).1, Nat.succ_le_succ (depth_all fun x hx => (h x hx).2)⟩
theorem Flt.lst {n : Nat} {l : List D} (h : ∀ x ∈ l, Flt n x) : Flt (n + 1) (.list l) := ⟨canLay_all fun x hx => (h x hx).1, Nat.succ_le_succ (depth_all fun x hx => (h x hx).2)⟩
theorem eq_nil {n : Nat} {l : List D} (h : ∀ x ∈ l, Flt n x) (hn : n < 64) : Cop.eq.f (.list l) (.list []) = some (.bool l.isEmpty) := by
  show (if SeqAt.shaped (.list l) && SeqAt.shaped (.list []) then some (PyData.bool (PyData.eqv (.list l) (.list []))) else none) = _
  rw [if_pos (by rw [(Flt.lst h).shaped (by omega)]; decide)]
  cases l <;> rfl
theorem ne_nil {n : Nat} {l : List D} (h : ∀ x ∈ l, Flt n x) (hn : n < 64) : Cop.ne.f (.list l) (.list []) = some (.bool (!l.isEmpty)) := by
  show (if SeqAt.shaped (.list l) && SeqAt.shaped (.list []) then some (PyData.bool (!PyData.eqv (.list l) (.list []))) else none) = _
  rw [if_pos (by rw [(Flt.lst h).shaped (by omega)]; decide)]
  cases l <;> rfl
theorem cut1 (l : List D) : cutD l (some (1 : Int)) none = l.drop 1 := by
  unfold cutD
  have e1 : HT.sIx l.length 0 (some (1 : Int)) = min 1 l.length := HT.sIx_nat l.length 0 1
  rw [e1, HT.sIx_none, List.take_of_length_le (by rw [List.length_drop]; omega)]
  cases l with
  | nil => rfl
  | cons x r => rw [List.length_cons, Nat.min_eq_left (by omega)]
theorem all_tt {α : Type} (l : List α) : Bi.all.f [.list (l.map fun _ => PyData.bool true)] = some (.bool true) := by
  have h2 := all_map (fun _ : α => true) l
  rwa [show l.all (fun _ => true) = true from List.all_eq_true.mpr fun _ _ => rfl] at h2
theorem add_tup {x y : List D} (h : x.length + y.length ≤ sizeLine) : Bop.add.f (.tuple x) (.tuple y) = some (.tuple (x ++ y)) := by
  show (if x.length + y.length ≤ sizeLine then _ else _) = _
  rw [if_pos h]
theorem add_lst {x y : List D} (h : x.length + y.length ≤ sizeLine) : Bop.add.f (.list x) (.list y) = some (.list (x ++ y)) := by
  show (if x.length + y.length ≤ sizeLine then _ else _) = _
  rw [if_pos h]
theorem forGo_nx {asg : D → En → Option En} {body : En → So} {x : D} {xs : List D} {env e1 e2 : En} (h : asg x env = some e1) (hb : body e1 = .nx e2) : forGo asg body (x :: xs) env = forGo asg body xs e2 := by
  conv => lhs; unfold forGo
  rw [h]; dsimp only; rw [hb]
theorem forGo_rt {asg : D → En → Option En} {body : En → So} {x d : D} {xs : List D} {env e1 e2 : En} (h : asg x env = some e1) (hb : body e1 = .rt d e2) : forGo asg body (x :: xs) env = .rt d e2 := by
  conv => lhs; unfold forGo
  rw [h]; dsimp only; rw [hb]
def Fre (s : Sl) : Prop := ∀ l, s ≠ .bor l
theorem Fre.pd {d : D} : Fre (.pd d) := fun _ z => nomatch z
theorem Fre.no : Fre .no := fun _ z => nomatch z
theorem rng_nat {n : Nat} (h : n ≤ 1000) : rngOk ((n : Nat) : Int) = true := by
  unfold rngOk
  rw [decide_eq_true (by omega), decide_eq_true (by omega)]; rfl
theorem is_tuple_of_ok {l : List D} {a b : Nat} (h1 : a ≤ l.length) (h2 : l.length ≤ b) : sem2.f [.tuple l, .int a, .int b] = Rs.ok (.bool true, []) := by
  apply sem_rt (F := f_is_tuple_of) (e1 := [Sl.pd (.tuple l), .pd (.int a), .pd (.int b)])
  case hh => rfl
  case h =>
    show Evs _ _ b_is_tuple_of [Sl.pd (.tuple l), .pd (.int a), .pd (.int b)] _
    unfold b_is_tuple_of
    have e1 : Cop.le.f (.int (a : Int)) (.int (l.length : Nat)) = some (.bool true) := by
      show some (PyData.bool (decide ((a : Int) ≤ (l.length : Nat)))) = _
      rw [decide_eq_true (by omega)]
    have e2 : Cop.le.f (.int ((l.length : Nat) : Int)) (.int (b : Int)) = some (.bool true) := by
      show some (PyData.bool (decide (((l.length : Nat) : Int) ≤ (b : Int)))) = _
      rw [decide_eq_true (by omega)]
    exact Evs.seqX (Evs.ret (Ev.andT (x := .bool true) (Ev.isi (Ev.var rfl) rfl) rfl (Ev.one (Ev.chain (k := true) (m := true) (Ev.var rfl) (Ev.bi (Ev.consP Ev.nil rfl rfl) rfl) e1 fun _ => ⟨_, Ev.var rfl, e2⟩))) rfl) (fun _ z => nomatch z)
open PySem.W (dataLe dataLt alike alikeAll)
theorem srt_perm (l : List D) : (srt l).Perm l := List.mergeSort_perm _ _
theorem srt_pw (l : List D) : (srt l).Pairwise fun a b => dataLt b a = false := by
  have h := PySem.W.sortLe_total (α := D) (PyProof.Rows.listOrd PyProof.Rows.itemOrd) false (fun b => PySem.W.keyToks (id b))
  have := List.pairwise_mergeSort (le := dataLe false (id : D → D)) h.trans (fun a b => by
    rcases h.total a b with z | z
    · rw [show dataLe false (id : D → D) a b = true from z]; rfl
    · rw [show dataLe false (id : D → D) b a = true from z, Bool.or_true]) l
  refine List.Pairwise.imp (fun {a b} z => ?_) this
  have z : (!dataLt b a) = true := z
  simpa using z
theorem sortD_of {l : List D} (h1 : ∀ d ∈ l, ∀ e ∈ l, alike d e = true) (h2 : (l.all isTup || l.all notTup) = true) (h3 : l.length ≤ sizeLine) (h4 : ∀ d ∈ l, d.depth ≤ 60) : Bi.sorted.f [.list l] = some (.list (srt l)) := by
  have hk : sortOk l = true := by
    unfold sortOk
    rw [h2, decide_eq_true h3, show (l.all fun d => l.all fun e => alike d e) = true from List.all_eq_true.mpr fun d hd => List.all_eq_true.mpr fun e he => h1 d hd e he, show (l.all fun d => decide (d.depth ≤ 60)) = true from List.all_eq_true.mpr fun d hd => decide_eq_true (h4 d hd)]; rfl
  show (if sortOk l = true then some (PyData.list (srt l)) else none) = _
  rw [if_pos hk]
theorem pw_unique {α : Type} {R : α → α → Prop} (hR : ∀ a b, R a b → R b a → a = b) : ∀ {l m : List α}, l.Perm m → l.Pairwise R → m.Pairwise R → (∀ a ∈ l, R a a) → l = m
  | [], m, h, _, _, _ => by rw [h.symm.eq_nil]
  | x :: l, [], h, _, _, _ => by cases h.eq_nil
  | x :: l, y :: m, h, h1, h2, hr => by
    obtain ⟨a1, a2⟩ := List.pairwise_cons.mp h1
    obtain ⟨b1, b2⟩ := List.pairwise_cons.mp h2
    have hx : x ∈ y :: m := h.mem_iff.mp List.mem_cons_self
    have hy : y ∈ x :: l := h.mem_iff.mpr List.mem_cons_self
    have e : x = y := by
      rcases List.mem_cons.mp hx with e | hx
      · exact e
      · rcases List.mem_cons.mp hy with e | hy
        · exact e.symm
        · exact hR x y (a1 y hy) (b1 x hx)
    subst e
    rw [pw_unique hR (List.Perm.cons_inv h) a2 b2 fun a ha => hr a (List.mem_cons_of_mem _ ha)]
def Npd (s : Sl) : Prop := s = .no ∨ ∃ d, s = .pd d
theorem Npd.fre {s : Sl} (h : Npd s) : Fre s := by
  rcases h with rfl | ⟨d, rfl⟩
  · exact Fre.no
  · exact Fre.pd
theorem Npd.pd {d : D} : Npd (.pd d) := .inr ⟨d, rfl⟩
def isTp : D → Bool
  | .tuple _ => true
  | _ => false
theorem isi_t {d : D} (h : isDictD d = false) : isiD d .tuple = some (.bool (isTp d)) := by cases d <;> first | rfl | cases h
def tupLen (a b : Nat) : D → Bool
  | .tuple l => decide (a ≤ l.length) && decide (l.length ≤ b)
  | _ => false
theorem le_i (a b : Nat) : Cop.le.f (.int (a : Int)) (.int (b : Int)) = some (.bool (decide (a ≤ b))) := by
  show some (PyData.bool (decide ((a : Int) ≤ (b : Int)))) = _
  congr 2
  exact decide_eq_decide.mpr (by omega)
theorem is_tuple_of_gen {d : D} (h : isDictD d = false) (a b : Nat) : sem2.f [d, .int a, .int b] = Rs.ok (.bool (tupLen a b d), []) := by
  apply sem_rt (F := f_is_tuple_of) (e1 := [Sl.pd d, .pd (.int a), .pd (.int b)])
  case hh => rfl
  case h =>
    show Evs _ _ b_is_tuple_of [Sl.pd d, .pd (.int a), .pd (.int b)] _
    unfold b_is_tuple_of
    cases hd : isTp d with
    | false =>
      have e : tupLen a b d = false := by cases d <;> first | rfl | cases hd
      rw [e]
      exact Evs.seqX (Evs.ret (Ev.andF (x := .bool false) (Ev.isi (Ev.var rfl) (by rw [isi_t h, hd])) rfl) rfl) (fun _ z => nomatch z)
    | true =>
      obtain ⟨l, rfl⟩ : ∃ l, d = .tuple l := by cases d <;> first | exact ⟨_, rfl⟩ | cases hd
      exact Evs.seqX (Evs.ret (Ev.andT (x := .bool true) (Ev.isi (Ev.var rfl) rfl) rfl (Ev.one (Ev.chain (k := decide (a ≤ l.length)) (m := decide (l.length ≤ b)) (Ev.var rfl) (Ev.bi (Ev.consP Ev.nil rfl rfl) rfl) (le_i _ _) fun _ => ⟨_, Ev.var rfl, le_i _ _⟩))) rfl) (fun _ z => nomatch z)
theorem pair_of {d : D} (h : tupLen 2 2 d = true) : ∃ n t, d = .tuple [n, t] := by
  cases d with
  | tuple l =>
    have h : (decide (2 ≤ l.length) && decide (l.length ≤ 2)) = true := h
    rw [Bool.and_eq_true, decide_eq_true_iff, decide_eq_true_iff] at h
    match l, h with
    | [n, t], _ => exact ⟨n, t, rfl⟩
    | [], h => exact absurd h.1 (by simp)
    | [_], h => exact absurd h.1 (by simp)
    | _ :: _ :: _ :: _, h => exact absurd h.2 (by simp only [List.length_cons]; omega)
  | _ => cases h
theorem not_all {ds : List D} {p q : D → Bool} (h : ds.all p = false) (hq : ∀ d, q d = true → p d = true) : ds.all q = false := by
  rw [Bool.eq_false_iff] at h ⊢
  exact fun z => h (List.all_eq_true.mpr fun d hd => hq d (List.all_eq_true.mp z d hd))
section
variable {α : Type}
def enA (l : List α) : List (Nat × α) := (List.range l.length).zip l
theorem enA_snd (l : List α) : (enA l).map (·.2) = l := by
  unfold enA
  rw [List.map_snd_zip (by rw [List.length_range]; exact Nat.le_refl _)]
theorem enA_len (l : List α) : (enA l).length = l.length := by unfold enA; rw [List.length_zip, List.length_range, Nat.min_self]
theorem enA_map {β : Type} (f : α → β) (l : List α) : enA (l.map f) = (enA l).map fun p => (p.1, f p.2) := by
  unfold enA
  rw [List.length_map]
  conv => lhs; rw [← List.map_id (List.range l.length)]
  rw [List.zip_map]
  exact List.map_congr_left fun p _ => rfl
theorem mem_enA {l : List α} {p : Nat × α} (h : p ∈ enA l) : l[p.1]? = some p.2 := by
  unfold enA at h
  obtain ⟨i, hi, e⟩ := List.mem_iff_getElem.mp h
  rw [List.getElem_zip, List.getElem_range] at e
  rw [← e]
  rw [List.length_zip, List.length_range, Nat.min_self] at hi
  exact List.getElem?_eq_getElem hi
theorem enA_mem {l : List α} {p : Nat × α} (h : p ∈ enA l) : p.2 ∈ l := List.mem_of_getElem? (mem_enA h)
theorem filter_enA (P : α → Bool) (l : List α) : ((enA l).filter fun p => P p.2).map (·.2) = l.filter P := by
  conv => rhs; rw [← enA_snd l]
  rw [List.filter_map]; rfl
theorem pw_idx {R : α → α → Prop} (hs : ∀ a b, R a b → R b a) {l : List α} (h : l.Pairwise R) {i j : Nat} {a b : α} (hi : l[i]? = some a) (hj : l[j]? = some b) (hne : i ≠ j) : R a b := by
  obtain ⟨h1, rfl⟩ := List.getElem?_eq_some_iff.mp hi
  obtain ⟨h2, rfl⟩ := List.getElem?_eq_some_iff.mp hj
  rw [List.pairwise_iff_getElem] at h
  rcases Nat.lt_or_gt_of_ne hne with z | z
  · exact h i j h1 h2 z
  · exact hs _ _ (h j i h2 h1 z)
end
def dk (l : List (List Int)) : List (List Int) := l.foldl (fun acc x => if acc.contains x then acc else acc ++ [x]) []
theorem dk_snoc (l : List (List Int)) (x : List Int) : dk (l ++ [x]) = if (dk l).contains x then dk l else dk l ++ [x] := by unfold dk; rw [List.foldl_append]; rfl
theorem snoc_ind' {α : Type} {P : List α → Prop} (h0 : P []) (h1 : ∀ s x, P s → P (s ++ [x])) : ∀ s, P s := by
  intro s
  rw [← List.reverse_reverse s]
  induction s.reverse with
  | nil => exact h0
  | cons x r ih => rw [List.reverse_cons]; exact h1 _ _ ih
theorem mem_dk : ∀ (l : List (List Int)) {x : List Int}, x ∈ dk l ↔ x ∈ l := by
  refine snoc_ind' (by intro x; rfl) ?_
  intro l y ih x
  rw [dk_snoc, List.mem_append, List.mem_singleton]
  split
  · rename_i hc
    rw [ih]
    constructor
    · exact .inl
    · rintro (h | rfl)
      · exact h
      · exact ih.mp (List.contains_iff_mem.mp hc)
  · rw [List.mem_append, List.mem_singleton, ih]
theorem nodup_dk : ∀ l : List (List Int), (dk l).Nodup := by
  refine snoc_ind' List.nodup_nil ?_
  intro l y ih
  rw [dk_snoc]
  split
  · exact ih
  · rename_i hc
    rw [List.nodup_append]
    refine ⟨ih, List.nodup_cons.mpr ⟨by simp, List.nodup_nil⟩, fun a ha b hb e => hc ?_⟩
    rw [List.mem_singleton] at hb
    subst hb; subst e
    exact List.contains_iff_mem.mpr ha
theorem dk_len : ∀ l : List (List Int), (dk l).length ≤ l.length := by
  refine snoc_ind' (Nat.le_refl _) ?_
  intro l y ih
  rw [dk_snoc, List.length_append]
  split
  · omega
  · rw [List.length_append]; show _ + 1 ≤ _ + 1; omega
def iN (k : Nat) : D := .int (k : Int)
theorem zw_map {α β γ δ : Type} (f : β → γ → δ) (g : α → γ) : ∀ (as : List β) (bs : List α), List.zipWith f as (bs.map g) = (as.zip bs).map fun p => f p.1 (g p.2)
  | [], _ => by simp
  | _ :: _, [] => rfl
  | a :: as, b :: bs => by
    rw [List.map_cons, List.zipWith_cons_cons, List.zip_cons_cons, List.map_cons, zw_map f g as bs]
theorem int_bne (a b : Nat) : (!((a : Int) == (b : Int))) = (a != b) := by
  show (!((a : Int) == (b : Int))) = !(a == b)
  congr 1
  rw [Bool.eq_iff_iff, beq_iff_eq, beq_iff_eq]; omega

def Cup (l : List D) : Prop := ∃ a b : Int, l = [.int a, .int b] ∧ 0 ≤ a ∧ 0 ≤ b ∧ b < 2 ^ 40
theorem tru_dec {p : Prop} [Decidable p] (h : p) : tru (.bool (decide p)) = some true := by show some (decide p) = _; rw [decide_eq_true h]
theorem tru_decF {p : Prop} [Decidable p] (h : ¬ p) : tru (.bool (decide p)) = some false := by show some (decide p) = _; rw [decide_eq_false h]
theorem log2_nat {n : Nat} (h : n < 2 ^ 60) : (n : Int).natAbs.log2 < 9000 := log2_small (by show n < _; omega)
theorem roll_ok {c : List D} (hc : Cup c) {n : Nat} (h0 : 0 < n) (hn : n < 2 ^ 60) : ∃ (r : Nat) (c' : List D), r < n ∧ Cup c' ∧ sem16.f [.list c, .int (n : Int)] = Rs.ok (.int (r : Int), c') := by
  obtain ⟨a, b, rfl, ha, hb, hb2⟩ := hc
  have hn1 : (0 : Int) < n := by omega
  by_cases hA : 0 < a
  · have hr : 0 ≤ a % (n : Int) := Int.emod_nonneg _ (by omega)
    have hr2 : a % (n : Int) < n := Int.emod_lt_of_pos _ hn1
    refine ⟨(a % (n : Int)).toNat, [.int (a / (n : Int)), .int b], by omega, ⟨_, _, rfl, Int.ediv_nonneg ha (by omega), hb, hb2⟩, ?_⟩
    rw [Int.toNat_of_nonneg hr]
    apply sem_rt (F := f_law_roll) (e1 := [Sl.bor [.int (a / (n : Int)), .int b], .pd (.int (n : Int)), .no, .pd (.int (a % (n : Int)))])
    case hh => rfl
    case h =>
      show Evs _ _ b_law_roll [Sl.bor [.int a, .int b], .pd (.int (n : Int)), .no, .no] _
      unfold b_law_roll
      have hx : ∀ {s2 s3}, Ev (mkG gl L16) (.idx (.peek 0) (.ci 0)) [Sl.bor [.int a, .int b], .pd (.int (n : Int)), s2, s3] (.int a) [Sl.bor [.int a, .int b], .pd (.int (n : Int)), s2, s3] := Ev.idxP Ev.ci rfl rfl rfl
      exact Evs.seqX (Evs.ifT (Ev.cmp rfl hx Ev.ci rfl) (tru_dec hA) (Evs.seq (Evs.set (Ev.bin rfl (Ev.bi (Ev.cons rfl hx Ev.nil) rfl) (Ev.peek rfl) (mod_p hn1)) rfl)
        (Evs.seq (Evs.seti (l2 := [.int (a / (n : Int)), .int b]) (Ev.bin rfl hx (Ev.peek rfl) (fdiv_p hn1 (log2_nat hn))) rfl Ev.ci rfl rfl) (Evs.seqX (Evs.ret (Ev.var rfl) rfl) (fun _ z => nomatch z))))) (fun _ z => nomatch z)
  · have ha0 : a = 0 := by omega
    subst ha0
    generalize hb' : (b * 30757 + 7793) % 2147482951 = b'
    have p1 : 0 ≤ b' := by rw [← hb']; exact Int.emod_nonneg _ (by decide)
    have p2 : b' < 2147482951 := by rw [← hb']; exact Int.emod_lt_of_pos _ (by decide)
    generalize hd : (b' * (b' + 239)) % 2147483059 = d
    have p3 : 0 ≤ d := by rw [← hd]; exact Int.emod_nonneg _ (by decide)
    have hr : 0 ≤ (d / 839) % (n : Int) := Int.emod_nonneg _ (by omega)
    have hr2 : (d / 839) % (n : Int) < n := Int.emod_lt_of_pos _ hn1
    refine ⟨((d / 839) % (n : Int)).toNat, [.int 0, .int b'], by omega, ⟨_, _, rfl, by omega, p1, by omega⟩, ?_⟩
    rw [Int.toNat_of_nonneg hr]
    apply sem_rt (F := f_law_roll) (e1 := [Sl.bor [.int 0, .int b'], .pd (.int (n : Int)), .pd (.int d), .no])
    case hh => rfl
    case h =>
      show Evs _ _ b_law_roll [Sl.bor [.int 0, .int b], .pd (.int (n : Int)), .no, .no] _
      unfold b_law_roll
      have h1 : Bop.mod.f (.int (b * 30757 + 7793)) (.int 2147482951) = some (.int b') := by rw [← hb']; exact mod_p (by decide)
      have h2 : Bop.mod.f (.int (b' * (b' + 239))) (.int 2147483059) = some (.int d) := by rw [← hd]; exact mod_p (by decide)
      have hy : ∀ {x s2}, Ev (mkG gl L16) (.idx (.peek 0) (.ci 1)) [Sl.bor [.int 0, .int x], .pd (.int (n : Int)), s2, .no] (.int x) [Sl.bor [.int 0, .int x], .pd (.int (n : Int)), s2, .no] := Ev.idxP Ev.ci rfl rfl rfl
      exact Evs.seq (Evs.ifF (Ev.cmp rfl (Ev.idxP Ev.ci rfl rfl rfl) Ev.ci rfl) (tru_decF (by omega)) Evs.nil)
        (Evs.seq (Evs.seti (l2 := [.int 0, .int b']) (Ev.bin rfl (Ev.bi (Ev.cons rfl (Ev.bin rfl (Ev.bin rfl hy Ev.ci (mul_r (by omega) (by omega))) Ev.ci rfl) Ev.nil) rfl) Ev.ci h1) rfl Ev.ci rfl rfl)
        (Evs.seq (Evs.set (Ev.bin rfl (Ev.bi (Ev.cons rfl (Ev.bin rfl hy (Ev.bin rfl hy Ev.ci rfl) (mul_l (by omega) (by omega))) Ev.nil) rfl) Ev.ci h2) rfl)
        (Evs.seqX (Evs.ret (Ev.bin rfl (Ev.bi (Ev.cons rfl (Ev.binP Ev.ci rfl rfl (fdiv_p (by omega) (log2_small (by decide)))) Ev.nil) rfl) (Ev.peek rfl) (mod_p hn1)) rfl) (fun _ z => nomatch z))))
theorem atI_nat' {l : List D} {r : Nat} (h : r < l.length) : L2.atI l (r : Int) = some l[r] := by
  unfold L2.atI L2.ixN
  rw [if_pos (by omega), if_pos (by omega)]
  show l[(r : Int).toNat]? = _
  rw [Int.toNat_natCast, List.getElem?_eq_getElem h]
theorem some_ok {c : List D} (hc : Cup c) {l : List D} (h0 : 0 < l.length) (hn : l.length < 2 ^ 60) : ∃ (x : D) (c' : List D), x ∈ l ∧ Cup c' ∧ sem17.f [.list c, .list l] = Rs.ok (x, c') := by
  obtain ⟨r, c', hr, hc', he⟩ := roll_ok hc h0 hn
  refine ⟨l[r], c', List.getElem_mem hr, hc', ?_⟩
  apply sem_rt (F := f_law_some) (e1 := [Sl.bor c', .pd (.list l)])
  case hh => rfl
  case h =>
    show Evs _ _ b_law_some [Sl.bor c, .pd (.list l)] _
    unfold b_law_some
    have h1 : idxD (.list l) (.int (r : Int)) = some l[r] := atI_nat' hr
    exact Evs.seqX (Evs.ret (Ev.idxP (Ev.callm rfl rfl (Ev.cons rfl (Ev.bi (Ev.consP Ev.nil rfl rfl) rfl) Ev.nil) rfl rfl he) rfl rfl h1) rfl) (fun _ z => nomatch z)
theorem cup_ok {ns : List Int} (h : ns.length ≤ 63) : ∃ c, Cup c ∧ sem15.f [.list (ns.map PyData.int)] = Rs.ok (.list c, []) := by
  have hz := PySem.sizeLine_eq
  obtain ⟨x, hx⟩ : ∃ x : Int, L2.atI (ns.map PyData.int ++ [PyData.int 0]) 0 = some (.int x) := by
    cases ns with
    | nil => exact ⟨0, rfl⟩
    | cons y r => exact ⟨y, atI_nat' (l := (y :: r).map PyData.int ++ [PyData.int 0]) (r := 0) (by simp)⟩
  generalize hy : (if x < 0 then -x else x) = y
  have hy0 : 0 ≤ y := by rw [← hy]; split <;> omega
  have habs : Bi.abs.f [.int x] = some (.int y) := by rw [← hy]; rfl
  have hp : Bop.pow.f (.int 10) (.int 18) = some (.int (10 ^ 18)) := by
    show (if (0:Int) ≤ 18 ∧ (18:Int) ≤ 1000000 ∧ Int.natAbs 10 < 2 ^ 64 then some (PyData.int (10 ^ (18:Int).toNat)) else none) = _
    rw [if_pos (by decide)]; rfl
  have hm : Bop.mod.f (.int (y * 347 + 3929)) (.int 2077502087) = some (.int ((y * 347 + 3929) % 2077502087)) := mod_p (by decide)
  have m1 : 0 ≤ (y * 347 + 3929) % 2077502087 := Int.emod_nonneg _ (by decide)
  have m2 : (y * 347 + 3929) % 2077502087 < 2077502087 := Int.emod_lt_of_pos _ (by decide)
  refine ⟨[if decide ((10:Int) ^ 18 ≤ y) then PyData.int (y / 101) else PyData.int 0, .int ((y * 347 + 3929) % 2077502087 + 223)], ?_, ?_⟩
  · by_cases hb : (10:Int) ^ 18 ≤ y
    · rw [if_pos (decide_eq_true hb)]; exact ⟨_, _, rfl, Int.ediv_nonneg hy0 (by decide), by omega, by omega⟩
    · rw [if_neg (by rw [decide_eq_false hb]; exact Bool.false_ne_true)]; exact ⟨_, _, rfl, by omega, by omega, by omega⟩
  · apply sem_rt (F := f_law_cup) (e1 := [Sl.pd (.list (ns.map PyData.int)), .pd (.int y)])
    case hh => rfl
    case h =>
      show Evs _ _ b_law_cup [Sl.pd (.list (ns.map PyData.int)), .no] _
      unfold b_law_cup
      refine Evs.seq (Evs.set (Ev.bi (l := [.int x]) (Ev.cons rfl (Ev.idx (x := .list (ns.map PyData.int ++ [PyData.int 0])) rfl (Ev.bin rfl (Ev.bi (Ev.consP Ev.nil rfl rfl) rfl) (Ev.lst (Ev.cons rfl Ev.ci Ev.nil) ?_) (add_lst ?_)) Ev.ci hx) Ev.nil) habs) rfl) (Evs.seqX (Evs.ret (Ev.lst (Ev.cons rfl (Ev.ite (Ev.cmpP (Ev.bin rfl Ev.ci Ev.ci hp) rfl rfl rfl) rfl (fun _ => Ev.binP Ev.ci rfl rfl (fdiv_p (by decide) (log2_small (by decide)))) (fun _ => Ev.ci)) (Ev.cons rfl (Ev.bin rfl (Ev.bin rfl (Ev.bi (Ev.cons rfl (Ev.bin rfl (Ev.binP Ev.ci rfl rfl (mul_r (by omega) (by omega))) Ev.ci rfl) Ev.nil) rfl) Ev.ci hm) Ev.ci rfl) Ev.nil)) ?_) rfl) (fun _ z => nomatch z))
      · show 1 ≤ _; omega
      · rw [List.length_map]; show _ + 1 ≤ _; omega
      · show 2 ≤ _; omega
def Sim : Nat → D → Prop
  | 0, _ => False
  | _ + 1, .none => True
  | _ + 1, .bool _ => True
  | _ + 1, .int _ => True
  | _ + 1, .str x => (PyData.str x).canLay0 = true
  | j + 1, .tuple l => l.length ≤ 1000 ∧ ∀ x ∈ l, Sim j x
  | _ + 1, _ => False
theorem mem_rngD {lo hi : Int} {x : D} (h : x ∈ rngD lo hi) : ∃ k : Nat, x = .int (lo + (k : Int)) ∧ (k : Int) < hi - lo := by
  unfold rngD at h
  obtain ⟨k, hk, rfl⟩ := List.mem_map.mp h
  have := List.mem_range.mp hk
  exact ⟨k, rfl, by omega⟩
theorem all_true {α : Type} (l : List α) : Bi.all.f [.list (l.map fun _ => PyData.bool true)] = some (.bool true) := by
  show (boolsD? (l.map fun _ => PyData.bool true)).map (fun bs => PyData.bool (bs.all id)) = _
  have : boolsD? (l.map fun _ => PyData.bool true) = some (l.map fun _ => true) := by
    induction l with
    | nil => rfl
    | cons x r ih => rw [List.map_cons]; unfold boolsD?; rw [ih]; rfl
  rw [this]
  show some (PyData.bool ((l.map fun _ => true).all id)) = _
  rw [List.all_map]
  congr 2
  rw [List.all_eq_true]; intro x _; rfl
theorem rng_ok' {n : Nat} (h : n ≤ 1000) : rngOk ((n : Nat) : Int) = true := by
  unfold rngOk
  rw [decide_eq_true (by omega), decide_eq_true (by omega)]; rfl
theorem same_str {x : Str} (h : (PyData.str x).canLay0 = true) : Cop.eq.f (.str x) (.str x) = some (.bool true) := by
  have hs : SeqAt.shaped (.str x) = true := Flt.shaped (n := 0) ⟨h, Nat.le_refl _⟩ (by omega)
  show (if SeqAt.shaped (.str x) && SeqAt.shaped (.str x) then some (PyData.bool (x == x)) else none) = _
  rw [hs, beq_self_eq_true]; rfl
theorem same_step {G : Genv} {self : Nat} {fs : FSem} {j : Nat} (hf : G.fn self = some fs) (hm : fs.mu = false) (ha : fs.ar = 2) (ih : ∀ x, Sim j x → fs.f [x, x] = Rs.ok (.bool true, [])) {d : D} (hd : Sim (j + 1) d) :
    Evs G false (b_law_same self) [Sl.pd d, .pd d, .no] (.rt (.bool true) [Sl.pd d, .pd d, .no]) := by
  have hz := PySem.sizeLine_eq
  unfold b_law_same
  have two : ∀ n : Nat, (fs.mu || !(2 == fs.ar)) = false := fun _ => by rw [hm, ha]; rfl
  cases d with
  | tuple l =>
    obtain ⟨hl, hx⟩ := hd
    have hlen : Ev G (.bi .len (.cons (.peek 1) .nil)) [Sl.pd (.tuple l), .pd (.tuple l), .no] (.int (l.length : Nat)) [Sl.pd (.tuple l), .pd (.tuple l), .no] := Ev.bi (Ev.consP Ev.nil rfl rfl) rfl
    have hlen0 : Ev G (.bi .len (.cons (.peek 0) .nil)) [Sl.pd (.tuple l), .pd (.tuple l), .no] (.int (l.length : Nat)) [Sl.pd (.tuple l), .pd (.tuple l), .no] := Ev.bi (Ev.consP Ev.nil rfl rfl) rfl
    have hne : Cop.ne.f (.int ((l.length : Nat) : Int)) (.int (l.length : Nat)) = some (.bool false) := by
      show some (PyData.bool (!(((l.length : Nat) : Int) == (l.length : Nat)))) = _
      rw [beq_self_eq_true]; rfl
    have hc : cgo (asgT (.nm 2)) (condF (isNil .nil) (ev G .nil)) (ev G (.call self (.cons (.idx (.peek 0) (.var 2)) (.cons (.idx (.peek 1) (.var 2)) .nil)))) [2] (rngD 0 ((l.length : Nat) : Int)) [Sl.pd (.tuple l), .pd (.tuple l), .no] [] = .ok ((rngD 0 ((l.length : Nat) : Int)).map fun _ => .bool true, [Sl.pd (.tuple l), .pd (.tuple l), .no]) := by
      refine cgo_all _ _ fun x hx2 => ?_
      obtain ⟨k, rfl, hk⟩ := mem_rngD hx2
      have hk2 : k < l.length := by omega
      have hi : idxD (.tuple l) (.int (0 + (k : Int))) = some l[k] := by rw [Int.zero_add]; exact atI_nat' hk2
      refine ⟨[Sl.pd (.tuple l), .pd (.tuple l), .pd (.int (0 + (k : Int)))], _, [Sl.pd (.tuple l), .pd (.tuple l), .pd (.int (0 + (k : Int)))], [Sl.pd (.tuple l), .pd (.tuple l), .pd (.int (0 + (k : Int)))], rfl, rfl, rfl, Ev.ok ?_, rfl⟩
      exact Ev.call hf (Ev.cons rfl (Ev.idxP (Ev.var rfl) rfl rfl hi) (Ev.cons rfl (Ev.idxP (Ev.var rfl) rfl rfl hi) Ev.nil)) (two 0) (ih _ (hx _ (List.getElem_mem hk2))) (Bool.and_false _)
    exact Evs.seqX (Evs.ifT (x := .bool true) (Ev.isi (Ev.var rfl) rfl) rfl (Evs.seq (Evs.ifF (x := .bool false) (Ev.orF (x := .bool false) (Ev.notb (k := true) (Ev.isi (Ev.var rfl) rfl)) rfl (Ev.one (Ev.cmp rfl hlen0 hlen hne))) rfl Evs.nil)
      (Evs.seqX (Evs.ret (Ev.bi (Ev.cons rfl (Ev.lc (e1 := [Sl.pd (.tuple l), .pd (.tuple l), .no]) (Ev.rng1 hlen (rng_ok' hl)) rfl (by rw [Bool.and_eq_true]; exact ⟨rfl, decide_eq_true (by rw [rngD_length]; omega)⟩) hc rfl) Ev.nil) (all_true _)) rfl) (fun _ z => nomatch z)))) (fun _ z => nomatch z)
  | none => exact Evs.seq (Evs.ifF (x := .bool false) (Ev.isi (Ev.var rfl) rfl) rfl Evs.nil) (Evs.seqX (Evs.ifT (x := .bool true) (Ev.cmpP Ev.cn rfl rfl rfl) rfl (Evs.seqX (Evs.ret (Ev.cmpP Ev.cn rfl rfl rfl) rfl) (fun _ z => nomatch z))) (fun _ z => nomatch z))
  | bool b =>
    refine Evs.seq (Evs.ifF (x := .bool false) (Ev.isi (Ev.var rfl) rfl) rfl Evs.nil) (Evs.seq (Evs.ifF (x := .bool false) (Ev.cmpP Ev.cn rfl rfl rfl) rfl Evs.nil) (Evs.seqX (Evs.ifT (x := .bool true) (Ev.isi (Ev.var rfl) rfl) rfl (Evs.seqX (Evs.ret ?_ rfl) (fun _ z => nomatch z))) (fun _ z => nomatch z)))
    cases b with
    | true => exact Ev.iteT (Ev.var rfl) rfl (Ev.cmpP Ev.cb rfl rfl rfl)
    | false => exact Ev.iteF (Ev.var rfl) rfl (Ev.cmpP Ev.cb rfl rfl rfl)
  | int i =>
    have he : Cop.eq.f (.int i) (.int i) = some (.bool true) := by show some (PyData.bool (i == i)) = _; rw [beq_self_eq_true]
    exact Evs.seq (Evs.ifF (x := .bool false) (Ev.isi (Ev.var rfl) rfl) rfl Evs.nil) (Evs.seq (Evs.ifF (x := .bool false) (Ev.cmpP Ev.cn rfl rfl rfl) rfl Evs.nil) (Evs.seq (Evs.ifF (x := .bool false) (Ev.isi (Ev.var rfl) rfl) rfl Evs.nil) (Evs.seqX (Evs.ifT (x := .bool true) (Ev.isi (Ev.var rfl) rfl) rfl
      (Evs.seqX (Evs.ret (Ev.andT (x := .bool true) (Ev.isi (Ev.var rfl) rfl) rfl (Ev.andT (x := .bool true) (Ev.notb (k := false) (Ev.isi (Ev.var rfl) rfl)) rfl (Ev.one (Ev.cmp rfl (Ev.bi (Ev.consP Ev.nil rfl rfl) rfl) (Ev.peek rfl) he)))) rfl) (fun _ z => nomatch z))) (fun _ z => nomatch z))))
  | str x =>
    have hs : Bi.str.f [.str x] = some (.str x) := rfl
    have he : Cop.eq.f (.str x) (.str x) = some (.bool true) := same_str hd
    exact Evs.seq (Evs.ifF (x := .bool false) (Ev.isi (Ev.var rfl) rfl) rfl Evs.nil) (Evs.seq (Evs.ifF (x := .bool false) (Ev.cmpP Ev.cn rfl rfl rfl) rfl Evs.nil) (Evs.seq (Evs.ifF (x := .bool false) (Ev.isi (Ev.var rfl) rfl) rfl Evs.nil) (Evs.seq (Evs.ifF (x := .bool false) (Ev.isi (Ev.var rfl) rfl) rfl Evs.nil)
      (Evs.seqX (Evs.ret (Ev.andT (x := .bool true) (Ev.isi (Ev.var rfl) rfl) rfl (Ev.one (Ev.cmp rfl (Ev.bi (Ev.consP Ev.nil rfl rfl) hs) (Ev.peek rfl) he))) rfl) (fun _ z => nomatch z)))))
  | list l => exact hd.elim
  | dict l => exact hd.elim
theorem same1 {d : D} (h : Sim 1 d) : sem19.f [d, d] = Rs.ok (.bool true, []) := sem_rt (F := f_law_same_1) (same_step (j := 0) (G := mkG gl L19) (fs := sem18) rfl rfl rfl (fun x z => (show False from z).elim) h) rfl
theorem same2 {d : D} (h : Sim 2 d) : sem20.f [d, d] = Rs.ok (.bool true, []) := sem_rt (F := f_law_same_2) (same_step (G := mkG gl L20) (fs := sem19) rfl rfl rfl (fun _ z => same1 z) h) rfl
theorem same3 {d : D} (h : Sim 3 d) : sem21.f [d, d] = Rs.ok (.bool true, []) := sem_rt (F := f_law_same_3) (same_step (G := mkG gl L21) (fs := sem20) rfl rfl rfl (fun _ z => same2 z) h) rfl
theorem same4 {d : D} (h : Sim 4 d) : sem22.f [d, d] = Rs.ok (.bool true, []) := sem_rt (F := f_law_same_4) (same_step (G := mkG gl L22) (fs := sem21) rfl rfl rfl (fun _ z => same3 z) h) rfl
theorem same5 {d : D} (h : Sim 5 d) : sem23.f [d, d] = Rs.ok (.bool true, []) := sem_rt (F := f_law_same_5) (same_step (G := mkG gl L23) (fs := sem22) rfl rfl rfl (fun _ z => same4 z) h) rfl

open PySem.W (dataLe dataLt alike alikeAll)
/-! ### edges and shards, judged -/
abbrev Eg := List Int
abbrev Sh := Eg × Eg
def tE (e : Eg) : D := .tuple (e.map .int)
def shR (p : Sh) : D := .tuple [tE p.1, tE p.2]
def shD (s : List Sh) : D := .tuple (s.map shR)
def isI : D → Bool
  | .int _ => true
  | _ => false
theorem is_whole_gen {d : D} (h : isDictD d = false) : sem0.f [d] = Rs.ok (.bool (isI d), []) := by
  apply sem_rt (F := f_is_whole) (e1 := [Sl.pd d])
  case hh => rfl
  case h =>
    show Evs _ _ b_is_whole [Sl.pd d] _
    unfold b_is_whole
    cases d with
    | int i => exact Evs.seqX (Evs.ret (Ev.andT (x := .bool true) (Ev.isi (Ev.var rfl) rfl) rfl (Ev.one (Ev.notb (k := false) (Ev.isi (Ev.var rfl) rfl)))) rfl) (fun _ z => nomatch z)
    | bool i => exact Evs.seqX (Evs.ret (Ev.andT (x := .bool true) (Ev.isi (Ev.var rfl) rfl) rfl (Ev.one (Ev.notb (k := true) (Ev.isi (Ev.var rfl) rfl)))) rfl) (fun _ z => nomatch z)
    | dict l => cases h
    | none => exact Evs.seqX (Evs.ret (Ev.andF (x := .bool false) (Ev.isi (Ev.var rfl) rfl) rfl) rfl) (fun _ z => nomatch z)
    | str x => exact Evs.seqX (Evs.ret (Ev.andF (x := .bool false) (Ev.isi (Ev.var rfl) rfl) rfl) rfl) (fun _ z => nomatch z)
    | list l => exact Evs.seqX (Evs.ret (Ev.andF (x := .bool false) (Ev.isi (Ev.var rfl) rfl) rfl) rfl) (fun _ z => nomatch z)
    | tuple l => exact Evs.seqX (Evs.ret (Ev.andF (x := .bool false) (Ev.isi (Ev.var rfl) rfl) rfl) rfl) (fun _ z => nomatch z)
def wholeB (lo hi : Int) : D → Bool
  | .int i => decide (lo ≤ i) && decide (i ≤ hi)
  | _ => false
theorem le_z (i j : Int) : Cop.le.f (.int i) (.int j) = some (.bool (decide (i ≤ j))) := rfl
theorem fits_whole_gen {d : D} (h : isDictD d = false) (lo hi : Int) : sem1.f [d, .int lo, .int hi] = Rs.ok (.bool (wholeB lo hi d), []) := by
  apply sem_rt (F := f_fits_whole) (e1 := [Sl.pd d, .pd (.int lo), .pd (.int hi)])
  case hh => rfl
  case h =>
    show Evs _ _ b_fits_whole [Sl.pd d, .pd (.int lo), .pd (.int hi)] _
    unfold b_fits_whole
    have h0 : Ev (mkG gl L1) (.call 0 (.cons (.var 0) .nil)) [Sl.pd d, .pd (.int lo), .pd (.int hi)] (.bool (isI d)) [Sl.pd d, .pd (.int lo), .pd (.int hi)] := Ev.call rfl (Ev.cons rfl (Ev.var rfl) Ev.nil) rfl (is_whole_gen h)
    cases hd : isI d with
    | false =>
      rw [hd] at h0
      have e : wholeB lo hi d = false := by cases d <;> first | rfl | cases hd
      rw [e]
      exact Evs.seqX (Evs.ret (Ev.andF (x := .bool false) h0 rfl) rfl) (fun _ z => nomatch z)
    | true =>
      rw [hd] at h0
      obtain ⟨i, rfl⟩ : ∃ i, d = .int i := by cases d <;> first | exact ⟨_, rfl⟩ | cases hd
      exact Evs.seqX (Evs.ret (Ev.andT (x := .bool true) h0 rfl (Ev.one (Ev.chain (k := decide (lo ≤ i)) (m := decide (i ≤ hi)) (Ev.var rfl) (Ev.var rfl) (le_z _ _) fun _ => ⟨_, Ev.var rfl, le_z _ _⟩))) rfl) (fun _ z => nomatch z)
structure E1 (d : D) : Prop where
  nd : isDictD d = false
  it : ∀ ds, d = .tuple ds → ds.length ≤ 1000 ∧ ∀ x ∈ ds, isDictD x = false ∧ Flt 5 x
def edgeB : D → Bool
  | .tuple ds => (decide (1 ≤ ds.length) && decide (ds.length ≤ 6)) && ds.all (wholeB 1 20)
  | _ => false
theorem fits_edge_gen {d : D} (h : E1 d) : sem3.f [d] = Rs.ok (.bool (edgeB d), []) := by
  have hz := PySem.sizeLine_eq
  have h0 : Ev (mkG gl L3) (.call 2 (.cons (.var 0) (.cons (.ci 1) (.cons (.glb 0) .nil)))) [Sl.pd d, .no] (.bool (tupLen 1 6 d)) [Sl.pd d, .no] :=
    Ev.call rfl (Ev.cons rfl (Ev.var rfl) (Ev.cons rfl Ev.ci (Ev.cons rfl (Ev.glb rfl) Ev.nil))) rfl (is_tuple_of_gen h.nd 1 6)
  apply sem_rt (F := f_fits_edge) (e1 := [Sl.pd d, .no])
  case hh => rfl
  case h =>
    show Evs _ _ b_fits_edge [Sl.pd d, .no] _
    unfold b_fits_edge
    cases hl : tupLen 1 6 d with
    | false =>
      rw [hl] at h0
      have e : edgeB d = false := by
        cases d with
        | tuple ds =>
          have hl : (decide (1 ≤ ds.length) && decide (ds.length ≤ 6)) = false := hl
          show ((decide (1 ≤ ds.length) && decide (ds.length ≤ 6)) && ds.all (wholeB 1 20)) = false
          rw [hl]; rfl
        | _ => rfl
      rw [e]
      exact Evs.seqX (Evs.ret (Ev.andF (x := .bool false) h0 rfl) rfl) (fun _ z => nomatch z)
    | true =>
      rw [hl] at h0
      obtain ⟨ds, rfl⟩ : ∃ ds, d = .tuple ds := by cases d <;> first | exact ⟨_, rfl⟩ | cases hl
      obtain ⟨hlen, hit⟩ := h.it ds rfl
      have hl : (decide (1 ≤ ds.length) && decide (ds.length ≤ 6)) = true := hl
      have e : edgeB (.tuple ds) = ds.all (wholeB 1 20) := by
        show ((decide (1 ≤ ds.length) && decide (ds.length ≤ 6)) && ds.all (wholeB 1 20)) = _
        rw [hl]; rfl
      rw [e]
      have h1 := lcA (G := mkG gl L3) (elt := .call 1 (.cons (.var 1) (.cons (.ci 1) (.cons (.glb 1) .nil)))) (tg := .nm 1) (it := .var 0) (own := [("one", 1)]) (env := [Sl.pd (.tuple ds), .no]) ds id (fun x => .bool (wholeB 1 20 x)) (Ev.var rfl) (by rw [List.map_id]; rfl) rfl (by omega) rfl rfl fun x hx =>
        ⟨[Sl.pd (.tuple ds), .pd x], rfl, rfl, Ev.call rfl (Ev.cons rfl (Ev.var rfl) (Ev.cons rfl Ev.ci (Ev.cons rfl (Ev.glb rfl) Ev.nil))) rfl (fits_whole_gen (hit x hx).1 1 20)⟩
      exact Evs.seqX (Evs.ret (Ev.andT (x := .bool true) h0 rfl (Ev.one (Ev.bi (Ev.cons rfl h1 Ev.nil) (all_map _ _)))) rfl) (fun _ z => nomatch z)
theorem filt_empty {α : Type} (p : α → Bool) (l : List α) : (l.filter fun x => !p x).isEmpty = l.all p := by
  rw [Bool.eq_iff_iff, List.isEmpty_iff, List.filter_eq_nil_iff, List.all_eq_true]
  exact ⟨fun h x hx => by simpa using h x hx, fun h x hx => by simp [h x hx]⟩
theorem eq_nil_f {ds : List D} {p : D → Bool} {n : Nat} (hn : n < 64) (h : ∀ x ∈ ds, Flt n x) : Cop.eq.f (.list ((ds.filter fun x => !p x).map id)) (.list []) = some (.bool (ds.all p)) := by
  rw [List.map_id, eq_nil (fun x hx => h x (List.mem_filter.mp hx).1) hn, filt_empty]
theorem ne_nil_f {ds : List D} {p : D → Bool} {n : Nat} (hn : n < 64) (h : ∀ x ∈ ds, Flt n x) : Cop.ne.f (.list ((ds.filter fun x => !p x).map id)) (.list []) = some (.bool (!ds.all p)) := by
  rw [List.map_id, ne_nil (fun x hx => h x (List.mem_filter.mp hx).1) hn, filt_empty]
theorem law_is_edge_gen {d : D} (h : E1 d) : sem27.f [d] = Rs.ok (.bool (edgeB d), []) := by
  have hz := PySem.sizeLine_eq
  apply sem_rt (F := f_law_is_edge) (e1 := [Sl.pd d, .no])
  case hh => rfl
  case h =>
    show Evs _ _ b_law_is_edge [Sl.pd d, .no] _
    unfold b_law_is_edge
    cases hd : isTp d with
    | false =>
      have e : edgeB d = false := by cases d <;> first | rfl | cases hd
      rw [e]
      exact Evs.seqX (Evs.ifT (x := .bool true) (Ev.orT (x := .bool true) (Ev.notb (k := false) (Ev.isi (Ev.var rfl) (by rw [isi_t h.nd, hd]))) rfl) rfl (Evs.seqX (Evs.ret Ev.cb rfl) (fun _ z => nomatch z))) (fun _ z => nomatch z)
    | true =>
      obtain ⟨ds, rfl⟩ : ∃ ds, d = .tuple ds := by cases d <;> first | exact ⟨_, rfl⟩ | cases hd
      obtain ⟨hlen, hit⟩ := h.it ds rfl
      have hch : Ev (mkG gl L27) (.chain .le .le (.ci 1) (.bi .len (.cons (.peek 0) .nil)) (.ci 6)) [Sl.pd (.tuple ds), .no] (.bool (decide (1 ≤ ds.length) && decide (ds.length ≤ 6))) [Sl.pd (.tuple ds), .no] :=
        Ev.chain (k := decide (1 ≤ ds.length)) (m := decide (ds.length ≤ 6)) Ev.ci (Ev.bi (Ev.consP Ev.nil rfl rfl) rfl) (le_i 1 ds.length) fun _ => ⟨_, Ev.ci, le_i ds.length 6⟩
      cases hl : (decide (1 ≤ ds.length) && decide (ds.length ≤ 6)) with
      | false =>
        rw [hl] at hch
        have e : edgeB (.tuple ds) = false := by
          show ((decide (1 ≤ ds.length) && decide (ds.length ≤ 6)) && ds.all (wholeB 1 20)) = false
          rw [hl]; rfl
        rw [e]
        exact Evs.seqX (Evs.ifT (x := .bool true) (Ev.orF (x := .bool false) (Ev.notb (k := true) (Ev.isi (Ev.var rfl) rfl)) rfl (Ev.one (Ev.notb (k := false) hch))) rfl (Evs.seqX (Evs.ret Ev.cb rfl) (fun _ z => nomatch z))) (fun _ z => nomatch z)
      | true =>
        rw [hl] at hch
        have e : edgeB (.tuple ds) = ds.all (wholeB 1 20) := by
          show ((decide (1 ≤ ds.length) && decide (ds.length ≤ 6)) && ds.all (wholeB 1 20)) = _
          rw [hl]; rfl
        rw [e]
        have h1 := lcP (G := mkG gl L27) (elt := .var 1) (cond := .or_ (.not_ (.isi (.var 1) .int)) (.or_ (.isi (.var 1) .bool) (.one (.not_ (.chain .le .le (.ci 1) (.var 1) (.ci 20)))))) (tg := .nm 1) (it := .var 0) (own := [("one", 1)]) (env := [Sl.pd (.tuple ds), .no]) ds id id (fun x => !wholeB 1 20 x) (Ev.var rfl) (by rw [List.map_id]; rfl) rfl (by omega) rfl rfl rfl fun x hx => by
          refine ⟨[Sl.pd (.tuple ds), .pd x], rfl, ?_, rfl, fun _ => Ev.var rfl⟩
          have hnd := (hit x hx).1
          cases x with
          | int i => exact Ev.orF (x := .bool false) (Ev.notb (k := true) (Ev.isi (Ev.var rfl) rfl)) rfl (Ev.orF (x := .bool false) (Ev.isi (Ev.var rfl) rfl) rfl (Ev.one (Ev.notb (k := decide (1 ≤ i) && decide (i ≤ 20)) (Ev.chain (k := decide (1 ≤ i)) (m := decide (i ≤ 20)) Ev.ci (Ev.var rfl) (le_z _ _) fun _ => ⟨_, Ev.ci, le_z _ _⟩))))
          | bool i => exact Ev.orF (x := .bool false) (Ev.notb (k := true) (Ev.isi (Ev.var rfl) rfl)) rfl (Ev.orT (x := .bool true) (Ev.isi (Ev.var rfl) rfl) rfl)
          | dict l => cases hnd
          | none => exact Ev.orT (x := .bool true) (Ev.notb (k := false) (Ev.isi (Ev.var rfl) rfl)) rfl
          | str x => exact Ev.orT (x := .bool true) (Ev.notb (k := false) (Ev.isi (Ev.var rfl) rfl)) rfl
          | list l => exact Ev.orT (x := .bool true) (Ev.notb (k := false) (Ev.isi (Ev.var rfl) rfl)) rfl
          | tuple l => exact Ev.orT (x := .bool true) (Ev.notb (k := false) (Ev.isi (Ev.var rfl) rfl)) rfl
        exact Evs.seq (Evs.ifF (x := .bool false) (Ev.orF (x := .bool false) (Ev.notb (k := true) (Ev.isi (Ev.var rfl) rfl)) rfl (Ev.one (Ev.notb (k := true) hch))) rfl Evs.nil)
          (Evs.seqX (Evs.ret (Ev.cmp rfl h1 (Ev.lst Ev.nil (Nat.zero_le _)) (eq_nil_f (n := 5) (by omega) fun x hx => (hit x hx).2)) rfl) (fun _ z => nomatch z))
/-! ### order -/
theorem lt_trans' {a b c : D} (h1 : dataLt b a = false) (h2 : dataLt c b = false) : dataLt c a = false := by
  have h := PySem.W.sortLe_total (α := D) (PyProof.Rows.listOrd PyProof.Rows.itemOrd) false (fun b => PySem.W.keyToks (id b))
  have e : ∀ x y : D, dataLe false (id : D → D) x y = !dataLt y x := fun _ _ => rfl
  have := h.trans a b c (by show dataLe false (id : D → D) a b = true; rw [e, h1]; rfl) (by show dataLe false (id : D → D) b c = true; rw [e, h2]; rfl)
  have : (!dataLt c a) = true := this
  simpa using this
def LeP (a b : D) : Prop := dataLt b a = false
def consB (ds : List D) : Bool := (ds.zip (ds.drop 1)).all fun p => !dataLt p.2 p.1
theorem consB_iff : ∀ {ds : List D}, consB ds = true ↔ ds.Pairwise LeP
  | [] => by simp [consB]
  | [x] => by simp [consB]
  | x :: y :: r => by
    have ih := consB_iff (ds := y :: r)
    have e : consB (x :: y :: r) = (!dataLt y x && consB (y :: r)) := rfl
    rw [e, Bool.and_eq_true, ih, List.pairwise_cons (a := x)]
    constructor
    · rintro ⟨h1, h2⟩
      have h1 : LeP x y := by unfold LeP; simpa using h1
      refine ⟨fun z hz => ?_, h2⟩
      rcases List.mem_cons.mp hz with rfl | hz
      · exact h1
      · exact lt_trans' h1 ((List.pairwise_cons.mp h2).1 z hz)
    · rintro ⟨h1, h2⟩
      have := h1 y List.mem_cons_self
      unfold LeP at this
      exact ⟨by rw [this]; rfl, h2⟩
theorem srt_of {ds : List D} (h : ds.Pairwise LeP) : srt ds = ds := by
  refine List.mergeSort_of_pairwise (h.imp fun {a b} z => ?_)
  show (!dataLt b a) = true
  unfold LeP at z
  rw [z]; rfl
theorem alike_ints : ∀ a b : List Int, alikeAll (a.map PyData.int) (b.map PyData.int) = true
  | [], _ => by unfold alikeAll; rfl
  | _ :: _, [] => by rw [List.map_cons, List.map_nil]; unfold alikeAll; rfl
  | p :: A, q :: B => by
    rw [List.map_cons, List.map_cons]
    unfold alikeAll
    rw [alike_ints A B, Bool.and_true]
    simp [alike]
theorem alike_e (a b : Eg) : alike (tE a) (tE b) = true := by
  unfold tE alike
  exact alike_ints a b
theorem alike_sh (p q : Sh) : alike (shR p) (shR q) = true := by
  show alike (.tuple [tE p.1, tE p.2]) (.tuple [tE q.1, tE q.2]) = true
  simp only [alike, alikeAll, alike_e]
  simp [alike_e]
theorem eqv_ints : ∀ a b : List Int, PyData.eqvAll (a.map PyData.int) (b.map PyData.int) = (a == b)
  | [], [] => rfl
  | [], _ :: _ => rfl
  | _ :: _, [] => rfl
  | x :: a, y :: b => by
    show ((x == y) && PyData.eqvAll (a.map PyData.int) (b.map PyData.int)) = _
    rw [eqv_ints a b, List.cons_beq_cons]
theorem eqv_e (a b : Eg) : PyData.eqv (tE a) (tE b) = (a == b) := eqv_ints a b
theorem eqv_sh (p q : Sh) : PyData.eqv (shR p) (shR q) = (p == q) := by
  show (PyData.eqv (tE p.1) (tE q.1) && (PyData.eqv (tE p.2) (tE q.2) && true)) = _
  rw [eqv_e, eqv_e, Bool.and_true]; rfl
theorem eqv_shs : ∀ a b : List Sh, PyData.eqvAll (a.map shR) (b.map shR) = (a == b)
  | [], [] => rfl
  | [], _ :: _ => rfl
  | _ :: _, [] => rfl
  | x :: a, y :: b => by
    show (PyData.eqv (shR x) (shR y) && PyData.eqvAll (a.map shR) (b.map shR)) = _
    rw [eqv_sh, eqv_shs a b, List.cons_beq_cons]
theorem flt_i (i : Int) : Flt 0 (.int i) := ⟨rfl, Nat.le_refl _⟩
theorem flt_e (e : Eg) : Flt 1 (tE e) := Flt.tup fun x hx => by
  obtain ⟨i, _, rfl⟩ := List.mem_map.mp hx
  exact flt_i i
theorem flt_sh (p : Sh) : Flt 2 (shR p) := Flt.tup fun x hx => by
  simp only [List.mem_cons, List.mem_nil_iff, or_false] at hx
  rcases hx with rfl | rfl <;> exact flt_e _
theorem le_sh (p q : Sh) : Cop.le.f (shR p) (shR q) = some (.bool (!dataLt (shR q) (shR p))) := by
  show (if okT (shR p) (shR q) then some (PyData.bool (!dataLt (shR q) (shR p))) else none) = _
  rw [if_pos]
  unfold okT
  rw [alike_sh, decide_eq_true (Nat.le_trans (flt_sh p).2 (by omega))]; rfl
theorem perm_shs : ∀ {l : List D} {A : List Sh}, l.Perm (A.map shR) → ∃ B : List Sh, B.Perm A ∧ l = B.map shR
  | [], A, h => by
    have := h.symm.eq_nil
    rw [List.map_eq_nil_iff] at this
    exact ⟨[], by rw [this], rfl⟩
  | x :: r, A, h => by
    obtain ⟨a, ha, rfl⟩ := List.mem_map.mp (h.mem_iff.mp List.mem_cons_self)
    have hp := List.perm_cons_erase ha
    obtain ⟨B, h1, h2⟩ := perm_shs (List.Perm.cons_inv (h.trans (hp.map shR)))
    exact ⟨a :: B, (h1.cons a).trans hp.symm, by rw [h2]; rfl⟩
theorem sort_shs {l : List Sh} (hl : l.length ≤ 1000) : sortOk (l.map shR) = true := by
  have hz := PySem.sizeLine_eq
  have := sortD_of (l := l.map shR) (fun d hd e he => by
    obtain ⟨x, _, rfl⟩ := List.mem_map.mp hd
    obtain ⟨y, _, rfl⟩ := List.mem_map.mp he
    exact alike_sh x y) (by
    rw [Bool.or_eq_true]
    refine .inl (List.all_eq_true.mpr fun d hd => ?_)
    obtain ⟨x, _, rfl⟩ := List.mem_map.mp hd
    rfl) (by rw [List.length_map]; omega) fun d hd => by
    obtain ⟨x, hx, rfl⟩ := List.mem_map.mp hd
    exact Nat.le_trans (flt_sh x).2 (by omega)
  exact (sortD_ok this).1

open PySem.W (dataLe dataLt alike alikeAll)
structure S1 (d : D) : Prop where
  nd : isDictD d = false
  fl : Flt 8 d
  it : ∀ es, d = .tuple es → es.length ≤ 1000 ∧ ∀ f ∈ es, E1 f
structure V1 (d : D) : Prop where
  nd : isDictD d = false
  it : ∀ ds, d = .tuple ds → ds.length ≤ 1000 ∧ ∀ e ∈ ds, S1 e
def shardB : D → Bool
  | .tuple [a, b] => edgeB a && edgeB b
  | _ => false
def shardsB : D → Bool
  | .tuple ds => decide (ds.length ≤ 30) && (ds.all shardB && consB ds)
  | _ => false
theorem shard_pair {d : D} (h : shardB d = true) : tupLen 2 2 d = true := by
  unfold shardB at h
  split at h
  · rfl
  · cases h
theorem edge_of {d : D} (h : edgeB d = true) : ∃ e : Eg, d = tE e := by
  cases d with
  | tuple ds =>
    have h : ((decide (1 ≤ ds.length) && decide (ds.length ≤ 6)) && ds.all (wholeB 1 20)) = true := h
    rw [Bool.and_eq_true] at h
    have key : ∀ l : List D, l.all (wholeB 1 20) = true → ∃ e : Eg, l = e.map .int := fun l => by
      induction l with
      | nil => intro _; exact ⟨[], rfl⟩
      | cons x r ih =>
        intro hh
        rw [List.all_cons, Bool.and_eq_true] at hh
        obtain ⟨e, rfl⟩ := ih hh.2
        cases x with
        | int i => exact ⟨i :: e, rfl⟩
        | _ => cases hh.1
    obtain ⟨e, rfl⟩ := key ds h.2
    exact ⟨e, rfl⟩
  | _ => cases h
theorem shard_of {d : D} (h : shardB d = true) : ∃ p : Sh, d = shR p := by
  unfold shardB at h
  split at h
  · rename_i a b
    rw [Bool.and_eq_true] at h
    obtain ⟨e1, rfl⟩ := edge_of h.1
    obtain ⟨e2, rfl⟩ := edge_of h.2
    exact ⟨(e1, e2), rfl⟩
  · cases h
theorem shards_of {ds : List D} (h : ds.all shardB = true) : ∃ s : List Sh, ds = s.map shR := by
  induction ds with
  | nil => exact ⟨[], rfl⟩
  | cons x r ih =>
    rw [List.all_cons, Bool.and_eq_true] at h
    obtain ⟨p, rfl⟩ := shard_of h.1
    obtain ⟨s, rfl⟩ := ih h.2
    exact ⟨p :: s, rfl⟩
theorem zip_pair (ds es : List D) : List.zipWith (fun d e => PyData.tuple [d, e]) ds es = (ds.zip es).map fun p => PyData.tuple [p.1, p.2] := by
  rw [← List.map_uncurry_zip_eq_zipWith]; rfl
theorem consB_sh (s : List Sh) : consB (s.map shR) = (s.zip (s.drop 1)).all fun p => !dataLt (shR p.2) (shR p.1) := by
  unfold consB
  rw [← List.map_drop, List.zip_map, List.all_map]; rfl
theorem fits_shards_gen {d : D} (h : V1 d) : sem4.f [d] = Rs.ok (.bool (shardsB d), []) := by
  have hz := PySem.sizeLine_eq
  have h0 : Ev (mkG gl L4) (.call 2 (.cons (.var 0) (.cons (.ci 0) (.cons (.glb 2) .nil)))) [Sl.pd d, .no, .no, .no, .no] (.bool (tupLen 0 30 d)) [Sl.pd d, .no, .no, .no, .no] :=
    Ev.call rfl (Ev.cons rfl (Ev.var rfl) (Ev.cons rfl Ev.ci (Ev.cons rfl (Ev.glb rfl) Ev.nil))) rfl (is_tuple_of_gen h.nd 0 30)
  apply sem_rt (F := f_fits_shards) (e1 := [Sl.pd d, .no, .no, .no, .no])
  case hh => rfl
  case h =>
    show Evs _ _ b_fits_shards [Sl.pd d, .no, .no, .no, .no] _
    unfold b_fits_shards
    cases hl : tupLen 0 30 d with
    | false =>
      rw [hl] at h0
      have e : shardsB d = false := by
        cases d with
        | tuple ds =>
          have hl : (decide (0 ≤ ds.length) && decide (ds.length ≤ 30)) = false := hl
          rw [decide_eq_true (Nat.zero_le _), Bool.true_and] at hl
          show (decide (ds.length ≤ 30) && (ds.all shardB && consB ds)) = false
          rw [hl]; rfl
        | _ => rfl
      rw [e]
      exact Evs.seqX (Evs.ifT (x := .bool true) (Ev.orT (x := .bool true) (Ev.notb (k := false) h0) rfl) rfl (Evs.seqX (Evs.ret Ev.cb rfl) (fun _ z => nomatch z))) (fun _ z => nomatch z)
    | true =>
      rw [hl] at h0
      obtain ⟨ds, rfl⟩ : ∃ ds, d = .tuple ds := by cases d <;> first | exact ⟨_, rfl⟩ | cases hl
      obtain ⟨hlen, hit⟩ := h.it ds rfl
      have h30 : decide (ds.length ≤ 30) = true := by
        have hl : (decide (0 ≤ ds.length) && decide (ds.length ≤ 30)) = true := hl
        rwa [decide_eq_true (Nat.zero_le _), Bool.true_and] at hl
      have es : shardsB (.tuple ds) = (ds.all shardB && consB ds) := by
        show (decide (ds.length ≤ 30) && (ds.all shardB && consB ds)) = _
        rw [h30]; rfl
      rw [es]
      have h1 := lcA (G := mkG gl L4) (elt := .call 2 (.cons (.var 1) (.cons (.ci 2) (.cons (.ci 2) .nil)))) (tg := .nm 1) (it := .var 0) (own := [("one", 1)]) (env := [Sl.pd (.tuple ds), .no, .no, .no, .no]) ds id (fun e => .bool (tupLen 2 2 e)) (Ev.var rfl) (by rw [List.map_id]; rfl) rfl (by omega) rfl rfl fun e he =>
        ⟨[Sl.pd (.tuple ds), .pd e, .no, .no, .no], rfl, rfl, Ev.call rfl (Ev.cons rfl (Ev.var rfl) (Ev.cons rfl Ev.ci (Ev.cons rfl Ev.ci Ev.nil))) rfl (is_tuple_of_gen (hit e he).nd 2 2)⟩
      have a1 := all_map (tupLen 2 2) ds
      cases hp : ds.all (tupLen 2 2) with
      | false =>
        rw [hp] at a1
        rw [not_all hp fun d => shard_pair]
        exact Evs.seqX (Evs.ifT (x := .bool true) (Ev.orF (x := .bool false) (Ev.notb (k := true) h0) rfl (Ev.one (Ev.notb (k := false) (Ev.bi (Ev.cons rfl h1 Ev.nil) a1)))) rfl (Evs.seqX (Evs.ret Ev.cb rfl) (fun _ z => nomatch z))) (fun _ z => nomatch z)
      | true =>
        rw [hp] at a1
        have s1 : Evs (mkG gl L4) false _ [Sl.pd (.tuple ds), .no, .no, .no, .no] _ := Evs.ifF (s := .seq (.ret (.cb false)) .nil) (t := .nil) (x := .bool false) (Ev.orF (x := .bool false) (Ev.notb (k := true) h0) rfl (Ev.one (Ev.notb (k := true) (Ev.bi (Ev.cons rfl h1 Ev.nil) a1)))) rfl Evs.nil
        refine Evs.seq s1 ?_
        have h2 := lcA (G := mkG gl L4) (elt := .and_ (.call 3 (.cons (.var 3) .nil)) (.one (.call 3 (.cons (.var 4) .nil)))) (tg := .tup (.cons (.nm 3) (.cons (.nm 4) .nil))) (it := .var 0) (own := [("left", 3), ("right", 4)]) (env := [Sl.pd (.tuple ds), .no, .no, .no, .no]) ds id (fun e => .bool (shardB e)) (Ev.var rfl) (by rw [List.map_id]; rfl) rfl (by omega) rfl rfl fun e he => by
          obtain ⟨a, b, rfl⟩ := pair_of (List.all_eq_true.mp hp e he)
          obtain ⟨_, hi⟩ := (hit _ he).it _ rfl
          exact ⟨[Sl.pd (.tuple ds), .no, .no, .pd a, .pd b], rfl, rfl, Ev.andb (Ev.call rfl (Ev.cons rfl (Ev.var rfl) Ev.nil) rfl (fits_edge_gen (hi a (by simp)))) fun _ => Ev.one (Ev.call rfl (Ev.cons rfl (Ev.var rfl) Ev.nil) rfl (fits_edge_gen (hi b (by simp))))⟩
        have a2 := all_map shardB ds
        cases hs : ds.all shardB with
        | false =>
          rw [hs] at a2
          exact Evs.seqX (Evs.ifT (x := .bool true) (Ev.notb (k := false) (Ev.bi (Ev.cons rfl h2 Ev.nil) a2)) rfl (Evs.seqX (Evs.ret Ev.cb rfl) (fun _ z => nomatch z))) (fun _ z => nomatch z)
        | true =>
          rw [hs] at a2
          refine Evs.seq (Evs.ifF (x := .bool false) (Ev.notb (k := true) (Ev.bi (Ev.cons rfl h2 Ev.nil) a2)) rfl Evs.nil) ?_
          obtain ⟨s, rfl⟩ := shards_of hs
          rw [consB_sh]
          have hit2 : itemsOf (.list (List.zipWith (fun d e => PyData.tuple [d, e]) (s.map shR) ((s.map shR).drop 1))) = some ((s.zip (s.drop 1)).map fun p => PyData.tuple [shR p.1, shR p.2]) := by
            rw [zip_pair, ← List.map_drop, List.zip_map, List.map_map]; rfl
          have hsl : slD (.tuple (s.map shR)) (some 1) none = some (.tuple ((s.map shR).drop 1)) := by
            show some (PyData.tuple (cutD (s.map shR) (some 1) none)) = _
            rw [cut1]
          rw [List.length_map] at hlen
          have h3 := lcA (G := mkG gl L4) (elt := .cmp .le (.peek 1) (.peek 2)) (tg := .tup (.cons (.nm 1) (.cons (.nm 2) .nil))) (it := .zip (.var 0) (.sl (.peek 0) (.ci 1) .nil)) (own := [("one", 1), ("other", 2)]) (env := [Sl.pd (.tuple (s.map shR)), .no, .no, .no, .no]) (s.zip (s.drop 1)) (fun p => .tuple [shR p.1, shR p.2]) (fun p => .bool (!dataLt (shR p.2) (shR p.1)))
            (Ev.zipT (Ev.var rfl) (Ev.slP rfl (Evp.some rfl Ev.ci) Evp.nil rfl hsl)) hit2 rfl (by rw [List.length_zip]; omega) rfl rfl fun p hp =>
              ⟨[Sl.pd (.tuple (s.map shR)), .pd (shR p.1), .pd (shR p.2), .no, .no], rfl, rfl, Ev.cmpP (Ev.peek rfl) rfl rfl (le_sh _ _)⟩
          exact Evs.seqX (Evs.ret (Ev.bi (Ev.cons rfl h3 Ev.nil) (all_map (fun p : Sh × Sh => !dataLt (shR p.2) (shR p.1)) _)) rfl) (fun _ z => nomatch z)
theorem ne_i (a b : Nat) : Cop.ne.f (.int (a : Int)) (.int (b : Int)) = some (.bool (!decide (a = b))) := by
  show some (PyData.bool (!((a : Int) == (b : Int)))) = _
  congr 3
  rw [Bool.eq_iff_iff, beq_iff_eq, decide_eq_true_iff]; omega
theorem gt_i (a b : Nat) : Cop.gt.f (.int (a : Int)) (.int (b : Int)) = some (.bool (!decide (a ≤ b))) := by
  show some (PyData.bool (decide ((b : Int) < (a : Int)))) = _
  congr 2
  rw [Bool.eq_iff_iff, decide_eq_true_iff, Bool.not_eq_true', decide_eq_false_iff_not]; omega
theorem tup2 (l : List D) : tupLen 2 2 (.tuple l) = decide (l.length = 2) := by
  show (decide (2 ≤ l.length) && decide (l.length ≤ 2)) = _
  rw [Bool.eq_iff_iff, Bool.and_eq_true, decide_eq_true_iff, decide_eq_true_iff, decide_eq_true_iff]; omega
theorem sorted_eq {s : List Sh} (hl : s.length ≤ 1000) : Cop.eq.f (.list (s.map shR)) (.list (srt (s.map shR))) = some (.bool (consB (s.map shR))) := by
  obtain ⟨t, ht, e⟩ := perm_shs (srt_perm (s.map shR))
  have f : ∀ l : List Sh, ∀ x ∈ l.map shR, Flt 2 x := fun l x hx => by
    obtain ⟨p, _, rfl⟩ := List.mem_map.mp hx
    exact flt_sh p
  rw [e]
  show (if SeqAt.shaped (.list (s.map shR)) && SeqAt.shaped (.list (t.map shR)) then some (PyData.bool (PyData.eqvAll (s.map shR) (t.map shR))) else none) = _
  rw [(Flt.lst (f s)).shaped (by omega), (Flt.lst (f t)).shaped (by omega), eqv_shs]
  show some (PyData.bool (s == t)) = _
  congr 2
  rw [Bool.eq_iff_iff, beq_iff_eq, consB_iff]
  constructor
  · intro z
    have := srt_pw (s.map shR)
    rw [e, ← z] at this
    exact this
  · intro z
    rw [srt_of z] at e
    have inj : ∀ {a b : List Sh}, a.map shR = b.map shR → a = b := fun {a b} h => by
      have := eqv_shs a b
      rw [h, eqv_shs] at this
      rw [beq_self_eq_true] at this
      exact (beq_iff_eq.mp this.symm)
    exact inj e
theorem law_are_shards_gen {d : D} (h : V1 d) : sem28.f [d] = Rs.ok (.bool (shardsB d), []) := by
  have hz := PySem.sizeLine_eq
  apply sem_rt (F := f_law_are_shards) (e1 := [Sl.pd d, .no])
  case hh => rfl
  case h =>
    show Evs _ _ b_law_are_shards [Sl.pd d, .no] _
    unfold b_law_are_shards
    cases hd : isTp d with
    | false =>
      have e : shardsB d = false := by cases d <;> first | rfl | cases hd
      rw [e]
      exact Evs.seqX (Evs.ifT (x := .bool true) (Ev.orT (x := .bool true) (Ev.notb (k := false) (Ev.isi (Ev.var rfl) (by rw [isi_t h.nd, hd]))) rfl) rfl (Evs.seqX (Evs.ret Ev.cb rfl) (fun _ z => nomatch z))) (fun _ z => nomatch z)
    | true =>
      obtain ⟨ds, rfl⟩ : ∃ ds, d = .tuple ds := by cases d <;> first | exact ⟨_, rfl⟩ | cases hd
      obtain ⟨hlen, hit⟩ := h.it ds rfl
      have h0 : Ev (mkG gl L28) (.not_ (.isi (.var 0) .tuple)) [Sl.pd (.tuple ds), .no] (.bool false) [Sl.pd (.tuple ds), .no] := Ev.notb (k := true) (Ev.isi (Ev.var rfl) rfl)
      have hg : Ev (mkG gl L28) (.cmp .gt (.bi .len (.cons (.peek 0) .nil)) (.ci 30)) [Sl.pd (.tuple ds), .no] (.bool (!decide (ds.length ≤ 30))) [Sl.pd (.tuple ds), .no] := Ev.cmp rfl (Ev.bi (Ev.consP Ev.nil rfl rfl) rfl) Ev.ci (gt_i ds.length 30)
      have es : shardsB (.tuple ds) = (decide (ds.length ≤ 30) && (ds.all shardB && consB ds)) := rfl
      rw [es]
      cases h30 : decide (ds.length ≤ 30) with
      | false =>
        rw [h30] at hg
        exact Evs.seqX (Evs.ifT (x := .bool true) (Ev.orF (x := .bool false) h0 rfl (Ev.orT (x := .bool true) hg rfl)) rfl (Evs.seqX (Evs.ret Ev.cb rfl) (fun _ z => nomatch z))) (fun _ z => nomatch z)
      | true =>
        rw [h30] at hg
        rw [Bool.true_and]
        have h1 := lcP (G := mkG gl L28) (elt := .var 1) (cond := .or_ (.not_ (.isi (.var 1) .tuple)) (.one (.cmp .ne (.bi .len (.cons (.peek 1) .nil)) (.ci 2)))) (tg := .nm 1) (it := .var 0) (own := [("one", 1)]) (env := [Sl.pd (.tuple ds), .no]) ds id id (fun x => !tupLen 2 2 x) (Ev.var rfl) (by rw [List.map_id]; rfl) rfl (by omega) rfl rfl rfl fun x hx => by
          refine ⟨[Sl.pd (.tuple ds), .pd x], rfl, ?_, rfl, fun _ => Ev.var rfl⟩
          cases hx2 : isTp x with
          | false =>
            have e : tupLen 2 2 x = false := by cases x <;> first | rfl | cases hx2
            rw [e]
            exact Ev.orT (x := .bool true) (Ev.notb (k := false) (Ev.isi (Ev.var rfl) (by rw [isi_t (hit x hx).nd, hx2]))) rfl
          | true =>
            obtain ⟨l, rfl⟩ : ∃ l, x = .tuple l := by cases x <;> first | exact ⟨_, rfl⟩ | cases hx2
            rw [tup2]
            exact Ev.orF (x := .bool false) (Ev.notb (k := true) (Ev.isi (Ev.var rfl) rfl)) rfl (Ev.one (Ev.cmp rfl (Ev.bi (Ev.consP Ev.nil rfl rfl) rfl) Ev.ci (ne_i l.length 2)))
        have hn := Ev.cmp (o := .ne) rfl h1 (Ev.lst Ev.nil (Nat.zero_le _)) (ne_nil_f (n := 8) (by omega) fun x hx => (hit x hx).fl)
        cases hp : ds.all (tupLen 2 2) with
        | false =>
          rw [hp] at hn
          rw [not_all hp fun d => shard_pair]
          exact Evs.seqX (Evs.ifT (x := .bool true) (Ev.orF (x := .bool false) h0 rfl (Ev.orF (x := .bool false) hg rfl (Ev.one hn))) rfl (Evs.seqX (Evs.ret Ev.cb rfl) (fun _ z => nomatch z))) (fun _ z => nomatch z)
        | true =>
          rw [hp] at hn
          refine Evs.seq (Evs.ifF (x := .bool false) (Ev.orF (x := .bool false) h0 rfl (Ev.orF (x := .bool false) hg rfl (Ev.one hn))) rfl Evs.nil) ?_
          have h2 := lcP (G := mkG gl L28) (elt := .var 1) (cond := .or_ (.not_ (.call 27 (.cons (.idx (.peek 1) (.ci 0)) .nil))) (.one (.not_ (.call 27 (.cons (.idx (.peek 1) (.ci 1)) .nil))))) (tg := .nm 1) (it := .var 0) (own := [("one", 1)]) (env := [Sl.pd (.tuple ds), .no]) ds id id (fun x => !shardB x) (Ev.var rfl) (by rw [List.map_id]; rfl) rfl (by omega) rfl rfl rfl fun x hx => by
            obtain ⟨a, b, rfl⟩ := pair_of (List.all_eq_true.mp hp x hx)
            obtain ⟨_, hi⟩ := (hit _ hx).it _ rfl
            refine ⟨[Sl.pd (.tuple ds), .pd (.tuple [a, b])], rfl, ?_, rfl, fun _ => Ev.var rfl⟩
            have e : (!shardB (.tuple [a, b])) = (!edgeB a || !edgeB b) := by
              show (!(edgeB a && edgeB b)) = _
              rw [Bool.not_and]
            rw [e]
            exact Ev.orb (Ev.notb (Ev.call rfl (Ev.cons rfl (Ev.idxP Ev.ci rfl rfl (show idxD (.tuple [a, b]) (.int 0) = some a from rfl)) Ev.nil) rfl (law_is_edge_gen (hi a (by simp))))) fun _ => Ev.one (Ev.notb (Ev.call rfl (Ev.cons rfl (Ev.idxP Ev.ci rfl rfl (show idxD (.tuple [a, b]) (.int 1) = some b from rfl)) Ev.nil) rfl (law_is_edge_gen (hi b (by simp)))))
          have hn2 := Ev.cmp (o := .ne) rfl h2 (Ev.lst Ev.nil (Nat.zero_le _)) (ne_nil_f (n := 8) (by omega) fun x hx => (hit x hx).fl)
          cases hs : ds.all shardB with
          | false =>
            rw [hs] at hn2
            exact Evs.seqX (Evs.ifT (x := .bool true) hn2 rfl (Evs.seqX (Evs.ret Ev.cb rfl) (fun _ z => nomatch z))) (fun _ z => nomatch z)
          | true =>
            rw [hs] at hn2
            refine Evs.seq (Evs.ifF (x := .bool false) hn2 rfl Evs.nil) ?_
            obtain ⟨s, rfl⟩ := shards_of hs
            rw [List.length_map] at hlen
            have hso : Bi.sorted.f [.tuple (s.map shR)] = some (.list (srt (s.map shR))) := by
              show (if sortOk (s.map shR) then some (PyData.list (srt (s.map shR))) else none) = _
              rw [if_pos (sort_shs (by omega))]
            exact Evs.seqX (Evs.ret (Ev.cmp rfl (Ev.bi (Ev.consP Ev.nil rfl rfl) rfl) (Ev.bi (Ev.consP Ev.nil rfl rfl) hso) (sorted_eq (by omega))) rfl) (fun _ z => nomatch z)

open PySem.W (dataLe dataLt alike alikeAll)
/-! ### shards that fit -/
structure Shs (s : List Sh) : Prop where
  len : s.length ≤ 30
  eg : ∀ p ∈ s, edgeB (tE p.1) = true ∧ edgeB (tE p.2) = true
  asc : (s.map shR).Pairwise LeP
theorem edge_len {e : Eg} (h : edgeB (tE e) = true) : 1 ≤ e.length ∧ e.length ≤ 6 := by
  have h : ((decide (1 ≤ (e.map PyData.int).length) && decide ((e.map PyData.int).length ≤ 6)) && (e.map PyData.int).all (wholeB 1 20)) = true := h
  rw [Bool.and_eq_true, Bool.and_eq_true, decide_eq_true_iff, decide_eq_true_iff, List.length_map] at h
  exact h.1
theorem e1_e {e : Eg} (h : e.length ≤ 1000) : E1 (tE e) := ⟨rfl, fun ds z => by
  cases z
  refine ⟨by rw [List.length_map]; exact h, fun x hx => ?_⟩
  obtain ⟨i, _, rfl⟩ := List.mem_map.mp hx
  exact ⟨rfl, rfl, Nat.zero_le _⟩⟩
theorem s1_sh {p : Sh} (h1 : p.1.length ≤ 1000) (h2 : p.2.length ≤ 1000) : S1 (shR p) := ⟨rfl, ⟨(flt_sh p).1, Nat.le_trans (flt_sh p).2 (by omega)⟩, fun es z => by
  cases z
  refine ⟨by show 2 ≤ _; omega, fun f hf => ?_⟩
  simp only [List.mem_cons, List.mem_nil_iff, or_false] at hf
  rcases hf with rfl | rfl
  · exact e1_e h1
  · exact e1_e h2⟩
theorem Shs.s1 {s : List Sh} (h : Shs s) : ∀ p ∈ s, S1 (shR p) := fun p hp => s1_sh (by have := (edge_len (h.eg p hp).1).2; omega) (by have := (edge_len (h.eg p hp).2).2; omega)
theorem v1_l {l : List D} (hl : l.length ≤ 1000) (h : ∀ d ∈ l, S1 d) : V1 (.tuple l) := ⟨rfl, fun ds e => by cases e; exact ⟨hl, h⟩⟩
theorem Shs.v1 {s : List Sh} (h : Shs s) : V1 (shD s) := v1_l (by rw [List.length_map]; have := h.len; omega) fun d hd => by
  obtain ⟨p, hp, rfl⟩ := List.mem_map.mp hd
  exact h.s1 p hp
theorem shards_ok {s : List Sh} (h : Shs s) : shardsB (shD s) = true := by
  show (decide ((s.map shR).length ≤ 30) && ((s.map shR).all shardB && consB (s.map shR))) = true
  rw [List.length_map, decide_eq_true h.len, consB_iff.mpr h.asc]
  simp only [Bool.true_and, Bool.and_true]
  refine List.all_eq_true.mpr fun d hd => ?_
  obtain ⟨p, hp, rfl⟩ := List.mem_map.mp hd
  show (edgeB (tE p.1) && edgeB (tE p.2)) = true
  rw [(h.eg p hp).1, (h.eg p hp).2]; rfl
theorem need_ok {s : List Sh} (h : Shs s) : sem5.f [shD s] = Rs.ok (.none, []) := by
  have h1 := fits_shards_gen h.v1
  rw [shards_ok h] at h1
  apply sem_nx (F := f_need_shards) (e1 := [Sl.pd (shD s)])
  case hh => rfl
  case h =>
    show Evs _ _ b_need_shards [Sl.pd (shD s)] _
    unfold b_need_shards
    exact Evs.seq (Evs.ifF (x := .bool false) (Ev.notb (k := true) (Ev.call rfl (Ev.cons rfl (Ev.var rfl) Ev.nil) rfl h1)) rfl Evs.nil) Evs.nil
theorem are_shards_gen {d : D} (h : V1 d) : sem9.f [d] = Rs.ok (.bool (shardsB d), []) := by
  apply sem_rt (F := f_are_shards) (e1 := [Sl.pd d])
  case hh => rfl
  case h =>
    show Evs _ _ b_are_shards [Sl.pd d] _
    unfold b_are_shards
    exact Evs.seqX (Evs.ret (Ev.call rfl (Ev.cons rfl (Ev.var rfl) Ev.nil) rfl (fits_shards_gen h)) rfl) (fun _ z => nomatch z)
/-! ### edges in order -/
def keyE (e : Eg) : List L2.Key := e.map Sum.inl
theorem keyE_inj {a b : Eg} (h : keyE a = keyE b) : a = b := by
  have : ∀ {a b : List Int}, a.map (Sum.inl (β := Str)) = b.map Sum.inl → a = b := fun {a} => by
    induction a with
    | nil => intro b h; cases b <;> first | rfl | cases h
    | cons x r ih =>
      intro b h
      cases b with
      | nil => cases h
      | cons y m =>
        rw [List.map_cons, List.map_cons, List.cons.injEq] at h
        rw [Sum.inl.inj h.1, ih h.2]
  exact this h
theorem keysOf_i : ∀ e : List Int, keysOf (e.map PyData.int) = some (e.map Sum.inl)
  | [] => rfl
  | i :: r => by
    show (keysOf (r.map PyData.int)).map (Sum.inl i :: ·) = _
    rw [keysOf_i r]; rfl
theorem keyOf_e (e : Eg) : keyOf (tE e) = some (keyE e) := keysOf_i e
theorem tupK_e (e : Eg) : tupK (keyE e) = tE e := by
  show PyData.tuple ((e.map Sum.inl).map kD) = _
  rw [List.map_map]; rfl
def unE : D → Eg := fun d => match d with
  | .tuple ds => ds.map fun x => match x with | .int i => i | _ => 0
  | _ => []
theorem unE_t (e : Eg) : unE (tE e) = e := by
  show (e.map PyData.int).map _ = e
  rw [List.map_map]
  conv => rhs; rw [← List.map_id e]
  exact List.map_congr_left fun _ _ => rfl
def srtE (l : List Eg) : List Eg := (srt (l.map tE)).map unE
theorem srt_srtE (l : List Eg) : srt (l.map tE) = (srtE l).map tE := by
  unfold srtE
  rw [List.map_map]
  conv => lhs; rw [← List.map_id (srt (l.map tE))]
  refine List.map_congr_left fun d hd => ?_
  obtain ⟨t, _, rfl⟩ := List.mem_map.mp ((srt_perm _).mem_iff.mp hd)
  show tE t = tE (unE (tE t))
  rw [unE_t]
theorem srtE_perm (l : List Eg) : (srtE l).Perm l := by
  have := (srt_perm (l.map tE)).map unE
  rw [List.map_map] at this
  have e2 : l.map (unE ∘ tE) = l := by
    conv => rhs; rw [← List.map_id l]
    exact List.map_congr_left fun t _ => unE_t t
  rw [e2] at this
  exact this
theorem srtE_eq {l m : List Eg} (h : l.Perm m) : srtE l = srtE m := by
  have := srt_tupK (h.map keyE)
  have e : ∀ l : List Eg, (l.map keyE).map tupK = l.map tE := fun l => by
    rw [List.map_map]
    exact List.map_congr_left fun t _ => tupK_e t
  rw [e, e] at this
  unfold srtE
  rw [this]
theorem sortOk_e {l : List Eg} (hl : l.length ≤ 1000) : sortOk (l.map tE) = true := by
  have hz := PySem.sizeLine_eq
  have := sortD_of (l := l.map tE) (fun d hd e he => by
    obtain ⟨x, _, rfl⟩ := List.mem_map.mp hd
    obtain ⟨y, _, rfl⟩ := List.mem_map.mp he
    exact alike_e x y) (by
    rw [Bool.or_eq_true]
    refine .inl (List.all_eq_true.mpr fun d hd => ?_)
    obtain ⟨x, _, rfl⟩ := List.mem_map.mp hd
    rfl) (by rw [List.length_map]; omega) fun d hd => by
    obtain ⟨x, hx, rfl⟩ := List.mem_map.mp hd
    exact Nat.le_trans (flt_e x).2 (by omega)
  exact (sortD_ok this).1
def el (s : List Sh) : List Eg := (s.map fun p => [p.1, p.2]).flatten
def EG (s : List Sh) : List Eg := srtE (dk (el s))
theorem mem_el {s : List Sh} {e : Eg} : e ∈ el s ↔ ∃ p ∈ s, e = p.1 ∨ e = p.2 := by
  unfold el
  rw [List.mem_flatten]
  constructor
  · rintro ⟨l, hl, he⟩
    obtain ⟨p, hp, rfl⟩ := List.mem_map.mp hl
    exact ⟨p, hp, by simpa using he⟩
  · rintro ⟨p, hp, he⟩
    exact ⟨[p.1, p.2], List.mem_map.mpr ⟨p, hp, rfl⟩, by simpa using he⟩
theorem el_len : ∀ s : List Sh, (el s).length = 2 * s.length
  | [] => rfl
  | p :: s => by
    have h := el_len s
    show (p.1 :: p.2 :: el s).length = 2 * (s.length + 1)
    rw [List.length_cons, List.length_cons, h]; omega
theorem mem_EG {s : List Sh} {e : Eg} : e ∈ EG s ↔ e ∈ el s := by
  unfold EG
  rw [(srtE_perm _).mem_iff, mem_dk]
theorem EG_nodup (s : List Sh) : (EG s).Nodup := (srtE_perm _).nodup_iff.mpr (nodup_dk _)
theorem EG_len (s : List Sh) : (EG s).length ≤ 2 * s.length := by
  unfold EG
  rw [(srtE_perm _).length_eq, ← el_len]
  exact dk_len _
/-- whatever names the same edges, each once, in order -/
theorem srtE_EG {s : List Sh} {l : List Eg} (hn : l.Nodup) (h : ∀ e, e ∈ l ↔ e ∈ el s) : srtE l = EG s :=
  srtE_eq ((List.perm_ext_iff_of_nodup hn (nodup_dk _)).mpr fun e => by rw [h, mem_dk])
theorem flat_sh : ∀ s : List Sh, flatD (s.map shR) = some ((el s).map tE)
  | [] => rfl
  | p :: s => by
    have := flat_sh s
    show (match seqOf (shR p), flatD (s.map shR) with | some x, some y => some (x ++ y) | _, _ => none) = _
    rw [this]
    show some ([tE p.1, tE p.2] ++ (el s).map tE) = some ((([p.1, p.2] : List Eg) ++ el s).map tE)
    rw [List.map_append]; rfl
theorem edges_in_ok {s : List Sh} (hl : s.length ≤ 30) : sem6.f [shD s] = Rs.ok (.list ((EG s).map tE), []) := by
  have hz := PySem.sizeLine_eq
  apply sem_rt (F := f_edges_in) (e1 := [Sl.pd (shD s), .no, .no])
  case hh => rfl
  case h =>
    show Evs _ _ b_edges_in [Sl.pd (shD s), .no, .no] _
    unfold b_edges_in
    have h1 : Ev (mkG gl L6) (.flat (.var 0) [("shard", 1), ("edge", 2)] 1 2) [Sl.pd (shD s), .no, .no] (.list ((el s).map tE)) [Sl.pd (shD s), .no, .no] :=
      Ev.flat (Ev.var rfl) rfl (flat_sh s) rfl (by rw [List.length_map, el_len]; omega) (by show 1 < 3; omega) (by show 2 < 3; omega)
    refine Evs.seqX (Evs.ret (d := .list ((EG s).map tE)) ?_ rfl) (fun _ z => nomatch z)
    by_cases hs : s = []
    · subst hs
      have e0 : EG [] = [] := List.length_eq_zero_iff.mp (Nat.le_zero.mp (EG_len []))
      rw [e0]
      exact Ev.sset (ns := []) h1 (by decide) (by decide)
    · have e0 : (el s).map tE = ((el s).map keyE).map tupK := by
        rw [List.map_map]
        exact List.map_congr_left fun t _ => (tupK_e t).symm
      rw [e0] at h1
      have hp : (nubK ((el s).map keyE)).Perm ((dk (el s)).map keyE) := by
        refine (List.perm_ext_iff_of_nodup (nodup_nubK _) ?_).mpr fun k => ?_
        · rw [List.nodup_iff_pairwise_ne, List.pairwise_map]
          exact (List.nodup_iff_pairwise_ne.mp (nodup_dk (el s))).imp fun z w => z (keyE_inj w)
        · rw [mem_nubK, List.mem_map, List.mem_map]
          exact ⟨fun ⟨t, h1, h2⟩ => ⟨t, (mem_dk _).mpr h1, h2⟩, fun ⟨t, h1, h2⟩ => ⟨t, (mem_dk _).mp h1, h2⟩⟩
      have hall : ∃ l : List Eg, (nubK ((el s).map keyE)).map tupK = l.map tE ∧ l.length ≤ 1000 := by
        refine ⟨(nubK ((el s).map keyE)).map fun k => unE (tupK k), ?_, ?_⟩
        · rw [List.map_map]
          refine List.map_congr_left fun k hk => ?_
          obtain ⟨t, _, rfl⟩ := List.mem_map.mp (mem_nubK.mp hk)
          show tupK (keyE t) = tE (unE (tupK (keyE t)))
          rw [tupK_e, unE_t]
        · rw [List.length_map, hp.length_eq, List.length_map]
          have := dk_len (el s)
          rw [el_len] at this
          omega
      obtain ⟨l, hl1, hl2⟩ := hall
      have h2 := Ev.ssetK h1 (fun z => hs (by
        rw [List.map_eq_nil_iff] at z
        have := el_len s
        rw [z] at this
        exact List.length_eq_zero_iff.mp (by simp at this; omega))) (by rw [List.length_map, el_len]; omega) (by rw [hl1]; exact sortOk_e hl2)
      have e1 : srt ((nubK ((el s).map keyE)).map tupK) = (EG s).map tE := by
        rw [srt_tupK hp, List.map_map]
        have : (dk (el s)).map (tupK ∘ keyE) = (dk (el s)).map tE := List.map_congr_left fun t _ => tupK_e t
        rw [this, srt_srtE]; rfl
      rwa [e1] at h2
theorem shard_edges_ok {s : List Sh} (h : Shs s) : sem10.f [shD s] = Rs.ok (.tuple ((EG s).map tE), []) := by
  apply sem_rt (F := f_shard_edges) (e1 := [Sl.pd (shD s)])
  case hh => rfl
  case h =>
    show Evs _ _ b_shard_edges [Sl.pd (shD s)] _
    unfold b_shard_edges
    exact Evs.seq (Evs.expr (Ev.call rfl (Ev.cons rfl (Ev.var rfl) Ev.nil) rfl (need_ok h))) (Evs.seqX (Evs.ret (Ev.bi (Ev.cons rfl (Ev.call rfl (Ev.cons rfl (Ev.var rfl) Ev.nil) rfl (edges_in_ok h.len)) Ev.nil) rfl) rfl) (fun _ z => nomatch z))
/-! ### tables from edges -/
def tbl (ks : List Eg) (v : Eg → D) : List (List L2.Key × D) := ks.map fun e => (keyE e, v e)
def ins (ks : List Eg) (e : Eg) : List Eg := if ks.contains e then ks else ks ++ [e]
def updE (v : Eg → D) (e : Eg) (d : D) : Eg → D := fun x => if x = e then d else v x
theorem mem_ins {ks : List Eg} {e x : Eg} : x ∈ ins ks e ↔ x ∈ ks ∨ x = e := by
  unfold ins
  split
  · rename_i h
    exact ⟨.inl, fun z => z.elim id fun z => by rw [z]; exact List.contains_iff_mem.mp h⟩
  · rw [List.mem_append, List.mem_singleton]
theorem nodup_ins {ks : List Eg} {e : Eg} (h : ks.Nodup) : (ins ks e).Nodup := by
  unfold ins
  split
  · exact h
  · rename_i hc
    rw [List.nodup_append]
    refine ⟨h, List.nodup_cons.mpr ⟨by simp, List.nodup_nil⟩, fun a ha b hb e => hc ?_⟩
    rw [List.mem_singleton] at hb
    subst hb; subst e
    exact List.contains_iff_mem.mpr ha
theorem ins_len (ks : List Eg) (e : Eg) : (ins ks e).length ≤ ks.length + 1 := by
  unfold ins
  split
  · omega
  · rw [List.length_append]; exact Nat.le_refl _
theorem look_tbl (v : Eg → D) (t : Eg) : ∀ ts : List Eg, lookD (tbl ts v) (keyE t) = if t ∈ ts then some (v t) else none
  | [] => rfl
  | u :: ts => by
    have ih := look_tbl v t ts
    unfold lookD tbl at ih ⊢
    rw [List.map_cons, List.find?_cons]
    by_cases h : u = t
    · subst h
      rw [decide_eq_true rfl, if_pos List.mem_cons_self]; rfl
    · rw [decide_eq_false (show ¬ (keyE u, v u).1 = keyE t from fun z => h (keyE_inj z))]
      dsimp only
      rw [ih]
      by_cases h2 : t ∈ ts
      · rw [if_pos h2, if_pos (List.mem_cons_of_mem _ h2)]
      · rw [if_neg h2, if_neg fun z => by
          rcases List.mem_cons.mp z with z | z
          · exact h z.symm
          · exact h2 z]
theorem put_tbl (ks : List Eg) (v : Eg → D) (e : Eg) (d : D) : putD (tbl ks v) (keyE e) d = tbl (ins ks e) (updE v e d) := by
  unfold putD
  rw [look_tbl]
  unfold ins
  by_cases h : e ∈ ks
  · rw [if_pos h, if_pos (show (some (v e)).isSome = true from rfl), if_pos (List.contains_iff_mem.mpr h)]
    unfold tbl
    rw [List.map_map]
    refine List.map_congr_left fun x hx => ?_
    show (if keyE x = keyE e then (keyE x, d) else (keyE x, v x)) = (keyE x, if x = e then d else v x)
    by_cases hx : x = e
    · subst hx; rw [if_pos rfl, if_pos rfl]
    · rw [if_neg (fun z => hx (keyE_inj z)), if_neg hx]
  · rw [if_neg h, if_neg (by simp), if_neg (fun z => h (List.contains_iff_mem.mp z))]
    unfold tbl
    rw [List.map_append]
    congr 1
    · refine List.map_congr_left fun x hx => ?_
      show (keyE x, v x) = (keyE x, if x = e then d else v x)
      rw [if_neg (fun z => h (by rw [← z]; exact hx))]
    · show _ = [(keyE e, if e = e then d else v e)]
      rw [if_pos rfl]
theorem keys_tbl (ks : List Eg) (v : Eg → D) : keysD (tbl ks v) = ks.map tE := by
  unfold keysD tbl
  rw [List.map_map]
  exact List.map_congr_left fun e _ => tupK_e e
theorem dsort_tbl {ks : List Eg} {v : Eg → D} (hl : ks.length ≤ 1000) : sortD [.list (keysD (tbl ks v))] = some (.list ((srtE ks).map tE)) := by
  rw [keys_tbl]
  show (if sortOk (ks.map tE) then some (PyData.list (srt (ks.map tE))) else none) = _
  rw [if_pos (sortOk_e hl), srt_srtE]
theorem tbl_len (ks : List Eg) (v : Eg → D) : (tbl ks v).length = ks.length := by unfold tbl; rw [List.length_map]

open PySem.W (dataLe dataLt alike alikeAll)
/-! ### pairs that fit -/
def prD (p : Nat × Nat) : D := .tuple [iN p.1, iN p.2]
theorem rng_enA {α : Type} (l : List α) : rngD 0 (l.length : Int) = (enA l).map fun p => iN p.1 := by
  unfold rngD enA
  rw [Int.sub_zero, Int.toNat_natCast]
  have : ((List.range l.length).zip l).map (fun p => iN p.1) = (((List.range l.length).zip l).map (·.1)).map iN := by rw [List.map_map]; rfl
  rw [this, List.map_fst_zip (by rw [List.length_range]; exact Nat.le_refl _)]
  exact List.map_congr_left fun k _ => by rw [Int.zero_add]; rfl
theorem enum_enA {α : Type} (f : α → D) (l : List α) : List.zipWith (fun (k : Nat) e => PyData.tuple [.int (k : Int), e]) (List.range (l.map f).length) (l.map f) = (enA l).map fun p => PyData.tuple [iN p.1, f p.2] := by
  rw [zw_map, List.length_map]; rfl
theorem eq_e (a b : Eg) : Cop.eq.f (tE a) (tE b) = some (.bool (a == b)) := by
  show (if SeqAt.shaped (tE a) && SeqAt.shaped (tE b) then some (PyData.bool (PyData.eqv (tE a) (tE b))) else none) = _
  rw [(flt_e a).shaped (by omega), (flt_e b).shaped (by omega), eqv_e]; rfl
theorem idx_sh {s : List Sh} {p : Nat × Sh} (h : p ∈ enA s) : idxD (shD s) (iN p.1) = some (shR p.2) := by
  have h1 : (s.map shR)[p.1]? = some (shR p.2) := by rw [List.getElem?_map, mem_enA h]; rfl
  obtain ⟨h2, h3⟩ := List.getElem?_eq_some_iff.mp h1
  show L2.atI (s.map shR) (p.1 : Int) = _
  rw [atI_nat' h2, h3]
theorem ne_nn (a b : Nat) : Cop.ne.f (iN a) (iN b) = some (.bool (a != b)) := by rw [← int_bne]; rfl
def fpRow (s : List Sh) (p : Nat × Sh) : List (Nat × Nat) := ((enA s).filter fun q => q.1 != p.1 && p.2.2 == q.2.1).map fun q => (p.1, q.1)
def FP (s : List Sh) : List (Nat × Nat) := ((enA s).map (fpRow s)).flatten
abbrev bF : S := .seq (.augl 1 (.lc (.tup (.cons (.var 2) (.cons (.var 3) .nil))) (.nm 3) (.rng1 (.bi .len (.cons (.peek 0) .nil))) (.and_ (.cmp .ne (.peek 3) (.peek 2)) (.one (.cmp .eq (.idx (.idx (.peek 0) (.var 2)) (.ci 1)) (.idx (.idx (.peek 0) (.var 3)) (.ci 0))))) [("other", 3)])) .nil
theorem len_sh (s : List Sh) : Bi.len.f [shD s] = some (.int (s.length : Int)) := by
  show some (PyData.int ((s.map shR).length : Int)) = _
  rw [List.length_map]
theorem fpRow_len (s : List Sh) (p : Nat × Sh) : (fpRow s p).length ≤ s.length := by
  unfold fpRow
  rw [List.length_map]
  exact Nat.le_trans (List.length_filter_le _ _) (by rw [enA_len]; exact Nat.le_refl _)
theorem loop_f {s : List Sh} (hl : s.length ≤ 30) : ∀ (xs : List (Nat × Sh)) (acc : List (Nat × Nat)) (s2 : Sl), Fre s2 → (∀ p ∈ xs, p ∈ enA s) → acc.length + 30 * xs.length ≤ 10000 →
    ∃ t2, forGo (asgT (.nm 2)) (evS (mkG gl L11) false bF) (xs.map fun p => iN p.1) [Sl.pd (shD s), .own (acc.map prD), s2, .no] = .nx [Sl.pd (shD s), .own ((acc ++ (xs.map (fpRow s)).flatten).map prD), t2, .no]
  | [], acc, s2, _, _, _ => ⟨s2, by simp only [List.map_nil, List.flatten_nil, List.append_nil]; rfl⟩
  | p :: xs, acc, s2, f2, hx, hn => by
    have hz := PySem.sizeLine_eq
    have hn' : acc.length + 30 * (xs.length + 1) ≤ 10000 := hn
    have hp := hx p List.mem_cons_self
    have h1 := lcP (G := mkG gl L11) (elt := .tup (.cons (.var 2) (.cons (.var 3) .nil))) (cond := .and_ (.cmp .ne (.peek 3) (.peek 2)) (.one (.cmp .eq (.idx (.idx (.peek 0) (.var 2)) (.ci 1)) (.idx (.idx (.peek 0) (.var 3)) (.ci 0))))) (tg := .nm 3) (it := .rng1 (.bi .len (.cons (.peek 0) .nil))) (own := [("other", 3)]) (env := [Sl.pd (shD s), .own (acc.map prD), .pd (iN p.1), .no])
      (enA s) (fun q => iN q.1) (fun q => prD (p.1, q.1)) (fun q => q.1 != p.1 && p.2.2 == q.2.1) (Ev.rng1 (Ev.bi (Ev.consP Ev.nil rfl rfl) (len_sh s)) (rng_nat (by omega))) (congrArg some (rng_enA s)) rfl (by rw [enA_len]; omega) rfl rfl rfl fun q hq =>
        ⟨[Sl.pd (shD s), .own (acc.map prD), .pd (iN p.1), .pd (iN q.1)], rfl, Ev.andb (Ev.cmpP (Ev.peek rfl) rfl rfl (ne_nn q.1 p.1)) fun _ => Ev.one (Ev.cmp rfl (Ev.idx rfl (Ev.idxP (Ev.var rfl) rfl rfl (idx_sh hp)) Ev.ci rfl) (Ev.idx rfl (Ev.idxP (Ev.var rfl) rfl rfl (idx_sh hq)) Ev.ci rfl) (eq_e p.2.2 q.2.1)), rfl,
          fun _ => Ev.tup (Ev.cons rfl (Ev.var rfl) (Ev.cons rfl (Ev.var rfl) Ev.nil)) (by show 2 ≤ _; omega)⟩
    have e1 : ((enA s).filter fun q => q.1 != p.1 && p.2.2 == q.2.1).map (fun q => prD (p.1, q.1)) = (fpRow s p).map prD := by unfold fpRow; rw [List.map_map]; rfl
    rw [e1] at h1
    have hrl := fpRow_len s p
    have hb : evS (mkG gl L11) false bF [Sl.pd (shD s), .own (acc.map prD), .pd (iN p.1), .no] = .nx [Sl.pd (shD s), .own ((acc ++ fpRow s p).map prD), .pd (iN p.1), .no] := by
      rw [List.map_append]
      exact Evs.ok (Evs.seq (Evs.augl rfl h1 rfl (by rw [List.length_map, List.length_map]; omega)) Evs.nil)
    obtain ⟨t2, e⟩ := loop_f hl xs (acc ++ fpRow s p) (.pd (iN p.1)) Fre.pd (fun q hq => hx q (List.mem_cons_of_mem _ hq)) (by rw [List.length_append]; omega)
    refine ⟨t2, ?_⟩
    rw [List.map_cons, forGo_nx (e1 := [Sl.pd (shD s), .own (acc.map prD), .pd (iN p.1), .no]) (by cases s2 <;> first | rfl | exact absurd rfl (f2 _)) hb, e, List.map_cons, List.flatten_cons, List.append_assoc]
theorem fit_pairs_ok {s : List Sh} (h : Shs s) : sem11.f [shD s] = Rs.ok (.tuple ((FP s).map prD), []) := by
  have hl := h.len
  obtain ⟨t2, e⟩ := loop_f hl (enA s) [] .no Fre.no (fun _ z => z) (by rw [enA_len]; show 0 + _ ≤ _; omega)
  rw [List.nil_append] at e
  apply sem_rt (F := f_fit_pairs)
  case h =>
    show Evs _ _ b_fit_pairs [Sl.pd (shD s), .no, .no, .no] _
    unfold b_fit_pairs
    exact Evs.seq (Evs.expr (Ev.call rfl (Ev.cons rfl (Ev.var rfl) Ev.nil) rfl (need_ok h))) (Evs.seq (Evs.set (Ev.lst Ev.nil (Nat.zero_le _)) rfl)
      (Evs.seq (Evs.for_ (l := (enA s).map fun p : Nat × Sh => iN p.1) (Ev.rng1 (Ev.bi (Ev.consP Ev.nil rfl rfl) (len_sh s)) (rng_nat (by omega))) (show itemsOf (.list (rngD 0 (s.length : Int))) = some ((enA s).map fun p : Nat × Sh => iN p.1) from congrArg some (rng_enA s)) e) (Evs.seqX (Evs.ret (Ev.bi (Ev.consP Ev.nil rfl rfl) rfl) rfl) (fun _ z => nomatch z))))
  case hh => rfl
/-! ### shards with a length -/
theorem any_map {α : Type} (f : α → Bool) (l : List α) : Bi.any.f [.list (l.map fun x => PyData.bool (f x))] = some (.bool (l.any f)) := by
  show ((boolsD? (l.map fun x => PyData.bool (f x))).map fun bs => PyData.bool (bs.any id)) = _
  rw [boolsD_map]
  show some (PyData.bool ((l.map f).any id)) = _
  rw [List.any_map]; rfl
theorem any_int (L : Int) : ∀ e : List Int, (e.map PyData.int).any (fun z => PyData.eqv z (.int L)) = e.contains L
  | [] => rfl
  | y :: b => by
    rw [List.map_cons, List.any_cons, any_int L b, List.contains_cons]
    congr 1
    show (y == L) = (L == y)
    rw [Bool.eq_iff_iff, beq_iff_eq, beq_iff_eq]; exact eq_comm
theorem in_e (L : Int) (e : Eg) : Cop.isin.f (.int L) (tE e) = some (.bool (e.contains L)) := by
  show (if SeqAt.shaped (.int L) && SeqAt.shaped (tE e) then some (PyData.bool ((e.map PyData.int).any fun z => PyData.eqv z (.int L))) else none) = _
  rw [(flt_i L).shaped (by omega), (flt_e e).shaped (by omega), any_int]; rfl
def SW (s : List Sh) (L : Int) : List (Nat × Sh) := (enA s).filter fun p => p.2.1.contains L || p.2.2.contains L
theorem shards_with_ok {s : List Sh} (h : Shs s) {L : Int} (h1 : 1 ≤ L) (h2 : L ≤ 20) : sem14.f [shD s, .int L] = Rs.ok (.tuple ((SW s L).map fun p => iN p.1), []) := by
  have hz := PySem.sizeLine_eq
  have hl := h.len
  have hw : wholeB 1 20 (.int L) = true := by show (decide (1 ≤ L) && decide (L ≤ 20)) = true; rw [decide_eq_true h1, decide_eq_true h2]; rfl
  have hf := fits_whole_gen (d := .int L) rfl 1 20
  rw [hw] at hf
  apply sem_rt (F := f_shards_with) (e1 := [Sl.pd (shD s), .pd (.int L), .no, .no, .no])
  case hh => rfl
  case h =>
    show Evs _ _ b_shards_with [Sl.pd (shD s), .pd (.int L), .no, .no, .no] _
    unfold b_shards_with
    have h3 := lcP (G := mkG gl L14) (elt := .var 2) (cond := .bi .any (.cons (.lc (.cmp .isin (.peek 1) (.peek 4)) (.nm 4) (.var 3) .nil [("edge", 4)]) .nil)) (tg := .tup (.cons (.nm 2) (.cons (.nm 3) .nil))) (it := .enum (.var 0)) (own := [("at", 2), ("shard", 3)]) (env := [Sl.pd (shD s), .pd (.int L), .no, .no, .no])
      (enA s) (fun p => .tuple [iN p.1, shR p.2]) (fun p => iN p.1) (fun p => p.2.1.contains L || p.2.2.contains L) (Ev.enum (l := s.map shR) (Ev.var rfl) rfl) (congrArg some (enum_enA shR s)) rfl (by rw [enA_len]; omega) rfl rfl rfl fun p hp => by
        refine ⟨[Sl.pd (shD s), .pd (.int L), .pd (iN p.1), .pd (shR p.2), .no], rfl, ?_, rfl, fun _ => Ev.var rfl⟩
        have hi := lcA (G := mkG gl L14) (elt := .cmp .isin (.peek 1) (.peek 4)) (tg := .nm 4) (it := .var 3) (own := [("edge", 4)]) (env := [Sl.pd (shD s), .pd (.int L), .pd (iN p.1), .pd (shR p.2), .no]) [p.2.1, p.2.2] tE (fun e => .bool (e.contains L)) (Ev.var rfl) rfl rfl (by show 2 ≤ _; omega) rfl rfl fun e he =>
          ⟨[Sl.pd (shD s), .pd (.int L), .pd (iN p.1), .pd (shR p.2), .pd (tE e)], rfl, rfl, Ev.cmpP (Ev.peek rfl) rfl rfl (in_e L e)⟩
        have := Ev.bi (o := .any) (Ev.cons rfl hi Ev.nil) (any_map (fun e : Eg => e.contains L) [p.2.1, p.2.2])
        simp only [List.any_cons, List.any_nil, Bool.or_false] at this
        exact this
    exact Evs.seq (Evs.expr (Ev.call rfl (Ev.cons rfl (Ev.var rfl) Ev.nil) rfl (need_ok h))) (Evs.seq (Evs.ifF (x := .bool false) (Ev.notb (k := true) (Ev.call rfl (Ev.cons rfl (Ev.var rfl) (Ev.cons rfl Ev.ci (Ev.cons rfl (Ev.glb rfl) Ev.nil))) rfl hf)) rfl Evs.nil) (Evs.seqX (Evs.ret (Ev.bi (Ev.cons rfl h3 Ev.nil) rfl) rfl) (fun _ z => nomatch z)))
/-! ### excess -/
def bump (v : Eg → Int) (e : Eg) (d : Int) : Eg → Int := fun x => if x = e then v x + d else v x
def exF (v : Eg → Int) (p : Sh) : Eg → Int := bump (bump v p.1 1) p.2 (-1)
def ex (s : List Sh) : Eg → Int := s.foldl exF fun _ => 0
abbrev vI (v : Eg → Int) : Eg → D := fun e => .int (v e)
theorem upd_bump (v : Eg → Int) (e : Eg) (d : Int) : updE (vI v) e (.int (v e + d)) = vI (bump v e d) := by
  funext x
  show (if x = e then PyData.int (v e + d) else .int (v x)) = PyData.int (if x = e then v x + d else v x)
  by_cases h : x = e
  · subst h; rw [if_pos rfl, if_pos rfl]
  · rw [if_neg h, if_neg h]
theorem ex_snoc (s : List Sh) (p : Sh) : ex (s ++ [p]) = exF (ex s) p := by unfold ex; rw [List.foldl_append]; rfl
theorem ins_in {ks : List Eg} {e : Eg} (h : e ∈ ks) : ins ks e = ks := if_pos (List.contains_iff_mem.mpr h)
theorem ins_fold : ∀ (ks ks0 : List Eg), (ks0 ++ ks).Nodup → ks.foldl ins ks0 = ks0 ++ ks
  | [], ks0, _ => by rw [List.append_nil]; rfl
  | e :: ks, ks0, h => by
    have h1 : e ∉ ks0 := fun z => by
      rw [List.nodup_append] at h
      exact h.2.2 e z e List.mem_cons_self rfl
    rw [List.foldl_cons, show ins ks0 e = ks0 ++ [e] from if_neg fun z => h1 (List.contains_iff_mem.mp z), ins_fold ks (ks0 ++ [e]) (by rw [List.append_assoc]; exact h), List.append_assoc]; rfl
theorem dgo_zero {G : Genv} {ew : En} {w : D → En} (hw : ∀ e : Eg, asgT (.nm 4) (tE e) ew = some (w (tE e)) ∧ ev G (.var 4) (w (tE e)) = .ok (tE e, w (tE e)) ∧ wipeE (w (tE e)) [4] = ew) : ∀ (ks ks0 : List Eg),
    dgo (asgT (.nm 4)) (ev G (.var 4)) (ev G (.ci 0)) [4] (ks.map tE) ew (tbl ks0 (vI fun _ => 0)) = .ok (tbl (ks.foldl ins ks0) (vI fun _ => 0), ew)
  | [], ks0 => rfl
  | e :: ks, ks0 => by
    obtain ⟨h1, h2, h3⟩ := hw e
    rw [List.map_cons]
    unfold dgo
    rw [h1]
    dsimp only
    rw [h2]
    show (match keyOf (tE e) with
      | some ks' => dgo (asgT (.nm 4)) (ev G (.var 4)) (ev G (.ci 0)) [4] (ks.map tE) (wipeE (w (tE e)) [4]) (putD (tbl ks0 (vI fun _ => 0)) ks' (.int 0))
      | none => .bot) = _
    rw [keyOf_e]
    dsimp only
    rw [h3, put_tbl, show updE (vI fun _ => 0) e (.int 0) = vI fun _ => 0 from by
      funext x; unfold updE; split <;> rfl, dgo_zero hw ks (ins ks0 e)]; rfl
theorem excess_in_ok {s : List Sh} (hl : s.length ≤ 30) : sem8.f [shD s] = Rs.ok (.dict (encD (tbl (EG s) (vI (ex s)))), []) := by
  have hz := PySem.sizeLine_eq
  have hel := EG_len s
  have hd := dgo_zero (G := mkG gl L8) (ew := [Sl.pd (shD s), .no, .no, .no, .no]) (w := fun d => [Sl.pd (shD s), .no, .no, .no, .pd d]) (fun e => ⟨rfl, rfl, rfl⟩) (EG s) []
  rw [ins_fold (EG s) [] (EG_nodup s), List.nil_append] at hd
  obtain ⟨e, h1, h2⟩ := forGo_inv (asg := asgT (.tup (.cons (.nm 2) (.cons (.nm 3) .nil)))) (body := evS (mkG gl L8) true (.seq (.daug 1 (.var 2) false (.ci 1)) (.seq (.daug 1 (.var 3) true (.ci 1)) .nil)))
    (fun xs env => ∃ P R s2 s3, xs = R.map shR ∧ P ++ R = s ∧ env = [Sl.pd (shD s), .dic (tbl (EG s) (vI (ex P))), s2, s3, .no] ∧ Npd s2 ∧ Npd s3) (s.map shR) [Sl.pd (shD s), .dic (tbl (EG s) (vI fun _ => 0)), .no, .no, .no] ⟨[], s, .no, .no, rfl, rfl, rfl, .inl rfl, .inl rfl⟩
    (fun x xs env ⟨P, R, s2, s3, q1, q2, q3, q4, q5⟩ => by
      subst q3
      match R, q1, q2 with
      | [], q1, _ => cases q1
      | p :: R, q1, q2 =>
        cases q1
        have hp : p ∈ s := by rw [← q2]; simp
        have m1 : p.1 ∈ EG s := mem_EG.mpr (mem_el.mpr ⟨p, hp, .inl rfl⟩)
        have m2 : p.2 ∈ EG s := mem_EG.mpr (mem_el.mpr ⟨p, hp, .inr rfl⟩)
        refine ⟨[Sl.pd (shD s), .dic (tbl (EG s) (vI (ex P))), .pd (tE p.1), .pd (tE p.2), .no], [Sl.pd (shD s), .dic (tbl (EG s) (vI (ex (P ++ [p])))), .pd (tE p.1), .pd (tE p.2), .no], ?_, .inl ?_, P ++ [p], R, _, _, rfl, by rw [← q2, List.append_assoc]; rfl, rfl, Npd.pd, Npd.pd⟩
        · rcases q4 with rfl | ⟨d, rfl⟩ <;> rcases q5 with rfl | ⟨d, rfl⟩ <;> rfl
        · have a1 := Evs.daug (G := mkG gl L8) (fr := true) (sub := false) (i := 1) (env := [Sl.pd (shD s), .dic (tbl (EG s) (vI (ex P))), .pd (tE p.1), .pd (tE p.2), .no]) rfl (Ev.var (i := 2) rfl) (keyOf_e p.1) rfl ((look_tbl _ _ _).trans (if_pos m1)) (Ev.ci (i := 1)) rfl (by rw [tbl_len]; omega)
          rw [put_tbl, ins_in m1] at a1
          have a1 : Evs (mkG gl L8) true (.daug 1 (.var 2) false (.ci 1)) [Sl.pd (shD s), .dic (tbl (EG s) (vI (ex P))), .pd (tE p.1), .pd (tE p.2), .no] (.nx [Sl.pd (shD s), .dic (tbl (EG s) (updE (vI (ex P)) p.1 (.int (ex P p.1 + 1)))), .pd (tE p.1), .pd (tE p.2), .no]) := a1
          rw [upd_bump] at a1
          have a2 := Evs.daug (G := mkG gl L8) (fr := true) (sub := true) (i := 1) (env := [Sl.pd (shD s), .dic (tbl (EG s) (vI (bump (ex P) p.1 1))), .pd (tE p.1), .pd (tE p.2), .no]) rfl (Ev.var (i := 3) rfl) (keyOf_e p.2) rfl ((look_tbl _ _ _).trans (if_pos m2)) (Ev.ci (i := 1)) rfl (by rw [tbl_len]; omega)
          rw [put_tbl, ins_in m2] at a2
          have a2 : Evs (mkG gl L8) true (.daug 1 (.var 3) true (.ci 1)) [Sl.pd (shD s), .dic (tbl (EG s) (vI (bump (ex P) p.1 1))), .pd (tE p.1), .pd (tE p.2), .no] (.nx [Sl.pd (shD s), .dic (tbl (EG s) (updE (vI (bump (ex P) p.1 1)) p.2 (.int (bump (ex P) p.1 1 p.2 + -1)))), .pd (tE p.1), .pd (tE p.2), .no]) := a2
          rw [upd_bump] at a2
          rw [ex_snoc]
          exact Evs.ok (Evs.seq a1 (Evs.seq a2 Evs.nil)))
  obtain ⟨P, R, s2, s3, q1, q2, q3, q4, q5⟩ := h2
  have hR : R = [] := by cases R <;> first | rfl | cases q1
  subst hR q3
  rw [List.append_nil] at q2
  subst q2
  apply sem_rt (F := f_excess_in)
  case h =>
    show Evs _ _ b_excess_in [Sl.pd (shD P), .no, .no, .no, .no] _
    unfold b_excess_in
    exact Evs.seq (Evs.dcm (l := (EG P).map tE) (Ev.call rfl (Ev.cons rfl (Ev.var rfl) Ev.nil) rfl (edges_in_ok hl)) rfl (by show (true && decide (((EG P).map tE).length ≤ sizeLine)) = true; rw [List.length_map, decide_eq_true (by omega)]; rfl) hd rfl)
      (Evs.seq (Evs.for_ (l := P.map shR) (Ev.var rfl) rfl h1) (Evs.seqX (Evs.retD rfl) (fun _ z => nomatch z)))
  case hh => rfl
theorem ne_z (a b : Int) : Cop.ne.f (.int a) (.int b) = some (.bool (a != b)) := rfl
def XE (s : List Sh) : List Eg := (EG s).filter fun e => ex s e != 0
def xR (s : List Sh) (e : Eg) : D := .tuple [tE e, .int (ex s e)]
theorem edge_excess_ok {s : List Sh} (h : Shs s) : sem13.f [shD s] = Rs.ok (.tuple ((XE s).map (xR s)), []) := by
  have hz := PySem.sizeLine_eq
  have hl := h.len
  have hel := EG_len s
  apply sem_rt (F := f_edge_excess) (e1 := [Sl.pd (shD s), .dic (tbl (EG s) (vI (ex s))), .no])
  case hh => rfl
  case h =>
    show Evs _ _ b_edge_excess [Sl.pd (shD s), .no, .no] _
    unfold b_edge_excess
    have hse : srtE (EG s) = EG s := srtE_EG (EG_nodup s) fun e => mem_EG
    have hso := dsort_tbl (ks := EG s) (v := vI (ex s)) (by omega)
    rw [hse] at hso
    have h1 := lcP (G := mkG gl L13) (elt := .tup (.cons (.var 2) (.cons (.didx 1 (.var 2)) .nil))) (cond := .cmp .ne (.didx 1 (.var 2)) (.ci 0)) (tg := .nm 2) (it := .dsort 1) (own := [("edge", 2)]) (env := [Sl.pd (shD s), .dic (tbl (EG s) (vI (ex s))), .no]) (EG s) tE (xR s) (fun e => ex s e != 0)
      (Ev.dsort rfl hso) rfl rfl (by omega) rfl rfl rfl fun e he => by
        have hd : Ev (mkG gl L13) (.didx 1 (.var 2)) [Sl.pd (shD s), .dic (tbl (EG s) (vI (ex s))), .pd (tE e)] (.int (ex s e)) [Sl.pd (shD s), .dic (tbl (EG s) (vI (ex s))), .pd (tE e)] := Ev.didx rfl (Ev.var rfl) (keyOf_e e) rfl ((look_tbl _ _ _).trans (if_pos he))
        exact ⟨[Sl.pd (shD s), .dic (tbl (EG s) (vI (ex s))), .pd (tE e)], rfl, Ev.cmp rfl hd Ev.ci (ne_z _ _), rfl, fun _ => Ev.tup (Ev.cons rfl (Ev.var rfl) (Ev.cons rfl hd Ev.nil)) (by show 2 ≤ _; omega)⟩
    exact Evs.seq (Evs.expr (Ev.call rfl (Ev.cons rfl (Ev.var rfl) Ev.nil) rfl (need_ok h))) (Evs.seq (Evs.setD (Ev.cons rfl (Ev.var rfl) Ev.nil) rfl rfl (excess_in_ok hl) rfl) (Evs.seqX (Evs.ret (Ev.bi (Ev.cons rfl h1 Ev.nil) rfl) rfl) (fun _ z => nomatch z)))
/-! ### .. by the law -/
theorem ex_off {e : Eg} : ∀ s : List Sh, e ∉ el s → ex s e = 0 := by
  refine snoc_ind' (by intro _; rfl) ?_
  intro s p ih h
  have h1 : e ∉ el s := fun z => by
    obtain ⟨q, hq, hh⟩ := mem_el.mp z
    exact h (mem_el.mpr ⟨q, by simp [hq], hh⟩)
  have h2 : e ≠ p.1 := fun z => h (mem_el.mpr ⟨p, by simp, .inl z⟩)
  have h3 : e ≠ p.2 := fun z => h (mem_el.mpr ⟨p, by simp, .inr z⟩)
  rw [ex_snoc]
  unfold exF bump
  rw [if_neg h3, if_neg h2]
  exact ih h1
theorem getD_tbl {ks : List Eg} {v : Eg → Int} (h : ∀ e, e ∉ ks → v e = 0) (e : Eg) : (lookD (tbl ks (vI v)) (keyE e)).getD (.int 0) = .int (v e) := by
  rw [look_tbl]
  by_cases he : e ∈ ks
  · rw [if_pos he]; rfl
  · rw [if_neg he, h e he]; rfl
def ik (s : List Sh) : List Eg := (el s).foldl ins []
theorem el_snoc (s : List Sh) (p : Sh) : el (s ++ [p]) = el s ++ [p.1, p.2] := by unfold el; rw [List.map_append, List.flatten_append]; simp
theorem ik_snoc (s : List Sh) (p : Sh) : ik (s ++ [p]) = ins (ins (ik s) p.1) p.2 := by unfold ik; rw [el_snoc, List.foldl_append]; rfl
theorem mem_ik {e : Eg} : ∀ s : List Sh, e ∈ ik s ↔ e ∈ el s := by
  refine snoc_ind' (by simp [ik, el]) ?_
  intro s p ih
  rw [ik_snoc, mem_ins, mem_ins, ih, el_snoc, List.mem_append]
  simp only [List.mem_cons, List.mem_nil_iff, or_false, or_assoc]
theorem nodup_ik : ∀ s : List Sh, (ik s).Nodup := by
  refine snoc_ind' List.nodup_nil ?_
  intro s p ih
  rw [ik_snoc]
  exact nodup_ins (nodup_ins ih)
theorem ik_len : ∀ s : List Sh, (ik s).length ≤ 2 * s.length := by
  refine snoc_ind' (Nat.zero_le _) ?_
  intro s p ih
  rw [ik_snoc, List.length_append]
  have h1 := ins_len (ik s) p.1
  have h2 := ins_len (ins (ik s) p.1) p.2
  show _ ≤ 2 * (s.length + 1)
  omega
theorem srt_ik (s : List Sh) : srtE (ik s) = EG s := srtE_EG (nodup_ik s) fun e => mem_ik s
theorem law_excess_ok {s : List Sh} (hl : s.length ≤ 30) : sem26.f [shD s] = Rs.ok (.dict (encD (tbl (ik s) (vI (ex s)))), []) := by
  have hz := PySem.sizeLine_eq
  obtain ⟨e, h1, h2⟩ := forGo_inv (asg := asgT (.tup (.cons (.nm 2) (.cons (.nm 3) .nil)))) (body := evS (mkG gl L26) true (.seq (.dput 1 (.var 2) (.bin .add (.dgetd 1 (.var 2) (.ci 0)) (.ci 1))) (.seq (.dput 1 (.var 3) (.bin .sub (.dgetd 1 (.var 3) (.ci 0)) (.ci 1))) .nil)))
    (fun xs env => ∃ P R s2 s3, xs = R.map shR ∧ P ++ R = s ∧ env = [Sl.pd (shD s), .dic (tbl (ik P) (vI (ex P))), s2, s3] ∧ Npd s2 ∧ Npd s3) (s.map shR) [Sl.pd (shD s), .dic [], .no, .no] ⟨[], s, .no, .no, rfl, rfl, rfl, .inl rfl, .inl rfl⟩
    (fun x xs env ⟨P, R, s2, s3, q1, q2, q3, q4, q5⟩ => by
      subst q3
      match R, q1, q2 with
      | [], q1, _ => cases q1
      | p :: R, q1, q2 =>
        cases q1
        have hPl : P.length ≤ 30 := by
          have := congrArg List.length q2
          rw [List.length_append] at this
          omega
        have hil := ik_len P
        have hil2 := ins_len (ik P) p.1
        have o1 : ∀ e, e ∉ ik P → ex P e = 0 := fun e he => ex_off P fun z => he ((mem_ik P).mpr z)
        have o2 : ∀ e, e ∉ ins (ik P) p.1 → bump (ex P) p.1 1 e = 0 := fun e he => by
          have h1 : e ∉ ik P := fun z => he (mem_ins.mpr (.inl z))
          have h2 : e ≠ p.1 := fun z => he (mem_ins.mpr (.inr z))
          unfold bump
          rw [if_neg h2]
          exact o1 e h1
        refine ⟨[Sl.pd (shD s), .dic (tbl (ik P) (vI (ex P))), .pd (tE p.1), .pd (tE p.2)], [Sl.pd (shD s), .dic (tbl (ik (P ++ [p])) (vI (ex (P ++ [p])))), .pd (tE p.1), .pd (tE p.2)], ?_, .inl ?_, P ++ [p], R, _, _, rfl, by rw [← q2, List.append_assoc]; rfl, rfl, Npd.pd, Npd.pd⟩
        · rcases q4 with rfl | ⟨d, rfl⟩ <;> rcases q5 with rfl | ⟨d, rfl⟩ <;> rfl
        · have g1 : Ev (mkG gl L26) (.dgetd 1 (.var 2) (.ci 0)) [Sl.pd (shD s), .dic (tbl (ik P) (vI (ex P))), .pd (tE p.1), .pd (tE p.2)] (.int (ex P p.1)) [Sl.pd (shD s), .dic (tbl (ik P) (vI (ex P))), .pd (tE p.1), .pd (tE p.2)] := by
            have := Ev.dgetd (G := mkG gl L26) (i := 1) (env := [Sl.pd (shD s), .dic (tbl (ik P) (vI (ex P))), .pd (tE p.1), .pd (tE p.2)]) rfl (Ev.var (i := 2) rfl) (Ev.ci (i := 0)) (keyOf_e p.1) rfl
            rwa [getD_tbl o1] at this
          have a1 := Evs.dput (fr := true) (i := 1) (Ev.bin (o := .add) rfl g1 (Ev.ci (i := 1)) rfl) rfl (Ev.var (i := 2) rfl) rfl (keyOf_e p.1) (by rw [tbl_len]; omega)
          rw [put_tbl] at a1
          have a1 : Evs (mkG gl L26) true (.dput 1 (.var 2) (.bin .add (.dgetd 1 (.var 2) (.ci 0)) (.ci 1))) [Sl.pd (shD s), .dic (tbl (ik P) (vI (ex P))), .pd (tE p.1), .pd (tE p.2)] (.nx [Sl.pd (shD s), .dic (tbl (ins (ik P) p.1) (updE (vI (ex P)) p.1 (.int (ex P p.1 + 1)))), .pd (tE p.1), .pd (tE p.2)]) := a1
          rw [upd_bump] at a1
          have g2 : Ev (mkG gl L26) (.dgetd 1 (.var 3) (.ci 0)) [Sl.pd (shD s), .dic (tbl (ins (ik P) p.1) (vI (bump (ex P) p.1 1))), .pd (tE p.1), .pd (tE p.2)] (.int (bump (ex P) p.1 1 p.2)) [Sl.pd (shD s), .dic (tbl (ins (ik P) p.1) (vI (bump (ex P) p.1 1))), .pd (tE p.1), .pd (tE p.2)] := by
            have := Ev.dgetd (G := mkG gl L26) (i := 1) (env := [Sl.pd (shD s), .dic (tbl (ins (ik P) p.1) (vI (bump (ex P) p.1 1))), .pd (tE p.1), .pd (tE p.2)]) rfl (Ev.var (i := 3) rfl) (Ev.ci (i := 0)) (keyOf_e p.2) rfl
            rwa [getD_tbl o2] at this
          have a2 := Evs.dput (fr := true) (i := 1) (Ev.bin (o := .sub) rfl g2 (Ev.ci (i := 1)) rfl) rfl (Ev.var (i := 3) rfl) rfl (keyOf_e p.2) (by rw [tbl_len]; omega)
          rw [put_tbl] at a2
          have a2 : Evs (mkG gl L26) true (.dput 1 (.var 3) (.bin .sub (.dgetd 1 (.var 3) (.ci 0)) (.ci 1))) [Sl.pd (shD s), .dic (tbl (ins (ik P) p.1) (vI (bump (ex P) p.1 1))), .pd (tE p.1), .pd (tE p.2)] (.nx [Sl.pd (shD s), .dic (tbl (ins (ins (ik P) p.1) p.2) (updE (vI (bump (ex P) p.1 1)) p.2 (.int (bump (ex P) p.1 1 p.2 + -1)))), .pd (tE p.1), .pd (tE p.2)]) := a2
          rw [upd_bump] at a2
          rw [ex_snoc, ik_snoc]
          exact Evs.ok (Evs.seq a1 (Evs.seq a2 Evs.nil)))
  obtain ⟨P, R, s2, s3, q1, q2, q3, q4, q5⟩ := h2
  have hR : R = [] := by cases R <;> first | rfl | cases q1
  subst hR q3
  rw [List.append_nil] at q2
  subst q2
  apply sem_rt (F := f_law_excess)
  case h =>
    show Evs _ _ b_law_excess [Sl.pd (shD P), .no, .no, .no] _
    unfold b_law_excess
    exact Evs.seq (Evs.dnew rfl) (Evs.seq (Evs.for_ (l := P.map shR) (Ev.var rfl) rfl h1) (Evs.seqX (Evs.retD rfl) (fun _ z => nomatch z)))
  case hh => rfl

open PySem.W (dataLe dataLt alike alikeAll)
/-! ### parts -/
theorem pop_at {G : Genv} {env : En} {i : Nat} {l : List D} {d : D} (h : heldAt env i = some (l ++ [d])) : Ev G (.pop i) env d (setHeld env i l) := by
  refine Ev.of ?_
  unfold ev
  rw [h]
  simp
theorem eqv_iN (k : Nat) : ∀ ns : List Nat, (ns.map iN).any (fun z => PyData.eqv z (iN k)) = ns.contains k
  | [] => rfl
  | y :: b => by
    rw [List.map_cons, List.any_cons, eqv_iN k b, List.contains_cons]
    congr 1
    show ((y : Int) == (k : Int)) = (k == y)
    rw [Bool.eq_iff_iff, beq_iff_eq, beq_iff_eq]; omega
theorem flt_iN (k : Nat) : Flt 0 (iN k) := ⟨rfl, Nat.le_refl _⟩
theorem flt_iNs (ns : List Nat) : ∀ x ∈ ns.map iN, Flt 0 x := fun x hx => by
  obtain ⟨y, _, rfl⟩ := List.mem_map.mp hx
  exact flt_iN y
theorem notin_i {k : Nat} {ns : List Nat} : Cop.notin.f (iN k) (.list (ns.map iN)) = some (.bool (!ns.contains k)) := by
  show notD (if SeqAt.shaped (iN k) && SeqAt.shaped (.list (ns.map iN)) then some (PyData.bool ((ns.map iN).any fun z => PyData.eqv z (iN k))) else none) = _
  rw [(flt_iN k).shaped (by omega), (Flt.lst (flt_iNs ns)).shaped (by omega), eqv_iN]; rfl
def shA (s : List Sh) (i : Nat) : Sh := s.getD i ([], [])
def hasE (p : Sh) (e : Eg) : Bool := p.1 == e || p.2 == e
def adj (s : List Sh) (i j : Nat) : Bool := hasE (shA s i) (shA s j).1 || hasE (shA s i) (shA s j).2
theorem adj_symm (s : List Sh) (i j : Nat) : adj s i j = adj s j i := by
  unfold adj hasE
  rw [Bool.eq_iff_iff]
  simp only [Bool.or_eq_true, beq_iff_eq]
  constructor <;> rintro ((h | h) | (h | h)) <;> simp [h]
theorem shA_of {s : List Sh} {i : Nat} (h : i < s.length) : s[i]? = some (shA s i) := by
  unfold shA
  rw [List.getElem?_eq_getElem h, List.getD_eq_getElem?_getD, List.getElem?_eq_getElem h]; rfl
theorem idx_n {s : List Sh} {i : Nat} (h : i < s.length) : idxD (shD s) (iN i) = some (shR (shA s i)) := by
  have h1 : (s.map shR)[i]? = some (shR (shA s i)) := by rw [List.getElem?_map, shA_of h]; rfl
  obtain ⟨h2, h3⟩ := List.getElem?_eq_some_iff.mp h1
  show L2.atI (s.map shR) (i : Int) = _
  rw [atI_nat' h2, h3]
theorem in_sh (e : Eg) (p : Sh) : Cop.isin.f (tE e) (shR p) = some (.bool (hasE p e)) := by
  show (if SeqAt.shaped (tE e) && SeqAt.shaped (shR p) then some (PyData.bool (PyData.eqv (tE p.1) (tE e) || (PyData.eqv (tE p.2) (tE e) || false))) else none) = _
  rw [(flt_e e).shaped (by omega), (flt_sh p).shaped (by omega), eqv_e, eqv_e, Bool.or_false]; rfl
abbrev EP (s : List Sh) (found : List D) (left part line : List Nat) (s5 s6 : Sl) : En := [Sl.pd (shD s), .pd (.list (left.map iN)), .own found, .pd (.list (part.map iN)), .own (line.map iN), s5, s6, .no, .no]
abbrev bI : S := .seq (.set false 5 (.idx (.peek 0) (.pop 4))) (.seq (.set false 6 (.lc (.var 7) (.nm 7) (.var 1) (.bi .any (.cons (.lc (.cmp .isin (.peek 8) (.peek 5)) (.nm 8) (.idx (.peek 0) (.var 7)) .nil [("edge", 8)]) .nil)) [("at", 7)])) (.seq (.set false 1 (.lc (.var 7) (.nm 7) (.var 1) (.cmp .notin (.peek 7) (.peek 6)) [("at", 7)])) (.seq (.par2 3 false (.bin .add (.peek 3) (.peek 6)) 4 true (.bin .add (.peek 4) (.peek 6))) .nil)))
theorem step_in {s : List Sh} {found : List D} {left part line : List Nat} {x : Nat} (hx : x < s.length) (hleft : ∀ i ∈ left, i < s.length) (hl1 : left.length ≤ 1000) (hl2 : part.length ≤ 1000) (hl3 : line.length ≤ 1000) {s5 s6 : Sl} (h5 : Npd s5) (h6 : Npd s6) :
    ∃ t5 t6, Npd t5 ∧ Npd t6 ∧ evS (mkG gl L7) false bI (EP s found left part (line ++ [x]) s5 s6) = .nx (EP s found (left.filter fun a => !adj s x a) (part ++ left.filter (adj s x)) (line ++ left.filter (adj s x)) t5 t6) := by
  have hz := PySem.sizeLine_eq
  have hfl : (left.filter (adj s x)).length ≤ 1000 := Nat.le_trans (List.length_filter_le _ _) hl1
  have e0 : (left.filter fun a => !(left.filter (adj s x)).contains a) = left.filter fun a => !adj s x a := List.filter_congr fun a ha => by
    congr 1
    rw [Bool.eq_iff_iff, List.contains_iff_mem, List.mem_filter]
    exact ⟨fun z => z.2, fun z => ⟨ha, z⟩⟩
  refine ⟨.pd (shR (shA s x)), .pd (.list ((left.filter (adj s x)).map iN)), Npd.pd, Npd.pd, ?_⟩
  have a1 : Evs (mkG gl L7) false (.set false 5 (.idx (.peek 0) (.pop 4))) (EP s found left part (line ++ [x]) s5 s6) (.nx (EP s found left part line (.pd (shR (shA s x))) s6)) := by
    have hp : Ev (mkG gl L7) (.pop 4) (EP s found left part (line ++ [x]) s5 s6) (iN x) (EP s found left part line s5 s6) := pop_at (show some ((line ++ [x]).map iN) = _ by rw [List.map_append]; rfl)
    exact Evs.set (Ev.idxP hp rfl rfl (idx_n hx)) (by rcases h5 with rfl | ⟨d, rfl⟩ <;> rfl)
  have h1 := lcP (G := mkG gl L7) (elt := .var 7) (cond := .bi .any (.cons (.lc (.cmp .isin (.peek 8) (.peek 5)) (.nm 8) (.idx (.peek 0) (.var 7)) .nil [("edge", 8)]) .nil)) (tg := .nm 7) (it := .var 1) (own := [("at", 7)]) (env := EP s found left part line (.pd (shR (shA s x))) s6)
    left iN iN (adj s x) (Ev.var rfl) rfl rfl (by omega) rfl rfl rfl fun a ha => by
      refine ⟨[Sl.pd (shD s), .pd (.list (left.map iN)), .own found, .pd (.list (part.map iN)), .own (line.map iN), .pd (shR (shA s x)), s6, .pd (iN a), .no], rfl, ?_, rfl, fun _ => Ev.var rfl⟩
      have hi := lcA (G := mkG gl L7) (elt := .cmp .isin (.peek 8) (.peek 5)) (tg := .nm 8) (it := .idx (.peek 0) (.var 7)) (own := [("edge", 8)]) (env := [Sl.pd (shD s), .pd (.list (left.map iN)), .own found, .pd (.list (part.map iN)), .own (line.map iN), .pd (shR (shA s x)), s6, .pd (iN a), .no])
        [(shA s a).1, (shA s a).2] tE (fun e => .bool (hasE (shA s x) e)) (Ev.idxP (Ev.var rfl) rfl rfl (idx_n (hleft a ha))) rfl rfl (by show 2 ≤ _; omega) rfl rfl fun e he =>
          ⟨[Sl.pd (shD s), .pd (.list (left.map iN)), .own found, .pd (.list (part.map iN)), .own (line.map iN), .pd (shR (shA s x)), s6, .pd (iN a), .pd (tE e)], rfl, rfl, Ev.cmpP (Ev.peek rfl) rfl rfl (in_sh e _)⟩
      have := Ev.bi (o := .any) (Ev.cons rfl hi Ev.nil) (any_map (fun e : Eg => hasE (shA s x) e) [(shA s a).1, (shA s a).2])
      simp only [List.any_cons, List.any_nil, Bool.or_false] at this
      exact this
  have h2 := lcP (G := mkG gl L7) (elt := .var 7) (cond := .cmp .notin (.peek 7) (.peek 6)) (tg := .nm 7) (it := .var 1) (own := [("at", 7)]) (env := EP s found left part line (.pd (shR (shA s x))) (.pd (.list ((left.filter (adj s x)).map iN))))
    left iN iN (fun a => !(left.filter (adj s x)).contains a) (Ev.var rfl) rfl rfl (by omega) rfl rfl rfl fun a ha =>
      ⟨[Sl.pd (shD s), .pd (.list (left.map iN)), .own found, .pd (.list (part.map iN)), .own (line.map iN), .pd (shR (shA s x)), .pd (.list ((left.filter (adj s x)).map iN)), .pd (iN a), .no], rfl, Ev.cmpP (Ev.peek rfl) rfl rfl notin_i, rfl, fun _ => Ev.var rfl⟩
  rw [e0] at h2
  refine Evs.ok (Evs.seq a1 (Evs.seq (Evs.set h1 (by rcases h6 with rfl | ⟨d, rfl⟩ <;> rfl)) (Evs.seq (Evs.set h2 rfl) (Evs.seq (Evs.par2 (Ev.binP (Ev.peek rfl) rfl rfl (add_lst (by rw [List.length_map, List.length_map]; omega))) (Ev.binP (Ev.peek rfl) rfl rfl (add_lst (by rw [List.length_map, List.length_map]; omega))) rfl ?_) Evs.nil))))
  rw [← List.map_append, ← List.map_append]; rfl
/-- closed under what is joined -/
def Clo (s : List Sh) (n : Nat) (P : Nat → Prop) : Prop := ∀ i j, i < n → j < n → P i → adj s i j = true → P j
structure InI (s : List Sh) (x0 : Nat) (l0 left part line : List Nat) : Prop where
  pm : (part ++ left).Perm (x0 :: l0)
  sb : left.Sublist l0
  ln : ∀ i ∈ line, i ∈ part
  ll : line.length ≤ part.length
  cl : ∀ i ∈ part, i ∉ line → ∀ j ∈ left, adj s i j = false
  cn : ∀ P, Clo s s.length P → P x0 → ∀ i ∈ part, P i
theorem inI_step {s : List Sh} {x0 : Nat} {l0 left part line : List Nat} {x : Nat} (hlt : ∀ i ∈ x0 :: l0, i < s.length) (h : InI s x0 l0 left part (line ++ [x])) : InI s x0 l0 (left.filter fun a => !adj s x a) (part ++ left.filter (adj s x)) (line ++ left.filter (adj s x)) := by
  have hxp : x ∈ part := h.ln x (by simp)
  have hin : ∀ i ∈ part ++ left, i < s.length := fun i hi => hlt i (h.pm.mem_iff.mp hi)
  refine ⟨?_, List.filter_sublist.trans h.sb, fun i hi => ?_, ?_, fun i hi hn j hj => ?_, fun P hP h0 i hi => ?_⟩
  · refine List.Perm.trans ?_ h.pm
    rw [List.append_assoc]
    refine List.Perm.append_left _ ?_
    have := List.filter_append_perm (adj s x) left
    exact this
  · rcases List.mem_append.mp hi with z | z
    · exact List.mem_append_left _ (h.ln i (List.mem_append_left _ z))
    · exact List.mem_append_right _ z
  · have := h.ll
    rw [List.length_append] at this
    rw [List.length_append, List.length_append]; omega
  · obtain ⟨hj1, hj2⟩ := List.mem_filter.mp hj
    rcases List.mem_append.mp hi with z | z
    · by_cases e : i = x
      · subst e; simpa using hj2
      · refine h.cl i z (fun w => ?_) j hj1
        rcases List.mem_append.mp w with w | w
        · exact hn (List.mem_append_left _ w)
        · exact e (by simpa using w)
    · exact absurd (List.mem_append_right _ z) hn
  · rcases List.mem_append.mp hi with z | z
    · exact h.cn P hP h0 i z
    · obtain ⟨z1, z2⟩ := List.mem_filter.mp z
      exact hP x i (hin x (List.mem_append_left _ hxp)) (hin i (List.mem_append_right _ z1)) (h.cn P hP h0 x hxp) z2
theorem loop_in {s : List Sh} {found : List D} {x0 : Nat} {l0 : List Nat} (hl : s.length ≤ 30) (hlt : ∀ i ∈ x0 :: l0, i < s.length) (hl0 : l0.length ≤ 100) : ∃ left part t5 t6, InI s x0 l0 left part [] ∧ Npd t5 ∧ Npd t6 ∧ ∀ s5 s6 : Sl, True → ∀ _ : Npd s5, ∀ _ : Npd s6,
    ∃ left part t5 t6, InI s x0 l0 left part [] ∧ Npd t5 ∧ Npd t6 ∧ whGo (ev (mkG gl L7) (.cmp .ne (.peek 4) (.lst (.nil)))) (evS (mkG gl L7) false bI) 1000000 (EP s found l0 [x0] [x0] s5 s6) = .nx (EP s found left part [] t5 t6) := by
  have main : ∀ s5 s6 : Sl, Npd s5 → Npd s6 → ∃ left part t5 t6, InI s x0 l0 left part [] ∧ Npd t5 ∧ Npd t6 ∧ whGo (ev (mkG gl L7) (.cmp .ne (.peek 4) (.lst (.nil)))) (evS (mkG gl L7) false bI) 1000000 (EP s found l0 [x0] [x0] s5 s6) = .nx (EP s found left part [] t5 t6) := by
    intro s5 s6 h5 h6
    have hz := PySem.sizeLine_eq
    obtain ⟨e, h1, left, part, t5, t6, h2, h3, h4, rfl⟩ := whGo_inv (cond := ev (mkG gl L7) (.cmp .ne (.peek 4) (.lst (.nil)))) (body := evS (mkG gl L7) false bI)
      (fun m env => ∃ left part line t5 t6, InI s x0 l0 left part line ∧ Npd t5 ∧ Npd t6 ∧ m = 2 * left.length + line.length ∧ env = EP s found left part line t5 t6)
      (fun env => ∃ left part t5 t6, InI s x0 l0 left part [] ∧ Npd t5 ∧ Npd t6 ∧ env = EP s found left part [] t5 t6)
      (fun m env ⟨left, part, line, t5, t6, k1, k2, k3, k4, k5⟩ => by
        subst k5
        have hpl : part.length + left.length = l0.length + 1 := by
          have := k1.pm.length_eq
          rw [List.length_append, List.length_cons] at this
          exact this
        have hll := k1.ll
        have hc := ne_nil (l := line.map iN) (flt_iNs line) (by omega : (0 : Nat) < 64)
        refine ⟨.bool (!(line.map iN).isEmpty), EP s found left part line t5 t6, !(line.map iN).isEmpty, Ev.ok (Ev.cmpP (Ev.lst Ev.nil (Nat.zero_le _)) rfl rfl hc), rfl, fun hk => ?_, fun hk => ?_⟩
        · have : line = [] := by
            cases line with
            | nil => rfl
            | cons a r => cases hk
          subst this
          exact ⟨left, part, t5, t6, k1, k2, k3, rfl⟩
        · have hne : line ≠ [] := fun z => by subst z; cases hk
          obtain ⟨line', x, rfl⟩ : ∃ l' x, line = l' ++ [x] := ⟨line.dropLast, line.getLast hne, (List.dropLast_concat_getLast hne).symm⟩
          have hxp : x ∈ part := k1.ln x (by simp)
          have hin : ∀ i ∈ part ++ left, i < s.length := fun i hi => hlt i (k1.pm.mem_iff.mp hi)
          rw [List.length_append] at hll
          obtain ⟨u5, u6, g5, g6, hb⟩ := step_in (s := s) (found := found) (left := left) (part := part) (line := line') (x := x) (hin x (List.mem_append_left _ hxp)) (fun i hi => hin i (List.mem_append_right _ hi)) (by omega) (by omega) (by omega) k2 k3
          have hsum := (List.filter_append_perm (adj s x) left).length_eq
          rw [List.length_append] at hsum
          exact ⟨_, 2 * (left.filter fun a => !adj s x a).length + (line' ++ left.filter (adj s x)).length, .inl hb, by rw [k4, List.length_append, List.length_append]; simp only [List.length_cons, List.length_nil]; omega, _, _, _, u5, u6, inI_step hlt k1, g5, g6, rfl, rfl⟩)
      1000000 (2 * l0.length + 1) _ (by omega) ⟨l0, [x0], [x0], s5, s6, ⟨List.Perm.refl _, List.Sublist.refl _, fun i hi => hi, Nat.le_refl _, fun i hi hn => absurd hi hn, fun P _ h0 i hi => by
        rw [List.mem_singleton] at hi; rw [hi]; exact h0⟩, h5, h6, rfl, rfl⟩
    exact ⟨left, part, t5, t6, h2, h3, h4, h1⟩
  obtain ⟨left, part, t5, t6, a1, a2, a3, _⟩ := main .no .no (.inl rfl) (.inl rfl)
  exact ⟨left, part, t5, t6, a1, a2, a3, fun s5 s6 _ h5 h6 => main s5 s6 h5 h6⟩

open PySem.W (dataLe dataLt alike alikeAll dataLt_int dataLt_tuple dataLt_all_no)
/-! ### numbers in order -/
def unN : D → Nat := fun d => match d with
  | .int i => i.toNat
  | _ => 0
def srtN (l : List Nat) : List Nat := (srt (l.map iN)).map unN
theorem srt_srtN (l : List Nat) : srt (l.map iN) = (srtN l).map iN := by
  unfold srtN
  rw [List.map_map]
  conv => lhs; rw [← List.map_id (srt (l.map iN))]
  refine List.map_congr_left fun d hd => ?_
  obtain ⟨t, _, rfl⟩ := List.mem_map.mp ((srt_perm _).mem_iff.mp hd)
  show iN t = iN (Int.toNat (t : Int))
  rw [Int.toNat_natCast]
theorem srtN_perm (l : List Nat) : (srtN l).Perm l := by
  have := (srt_perm (l.map iN)).map unN
  rw [List.map_map] at this
  have e2 : l.map (unN ∘ iN) = l := by
    conv => rhs; rw [← List.map_id l]
    exact List.map_congr_left fun t _ => Int.toNat_natCast t
  rw [e2] at this
  exact this
theorem srtN_le (l : List Nat) : (srtN l).Pairwise (· ≤ ·) := by
  have := srt_pw (l.map iN)
  rw [srt_srtN, List.pairwise_map] at this
  refine this.imp fun {a b} h => ?_
  unfold iN at h
  rw [dataLt_int, decide_eq_false_iff_not] at h
  omega
theorem srtN_asc {l : List Nat} (h : l.Nodup) : (srtN l).Pairwise (· < ·) := by
  have h1 : (srtN l).Nodup := (srtN_perm l).nodup_iff.mpr h
  exact (List.Pairwise.and (srtN_le l) h1).imp fun {a b} ⟨h1, h2⟩ => Nat.lt_of_le_of_ne h1 h2
theorem sort_ns {l : List Nat} (hl : l.length ≤ 1000) : Bi.sorted.f [.list (l.map iN)] = some (.list ((srtN l).map iN)) := by
  have hz := PySem.sizeLine_eq
  rw [← srt_srtN]
  refine sortD_of (fun d hd e he => ?_) ?_ (by rw [List.length_map]; omega) fun d hd => ?_
  · obtain ⟨x, _, rfl⟩ := List.mem_map.mp hd
    obtain ⟨y, _, rfl⟩ := List.mem_map.mp he
    simp [alike, iN]
  · rw [Bool.or_eq_true]
    refine .inr (List.all_eq_true.mpr fun d hd => ?_)
    obtain ⟨x, _, rfl⟩ := List.mem_map.mp hd
    rfl
  · obtain ⟨x, _, rfl⟩ := List.mem_map.mp hd
    exact Nat.zero_le _
/-! ### what parts are -/
structure Pt (s : List Sh) (n : Nat) (p : List Nat) : Prop where
  asc : p.Pairwise (· < ·)
  ne : p ≠ []
  cl : ∀ i ∈ p, ∀ j, j < n → adj s i j = true → j ∈ p
  cn : ∀ P, Clo s n P → ∀ i ∈ p, ∀ j ∈ p, P i → P j
theorem Clo.iff {s : List Sh} {n : Nat} {P : Nat → Prop} (h : Clo s n P) {i j : Nat} (hi : i < n) (hj : j < n) (ha : adj s i j = true) : P i ↔ P j := ⟨fun z => h i j hi hj z ha, fun z => h j i hj hi z (by rw [adj_symm]; exact ha)⟩
theorem asc_head {p : List Nat} {x : Nat} (h : p.Pairwise (· < ·)) (hx : x ∈ p) (hm : ∀ i ∈ p, x ≤ i) : p.headD 0 = x := by
  cases p with
  | nil => cases hx
  | cons a r =>
    show a = x
    have h1 := hm a List.mem_cons_self
    rcases List.mem_cons.mp hx with z | z
    · exact z.symm
    · have := (List.pairwise_cons.mp h).1 x z
      omega
structure Out (s : List Sh) (left : List Nat) (F : List (List Nat)) : Prop where
  pm : (F.flatten ++ left).Perm (List.range s.length)
  sb : left.Sublist (List.range s.length)
  pt : ∀ p ∈ F, Pt s s.length p
  hd : F.Pairwise fun p q => p.headD 0 < q.headD 0
  hl : ∀ p ∈ F, ∀ j ∈ left, p.headD 0 < j
theorem rng_asc (n : Nat) : (List.range n).Pairwise (· < ·) := List.pairwise_lt_range
theorem out_step {s : List Sh} {x0 : Nat} {l0 left part : List Nat} {F : List (List Nat)} (h : Out s (x0 :: l0) F) (g : InI s x0 l0 left part []) : Out s left (F ++ [srtN part]) := by
  have hasc : (x0 :: l0).Pairwise (· < ·) := List.Pairwise.sublist h.sb (rng_asc _)
  have hnd : (F.flatten ++ (x0 :: l0)).Nodup := h.pm.nodup_iff.mpr (List.nodup_range)
  have hlt : ∀ i ∈ x0 :: l0, i < s.length := fun i hi => List.mem_range.mp (h.sb.subset hi)
  have hpn : (part ++ left).Nodup := g.pm.nodup_iff.mpr (List.nodup_append.mp hnd).2.1
  have hx0l : x0 ∉ l0 := fun z => Nat.lt_irrefl _ ((List.pairwise_cons.mp hasc).1 x0 z)
  have hx0 : x0 ∈ part := by
    rcases List.mem_append.mp (g.pm.mem_iff.mpr List.mem_cons_self) with z | z
    · exact z
    · exact absurd (g.sb.subset z) hx0l
  have hpu : ∀ i ∈ part, i ∈ x0 :: l0 := fun i hi => g.pm.mem_iff.mp (List.mem_append_left _ hi)
  have hmin : ∀ i ∈ srtN part, x0 ≤ i := fun i hi => by
    rcases List.mem_cons.mp (hpu i ((srtN_perm _).mem_iff.mp hi)) with z | z
    · omega
    · exact Nat.le_of_lt ((List.pairwise_cons.mp hasc).1 i z)
  have hpasc := srtN_asc (List.nodup_append.mp hpn).1
  have hhead : (srtN part).headD 0 = x0 := asc_head hpasc ((srtN_perm _).mem_iff.mpr hx0) hmin
  have hsl : left.Sublist (x0 :: l0) := g.sb.trans (List.sublist_cons_self _ _)
  have hp : Pt s s.length (srtN part) := by
    refine ⟨hpasc, fun z => ?_, fun i hi j hj ha => ?_, fun P hP i hi j hj hh => ?_⟩
    · have : x0 ∈ srtN part := (srtN_perm _).mem_iff.mpr hx0
      rw [z] at this; cases this
    · have hi := (srtN_perm _).mem_iff.mp hi
      rw [(srtN_perm _).mem_iff]
      rcases List.mem_append.mp (h.pm.mem_iff.mpr (List.mem_range.mpr hj)) with z | z
      · obtain ⟨q, hq, hjq⟩ := List.mem_flatten.mp z
        have hiq := (h.pt q hq).cl j hjq i (hlt i (hpu i hi)) (by rw [adj_symm]; exact ha)
        exact absurd rfl ((List.nodup_append.mp hnd).2.2 i (List.mem_flatten.mpr ⟨q, hq, hiq⟩) i (hpu i hi))
      · rcases List.mem_append.mp (g.pm.mem_iff.mpr z) with z | z
        · exact z
        · rw [g.cl i hi (by simp) j z] at ha; cases ha
    · have hi := (srtN_perm _).mem_iff.mp hi
      have hj := (srtN_perm _).mem_iff.mp hj
      have hQ : Clo s s.length fun k => P k ↔ P x0 := fun a b h1 h2 h3 h4 => (hP.iff h1 h2 h4).symm.trans h3
      have c := g.cn _ hQ Iff.rfl
      exact (c j hj).mpr ((c i hi).mp hh)
  refine ⟨?_, hsl.trans h.sb, fun p hq => ?_, ?_, fun p hq j hj => ?_⟩
  · rw [List.flatten_append, List.append_assoc]
    refine List.Perm.trans (List.Perm.append_left _ ?_) h.pm
    rw [List.flatten_cons, List.flatten_nil, List.append_nil]
    exact ((srtN_perm part).append_right left).trans g.pm
  · rcases List.mem_append.mp hq with z | z
    · exact h.pt p z
    · rw [List.mem_singleton] at z; subst z; exact hp
  · refine List.pairwise_append.mpr ⟨h.hd, List.pairwise_singleton _ _, fun a ha b hb => ?_⟩
    rw [List.mem_singleton] at hb
    subst hb
    rw [hhead]
    exact h.hl a ha x0 List.mem_cons_self
  · rcases List.mem_append.mp hq with z | z
    · exact h.hl p z j (hsl.subset hj)
    · rw [List.mem_singleton] at z
      subst z
      rw [hhead]
      exact (List.pairwise_cons.mp hasc).1 j (g.sb.subset hj)
def lN (p : List Nat) : D := .list (p.map iN)
def tN (p : List Nat) : D := .tuple (p.map iN)
abbrev EO (s : List Sh) (left : List Nat) (F : List (List Nat)) (s3 s4 s5 s6 : Sl) : En := [Sl.pd (shD s), .pd (.list (left.map iN)), .own (F.map lN), s3, s4, s5, s6, .no, .no]
abbrev bO : S := .seq (.par2 3 false (.lst (.cons (.idx (.peek 1) (.ci 0)) .nil)) 4 true (.lst (.cons (.idx (.peek 1) (.ci 0)) .nil))) (.seq (.set false 1 (.sl (.peek 1) (.ci 1) .nil)) (.seq (.while_ 1000000 (.cmp .ne (.peek 4) (.lst (.nil))) bI) (.seq (.app 2 (.bi .sorted (.cons (.peek 3) .nil))) .nil)))
structure PartsOk (s : List Sh) (L : List (List Nat)) : Prop where
  pm : L.flatten.Perm (List.range s.length)
  pt : ∀ p ∈ L, Pt s s.length p
theorem out_len {s : List Sh} {left : List Nat} {F : List (List Nat)} (h : Out s left F) : left.length ≤ s.length := by
  have := h.sb.length_le
  rwa [List.length_range] at this
theorem flat_len : ∀ {F : List (List Nat)}, (∀ p ∈ F, p ≠ []) → F.length ≤ F.flatten.length
  | [], _ => Nat.le_refl _
  | p :: F, h => by
    have ih := flat_len (F := F) fun q hq => h q (List.mem_cons_of_mem _ hq)
    have : p.length ≠ 0 := fun z => h p List.mem_cons_self (List.length_eq_zero_iff.mp z)
    rw [List.flatten_cons, List.length_append, List.length_cons]; omega
theorem out_flen {s : List Sh} {left : List Nat} {F : List (List Nat)} (h : Out s left F) : F.length ≤ s.length := by
  have h1 := flat_len fun p hp => (h.pt p hp).ne
  have h2 := h.pm.length_eq
  rw [List.length_append, List.length_range] at h2
  omega
theorem loop_out {s : List Sh} (hl : s.length ≤ 30) : ∃ F s3 s4 s5 s6, Out s [] F ∧ whGo (ev (mkG gl L7) (.cmp .ne (.peek 1) (.lst (.nil)))) (evS (mkG gl L7) false bO) 1000000 (EO s (List.range s.length) [] .no .no .no .no) = .nx (EO s [] F s3 s4 s5 s6) := by
  have hz := PySem.sizeLine_eq
  obtain ⟨e, h1, F, s3, s4, s5, s6, h2, rfl⟩ := whGo_inv (cond := ev (mkG gl L7) (.cmp .ne (.peek 1) (.lst (.nil)))) (body := evS (mkG gl L7) false bO)
    (fun m env => ∃ left F s3 s4 s5 s6, Out s left F ∧ Fre s3 ∧ Fre s4 ∧ Npd s5 ∧ Npd s6 ∧ m = left.length ∧ env = EO s left F s3 s4 s5 s6)
    (fun env => ∃ F s3 s4 s5 s6, Out s [] F ∧ env = EO s [] F s3 s4 s5 s6)
    (fun m env ⟨left, F, s3, s4, s5, s6, k1, k2, k3, k4, k5, k6, k7⟩ => by
      subst k7
      have hll := out_len k1
      have hfl := out_flen k1
      have hc := ne_nil (l := left.map iN) (flt_iNs left) (by omega : (0 : Nat) < 64)
      refine ⟨.bool (!(left.map iN).isEmpty), EO s left F s3 s4 s5 s6, !(left.map iN).isEmpty, Ev.ok (Ev.cmpP (Ev.lst Ev.nil (Nat.zero_le _)) rfl rfl hc), rfl, fun hk => ?_, fun hk => ?_⟩
      · have : left = [] := by
          cases left with
          | nil => rfl
          | cons a r => cases hk
        subst this
        exact ⟨F, s3, s4, s5, s6, k1, rfl⟩
      · cases left with
        | nil => cases hk
        | cons x0 l0 =>
        have hl0 : l0.length ≤ 100 := by rw [List.length_cons] at hll; omega
        obtain ⟨_, _, _, _, _, _, _, run⟩ := loop_in (s := s) (found := F.map lN) (x0 := x0) (l0 := l0) hl (fun i hi => List.mem_range.mp (k1.sb.subset hi)) hl0
        obtain ⟨left', part, t5, t6, g1, g2, g3, g4⟩ := run s5 s6 trivial k4 k5
        have k8 := out_step k1 g1
        have hpl : part.length ≤ 1000 := by
          have := g1.pm.length_eq
          rw [List.length_append, List.length_cons] at this
          omega
        have hi0 : ∀ {env : En}, peekAt env 1 = some (.list ((x0 :: l0).map iN)) → Ev (mkG gl L7) (.lst (.cons (.idx (.peek 1) (.ci 0)) .nil)) env (.list ([x0].map iN)) env := fun {env} hh =>
          Ev.lst (Ev.cons rfl (Ev.idxP Ev.ci (by rw [hh]; rfl) hh (show idxD (.list ((x0 :: l0).map iN)) (.int 0) = some (iN x0) from by
            show L2.atI (iN x0 :: l0.map iN) 0 = _
            unfold L2.atI L2.ixN
            rw [if_pos (by omega), if_pos (by rw [List.length_cons]; omega)]; rfl)) Ev.nil) (by show 1 ≤ _; omega)
        have hb : evS (mkG gl L7) false bO (EO s (x0 :: l0) F s3 s4 s5 s6) = .nx (EO s left' (F ++ [srtN part]) (.pd (.list (part.map iN))) (.own []) t5 t6) := by
          have hsl : slD (.list ((x0 :: l0).map iN)) (some 1) none = some (.list (l0.map iN)) := by
            show some (PyData.list (cutD ((x0 :: l0).map iN) (some 1) none)) = _
            rw [cut1]; rfl
          refine Evs.ok (Evs.seq (Evs.par2 (e3 := [Sl.pd (shD s), .pd (.list ((x0 :: l0).map iN)), .own (F.map lN), .pd (.list ([x0].map iN)), s4, s5, s6, .no, .no]) (e4 := [Sl.pd (shD s), .pd (.list ((x0 :: l0).map iN)), .own (F.map lN), .pd (.list ([x0].map iN)), .own ([x0].map iN), s5, s6, .no, .no]) (hi0 rfl) (hi0 rfl) (by cases s3 <;> first | rfl | exact absurd rfl (k2 _)) (by cases s4 <;> first | rfl | exact absurd rfl (k3 _)))
            (Evs.seq (Evs.set (Ev.slP rfl (Evp.some rfl Ev.ci) Evp.nil rfl hsl) rfl) (Evs.seq (Evs.while_ g4) (Evs.seq ?_ Evs.nil))))
          have ha := Evs.app (G := mkG gl L7) (fr := false) (i := 2) (env := EP s (F.map lN) left' part [] t5 t6) rfl (Ev.bi (Ev.consP (i := 3) Ev.nil rfl rfl) (sort_ns hpl)) rfl (by rw [List.length_map]; omega)
          have e9 : F.map lN ++ [PyData.list ((srtN part).map iN)] = (F ++ [srtN part]).map lN := by rw [List.map_append]; rfl
          rw [e9] at ha
          exact ha
        exact ⟨_, left'.length, .inl hb, by rw [k6, List.length_cons]; have := g1.sb.length_le; omega, left', _, _, _, t5, t6, k8, Fre.pd, (show Fre (Sl.own []) from fun _ z => nomatch z), g2, g3, rfl, rfl⟩)
    1000000 s.length _ (by omega) ⟨List.range s.length, [], .no, .no, .no, .no, ⟨List.Perm.refl _, List.Sublist.refl _, fun p hp => (nomatch hp), List.Pairwise.nil, fun p hp => (nomatch hp)⟩, Fre.no, Fre.no, .inl rfl, .inl rfl, by rw [List.length_range], rfl⟩
  exact ⟨F, s3, s4, s5, s6, h2, h1⟩
theorem parts_in_ok {s : List Sh} (hl : s.length ≤ 30) : ∃ L : List (List Nat), Out s [] L ∧ sem7.f [shD s] = Rs.ok (.list (L.map lN), []) := by
  obtain ⟨F, s3, s4, s5, s6, h1, h2⟩ := loop_out hl
  refine ⟨F, h1, ?_⟩
  have hr : rngD 0 (s.length : Int) = (List.range s.length).map iN := by
    unfold rngD
    rw [Int.sub_zero, Int.toNat_natCast]
    exact List.map_congr_left fun k _ => by rw [Int.zero_add]; rfl
  apply sem_rt (F := f_parts_in)
  case h =>
    show Evs _ _ b_parts_in [Sl.pd (shD s), .no, .no, .no, .no, .no, .no, .no, .no] _
    unfold b_parts_in
    have h3 : Ev (mkG gl L7) (.lrng ((.bi .len (.cons (.peek 0) .nil)))) [Sl.pd (shD s), .no, .no, .no, .no, .no, .no, .no, .no] (.list ((List.range s.length).map iN)) [Sl.pd (shD s), .no, .no, .no, .no, .no, .no, .no, .no] := by
      rw [← hr]
      exact Ev.lrng (Ev.bi (Ev.consP Ev.nil rfl rfl) (len_sh s)) (by rw [rng_nat (by omega), decide_eq_true (by omega)]; rfl)
    exact Evs.seq (Evs.par2 h3 (Ev.lst Ev.nil (Nat.zero_le _)) rfl rfl) (Evs.seq (Evs.while_ h2) (Evs.seqX (Evs.ret (Ev.varO rfl) rfl) (fun _ z => nomatch z)))
  case hh => rfl
theorem shard_parts_ok {s : List Sh} (h : Shs s) : ∃ L : List (List Nat), Out s [] L ∧ sem12.f [shD s] = Rs.ok (.tuple (L.map tN), []) := by
  have hz := PySem.sizeLine_eq
  obtain ⟨L, h1, h2⟩ := parts_in_ok h.len
  refine ⟨L, h1, ?_⟩
  have hfl := out_flen h1
  have hl := h.len
  apply sem_rt (F := f_shard_parts) (e1 := [Sl.pd (shD s), .no])
  case hh => rfl
  case h =>
    show Evs _ _ b_shard_parts [Sl.pd (shD s), .no] _
    unfold b_shard_parts
    have h3 := lcA (G := mkG gl L12) (elt := .bi .tuple (.cons (.peek 1) .nil)) (tg := .nm 1) (it := .call 7 (.cons (.var 0) .nil)) (own := [("part", 1)]) (env := [Sl.pd (shD s), .no]) L lN tN (Ev.call rfl (Ev.cons rfl (Ev.var rfl) Ev.nil) rfl h2) rfl rfl (by omega) rfl rfl fun p hp =>
      ⟨[Sl.pd (shD s), .pd (lN p)], rfl, rfl, Ev.bi (Ev.consP Ev.nil rfl rfl) rfl⟩
    exact Evs.seq (Evs.expr (Ev.call rfl (Ev.cons rfl (Ev.var rfl) Ev.nil) rfl (need_ok h))) (Evs.seqX (Evs.ret (Ev.bi (Ev.cons rfl h3 Ev.nil) rfl) rfl) (fun _ z => nomatch z))

open PySem.W (dataLe dataLt alike alikeAll dataLt_int dataLt_tuple dataLt_all_no)
/-! ### parts by the law -/
theorem eqv_all_n : ∀ a b : List Nat, PyData.eqvAll (a.map iN) (b.map iN) = (a == b)
  | [], [] => rfl
  | [], _ :: _ => rfl
  | _ :: _, [] => rfl
  | x :: a, y :: b => by
    show (((x : Int) == (y : Int)) && PyData.eqvAll (a.map iN) (b.map iN)) = _
    rw [eqv_all_n a b, List.cons_beq_cons]
    congr 1
    rw [Bool.eq_iff_iff, beq_iff_eq, beq_iff_eq]; omega
theorem flt_tN (p : List Nat) : Flt 1 (tN p) := Flt.tup (flt_iNs p)
theorem any_tN (p : List Nat) : ∀ J : List (List Nat), (J.map tN).any (fun z => PyData.eqv z (tN p)) = J.contains p
  | [] => rfl
  | y :: b => by
    rw [List.map_cons, List.any_cons, any_tN p b, List.contains_cons]
    congr 1
    show PyData.eqvAll (y.map iN) (p.map iN) = (p == y)
    rw [eqv_all_n, Bool.eq_iff_iff, beq_iff_eq, beq_iff_eq]; exact eq_comm
theorem flt_tNs (J : List (List Nat)) : ∀ x ∈ J.map tN, Flt 1 x := fun x hx => by
  obtain ⟨p, _, rfl⟩ := List.mem_map.mp hx
  exact flt_tN p
theorem notin_p {p : List Nat} {J : List (List Nat)} : Cop.notin.f (tN p) (.list (J.map tN)) = some (.bool (!J.contains p)) := by
  show notD (if SeqAt.shaped (tN p) && SeqAt.shaped (.list (J.map tN)) then some (PyData.bool ((J.map tN).any fun z => PyData.eqv z (tN p))) else none) = _
  rw [(flt_tN p).shaped (by omega), (Flt.lst (flt_tNs J)).shaped (by omega), any_tN]; rfl
def hasA (s : List Sh) (k : Nat) (p : List Nat) : Bool := p.any (adj s k)
structure Lw (s : List Sh) (k : Nat) (F : List (List Nat)) : Prop where
  pm : F.flatten.Perm (List.range k)
  pt : ∀ p ∈ F, Pt s k p
def stepL (s : List Sh) (k : Nat) (F : List (List Nat)) : List (List Nat) := (F.filter fun p => !hasA s k p) ++ [srtN (k :: (F.filter (hasA s k)).flatten)]
theorem perm_flatten {l m : List (List Nat)} (h : l.Perm m) : l.flatten.Perm m.flatten := by
  induction h with
  | nil => exact List.Perm.refl _
  | cons x _ ih => rw [List.flatten_cons, List.flatten_cons]; exact ih.append_left x
  | swap x y l =>
    rw [List.flatten_cons, List.flatten_cons, List.flatten_cons, List.flatten_cons, ← List.append_assoc, ← List.append_assoc]
    exact List.perm_append_comm.append_right _
  | trans _ _ ih1 ih2 => exact ih1.trans ih2
theorem lw_step {s : List Sh} {k : Nat} {F : List (List Nat)} (h : Lw s k F) : Lw s (k + 1) (stepL s k F) := by
  have hf : ((F.filter (hasA s k)).flatten ++ (F.filter fun p => !hasA s k p).flatten).Perm F.flatten := by
    rw [← List.flatten_append]
    exact perm_flatten (List.filter_append_perm (hasA s k) F)
  have hW : (k :: (F.filter (hasA s k)).flatten ++ (F.filter fun p => !hasA s k p).flatten).Perm (List.range (k + 1)) := by
    rw [List.range_succ, List.cons_append]
    exact ((hf.trans h.pm).cons k).trans (List.perm_append_singleton k (List.range k)).symm
  have hnd : (k :: (F.filter (hasA s k)).flatten).Nodup := (List.nodup_append.mp (hW.nodup_iff.mpr List.nodup_range)).1
  have hin : ∀ j, j < k → ∃ p ∈ F, j ∈ p := fun j hj => List.mem_flatten.mp (h.pm.mem_iff.mpr (List.mem_range.mpr hj))
  have hlt : ∀ p ∈ F, ∀ j ∈ p, j < k := fun p hp j hj => List.mem_range.mp (h.pm.mem_iff.mp (List.mem_flatten.mpr ⟨p, hp, hj⟩))
  have mW : ∀ i, i ∈ srtN (k :: (F.filter (hasA s k)).flatten) ↔ i = k ∨ ∃ p ∈ F, hasA s k p = true ∧ i ∈ p := fun i => by
    rw [(srtN_perm _).mem_iff, List.mem_cons, List.mem_flatten]
    refine or_congr Iff.rfl ⟨fun ⟨p, hp, hi⟩ => ⟨p, (List.mem_filter.mp hp).1, (List.mem_filter.mp hp).2, hi⟩, fun ⟨p, hp, ha, hi⟩ => ⟨p, List.mem_filter.mpr ⟨hp, ha⟩, hi⟩⟩
  have mono : ∀ {P : Nat → Prop}, Clo s (k + 1) P → Clo s k P := fun {P} hP i j h1 h2 => hP i j (by omega) (by omega)
  refine ⟨?_, fun p hp => ?_⟩
  · unfold stepL
    rw [List.flatten_append, List.flatten_cons, List.flatten_nil, List.append_nil]
    exact ((List.Perm.append_left _ (srtN_perm _)).trans List.perm_append_comm).trans hW
  · rcases List.mem_append.mp hp with hp | hp
    · obtain ⟨hpF, hna⟩ := List.mem_filter.mp hp
      have hna : hasA s k p = false := by simpa using hna
      have q := h.pt p hpF
      refine ⟨q.asc, q.ne, fun i hi j hj ha => ?_, fun P hP => q.cn P (mono hP)⟩
      rcases Nat.lt_succ_iff_lt_or_eq.mp hj with z | z
      · exact q.cl i hi j z ha
      · subst z
        have : hasA s j p = true := List.any_eq_true.mpr ⟨i, hi, by rw [adj_symm]; exact ha⟩
        rw [this] at hna; cases hna
    · rw [List.mem_singleton] at hp
      subst hp
      refine ⟨srtN_asc hnd, fun z => ?_, fun i hi j hj ha => ?_, fun P hP i hi j hj hh => ?_⟩
      · have := (mW k).mpr (.inl rfl)
        rw [z] at this; cases this
      · rw [mW]
        rcases Nat.lt_succ_iff_lt_or_eq.mp hj with z | z
        · rcases (mW i).mp hi with e | ⟨p, hp, hap, hip⟩
          · subst e
            obtain ⟨p, hp, hjp⟩ := hin j z
            exact .inr ⟨p, hp, List.any_eq_true.mpr ⟨j, hjp, ha⟩, hjp⟩
          · exact .inr ⟨p, hp, hap, (h.pt p hp).cl i hip j z ha⟩
        · exact .inl z
      · have key : ∀ i ∈ srtN (k :: (F.filter (hasA s k)).flatten), P i ↔ P k := fun i hi => by
          rcases (mW i).mp hi with e | ⟨p, hp, hap, hip⟩
          · rw [e]
          · obtain ⟨o, ho, hao⟩ := List.any_eq_true.mp hap
            have h1 : P k ↔ P o := hP.iff (by omega) (by have := hlt p hp o ho; omega) hao
            have h2 := (h.pt p hp).cn P (mono hP)
            rw [h1]
            exact ⟨h2 i hip o ho, h2 o ho i hip⟩
        exact (key j hj).mpr ((key i hi).mp hh)
theorem lw_flen {s : List Sh} {k : Nat} {F : List (List Nat)} (h : Lw s k F) : F.length ≤ k := by
  have h1 := flat_len fun p hp => (h.pt p hp).ne
  have h2 := h.pm.length_eq
  rw [List.length_range] at h2
  omega
theorem lw_plen {s : List Sh} {k : Nat} {F : List (List Nat)} (h : Lw s k F) {p : List Nat} (hp : p ∈ F) : p.length ≤ k := by
  have h1 := (h.pt p hp).asc
  have h2 := h.pm.length_eq
  rw [List.length_range] at h2
  have : p.length ≤ F.flatten.length := by
    obtain ⟨a, b, rfl⟩ := List.append_of_mem hp
    rw [List.flatten_append, List.flatten_cons, List.length_append, List.length_append]; omega
  omega
abbrev EQ (s : List Sh) (F : List (List Nat)) (s2 s3 s4 s5 s6 : Sl) : En := [Sl.pd (shD s), .pd (.list (F.map tN)), s2, s3, s4, s5, s6, .no]
abbrev bJ : S := .seq (.set false 5 (.bin .add (.peek 5) (.bi .list (.cons (.peek 6) .nil)))) .nil
theorem loop_j {s : List Sh} {F : List (List Nat)} {s2 s3 s4 : Sl} : ∀ (xs : List (List Nat)) (acc : List Nat) (s6 : Sl), Npd s6 → acc.length + xs.flatten.length ≤ 1000 →
    ∃ t6, Npd t6 ∧ forGo (asgT (.nm 6)) (evS (mkG gl L25) false bJ) (xs.map tN) (EQ s F s2 s3 s4 (.pd (.list (acc.map iN))) s6) = .nx (EQ s F s2 s3 s4 (.pd (.list ((acc ++ xs.flatten).map iN))) t6)
  | [], acc, s6, h, _ => ⟨s6, h, by rw [List.flatten_nil, List.append_nil]; rfl⟩
  | p :: xs, acc, s6, h, hn => by
    have hz := PySem.sizeLine_eq
    rw [List.flatten_cons, List.length_append] at hn
    obtain ⟨t6, h6, e⟩ := loop_j xs (acc ++ p) (.pd (tN p)) Npd.pd (by rw [List.length_append]; omega)
    refine ⟨t6, h6, ?_⟩
    have hb : evS (mkG gl L25) false bJ (EQ s F s2 s3 s4 (.pd (.list (acc.map iN))) (.pd (tN p))) = .nx (EQ s F s2 s3 s4 (.pd (.list ((acc ++ p).map iN))) (.pd (tN p))) := by
      rw [List.map_append]
      exact Evs.ok (Evs.seq (Evs.set (Ev.binP (Ev.bi (Ev.consP Ev.nil rfl rfl) rfl) rfl rfl (add_lst (by rw [List.length_map, List.length_map]; omega))) rfl) Evs.nil)
    rw [List.map_cons, forGo_nx (e1 := EQ s F s2 s3 s4 (.pd (.list (acc.map iN))) (.pd (tN p))) (by rcases h with rfl | ⟨d, rfl⟩ <;> rfl) hb, e, List.flatten_cons, List.append_assoc]
abbrev bL : S := .seq (.set false 4 (.lc (.var 6) (.nm 6) (.var 1) (.cmp .ne (.lc (.ci 1) (.nm 7) (.var 6) (.or_ (.cmp .isin (.idx (.idx (.peek 0) (.var 7)) (.ci 0)) (.peek 3)) (.one (.cmp .isin (.idx (.idx (.peek 0) (.var 7)) (.ci 1)) (.peek 3)))) [("other", 7)]) (.lst (.nil))) [("part", 6)])) (.seq (.set false 5 (.lst (.cons (.var 2) .nil))) (.seq (.for_ (.nm 6) (.var 4) bJ) (.seq (.set false 1 (.bin .add (.lc (.var 6) (.nm 6) (.var 1) (.cmp .notin (.peek 6) (.peek 4)) [("part", 6)]) (.lst (.cons (.bi .tuple (.cons (.bi .sorted (.cons (.peek 5) .nil)) .nil)) .nil)))) .nil)))
theorem body_l {s : List Sh} (hl : s.length ≤ 30) {k : Nat} (hk : k < s.length) {F : List (List Nat)} (h : Lw s k F) {s4 s5 s6 : Sl} (h4 : Npd s4) (h5 : Npd s5) (h6 : Npd s6) :
    ∃ t4 t5 t6, Npd t4 ∧ Npd t5 ∧ Npd t6 ∧ evS (mkG gl L25) false bL (EQ s F (.pd (iN k)) (.pd (shR (shA s k))) s4 s5 s6) = .nx (EQ s (stepL s k F) (.pd (iN k)) (.pd (shR (shA s k))) t4 t5 t6) := by
  have hz := PySem.sizeLine_eq
  have hfl := lw_flen h
  have hlt : ∀ p ∈ F, ∀ j ∈ p, j < s.length := fun p hp j hj => Nat.lt_trans (List.mem_range.mp (h.pm.mem_iff.mp (List.mem_flatten.mpr ⟨p, hp, hj⟩))) hk
  have hJl : (F.filter (hasA s k)).flatten.length ≤ k := by
    have h1 : ((F.filter (hasA s k)).flatten ++ (F.filter fun p => !hasA s k p).flatten).Perm F.flatten := by
      rw [← List.flatten_append]
      exact perm_flatten (List.filter_append_perm (hasA s k) F)
    have h1 := h1.length_eq
    have h2 := h.pm.length_eq
    rw [List.length_range] at h2
    rw [List.length_append] at h1
    omega
  have h1 := lcP (G := mkG gl L25) (elt := .var 6) (cond := .cmp .ne (.lc (.ci 1) (.nm 7) (.var 6) (.or_ (.cmp .isin (.idx (.idx (.peek 0) (.var 7)) (.ci 0)) (.peek 3)) (.one (.cmp .isin (.idx (.idx (.peek 0) (.var 7)) (.ci 1)) (.peek 3)))) [("other", 7)]) (.lst (.nil))) (tg := .nm 6) (it := .var 1) (own := [("part", 6)]) (env := EQ s F (.pd (iN k)) (.pd (shR (shA s k))) s4 s5 s6)
    F tN tN (hasA s k) (Ev.var rfl) rfl (by rcases h6 with rfl | ⟨d, rfl⟩ <;> rfl) (by omega) rfl rfl rfl fun p hp => by
      refine ⟨EQ s F (.pd (iN k)) (.pd (shR (shA s k))) s4 s5 (.pd (tN p)), rfl, ?_, rfl, fun _ => Ev.var rfl⟩
      have hpl := lw_plen h hp
      have hi := lcP (G := mkG gl L25) (elt := .ci 1) (cond := .or_ (.cmp .isin (.idx (.idx (.peek 0) (.var 7)) (.ci 0)) (.peek 3)) (.one (.cmp .isin (.idx (.idx (.peek 0) (.var 7)) (.ci 1)) (.peek 3)))) (tg := .nm 7) (it := .var 6) (own := [("other", 7)]) (env := EQ s F (.pd (iN k)) (.pd (shR (shA s k))) s4 s5 (.pd (tN p)))
        p iN (fun _ => .int 1) (adj s k) (Ev.var rfl) rfl rfl (by omega) rfl rfl rfl fun o ho =>
          ⟨[Sl.pd (shD s), .pd (.list (F.map tN)), .pd (iN k), .pd (shR (shA s k)), s4, s5, .pd (tN p), .pd (iN o)], rfl,
            Ev.orb (Ev.cmp rfl (Ev.idx rfl (Ev.idxP (Ev.var rfl) rfl rfl (idx_n (hlt p hp o ho))) Ev.ci rfl) (Ev.peek rfl) (in_sh _ _)) fun _ => Ev.one (Ev.cmp rfl (Ev.idx rfl (Ev.idxP (Ev.var rfl) rfl rfl (idx_n (hlt p hp o ho))) Ev.ci rfl) (Ev.peek rfl) (in_sh _ _)), rfl, fun _ => Ev.ci⟩
      have hne := ne_nil (n := 0) (l := (p.filter (adj s k)).map fun _ => PyData.int 1) (fun x hx => by
        obtain ⟨y, _, rfl⟩ := List.mem_map.mp hx
        exact flt_i 1) (by omega)
      have e : (!((p.filter (adj s k)).map fun _ => PyData.int 1).isEmpty) = hasA s k p := by
        unfold hasA
        rw [Bool.eq_iff_iff, Bool.not_eq_true', List.isEmpty_eq_false_iff, List.any_eq_true]
        constructor
        · intro z
          cases hf : p.filter (adj s k) with
          | nil => rw [hf] at z; exact absurd rfl z
          | cons a r =>
            have := List.mem_filter.mp (show a ∈ p.filter (adj s k) by rw [hf]; simp)
            exact ⟨a, this.1, this.2⟩
        · rintro ⟨a, ha, hh⟩ z
          rw [List.map_eq_nil_iff] at z
          have : a ∈ p.filter (adj s k) := List.mem_filter.mpr ⟨ha, hh⟩
          rw [z] at this; cases this
      rw [e] at hne
      exact Ev.cmp rfl hi (Ev.lst Ev.nil (Nat.zero_le _)) hne
  obtain ⟨t6, g6, hj⟩ := loop_j (s := s) (F := F) (s2 := .pd (iN k)) (s3 := .pd (shR (shA s k))) (s4 := .pd (.list ((F.filter (hasA s k)).map tN))) (F.filter (hasA s k)) [k] s6 h6 (by show 1 + _ ≤ _; omega)
  have h3 := lcP (G := mkG gl L25) (elt := .var 6) (cond := .cmp .notin (.peek 6) (.peek 4)) (tg := .nm 6) (it := .var 1) (own := [("part", 6)]) (env := EQ s F (.pd (iN k)) (.pd (shR (shA s k))) (.pd (.list ((F.filter (hasA s k)).map tN))) (.pd (.list (([k] ++ (F.filter (hasA s k)).flatten).map iN))) t6)
    F tN tN (fun p => !(F.filter (hasA s k)).contains p) (Ev.var rfl) rfl (by rcases g6 with rfl | ⟨d, rfl⟩ <;> rfl) (by omega) rfl rfl rfl fun p hp =>
      ⟨EQ s F (.pd (iN k)) (.pd (shR (shA s k))) (.pd (.list ((F.filter (hasA s k)).map tN))) (.pd (.list (([k] ++ (F.filter (hasA s k)).flatten).map iN))) (.pd (tN p)), rfl, Ev.cmpP (Ev.peek rfl) rfl rfl notin_p, rfl, fun _ => Ev.var rfl⟩
  have e0 : (F.filter fun p => !(F.filter (hasA s k)).contains p) = F.filter fun p => !hasA s k p := List.filter_congr fun a ha => by
    congr 1
    rw [Bool.eq_iff_iff, List.contains_iff_mem, List.mem_filter]
    exact ⟨fun z => z.2, fun z => ⟨ha, z⟩⟩
  rw [e0] at h3
  refine ⟨.pd (.list ((F.filter (hasA s k)).map tN)), .pd (.list (([k] ++ (F.filter (hasA s k)).flatten).map iN)), t6, Npd.pd, Npd.pd, g6, Evs.ok (Evs.seq (Evs.set h1 (e2 := EQ s F (.pd (iN k)) (.pd (shR (shA s k))) (.pd (.list ((F.filter (hasA s k)).map tN))) s5 s6) (by rcases h4 with rfl | ⟨d, rfl⟩ <;> rfl)) (Evs.seq (Evs.set (Ev.lst (Ev.cons rfl (Ev.var rfl) Ev.nil) (by show 1 ≤ _; omega)) (e2 := EQ s F (.pd (iN k)) (.pd (shR (shA s k))) (.pd (.list ((F.filter (hasA s k)).map tN))) (.pd (.list ([k].map iN))) s6) (by rcases h5 with rfl | ⟨d, rfl⟩ <;> rfl))
    (Evs.seq (Evs.for_ (l := (F.filter (hasA s k)).map tN) (Ev.var rfl) rfl hj) (Evs.seq (Evs.set (Ev.bin rfl h3 (Ev.lst (Ev.cons rfl (Ev.bi (Ev.cons rfl (Ev.bi (Ev.consP Ev.nil rfl rfl) (sort_ns (by show ((F.filter (hasA s k)).flatten.length + 1) ≤ _; omega))) Ev.nil) rfl) Ev.nil) (by show 1 ≤ _; omega)) (add_lst (by
      rw [List.length_map]
      have := List.length_filter_le (fun p => !hasA s k p) F
      show _ + 1 ≤ _
      omega))) ?_) Evs.nil))))⟩
  show setS _ 1 (.pd (.list (((F.filter fun p => !hasA s k p).map tN) ++ [tN (srtN ([k] ++ (F.filter (hasA s k)).flatten))]))) = _
  have e9 : (((F.filter fun p => !hasA s k p).map tN) ++ [tN (srtN ([k] ++ (F.filter (hasA s k)).flatten))]) = (stepL s k F).map tN := by unfold stepL; rw [List.map_append]; rfl
  rw [e9]; rfl
theorem enA_drop {s : List Sh} {k : Nat} (hk : k < s.length) : (enA s).drop k = (k, shA s k) :: (enA s).drop (k + 1) := by
  have hl : k < (enA s).length := by rw [enA_len]; exact hk
  rw [List.drop_eq_getElem_cons hl]
  congr 1
  have h1 := mem_enA (List.getElem_mem hl)
  have h2 : ((enA s)[k]).1 = k := by
    have : (enA s)[k] = ((List.range s.length)[k]'(by rw [List.length_range]; exact hk), s[k]) := List.getElem_zip
    rw [this, List.getElem_range]
  rw [h2, shA_of hk] at h1
  exact Prod.ext h2 (Option.some.inj h1).symm
theorem loop_l {s : List Sh} (hl : s.length ≤ 30) : ∀ (m k : Nat) (F : List (List Nat)) (s2 s3 s4 s5 s6 : Sl), k + m = s.length → Lw s k F → Npd s2 → Npd s3 → Npd s4 → Npd s5 → Npd s6 →
    ∃ F' t2 t3 t4 t5 t6, Lw s s.length F' ∧ forGo (asgT (.tup (.cons (.nm 2) (.cons (.nm 3) .nil)))) (evS (mkG gl L25) false bL) (((enA s).drop k).map fun p => PyData.tuple [iN p.1, shR p.2]) (EQ s F s2 s3 s4 s5 s6) = .nx (EQ s F' t2 t3 t4 t5 t6)
  | 0, k, F, s2, s3, s4, s5, s6, hk, h, _, _, _, _, _ => by
    have : k = s.length := by omega
    subst this
    refine ⟨F, s2, s3, s4, s5, s6, h, ?_⟩
    rw [List.drop_eq_nil_of_le (by rw [enA_len]; exact Nat.le_refl _)]; rfl
  | m + 1, k, F, s2, s3, s4, s5, s6, hk, h, h2, h3, h4, h5, h6 => by
    have hks : k < s.length := by omega
    obtain ⟨t4, t5, t6, g4, g5, g6, hb⟩ := body_l hl hks h h4 h5 h6
    obtain ⟨F', u2, u3, u4, u5, u6, hF, e⟩ := loop_l hl m (k + 1) (stepL s k F) (.pd (iN k)) (.pd (shR (shA s k))) t4 t5 t6 (by omega) (lw_step h) Npd.pd Npd.pd g4 g5 g6
    refine ⟨F', u2, u3, u4, u5, u6, hF, ?_⟩
    rw [enA_drop hks, List.map_cons, forGo_nx (e1 := EQ s F (.pd (iN k)) (.pd (shR (shA s k))) s4 s5 s6) (by rcases h2 with rfl | ⟨d, rfl⟩ <;> rcases h3 with rfl | ⟨d, rfl⟩ <;> rfl) hb, e]
/-! ### both name the same parts -/
theorem asc_ext {p q : List Nat} (hp : p.Pairwise (· < ·)) (hq : q.Pairwise (· < ·)) (h : ∀ i, i ∈ p ↔ i ∈ q) : p = q := by
  have np : p.Nodup := hp.imp fun {a b} z => Nat.ne_of_lt z
  have nq : q.Nodup := hq.imp fun {a b} z => Nat.ne_of_lt z
  exact pw_unique (R := (· ≤ ·)) (fun a b h1 h2 => Nat.le_antisymm h1 h2) ((List.perm_ext_iff_of_nodup np nq).mpr h) (hp.imp Nat.le_of_lt) (hq.imp Nat.le_of_lt) fun a _ => Nat.le_refl a
theorem uniq_mem {s : List Sh} {L M : List (List Nat)} (hL : Lw s s.length L) (hM : Lw s s.length M) {p : List Nat} (hp : p ∈ L) : p ∈ M := by
  have q := hL.pt p hp
  obtain ⟨i, hi⟩ : ∃ i, i ∈ p := by
    have := q.ne
    cases p with
    | nil => exact absurd rfl this
    | cons a r => exact ⟨a, List.mem_cons_self⟩
  have hin : i ∈ List.range s.length := hL.pm.mem_iff.mp (List.mem_flatten.mpr ⟨p, hp, hi⟩)
  obtain ⟨r, hr, hir⟩ := List.mem_flatten.mp (hM.pm.mem_iff.mpr hin)
  have q2 := hM.pt r hr
  have h1 := q.cn (· ∈ r) (fun a b ha hb h1 h2 => q2.cl a h1 b hb h2) i hi
  have h2 := q2.cn (· ∈ p) (fun a b ha hb h1 h2 => q.cl a h1 b hb h2) i hir
  have : p = r := asc_ext q.asc q2.asc fun j => ⟨fun hj => h1 j hj hir, fun hj => h2 j hj hi⟩
  rw [this]; exact hr
theorem lw_nodup : ∀ {F : List (List Nat)}, F.flatten.Nodup → (∀ p ∈ F, p ≠ []) → F.Nodup
  | [], _, _ => List.nodup_nil
  | p :: F, h, hne => by
    rw [List.flatten_cons, List.nodup_append] at h
    refine List.nodup_cons.mpr ⟨fun z => ?_, lw_nodup h.2.1 fun q hq => hne q (List.mem_cons_of_mem _ hq)⟩
    cases hp : p with
    | nil => exact hne p List.mem_cons_self hp
    | cons a r => exact h.2.2 a (by rw [hp]; simp) a (List.mem_flatten.mpr ⟨p, z, by rw [hp]; simp⟩) rfl
theorem out_lw {s : List Sh} {L : List (List Nat)} (h : Out s [] L) : Lw s s.length L := ⟨by have := h.pm; rwa [List.append_nil] at this, h.pt⟩
theorem lw_perm {s : List Sh} {L M : List (List Nat)} (hL : Lw s s.length L) (hM : Lw s s.length M) : M.Perm L :=
  (List.perm_ext_iff_of_nodup (lw_nodup (hM.pm.nodup_iff.mpr List.nodup_range) fun p hp => (hM.pt p hp).ne) (lw_nodup (hL.pm.nodup_iff.mpr List.nodup_range) fun p hp => (hL.pt p hp).ne)).mpr fun p => ⟨uniq_mem hM hL, uniq_mem hL hM⟩
def toE (p : List Nat) : Eg := p.map fun k : Nat => (k : Int)
theorem tN_toE (p : List Nat) : tN p = tE (toE p) := by
  unfold tN tE toE
  rw [List.map_map]; rfl
theorem le_heads {p q : List Nat} (hp : p ≠ []) (hq : q ≠ []) (h : p.headD 0 < q.headD 0) : LeP (tN p) (tN q) := by
  cases p with
  | nil => exact absurd rfl hp
  | cons x xs =>
    cases q with
    | nil => exact absurd rfl hq
    | cons y ys =>
      have h : x < y := h
      show dataLt (.tuple (iN y :: ys.map iN)) (.tuple (iN x :: xs.map iN)) = false
      have h0 : PyData.eqv (iN y) (iN x) = false := show ((y : Int) == (x : Int)) = false from beq_eq_false_iff_ne.mpr (by omega)
      have h9 : alike (iN y) (iN x) = true := by rfl
      rw [dataLt_tuple, dataLt_all_no (by first | exact h9 | exact h0) (by first | exact h0 | exact h9)]
      unfold iN
      rw [dataLt_int, decide_eq_false_iff_not]; omega
theorem law_parts_ok {s : List Sh} (hl : s.length ≤ 30) {L : List (List Nat)} (hL : Out s [] L) : sem25.f [shD s] = Rs.ok (.list (L.map tN), []) := by
  have hz := PySem.sizeLine_eq
  obtain ⟨M, t2, t3, t4, t5, t6, hM, e⟩ := loop_l hl s.length 0 [] .no .no .no .no .no (by omega) ⟨List.Perm.refl _, fun p hp => (nomatch hp)⟩ (.inl rfl) (.inl rfl) (.inl rfl) (.inl rfl) (.inl rfl)
  have hfl := lw_flen hM
  have hso : Bi.sorted.f [.list (M.map tN)] = some (.list (L.map tN)) := by
    have e1 : ∀ F : List (List Nat), F.map tN = (F.map toE).map tE := fun F => by
      rw [List.map_map]
      exact List.map_congr_left fun p _ => tN_toE p
    rw [e1 M]
    show (if sortOk ((M.map toE).map tE) then some (PyData.list (srt ((M.map toE).map tE))) else none) = _
    rw [if_pos (sortOk_e (by rw [List.length_map]; omega)), srt_srtE, srtE_eq ((lw_perm (out_lw hL) hM).map toE), ← srt_srtE, ← e1 L, srt_of]
    rw [List.pairwise_map]
    exact List.Pairwise.imp_of_mem (fun {p q} hp hq h => le_heads (hL.pt p hp).ne (hL.pt q hq).ne h) hL.hd
  apply sem_rt (F := f_law_parts)
  case h =>
    show Evs _ _ b_law_parts [Sl.pd (shD s), .no, .no, .no, .no, .no, .no, .no] _
    unfold b_law_parts
    exact Evs.seq (Evs.set (Ev.lst Ev.nil (Nat.zero_le _)) rfl) (Evs.seq (Evs.for_ (l := ((enA s).drop 0).map fun p : Nat × Sh => PyData.tuple [iN p.1, shR p.2]) (Ev.enum (l := s.map shR) (Ev.var rfl) rfl) (show itemsOf (.list (List.zipWith (fun (k : Nat) e => PyData.tuple [.int (k : Int), e]) (List.range (s.map shR).length) (s.map shR))) = some (((enA s).drop 0).map fun p : Nat × Sh => PyData.tuple [iN p.1, shR p.2]) from congrArg some (enum_enA shR s)) e)
      (Evs.seqX (Evs.ret (Ev.bi (Ev.consP Ev.nil rfl rfl) hso) rfl) (fun _ z => nomatch z)))
  case hh => rfl

open PySem.W (dataLe dataLt alike alikeAll)
/-! ### shards drawn -/
theorem lcQ {G : Genv} {elt it : E} {tg : Tg} {own : List (Str × Nat)} {env e3 : En} {d : D} {l : List D} (P : En → Prop) (R : D → Prop)
    (h : Ev G it env d e3) (hl : itemsOf d = some l) (hn : noHeld e3 (own.map (·.2)) = true) (hz : l.length ≤ sizeLine) (h0 : P (wipeE e3 (own.map (·.2))))
    (hs : ∀ x ∈ l, ∀ e, P e → ∃ e1 y e2, asgT tg x e = some e1 ∧ Ev G elt e1 y e2 ∧ R y ∧ P (wipeE e2 (own.map (·.2)))) :
    ∃ out e, out.length = l.length ∧ (∀ y ∈ out, R y) ∧ P e ∧ Ev G (.lc elt tg it .nil own) env (.list out) (restE e e3 (own.map (·.2))) := by
  obtain ⟨out, e, h1, h2⟩ := cgo_inv (asg := asgT tg) (cond := condF (isNil .nil) (ev G .nil)) (elt := ev G elt) (vs := own.map (·.2))
    (fun xs acc e => (∀ x ∈ xs, x ∈ l) ∧ acc.length + xs.length = l.length ∧ (∀ y ∈ acc, R y) ∧ P e) l [] (wipeE e3 (own.map (·.2))) ⟨fun _ h => h, by simp, fun _ h => (nomatch h), h0⟩
    (fun x xs acc e ⟨k1, k2, k3, k4⟩ => by
      obtain ⟨e1, y, e2, g1, g2, g3, g4⟩ := hs x (k1 x List.mem_cons_self) e k4
      refine ⟨e1, .bool true, e1, true, g1, rfl, rfl, (fun z => nomatch z), fun _ => ⟨y, e2, Ev.ok g2, fun x hx => k1 x (List.mem_cons_of_mem _ hx), ?_, fun z hz => ?_, g4⟩⟩
      · rw [List.length_append]; rw [List.length_cons] at k2; show acc.length + 1 + _ = _; omega
      · rcases List.mem_append.mp hz with hz | hz
        · exact k3 z hz
        · rw [List.mem_singleton] at hz; subst hz; exact g3)
  exact ⟨out, e, by have := h2.2.1; simpa using this, h2.2.2.1, h2.2.2.2, Ev.lc h hl (by rw [hn, decide_eq_true hz]; rfl) h1 rfl⟩
def SmE (e : Eg) : Prop := 1 ≤ e.length ∧ e.length ≤ 3 ∧ ∀ i ∈ e, 1 ≤ i ∧ i ≤ 3
def SmS (s : List Sh) : Prop := ∀ p ∈ s, SmE p.1 ∧ SmE p.2
theorem ints_of {P : Int → Prop} : ∀ {l : List D}, (∀ x ∈ l, ∃ i : Int, x = .int i ∧ P i) → ∃ e : Eg, l = e.map .int ∧ ∀ i ∈ e, P i
  | [], _ => ⟨[], rfl, fun _ h => nomatch h⟩
  | x :: l, h => by
    obtain ⟨i, rfl, hi⟩ := h x List.mem_cons_self
    obtain ⟨e, rfl, he⟩ := ints_of (fun x hx => h x (List.mem_cons_of_mem _ hx))
    exact ⟨i :: e, rfl, fun j hj => by rcases List.mem_cons.mp hj with rfl | hj <;> first | exact hi | exact he j hj⟩
theorem shs_of {P : Sh → Prop} : ∀ {l : List D}, (∀ x ∈ l, ∃ p : Sh, x = shR p ∧ P p) → ∃ s : List Sh, l = s.map shR ∧ ∀ p ∈ s, P p
  | [], _ => ⟨[], rfl, fun _ h => nomatch h⟩
  | x :: l, h => by
    obtain ⟨i, rfl, hi⟩ := h x List.mem_cons_self
    obtain ⟨e, rfl, he⟩ := shs_of (fun x hx => h x (List.mem_cons_of_mem _ hx))
    exact ⟨i :: e, rfl, fun j hj => by rcases List.mem_cons.mp hj with rfl | hj <;> first | exact hi | exact he j hj⟩
theorem one_plus (r : Nat) : Bop.add.f (.int 1) (.int (r : Int)) = some (.int ((1 + r : Nat) : Int)) := by
  show some (PyData.int ((1 : Int) + (r : Int))) = _
  congr 2
theorem edge_sm {e : Eg} (h : SmE e) : edgeB (tE e) = true := by
  show ((decide (1 ≤ (e.map PyData.int).length) && decide ((e.map PyData.int).length ≤ 6)) && (e.map PyData.int).all (wholeB 1 20)) = true
  rw [List.length_map, decide_eq_true h.1, decide_eq_true (show e.length ≤ 6 from Nat.le_trans h.2.1 (by omega))]
  refine List.all_eq_true.mpr fun x hx => ?_
  obtain ⟨i, hi, rfl⟩ := List.mem_map.mp hx
  have := h.2.2 i hi
  show (decide ((1 : Int) ≤ i) && decide (i ≤ 20)) = true
  rw [decide_eq_true this.1, decide_eq_true (show i ≤ 20 by omega)]; rfl
theorem pick_e {c : List D} (hc : Cup c) {m e s3 s4 : Sl} : ∃ (t : Eg) (c' : List D), SmE t ∧ Cup c' ∧
    Ev (mkG gl L24) (.bi .tuple (.cons (.lc (.bin .add (.ci 1) (.callm 16 0 (.cons (.ci 3) .nil))) (.nm 5) (.rng1 (.bin .add (.ci 1) (.callm 16 0 (.cons (.ci 3) .nil)))) .nil [("turn", 5)]) .nil)) [Sl.bor c, m, e, s3, s4, .no] (tE t) [Sl.bor c', m, e, s3, s4, .no] := by
  have hz := PySem.sizeLine_eq
  obtain ⟨r, c1, hr, hc1, he⟩ := roll_ok hc (n := 3) (by decide) (by decide)
  have hi : Ev (mkG gl L24) (.rng1 (.bin .add (.ci 1) (.callm 16 0 (.cons (.ci 3) .nil)))) [Sl.bor c, m, e, s3, s4, .no] (.list (rngD 0 ((1 + r : Nat) : Int))) [Sl.bor c1, m, e, s3, s4, .no] :=
    Ev.rng1 (Ev.bin rfl Ev.ci (Ev.callm rfl rfl (Ev.cons rfl Ev.ci Ev.nil) rfl rfl he) (one_plus r)) (rng_nat (by omega))
  have hrl : (rngD 0 ((1 + r : Nat) : Int)).length = 1 + r := by
    unfold rngD
    rw [List.length_map, List.length_range, Int.sub_zero, Int.toNat_natCast]
  obtain ⟨out, e1, k1, k2, k3, k4⟩ := lcQ (G := mkG gl L24) (elt := .bin .add (.ci 1) (.callm 16 0 (.cons (.ci 3) .nil))) (tg := .nm 5) (own := [("turn", 5)]) (fun z => ∃ c, Cup c ∧ z = [Sl.bor c, m, e, s3, s4, .no]) (fun d => ∃ i : Int, d = .int i ∧ 1 ≤ i ∧ i ≤ 3)
    hi rfl rfl (by omega) ⟨c1, hc1, rfl⟩ (fun x hx z ⟨c, hc, hz⟩ => by
      subst hz
      obtain ⟨r, c1, hr, hc1, he⟩ := roll_ok hc (n := 3) (by decide) (by decide)
      exact ⟨[Sl.bor c, m, e, s3, s4, .pd x], .int ((1 + r : Nat) : Int), [Sl.bor c1, m, e, s3, s4, .pd x], rfl, Ev.bin rfl Ev.ci (Ev.callm rfl rfl (Ev.cons rfl Ev.ci Ev.nil) rfl rfl he) (one_plus r), ⟨_, rfl, by omega, by omega⟩, c1, hc1, rfl⟩)
  obtain ⟨c', hc', rfl⟩ := k3
  obtain ⟨t, rfl, ht⟩ := ints_of k2
  rw [List.length_map] at k1
  exact ⟨t, c', ⟨by omega, by omega, ht⟩, hc', Ev.bi (Ev.cons rfl k4 Ev.nil) rfl⟩
theorem law_shards_ok {c : List D} (hc : Cup c) {many edges : Nat} (hm : many ≤ 30) (h0 : 1 ≤ edges) (h1 : edges ≤ 30) : ∃ (s : List Sh) (c' : List D), Shs s ∧ SmS s ∧ Cup c' ∧ sem24.f [.list c, .int (many : Int), .int (edges : Int)] = Rs.ok (shD s, c') := by
  have hz := PySem.sizeLine_eq
  have hrl : (rngD 0 (edges : Int)).length = edges := by
    unfold rngD
    rw [List.length_map, List.length_range, Int.sub_zero, Int.toNat_natCast]
  obtain ⟨out, e1, k1, k2, k3, k4⟩ := lcQ (G := mkG gl L24) (elt := (.bi .tuple (.cons (.lc (.bin .add (.ci 1) (.callm 16 0 (.cons (.ci 3) .nil))) (.nm 5) (.rng1 (.bin .add (.ci 1) (.callm 16 0 (.cons (.ci 3) .nil)))) .nil [("turn", 5)]) .nil))) (tg := .nm 4) (own := [("edge", 4)]) (fun z => ∃ c, Cup c ∧ z = [Sl.bor c, .pd (.int (many : Int)), .pd (.int (edges : Int)), .no, .no, .no]) (fun d => ∃ t : Eg, d = tE t ∧ SmE t)
    (Ev.rng1 (Ev.var (i := 2) (env := [Sl.bor c, .pd (.int (many : Int)), .pd (.int (edges : Int)), .no, .no, .no]) rfl) (rng_nat (by omega))) rfl rfl (by omega) ⟨c, hc, rfl⟩ (fun x hx z ⟨c, hc, hz⟩ => by
      subst hz
      obtain ⟨t, c', ht, hc', he⟩ := pick_e hc (m := .pd (.int (many : Int))) (e := .pd (.int (edges : Int))) (s3 := .no) (s4 := .pd x)
      exact ⟨_, tE t, _, rfl, he, ⟨t, rfl, ht⟩, c', hc', rfl⟩)
  obtain ⟨c1, hc1, rfl⟩ := k3
  obtain ⟨r, c2, hr, hc2, he2⟩ := roll_ok hc1 (n := many + 1) (by omega) (by omega)
  have hr2 : (rngD 0 (r : Int)).length = r := by
    unfold rngD
    rw [List.length_map, List.length_range, Int.sub_zero, Int.toNat_natCast]
  obtain ⟨o2, e2, j1, j2, j3, j4⟩ := lcQ (G := mkG gl L24) (elt := .tup (.cons (.callm 17 0 (.cons (.var 3) .nil)) (.cons (.callm 17 0 (.cons (.var 3) .nil)) .nil))) (tg := .nm 5) (own := [("turn", 5)]) (it := .rng1 (.callm 16 0 (.cons (.bin .add (.peek 1) (.ci 1)) .nil))) (env := [Sl.bor c1, .pd (.int (many : Int)), .pd (.int (edges : Int)), .pd (.list out), .no, .no]) (fun z => ∃ c, Cup c ∧ z = [Sl.bor c, .pd (.int (many : Int)), .pd (.int (edges : Int)), .pd (.list out), .no, .no]) (fun d => ∃ p : Sh, d = shR p ∧ SmE p.1 ∧ SmE p.2)
    (Ev.rng1 (Ev.callm rfl rfl (Ev.cons rfl (Ev.binP Ev.ci rfl rfl rfl) Ev.nil) rfl rfl he2) (rng_nat (by omega))) rfl rfl (by omega) ⟨c2, hc2, rfl⟩ (fun x hx z ⟨c, hc, hz⟩ => by
      subst hz
      obtain ⟨d1, c1, hd1, hc1, he1⟩ := some_ok hc (l := out) (by omega) (by omega)
      obtain ⟨d2, c2, hd2, hc2, he2⟩ := some_ok hc1 (l := out) (by omega) (by omega)
      obtain ⟨t1, rfl, ht1⟩ := k2 d1 hd1
      obtain ⟨t2, rfl, ht2⟩ := k2 d2 hd2
      exact ⟨[Sl.bor c, .pd (.int (many : Int)), .pd (.int (edges : Int)), .pd (.list out), .no, .pd x], shR (t1, t2), [Sl.bor c2, .pd (.int (many : Int)), .pd (.int (edges : Int)), .pd (.list out), .no, .pd x], rfl, Ev.tup (Ev.cons rfl (Ev.callm rfl rfl (Ev.cons rfl (Ev.var rfl) Ev.nil) rfl rfl he1) (Ev.cons rfl (Ev.callm rfl rfl (Ev.cons rfl (Ev.var rfl) Ev.nil) rfl rfl he2) Ev.nil)) (by show 2 ≤ _; omega), ⟨_, rfl, ht1, ht2⟩, c2, hc2, rfl⟩)
  obtain ⟨c3, hc3, rfl⟩ := j3
  obtain ⟨A, rfl, hA⟩ := shs_of j2
  rw [List.length_map] at j1
  obtain ⟨B, hB, eB⟩ := perm_shs (srt_perm (A.map shR))
  have hso : Bi.sorted.f [.list (A.map shR)] = some (.list (B.map shR)) := by
    show (if sortOk (A.map shR) then some (PyData.list (srt (A.map shR))) else none) = _
    rw [if_pos (sort_shs (by omega)), eB]
  refine ⟨B, c3, ⟨by rw [hB.length_eq]; omega, fun p hp => ?_, ?_⟩, fun p hp => hA p (hB.mem_iff.mp hp), hc3, ?_⟩
  · have := hA p (hB.mem_iff.mp hp)
    exact ⟨edge_sm this.1, edge_sm this.2⟩
  · rw [← eB]; exact srt_pw _
  apply sem_rt (F := f_law_shards) (e1 := [Sl.bor c3, .pd (.int (many : Int)), .pd (.int (edges : Int)), .pd (.list out), .no, .no])
  case hh => rfl
  case h =>
    show Evs _ _ b_law_shards [Sl.bor c, .pd (.int (many : Int)), .pd (.int (edges : Int)), .no, .no, .no] _
    unfold b_law_shards
    exact Evs.seq (Evs.set k4 rfl) (Evs.seqX (Evs.ret (Ev.bi (Ev.cons rfl (Ev.bi (Ev.cons rfl j4 Ev.nil) hso) Ev.nil) rfl) rfl) (fun _ z => nomatch z))

open PySem.W (dataLe dataLt alike alikeAll)
/-! ### what is near shards -/
theorem cut_map {α : Type} (f : α → D) (B : List α) (lo hi : Option Int) : ∃ C : List α, cutD (B.map f) lo hi = C.map f ∧ (∀ x ∈ C, x ∈ B) ∧ C.length ≤ B.length := by
  refine ⟨(B.drop (HT.sIx B.length 0 lo)).take (HT.sIx B.length B.length hi - HT.sIx B.length 0 lo), ?_, fun x hx => List.mem_of_mem_drop (List.mem_of_mem_take hx), ?_⟩
  · unfold cutD
    rw [List.length_map, List.map_take, List.map_drop]
  · rw [List.length_take, List.length_drop]; omega
def n5B (x : D) : Bool := !isDictD x && x.canLay0 && decide (x.depth ≤ 5)
def e1B (d : D) : Bool := !isDictD d && match d with
  | .tuple ds => decide (ds.length ≤ 1000) && ds.all n5B
  | _ => true
theorem e1_of {d : D} (h : e1B d = true) : E1 d := by
  unfold e1B at h
  rw [Bool.and_eq_true, Bool.not_eq_true'] at h
  refine ⟨h.1, fun ds e => ?_⟩
  subst e
  have h2 : (decide (ds.length ≤ 1000) && ds.all n5B) = true := h.2
  rw [Bool.and_eq_true, decide_eq_true_iff] at h2
  refine ⟨h2.1, fun e he => ?_⟩
  have := List.all_eq_true.mp h2.2 e he
  unfold n5B at this
  simp only [Bool.and_eq_true, decide_eq_true_eq, Bool.not_eq_true'] at this
  exact ⟨this.1.1, this.1.2, this.2⟩
def s1B (d : D) : Bool := !isDictD d && d.canLay0 && decide (d.depth ≤ 8) && match d with
  | .tuple es => decide (es.length ≤ 1000) && es.all e1B
  | _ => true
theorem s1_of {d : D} (h : s1B d = true) : S1 d := by
  unfold s1B at h
  simp only [Bool.and_eq_true, decide_eq_true_eq, Bool.not_eq_true'] at h
  obtain ⟨⟨⟨h1, h2⟩, h3⟩, h4⟩ := h
  refine ⟨h1, ⟨h2, h3⟩, fun es e => ?_⟩
  subst e
  have h4 : (decide (es.length ≤ 1000) && es.all e1B) = true := h4
  rw [Bool.and_eq_true, decide_eq_true_iff] at h4
  exact ⟨h4.1, fun f hf => e1_of (List.all_eq_true.mp h4.2 f hf)⟩
abbrev gD : D := .tuple [.int 20, .int 20]
def ODA : List D := [.tuple [gD, .tuple []], .tuple [gD, .tuple [.int 0]], .tuple [gD, .tuple [.int 21]], .tuple [gD, .tuple (List.replicate 6 [PyData.int 20]).flatten], .tuple [gD, .tuple (List.replicate 7 [PyData.int 1]).flatten], .tuple [gD, .tuple [.bool true]], .tuple [gD, .tuple [.none]], .tuple [gD, .list [.int 1]], .tuple [gD]]
def ODC : List D := [.list [gD, gD], .none, .tuple [gD, gD, gD], .tuple [gD, .int 5], .tuple [.str "ab", gD], .tuple [gD, gD]]
theorem odd_s1 : ∀ d ∈ ODA ++ ODC, S1 d := by
  have h : ((ODA ++ ODC).all s1B) = true := by decide +kernel
  exact fun d hd => s1_of (List.all_eq_true.mp h d hd)
def W30 : List D := (List.replicate 30 [PyData.tuple [gD, gD]]).flatten
def W31 : List D := (List.replicate 31 [PyData.tuple [gD, gD]]).flatten
theorem v1_no {d : D} (h1 : isDictD d = false) (h2 : isTp d = false) : V1 d := ⟨h1, fun ds e => by subst e; cases h2⟩
theorem v1_w30 : V1 (.tuple W30) := v1_l (by decide +kernel) fun d hd => by
  have h : (W30.all s1B) = true := by decide +kernel
  exact s1_of (List.all_eq_true.mp h d hd)
theorem v1_w31 : V1 (.tuple W31) := v1_l (by decide +kernel) fun d hd => by
  have h : (W31.all s1B) = true := by decide +kernel
  exact s1_of (List.all_eq_true.mp h d hd)
theorem v1_app {l m : List D} (hl : l.length + m.length ≤ 1000) (h1 : ∀ d ∈ l, S1 d) (h2 : ∀ d ∈ m, S1 d) : V1 (.tuple (l ++ m)) := v1_l (by rw [List.length_append]; exact hl) fun d hd => by
  rcases List.mem_append.mp hd with hd | hd
  · exact h1 d hd
  · exact h2 d hd
theorem mul_t {l : List D} {k : Int} {r : List D} (h1 : l.isEmpty = false) (h2 : 2 ≤ k) (h3 : k ≤ 1000) (h4 : l.length ≤ 1000) (hr : (List.replicate k.toNat l).flatten = r) : Bop.mul.f (.tuple l) (.int k) = some (.tuple r) := by
  subst hr
  show (if (!l.isEmpty) && decide (2 ≤ k) && decide (k ≤ 1000) && decide (l.length ≤ 1000) then some (PyData.tuple (List.replicate k.toNat l).flatten) else none) = _
  rw [h1, decide_eq_true h2, decide_eq_true h3, decide_eq_true h4]; rfl
theorem law_near_ok {c : List D} {s : List Sh} (h : Shs s) : ∃ L : List D, L.length ≤ 100 ∧ (∀ d ∈ L, V1 d) ∧ sem29.f [.list c, shD s] = Rs.ok (.list L, c) := by
  have hz := PySem.sizeLine_eq
  have hl := h.len
  have hS : ∀ d ∈ s.map shR, S1 d := fun d hd => by
    obtain ⟨p, hp, rfl⟩ := List.mem_map.mp hd
    exact h.s1 p hp
  obtain ⟨C, hC, hCm, hCl⟩ := cut_map shR s (some (-1)) none
  have hCS : ∀ d ∈ C.map shR, S1 d := fun d hd => by
    obtain ⟨p, hp, rfl⟩ := List.mem_map.mp hd
    exact h.s1 p (hCm p hp)
  have a2 : ∀ n : Nat, n = 1 → n ≤ sizeLine := fun n h => by omega
  have s2 : ∀ l : List D, l.length ≤ 10 → l.length ≤ sizeLine := fun l h => by omega
  have st3 : Evs (mkG gl L29) false (.set false 3 (.lst (.cons (.tup (.cons (.var 2) (.cons (.tup (.nil)) .nil))) (.cons (.tup (.cons (.var 2) (.cons (.tup (.cons (.ci 0) .nil)) .nil))) (.cons (.tup (.cons (.var 2) (.cons (.tup (.cons (.ci 21) .nil)) .nil))) (.cons (.tup (.cons (.var 2) (.cons (.bin .mul (.tup (.cons (.ci 20) .nil)) (.ci 6)) .nil))) (.cons (.tup (.cons (.var 2) (.cons (.bin .mul (.tup (.cons (.ci 1) .nil)) (.ci 7)) .nil))) (.cons (.tup (.cons (.var 2) (.cons (.tup (.cons (.cb true) .nil)) .nil))) (.cons (.tup (.cons (.var 2) (.cons (.tup (.cons (.cn) .nil)) .nil))) (.cons (.tup (.cons (.var 2) (.cons (.lst (.cons (.ci 1) .nil)) .nil))) (.cons (.tup (.cons (.var 2) .nil)) .nil)))))))))))
      [Sl.bor c, .pd (shD s), .pd gD, .no, .no, .no] (.nx [Sl.bor c, .pd (shD s), .pd gD, .pd (.list ODA), .no, .no]) :=
    Evs.set (Ev.lst (Ev.cons rfl (Ev.tup (Ev.cons rfl (Ev.var rfl) (Ev.cons rfl (Ev.tup Ev.nil (Nat.zero_le _)) Ev.nil)) (s2 _ (by decide)))
      (Ev.cons rfl (Ev.tup (Ev.cons rfl (Ev.var rfl) (Ev.cons rfl (Ev.tup (Ev.cons rfl Ev.ci Ev.nil) (s2 _ (by decide))) Ev.nil)) (s2 _ (by decide)))
      (Ev.cons rfl (Ev.tup (Ev.cons rfl (Ev.var rfl) (Ev.cons rfl (Ev.tup (Ev.cons rfl Ev.ci Ev.nil) (s2 _ (by decide))) Ev.nil)) (s2 _ (by decide)))
      (Ev.cons rfl (Ev.tup (Ev.cons rfl (Ev.var rfl) (Ev.cons rfl (Ev.bin rfl (Ev.tup (Ev.cons rfl Ev.ci Ev.nil) (s2 _ (by decide))) Ev.ci (mul_t rfl (by omega) (by omega) (by decide) rfl)) Ev.nil)) (s2 _ (by decide)))
      (Ev.cons rfl (Ev.tup (Ev.cons rfl (Ev.var rfl) (Ev.cons rfl (Ev.bin rfl (Ev.tup (Ev.cons rfl Ev.ci Ev.nil) (s2 _ (by decide))) Ev.ci (mul_t rfl (by omega) (by omega) (by decide) rfl)) Ev.nil)) (s2 _ (by decide)))
      (Ev.cons rfl (Ev.tup (Ev.cons rfl (Ev.var rfl) (Ev.cons rfl (Ev.tup (Ev.cons rfl Ev.cb Ev.nil) (s2 _ (by decide))) Ev.nil)) (s2 _ (by decide)))
      (Ev.cons rfl (Ev.tup (Ev.cons rfl (Ev.var rfl) (Ev.cons rfl (Ev.tup (Ev.cons rfl Ev.cn Ev.nil) (s2 _ (by decide))) Ev.nil)) (s2 _ (by decide)))
      (Ev.cons rfl (Ev.tup (Ev.cons rfl (Ev.var rfl) (Ev.cons rfl (Ev.lst (Ev.cons rfl Ev.ci Ev.nil) (s2 _ (by decide))) Ev.nil)) (s2 _ (by decide)))
      (Ev.cons rfl (Ev.tup (Ev.cons rfl (Ev.var rfl) Ev.nil) (s2 _ (by decide))) Ev.nil))))))))) (s2 _ (by decide))) rfl
  have st4 : Evs (mkG gl L29) false (.set false 3 (.bin .add (.peek 3) (.lst (.cons (.lst (.cons (.var 2) (.cons (.var 2) .nil))) (.cons (.cn) (.cons (.tup (.cons (.var 2) (.cons (.var 2) (.cons (.var 2) .nil)))) (.cons (.tup (.cons (.var 2) (.cons (.ci 5) .nil))) (.cons (.tup (.cons (.cs "ab") (.cons (.var 2) .nil))) (.cons (.tup (.cons (.var 2) (.cons (.var 2) .nil))) .nil)))))))))
      [Sl.bor c, .pd (shD s), .pd gD, .pd (.list ODA), .no, .no] (.nx [Sl.bor c, .pd (shD s), .pd gD, .pd (.list (ODA ++ ODC)), .no, .no]) :=
    Evs.set (Ev.binP (Ev.lst (Ev.cons rfl (Ev.lst (Ev.cons rfl (Ev.var rfl) (Ev.cons rfl (Ev.var rfl) Ev.nil)) (s2 _ (by decide)))
      (Ev.cons rfl Ev.cn
      (Ev.cons rfl (Ev.tup (Ev.cons rfl (Ev.var rfl) (Ev.cons rfl (Ev.var rfl) (Ev.cons rfl (Ev.var rfl) Ev.nil))) (s2 _ (by decide)))
      (Ev.cons rfl (Ev.tup (Ev.cons rfl (Ev.var rfl) (Ev.cons rfl Ev.ci Ev.nil)) (s2 _ (by decide)))
      (Ev.cons rfl (Ev.tup (Ev.cons rfl Ev.cs (Ev.cons rfl (Ev.var rfl) Ev.nil)) (s2 _ (by decide)))
      (Ev.cons rfl (Ev.tup (Ev.cons rfl (Ev.var rfl) (Ev.cons rfl (Ev.var rfl) Ev.nil)) (s2 _ (by decide))) Ev.nil)))))) (s2 _ (by decide))) rfl rfl (add_lst (by show 9 + 6 ≤ _; omega))) rfl
  have e1 : Ev (mkG gl L29) (.bin .add (.peek 1) (.sl (.peek 1) (.neg (.ci 1)) .nil)) [Sl.bor c, .pd (shD s), .pd gD, .pd (.list (ODA ++ ODC)), .no, .no] (.tuple (s.map shR ++ C.map shR)) [Sl.bor c, .pd (shD s), .pd gD, .pd (.list (ODA ++ ODC)), .no, .no] :=
    Ev.binP (Ev.slP rfl (Evp.some rfl (Ev.neg Ev.ci)) Evp.nil rfl (show slD (shD s) (some (-1)) none = some (.tuple (C.map shR)) from by rw [← hC]; rfl)) rfl rfl (add_tup (by rw [List.length_map, List.length_map]; omega))
  have eg : Ev (mkG gl L29) (.tup (.cons (.tup (.cons (.var 2) (.cons (.var 2) .nil))) .nil)) [Sl.bor c, .pd (shD s), .pd gD, .pd (.list (ODA ++ ODC)), .no, .no] (.tuple [.tuple [gD, gD]]) [Sl.bor c, .pd (shD s), .pd gD, .pd (.list (ODA ++ ODC)), .no, .no] :=
    Ev.tup (Ev.cons rfl (Ev.tup (Ev.cons rfl (Ev.var rfl) (Ev.cons rfl (Ev.var rfl) Ev.nil)) (s2 _ (by decide))) Ev.nil) (s2 _ (by decide))
  have st5 := Evs.set (G := mkG gl L29) (fr := false) (i := 4) (e2 := [Sl.bor c, .pd (shD s), .pd gD, .pd (.list (ODA ++ ODC)), .pd (.list [shD s, .tuple (s.map shR).reverse, .list (s.map shR), .none, .tuple [], .str "shards", .int 5, .tuple (s.map shR ++ C.map shR), .tuple W30, .tuple W31]), .no]) (o := false) (Ev.lst (Ev.cons rfl (Ev.var (i := 1) rfl) (Ev.cons rfl (Ev.revT (Ev.peek (i := 1) rfl)) (Ev.cons rfl (Ev.bi (o := .list) (Ev.consP (i := 1) Ev.nil rfl rfl) rfl) (Ev.cons rfl Ev.cn (Ev.cons rfl (Ev.tup Ev.nil (Nat.zero_le _)) (Ev.cons rfl (Ev.cs (i := "shards")) (Ev.cons rfl (Ev.ci (i := 5))
    (Ev.cons rfl e1 (Ev.cons rfl (Ev.bin rfl eg (Ev.ci (i := 30)) (mul_t (r := W30) rfl (by omega) (by omega) (by decide) rfl)) (Ev.cons rfl (Ev.bin rfl eg (Ev.ci (i := 31)) (mul_t (r := W31) rfl (by omega) (by omega) (by decide) rfl)) Ev.nil)))))))))) (s2 _ (Nat.le_refl 10))) rfl
  have g2 := lcA (G := mkG gl L29) (elt := .bin .add (.peek 1) (.tup (.cons (.var 5) .nil))) (tg := .nm 5) (it := .var 3) (own := [("odd", 5)]) (env := [Sl.bor c, .pd (shD s), .pd gD, .pd (.list (ODA ++ ODC)), .pd (.list [shD s, .tuple (s.map shR).reverse, .list (s.map shR), .none, .tuple [], .str "shards", .int 5, .tuple (s.map shR ++ C.map shR), .tuple W30, .tuple W31]), .no])
    (ODA ++ ODC) id (fun o => .tuple (s.map shR ++ [o])) (Ev.var rfl) (by rw [List.map_id]; rfl) rfl (by show 15 ≤ _; omega) rfl rfl fun o ho =>
      ⟨[Sl.bor c, .pd (shD s), .pd gD, .pd (.list (ODA ++ ODC)), .pd (.list [shD s, .tuple (s.map shR).reverse, .list (s.map shR), .none, .tuple [], .str "shards", .int 5, .tuple (s.map shR ++ C.map shR), .tuple W30, .tuple W31]), .pd o], rfl, rfl, Ev.binP (Ev.tup (Ev.cons rfl (Ev.var rfl) Ev.nil) (by show 1 ≤ _; omega)) rfl rfl (add_tup (by rw [List.length_map]; show _ + 1 ≤ _; omega))⟩
  have g3 := lcA (G := mkG gl L29) (elt := .bin .add (.tup (.cons (.var 5) .nil)) (.peek 1)) (tg := .nm 5) (it := .var 3) (own := [("odd", 5)]) (env := [Sl.bor c, .pd (shD s), .pd gD, .pd (.list (ODA ++ ODC)), .pd (.list [shD s, .tuple (s.map shR).reverse, .list (s.map shR), .none, .tuple [], .str "shards", .int 5, .tuple (s.map shR ++ C.map shR), .tuple W30, .tuple W31]), .no])
    (ODA ++ ODC) id (fun o => .tuple ([o] ++ s.map shR)) (Ev.var rfl) (by rw [List.map_id]; rfl) rfl (by show 15 ≤ _; omega) rfl rfl fun o ho =>
      ⟨[Sl.bor c, .pd (shD s), .pd gD, .pd (.list (ODA ++ ODC)), .pd (.list [shD s, .tuple (s.map shR).reverse, .list (s.map shR), .none, .tuple [], .str "shards", .int 5, .tuple (s.map shR ++ C.map shR), .tuple W30, .tuple W31]), .pd o], rfl, rfl, Ev.bin rfl (Ev.tup (Ev.cons rfl (Ev.var rfl) Ev.nil) (by show 1 ≤ _; omega)) (Ev.peek rfl) (add_tup (by rw [List.length_map]; show 1 + _ ≤ _; omega))⟩
  refine ⟨_, ?_, fun d hd => ?_, sem_rt (F := f_law_near) (e1 := [Sl.bor c, .pd (shD s), .pd gD, .pd (.list (ODA ++ ODC)), .pd (.list [shD s, .tuple (s.map shR).reverse, .list (s.map shR), .none, .tuple [], .str "shards", .int 5, .tuple (s.map shR ++ C.map shR), .tuple W30, .tuple W31]), .no])
    (show Evs _ _ b_law_near [Sl.bor c, .pd (shD s), .no, .no, .no, .no] _ from by
      unfold b_law_near
      exact Evs.seq (Evs.set (Ev.tup (Ev.cons rfl Ev.ci (Ev.cons rfl Ev.ci Ev.nil)) (s2 _ (by decide))) rfl) (Evs.seq st3 (Evs.seq st4 (Evs.seq st5 (Evs.seqX (Evs.ret (Ev.bin rfl (Ev.binP g2 rfl rfl (add_lst (by rw [List.length_map]; show 10 + 15 ≤ _; omega))) g3 (add_lst (by rw [List.length_append, List.length_map, List.length_map]; show 10 + 15 + 15 ≤ _; omega))) rfl) (fun _ z => nomatch z)))))) rfl⟩
  · rw [List.length_append, List.length_append, List.length_map, List.length_map]; show 10 + 15 + 15 ≤ _; omega
  rcases List.mem_append.mp hd with hd | hd
  · rcases List.mem_append.mp hd with hd | hd
    · simp only [List.mem_cons, List.mem_nil_iff, or_false] at hd
      rcases hd with rfl | rfl | rfl | rfl | rfl | rfl | rfl | rfl | rfl | rfl
      · exact h.v1
      · exact v1_l (by rw [List.length_reverse, List.length_map]; omega) fun d hd => hS d (List.mem_reverse.mp hd)
      · exact v1_no rfl rfl
      · exact v1_no rfl rfl
      · exact v1_l (Nat.zero_le _) (by simp)
      · exact v1_no rfl rfl
      · exact v1_no rfl rfl
      · exact v1_app (by rw [List.length_map, List.length_map]; omega) hS hCS
      · exact v1_w30
      · exact v1_w31
    · obtain ⟨o, ho, rfl⟩ := List.mem_map.mp hd
      exact v1_app (by rw [List.length_map]; show _ + 1 ≤ _; omega) hS fun d hd => by
        rw [List.mem_singleton] at hd
        subst hd; exact odd_s1 _ ho
  · obtain ⟨o, ho, rfl⟩ := List.mem_map.mp hd
    exact v1_app (by rw [List.length_map]; show 1 + _ ≤ _; omega) (fun d hd => by
        rw [List.mem_singleton] at hd
        subst hd; exact odd_s1 _ ho) hS

open PySem.W (dataLe dataLt alike alikeAll)
/-! ### one turn of the law -/
abbrev TT (ks : List Eg) : List (List L2.Key × D) := tbl ks fun _ => .bool true
theorem upd_tt (e : Eg) : updE (fun _ => PyData.bool true) e (.bool true) = fun _ => .bool true := by
  funext x
  unfold updE
  split <;> rfl
theorem merge_tt (ks : List Eg) (a b : Eg) : mergD (TT ks) (putD [(keyE a, .bool true)] (keyE b) (.bool true)) = TT (ins (ins ks a) b) := by
  have h1 : putD [(keyE a, PyData.bool true)] (keyE b) (.bool true) = TT (ins [a] b) := by
    have := put_tbl [a] (fun _ => .bool true) b (.bool true)
    rw [upd_tt] at this
    exact this
  have h2 : ∀ ks e, putD (TT ks) (keyE e) (.bool true) = TT (ins ks e) := fun ks e => by
    have := put_tbl ks (fun _ => .bool true) e (.bool true)
    rw [upd_tt] at this
    exact this
  rw [h1]
  by_cases h : b = a
  · subst h
    rw [ins_in (ks := [b]) (by simp), ins_in (ks := ins ks b) (mem_ins.mpr (.inr rfl))]
    exact h2 ks b
  · have : ins [a] b = [a, b] := if_neg fun z => h (by have := List.contains_iff_mem.mp z; simpa using this)
    rw [this]
    show putD (putD (TT ks) (keyE a) (.bool true)) (keyE b) (.bool true) = _
    rw [h2, h2]
theorem keyIs_e : ∀ e : Eg, keyIs? (keyE e) = some e
  | [] => rfl
  | i :: r => by
    show (keyIs? (keyE r)).map (i :: ·) = _
    rw [keyIs_e r]; rfl
theorem sm_smi {e : Eg} (h : SmE e) : SMI.contains e = true := by
  obtain ⟨h1, h2, h3⟩ := h
  have key : ∀ i : Int, 1 ≤ i ∧ i ≤ 3 → i = 1 ∨ i = 2 ∨ i = 3 := fun i h => by omega
  match e, h1, h2, h3 with
  | [a], _, _, h3 =>
    rcases key a (h3 a (by simp)) with rfl | rfl | rfl <;> decide
  | [a, b], _, _, h3 =>
    rcases key a (h3 a (by simp)) with rfl | rfl | rfl <;> rcases key b (h3 b (by simp)) with rfl | rfl | rfl <;> decide
  | [a, b, c], _, _, h3 =>
    rcases key a (h3 a (by simp)) with rfl | rfl | rfl <;> rcases key b (h3 b (by simp)) with rfl | rfl | rfl <;> rcases key c (h3 c (by simp)) with rfl | rfl | rfl <;> decide
  | a :: b :: c :: d :: r, _, h2, _ => exact absurd h2 (by simp)
theorem small_e {e : Eg} (h : SmE e) : smallK (keyE e) = true := by
  unfold smallK
  rw [keyIs_e]
  exact sm_smi h
abbrev ER (c : List D) (s : List Sh) (s2 s3 s4 s5 s6 s7 s8 s9 s10 s11 s12 : Sl) : En := [Sl.bor c, .pd (shD s), s2, s3, s4, s5, s6, s7, s8, s9, s10, s11, s12, .no, .no, .no, .no]
abbrev bE : S := .seq (.dup2 6 (.var 8) (.cb true) (.var 9) (.cb true)) .nil
theorem loop_e {c : List D} {s : List Sh} (hl : s.length ≤ 30) (hsm : SmS s) {s7 : Sl} : ∃ s8 s9, Npd s8 ∧ Npd s9 ∧
    forGo (asgT (.tup (.cons (.nm 8) (.cons (.nm 9) .nil)))) (evS (mkG gl L30) false bE) (s.map shR) (ER c s .no .no .no .no (.dic []) s7 .no .no .no .no .no) = .nx (ER c s .no .no .no .no (.dic (TT (ik s))) s7 s8 s9 .no .no .no) := by
  have hz := PySem.sizeLine_eq
  obtain ⟨e, h1, h2⟩ := forGo_inv (asg := asgT (.tup (.cons (.nm 8) (.cons (.nm 9) .nil)))) (body := evS (mkG gl L30) false bE)
    (fun xs env => ∃ P R s8 s9, xs = R.map shR ∧ P ++ R = s ∧ env = ER c s .no .no .no .no (.dic (TT (ik P))) s7 s8 s9 .no .no .no ∧ Npd s8 ∧ Npd s9) (s.map shR) (ER c s .no .no .no .no (.dic []) s7 .no .no .no .no .no) ⟨[], s, .no, .no, rfl, rfl, rfl, .inl rfl, .inl rfl⟩
    (fun x xs env ⟨P, R, s8, s9, q1, q2, q3, q4, q5⟩ => by
      subst q3
      match R, q1, q2 with
      | [], q1, _ => cases q1
      | p :: R, q1, q2 =>
        cases q1
        have hPl : P.length ≤ 30 := by
          have := congrArg List.length q2
          rw [List.length_append] at this
          omega
        have hil := ik_len P
        have hp : p ∈ s := by rw [← q2]; simp
        refine ⟨ER c s .no .no .no .no (.dic (TT (ik P))) s7 (.pd (tE p.1)) (.pd (tE p.2)) .no .no .no, ER c s .no .no .no .no (.dic (TT (ik (P ++ [p])))) s7 (.pd (tE p.1)) (.pd (tE p.2)) .no .no .no, ?_, .inl ?_, P ++ [p], R, _, _, rfl, by rw [← q2, List.append_assoc]; rfl, rfl, Npd.pd, Npd.pd⟩
        · rcases q4 with rfl | ⟨d, rfl⟩ <;> rcases q5 with rfl | ⟨d, rfl⟩ <;> rfl
        · have a1 := Evs.dup2 (G := mkG gl L30) (fr := false) (i := 6) (env := ER c s .no .no .no .no (.dic (TT (ik P))) s7 (.pd (tE p.1)) (.pd (tE p.2)) .no .no .no) rfl (Ev.var (i := 8) rfl) (Ev.cb (i := true)) (Ev.var (i := 9) rfl) (Ev.cb (i := true)) (keyOf_e p.1) (keyOf_e p.2) rfl
            (by rw [small_e (hsm p hp).1, small_e (hsm p hp).2, tbl_len (ik P), decide_eq_true (show (ik P).length + 2 ≤ sizeLine by omega), Bool.and_true, Bool.and_true, Bool.or_true])
          rw [merge_tt, ← ik_snoc] at a1
          exact Evs.ok (Evs.seq a1 Evs.nil))
  obtain ⟨P, R, s8, s9, q1, q2, q3, q4, q5⟩ := h2
  have hR : R = [] := by cases R <;> first | rfl | cases q1
  subst hR q3
  rw [List.append_nil] at q2
  subst q2
  exact ⟨s8, s9, q4, q5, h1⟩
abbrev bP : S := .seq (.set false 7 (.bin .add (.peek 7) (.lc (.tup (.cons (.var 10) (.cons (.var 14) .nil))) (.tup (.cons (.nm 14) (.cons (.nm 15) .nil))) (.enum (.var 1)) (.and_ (.cmp .ne (.peek 14) (.peek 10)) (.one (.cmp .eq (.idx (.peek 11) (.ci 1)) (.idx (.peek 15) (.ci 0))))) [("other", 14), ("two", 15)]))) .nil
theorem loop_p {c : List D} {s : List Sh} (hl : s.length ≤ 30) {s6 s8 s9 : Sl} : ∀ (xs : List (Nat × Sh)) (acc : List (Nat × Nat)) (s10 s11 : Sl), Npd s10 → Npd s11 → acc.length + 30 * xs.length ≤ 10000 →
    ∃ t10 t11, Npd t10 ∧ Npd t11 ∧ forGo (asgT (.tup (.cons (.nm 10) (.cons (.nm 11) .nil)))) (evS (mkG gl L30) false bP) (xs.map fun p => PyData.tuple [iN p.1, shR p.2]) (ER c s .no .no .no .no s6 (.pd (.list (acc.map prD))) s8 s9 s10 s11 .no) = .nx (ER c s .no .no .no .no s6 (.pd (.list ((acc ++ (xs.map (fpRow s)).flatten).map prD))) s8 s9 t10 t11 .no)
  | [], acc, s10, s11, h10, h11, _ => ⟨s10, s11, h10, h11, by simp only [List.map_nil, List.flatten_nil, List.append_nil]; rfl⟩
  | p :: xs, acc, s10, s11, h10, h11, hn => by
    have hz := PySem.sizeLine_eq
    have hn' : acc.length + 30 * (xs.length + 1) ≤ 10000 := hn
    have h1 := lcP (G := mkG gl L30) (elt := .tup (.cons (.var 10) (.cons (.var 14) .nil))) (cond := .and_ (.cmp .ne (.peek 14) (.peek 10)) (.one (.cmp .eq (.idx (.peek 11) (.ci 1)) (.idx (.peek 15) (.ci 0))))) (tg := .tup (.cons (.nm 14) (.cons (.nm 15) .nil))) (it := .enum (.var 1)) (own := [("other", 14), ("two", 15)]) (env := ER c s .no .no .no .no s6 (.pd (.list (acc.map prD))) s8 s9 (.pd (iN p.1)) (.pd (shR p.2)) .no)
      (enA s) (fun p => .tuple [iN p.1, shR p.2]) (fun q => prD (p.1, q.1)) (fun q => q.1 != p.1 && p.2.2 == q.2.1) (Ev.enum (l := s.map shR) (Ev.var rfl) rfl) (congrArg some (enum_enA shR s)) rfl (by rw [enA_len]; omega) rfl rfl rfl fun q hq =>
        ⟨[Sl.bor c, .pd (shD s), .no, .no, .no, .no, s6, .pd (.list (acc.map prD)), s8, s9, .pd (iN p.1), .pd (shR p.2), .no, .no, .pd (iN q.1), .pd (shR q.2), .no], rfl, Ev.andb (Ev.cmpP (Ev.peek rfl) rfl rfl (ne_nn q.1 p.1)) fun _ => Ev.one (Ev.cmp rfl (Ev.idxP Ev.ci rfl rfl rfl) (Ev.idxP Ev.ci rfl rfl rfl) (eq_e p.2.2 q.2.1)), rfl,
          fun _ => Ev.tup (Ev.cons rfl (Ev.var rfl) (Ev.cons rfl (Ev.var rfl) Ev.nil)) (by show 2 ≤ _; omega)⟩
    have e1 : ((enA s).filter fun q => q.1 != p.1 && p.2.2 == q.2.1).map (fun q => prD (p.1, q.1)) = (fpRow s p).map prD := by unfold fpRow; rw [List.map_map]; rfl
    rw [e1] at h1
    have hrl := fpRow_len s p
    have hb : evS (mkG gl L30) false bP (ER c s .no .no .no .no s6 (.pd (.list (acc.map prD))) s8 s9 (.pd (iN p.1)) (.pd (shR p.2)) .no) = .nx (ER c s .no .no .no .no s6 (.pd (.list ((acc ++ fpRow s p).map prD))) s8 s9 (.pd (iN p.1)) (.pd (shR p.2)) .no) := by
      rw [List.map_append]
      exact Evs.ok (Evs.seq (Evs.set (Ev.binP h1 rfl rfl (add_lst (by rw [List.length_map, List.length_map]; omega))) rfl) Evs.nil)
    obtain ⟨t10, t11, g10, g11, e⟩ := loop_p hl xs (acc ++ fpRow s p) (.pd (iN p.1)) (.pd (shR p.2)) Npd.pd Npd.pd (by rw [List.length_append]; omega)
    refine ⟨t10, t11, g10, g11, ?_⟩
    rw [List.map_cons, forGo_nx (e1 := ER c s .no .no .no .no s6 (.pd (.list (acc.map prD))) s8 s9 (.pd (iN p.1)) (.pd (shR p.2)) .no) (by rcases h10 with rfl | ⟨d, rfl⟩ <;> rcases h11 with rfl | ⟨d, rfl⟩ <;> rfl) hb, e, List.map_cons, List.flatten_cons, List.append_assoc]
theorem sim_up : ∀ {j : Nat} {d : D}, Sim j d → Sim (j + 1) d
  | 0, d, h => (show False from h).elim
  | j + 1, d, h => by
    cases d <;> first | exact h | exact ⟨h.1, fun x hx => sim_up (h.2 x hx)⟩
theorem sim_e {e : Eg} (h : e.length ≤ 1000) : Sim 2 (tE e) := ⟨by rw [List.length_map]; exact h, fun x hx => by
  obtain ⟨i, _, rfl⟩ := List.mem_map.mp hx
  exact trivial⟩
theorem sim_tN {p : List Nat} (h : p.length ≤ 1000) : Sim 2 (tN p) := ⟨by rw [List.length_map]; exact h, fun x hx => by
  obtain ⟨i, _, rfl⟩ := List.mem_map.mp hx
  exact trivial⟩
theorem sim_pr (p : Nat × Nat) : Sim 2 (prD p) := ⟨by show 2 ≤ _; omega, fun x hx => by
  simp only [List.mem_cons, List.mem_nil_iff, or_false] at hx
  rcases hx with rfl | rfl <;> exact trivial⟩
theorem eg_len {s : List Sh} (h : Shs s) : ∀ e ∈ EG s, e.length ≤ 1000 := fun e he => by
  obtain ⟨p, hp, hh⟩ := mem_el.mp (mem_EG.mp he)
  rcases hh with rfl | rfl
  · have := (edge_len (h.eg p hp).1).2; omega
  · have := (edge_len (h.eg p hp).2).2; omega
theorem FP_len (s : List Sh) : (FP s).length ≤ s.length * s.length := by
  have : ∀ l : List (Nat × Sh), ((l.map (fpRow s)).flatten).length ≤ l.length * s.length := fun l => by
    induction l with
    | nil => exact Nat.zero_le _
    | cons p l ih =>
      rw [List.map_cons, List.flatten_cons, List.length_append, List.length_cons, Nat.succ_mul]
      have := fpRow_len s p
      omega
  have := this (enA s)
  rwa [enA_len] at this
theorem out_plen {s : List Sh} {L : List (List Nat)} (hL : Out s [] L) : L.length ≤ s.length ∧ ∀ p ∈ L, p.length ≤ s.length := ⟨out_flen hL, fun p hp => lw_plen (out_lw hL) hp⟩
theorem sim_told {s : List Sh} (h : Shs s) {L : List (List Nat)} (hL : Out s [] L) : Sim 5 (.tuple [.tuple ((EG s).map tE), .tuple ((FP s).map prD), .tuple (L.map tN)]) := by
  have hl := h.len
  have h1 := EG_len s
  have h2 := FP_len s
  have h3 := out_plen hL
  have h4 : s.length * s.length ≤ 30 * 30 := Nat.mul_le_mul hl hl
  refine ⟨by show 3 ≤ _; omega, fun x hx => ?_⟩
  simp only [List.mem_cons, List.mem_nil_iff, or_false] at hx
  rcases hx with rfl | rfl | rfl
  · refine ⟨by rw [List.length_map]; omega, fun x hx => ?_⟩
    obtain ⟨e, he, rfl⟩ := List.mem_map.mp hx
    exact sim_up (sim_e (eg_len h e he))
  · refine ⟨by rw [List.length_map]; omega, fun x hx => ?_⟩
    obtain ⟨e, he, rfl⟩ := List.mem_map.mp hx
    exact sim_up (sim_pr e)
  · refine ⟨by rw [List.length_map]; omega, fun x hx => ?_⟩
    obtain ⟨e, he, rfl⟩ := List.mem_map.mp hx
    have := h3.2 e he
    exact sim_up (sim_tN (by omega))
theorem sim_xe {s : List Sh} (h : Shs s) : Sim 5 (.tuple ((XE s).map (xR s))) := by
  have hl := h.len
  have h1 := EG_len s
  have h2 : (XE s).length ≤ (EG s).length := List.length_filter_le _ _
  refine ⟨by rw [List.length_map]; omega, fun x hx => ?_⟩
  obtain ⟨e, he, rfl⟩ := List.mem_map.mp hx
  refine ⟨by show 2 ≤ _; omega, fun x hx => ?_⟩
  simp only [List.mem_cons, List.mem_nil_iff, or_false] at hx
  rcases hx with rfl | rfl
  · exact sim_up (sim_e (eg_len h e (List.mem_filter.mp he).1))
  · exact trivial
theorem sim_sw {s : List Sh} (h : Shs s) (L : Int) : Sim 5 (.tuple ((SW s L).map fun p => iN p.1)) := by
  have hl := h.len
  have h2 : (SW s L).length ≤ (enA s).length := List.length_filter_le _ _
  rw [enA_len] at h2
  refine ⟨by rw [List.length_map]; omega, fun x hx => ?_⟩
  obtain ⟨e, he, rfl⟩ := List.mem_map.mp hx
  exact trivial
theorem contains_app (a b : Eg) (L : Int) : (a ++ b).contains L = (a.contains L || b.contains L) := by
  rw [Bool.eq_iff_iff, Bool.or_eq_true, List.contains_iff_mem, List.contains_iff_mem, List.contains_iff_mem, List.mem_append]

open PySem.W (dataLe dataLt alike alikeAll)
theorem law_right_ok {c : List D} (hc : Cup c) : ∃ c' : List D, Cup c' ∧ sem30.f [.list c] = Rs.ok (.bool true, c') := by
  have hz := PySem.sizeLine_eq
  obtain ⟨x1, c1, hx1, hc1, r1⟩ := some_ok hc (l := [.int 4, .int 12]) (by decide) (by decide)
  obtain ⟨m, hm, rfl⟩ : ∃ m : Nat, m ≤ 30 ∧ x1 = .int (m : Int) := by
    simp only [List.mem_cons, List.mem_nil_iff, or_false] at hx1
    rcases hx1 with rfl | rfl
    · exact ⟨4, by omega, rfl⟩
    · exact ⟨12, by omega, rfl⟩
  obtain ⟨x2, c2, hx2, hc2, r2⟩ := some_ok hc1 (l := [.int 2, .int 5]) (by decide) (by decide)
  obtain ⟨n, hn0, hn, rfl⟩ : ∃ n : Nat, 1 ≤ n ∧ n ≤ 30 ∧ x2 = .int (n : Int) := by
    simp only [List.mem_cons, List.mem_nil_iff, or_false] at hx2
    rcases hx2 with rfl | rfl
    · exact ⟨2, by omega, by omega, rfl⟩
    · exact ⟨5, by omega, by omega, rfl⟩
  obtain ⟨s, c3, h, hsm, hc3, r3⟩ := law_shards_ok hc2 hm hn0 hn
  have hl := h.len
  have hel := EG_len s
  have hil := ik_len s
  obtain ⟨t8, t9, g8, g9, le⟩ := loop_e (c := c3) hl hsm (s7 := .pd (.list []))
  obtain ⟨t10, t11, g10, g11, lp⟩ := loop_p (c := c3) hl (s6 := .dic (TT (ik s))) (s8 := t8) (s9 := t9) (enA s) [] .no .no (.inl rfl) (.inl rfl) (by rw [enA_len]; show 0 + _ ≤ _; omega)
  rw [List.nil_append] at lp
  have lp : forGo (asgT (.tup (.cons (.nm 10) (.cons (.nm 11) .nil)))) (evS (mkG gl L30) false bP) ((enA s).map fun p => PyData.tuple [iN p.1, shR p.2]) (ER c3 s .no .no .no .no (.dic (TT (ik s))) (.pd (.list [])) t8 t9 .no .no .no) = .nx (ER c3 s .no .no .no .no (.dic (TT (ik s))) (.pd (.list ((FP s).map prD))) t8 t9 t10 t11 .no) := lp
  obtain ⟨L, hL, pa⟩ := shard_parts_ok h
  obtain ⟨k1, c4, hk1, hc4, r4⟩ := roll_ok hc3 (n := 3) (by decide) (by decide)
  obtain ⟨k2, c5, hk2, hc5, r5⟩ := roll_ok hc4 (n := 20) (by decide) (by decide)
  obtain ⟨x6, c6, hx6, hc6, r6⟩ := some_ok hc5 (l := [.int (k1 : Int), .int (k2 : Int)]) (by show 0 < 2; omega) (by show 2 < _; omega)
  obtain ⟨k, hk, rfl⟩ : ∃ k : Nat, k ≤ 19 ∧ x6 = .int (k : Int) := by
    simp only [List.mem_cons, List.mem_nil_iff, or_false] at hx6
    rcases hx6 with rfl | rfl
    · exact ⟨k1, by omega, rfl⟩
    · exact ⟨k2, by omega, rfl⟩
  obtain ⟨V, hVl, hV, nr⟩ := law_near_ok (c := c6) h
  have hso := dsort_tbl (ks := ik s) (v := fun _ => .bool true) (by omega)
  rw [srt_ik] at hso
  have hso2 := dsort_tbl (ks := ik s) (v := vI (ex s)) (by omega)
  rw [srt_ik] at hso2
  -- the slots as they stand
  let T : D := .tuple [.tuple ((EG s).map tE), .tuple ((FP s).map prD), .tuple (L.map tN)]
  have w3 := lcP (G := mkG gl L30) (elt := .tup (.cons (.var 16) (.cons (.didx 3 (.var 16)) .nil))) (cond := .cmp .ne (.didx 3 (.var 16)) (.ci 0)) (tg := .nm 16) (it := .dsort 3) (own := [("edge", 16)])
    (env := ER c3 s (.pd T) (.dic (tbl (ik s) (vI (ex s)))) .no .no (.dic (TT (ik s))) (.pd (.list ((FP s).map prD))) t8 t9 t10 t11 .no) (EG s) tE (xR s) (fun e => ex s e != 0)
    (Ev.dsort rfl hso2) rfl rfl (by omega) rfl rfl rfl fun e he => by
      have he2 : e ∈ ik s := (mem_ik s).mpr (mem_EG.mp he)
      have hd : Ev (mkG gl L30) (.didx 3 (.var 16)) [Sl.bor c3, .pd (shD s), .pd T, .dic (tbl (ik s) (vI (ex s))), .no, .no, .dic (TT (ik s)), .pd (.list ((FP s).map prD)), t8, t9, t10, t11, .no, .no, .no, .no, .pd (tE e)] (.int (ex s e)) [Sl.bor c3, .pd (shD s), .pd T, .dic (tbl (ik s) (vI (ex s))), .no, .no, .dic (TT (ik s)), .pd (.list ((FP s).map prD)), t8, t9, t10, t11, .no, .no, .no, .no, .pd (tE e)] := Ev.didx rfl (Ev.var rfl) (keyOf_e e) rfl ((look_tbl _ _ _).trans (if_pos he2))
      exact ⟨_, rfl, Ev.cmp rfl hd Ev.ci (ne_z _ _), rfl, fun _ => Ev.tup (Ev.cons rfl (Ev.var rfl) (Ev.cons rfl hd Ev.nil)) (by show 2 ≤ _; omega)⟩
  have w5 := lcP (G := mkG gl L30) (elt := .var 12) (cond := .cmp .isin (.peek 4) (.bin .add (.peek 8) (.peek 9))) (tg := .tup (.cons (.nm 12) (.cons (.tup (.cons (.nm 8) (.cons (.nm 9) .nil))) .nil))) (it := .enum (.var 1)) (own := [("at", 12), ("left", 8), ("right", 9)])
    (env := ER c6 s (.pd T) (.dic (tbl (ik s) (vI (ex s)))) (.pd (.int ((1 + k : Nat) : Int))) .no (.dic (TT (ik s))) (.pd (.list ((FP s).map prD))) t8 t9 t10 t11 .no)
    (enA s) (fun p => .tuple [iN p.1, shR p.2]) (fun p => iN p.1) (fun p => p.2.1.contains ((1 + k : Nat) : Int) || p.2.2.contains ((1 + k : Nat) : Int)) (Ev.enum (l := s.map shR) (Ev.var rfl) rfl) (congrArg some (enum_enA shR s))
    (by rcases g8 with rfl | ⟨d, rfl⟩ <;> rcases g9 with rfl | ⟨d, rfl⟩ <;> rfl) (by rw [enA_len]; omega) rfl rfl rfl fun p hp => by
      have hin := h.eg p.2 (enA_mem hp)
      have h1 := (edge_len hin.1).2
      have h2 := (edge_len hin.2).2
      refine ⟨[Sl.bor c6, .pd (shD s), .pd T, .dic (tbl (ik s) (vI (ex s))), .pd (.int ((1 + k : Nat) : Int)), .no, .dic (TT (ik s)), .pd (.list ((FP s).map prD)), .pd (tE p.2.1), .pd (tE p.2.2), t10, t11, .pd (iN p.1), .no, .no, .no, .no], rfl, ?_, rfl, fun _ => Ev.var rfl⟩
      have ha : Bop.add.f (tE p.2.1) (tE p.2.2) = some (tE (p.2.1 ++ p.2.2)) := by
        unfold tE
        rw [add_tup (by rw [List.length_map, List.length_map]; omega), List.map_append]
      have := Ev.cmpP (G := mkG gl L30) (env := [Sl.bor c6, .pd (shD s), .pd T, .dic (tbl (ik s) (vI (ex s))), .pd (.int ((1 + k : Nat) : Int)), .no, .dic (TT (ik s)), .pd (.list ((FP s).map prD)), .pd (tE p.2.1), .pd (tE p.2.2), t10, t11, .pd (iN p.1), .no, .no, .no, .no]) (i := 4) (Ev.binP (i := 8) (Ev.peek (i := 9) rfl) rfl rfl ha) rfl rfl (in_e ((1 + k : Nat) : Int) (p.2.1 ++ p.2.2))
      rw [contains_app] at this
      exact this
  have w6 := lcP (G := mkG gl L30) (elt := .var 13) (cond := .not_ (.call 23 (.cons (.call 9 (.cons (.var 13) .nil)) (.cons (.call 28 (.cons (.var 13) .nil)) .nil)))) (tg := .nm 13) (it := .callm 29 0 (.cons (.var 1) .nil)) (own := [("value", 13)])
    (env := ER c6 s (.pd T) (.dic (tbl (ik s) (vI (ex s)))) (.pd (.int ((1 + k : Nat) : Int))) (.pd (.list ((SW s ((1 + k : Nat) : Int)).map fun p => iN p.1))) (.dic (TT (ik s))) (.pd (.list ((FP s).map prD))) t8 t9 t10 t11 .no)
    V id id (fun _ => false) (Ev.callm rfl rfl (Ev.cons rfl (Ev.var rfl) Ev.nil) rfl rfl nr) (by rw [List.map_id]; rfl) rfl (by omega) rfl rfl rfl fun v hv =>
      ⟨[Sl.bor c6, .pd (shD s), .pd T, .dic (tbl (ik s) (vI (ex s))), .pd (.int ((1 + k : Nat) : Int)), .pd (.list ((SW s ((1 + k : Nat) : Int)).map fun p => iN p.1)), .dic (TT (ik s)), .pd (.list ((FP s).map prD)), t8, t9, t10, t11, .no, .pd v, .no, .no, .no], rfl,
        Ev.notb (k := true) (Ev.call rfl (Ev.cons rfl (Ev.call rfl (Ev.cons rfl (Ev.var rfl) Ev.nil) rfl (are_shards_gen (hV v hv))) (Ev.cons rfl (Ev.call rfl (Ev.cons rfl (Ev.var rfl) Ev.nil) rfl (law_are_shards_gen (hV v hv))) Ev.nil)) rfl (same5 (d := .bool (shardsB v)) trivial)), rfl, fun z => nomatch z⟩
  have e6 : (V.filter fun _ => false).map id = ([] : List D) := by
    rw [List.map_eq_nil_iff, List.filter_eq_nil_iff]; intro _ _ z; cases z
  rw [e6] at w6
  refine ⟨c6, hc6, sem_rt (F := f_law_right) (e1 := ER c6 s (.pd T) (.dic (tbl (ik s) (vI (ex s)))) (.pd (.int ((1 + k : Nat) : Int))) (.pd (.list ((SW s ((1 + k : Nat) : Int)).map fun p => iN p.1))) (.dic (TT (ik s))) (.pd (.list ((FP s).map prD))) t8 t9 t10 t11 .no) ?_ rfl⟩
  show Evs _ _ b_law_right [Sl.bor c, .no, .no, .no, .no, .no, .no, .no, .no, .no, .no, .no, .no, .no, .no, .no, .no] _
  unfold b_law_right
  refine Evs.seq (Evs.set (Ev.callm rfl rfl (Ev.cons rfl (Ev.callm rfl rfl (Ev.cons rfl (Ev.lst (Ev.cons rfl Ev.ci (Ev.cons rfl Ev.ci Ev.nil)) (by show 2 ≤ _; omega)) Ev.nil) rfl rfl r1) (Ev.cons rfl (Ev.callm rfl rfl (Ev.cons rfl (Ev.lst (Ev.cons rfl Ev.ci (Ev.cons rfl Ev.ci Ev.nil)) (by show 2 ≤ _; omega)) Ev.nil) rfl rfl r2) Ev.nil)) rfl rfl r3) rfl) ?_
  refine Evs.seq (Evs.parN (Ev.lst Ev.nil (Nat.zero_le _)) rfl rfl) ?_
  refine Evs.seq (Evs.for_ (l := s.map shR) (Ev.var rfl) rfl le) ?_
  refine Evs.seq (Evs.for_ (l := (enA s).map fun p : Nat × Sh => PyData.tuple [iN p.1, shR p.2]) (Ev.enum (l := s.map shR) (Ev.var rfl) rfl) (congrArg some (enum_enA shR s)) lp) ?_
  refine Evs.seq (Evs.set (e2 := ER c3 s (.pd T) .no .no .no (.dic (TT (ik s))) (.pd (.list ((FP s).map prD))) t8 t9 t10 t11 .no) (Ev.tup (Ev.cons rfl (Ev.call rfl (Ev.cons rfl (Ev.var rfl) Ev.nil) rfl (shard_edges_ok h)) (Ev.cons rfl (Ev.call rfl (Ev.cons rfl (Ev.var rfl) Ev.nil) rfl (fit_pairs_ok h)) (Ev.cons rfl (Ev.call rfl (Ev.cons rfl (Ev.var rfl) Ev.nil) rfl pa) Ev.nil))) (by show 3 ≤ _; omega)) rfl) ?_
  refine Evs.seq (Evs.ifF (x := .bool false) (Ev.notb (k := true) (Ev.call rfl (Ev.cons rfl (Ev.var rfl) (Ev.cons rfl (Ev.tup (Ev.cons rfl (Ev.bi (Ev.cons rfl (Ev.dsort rfl hso) Ev.nil) rfl) (Ev.cons rfl (Ev.bi (Ev.consP Ev.nil rfl rfl) rfl) (Ev.cons rfl (Ev.bi (Ev.cons rfl (Ev.call rfl (Ev.cons rfl (Ev.var rfl) Ev.nil) rfl (law_parts_ok hl hL)) Ev.nil) rfl) Ev.nil))) (by show 3 ≤ _; omega)) Ev.nil)) rfl (same5 (sim_told h hL)))) rfl Evs.nil) ?_
  refine Evs.seq (Evs.setD (Ev.cons rfl (Ev.var rfl) Ev.nil) rfl rfl (law_excess_ok hl) rfl) ?_
  refine Evs.seq (Evs.ifF (x := .bool false) (Ev.notb (k := true) (Ev.call rfl (Ev.cons rfl (Ev.call rfl (Ev.cons rfl (Ev.var rfl) Ev.nil) rfl (edge_excess_ok h)) (Ev.cons rfl (Ev.bi (Ev.cons rfl w3 Ev.nil) rfl) Ev.nil)) rfl (same5 (sim_xe h)))) rfl Evs.nil) ?_
  refine Evs.seq (Evs.set (e2 := ER c6 s (.pd T) (.dic (tbl (ik s) (vI (ex s)))) (.pd (.int ((1 + k : Nat) : Int))) .no (.dic (TT (ik s))) (.pd (.list ((FP s).map prD))) t8 t9 t10 t11 .no) (Ev.bin rfl Ev.ci (Ev.callm rfl rfl (Ev.cons rfl (Ev.lst (Ev.cons rfl (Ev.callm rfl rfl (Ev.cons rfl Ev.ci Ev.nil) rfl rfl r4) (Ev.cons rfl (Ev.callm rfl rfl (Ev.cons rfl Ev.ci Ev.nil) rfl rfl r5) Ev.nil)) (by show 2 ≤ _; omega)) Ev.nil) rfl rfl r6) (one_plus k)) rfl) ?_
  refine Evs.seq (Evs.set w5 rfl) ?_
  refine Evs.seq (Evs.ifF (x := .bool false) (Ev.notb (k := true) (Ev.call rfl (Ev.cons rfl (Ev.call rfl (Ev.cons rfl (Ev.var rfl) (Ev.cons rfl (Ev.var rfl) Ev.nil)) rfl (shards_with_ok h (L := ((1 + k : Nat) : Int)) (by omega) (by omega))) (Ev.cons rfl (Ev.bi (Ev.consP Ev.nil rfl rfl) rfl) Ev.nil)) rfl (same5 (sim_sw h _)))) rfl Evs.nil) ?_
  exact Evs.seqX (Evs.ret (Ev.cmp rfl w6 (Ev.lst Ev.nil (Nat.zero_le _)) rfl) rfl) (fun _ z => nomatch z)

open PySem.W (dataLe dataLt alike alikeAll)
/-! ### the law -/
def CH (m : Nat) : List Sh := (List.range m).map fun k : Nat => ([(1 : Int) + (k : Int)], [(2 : Int) + (k : Int)])
def cel (m : Nat) : List Eg := (List.range (m + 1)).map fun k : Nat => [(1 : Int) + (k : Int)]
def fact (m : Nat) : Bool := ((CH m).all fun p => edgeB (tE p.1) && edgeB (tE p.2)) && (consB ((CH m).map shR) && ((FP (CH m) == (List.range (m - 1)).map fun k => (k, k + 1)) && (((cel m).all fun e => (el (CH m)).contains e) && (((el (CH m)).all fun e => (cel m).contains e) && (consB ((cel m).map tE) &&
  (((cel m).filter (fun e => ex (CH m) e != 0) == [[1], [(m : Int) + 1]]) && ((ex (CH m) [1] == 1 && ex (CH m) [(m : Int) + 1] == -1) && (List.range (m - 1)).all fun k => adj (CH m) k (k + 1))))))))
theorem facts : ∀ r ∈ List.range 19, fact (1 + r) = true := by
  have h : ((List.range 19).all fun r => fact (1 + r)) = true := by decide +kernel
  exact List.all_eq_true.mp h
theorem CH_len (m : Nat) : (CH m).length = m := by unfold CH; rw [List.length_map, List.length_range]
structure Fct (m : Nat) : Prop where
  shs : Shs (CH m)
  fp : FP (CH m) = (List.range (m - 1)).map fun k => (k, k + 1)
  xe : XE (CH m) = [[1], [(m : Int) + 1]]
  x1 : ex (CH m) [1] = 1
  x2 : ex (CH m) [(m : Int) + 1] = -1
  ad : ∀ k, k + 1 < m → adj (CH m) k (k + 1) = true
theorem cel_nodup (m : Nat) : (cel m).Nodup := by
  unfold cel
  rw [List.Nodup, List.pairwise_map]
  refine List.Pairwise.imp (R := fun a b : Nat => a < b) (fun {a b} h z => ?_) List.pairwise_lt_range
  have := List.head_eq_of_cons_eq z
  omega
theorem fct {m : Nat} (h0 : 1 ≤ m) (h : m ≤ 19) : Fct m := by
  have hf := facts (m - 1) (List.mem_range.mpr (by omega))
  rw [show 1 + (m - 1) = m by omega] at hf
  unfold fact at hf
  simp only [Bool.and_eq_true, beq_iff_eq] at hf
  obtain ⟨f1, f2, f3, f4, f5, f6, f7, ⟨f8, f9⟩, f10⟩ := hf
  have hs : Shs (CH m) := ⟨by rw [CH_len]; omega, fun p hp => by have := List.all_eq_true.mp f1 p hp; rwa [Bool.and_eq_true] at this, consB_iff.mp f2⟩
  have hE : EG (CH m) = cel m := by
    have h1 : srtE (cel m) = EG (CH m) := srtE_EG (cel_nodup m) fun e => ⟨fun z => List.contains_iff_mem.mp (List.all_eq_true.mp f4 e z), fun z => List.contains_iff_mem.mp (List.all_eq_true.mp f5 e z)⟩
    have h2 : srt ((cel m).map tE) = (cel m).map tE := srt_of (consB_iff.mp f6)
    rw [← h1]
    unfold srtE
    rw [h2, List.map_map]
    conv => rhs; rw [← List.map_id (cel m)]
    exact List.map_congr_left fun e _ => unE_t e
  refine ⟨hs, f3, by unfold XE; rw [hE, f7], f8, f9, fun k hk => List.all_eq_true.mp f10 k (List.mem_range.mpr (by omega))⟩
theorem one_part {m : Nat} (h0 : 1 ≤ m) (h : m ≤ 19) {L : List (List Nat)} (hL : Out (CH m) [] L) : L = [List.range m] := by
  have f := fct h0 h
  have hM : Lw (CH m) (CH m).length [List.range m] := by
    rw [CH_len]
    refine ⟨by simp, fun p hp => ?_⟩
    rw [List.mem_singleton] at hp
    subst hp
    refine ⟨rng_asc m, fun z => ?_, fun i hi j hj _ => List.mem_range.mpr hj, fun P hP i hi j hj hh => ?_⟩
    · have := congrArg List.length z
      rw [List.length_range] at this
      have : m = 0 := this
      omega
    · have key : ∀ k, k < m → (P 0 ↔ P k) := fun k => by
        induction k with
        | zero => exact fun _ => Iff.rfl
        | succ k ih => exact fun hk => (ih (by omega)).trans (hP.iff (by omega) hk (f.ad k hk))
      exact (key j (List.mem_range.mp hj)).mp ((key i (List.mem_range.mp hi)).mpr hh)
  exact List.perm_singleton.mp (lw_perm hM (out_lw hL))
theorem rng_items (n : Nat) : rngD 0 (n : Int) = (List.range n).map iN := by
  unfold rngD
  rw [Int.sub_zero, Int.toNat_natCast]
  exact List.map_congr_left fun k _ => by rw [Int.zero_add]; rfl
theorem law_true (ns : List Int) (h : ns.length ≤ 63) : semLaw.f [PyData.list (ns.map PyData.int)] = Rs.ok (PyData.bool true, []) := by
  have hz := PySem.sizeLine_eq
  obtain ⟨c0, hc0, e0⟩ := cup_ok h
  generalize hscr : PyData.list (ns.map PyData.int) = scr at e0 ⊢
  obtain ⟨e, h1, h2⟩ := forGo_inv (asg := asgT (.nm 2)) (body := evS (mkG gl L31) false (.seq (.if_ (.not_ (.callm 30 1 (.nil))) (.seq (.ret (.cb false)) .nil) (.nil)) .nil))
    (fun xs env => ∃ c s2, Cup c ∧ Fre s2 ∧ env = [Sl.pd scr, .own c, s2, .no, .no, .no, .no, .no]) (rngD 0 6) [Sl.pd scr, .own c0, .no, .no, .no, .no, .no, .no] ⟨c0, .no, hc0, Fre.no, rfl⟩
    (fun x xs env ⟨c, s2, k1, k2, k3⟩ => by
      subst k3
      obtain ⟨c2, g6, g7⟩ := law_right_ok k1
      refine ⟨[Sl.pd scr, .own c, .pd x, .no, .no, .no, .no, .no], [Sl.pd scr, .own c2, .pd x, .no, .no, .no, .no, .no], ?_, .inl ?_, c2, .pd x, g6, Fre.pd, rfl⟩
      · cases s2 <;> first | rfl | exact absurd rfl (k2 _)
      · exact Evs.ok (Evs.seq (Evs.ifF (x := .bool false) (Ev.notb (k := true) (Ev.callm rfl rfl Ev.nil rfl rfl g7)) rfl Evs.nil) Evs.nil))
  obtain ⟨c1, s2, hc1, hf2, rfl⟩ := h2
  obtain ⟨r, c2, hr, hc2, er⟩ := roll_ok hc1 (n := 19) (by decide) (by decide)
  obtain ⟨m, hm⟩ : ∃ m, m = 1 + r := ⟨_, rfl⟩
  have m0 : 1 ≤ m := by omega
  have m1 : m ≤ 19 := by omega
  have f := fct m0 m1
  obtain ⟨L, hL, pa⟩ := shard_parts_ok f.shs
  rw [one_part m0 m1 hL] at pa
  have xa := edge_excess_ok f.shs
  have fa := fit_pairs_ok f.shs
  rw [f.fp, List.map_map] at fa
  rw [f.xe] at xa
  have hx : [[1], [(m : Int) + 1]].map (xR (CH m)) = [PyData.tuple [.tuple [.int 1], .int 1], .tuple [.tuple [.int ((m : Int) + 1)], .int (-1)]] := by
    show [PyData.tuple [.tuple [.int 1], .int (ex (CH m) [1])], .tuple [.tuple [.int ((m : Int) + 1)], .int (ex (CH m) [(m : Int) + 1])]] = _
    rw [f.x1, f.x2]
  rw [hx] at xa
  have hadd : Bop.add.f (.int 1) (.int (r : Int)) = some (.int (m : Int)) := by rw [hm]; exact one_plus r
  have w4 := lcA (G := mkG gl L31) (elt := .tup (.cons (.tup (.cons (.bin .add (.ci 1) (.peek 7)) .nil)) (.cons (.tup (.cons (.bin .add (.ci 2) (.peek 7)) .nil)) .nil))) (tg := .nm 7) (it := .rng1 (.var 3)) (own := [("at", 7)]) (env := [Sl.pd scr, .own c2, s2, .pd (.int (m : Int)), .no, .no, .no, .no])
    (List.range m) iN (fun k : Nat => shR ([(1 : Int) + (k : Int)], [(2 : Int) + (k : Int)])) (Ev.rng1 (Ev.var rfl) (rng_nat (by omega))) (congrArg some (rng_items m)) rfl (by rw [List.length_range]; omega) rfl rfl fun k hk =>
      ⟨[Sl.pd scr, .own c2, s2, .pd (.int (m : Int)), .no, .no, .no, .pd (iN k)], rfl, rfl, Ev.tup (Ev.cons rfl (Ev.tup (Ev.cons rfl (Ev.bin rfl Ev.ci (Ev.peek rfl) rfl) Ev.nil) (by show 1 ≤ _; omega)) (Ev.cons rfl (Ev.tup (Ev.cons rfl (Ev.bin rfl Ev.ci (Ev.peek rfl) rfl) Ev.nil) (by show 1 ≤ _; omega)) Ev.nil)) (by show 2 ≤ _; omega)⟩
  have e4 : (List.range m).map (fun k : Nat => shR ([(1 : Int) + (k : Int)], [(2 : Int) + (k : Int)])) = (CH m).map shR := by unfold CH; rw [List.map_map]; rfl
  rw [e4] at w4
  have hsub : Bop.sub.f (.int (m : Int)) (.int 1) = some (.int ((m - 1 : Nat) : Int)) := by
    show some (PyData.int ((m : Int) - 1)) = _
    congr 2; omega
  let T : D := .tuple [.tuple ((List.range (m - 1)).map (prD ∘ fun k => (k, k + 1))), .tuple [tN (List.range m)], .tuple [.tuple [.tuple [.int 1], .int 1], .tuple [.tuple [.int ((m : Int) + 1)], .int (-1)]]]
  have w6 := lcA (G := mkG gl L31) (elt := .tup (.cons (.var 7) (.cons (.bin .add (.peek 7) (.ci 1)) .nil))) (tg := .nm 7) (it := .rng1 (.bin .sub (.peek 3) (.ci 1))) (own := [("at", 7)]) (env := [Sl.pd scr, .own c2, s2, .pd (.int (m : Int)), .pd (shD (CH m)), .pd T, .no, .no])
    (List.range (m - 1)) iN (prD ∘ fun k => (k, k + 1)) (Ev.rng1 (Ev.binP Ev.ci rfl rfl hsub) (rng_nat (by omega))) (congrArg some (rng_items (m - 1))) rfl (by rw [List.length_range]; omega) rfl rfl fun k hk =>
      ⟨[Sl.pd scr, .own c2, s2, .pd (.int (m : Int)), .pd (shD (CH m)), .pd T, .no, .pd (iN k)], rfl, rfl, Ev.tup (Ev.cons rfl (Ev.var rfl) (Ev.cons rfl (Ev.binP Ev.ci rfl rfl rfl) Ev.nil)) (by show 2 ≤ _; omega)⟩
  have simT : Sim 5 T := by
    refine ⟨by show 3 ≤ _; omega, fun x hx => ?_⟩
    simp only [List.mem_cons, List.mem_nil_iff, or_false] at hx
    rcases hx with rfl | rfl | rfl
    · refine ⟨by rw [List.length_map, List.length_range]; omega, fun x hx => ?_⟩
      obtain ⟨k, _, rfl⟩ := List.mem_map.mp hx
      exact sim_up (sim_pr _)
    · refine ⟨by show 1 ≤ _; omega, fun x hx => ?_⟩
      rw [List.mem_singleton] at hx
      subst hx
      exact sim_up (sim_tN (by rw [List.length_range]; omega))
    · refine ⟨by show 2 ≤ _; omega, fun x hx => ?_⟩
      simp only [List.mem_cons, List.mem_nil_iff, or_false] at hx
      rcases hx with rfl | rfl
      · exact ⟨by show 2 ≤ _; omega, fun x hx => by
          simp only [List.mem_cons, List.mem_nil_iff, or_false] at hx
          rcases hx with rfl | rfl
          · exact ⟨by show 1 ≤ _; omega, fun x hx => by rw [List.mem_singleton] at hx; subst hx; trivial⟩
          · trivial⟩
      · exact ⟨by show 2 ≤ _; omega, fun x hx => by
          simp only [List.mem_cons, List.mem_nil_iff, or_false] at hx
          rcases hx with rfl | rfl
          · exact ⟨by show 1 ≤ _; omega, fun x hx => by rw [List.mem_singleton] at hx; subst hx; trivial⟩
          · trivial⟩
  have hr : (.tuple (rngD 0 (m : Int)) : D) = tN (List.range m) := congrArg PyData.tuple (rng_items m)
  have hlr : Bi.tuple.f [.list (rngD 0 (m : Int))] = some (tN (List.range m)) := by rw [← hr]; rfl
  apply sem_rt (F := f_law) (e1 := [Sl.pd scr, .own c2, s2, .pd (.int (m : Int)), .pd (shD (CH m)), .pd T, .pd T, .no])
  case hh => rfl
  case h =>
    show Evs _ _ b_law [Sl.pd scr, .no, .no, .no, .no, .no, .no, .no] _
    unfold b_law
    refine Evs.seq (Evs.set (Ev.call rfl (Ev.cons rfl (Ev.var rfl) Ev.nil) rfl e0) rfl) (Evs.seq (Evs.for_ (l := rngD 0 6) (Ev.rng1 Ev.ci (by decide)) rfl h1) ?_)
    refine Evs.seq (Evs.set (e2 := [Sl.pd scr, .own c2, s2, .pd (.int (m : Int)), .no, .no, .no, .no]) (Ev.bin rfl Ev.ci (Ev.callm rfl rfl (Ev.cons rfl Ev.ci Ev.nil) rfl rfl er) hadd) rfl) ?_
    refine Evs.seq (Evs.set (e2 := [Sl.pd scr, .own c2, s2, .pd (.int (m : Int)), .pd (shD (CH m)), .no, .no, .no]) (Ev.bi (Ev.cons rfl w4 Ev.nil) rfl) rfl) ?_
    refine Evs.seq (Evs.set (e2 := [Sl.pd scr, .own c2, s2, .pd (.int (m : Int)), .pd (shD (CH m)), .pd T, .no, .no]) (Ev.tup (Ev.cons rfl (Ev.call rfl (Ev.cons rfl (Ev.var rfl) Ev.nil) rfl fa) (Ev.cons rfl (Ev.call rfl (Ev.cons rfl (Ev.var rfl) Ev.nil) rfl pa) (Ev.cons rfl (Ev.call rfl (Ev.cons rfl (Ev.var rfl) Ev.nil) rfl xa) Ev.nil))) (by show 3 ≤ _; omega)) rfl) ?_
    refine Evs.seq (Evs.set (e2 := [Sl.pd scr, .own c2, s2, .pd (.int (m : Int)), .pd (shD (CH m)), .pd T, .pd T, .no]) (Ev.tup (Ev.cons rfl (Ev.bi (Ev.cons rfl w6 Ev.nil) rfl) (Ev.cons rfl (Ev.tup (Ev.cons rfl (Ev.bi (Ev.cons rfl (Ev.lrng (Ev.var rfl) (show (rngOk (m : Int) && decide ((m : Int) ≤ 16777216)) = true by rw [rng_nat (by omega), decide_eq_true (by omega)]; rfl)) Ev.nil) hlr) Ev.nil) (by show 1 ≤ _; omega))
      (Ev.cons rfl (Ev.tup (Ev.cons rfl (Ev.tup (Ev.cons rfl (Ev.tup (Ev.cons rfl Ev.ci Ev.nil) (by show 1 ≤ _; omega)) (Ev.cons rfl Ev.ci Ev.nil)) (by show 2 ≤ _; omega)) (Ev.cons rfl (Ev.tup (Ev.cons rfl (Ev.tup (Ev.cons rfl (Ev.binP Ev.ci rfl rfl rfl) Ev.nil) (by show 1 ≤ _; omega)) (Ev.cons rfl (Ev.neg Ev.ci) Ev.nil)) (by show 2 ≤ _; omega)) Ev.nil)) (by show 2 ≤ _; omega)) Ev.nil))) (by show 3 ≤ _; omega)) rfl) ?_
    exact Evs.seqX (Evs.ret (Ev.call rfl (Ev.cons rfl (Ev.var rfl) (Ev.cons rfl (Ev.var rfl) Ev.nil)) rfl (same5 simT)) rfl) (fun _ z => nomatch z)

end K26
open PySem PySem.W PyProof.Rows
set_option maxRecDepth 100000
set_option Elab.async false
set_option maxHeartbeats 0 in
theorem PySem.Challenge.cw_leadlights_k26_whole_fitting_shards_holds : PySem.Challenge.rw_leadlights_k26_whole_fitting_shards.Holds := by
  w_on; o_law; k_head; (case hw => w_witness2)
  k_fill
  refine L2.walk_of (l := PySem.Challenge.rw_leadlights_k26_whole_fitting_shards) (n := (PySem.Challenge.rw_leadlights_k26_whole_fitting_shards.most.getD 0)) (k := 32) (x := "script") (CX := fun _ => L2.CX0) (sp := fun w => Rv.spOf _ (fun _ => .none) K26.semLaw) rfl (by decide) rfl ⟨rfl, by decide, by decide⟩ (fun w h Y => PySem.W.kIn_of Y) ?F (fun _ H a ns hl _ hS => Rv.law_sp (n := 63) rfl rfl rfl K26.law_true H a ns hl hS) (fun _ _ _ _ _ h => h)
  case F =>
    intro w mg fa h KX G hmg 

    refine' K26.all_mk KX G hmg ?a0 ?l0 ?c0 ?k0 ?a1 ?l1 ?c1 ?k1 ?a2 ?l2 ?c2 ?k2 ?a3 ?l3 ?c3 ?k3 ?a4 ?l4 ?c4 ?k4 ?a5 ?l5 ?c5 ?k5 ?a6 ?l6 ?c6 ?k6 ?a7 ?l7 ?c7 ?k7 ?a8 ?l8 ?c8 ?k8 ?a9 ?l9 ?c9 ?k9 ?a10 ?l10 ?c10 ?k10 ?a11 ?l11 ?c11 ?k11 ?a12 ?l12 ?c12 ?k12 ?a13 ?l13 ?c13 ?k13 ?a14 ?l14 ?c14 ?k14 ?a15 ?l15 ?c15 ?k15 ?a16 ?l16 ?c16 ?k16 ?a17 ?l17 ?c17 ?k17 ?a18 ?l18 ?c18 ?k18 ?a19 ?l19 ?c19 ?k19 ?a20 ?l20 ?c20 ?k20 ?a21 ?l21 ?c21 ?k21 ?a22 ?l22 ?c22 ?k22 ?a23 ?l23 ?c23 ?k23 ?a24 ?l24 ?c24 ?k24 ?a25 ?l25 ?c25 ?k25 ?a26 ?l26 ?c26 ?k26 ?z_len ?z_abs ?z_int ?z_list ?z_tuple ?z_all ?z_any ?z_sum ?z_max ?z_min ?z_isinstance ?z_bool ?z_str ?z_range ?z_zip ?z_enumerate ?z_sorted ?z_set ?z_dict ?glb0 ?glb1 ?glb2 
    (case a0 => k_is)
    (case l0 => k_is)
    (case c0 => k_is)
    (case k0 => k_is)
    (case a1 => k_is)
    (case l1 => k_is)
    (case c1 => k_is)
    (case k1 => k_is)
    (case a2 => k_is)
    (case l2 => k_is)
    (case c2 => k_is)
    (case k2 => k_is)
    (case a3 => k_is)
    (case l3 => k_is)
    (case c3 => k_is)
    (case k3 => k_is)
    (case a4 => k_is)
    (case l4 => k_is)
    (case c4 => k_is)
    (case k4 => k_is)
    (case a5 => k_is)
    (case l5 => k_is)
    (case c5 => k_is)
    (case k5 => k_is)
    (case a6 => k_is)
    (case l6 => k_is)
    (case c6 => k_is)
    (case k6 => k_is)
    (case a7 => k_is)
    (case l7 => k_is)
    (case c7 => k_is)
    (case k7 => k_is)
    (case a8 => k_is)
    (case l8 => k_is)
    (case c8 => k_is)
    (case k8 => k_is)
    (case a9 => k_is)
    (case l9 => k_is)
    (case c9 => k_is)
    (case k9 => k_is)
    (case a10 => k_is)
    (case l10 => k_is)
    (case c10 => k_is)
    (case k10 => k_is)
    (case a11 => k_is)
    (case l11 => k_is)
    (case c11 => k_is)
    (case k11 => k_is)
    (case a12 => k_is)
    (case l12 => k_is)
    (case c12 => k_is)
    (case k12 => k_is)
    (case a13 => k_is)
    (case l13 => k_is)
    (case c13 => k_is)
    (case k13 => k_is)
    (case a14 => k_is)
    (case l14 => k_is)
    (case c14 => k_is)
    (case k14 => k_is)
    (case a15 => k_is)
    (case l15 => k_is)
    (case c15 => k_is)
    (case k15 => k_is)
    (case a16 => k_is)
    (case l16 => k_is)
    (case c16 => k_is)
    (case k16 => k_is)
    (case a17 => k_is)
    (case l17 => k_is)
    (case c17 => k_is)
    (case k17 => k_is)
    (case a18 => k_is)
    (case l18 => k_is)
    (case c18 => k_is)
    (case k18 => k_is)
    (case a19 => k_is)
    (case l19 => k_is)
    (case c19 => k_is)
    (case k19 => k_is)
    (case a20 => k_is)
    (case l20 => k_is)
    (case c20 => k_is)
    (case k20 => k_is)
    (case a21 => k_is)
    (case l21 => k_is)
    (case c21 => k_is)
    (case k21 => k_is)
    (case a22 => k_is)
    (case l22 => k_is)
    (case c22 => k_is)
    (case k22 => k_is)
    (case a23 => k_is)
    (case l23 => k_is)
    (case c23 => k_is)
    (case k23 => k_is)
    (case a24 => k_is)
    (case l24 => k_is)
    (case c24 => k_is)
    (case k24 => k_is)
    (case a25 => k_is)
    (case l25 => k_is)
    (case c25 => k_is)
    (case k25 => k_is)
    (case a26 => k_is)
    (case l26 => k_is)
    (case c26 => k_is)
    (case k26 => k_is)
    (case z_len => k_is)
    (case z_abs => k_is)
    (case z_int => k_is)
    (case z_list => k_is)
    (case z_tuple => k_is)
    (case z_all => k_is)
    (case z_any => k_is)
    (case z_sum => k_is)
    (case z_max => k_is)
    (case z_min => k_is)
    (case z_isinstance => k_is)
    (case z_bool => k_is)
    (case z_str => k_is)
    (case z_range => k_is)
    (case z_zip => k_is)
    (case z_enumerate => k_is)
    (case z_sorted => k_is)
    (case z_set => k_is)
    (case z_dict => k_is)
    (case glb0 => k_is)
    (case glb1 => k_is)
    (case glb2 => k_is)

