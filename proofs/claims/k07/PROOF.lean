import PyProof.Rows.All
import Wide.All
import OpenK.AllK
import Wide.FinOn
import PyProof.EqAt
import PyProof.EqKinds
import PyProof.TupleCall
import Open.SpecLaws
import KE.OsGo
import PySem.Challenge.RW_treesapartways_k07_whole_ties_inside_and
import HandS.ForMost
import HandS.Deep
import HandS.Exc
import HandS.ExcOwn
import HandS.WordsExc
import HandS.Flow
import HandS.Style
import HandS.Conv
import HandS.Zip
import HandS.SortOrd
import HandS.SortRule
import HandS.SortInts
import HandS.SortKw
import HandS.SetFor
import HandS.TupSets
import HandS.TupAny
import HandS.TupMul
import HandS.TupLe
import HandS.Strs
import HandS.Lambda
import HandS.ExcIs
import HandS.IsInst
import KE.KSortTupAny
import HandS.Dict
import KE.GoesEnum
import KE.GoesMore
import PyProof.EnumMake
import HandS.EndTab
import HandS.DictComp
import HandS.WordsDict
set_option Elab.async false
set_option linter.all false
set_option maxRecDepth 100000
/-! Z1: values as data, the relation between slots, heap and data -/
namespace ZZ
open PySem PySem.Spec PyProof.Rows L2

/-! ### results -/
inductive Res (α : Type) where
  | ok (a : α)
  | exc (c : Str) (as : List PyData)
  | err
def Res.bind {α β : Type} (x : Res α) (f : α → Res β) : Res β := match x with
  | .ok a => f a
  | .exc c as => .exc c as
  | .err => .err
instance : Monad Res where
  pure := Res.ok
  bind := Res.bind
section
variable {α β : Type}
@[simp] theorem ok_bind (a : α) (f : α → Res β) : (Res.ok a >>= f) = f a := rfl
@[simp] theorem exc_bind (c : Str) (as : List PyData) (f : α → Res β) : ((Res.exc c as : Res α) >>= f) = .exc c as := rfl
@[simp] theorem err_bind (f : α → Res β) : ((Res.err : Res α) >>= f) = .err := rfl
@[simp] theorem pure_eq (a : α) : (pure a : Res α) = .ok a := rfl
end

/-! ### data at a heap -/
abbrev Wt := Addr → Prop
def noH : Hp := fun _ => none
/-- a list, a tuple that may be read for ever: no address of W -/
def LsW (K : PySem.W.Frag) (W : Wt) (H : Hp) (a : Addr) (xs : List V) : Prop := ¬ W a ∧ Rd H a (.lst xs)
def TuW (K : PySem.W.Frag) (W : Wt) (H : Hp) (a : Addr) (xs : List V) : Prop := ¬ W a ∧ H a = some (.tup xs)
theorem noRd {a : Addr} {u : HO} (h : Rd noH a u) : False := by
  rcases h with h | ⟨o, h⟩ <;> cases h
theorem LsW.sq {K : PySem.W.Frag} {W : Wt} {H : Hp} {a : Addr} {xs : List V} (h : LsW K W H a xs) : SqL K H a xs := .inl h.2
theorem TuW.sq {K : PySem.W.Frag} {W : Wt} {H : Hp} {a : Addr} {xs : List V} (h : TuW K W H a xs) : SqT K H a xs := .inl (.inl h.2)
mutual
inductive Rp (K : PySem.W.Frag) (W : Wt) (H : Hp) : V → PyData → Prop
  | non : Rp K W H .non .none
  | bl (b : Bool) : Rp K W H (.bl b) (.bool b)
  | int (i : Int) : Rp K W H (.int i) (.int i)
  | str (x : Str) : Rp K W H (.str x) (.str x)
  | lst {a : Addr} {xs : List V} {ds : List PyData} : LsW K W H a xs → RpL K W H xs ds → Rp K W H (.ref a) (.list ds)
  | tup {a : Addr} {xs : List V} {ds : List PyData} : TuW K W H a xs → RpL K W H xs ds → Rp K W H (.ref a) (.tuple ds)
inductive RpL (K : PySem.W.Frag) (W : Wt) (H : Hp) : List V → List PyData → Prop
  | nil : RpL K W H [] []
  | cons {v : V} {vs : List V} {d : PyData} {ds : List PyData} : Rp K W H v d → RpL K W H vs ds → RpL K W H (v :: vs) (d :: ds)
end
section
variable {K : PySem.W.Frag} {W W' : Wt} {H H' : Hp}
theorem rd_keep {a : Addr} {u : HO} (h : Rd H a u) (hk : ∀ o, H a = some o → H' a = some o) : Rd H' a u := by
  rcases h with h | ⟨o, h⟩
  · exact .inl (hk _ h)
  · exact .inr ⟨o, hk _ h⟩
theorem rd_some {a : Addr} {u : HO} (h : Rd H a u) : H a ≠ none := by
  rcases h with h | ⟨o, h⟩ <;> rw [h] <;> simp
theorem LsW.keep {a : Addr} {xs : List V} (h : LsW K W H a xs) (hk : ∀ b o, ¬ W b → H b = some o → H' b = some o) (hw : ∀ b, W' b → W b ∨ H b = none) : LsW K W' H' a xs :=
  ⟨fun z => (hw a z).elim h.1 (rd_some h.2), rd_keep h.2 fun o e => hk a o h.1 e⟩
theorem TuW.keep {a : Addr} {xs : List V} (h : TuW K W H a xs) (hk : ∀ b o, ¬ W b → H b = some o → H' b = some o) (hw : ∀ b, W' b → W b ∨ H b = none) : TuW K W' H' a xs :=
  ⟨fun z => (hw a z).elim h.1 (fun e => by rw [h.2] at e; cases e), hk a _ h.1 h.2⟩
mutual
theorem Rp.keep (hk : ∀ b o, ¬ W b → H b = some o → H' b = some o) (hw : ∀ b, W' b → W b ∨ H b = none) : ∀ (d : PyData) {v : V}, Rp K W H v d → Rp K W' H' v d
  | .none, _, h => by cases h; exact .non
  | .bool b, _, h => by cases h; exact .bl b
  | .int i, _, h => by cases h; exact .int i
  | .str x, _, h => by cases h; exact .str x
  | .list ds, _, h => by
    cases h with
    | lst h1 h2 => exact .lst (h1.keep hk hw) (RpL.keep hk hw ds h2)
  | .tuple ds, _, h => by
    cases h with
    | tup h1 h2 => exact .tup (h1.keep hk hw) (RpL.keep hk hw ds h2)
  | .dict _, _, h => by cases h
theorem RpL.keep (hk : ∀ b o, ¬ W b → H b = some o → H' b = some o) (hw : ∀ b, W' b → W b ∨ H b = none) : ∀ (ds : List PyData) {vs : List V}, RpL K W H vs ds → RpL K W' H' vs ds
  | [], _, h => by cases h; exact .nil
  | d :: ds, _, h => by
    cases h with
    | cons h1 h2 => exact .cons (Rp.keep hk hw d h1) (RpL.keep hk hw ds h2)
end
mutual
theorem Rp.dp : ∀ (d : PyData) {v : V}, Rp K W H v d → Dp K H v d
  | .none, _, h => by cases h; exact .non
  | .bool b, _, h => by cases h; exact .bl b
  | .int i, _, h => by cases h; exact .int i
  | .str x, _, h => by cases h; exact .str x
  | .list ds, _, h => by
    cases h with
    | lst h1 h2 => exact .lst h1.sq (RpL.dp ds h2)
  | .tuple ds, _, h => by
    cases h with
    | tup h1 h2 => exact .tup h1.sq (RpL.dp ds h2)
  | .dict _, _, h => by cases h
theorem RpL.dp : ∀ (ds : List PyData) {vs : List V}, RpL K W H vs ds → DpAll K H vs ds
  | [], _, h => by cases h; exact .nil
  | d :: ds, _, h => by
    cases h with
    | cons h1 h2 => exact .cons (Rp.dp d h1) (RpL.dp ds h2)
end
theorem RpL.len {vs : List V} : ∀ {ds : List PyData}, RpL K W H vs ds → vs.length = ds.length := by
  induction vs with
  | nil => intro ds h; cases h; rfl
  | cons v vs ih => intro ds h; cases h with | cons h1 h2 => simp [ih h2]
theorem RpL.get : ∀ {vs : List V} {ds : List PyData} {i : Nat} {d : PyData}, RpL K W H vs ds → ds[i]? = some d → ∃ v, vs[i]? = some v ∧ Rp K W H v d
  | [], _, i, d, h, e => by cases h; simp at e
  | v :: vs, _, i, d, h, e => by
    cases h with
    | cons h1 h2 =>
      cases i with
      | zero => simp at e; subst e; exact ⟨v, rfl, h1⟩
      | succ i =>
        obtain ⟨u, e1, e2⟩ := RpL.get (i := i) h2 (by simpa using e)
        exact ⟨u, by simpa using e1, e2⟩
theorem RpL.get' : ∀ {vs : List V} {ds : List PyData} {i : Nat} {v : V}, RpL K W H vs ds → vs[i]? = some v → ∃ d, ds[i]? = some d ∧ Rp K W H v d
  | [], _, i, d, h, e => by simp at e
  | v :: vs, _, i, d, h, e => by
    cases h with
    | cons h1 h2 =>
      cases i with
      | zero => simp at e; subst e; exact ⟨_, rfl, h1⟩
      | succ i =>
        obtain ⟨u, e1, e2⟩ := RpL.get' (i := i) h2 (by simpa using e)
        exact ⟨u, by simpa using e1, e2⟩
theorem RpL.append : ∀ {vs ws : List V} {ds es : List PyData}, RpL K W H vs ds → RpL K W H ws es → RpL K W H (vs ++ ws) (ds ++ es)
  | [], _, _, _, h, q => by cases h; exact q
  | v :: vs, _, _, _, h, q => by cases h with | cons h1 h2 => exact .cons h1 (RpL.append h2 q)
theorem RpL.one {v : V} {d : PyData} (h : Rp K W H v d) : RpL K W H [v] [d] := .cons h .nil
theorem RpL.take : ∀ {vs : List V} {ds : List PyData} (n : Nat), RpL K W H vs ds → RpL K W H (vs.take n) (ds.take n)
  | _, _, 0, _ => .nil
  | [], _, _ + 1, h => by cases h; exact .nil
  | v :: vs, _, n + 1, h => by cases h with | cons h1 h2 => exact .cons h1 (RpL.take n h2)
theorem RpL.drop : ∀ {vs : List V} {ds : List PyData} (n : Nat), RpL K W H vs ds → RpL K W H (vs.drop n) (ds.drop n)
  | _, _, 0, h => h
  | [], _, _ + 1, h => by cases h; exact .nil
  | v :: vs, _, n + 1, h => by cases h with | cons h1 h2 => exact RpL.drop n h2
theorem RpL.set : ∀ {vs : List V} {ds : List PyData} {v : V} {d : PyData} (i : Nat), RpL K W H vs ds → Rp K W H v d → RpL K W H (vs.set i v) (ds.set i d)
  | [], _, _, _, _, h, _ => by cases h; exact .nil
  | u :: vs, _, _, _, 0, h, q => by cases h with | cons h1 h2 => exact .cons q h2
  | u :: vs, _, _, _, i + 1, h, q => by cases h with | cons h1 h2 => exact .cons h1 (RpL.set i h2 q)
theorem RpL.reverse : ∀ {vs : List V} {ds : List PyData}, RpL K W H vs ds → RpL K W H vs.reverse ds.reverse
  | [], _, h => by cases h; exact .nil
  | v :: vs, _, h => by
    cases h with
    | cons h1 h2 =>
      rw [List.reverse_cons, List.reverse_cons]
      exact RpL.append (RpL.reverse h2) (.one h1)
theorem RpL.ints : ∀ (is : List Int), RpL K W H (is.map V.int) (is.map PyData.int)
  | [] => .nil
  | i :: is => .cons (.int i) (RpL.ints is)
theorem RpL.ints_inv : ∀ {is : List Int} {vs : List V}, RpL K W H vs (is.map PyData.int) → vs = is.map V.int
  | [], _, h => by cases h; rfl
  | i :: is, _, h => by
    cases h with
    | cons h1 h2 =>
      cases h1
      rw [RpL.ints_inv h2]
      rfl
end

/-- a list that may change behind, its items may not -/
def RpB (K : PySem.W.Frag) (W : Wt) (H : Hp) (v : V) : PyData → Prop
  | .list ds => ∃ a xs, v = .ref a ∧ Rd H a (.lst xs) ∧ RpL K W H xs ds
  | d => Rp K W H v d
theorem Rp.b {K : PySem.W.Frag} {W : Wt} {H : Hp} {v : V} {d : PyData} (h : Rp K W H v d) : RpB K W H v d := by
  cases d with
  | list ds => cases h with | lst h1 h2 => exact ⟨_, _, rfl, h1.2, h2⟩
  | _ => exact h

/-- the table at a tells code objects of the name q alone -/
def TabR (W : Wt) (H : Hp) (a : Addr) (q : Str) : Prop := ∃ ps : Array Value, H a = some (.tbl ps) ∧ PySem.TriplesOk ps.toList ∧ ∀ (pos : Pos) (cv : Value), codeAmong pos ps.toList = some cv → ∃ c, cv = .ref c ∧ ¬ W c ∧ H c = some (LamX.CodeO c q)
/-! ### slots -/
inductive Slot where
  /-- a value: never changes -/
  | val (d : PyData)
  /-- a list or a dict that no one else holds -/
  | own (d : PyData)
  /-- just this -/
  | raw (v : V)
abbrev Rho := List (Option Slot)
def keyD : Key → PyData
  | .inl i => .int i
  | .inr x => .str x
section
variable (K : PySem.W.Frag) (W : Wt) (H : Hp)
def EntK (es : List (Key × V)) (kvs : List (PyData × PyData)) : Prop := Paired (fun e q => keyD e.1 = q.1 ∧ Rp K W H e.2 q.2) es kvs
def EntT (es : List (List Key × V)) (kvs : List (PyData × PyData)) : Prop := Paired (fun e q => .tuple (e.1.map keyD) = q.1 ∧ Rp K W H e.2 q.2) es kvs
def OwnR (v : V) : PyData → Prop
  | .list ds => ∃ a xs, v = .ref a ∧ H a = some (.lst xs) ∧ RpL K W H xs ds
  | .dict kvs => ∃ a es, v = .ref a ∧ H a = some (.dK es) ∧ EntK K W H es kvs
  | .tuple [.dict kvs] => ∃ a es, v = .ref a ∧ H a = some (.dT es) ∧ EntT K W H es kvs
  | .tuple [.str q, .int i] => ∃ a : Addr, v = .ref a ∧ (a : Int) = i ∧ TabR W H a q
  | _ => False
def SlotR (v : V) : Slot → Prop
  | .val d => Rp K W H v d
  | .own d => OwnR K W H v d
  | .raw u => v = u
end
theorem OwnR.ref {K : PySem.W.Frag} {W : Wt} {H : Hp} {v : V} {d : PyData} (h : OwnR K W H v d) : ∃ a, v = .ref a ∧ H a ≠ none := by
  unfold OwnR at h
  split at h
  · obtain ⟨a, xs, e, h, _⟩ := h; exact ⟨a, e, by rw [h]; simp⟩
  · obtain ⟨a, es, e, h, _⟩ := h; exact ⟨a, e, by rw [h]; simp⟩
  · obtain ⟨a, es, e, h, _⟩ := h; exact ⟨a, e, by rw [h]; simp⟩
  · obtain ⟨a, e, _, ⟨ps, h, _⟩⟩ := h; exact ⟨a, e, by rw [h]; simp⟩
  · exact h.elim
/-- kept, if its own object is kept too -/
theorem OwnR.keep {K : PySem.W.Frag} {W W' : Wt} {H H' : Hp} {v : V} {d : PyData} (h : OwnR K W H v d) (hk : ∀ b o, ¬ W b → H b = some o → H' b = some o) (hw : ∀ b, W' b → W b ∨ H b = none)
    (ho : ∀ a, v = .ref a → ∀ o, H a = some o → H' a = some o) : OwnR K W' H' v d := by
  unfold OwnR at h ⊢
  split at h
  · obtain ⟨a, xs, e, h, r⟩ := h; exact ⟨a, xs, e, ho a e _ h, RpL.keep hk hw _ r⟩
  · obtain ⟨a, es, e, h, r⟩ := h; exact ⟨a, es, e, ho a e _ h, Paired.mapP r fun p q z => ⟨z.1, Rp.keep hk hw _ z.2⟩⟩
  · obtain ⟨a, es, e, h, r⟩ := h; exact ⟨a, es, e, ho a e _ h, Paired.mapP r fun p q z => ⟨z.1, Rp.keep hk hw _ z.2⟩⟩
  · obtain ⟨a, e, ei, ⟨ps, h, t, r⟩⟩ := h
    refine ⟨a, e, ei, ⟨ps, ho a e _ h, t, fun pos cv hc => ?_⟩⟩
    obtain ⟨c, e1, e2, e3⟩ := r pos cv hc
    exact ⟨c, e1, (fun z => (hw c z).elim e2 fun n => by rw [n] at e3; cases e3), hk c _ e2 e3⟩
  · exact h.elim

def ownAt (σ : L2.St) (ρ : Rho) (b : Addr) : Prop := ∃ (i : Nat) (d : PyData), ρ[i]? = some (some (Slot.own d)) ∧ σ[i]? = some (some (V.ref b))
def av (Wo : Wt) (σ : L2.St) (ρ : Rho) : Wt := fun b => Wo b ∨ ownAt σ ρ b
abbrev pls (Wo : Wt) (p : Addr) : Wt := fun b => Wo b ∨ b = p

structure Rel (K : PySem.W.Frag) (prot : List Nat) (Wo : Wt) (σ : L2.St) (H : Hp) (ρ : Rho) : Prop where
  len : σ.length = ρ.length
  slot : ∀ (i : Nat) (s : Slot), ρ[i]? = some (some s) → ∃ v, σ[i]? = some (some v) ∧ SlotR K (av Wo σ ρ) H v s
  sep : ∀ (i j : Nat) (d e : PyData) (a : Addr), ρ[i]? = some (some (.own d)) → ρ[j]? = some (some (.own e)) → σ[i]? = some (some (.ref a)) → σ[j]? = some (some (.ref a)) → i = j
  wo : ∀ b, Wo b → H b ≠ none
  fr : ∀ (j : Nat) (d : PyData) (a : Addr), j ∉ prot → ρ[j]? = some (some (.own d)) → σ[j]? = some (some (.ref a)) → ¬ Wo a

structure Step (σ : L2.St) (H : Hp) (ρ : Rho) (σ' : L2.St) (H' : Hp) (ρ' : Rho) : Prop where
  keep : ∀ b o, ¬ ownAt σ ρ b → H b = some o → H' b = some o
  own : ∀ b, ownAt σ' ρ' b → ownAt σ ρ b ∨ H b = none
  there : ∀ b, H b ≠ none → H' b ≠ none
theorem Step.refl (σ : L2.St) (H : Hp) (ρ : Rho) : Step σ H ρ σ H ρ := ⟨fun _ _ _ h => h, fun _ h => .inl h, fun _ h => h⟩
theorem Step.trans {σ σ1 σ2 : L2.St} {H H1 H2 : Hp} {ρ ρ1 ρ2 : Rho} (a : Step σ H ρ σ1 H1 ρ1) (b : Step σ1 H1 ρ1 σ2 H2 ρ2) : Step σ H ρ σ2 H2 ρ2 where
  keep := fun c o n h => b.keep c o (fun z => (a.own c z).elim n fun e => by rw [h] at e; cases e) (a.keep c o n h)
  own := fun c h => by
    rcases b.own c h with z | z
    · exact a.own c z
    · refine .inr ?_
      cases e : H c with
      | none => rfl
      | some o => exact absurd z (a.there c (by rw [e]; simp))
  there := fun c h => b.there c (a.there c h)
theorem Same.step {σ : L2.St} {H H' : Hp} {ρ : Rho} (h : Same H H') : Step σ H ρ σ H' ρ := ⟨fun b o _ e => h b o e, fun _ h => .inl h, fun b n => by
  cases e : H b with
  | none => exact absurd e n
  | some o => rw [h b o e]; simp⟩
theorem same_upd {H : Hp} {p : Addr} {o : HO} (h : H p = none) : Same H (upd H p o) := fun b x e => by
  rw [upd_ne (ne_of_none e h)]
  exact e

section
variable {K : PySem.W.Frag} {prot : List Nat} {Wo : Wt} {σ σ' : L2.St} {H H' : Hp} {ρ ρ' : Rho}
/-- a value behind a step -/
theorem Rp.step {v : V} {d : PyData} (h : Rp K (av Wo σ ρ) H v d) (s : Step σ H ρ σ' H' ρ') : Rp K (av Wo σ' ρ') H' v d :=
  Rp.keep (fun b o n e => s.keep b o (fun z => n (.inr z)) e) (fun b z => z.elim (fun w => .inl (.inl w)) fun w => (s.own b w).elim (fun q => .inl (.inr q)) .inr) d h
theorem RpL.step {vs : List V} {ds : List PyData} (h : RpL K (av Wo σ ρ) H vs ds) (s : Step σ H ρ σ' H' ρ') : RpL K (av Wo σ' ρ') H' vs ds :=
  RpL.keep (fun b o n e => s.keep b o (fun z => n (.inr z)) e) (fun b z => z.elim (fun w => .inl (.inl w)) fun w => (s.own b w).elim (fun q => .inl (.inr q)) .inr) ds h
theorem Rp.plus {v : V} {d : PyData} {p : Addr} (h : Rp K (av (pls Wo p) σ ρ) H v d) : Rp K (av Wo σ ρ) H v d :=
  Rp.keep (fun _ _ _ e => e) (fun b z => .inl (z.elim (fun w => .inl (.inl w)) .inr)) d h
theorem Rel.same (r : Rel K prot Wo σ H ρ) (s : Same H H') : Rel K prot Wo σ H' ρ where
  len := r.len
  slot := fun i sl e => by
    obtain ⟨v, e1, h⟩ := r.slot i sl e
    refine ⟨v, e1, ?_⟩
    cases sl with
    | val d => exact Rp.keep (fun b o _ e => s b o e) (fun _ z => .inl z) d h
    | own d => exact OwnR.keep h (fun b o _ e => s b o e) (fun _ z => .inl z) fun a _ o e => s a o e
    | raw u => exact h
  sep := r.sep
  wo := fun b w => by
    cases e : H b with
    | none => exact absurd e (r.wo b w)
    | some o => rw [s b o e]; simp
  fr := r.fr
theorem Rel.plus {p : Addr} (r : Rel K prot (pls Wo p) σ H ρ) : Rel K prot Wo σ H ρ where
  len := r.len
  slot := fun i sl e => by
    obtain ⟨v, e1, h⟩ := r.slot i sl e
    refine ⟨v, e1, ?_⟩
    cases sl with
    | val d => exact Rp.plus h
    | own d => exact OwnR.keep h (fun b o _ e => e) (fun b z => .inl (z.elim (fun w => .inl (.inl w)) .inr)) fun a _ o e => e
    | raw u => exact h
  sep := r.sep
  wo := fun b w => r.wo b (.inl w)
  fr := fun j d a hj e1 e2 w => r.fr j d a hj e1 e2 (.inl w)
/-- a new object at p -/
theorem Rel.fresh' {p : Addr} (r : Rel K prot Wo σ H ρ) (s : Same H H') (hp : H p = none) (hp' : H' p ≠ none) : Rel K prot (pls Wo p) σ H' ρ where
  len := r.len
  slot := fun i sl e => by
    obtain ⟨v, e1, h⟩ := r.slot i sl e
    have hw : ∀ b, av (pls Wo p) σ ρ b → av Wo σ ρ b ∨ H b = none := fun b z => by
      rcases z with (z | z) | z
      · exact .inl (.inl z)
      · exact .inr (z ▸ hp)
      · exact .inl (.inr z)
    refine ⟨v, e1, ?_⟩
    cases sl with
    | val d => exact Rp.keep (fun b o _ e => s b o e) hw d h
    | own d => exact OwnR.keep h (fun b o _ e => s b o e) hw fun a _ o e => s a o e
    | raw u => exact h
  sep := r.sep
  wo := fun b w => by
    rcases w with w | w
    · cases e : H b with
      | none => exact absurd e (r.wo b w)
      | some o => rw [s b o e]; simp
    · rw [w]; exact hp'
  fr := fun j d a hj e1 e2 w => by
    rcases w with w | w
    · exact r.fr j d a hj e1 e2 w
    · obtain ⟨v, e3, h⟩ := r.slot j _ e1
      rw [e2] at e3
      cases e3
      obtain ⟨b, e4, n⟩ := OwnR.ref h
      cases e4
      rw [w] at n
      exact n hp
theorem Rel.fresh {p : Addr} {o : HO} (r : Rel K prot Wo σ H ρ) (hp : H p = none) : Rel K prot (pls Wo p) σ (upd H p o) ρ := r.fresh' (same_upd hp) hp (by rw [upd_same]; simp)
theorem Rel.own_some (r : Rel K prot Wo σ H ρ) {b : Addr} (h : ownAt σ ρ b) : H b ≠ none := by
  obtain ⟨i, d, e1, e2⟩ := h
  obtain ⟨v, e3, h⟩ := r.slot i _ e1
  rw [e2] at e3
  cases e3
  obtain ⟨a, e4, n⟩ := OwnR.ref h
  cases e4
  exact n
theorem Rel.av_some (r : Rel K prot Wo σ H ρ) {b : Addr} (h : av Wo σ ρ b) : H b ≠ none := h.elim (r.wo b) r.own_some
theorem Rel.new (r : Rel K prot Wo σ H ρ) {p : Addr} (hp : H p = none) : ¬ av Wo σ ρ p := fun z => r.av_some z hp
/-- data laid new at p: a tuple, a list -/
theorem Rp.tup_new {p : Addr} {xs : List V} {ds : List PyData} (hp : H p = none) (np : ¬ av Wo σ ρ p) (h : RpL K (av Wo σ ρ) H xs ds) : Rp K (av Wo σ ρ) (upd H p (.tup xs)) (.ref p) (.tuple ds) :=
  .tup ⟨np, upd_same⟩ (RpL.keep (fun b o _ e => same_upd hp b o e) (fun _ z => .inl z) ds h)
theorem Rp.lst_new {p : Addr} {xs : List V} {ds : List PyData} (hp : H p = none) (np : ¬ av Wo σ ρ p) (h : RpL K (av Wo σ ρ) H xs ds) : Rp K (av Wo σ ρ) (upd H p (.lst xs)) (.ref p) (.list ds) :=
  .lst ⟨np, .inl upd_same⟩ (RpL.keep (fun b o _ e => same_upd hp b o e) (fun _ z => .inl z) ds h)
theorem ownAt_set_val {j : Nat} {v : Option V} {s : Option Slot} (hs : ∀ d, s ≠ some (.own d)) {b : Addr} (h : ownAt (σ.set j v) (ρ.set j s) b) : ownAt σ ρ b := by
  obtain ⟨i, d, e1, e2⟩ := h
  by_cases hi : j = i
  · subst hi
    rw [List.getElem?_set] at e1
    simp only [if_true] at e1
    split at e1
    · exact absurd (Option.some.inj e1) (hs d)
    · cases e1
  · rw [List.getElem?_set_ne hi] at e1 e2
    exact ⟨i, d, e1, e2⟩
/-- a slot takes a value (or is forgotten) -/
theorem Rel.set {j : Nat} {v : Option V} {s : Option Slot} (r : Rel K prot Wo σ H ρ) (hs : ∀ d, s ≠ some (.own d)) (h : ∀ t, s = some t → ∃ u, v = some u ∧ SlotR K (av Wo σ ρ) H u t) : Rel K prot Wo (σ.set j v) H (ρ.set j s) := by
  have mono : ∀ b, av Wo (σ.set j v) (ρ.set j s) b → av Wo σ ρ b := fun b z => z.imp id (ownAt_set_val hs)
  have ne : ∀ (i : Nat) (d : PyData), (ρ.set j s)[i]? = some (some (.own d)) → j ≠ i ∧ ρ[i]? = some (some (.own d)) := fun i d e => by
    by_cases hi : j = i
    · subst hi
      rw [List.getElem?_set] at e
      simp only [if_true] at e
      split at e
      · exact absurd (Option.some.inj e) (hs d)
      · cases e
    · rw [List.getElem?_set_ne hi] at e
      exact ⟨hi, e⟩
  have up : ∀ (u : V) (t : Slot), SlotR K (av Wo σ ρ) H u t → SlotR K (av Wo (σ.set j v) (ρ.set j s)) H u t := fun u t q => by
    cases t with
    | val d => exact Rp.keep (fun _ _ _ e => e) (fun b z => .inl (mono b z)) d q
    | own d => exact OwnR.keep q (fun _ _ _ e => e) (fun b z => .inl (mono b z)) fun _ _ _ e => e
    | raw _ => exact q
  refine ⟨by simp [r.len], fun i t e => ?_, fun i k d e a h1 h2 h3 h4 => ?_, r.wo, fun i d a hi e1 e2 w => ?_⟩
  · by_cases hi : j = i
    · subst hi
      rw [List.getElem?_set] at e
      simp only [if_true] at e
      split at e
      · rename_i hl
        obtain ⟨u, e2, q⟩ := h t (Option.some.inj e)
        refine ⟨u, ?_, up u t q⟩
        rw [List.getElem?_set]
        simp only [if_true]
        rw [if_pos (by rw [r.len]; exact hl), e2]
      · cases e
    · rw [List.getElem?_set_ne hi] at e
      obtain ⟨u, e2, q⟩ := r.slot i t e
      exact ⟨u, by rw [List.getElem?_set_ne hi]; exact e2, up u t q⟩
  · obtain ⟨n1, h1⟩ := ne i d h1
    obtain ⟨n2, h2⟩ := ne k e h2
    rw [List.getElem?_set_ne n1] at h3
    rw [List.getElem?_set_ne n2] at h4
    exact r.sep i k d e a h1 h2 h3 h4
  · obtain ⟨n1, h1⟩ := ne i d e1
    rw [List.getElem?_set_ne n1] at e2
    exact r.fr i d a hi h1 e2 w
theorem Rel.set_val {j : Nat} {v : V} {d : PyData} (r : Rel K prot Wo σ H ρ) (h : Rp K (av Wo σ ρ) H v d) : Rel K prot Wo (σ.set j (some v)) H (ρ.set j (some (.val d))) :=
  r.set (fun _ e => by cases e) fun t e => by cases e; exact ⟨v, rfl, h⟩
theorem step_set {j : Nat} {v : Option V} {s : Option Slot} (hs : ∀ d, s ≠ some (.own d)) : Step σ H ρ (σ.set j v) H (ρ.set j s) :=
  ⟨fun _ _ _ e => e, fun b z => .inl (ownAt_set_val hs z), fun _ n => n⟩
theorem ownAt_set_own {j : Nat} {p : Addr} {d : PyData} {b : Addr} (h : ownAt (σ.set j (some (.ref p))) (ρ.set j (some (.own d))) b) : b = p ∨ ownAt σ ρ b := by
  obtain ⟨i, d', e1, e2⟩ := h
  by_cases hi : j = i
  · subst hi
    rw [List.getElem?_set] at e2
    simp only [if_true] at e2
    split at e2
    · cases e2; exact .inl rfl
    · cases e2
  · rw [List.getElem?_set_ne hi] at e1 e2
    exact .inr ⟨i, d', e1, e2⟩
/-- a slot takes a list or a dict of its own -/
theorem Rel.set_own {j : Nat} {p : Addr} {d : PyData} (r : Rel K prot (pls Wo p) σ H ρ) (n1 : ¬ Wo p) (n2 : ¬ ownAt σ ρ p) (h : OwnR K (av (pls Wo p) σ ρ) H (.ref p) d) : Rel K prot Wo (σ.set j (some (.ref p))) H (ρ.set j (some (.own d))) := by
  have mono : ∀ b, av Wo (σ.set j (some (.ref p))) (ρ.set j (some (.own d))) b → av (pls Wo p) σ ρ b := fun b z => by
    rcases z with z | z
    · exact .inl (.inl z)
    · rcases ownAt_set_own z with z | z
      · exact .inl (.inr z)
      · exact .inr z
  have up : ∀ (u : V) (t : Slot), SlotR K (av (pls Wo p) σ ρ) H u t → SlotR K (av Wo (σ.set j (some (.ref p))) (ρ.set j (some (.own d)))) H u t := fun u t q => by
    cases t with
    | val d => exact Rp.keep (fun _ _ _ e => e) (fun b z => .inl (mono b z)) d q
    | own d => exact OwnR.keep q (fun _ _ _ e => e) (fun b z => .inl (mono b z)) fun _ _ _ e => e
    | raw _ => exact q
  have at_j : ∀ {x : Option Slot}, (ρ.set j (some (.own d)))[j]? = some x → x = some (.own d) ∧ (σ.set j (some (V.ref p)))[j]? = some (some (.ref p)) := fun {x} e => by
    rw [List.getElem?_set] at e
    simp only [if_true] at e
    split at e
    · rename_i hl
      refine ⟨(Option.some.inj e).symm, ?_⟩
      rw [List.getElem?_set]
      simp only [if_true]
      rw [if_pos (by rw [r.len]; exact hl)]
    · cases e
  have not_p : ∀ (i : Nat) (d' : PyData), j ≠ i → ρ[i]? = some (some (.own d')) → σ[i]? = some (some (.ref p)) → False := fun i d' _ e1 e2 => n2 ⟨i, d', e1, e2⟩
  refine ⟨by simp [r.len], fun i t e => ?_, fun i k d1 d2 a h1 h2 h3 h4 => ?_, fun b w => r.wo b (.inl w), fun i d1 a hi e1 e2 w => ?_⟩
  · by_cases hi : j = i
    · subst hi
      obtain ⟨e3, e4⟩ := at_j e
      cases e3
      exact ⟨_, e4, up _ (.own d) h⟩
    · rw [List.getElem?_set_ne hi] at e
      obtain ⟨u, e2, q⟩ := r.slot i t e
      exact ⟨u, by rw [List.getElem?_set_ne hi]; exact e2, up u t q⟩
  · by_cases hi : j = i
    · subst hi
      by_cases hk : j = k
      · exact hk
      · obtain ⟨_, e4⟩ := at_j h1
        rw [e4] at h3; cases h3
        rw [List.getElem?_set_ne hk] at h2 h4
        exact (not_p k d2 hk h2 h4).elim
    · rw [List.getElem?_set_ne hi] at h1 h3
      by_cases hk : j = k
      · subst hk
        obtain ⟨_, e4⟩ := at_j h2
        rw [e4] at h4; cases h4
        exact (not_p i d1 hi h1 h3).elim
      · rw [List.getElem?_set_ne hk] at h2 h4
        exact r.sep i k d1 d2 a h1 h2 h3 h4
  · by_cases hj : j = i
    · subst hj
      obtain ⟨_, e4⟩ := at_j e1
      rw [e4] at e2; cases e2
      exact n1 w
    · rw [List.getElem?_set_ne hj] at e1 e2
      exact r.fr i d1 a hi e1 e2 (.inl w)
/-- an own object is written -/
theorem Rel.write {j : Nat} {a : Addr} {o : HO} {d d' : PyData} (r : Rel K prot Wo σ H ρ) (hj : ρ[j]? = some (some (.own d))) (ha : σ[j]? = some (some (.ref a))) (h : OwnR K (av Wo σ ρ) (upd H a o) (.ref a) d') : Rel K prot Wo σ (upd H a o) (ρ.set j (some (.own d'))) := by
  have hl : j < ρ.length := (List.getElem?_eq_some_iff.mp hj).1
  have same : ∀ b, ownAt σ (ρ.set j (some (.own d'))) b ↔ ownAt σ ρ b := fun b => by
    constructor
    · rintro ⟨i, e, e1, e2⟩
      by_cases hi : j = i
      · subst hi; exact ⟨j, d, hj, e2⟩
      · rw [List.getElem?_set_ne hi] at e1; exact ⟨i, e, e1, e2⟩
    · rintro ⟨i, e, e1, e2⟩
      by_cases hi : j = i
      · subst hi; exact ⟨j, d', by rw [List.getElem?_set_self hl], e2⟩
      · exact ⟨i, e, by rw [List.getElem?_set_ne hi]; exact e1, e2⟩
  have hav : ∀ b, av Wo σ (ρ.set j (some (.own d'))) b → av Wo σ ρ b := fun b z => z.imp id (same b).mp
  have oa : ownAt σ ρ a := ⟨j, d, hj, ha⟩
  have hk : ∀ b o', ¬ av Wo σ ρ b → H b = some o' → upd H a o b = some o' := fun b o' n e => by
    rw [upd_ne (fun z => n (.inr (by rw [z]; exact oa)))]; exact e
  have own_ix : ∀ (i : Nat) (e : PyData), (ρ.set j (some (.own d')))[i]? = some (some (.own e)) → ∃ e', ρ[i]? = some (some (.own e')) := fun i e q => by
    by_cases hi : j = i
    · subst hi; exact ⟨d, hj⟩
    · rw [List.getElem?_set_ne hi] at q; exact ⟨e, q⟩
  refine ⟨by simp [r.len], fun i t e => ?_, fun i k d1 d2 b h1 h2 h3 h4 => ?_, fun b w => ?_, fun i d1 b hi e1 e2 w => ?_⟩
  · by_cases hi : j = i
    · subst hi
      rw [List.getElem?_set_self hl] at e
      cases e
      exact ⟨_, ha, OwnR.keep h (fun _ _ _ e => e) (fun b z => .inl (hav b z)) fun _ _ _ e => e⟩
    · rw [List.getElem?_set_ne hi] at e
      obtain ⟨u, e2, q⟩ := r.slot i t e
      refine ⟨u, e2, ?_⟩
      cases t with
      | val d => exact Rp.keep hk (fun b z => .inl (hav b z)) d q
      | own d2 =>
        refine OwnR.keep q hk (fun b z => .inl (hav b z)) fun c ec o' eo => ?_
        subst ec
        rw [upd_ne]
        · exact eo
        · intro z
          subst z
          exact hi (r.sep j i d d2 c hj e ha e2)
      | raw _ => exact q
  · obtain ⟨x, h1⟩ := own_ix i d1 h1
    obtain ⟨y, h2⟩ := own_ix k d2 h2
    exact r.sep i k x y b h1 h2 h3 h4
  · by_cases hb : b = a
    · rw [hb, upd_same]; simp
    · rw [upd_ne hb]; exact r.wo b w
  · obtain ⟨x, e1⟩ := own_ix i d1 e1
    exact r.fr i x b hi e1 e2 w
theorem step_write {j : Nat} {a : Addr} {o : HO} {d d' : PyData} (hj : ρ[j]? = some (some (.own d))) (ha : σ[j]? = some (some (.ref a))) : Step σ H ρ σ (upd H a o) (ρ.set j (some (.own d'))) := by
  have oa : ownAt σ ρ a := ⟨j, d, hj, ha⟩
  refine ⟨fun b o' n e => ?_, fun b z => ?_, fun b n => ?_⟩
  · rw [upd_ne (fun z => n (by rw [z]; exact oa))]; exact e
  · obtain ⟨i, e, e1, e2⟩ := z
    by_cases hi : j = i
    · subst hi; exact .inl ⟨j, d, hj, e2⟩
    · rw [List.getElem?_set_ne hi] at e1; exact .inl ⟨i, e, e1, e2⟩
  · by_cases hb : b = a
    · rw [hb, upd_same]; simp
    · rw [upd_ne hb]; exact n
end
end ZZ

/-! Z2: contexts, judgements -/
namespace ZZ
open PySem PySem.Spec PyProof.Rows L2

/-! ### what an exception is -/
def ExcR (mg : Str → Option Value) (c : Str) (as : List PyData) (cls : Value) (dd : Option Addr) (H : Hp) : Prop := mg c = some cls ∧ dd = none
structure Kept (σ : L2.St) (ρ : Rho) (H H' : Hp) : Prop where
  keep : ∀ b o, ¬ ownAt σ ρ b → H b = some o → H' b = some o
  there : ∀ b, H b ≠ none → H' b ≠ none
theorem Kept.of_step {σ σ1 : L2.St} {H H1 H2 : Hp} {ρ ρ1 : Rho} (a : Step σ H ρ σ1 H1 ρ1) (b : Kept σ1 ρ1 H1 H2) : Kept σ ρ H H2 where
  keep := fun c o n h => b.keep c o (fun z => (a.own c z).elim n fun e => by rw [h] at e; cases e) (a.keep c o n h)
  there := fun c h => b.there c (a.there c h)

/-! ### contexts -/
structure Cz (ι : Type) where
  F : ι → Cx
  P : Program
  w : World
  K : PySem.W.Frag
  mg : Str → Option Value
  base : Heap
  EX : XK
  prot : List Nat
  k : Nat
  hP : ∀ i, (F i).prog = P
  hw : ∀ i, (F i).w = w
  hK : ∀ i, (F i).K = K
  hmg : ∀ i, (F i).mg = mg
  hb : ∀ i, (F i).base = base
  nd : ∀ i, (F i).N.Nodup
  cm : Prop
  calm : cm → ∀ i, (F i).calm = true
  room : cm → ∀ i, Room k (F i).A
  un : ∀ i, (F i).A.units + 200 < cLine
  tk : ∀ i, Takes (F i) (fun cls d _ H => EX cls d H)
  pO : ∀ i, PassesOwn (model (F i).prog (F i).w) (F i).A (F i).env (F i).xe

def Bd (K : PySem.W.Frag) (H : Hp) : Prop := (∀ a xs, SqL K H a xs → xs.length ≤ sizeLine) ∧ (∀ a xs, SqT K H a xs → xs.length ≤ sizeLine)
theorem bd_of {X : Cx} {pins : List (Addr × Obj)} {σ : L2.St} {H : Hp} {s : Shared} (I : Inv X pins σ H s) : Bd X.K H :=
  ⟨fun a xs h => (I.list h).elim fun _ q => q.2.2, fun a xs h => (I.tuple h).elim fun _ q => q.2.2⟩

section
variable {ι : Type} (Z : Cz ι)
def RQ (σ : L2.St) (H : Hp) (ρ : Rho) {α : Type} (r : Res α) (good : α → Prop) : Prop := match r with
  | .ok a => good a
  | .exc c as => ∀ cls dd H', Kept σ ρ H H' → ExcR Z.mg c as cls dd H' → Z.EX cls dd H'
  | .err => False
abbrev RelZ (Wo : Wt) (σ : L2.St) (H : Hp) (ρ : Rho) : Prop := Rel Z.K Z.prot Wo σ H ρ
def GE (Wo : Wt) (σ : L2.St) (H : Hp) (ρ : Rho) (Q : VK) (r : PyData × Rho) : Prop :=
  ∀ v H', Bd Z.K H' → RelZ Z Wo σ H' r.2 → Rp Z.K (av Wo σ r.2) H' v r.1 → Step σ H ρ σ H' r.2 → Q v H'
/-- read now -/
def GB (Wo : Wt) (σ : L2.St) (H : Hp) (ρ : Rho) (Q : VK) (r : PyData × Rho) : Prop :=
  ∀ v H', Bd Z.K H' → RelZ Z Wo σ H' r.2 → RpB Z.K (av Wo σ r.2) H' v r.1 → Step σ H ρ σ H' r.2 → Q v H'
/-- a fresh list or dict -/
def GO (Wo : Wt) (σ : L2.St) (H : Hp) (ρ : Rho) (Q : VK) (r : PyData × Rho) : Prop :=
  ∀ p H', Bd Z.K H' → Rel Z.K Z.prot (pls Wo p) σ H' r.2 → ¬ Wo p → ¬ ownAt σ r.2 p → OwnR Z.K (av (pls Wo p) σ r.2) H' (.ref p) r.1 → Step σ H ρ σ H' r.2 → H p = none → Q (.ref p) H'
def GT (Wo : Wt) (σ : L2.St) (H : Hp) (ρ : Rho) (Q : Bool → Hp → Prop) (r : Bool × Rho) : Prop :=
  ∀ H', Bd Z.K H' → RelZ Z Wo σ H' r.2 → Step σ H ρ σ H' r.2 → Q r.1 H'
abbrev EM := Rho → Res (PyData × Rho)
abbrev TM := Rho → Res (Bool × Rho)
def SimE (t : TE) (m : EM) : Prop := ∀ Wo σ H ρ Q, RelZ Z Wo σ H ρ → RQ Z σ H ρ (m ρ) (GE Z Wo σ H ρ Q) → t σ H Q
def SimB (t : TE) (m : EM) : Prop := ∀ Wo σ H ρ Q, RelZ Z Wo σ H ρ → RQ Z σ H ρ (m ρ) (GB Z Wo σ H ρ Q) → t σ H Q
def SimO (t : TE) (m : EM) : Prop := ∀ Wo σ H ρ Q, RelZ Z Wo σ H ρ → RQ Z σ H ρ (m ρ) (GO Z Wo σ H ρ Q) → t σ H Q
def SimT (t : TT) (m : TM) : Prop := ∀ Wo σ H ρ Q, RelZ Z Wo σ H ρ → RQ Z σ H ρ (m ρ) (GT Z Wo σ H ρ Q) → t σ H Q
structure DE (e : Expr) (m : EM) : Prop where
  ex : ∃ t, (∀ i, PE (Z.F i) e t) ∧ SimE Z t m
structure DB (e : Expr) (m : EM) : Prop where
  ex : ∃ t, (∀ i, PE (Z.F i) e t) ∧ SimB Z t m
structure DO (e : Expr) (m : EM) : Prop where
  ex : ∃ t, (∀ i, PE (Z.F i) e t) ∧ SimO Z t m
structure DT (e : Expr) (m : TM) : Prop where
  ex : ∃ t, (∀ i, PT (Z.F i) e t) ∧ SimT Z t m
/-- as above, whatever the whole is -/
structure DW (e : Expr) (m : TM) : Prop where
  ex : ∃ t, (∀ i, PW (Z.F i) e t) ∧ SimT Z t m
end

section
variable {ι : Type} {Z : Cz ι} {Wo : Wt} {σ : L2.St} {H : Hp} {ρ : Rho}
theorem RQ.imp {α : Type} {r : Res α} {g g' : α → Prop} (h : RQ Z σ H ρ r g) (f : ∀ a, g a → g' a) : RQ Z σ H ρ r g' := by
  cases r with
  | ok a => exact f a h
  | exc c as => exact h
  | err => exact h
theorem RQ.imp' {α : Type} {r : Res α} {g g' : α → Prop} (h : RQ Z σ H ρ r g) (f : ∀ a, r = .ok a → g a → g' a) : RQ Z σ H ρ r g' := by
  cases r with
  | ok a => exact f a rfl h
  | exc c as => exact h
  | err => exact h
theorem RQ.bind {α β : Type} {r : Res α} {f : α → Res β} {g : β → Prop} (h : RQ Z σ H ρ (r >>= f) g) : RQ Z σ H ρ r fun a => RQ Z σ H ρ (f a) g := by
  cases r with
  | ok a => exact h
  | exc c as => exact h
  | err => exact h
theorem RQ.step {σ1 : L2.St} {H1 : Hp} {ρ1 : Rho} {α : Type} {r : Res α} {g : α → Prop} (h : RQ Z σ H ρ r g) (s : Step σ H ρ σ1 H1 ρ1) : RQ Z σ1 H1 ρ1 r g := by
  cases r with
  | ok a => exact h
  | exc c as => exact fun cls dd H' k e => h cls dd H' (.of_step s k) e
  | err => exact h
theorem RQ.ok {α : Type} {a : α} {g : α → Prop} (h : RQ Z σ H ρ (.ok a) g) : g a := h

/-! ### what is known of sizes -/
theorem lockE {X : Cx} {K : PySem.W.Frag} {e : Expr} {t : TE} (hK : X.K = K) (h : PE X e t) : PE X e (fun σ H Q => Bd K H → t σ H fun v H' => Bd K H' → Q v H') :=
  ⟨fun pins s σ H Q I hw => by
    subst hK
    exact thn (h.run pins s σ H _ I (hw (bd_of I))) fun v s' ⟨x, H', I', r, q⟩ => ⟨x, H', I', r, q (bd_of I')⟩⟩
theorem lockT {X : Cx} {K : PySem.W.Frag} {e : Expr} {t : TT} (hK : X.K = K) (h : PT X e t) : PT X e (fun σ H Q => Bd K H → t σ H fun v H' => Bd K H' → Q v H') :=
  ⟨fun pins s σ H Q I hw => by
    subst hK
    exact thn (h.run pins s σ H _ I (hw (bd_of I))) fun v s' ⟨H', I', q⟩ => ⟨H', I', q (bd_of I')⟩⟩
theorem lockW {X : Cx} {K : PySem.W.Frag} {e : Expr} {t : TT} (hK : X.K = K) (h : PW X e t) : PW X e (fun σ H Q => Bd K H → t σ H fun v H' => Bd K H' → Q v H') :=
  ⟨fun wh pins s σ H Q I hw => by
    subst hK
    exact thn (h.run wh pins s σ H _ I (hw (bd_of I))) fun v s' ⟨H', I', q⟩ => ⟨H', I', q (bd_of I')⟩⟩
def ge0 (Z : Cz ι) (Wo : Wt) (σ : L2.St) (H : Hp) (ρ : Rho) (Q : VK) (r : PyData × Rho) : Prop :=
  ∀ v H', RelZ Z Wo σ H' r.2 → Rp Z.K (av Wo σ r.2) H' v r.1 → Step σ H ρ σ H' r.2 → Q v H'
def gb0 (Z : Cz ι) (Wo : Wt) (σ : L2.St) (H : Hp) (ρ : Rho) (Q : VK) (r : PyData × Rho) : Prop :=
  ∀ v H', RelZ Z Wo σ H' r.2 → RpB Z.K (av Wo σ r.2) H' v r.1 → Step σ H ρ σ H' r.2 → Q v H'
def go0 (Z : Cz ι) (Wo : Wt) (σ : L2.St) (H : Hp) (ρ : Rho) (Q : VK) (r : PyData × Rho) : Prop :=
  ∀ p H', Rel Z.K Z.prot (pls Wo p) σ H' r.2 → ¬ Wo p → ¬ ownAt σ r.2 p → OwnR Z.K (av (pls Wo p) σ r.2) H' (.ref p) r.1 → Step σ H ρ σ H' r.2 → H p = none → Q (.ref p) H'
def gt0 (Z : Cz ι) (Wo : Wt) (σ : L2.St) (H : Hp) (ρ : Rho) (Q : Bool → Hp → Prop) (r : Bool × Rho) : Prop :=
  ∀ H', RelZ Z Wo σ H' r.2 → Step σ H ρ σ H' r.2 → Q r.1 H'
theorem DE.mk' {e : Expr} {t : TE} {m : EM} (h : ∀ i, PE (Z.F i) e t) (s : ∀ Wo σ H ρ Q, Bd Z.K H → RelZ Z Wo σ H ρ → RQ Z σ H ρ (m ρ) (ge0 Z Wo σ H ρ Q) → t σ H Q) : DE Z e m :=
  ⟨_, fun i => lockE (Z.hK i) (h i), fun Wo σ H ρ Q rel post bd => s Wo σ H ρ _ bd rel (post.imp fun _ g v H' r1 r2 st bd' => g v H' bd' r1 r2 st)⟩
theorem DB.mk' {e : Expr} {t : TE} {m : EM} (h : ∀ i, PE (Z.F i) e t) (s : ∀ Wo σ H ρ Q, Bd Z.K H → RelZ Z Wo σ H ρ → RQ Z σ H ρ (m ρ) (gb0 Z Wo σ H ρ Q) → t σ H Q) : DB Z e m :=
  ⟨_, fun i => lockE (Z.hK i) (h i), fun Wo σ H ρ Q rel post bd => s Wo σ H ρ _ bd rel (post.imp fun _ g v H' r1 r2 st bd' => g v H' bd' r1 r2 st)⟩
theorem DO.mk' {e : Expr} {t : TE} {m : EM} (h : ∀ i, PE (Z.F i) e t) (s : ∀ Wo σ H ρ Q, Bd Z.K H → RelZ Z Wo σ H ρ → RQ Z σ H ρ (m ρ) (go0 Z Wo σ H ρ Q) → t σ H Q) : DO Z e m :=
  ⟨_, fun i => lockE (Z.hK i) (h i), fun Wo σ H ρ Q rel post bd => s Wo σ H ρ _ bd rel (post.imp fun _ g p H' r1 n1 n2 o st hp bd' => g p H' bd' r1 n1 n2 o st hp)⟩
theorem DT.mk' {e : Expr} {t : TT} {m : TM} (h : ∀ i, PT (Z.F i) e t) (s : ∀ Wo σ H ρ Q, Bd Z.K H → RelZ Z Wo σ H ρ → RQ Z σ H ρ (m ρ) (gt0 Z Wo σ H ρ Q) → t σ H Q) : DT Z e m :=
  ⟨_, fun i => lockT (Z.hK i) (h i), fun Wo σ H ρ Q rel post bd => s Wo σ H ρ _ bd rel (post.imp fun _ g H' r1 st bd' => g H' bd' r1 st)⟩
theorem DW.mk' {e : Expr} {t : TT} {m : TM} (h : ∀ i, PW (Z.F i) e t) (s : ∀ Wo σ H ρ Q, Bd Z.K H → RelZ Z Wo σ H ρ → RQ Z σ H ρ (m ρ) (gt0 Z Wo σ H ρ Q) → t σ H Q) : DW Z e m :=
  ⟨_, fun i => lockW (Z.hK i) (h i), fun Wo σ H ρ Q rel post bd => s Wo σ H ρ _ bd rel (post.imp fun _ g H' r1 st bd' => g H' bd' r1 st)⟩
theorem DW.dt {e : Expr} {m : TM} (h : DW Z e m) : DT Z e m := let ⟨t, h1, h2⟩ := h.ex; ⟨t, fun i => (h1 i).pt, h2⟩
theorem Rp.free {K : PySem.W.Frag} {W : Wt} {H : Hp} {v : V} {d : PyData} (h : Rp K W H v d) : Rp K (fun _ => False) H v d := Rp.keep (fun _ _ _ e => e) (fun _ z => z.elim) d h
theorem RpL.free {K : PySem.W.Frag} {W : Wt} {H : Hp} {v : List V} {d : List PyData} (h : RpL K W H v d) : RpL K (fun _ => False) H v d := RpL.keep (fun _ _ _ e => e) (fun _ z => z.elim) d h
theorem DE.db {e : Expr} {m : EM} (h : DE Z e m) : DB Z e m := let ⟨t, h1, h2⟩ := h.ex; ⟨t, h1, fun Wo σ H ρ Q rel post => h2 Wo σ H ρ Q rel (post.imp fun r g v H' bd rl rp st => g v H' bd rl rp.b st)⟩
/-- a fresh list given up to be a value -/
theorem DO.de {e : Expr} {m : EM} (h : DO Z e m) : DE Z e (fun ρ => m ρ >>= fun r => match r.1 with | .list ds => .ok (.list ds, r.2) | _ => .err) := by
  obtain ⟨t, h1, h2⟩ := h.ex
  refine ⟨t, h1, fun Wo σ H ρ Q rel post => h2 Wo σ H ρ Q rel (post.bind.imp fun r g p H' bd rl n1 n2 o st hp => ?_)⟩
  obtain ⟨d, ρ'⟩ := r
  cases d with
  | list ds =>
    obtain ⟨a, xs, e1, e2, e3⟩ := o
    cases e1
    refine g _ H' bd rl.plus ?_ st
    exact .lst ⟨fun z => z.elim n1 n2, .inl e2⟩ (RpL.keep (fun _ _ _ e => e) (fun b z => .inl (z.imp (fun w => .inl w) id)) ds e3)
  | _ => exact False.elim g

/-! ### names, constants -/
def mVar (j : Nat) : EM := fun ρ => match ρ[j]? with
  | some (some (.val d)) => .ok (d, ρ)
  | _ => .err
def mCon (d : PyData) : EM := fun ρ => .ok (d, ρ)
theorem de_var {j : Nat} {x : Str} {pos : Pos} (hN : ∀ i, (Z.F i).N[j]? = some x) (hv : ∀ i, Vis (Z.F i).env.scope x) (hd : (x == ("__debug__" : Str)) = false := by decide) (hcd : (x == ("__classdict__" : Str)) = false := by decide) : DE Z (.Name x pos) (mVar j) := by
  refine .mk' (fun i => pe_var (hN i) (hv i) hd hcd) fun Wo σ H ρ Q bd rel post => ?_
  unfold mVar at post
  split at post
  · rename_i d e
    obtain ⟨v, e1, h⟩ := rel.slot j _ e
    exact ⟨v, e1, post.ok v H rel h (.refl ..)⟩
  · exact post.elim
theorem de_int {n : Int} {j pos} : DE Z (.Constant (.int n) j pos) (mCon (.int n)) := .mk' (fun i => pe_int) fun Wo σ H ρ Q bd rel post => post.ok _ H rel (.int n) (.refl ..)
theorem de_bl {b : Bool} {j pos} : DE Z (.Constant (.bool b) j pos) (mCon (.bool b)) := .mk' (fun i => pe_bl) fun Wo σ H ρ Q bd rel post => post.ok _ H rel (.bl b) (.refl ..)
theorem de_non {j pos} : DE Z (.Constant .none j pos) (mCon .none) := .mk' (fun i => pe_non) fun Wo σ H ρ Q bd rel post => post.ok _ H rel .non (.refl ..)
theorem de_str {x : Str} {j pos} : DE Z (.Constant (.str x) j pos) (mCon (.str x)) := .mk' (fun i => pe_str) fun Wo σ H ρ Q bd rel post => post.ok _ H rel (.str x) (.refl ..)
/-- a module's constant -/
theorem de_globI {x : Str} {n : Int} {t : Tok} {pos : Pos} (hg : ∀ i, Gl (Z.F i) x) (hm : Z.mg x = some (.int n t)) (hd : (x == ("__debug__" : Str)) = false := by decide) : DE Z (.Name x pos) (mCon (.int n)) :=
  .mk' (t := tC (.int n)) (fun i => pe_glob (hg i) (by rw [Z.hmg]; exact hm) ⟨t, rfl⟩ hd) fun Wo σ H ρ Q bd rel post => post.ok _ H rel (.int n) (.refl ..)
theorem de_globS {x y : Str} {t : Tok} {pos : Pos} (hg : ∀ i, Gl (Z.F i) x) (hm : Z.mg x = some (.str y t)) (hd : (x == ("__debug__" : Str)) = false := by decide) : DE Z (.Name x pos) (mCon (.str y)) :=
  .mk' (t := tC (.str y)) (fun i => pe_glob (hg i) (by rw [Z.hmg]; exact hm) ⟨t, rfl⟩ hd) fun Wo σ H ρ Q bd rel post => post.ok _ H rel (.str y) (.refl ..)

/-- an own list (or a value) read now -/
def mPk (j : Nat) : EM := fun ρ => match ρ[j]? with
  | some (some (.val d)) => .ok (d, ρ)
  | some (some (.own (.list ds))) => .ok (.list ds, ρ)
  | _ => .err
theorem db_var {j : Nat} {x : Str} {pos : Pos} (hN : ∀ i, (Z.F i).N[j]? = some x) (hv : ∀ i, Vis (Z.F i).env.scope x) (hd : (x == ("__debug__" : Str)) = false := by decide) (hcd : (x == ("__classdict__" : Str)) = false := by decide) : DB Z (.Name x pos) (mPk j) := by
  refine .mk' (fun i => pe_var (hN i) (hv i) hd hcd) fun Wo σ H ρ Q bd rel post => ?_
  unfold mPk at post
  split at post
  · rename_i d e
    obtain ⟨v, e1, h⟩ := rel.slot j _ e
    exact ⟨v, e1, post.ok v H rel (Rp.b h) (.refl ..)⟩
  · rename_i ds e
    obtain ⟨v, e1, a, xs, h1, h2, h3⟩ := rel.slot j _ e
    exact ⟨v, e1, post.ok v H rel ⟨a, xs, h1, .inl h2, h3⟩ (.refl ..)⟩
  · exact post.elim

/-! ### operations on values -/
def Imp1 (K : PySem.W.Frag) (r : V → Hp → VK → Prop) (sem : PyData → Res PyData) : Prop :=
  ∀ (W : Wt) (H : Hp) (x : V) (d : PyData) (Q : VK), (∀ b, W b → H b ≠ none) → Bd K H → RpB K W H x d →
    (∃ g, sem d = .ok g ∧ ∀ v H', Same H H' → Rp K W H' v g → Q v H') → r x H Q
def Imp2 (K : PySem.W.Frag) (r : R2) (sem : PyData → PyData → Res PyData) : Prop :=
  ∀ (W : Wt) (H : Hp) (x y : V) (d e : PyData) (Q : VK), (∀ b, W b → H b ≠ none) → Bd K H → Rp K W H x d → Rp K W H y e →
    (∃ g, sem d e = .ok g ∧ ∀ v H', Same H H' → Rp K W H' v g → Q v H') → r x y H Q
/-- a pure operation never raises -/
def Pure1 (sem : PyData → Res PyData) : Prop := ∀ d c as, sem d ≠ .exc c as
def Pure2 (sem : PyData → PyData → Res PyData) : Prop := ∀ d e c as, sem d e ≠ .exc c as
def mBin (sem : PyData → PyData → Res PyData) (ma mb : EM) : EM := fun ρ => ma ρ >>= fun r1 => mb r1.2 >>= fun r2 => sem r1.1 r2.1 >>= fun g => .ok (g, r2.2)
def mUn (sem : PyData → Res PyData) (ma : EM) : EM := fun ρ => ma ρ >>= fun r1 => sem r1.1 >>= fun g => .ok (g, r1.2)
theorem RQ.pure {α : Type} {r : Res α} {g : α → Prop} (h : RQ Z σ H ρ r g) (p : ∀ c as, r ≠ .exc c as) : ∃ a, r = .ok a ∧ g a := by
  cases r with
  | ok a => exact ⟨a, rfl, h⟩
  | exc c as => exact absurd rfl (p c as)
  | err => exact h.elim
/-- two in a row -/
theorem sim2 {ta tb : TE} {ma mb : EM} {r : R2} {sem : PyData → PyData → Res PyData} (sa : SimE Z ta ma) (sb : SimE Z tb mb) (im : Imp2 Z.K r sem) (pu : Pure2 sem) :
    ∀ Wo σ H ρ Q, Bd Z.K H → RelZ Z Wo σ H ρ → RQ Z σ H ρ (mBin sem ma mb ρ) (ge0 Z Wo σ H ρ Q) → tOp r ta tb σ H Q := fun Wo σ H ρ Q bd rel post => by
  refine sa Wo σ H ρ _ rel (post.bind.imp fun r1 h v H1 bd1 rel1 rp1 st1 => ?_)
  refine sb Wo σ H1 r1.2 _ rel1 ((h.step st1).bind.imp fun r2 h2 u H2 bd2 rel2 rp2 st2 => ?_)
  obtain ⟨g, e1, e2⟩ := h2.bind.pure (pu _ _)
  refine im (av Wo σ r2.2) H2 v u r1.1 r2.1 Q (fun b z => rel2.av_some z) bd2 (rp1.step st2) rp2 ⟨g, e1, fun x H' s rp => ?_⟩
  exact e2.ok x H' (rel2.same s) rp ((st1.trans st2).trans (Same.step s))
theorem de_bin {a b : Expr} {pos : Pos} {op : Operator} {r : R2} {sem : PyData → PyData → Res PyData} {ma mb : EM} (ho : ∀ i, OpR (Z.F i) (binaryOp op) r) (im : Imp2 Z.K r sem) (pu : Pure2 sem) (ha : DE Z a ma) (hb : DE Z b mb) :
    DE Z (.BinOp a op b pos) (mBin sem ma mb) := by
  obtain ⟨ta, pa, sa⟩ := ha.ex
  obtain ⟨tb, pb, sb⟩ := hb.ex
  exact .mk' (fun i => pe_op (ho i) (pa i) (pb i)) (sim2 sa sb im pu)
theorem de_cmp {a b : Expr} {pos : Pos} {op : CmpOp} {r : R2} {sem : PyData → PyData → Res PyData} {ma mb : EM} (ho : ∀ i, OpR (Z.F i) (compareOp op) r) (im : Imp2 Z.K r sem) (pu : Pure2 sem) (ha : DE Z a ma) (hb : DE Z b mb)
    (hm : behindInMarks op b = false) : DE Z (.Compare a [op] [b] pos) (mBin sem ma mb) := by
  obtain ⟨ta, pa, sa⟩ := ha.ex
  obtain ⟨tb, pb, sb⟩ := hb.ex
  exact .mk' (fun i => pe_cmpR (ho i) (pa i) (pb i) hm) (sim2 sa sb im pu)
/-- one, read now -/
theorem sim1 {ta : TE} {ma : EM} {r : V → Hp → VK → Prop} {sem : PyData → Res PyData} (sa : SimB Z ta ma) (im : Imp1 Z.K r sem) (pu : Pure1 sem) :
    ∀ Wo σ H ρ Q, Bd Z.K H → RelZ Z Wo σ H ρ → RQ Z σ H ρ (mUn sem ma ρ) (ge0 Z Wo σ H ρ Q) → tUn r ta σ H Q := fun Wo σ H ρ Q bd rel post => by
  refine sa Wo σ H ρ _ rel (post.bind.imp fun r1 h v H1 bd1 rel1 rp1 st1 => ?_)
  obtain ⟨g, e1, e2⟩ := h.bind.pure (pu _)
  refine im (av Wo σ r1.2) H1 v r1.1 Q (fun b z => rel1.av_some z) bd1 rp1 ⟨g, e1, fun x H' s rp => ?_⟩
  exact e2.ok x H' (rel1.same s) rp (st1.trans (Same.step s))
theorem de_un {a : Expr} {pos : Pos} {op : UnaryOp} {r : V → Hp → VK → Prop} {sem : PyData → Res PyData} {ma : EM} (ho : ∀ i, UnR (Z.F i) (unaryOp op) r) (im : Imp1 Z.K r sem) (pu : Pure1 sem) (ha : DB Z a ma) :
    DE Z (.UnaryOp op a pos) (mUn sem ma) := by
  obtain ⟨ta, pa, sa⟩ := ha.ex
  exact .mk' (fun i => pe_un (ho i) (pa i)) (sim1 sa im pu)
/-- a call of a built-in with one argument -/
theorem de_call1 {e : Expr} {x : Str} {p pos : Pos} {id : String} {r : List V → Hp → VK → Prop} {sem : PyData → Res PyData} {m : EM} (hc : ∀ i, CallR (Z.F i) (.builtin id) r) (im : Imp1 Z.K (fun v => r [v]) sem) (pu : Pure1 sem)
    (hg : ∀ i, Gl (Z.F i) x) (hm : Z.mg x = none) (hv : bootBuiltins x = some (.builtin id)) (ha : DB Z e m) (hn : x ≠ "__name__" := by decide) (hdb : (x == ("__debug__" : Str)) = false := by decide)
    (he : ∀ i, starEach [e] (Z.F i).env = (false, eval e (Z.F i).env) :: starEach [] (Z.F i).env := by intro _; rfl) (hpl : ∀ i, (backTo pos (starEach [] (Z.F i).env)).any (·.1) = false := by intro _; rfl) :
    DE Z (.Call (.Name x p) [e] [] pos) (mUn sem m) := by
  obtain ⟨ta, pa, sa⟩ := ha.ex
  exact .mk' (t := tCB r (tCons ta tNil)) (fun i => pe_callB (hc i) (hg i) (by rw [Z.hmg]; exact hm) hv (pa_cons (pa i) pa_nil (he i)) hn hdb (he i) (hpl i)) (sim1 sa im pu)
theorem de_callT1 {e : Expr} {x : Str} {p pos : Pos} {T : String} {r : List V → Hp → VK → Prop} {sem : PyData → Res PyData} {m : EM} (hc : ∀ i, CallR (Z.F i) (.type T) r) (im : Imp1 Z.K (fun v => r [v]) sem) (pu : Pure1 sem)
    (hg : ∀ i, Gl (Z.F i) x) (hm : Z.mg x = none) (hv : bootBuiltins x = some (.type T)) (ha : DB Z e m) (hn : x ≠ "__name__" := by decide) (hdb : (x == ("__debug__" : Str)) = false := by decide)
    (he : ∀ i, starEach [e] (Z.F i).env = (false, eval e (Z.F i).env) :: starEach [] (Z.F i).env := by intro _; rfl) (hpl : ∀ i, (backTo pos (starEach [] (Z.F i).env)).any (·.1) = false := by intro _; rfl) :
    DE Z (.Call (.Name x p) [e] [] pos) (mUn sem m) := by
  obtain ⟨ta, pa, sa⟩ := ha.ex
  exact .mk' (t := tCB r (tCons ta tNil)) (fun i => pe_callTy (hc i) (hg i) (by rw [Z.hmg]; exact hm) hv (pa_cons (pa i) pa_nil (he i)) hn hdb (he i) (hpl i)) (sim1 sa im pu)
/-- .. with two -/
theorem de_call2 {a b : Expr} {x : Str} {p pos : Pos} {id : String} {r : List V → Hp → VK → Prop} {sem : PyData → PyData → Res PyData} {ma mb : EM} (hc : ∀ i, CallR (Z.F i) (.builtin id) r) (im : Imp2 Z.K (fun v u => r [v, u]) sem) (pu : Pure2 sem)
    (hg : ∀ i, Gl (Z.F i) x) (hm : Z.mg x = none) (hv : bootBuiltins x = some (.builtin id)) (ha : DE Z a ma) (hb : DE Z b mb) (hn : x ≠ "__name__" := by decide) (hdb : (x == ("__debug__" : Str)) = false := by decide)
    (he : ∀ i, starEach [a, b] (Z.F i).env = (false, eval a (Z.F i).env) :: starEach [b] (Z.F i).env := by intro _; rfl) (he2 : ∀ i, starEach [b] (Z.F i).env = (false, eval b (Z.F i).env) :: starEach [] (Z.F i).env := by intro _; rfl)
    (hpl : ∀ i, (backTo pos (starEach [b] (Z.F i).env)).any (·.1) = false := by intro _; rfl) :
    DE Z (.Call (.Name x p) [a, b] [] pos) (mBin sem ma mb) := by
  obtain ⟨ta, pa, sa⟩ := ha.ex
  obtain ⟨tb, pb, sb⟩ := hb.ex
  exact .mk' (t := tCB r (tCons ta (tCons tb tNil))) (fun i => pe_callB (hc i) (hg i) (by rw [Z.hmg]; exact hm) hv (pa_cons (pa i) (pa_cons (pb i) pa_nil (he2 i)) (he i)) hn hdb (he i) (hpl i)) (sim2 sa sb im pu)
/-- a value that is a bool, as a test -/
def mTest (m : EM) : TM := fun ρ => m ρ >>= fun r => match r.1 with | .bool b => .ok (b, r.2) | _ => .err
theorem simTest {t : TE} {m : EM} (s : SimE Z t m) : SimT Z (tTest t) (mTest m) := fun Wo σ H ρ Q rel post => by
  refine s Wo σ H ρ _ rel (post.bind.imp fun r h v H1 bd1 rel1 rp1 st1 => ?_)
  obtain ⟨d, ρ1⟩ := r
  cases d with
  | bool b =>
    cases rp1
    exact ⟨b, rfl, h.ok H1 bd1 rel1 st1⟩
  | _ => exact False.elim h
theorem dt_cmp {a b : Expr} {pos : Pos} {op : CmpOp} {r : R2} {sem : PyData → PyData → Res PyData} {ma mb : EM} (ho : ∀ i, OpR (Z.F i) (compareOp op) r) (im : Imp2 Z.K r sem) (pu : Pure2 sem) (ha : DE Z a ma) (hb : DE Z b mb)
    (hm : behindInMarks op b = false) : DT Z (.Compare a [op] [b] pos) (mTest (mBin sem ma mb)) := by
  obtain ⟨ta, pa, sa⟩ := ha.ex
  obtain ⟨tb, pb, sb⟩ := hb.ex
  have s : SimE Z _ (mBin sem ma mb) := fun Wo σ H ρ Q rel post bd => sim2 sa sb im pu Wo σ H ρ _ bd rel (post.imp fun _ g v H' r1 r2 st bd' => g v H' bd' r1 r2 st)
  refine ⟨_, fun i => lockT (Z.hK i) (pt_cmpR (ho i) (pa i) (pb i) hm), fun Wo σ H ρ Q rel post bd => ?_⟩
  refine sim2 sa sb im pu Wo σ H ρ _ bd rel (post.bind.imp fun r h v H1 rel1 rp1 st1 => ?_)
  obtain ⟨d, ρ1⟩ := r
  cases d with
  | bool b =>
    cases rp1
    exact ⟨b, rfl, fun bd1 => h.ok H1 bd1 rel1 st1⟩
  | _ => exact False.elim h
end
end ZZ

/-! Z3: operations on values -/
namespace ZZ
open PySem PySem.Spec PyProof.Rows L2

def lim : Nat := 1000000
theorem lim_le {n : Nat} (h : n ≤ lim) : n ≤ sizeLine := Nat.le_trans h (by decide)
section
variable {K : PySem.W.Frag} {W : Wt} {H : Hp} {v : V}
theorem Rp.intE {i : Int} (h : Rp K W H v (.int i)) : v = .int i := by cases h; rfl
theorem Rp.blE {b : Bool} (h : Rp K W H v (.bool b)) : v = .bl b := by cases h; rfl
theorem Rp.strE {x : Str} (h : Rp K W H v (.str x)) : v = .str x := by cases h; rfl
theorem Rp.nonE (h : Rp K W H v .none) : v = .non := by cases h; rfl
theorem Rp.tupE {ds : List PyData} (h : Rp K W H v (.tuple ds)) : ∃ a xs, v = .ref a ∧ TuW K W H a xs ∧ RpL K W H xs ds := by cases h with | tup h1 h2 => exact ⟨_, _, rfl, h1, h2⟩
theorem Rp.lstE {ds : List PyData} (h : Rp K W H v (.list ds)) : ∃ a xs, v = .ref a ∧ LsW K W H a xs ∧ RpL K W H xs ds := by cases h with | lst h1 h2 => exact ⟨_, _, rfl, h1, h2⟩
theorem Rp.tupN {p : Addr} {xs : List V} {ds : List PyData} (hw : ∀ b, W b → H b ≠ none) (hp : H p = none) (h : RpL K W H xs ds) : Rp K W (upd H p (.tup xs)) (.ref p) (.tuple ds) :=
  .tup ⟨fun z => hw p z hp, upd_same⟩ (RpL.keep (fun b o _ e => same_upd hp b o e) (fun _ z => .inl z) ds h)
theorem Rp.lstN {p : Addr} {xs : List V} {ds : List PyData} (hw : ∀ b, W b → H b ≠ none) (hp : H p = none) (h : RpL K W H xs ds) : Rp K W (upd H p (.lst xs)) (.ref p) (.list ds) :=
  .lst ⟨fun z => hw p z hp, .inl upd_same⟩ (RpL.keep (fun b o _ e => same_upd hp b o e) (fun _ z => .inl z) ds h)
end
theorem same_refl {H : Hp} : Same H H := Same.refl H

/-! ### arithmetic -/
def sAdd : PyData → PyData → Res PyData
  | .int i, .int j => .ok (.int (i + j))
  | .tuple xs, .tuple ys => if xs.length + ys.length ≤ lim then .ok (.tuple (xs ++ ys)) else .err
  | .list xs, .list ys => if xs.length + ys.length ≤ lim then .ok (.list (xs ++ ys)) else .err
  | .str x, .str y => if x.length + y.length ≤ lim then .ok (.str (x ++ y)) else .err
  | _, _ => .err
def rCatL : R2 := fun x y H Q => ∃ l b xs zs, x = .ref l ∧ y = .ref b ∧ Rd H l (.lst xs) ∧ Rd H b (.lst zs) ∧ xs.length + zs.length ≤ sizeLine ∧ ∀ p, H p = none → Q (.ref p) (upd H p (.lst (xs ++ zs)))
theorem op_catL {X : Cx} : OpR X (binaryOp .Add) rCatL := by
  intro pins s σ H x y v u Q I rx ry h
  obtain ⟨l, b, xs, zs, rfl, rfl, hH, hB, hz, q⟩ := h
  cases rx
  cases ry
  obtain ⟨z, its, n, r, e⟩ := hH.ok I.hok
  obtain ⟨z2, its2, n2, r2, e2⟩ := hB.ok I.hok
  have hl := r.length
  have hl2 := r2.length
  refine PySem.P.add_list e e2 ?_ (by rw [List.size_toArray, List.size_toArray]; omega)
  have ea : its.toArray ++ its2.toArray = (its ++ its2).toArray := by simp
  rw [ea]
  exact ⟨.ref _, _, I.lnew (t' := s.toks) (r.append r2) (by rw [List.length_append]; omega), rfl, q _ I.fresh⟩
def rAddAll (K : PySem.W.Frag) : R2 := fun x y H Q => rI0 (fun i j => .int (i + j)) x y H Q ∨ rCatA K x y H Q ∨ rCatL x y H Q ∨ (∃ i j, x = .str i ∧ y = .str j ∧ i.length + j.length ≤ sizeLine ∧ Q (.str (i ++ j)) H)
theorem op_addAll {X : Cx} {K : PySem.W.Frag} (hK : X.K = K) : OpR X (binaryOp .Add) (rAddAll K) := by
  subst hK
  exact op_add.or (op_catA.or (op_catL.or op_add_str))
theorem im_add {K : PySem.W.Frag} : Imp2 K (rAddAll K) sAdd := by
  intro W H x y d e Q hw bd hx hy ⟨g, eg, hg⟩
  unfold sAdd at eg
  split at eg
  · cases eg
    cases hx
    cases hy
    exact .inl ⟨_, _, rfl, rfl, hg _ H same_refl (.int _)⟩
  · split at eg
    · rename_i hl
      cases eg
      obtain ⟨a, vs, rfl, h1, h2⟩ := hx.tupE
      obtain ⟨b, us, rfl, h3, h4⟩ := hy.tupE
      have e1 := h2.len
      have e2 := h4.len
      refine .inr (.inl ⟨a, b, vs, us, rfl, rfl, h1.sq, h3.sq, lim_le (by omega), fun z => ?_, fun _ z => ?_, fun _ _ p hp => ?_⟩)
      · subst z
        cases h2
        exact hg _ H same_refl (.tup h3 h4)
      · subst z
        cases h4
        rw [List.append_nil] at hg
        exact hg _ H same_refl (.tup h1 h2)
      · exact hg _ _ (same_upd hp) (.tupN hw hp (h2.append h4))
    · cases eg
  · split at eg
    · rename_i hl
      cases eg
      obtain ⟨a, vs, rfl, h1, h2⟩ := hx.lstE
      obtain ⟨b, us, rfl, h3, h4⟩ := hy.lstE
      have e1 := h2.len
      have e2 := h4.len
      exact .inr (.inr (.inl ⟨a, b, vs, us, rfl, rfl, h1.2, h3.2, lim_le (by omega), fun p hp => hg _ _ (same_upd hp) (.lstN hw hp (h2.append h4))⟩))
    · cases eg
  · split at eg
    · rename_i hl
      cases eg
      cases hx
      cases hy
      exact .inr (.inr (.inr ⟨_, _, rfl, rfl, lim_le (by omega), hg _ H same_refl (.str _)⟩))
    · cases eg
  · cases eg
theorem pu_add : Pure2 sAdd := fun d e c as => by
  unfold sAdd
  split <;> (try split) <;> exact fun z => nomatch z
def sI2 (f : Int → Int → PyData) : PyData → PyData → Res PyData
  | .int i, .int j => .ok (f i j)
  | _, _ => .err
def sI2c (c : Int → Int → Bool) (f : Int → Int → PyData) : PyData → PyData → Res PyData
  | .int i, .int j => if c i j then .ok (f i j) else .err
  | _, _ => .err
theorem pu_i2 {f : Int → Int → PyData} : Pure2 (sI2 f) := fun d e c as => by
  unfold sI2
  split <;> exact fun z => nomatch z
theorem pu_i2c {k : Int → Int → Bool} {f : Int → Int → PyData} : Pure2 (sI2c k f) := fun d e c as => by
  unfold sI2c
  split <;> (try split) <;> exact fun z => nomatch z
theorem im_i2 {K : PySem.W.Frag} {f : Int → Int → Int} : Imp2 K (rI0 fun i j => .int (f i j)) (sI2 fun i j => .int (f i j)) := by
  intro W H x y d e Q hw bd hx hy ⟨g, eg, hg⟩
  unfold sI2 at eg
  split at eg
  · cases eg
    cases hx
    cases hy
    exact ⟨_, _, rfl, rfl, hg _ H same_refl (.int _)⟩
  · cases eg
theorem im_b2 {K : PySem.W.Frag} {f : Int → Int → Bool} : Imp2 K (rI0 fun i j => .bl (f i j)) (sI2 fun i j => .bool (f i j)) := by
  intro W H x y d e Q hw bd hx hy ⟨g, eg, hg⟩
  unfold sI2 at eg
  split at eg
  · cases eg
    cases hx
    cases hy
    exact ⟨_, _, rfl, rfl, hg _ H same_refl (.bl _)⟩
  · cases eg
theorem im_i2c {K : PySem.W.Frag} {C : Int → Int → Prop} {c : Int → Int → Bool} {f : Int → Int → Int} (hc : ∀ i j, c i j = true → C i j) : Imp2 K (rI C fun i j => .int (f i j)) (sI2c c fun i j => .int (f i j)) := by
  intro W H x y d e Q hw bd hx hy ⟨g, eg, hg⟩
  unfold sI2c at eg
  split at eg
  · split at eg
    · rename_i h
      cases eg
      cases hx
      cases hy
      exact ⟨_, _, rfl, rfl, hc _ _ h, hg _ H same_refl (.int _)⟩
    · cases eg
  · cases eg
abbrev sSub := sI2 fun i j => .int (i - j)
def cMul (i j : Int) : Bool := (decide (-(2 ^ 64) < i) && decide (i < 2 ^ 64)) || (decide (-(2 ^ 64) < j) && decide (j < 2 ^ 64))
abbrev sMul := sI2c cMul fun i j => .int (i * j)
def cDiv (i j : Int) : Bool := decide (0 < j) && decide (j < 1073741824)
abbrev sFDiv := sI2c cDiv fun i j => .int (i / j)
def cMod (i j : Int) : Bool := decide (0 < j)
abbrev sMod := sI2c cMod fun i j => .int (i % j)
theorem cMul_ok (i j : Int) (h : cMul i j = true) : CMul i j := by
  unfold cMul at h
  simp only [Bool.or_eq_true, Bool.and_eq_true, decide_eq_true_eq] at h
  exact h
theorem cDiv_ok (i j : Int) (h : cDiv i j = true) : CDiv i j := by
  unfold cDiv at h
  simp only [Bool.and_eq_true, decide_eq_true_eq] at h
  exact h
theorem cMod_ok (i j : Int) (h : cMod i j = true) : (fun _ j => (0 : Int) < j) i j := of_decide_eq_true h
section
variable {ι : Type} {Z : Cz ι} {a b : Expr} {pos : Pos} {ma mb : EM}
theorem de_add (ha : DE Z a ma) (hb : DE Z b mb) : DE Z (.BinOp a .Add b pos) (mBin sAdd ma mb) := de_bin (fun i => op_addAll (Z.hK i)) im_add pu_add ha hb
theorem de_sub (ha : DE Z a ma) (hb : DE Z b mb) : DE Z (.BinOp a .Sub b pos) (mBin sSub ma mb) := de_bin (fun i => op_sub) im_i2 pu_i2 ha hb
theorem de_mul (ha : DE Z a ma) (hb : DE Z b mb) : DE Z (.BinOp a .Mult b pos) (mBin sMul ma mb) := de_bin (fun i => op_mul) (im_i2c cMul_ok) pu_i2c ha hb
theorem de_fdiv (ha : DE Z a ma) (hb : DE Z b mb) : DE Z (.BinOp a .FloorDiv b pos) (mBin sFDiv ma mb) := de_bin (fun i => op_fdiv) (im_i2c cDiv_ok) pu_i2c ha hb
theorem de_mod (ha : DE Z a ma) (hb : DE Z b mb) : DE Z (.BinOp a .Mod b pos) (mBin sMod ma mb) := de_bin (fun i => op_mod) (im_i2c cMod_ok) pu_i2c ha hb
end
def sNeg : PyData → Res PyData
  | .int i => .ok (.int (-i))
  | _ => .err
theorem pu_neg : Pure1 sNeg := fun d c as => by
  unfold sNeg
  split <;> exact fun z => nomatch z
theorem im_neg {K : PySem.W.Frag} : Imp1 K (rU fun i => .int (-i)) sNeg := by
  intro W H x d Q hw bd hx ⟨g, eg, hg⟩
  unfold sNeg at eg
  split at eg
  · cases eg
    cases hx
    exact ⟨_, rfl, hg _ H same_refl (.int _)⟩
  · cases eg
theorem de_neg {ι : Type} {Z : Cz ι} {a : Expr} {pos : Pos} {ma : EM} (ha : DB Z a ma) : DE Z (.UnaryOp .USub a pos) (mUn sNeg ma) := de_un (fun i => un_neg) im_neg pu_neg ha

/-! ### comparisons -/
abbrev sLt := sI2 fun i j => .bool (decide (i < j))
abbrev sLe := sI2 fun i j => .bool (decide (i ≤ j))
abbrev sGt := sI2 fun i j => .bool (decide (j < i))
abbrev sGe := sI2 fun i j => .bool (decide (j ≤ i))
def sEq (d e : PyData) : Res PyData := if SeqAt.shaped d && SeqAt.shaped e then .ok (.bool (PyData.eqv d e)) else .err
def sNe (d e : PyData) : Res PyData := if SeqAt.shaped d && SeqAt.shaped e then .ok (.bool (!PyData.eqv d e)) else .err
theorem pu_eq : Pure2 sEq := fun d e c as => by
  unfold sEq
  split <;> exact fun z => nomatch z
theorem pu_ne : Pure2 sNe := fun d e c as => by
  unfold sNe
  split <;> exact fun z => nomatch z
theorem im_eq {K : PySem.W.Frag} : Imp2 K (rEqD K) sEq := by
  intro W H x y d e Q hw bd hx hy ⟨g, eg, hg⟩
  unfold sEq at eg
  split at eg
  · rename_i h
    simp only [Bool.and_eq_true] at h
    cases eg
    exact ⟨d, e, Rp.dp d hx, Rp.dp e hy, h.1, h.2, hg _ H same_refl (.bl _)⟩
  · cases eg
theorem im_ne {K : PySem.W.Frag} : Imp2 K (rNeD K) sNe := by
  intro W H x y d e Q hw bd hx hy ⟨g, eg, hg⟩
  unfold sNe at eg
  split at eg
  · rename_i h
    simp only [Bool.and_eq_true] at h
    cases eg
    exact ⟨d, e, Rp.dp d hx, Rp.dp e hy, h.1, h.2, hg _ H same_refl (.bl _)⟩
  · cases eg
/-- in a list or a tuple of data -/
def dIn (x : PyData) : PyData → Option Bool
  | .list ds => if SeqAt.shaped x && PyData.canLayAll0 ds then some (ds.any fun z => PyData.eqv z x) else none
  | .tuple ds => if SeqAt.shaped x && PyData.canLayAll0 ds then some (ds.any fun z => PyData.eqv z x) else none
  | _ => none
def sIn (x y : PyData) : Res PyData := match dIn x y with | some b => .ok (.bool b) | none => .err
def sNotIn (x y : PyData) : Res PyData := match dIn x y with | some b => .ok (.bool (!b)) | none => .err
def rInA (K : PySem.W.Frag) (neg : Bool) : R2 := fun x y H Q => ∃ d e b, Dp K H x d ∧ Dp K H y e ∧ dIn d e = some b ∧ Q (.bl (if neg then !b else b)) H
theorem room_in {A : Around} {d : PyData} (h : SeqAt.shaped d = true) (hu : A.units + 65 < cLine) : A.units + 1 + d.depth < cLine := by
  have := SeqAt.depth_of_shaped h
  omega
theorem op_inA {X : Cx} {K : PySem.W.Frag} (hK : X.K = K) (hu : X.A.units + 65 < cLine) : OpR X (compareOp .In) (rInA K false) := by
  subst hK
  intro pins s σ H x y v u Q I rx ry h
  obtain ⟨d, e, b, hd, he, hb, q⟩ := h
  obtain ⟨as, r1⟩ := Dp.reads I d x v hd rx
  obtain ⟨bs, r2⟩ := Dp.reads I e y u he ry
  unfold dIn at hb
  split at hb
  · split at hb
    · rename_i h
      simp only [Bool.and_eq_true] at h
      cases hb
      exact SeqAt.in_list_reads r2 r1 h.2 (SeqAt.canLay_of_shaped h.1) (room_in_shaped h.1 hu) ⟨.bl _, H, I, rfl, q⟩
    · cases hb
  · split at hb
    · rename_i h
      simp only [Bool.and_eq_true] at h
      cases hb
      exact SeqAt.in_tuple_reads r2 r1 h.2 (SeqAt.canLay_of_shaped h.1) (room_in_shaped h.1 hu) ⟨.bl _, H, I, rfl, q⟩
    · cases hb
  · cases hb
theorem op_notInA {X : Cx} {K : PySem.W.Frag} (hK : X.K = K) (hu : X.A.units + 65 < cLine) : OpR X (compareOp .NotIn) (rInA K true) := by
  subst hK
  intro pins s σ H x y v u Q I rx ry h
  obtain ⟨d, e, b, hd, he, hb, q⟩ := h
  obtain ⟨as, r1⟩ := Dp.reads I d x v hd rx
  obtain ⟨bs, r2⟩ := Dp.reads I e y u he ry
  unfold dIn at hb
  split at hb
  · split at hb
    · rename_i h
      simp only [Bool.and_eq_true] at h
      cases hb
      exact SeqAt.notIn_list_reads r2 r1 h.2 (SeqAt.canLay_of_shaped h.1) (room_in_shaped h.1 hu) ⟨.bl _, H, I, rfl, q⟩
    · cases hb
  · split at hb
    · rename_i h
      simp only [Bool.and_eq_true] at h
      cases hb
      exact SeqAt.notIn_tuple_reads r2 r1 h.2 (SeqAt.canLay_of_shaped h.1) (room_in_shaped h.1 hu) ⟨.bl _, H, I, rfl, q⟩
    · cases hb
  · cases hb
theorem pu_in : Pure2 sIn := fun d e c as => by
  unfold sIn
  split <;> exact fun z => nomatch z
theorem pu_notin : Pure2 sNotIn := fun d e c as => by
  unfold sNotIn
  split <;> exact fun z => nomatch z
theorem im_in {K : PySem.W.Frag} : Imp2 K (rInA K false) sIn := by
  intro W H x y d e Q hw bd hx hy ⟨g, eg, hg⟩
  unfold sIn at eg
  split at eg
  · rename_i b hb
    cases eg
    exact ⟨d, e, b, Rp.dp d hx, Rp.dp e hy, hb, hg _ H same_refl (.bl _)⟩
  · cases eg
theorem im_notin {K : PySem.W.Frag} : Imp2 K (rInA K true) sNotIn := by
  intro W H x y d e Q hw bd hx hy ⟨g, eg, hg⟩
  unfold sNotIn at eg
  split at eg
  · rename_i b hb
    cases eg
    exact ⟨d, e, b, Rp.dp d hx, Rp.dp e hy, hb, hg _ H same_refl (.bl _)⟩
  · cases eg
def isNone : PyData → Bool
  | .none => true
  | _ => false
def sIsN (d e : PyData) : Res PyData := if isNone e then .ok (.bool (isNone d)) else .err
def sNotN (d e : PyData) : Res PyData := if isNone e then .ok (.bool (!isNone d)) else .err
theorem Rp.isNone {K : PySem.W.Frag} {W : Wt} {H : Hp} {x : V} {d : PyData} (h : Rp K W H x d) : decide (x = .non) = ZZ.isNone d := by
  cases h <;> simp [ZZ.isNone]
theorem im_isN {K : PySem.W.Frag} : Imp2 K (fun x y H Q => y = .non ∧ Q (.bl (decide (x = .non))) H) sIsN := by
  intro W H x y d e Q hw bd hx hy ⟨g, eg, hg⟩
  unfold sIsN at eg
  split at eg
  · rename_i h
    cases eg
    refine ⟨?_, ?_⟩
    · cases e <;> first | (cases hy; rfl) | cases h
    · rw [hx.isNone]
      exact hg _ H same_refl (.bl _)
  · cases eg
theorem im_notN {K : PySem.W.Frag} : Imp2 K (fun x y H Q => y = .non ∧ Q (.bl (!decide (x = .non))) H) sNotN := by
  intro W H x y d e Q hw bd hx hy ⟨g, eg, hg⟩
  unfold sNotN at eg
  split at eg
  · rename_i h
    cases eg
    refine ⟨?_, ?_⟩
    · cases e <;> first | (cases hy; rfl) | cases h
    · rw [hx.isNone]
      exact hg _ H same_refl (.bl _)
  · cases eg
theorem pu_isN : Pure2 sIsN := fun d e c as => by
  unfold sIsN
  split <;> exact fun z => nomatch z
theorem pu_notN : Pure2 sNotN := fun d e c as => by
  unfold sNotN
  split <;> exact fun z => nomatch z
section
variable {ι : Type} {Z : Cz ι} {a b : Expr} {pos : Pos} {ma mb : EM}
theorem units64 (i : ι) : (Z.F i).A.units + 64 < cLine := by
  have := Z.un i
  omega
theorem Cz.u65 (i : ι) : (Z.F i).A.units + 65 < cLine := by
  have := Z.un i
  omega
end
end ZZ

/-! Z4: tests, displays, subscripts, built-ins -/
namespace ZZ
open PySem PySem.Spec PyProof.Rows L2

section
variable {ι : Type} {Z : Cz ι} {a b c : Expr} {pos : Pos} {ma mb : EM}
/-! ### comparisons -/
theorem de_lt (ha : DE Z a ma) (hb : DE Z b mb) : DE Z (.Compare a [.Lt] [b] pos) (mBin sLt ma mb) := de_cmp (fun i => op_lt) im_b2 pu_i2 ha hb (nomark _)
theorem de_le (ha : DE Z a ma) (hb : DE Z b mb) : DE Z (.Compare a [.LtE] [b] pos) (mBin sLe ma mb) := de_cmp (fun i => op_le) im_b2 pu_i2 ha hb (nomark _)
theorem de_gt (ha : DE Z a ma) (hb : DE Z b mb) : DE Z (.Compare a [.Gt] [b] pos) (mBin sGt ma mb) := de_cmp (fun i => op_gt) im_b2 pu_i2 ha hb (nomark _)
theorem de_ge (ha : DE Z a ma) (hb : DE Z b mb) : DE Z (.Compare a [.GtE] [b] pos) (mBin sGe ma mb) := de_cmp (fun i => op_ge) im_b2 pu_i2 ha hb (nomark _)
theorem op_eqZ (i : ι) : OpR (Z.F i) (compareOp .Eq) (rEqD Z.K) := by rw [← Z.hK i]; exact op_eqD (units64 i)
theorem op_neZ (i : ι) : OpR (Z.F i) (compareOp .NotEq) (rNeD Z.K) := by rw [← Z.hK i]; exact op_neD (units64 i)
theorem de_eq (ha : DE Z a ma) (hb : DE Z b mb) : DE Z (.Compare a [.Eq] [b] pos) (mBin sEq ma mb) := de_cmp op_eqZ im_eq pu_eq ha hb (nomark _)
theorem de_ne (ha : DE Z a ma) (hb : DE Z b mb) : DE Z (.Compare a [.NotEq] [b] pos) (mBin sNe ma mb) := de_cmp op_neZ im_ne pu_ne ha hb (nomark _)
theorem de_in (ha : DE Z a ma) (hb : DE Z b mb) (hm : behindInMarks .In b = false) : DE Z (.Compare a [.In] [b] pos) (mBin sIn ma mb) := de_cmp (fun i => op_inA (Z.hK i) (Cz.u65 i)) im_in pu_in ha hb hm
theorem de_notin (ha : DE Z a ma) (hb : DE Z b mb) (hm : behindInMarks .NotIn b = false) : DE Z (.Compare a [.NotIn] [b] pos) (mBin sNotIn ma mb) := de_cmp (fun i => op_notInA (Z.hK i) (Cz.u65 i)) im_notin pu_notin ha hb hm
theorem de_isN (ha : DE Z a ma) (hb : DE Z b mb) : DE Z (.Compare a [.Is] [b] pos) (mBin sIsN ma mb) := de_cmp (fun i => op_isN) im_isN pu_isN ha hb (nomark _)
theorem de_notN (ha : DE Z a ma) (hb : DE Z b mb) : DE Z (.Compare a [.IsNot] [b] pos) (mBin sNotN ma mb) := de_cmp (fun i => op_notN) im_notN pu_notN ha hb (nomark _)
theorem dt_lt (ha : DE Z a ma) (hb : DE Z b mb) : DT Z (.Compare a [.Lt] [b] pos) (mTest (mBin sLt ma mb)) := dt_cmp (fun i => op_lt) im_b2 pu_i2 ha hb (nomark _)
theorem dt_le (ha : DE Z a ma) (hb : DE Z b mb) : DT Z (.Compare a [.LtE] [b] pos) (mTest (mBin sLe ma mb)) := dt_cmp (fun i => op_le) im_b2 pu_i2 ha hb (nomark _)
theorem dt_gt (ha : DE Z a ma) (hb : DE Z b mb) : DT Z (.Compare a [.Gt] [b] pos) (mTest (mBin sGt ma mb)) := dt_cmp (fun i => op_gt) im_b2 pu_i2 ha hb (nomark _)
theorem dt_ge (ha : DE Z a ma) (hb : DE Z b mb) : DT Z (.Compare a [.GtE] [b] pos) (mTest (mBin sGe ma mb)) := dt_cmp (fun i => op_ge) im_b2 pu_i2 ha hb (nomark _)
theorem dt_eq (ha : DE Z a ma) (hb : DE Z b mb) : DT Z (.Compare a [.Eq] [b] pos) (mTest (mBin sEq ma mb)) := dt_cmp op_eqZ im_eq pu_eq ha hb (nomark _)
theorem dt_ne (ha : DE Z a ma) (hb : DE Z b mb) : DT Z (.Compare a [.NotEq] [b] pos) (mTest (mBin sNe ma mb)) := dt_cmp op_neZ im_ne pu_ne ha hb (nomark _)
theorem dt_in (ha : DE Z a ma) (hb : DE Z b mb) (hm : behindInMarks .In b = false) : DT Z (.Compare a [.In] [b] pos) (mTest (mBin sIn ma mb)) := dt_cmp (fun i => op_inA (Z.hK i) (Cz.u65 i)) im_in pu_in ha hb hm
theorem dt_notin (ha : DE Z a ma) (hb : DE Z b mb) (hm : behindInMarks .NotIn b = false) : DT Z (.Compare a [.NotIn] [b] pos) (mTest (mBin sNotIn ma mb)) := dt_cmp (fun i => op_notInA (Z.hK i) (Cz.u65 i)) im_notin pu_notin ha hb hm
theorem dt_isN (ha : DE Z a ma) (hb : DE Z b mb) : DT Z (.Compare a [.Is] [b] pos) (mTest (mBin sIsN ma mb)) := dt_cmp (fun i => op_isN) im_isN pu_isN ha hb (nomark _)
theorem dt_notN (ha : DE Z a ma) (hb : DE Z b mb) : DT Z (.Compare a [.IsNot] [b] pos) (mTest (mBin sNotN ma mb)) := dt_cmp (fun i => op_notN) im_notN pu_notN ha hb (nomark _)
/-- a chain a <= b < c -/
def mChain (s1 s2 : PyData → PyData → Res PyData) (ma mb mc : EM) : EM := fun ρ => ma ρ >>= fun r1 => mb r1.2 >>= fun r2 => s1 r1.1 r2.1 >>= fun g => match g with
  | .bool true => mc r2.2 >>= fun r3 => s2 r2.1 r3.1 >>= fun g => .ok (g, r3.2)
  | .bool false => .ok (.bool false, r2.2)
  | _ => .err
theorem simChain {ta tb tc : TE} {mc : EM} {r r' : R2} {s1 s2 : PyData → PyData → Res PyData} (sa : SimE Z ta ma) (sb : SimE Z tb mb) (sc : SimE Z tc mc) (im : Imp2 Z.K r s1) (pu : Pure2 s1) (im' : Imp2 Z.K r' s2) (pu' : Pure2 s2) :
    ∀ Wo σ H ρ Q, Bd Z.K H → RelZ Z Wo σ H ρ → RQ Z σ H ρ (mChain s1 s2 ma mb mc ρ) (ge0 Z Wo σ H ρ Q) → tChain r r' ta tb tc σ H Q := fun Wo σ H ρ Q bd rel post => by
  refine sa Wo σ H ρ _ rel (post.bind.imp fun r1 h v H1 bd1 rel1 rp1 st1 => ?_)
  refine sb Wo σ H1 r1.2 _ rel1 ((h.step st1).bind.imp fun r2 h2 u H2 bd2 rel2 rp2 st2 => ?_)
  obtain ⟨g, e1, e2⟩ := h2.bind.pure (pu _ _)
  refine im (av Wo σ r2.2) H2 v u r1.1 r2.1 _ (fun b z => rel2.av_some z) bd2 (rp1.step st2) rp2 ⟨g, e1, fun x H3 s rp => ?_⟩
  have st3 := (st1.trans st2).trans (Same.step s)
  split at e2
  · cases rp
    refine ⟨true, rfl, ?_⟩
    rw [if_pos rfl]
    have e3 := RQ.step (RQ.step e2 st2) (Same.step s)
    refine sc Wo σ H3 r2.2 _ (rel2.same s) (e3.bind.imp fun r3 h3 w H4 bd4 rel4 rp4 st4 => ?_)
    obtain ⟨g', e1', e2'⟩ := h3.bind.pure (pu' _ _)
    refine im' (av Wo σ r3.2) H4 u w r2.1 r3.1 Q (fun b z => rel4.av_some z) bd4 ((rp2.step (Same.step s)).step st4) rp4 ⟨g', e1', fun y H5 s5 rp5 => ?_⟩
    exact e2'.ok y H5 (rel4.same s5) rp5 ((st3.trans st4).trans (Same.step s5))
  · cases rp
    refine ⟨false, rfl, ?_⟩
    rw [if_neg Bool.false_ne_true]
    exact e2.ok _ H3 (rel2.same s) (.bl false) st3
  · exact e2.elim
theorem de_chain {mc : EM} {op op' : CmpOp} {r r' : R2} {s1 s2 : PyData → PyData → Res PyData} (ho : ∀ i, OpR (Z.F i) (compareOp op) r) (im : Imp2 Z.K r s1) (pu : Pure2 s1) (ho' : ∀ i, OpR (Z.F i) (compareOp op') r') (im' : Imp2 Z.K r' s2) (pu' : Pure2 s2)
    (ha : DE Z a ma) (hb : DE Z b mb) (hc : DE Z c mc) (hm : lastMarks [op, op'] [b, c] = false) : DE Z (.Compare a [op, op'] [b, c] pos) (mChain s1 s2 ma mb mc) := by
  obtain ⟨ta, pa, sa⟩ := ha.ex
  obtain ⟨tb, pb, sb⟩ := hb.ex
  obtain ⟨tc, pc, sc⟩ := hc.ex
  exact .mk' (fun i => pe_chain (ho i) (ho' i) (pa i) (pb i) (pc i) hm) (simChain sa sb sc im pu im' pu')
theorem dt_chain {mc : EM} {op op' : CmpOp} {r r' : R2} {s1 s2 : PyData → PyData → Res PyData} (ho : ∀ i, OpR (Z.F i) (compareOp op) r) (im : Imp2 Z.K r s1) (pu : Pure2 s1) (ho' : ∀ i, OpR (Z.F i) (compareOp op') r') (im' : Imp2 Z.K r' s2) (pu' : Pure2 s2)
    (ha : DE Z a ma) (hb : DE Z b mb) (hc : DE Z c mc) (hm : lastMarks [op, op'] [b, c] = false) : DT Z (.Compare a [op, op'] [b, c] pos) (mTest (mChain s1 s2 ma mb mc)) := by
  obtain ⟨ta, pa, sa⟩ := ha.ex
  obtain ⟨tb, pb, sb⟩ := hb.ex
  obtain ⟨tc, pc, sc⟩ := hc.ex
  refine ⟨_, fun i => lockT (Z.hK i) (pt_chain (ho i) (ho' i) (pa i) (pb i) (pc i) hm), fun Wo σ H ρ Q rel post bd => ?_⟩
  refine simChain sa sb sc im pu im' pu' Wo σ H ρ _ bd rel (post.bind.imp fun r h v H1 rel1 rp1 st1 => ?_)
  obtain ⟨d, ρ1⟩ := r
  cases d with
  | bool b =>
    cases rp1
    exact ⟨b, rfl, fun bd1 => h.ok H1 bd1 rel1 st1⟩
  | _ => exact False.elim h
theorem de_leLe {mc : EM} (ha : DE Z a ma) (hb : DE Z b mb) (hc : DE Z c mc) (hm : lastMarks [.LtE, .LtE] [b, c] = false) : DE Z (.Compare a [.LtE, .LtE] [b, c] pos) (mChain sLe sLe ma mb mc) := de_chain (fun i => op_le) im_b2 pu_i2 (fun i => op_le) im_b2 pu_i2 ha hb hc hm
theorem de_leLt {mc : EM} (ha : DE Z a ma) (hb : DE Z b mb) (hc : DE Z c mc) (hm : lastMarks [.LtE, .Lt] [b, c] = false) : DE Z (.Compare a [.LtE, .Lt] [b, c] pos) (mChain sLe sLt ma mb mc) := de_chain (fun i => op_le) im_b2 pu_i2 (fun i => op_lt) im_b2 pu_i2 ha hb hc hm
theorem de_ltLt {mc : EM} (ha : DE Z a ma) (hb : DE Z b mb) (hc : DE Z c mc) (hm : lastMarks [.Lt, .Lt] [b, c] = false) : DE Z (.Compare a [.Lt, .Lt] [b, c] pos) (mChain sLt sLt ma mb mc) := de_chain (fun i => op_lt) im_b2 pu_i2 (fun i => op_lt) im_b2 pu_i2 ha hb hc hm
theorem dt_leLe {mc : EM} (ha : DE Z a ma) (hb : DE Z b mb) (hc : DE Z c mc) (hm : lastMarks [.LtE, .LtE] [b, c] = false) : DT Z (.Compare a [.LtE, .LtE] [b, c] pos) (mTest (mChain sLe sLe ma mb mc)) := dt_chain (fun i => op_le) im_b2 pu_i2 (fun i => op_le) im_b2 pu_i2 ha hb hc hm
theorem dt_leLt {mc : EM} (ha : DE Z a ma) (hb : DE Z b mb) (hc : DE Z c mc) (hm : lastMarks [.LtE, .Lt] [b, c] = false) : DT Z (.Compare a [.LtE, .Lt] [b, c] pos) (mTest (mChain sLe sLt ma mb mc)) := dt_chain (fun i => op_le) im_b2 pu_i2 (fun i => op_lt) im_b2 pu_i2 ha hb hc hm
theorem dt_ltLt {mc : EM} (ha : DE Z a ma) (hb : DE Z b mb) (hc : DE Z c mc) (hm : lastMarks [.Lt, .Lt] [b, c] = false) : DT Z (.Compare a [.Lt, .Lt] [b, c] pos) (mTest (mChain sLt sLt ma mb mc)) := dt_chain (fun i => op_lt) im_b2 pu_i2 (fun i => op_lt) im_b2 pu_i2 ha hb hc hm
end

/-! ### truth -/
def tru : PyData → Option Bool
  | .none => some false
  | .bool b => some b
  | .int i => some (i != 0)
  | .str x => if x.length ≤ lim then some ((x.length : Int) != 0) else none
  | .list ds => some (!ds.isEmpty)
  | .tuple ds => some (!ds.isEmpty)
  | .dict _ => none
theorem isEmpty_rpl {K : PySem.W.Frag} {W : Wt} {H : Hp} {xs : List V} {ds : List PyData} (h : RpL K W H xs ds) : xs.isEmpty = ds.isEmpty := by
  cases h <;> rfl
theorem RpB.tru {K : PySem.W.Frag} {W : Wt} {H : Hp} {v : V} {d : PyData} {k : Bool} (h : RpB K W H v d) (e : tru d = some k) : TruV K v H k := by
  unfold ZZ.tru at e
  split at e
  · cases e; cases h; rfl
  · cases e; cases h; rfl
  · cases e; cases h; rfl
  · split at e
    · rename_i hl
      cases e; cases h
      exact ⟨lim_le hl, rfl⟩
    · cases e
  · cases e
    obtain ⟨a, xs, rfl, h1, h2⟩ := h
    exact .inl ⟨xs, .inl h1, by rw [isEmpty_rpl h2]⟩
  · cases e
    obtain ⟨a, xs, rfl, h1, h2⟩ := Rp.tupE h
    exact .inr (.inl ⟨xs, h1.sq, by rw [isEmpty_rpl h2]⟩)
  · cases e
def oTru (d : PyData) : Res Bool := match tru d with | some b => .ok b | none => .err
theorem pu_tru (d : PyData) : ∀ c as, oTru d ≠ .exc c as := fun c as => by
  unfold oTru
  split <;> exact fun z => nomatch z
theorem oTru_some {d : PyData} {b : Bool} (h : oTru d = .ok b) : tru d = some b := by
  unfold oTru at h
  split at h
  · cases h; assumption
  · cases h
def mTru (m : EM) : TM := fun ρ => m ρ >>= fun r => oTru r.1 >>= fun b => .ok (b, r.2)
section
variable {ι : Type} {Z : Cz ι} {a b c : Expr} {pos : Pos} {ma mb : EM} {tm tm' : TM} {rest : List Expr}
theorem dt_truth (ha : DB Z a ma) (he : ∀ i whole, isTrue a (Z.F i).env whole = (do let v ← whole; standAt a.pos; holding [v] (truthy v))) : DT Z a (mTru ma) := by
  obtain ⟨ta, pa, sa⟩ := ha.ex
  refine .mk' (t := fun σ H Q => ta σ H fun x H' => ∃ k, TruV Z.K x H' k ∧ Q k H') (fun i => by rw [← Z.hK i]; exact pt_truth (pa i) (he i)) fun Wo σ H ρ Q bd rel post => ?_
  refine sa Wo σ H ρ _ rel (post.bind.imp fun r h v H1 bd1 rel1 rp1 st1 => ?_)
  obtain ⟨k, e1, e2⟩ := h.bind.pure (pu_tru _)
  exact ⟨k, rp1.tru (oTru_some e1), e2.ok H1 rel1 st1⟩
/-! and, or, not as tests -/
def tmAnd (a b : TM) : TM := fun ρ => a ρ >>= fun r => if r.1 = true then b r.2 else .ok (false, r.2)
def tmOr (a b : TM) : TM := fun ρ => a ρ >>= fun r => if r.1 = true then .ok (true, r.2) else b r.2
def tmNot (a : TM) : TM := fun ρ => a ρ >>= fun r => .ok (!r.1, r.2)
theorem dw_and1 (ha : DT Z a tm) : DW Z (.BoolOp .And [a] pos) tm := let ⟨t, h1, h2⟩ := ha.ex; ⟨t, fun i => pw_and1 (h1 i), h2⟩
theorem dw_or1 (ha : DT Z a tm) : DW Z (.BoolOp .Or [a] pos) tm := let ⟨t, h1, h2⟩ := ha.ex; ⟨t, fun i => pw_or1 (h1 i), h2⟩
theorem dw_and (ha : DT Z a tm) (hb : DW Z (.BoolOp .And (b :: rest) pos) tm') : DW Z (.BoolOp .And (a :: b :: rest) pos) (tmAnd tm tm') := by
  obtain ⟨ta, pa, sa⟩ := ha.ex
  obtain ⟨tb, pb, sb⟩ := hb.ex
  refine ⟨_, fun i => pw_and (pa i) (pb i), fun Wo σ H ρ Q rel post => ?_⟩
  refine sa Wo σ H ρ _ rel (post.bind.imp fun r h H1 bd1 rel1 st1 => ?_)
  obtain ⟨k, ρ1⟩ := r
  cases k with
  | true => exact sb Wo σ H1 ρ1 Q rel1 ((RQ.step h st1).imp fun r g H2 bd2 rel2 st2 => g H2 bd2 rel2 (st1.trans st2))
  | false => exact RQ.ok h H1 bd1 rel1 st1
theorem dw_or (ha : DT Z a tm) (hb : DW Z (.BoolOp .Or (b :: rest) pos) tm') : DW Z (.BoolOp .Or (a :: b :: rest) pos) (tmOr tm tm') := by
  obtain ⟨ta, pa, sa⟩ := ha.ex
  obtain ⟨tb, pb, sb⟩ := hb.ex
  refine ⟨_, fun i => pw_or (pa i) (pb i), fun Wo σ H ρ Q rel post => ?_⟩
  refine sa Wo σ H ρ _ rel (post.bind.imp fun r h H1 bd1 rel1 st1 => ?_)
  obtain ⟨k, ρ1⟩ := r
  cases k with
  | false => exact sb Wo σ H1 ρ1 Q rel1 ((RQ.step h st1).imp fun r g H2 bd2 rel2 st2 => g H2 bd2 rel2 (st1.trans st2))
  | true => exact RQ.ok h H1 bd1 rel1 st1
theorem dt_not (ha : DT Z a tm) : DT Z (.UnaryOp .Not a pos) (tmNot tm) := by
  obtain ⟨ta, pa, sa⟩ := ha.ex
  exact ⟨_, fun i => pt_not (pa i), fun Wo σ H ρ Q rel post => sa Wo σ H ρ _ rel (post.bind.imp fun r h H1 bd1 rel1 st1 => h.ok H1 bd1 rel1 st1)⟩
/-! .. as values -/
def mAnd (a b : EM) : EM := fun ρ => a ρ >>= fun r => oTru r.1 >>= fun k => if k = true then b r.2 else .ok r
def mOr (a b : EM) : EM := fun ρ => a ρ >>= fun r => oTru r.1 >>= fun k => if k = true then .ok r else b r.2
def mNot (a : EM) : EM := fun ρ => a ρ >>= fun r => oTru r.1 >>= fun k => .ok (.bool (!k), r.2)
theorem de_one {op} (ha : DE Z a ma) : DE Z (.BoolOp op [a] pos) ma := let ⟨t, h1, h2⟩ := ha.ex; ⟨t, fun i => pe_one (h1 i), h2⟩
theorem de_and (ha : DE Z a ma) (hb : DE Z (.BoolOp .And (b :: rest) pos) mb) : DE Z (.BoolOp .And (a :: b :: rest) pos) (mAnd ma mb) := by
  obtain ⟨ta, pa, sa⟩ := ha.ex
  obtain ⟨tb, pb, sb⟩ := hb.ex
  refine ⟨tAndT Z.K ta tb, fun i => by rw [← Z.hK i]; exact pe_andT (pa i) (pb i), fun Wo σ H ρ Q rel post => ?_⟩
  refine sa Wo σ H ρ _ rel (post.bind.imp fun r h v H1 bd1 rel1 rp1 st1 => ?_)
  obtain ⟨k, e1, e2⟩ := h.bind.pure (pu_tru _)
  refine ⟨k, (Rp.b rp1).tru (oTru_some e1), ?_⟩
  cases k with
  | true =>
    rw [if_pos rfl] at e2 ⊢
    exact sb Wo σ H1 r.2 Q rel1 ((RQ.step e2 st1).imp fun r g v H2 bd2 rel2 rp2 st2 => g v H2 bd2 rel2 rp2 (st1.trans st2))
  | false =>
    rw [if_neg Bool.false_ne_true] at e2 ⊢
    exact e2.ok v H1 bd1 rel1 rp1 st1
theorem de_or (ha : DE Z a ma) (hb : DE Z (.BoolOp .Or (b :: rest) pos) mb) : DE Z (.BoolOp .Or (a :: b :: rest) pos) (mOr ma mb) := by
  obtain ⟨ta, pa, sa⟩ := ha.ex
  obtain ⟨tb, pb, sb⟩ := hb.ex
  refine ⟨tOrT Z.K ta tb, fun i => by rw [← Z.hK i]; exact pe_orT (pa i) (pb i), fun Wo σ H ρ Q rel post => ?_⟩
  refine sa Wo σ H ρ _ rel (post.bind.imp fun r h v H1 bd1 rel1 rp1 st1 => ?_)
  obtain ⟨k, e1, e2⟩ := h.bind.pure (pu_tru _)
  refine ⟨k, (Rp.b rp1).tru (oTru_some e1), ?_⟩
  cases k with
  | false =>
    rw [if_neg Bool.false_ne_true] at e2 ⊢
    exact sb Wo σ H1 r.2 Q rel1 ((RQ.step e2 st1).imp fun r g v H2 bd2 rel2 rp2 st2 => g v H2 bd2 rel2 rp2 (st1.trans st2))
  | true =>
    rw [if_pos rfl] at e2 ⊢
    exact e2.ok v H1 bd1 rel1 rp1 st1
theorem de_not (ha : DB Z a ma) : DE Z (.UnaryOp .Not a pos) (mNot ma) := by
  obtain ⟨ta, pa, sa⟩ := ha.ex
  refine ⟨tNotT Z.K ta, fun i => by rw [← Z.hK i]; exact pe_notT (pa i), fun Wo σ H ρ Q rel post => ?_⟩
  refine sa Wo σ H ρ _ rel (post.bind.imp fun r h v H1 bd1 rel1 rp1 st1 => ?_)
  obtain ⟨k, e1, e2⟩ := h.bind.pure (pu_tru _)
  exact ⟨k, rp1.tru (oTru_some e1), e2.ok _ H1 bd1 rel1 (.bl _) st1⟩
def mIf (c : TM) (a b : EM) : EM := fun ρ => c ρ >>= fun r => if r.1 = true then a r.2 else b r.2
theorem de_if (hc : DT Z c tm) (ha : DE Z a ma) (hb : DE Z b mb) : DE Z (.IfExp c a b pos) (mIf tm ma mb) := by
  obtain ⟨tc, pc, sc⟩ := hc.ex
  obtain ⟨ta, pa, sa⟩ := ha.ex
  obtain ⟨tb, pb, sb⟩ := hb.ex
  refine ⟨_, fun i => pe_ifExp (pc i) (pa i) (pb i), fun Wo σ H ρ Q rel post => ?_⟩
  refine sc Wo σ H ρ _ rel (post.bind.imp fun r h H1 bd1 rel1 st1 => ?_)
  obtain ⟨k, ρ1⟩ := r
  cases k with
  | true => exact sa Wo σ H1 ρ1 Q rel1 ((RQ.step h st1).imp fun r g v H2 bd2 rel2 rp2 st2 => g v H2 bd2 rel2 rp2 (st1.trans st2))
  | false => exact sb Wo σ H1 ρ1 Q rel1 ((RQ.step h st1).imp fun r g v H2 bd2 rel2 rp2 st2 => g v H2 bd2 rel2 rp2 (st1.trans st2))
end

/-! ### argument lists, displays -/
abbrev AM := Rho → Res (List PyData × Rho)
section
variable {ι : Type} (Z : Cz ι)
def GA (Wo : Wt) (σ : L2.St) (H : Hp) (ρ : Rho) (Q : List V → Hp → Prop) (r : List PyData × Rho) : Prop :=
  ∀ vs H', Bd Z.K H' → RelZ Z Wo σ H' r.2 → RpL Z.K (av Wo σ r.2) H' vs r.1 → Step σ H ρ σ H' r.2 → Q vs H'
structure DA (es : List Expr) (m : AM) : Prop where
  ex : ∃ t, (∀ i, PA (Z.F i) es t) ∧ ∀ Wo σ H ρ Q, Bd Z.K H → RelZ Z Wo σ H ρ → RQ Z σ H ρ (m ρ) (GA Z Wo σ H ρ Q) → t σ H Q
  len : ∀ ρ r, m ρ = .ok r → r.1.length = es.length
end
def mNil : AM := fun ρ => .ok ([], ρ)
def mCons (a : EM) (r : AM) : AM := fun ρ => a ρ >>= fun x => r x.2 >>= fun y => .ok (x.1 :: y.1, y.2)
section
variable {ι : Type} {Z : Cz ι} {a b c : Expr} {pos : Pos} {ma mb : EM} {es : List Expr} {m : AM}
theorem da_nil : DA Z [] mNil := ⟨⟨_, fun i => pa_nil, fun Wo σ H ρ Q bd rel post => post.ok [] H bd rel .nil (.refl ..)⟩, fun ρ r e => by cases e; rfl⟩
theorem da_cons (ha : DE Z a ma) (hr : DA Z es m) (hs : ∀ i, starEach (a :: es) (Z.F i).env = (false, eval a (Z.F i).env) :: starEach es (Z.F i).env := by intro _; rfl) : DA Z (a :: es) (mCons ma m) := by
  obtain ⟨ta, pa, sa⟩ := ha.ex
  obtain ⟨tr, pr, sr⟩ := hr.ex
  refine ⟨⟨_, fun i => pa_cons (pa i) (pr i) (hs i), fun Wo σ H ρ Q bd rel post => ?_⟩, fun ρ r e => ?_⟩
  case refine_2 =>
    have e : (ma ρ >>= fun x => m x.2 >>= fun y => Res.ok (x.1 :: y.1, y.2)) = Res.ok r := e
    cases e1 : ma ρ with
    | ok x =>
      rw [e1] at e
      simp only [ok_bind] at e
      cases e2 : m x.2 with
      | ok y => rw [e2] at e; cases e; simp [hr.len _ _ e2]
      | exc c as => rw [e2] at e; cases e
      | err => rw [e2] at e; cases e
    | exc c as => rw [e1] at e; cases e
    | err => rw [e1] at e; cases e
  refine sa Wo σ H ρ _ rel (post.bind.imp fun r1 h v H1 bd1 rel1 rp1 st1 => ?_)
  refine sr Wo σ H1 r1.2 _ bd1 rel1 ((h.step st1).bind.imp fun r2 h2 vs H2 bd2 rel2 rp2 st2 => ?_)
  exact h2.ok (v :: vs) H2 bd2 rel2 (.cons (rp1.step st2) rp2) (st1.trans st2)
def mTup (m : AM) : EM := fun ρ => m ρ >>= fun r => if r.1.length ≤ lim then .ok (.tuple r.1, r.2) else .err
def mLst (m : AM) : EM := fun ρ => m ρ >>= fun r => if r.1.length ≤ lim then .ok (.list r.1, r.2) else .err
theorem de_tup {k : Nat} (h : DA Z es m) : DE Z (.Tuple es k pos) (mTup m) := by
  obtain ⟨t, p, s⟩ := h.ex
  refine .mk' (fun i => pe_tup (p i)) fun Wo σ H ρ Q bd rel post => ?_
  refine s Wo σ H ρ _ bd rel (post.bind.imp fun r h vs H1 bd1 rel1 rp1 st1 => ?_)
  split at h
  · rename_i hl
    refine ⟨by rw [rp1.len]; exact lim_le hl, fun p hp => ?_⟩
    exact h.ok _ _ (rel1.same (same_upd hp)) (.tupN (fun b z => rel1.av_some z) hp rp1) (st1.trans (Same.step (same_upd hp)))
  · exact h.elim
theorem de_lst (h : DA Z es m) : DE Z (.List es pos) (mLst m) := by
  obtain ⟨t, p, s⟩ := h.ex
  refine .mk' (fun i => pe_lst (p i)) fun Wo σ H ρ Q bd rel post => ?_
  refine s Wo σ H ρ _ bd rel (post.bind.imp fun r h vs H1 bd1 rel1 rp1 st1 => ?_)
  split at h
  · rename_i hl
    refine ⟨by rw [rp1.len]; exact lim_le hl, fun p hp => ?_⟩
    exact h.ok _ _ (rel1.same (same_upd hp)) (.lstN (fun b z => rel1.av_some z) hp rp1) (st1.trans (Same.step (same_upd hp)))
  · exact h.elim
theorem Step.none {σ : L2.St} {H H1 : Hp} {ρ ρ1 : Rho} {p : Addr} (s : Step σ H ρ σ H1 ρ1) (h : H1 p = none) : H p = none := by
  cases e : H p with
  | none => rfl
  | some o => exact absurd h (s.there p (by rw [e]; simp))
/-- a new list of one's own -/
theorem own_lst {K : PySem.W.Frag} {prot : List Nat} {Wo : Wt} {σ : L2.St} {H : Hp} {ρ : Rho} {p : Addr} {vs : List V} {ds : List PyData} (hp : H p = none) (h : RpL K (av Wo σ ρ) H vs ds) (rel : Rel K prot Wo σ H ρ) :
    OwnR K (av (pls Wo p) σ ρ) (upd H p (.lst vs)) (.ref p) (.list ds) :=
  ⟨p, vs, rfl, upd_same, RpL.keep (fun b o _ e => same_upd hp b o e) (fun b z => by
    rcases z with (z | z) | z
    · exact .inl (.inl z)
    · exact .inr (by rw [z]; exact hp)
    · exact .inl (.inr z)) ds h⟩
theorem do_lst (h : DA Z es m) : DO Z (.List es pos) (mLst m) := by
  obtain ⟨t, p, s⟩ := h.ex
  refine .mk' (fun i => pe_lst (p i)) fun Wo σ H ρ Q bd rel post => ?_
  refine s Wo σ H ρ _ bd rel (post.bind.imp fun r h vs H1 bd1 rel1 rp1 st1 => ?_)
  split at h
  · rename_i hl
    refine ⟨by rw [rp1.len]; exact lim_le hl, fun p hp => ?_⟩
    have n := rel1.new hp
    exact h.ok p _ (rel1.fresh hp) (fun z => n (.inl z)) (fun z => n (.inr z)) (own_lst hp rp1 rel1) (st1.trans (Same.step (same_upd hp))) (st1.none hp)
  · exact h.elim

/-! ### subscripts -/
theorem RpL.atI {K : PySem.W.Frag} {W : Wt} {H : Hp} {xs : List V} {ds : List PyData} {i : Int} {g : PyData} (h : RpL K W H xs ds) (e : atI ds i = some g) : ∃ v, L2.atI xs i = some v ∧ Rp K W H v g := by
  unfold L2.atI at e ⊢
  rw [h.len]
  cases q : ixN ds.length i with
  | none => rw [q] at e; cases e
  | some j =>
    rw [q] at e
    exact h.get e
def sIx : PyData → PyData → Res PyData
  | .list ds, .int i => match atI ds i with | some g => .ok g | none => .err
  | .tuple ds, .int i => match atI ds i with | some g => .ok g | none => .err
  | .str x, .int i => if x.length ≤ lim then (match atI x.cps.toList i with | some c => .ok (.str ⟨#[c]⟩) | none => .err) else .err
  | _, _ => .err
theorem pu_ix : Pure2 sIx := fun d e c as => by
  unfold sIx
  split <;> (try split) <;> (try split) <;> exact fun z => nomatch z
theorem im_ix {K : PySem.W.Frag} : Imp2 K (rIx K) sIx := by
  intro W H x y d e Q hw bd hx hy ⟨g, eg, hg⟩
  unfold sIx at eg
  split at eg
  · split at eg
    · rename_i h
      cases eg
      obtain ⟨a, xs, rfl, h1, h2⟩ := hx.lstE
      cases hy
      obtain ⟨v, e1, e2⟩ := h2.atI h
      exact .inl ⟨a, xs, _, v, rfl, rfl, h1.sq, e1, hg v H same_refl e2⟩
    · cases eg
  · split at eg
    · rename_i h
      cases eg
      obtain ⟨a, xs, rfl, h1, h2⟩ := hx.tupE
      cases hy
      obtain ⟨v, e1, e2⟩ := h2.atI h
      exact .inr (.inl ⟨a, xs, _, v, rfl, rfl, h1.sq, e1, hg v H same_refl e2⟩)
    · cases eg
  · split at eg
    · rename_i hl
      split at eg
      · rename_i h
        cases eg
        cases hx
        cases hy
        exact .inr (.inr ⟨_, _, _, rfl, rfl, lim_le hl, h, hg _ H same_refl (.str _)⟩)
      · cases eg
    · cases eg
  · cases eg
theorem ix_seqZ (i : ι) : IxR (Z.F i) (rIx Z.K) := by rw [← Z.hK i]; exact ix_seq
theorem de_ix (ha : DE Z a ma) (hb : DE Z b mb) (hs : PlainIx b) : DE Z (.Subscript a b pos) (mBin sIx ma mb) := by
  obtain ⟨ta, pa, sa⟩ := ha.ex
  obtain ⟨tb, pb, sb⟩ := hb.ex
  exact .mk' (fun i => pe_ix (ix_seqZ i) (pa i) (pb i) hs) (sim2 sa sb im_ix pu_ix)
/-- of an own list -/
def mIxOwn (j : Nat) (mb : EM) : EM := fun ρ => match ρ[j]? with
  | some (some (.own _)) => mb ρ >>= fun r => (match r.2[j]? with
    | some (some (.own (.list ds))) => sIx (.list ds) r.1 >>= fun g => .ok (g, r.2)
    | _ => .err)
  | _ => .err
theorem de_ixOwn {j : Nat} {x : Str} {pos' : Pos} (hN : ∀ i, (Z.F i).N[j]? = some x) (hv : ∀ i, Vis (Z.F i).env.scope x) (hb : DE Z b mb) (hs : PlainIx b)
    (hd : (x == ("__debug__" : Str)) = false := by decide) (hcd : (x == ("__classdict__" : Str)) = false := by decide) : DE Z (.Subscript (.Name x pos') b pos) (mIxOwn j mb) := by
  obtain ⟨tb, pb, sb⟩ := hb.ex
  refine .mk' (fun i => pe_ix (ix_seqZ i) (pe_var (hN i) (hv i) hd hcd) (pb i) hs) fun Wo σ H ρ Q bd rel post => ?_
  unfold mIxOwn at post
  split at post
  · rename_i d0 e0
    obtain ⟨v, e1, _⟩ := rel.slot j _ e0
    refine ⟨v, e1, ?_⟩
    refine sb Wo σ H ρ _ rel (post.bind.imp fun r h u H1 bd1 rel1 rp1 st1 => ?_)
    split at h
    · rename_i ds e2
      obtain ⟨v', e3, ow⟩ := rel1.slot j _ e2
      rw [e1] at e3
      cases e3
      obtain ⟨g, e4, e5⟩ := h.bind.pure (pu_ix _ _)
      obtain ⟨di, ρi⟩ := r
      cases di with
      | int i =>
        have e4 : (match atI ds i with | some g => Res.ok g | none => Res.err) = Res.ok g := e4
        cases q : atI ds i with
        | some g' =>
          rw [q] at e4
          cases e4
          obtain ⟨a, xs, rfl, h1, h2⟩ := ow
          obtain ⟨w, e6, e7⟩ := h2.atI q
          exact .inl ⟨a, xs, i, w, rfl, rp1.intE, .inl (.inl h1), e6, e5.ok w H1 rel1 e7 st1⟩
        | none => rw [q] at e4; cases e4
      | _ => cases e4
    · exact h.elim
  · exact post.elim

/-! ### slices -/
def cut {α : Type} (xs : List α) (lo hi : Option Int) : List α := (xs.drop (HT.sIx xs.length 0 lo)).take (HT.sIx xs.length xs.length hi - HT.sIx xs.length 0 lo)
theorem RpL.cut {K : PySem.W.Frag} {W : Wt} {H : Hp} {xs : List V} {ds : List PyData} (lo hi : Option Int) (h : RpL K W H xs ds) : RpL K W H (cutV xs lo hi) (ZZ.cut ds lo hi) := by
  unfold cutV ZZ.cut
  rw [h.len]
  exact (h.drop _).take _
abbrev OM := Rho → Res (Option Int × Rho)
structure DP {ι : Type} (Z : Cz ι) (e : Option Expr) (m : OM) : Prop where
  ex : ∃ t, (∀ i, PO (Z.F i) e t) ∧ ∀ Wo σ H ρ (Q : Option Int → Hp → Prop), RelZ Z Wo σ H ρ → RQ Z σ H ρ (m ρ) (fun r => ∀ H', Bd Z.K H' → RelZ Z Wo σ H' r.2 → Step σ H ρ σ H' r.2 → Q r.1 H') → Bd Z.K H → t σ H Q
def oNo : OM := fun ρ => .ok (none, ρ)
def oIt (m : EM) : OM := fun ρ => m ρ >>= fun r => match r.1 with | .int i => .ok (some i, r.2) | _ => .err
theorem dp_none : DP Z none oNo := ⟨_, fun i => po_none, fun Wo σ H ρ Q rel post bd => post.ok H bd rel (.refl ..)⟩
theorem dp_some (ha : DE Z a ma) : DP Z (some a) (oIt ma) := by
  obtain ⟨ta, pa, sa⟩ := ha.ex
  refine ⟨_, fun i => po_some (pa i), fun Wo σ H ρ Q rel post bd => ?_⟩
  refine sa Wo σ H ρ _ rel (post.bind.imp fun r h v H1 bd1 rel1 rp1 st1 => ?_)
  obtain ⟨d, ρ1⟩ := r
  cases d with
  | int i => exact ⟨i, rp1.intE, h.ok H1 bd1 rel1 st1⟩
  | _ => exact False.elim h
def sSl (d : PyData) (lo hi : Option Int) : Res PyData := match d with
  | .list ds => .ok (.list (ZZ.cut ds lo hi))
  | .tuple ds => .ok (.tuple (ZZ.cut ds lo hi))
  | _ => .err
def mSl (ma : EM) (ml mh : OM) : EM := fun ρ => ma ρ >>= fun r => ml r.2 >>= fun l => mh l.2 >>= fun h => sSl r.1 l.1 h.1 >>= fun g => .ok (g, h.2)
theorem pu_sl (d lo hi) : ∀ c as, sSl d lo hi ≠ .exc c as := fun c as => by
  unfold sSl
  split <;> exact fun z => nomatch z
theorem cut_all {α : Type} {xs : List α} {lo hi : Option Int} (h : HT.sIx xs.length 0 lo = 0 ∧ HT.sIx xs.length xs.length hi = xs.length) : ZZ.cut xs lo hi = xs := by
  unfold ZZ.cut
  rw [h.1, h.2]
  simp
theorem de_sl {lo hi : Option Expr} {ml mh : OM} {p2 : Pos} (ha : DE Z a ma) (hl : DP Z lo ml) (hh : DP Z hi mh) : DE Z (.Subscript a (.Slice lo hi none p2) pos) (mSl ma ml mh) := by
  obtain ⟨ta, pa, sa⟩ := ha.ex
  obtain ⟨tl, pl, sl⟩ := hl.ex
  obtain ⟨th, ph, sh⟩ := hh.ex
  refine .mk' (t := tSl (fun x lo hi H Q => rSlL Z.K x lo hi H Q ∨ rSlA Z.K x lo hi H Q) ta tl th) (fun i => pe_slice (by rw [← Z.hK i]; exact sl_list.or sl_tupA) (pa i) (pl i) (ph i)) fun Wo σ H ρ Q bd rel post => ?_
  refine sa Wo σ H ρ _ rel (post.bind.imp fun r h v H1 bd1 rel1 rp1 st1 => ?_)
  refine sl Wo σ H1 r.2 _ rel1 ((RQ.step h st1).bind.imp fun l h2 H2 bd2 rel2 st2 => ?_) bd1
  refine sh Wo σ H2 l.2 _ rel2 ((RQ.step h2 st2).bind.imp fun u h3 H3 bd3 rel3 st3 => ?_) bd2
  obtain ⟨g, e1, e2⟩ := h3.bind.pure (pu_sl _ _ _)
  have rp := (rp1.step st2).step st3
  have st := (st1.trans st2).trans st3
  unfold sSl at e1
  split at e1
  · rename_i ds er
    cases e1
    rw [er] at rp
    obtain ⟨a, xs, rfl, k1, k2⟩ := rp.lstE
    refine .inl ⟨a, xs, rfl, k1.sq, fun p hp => ?_⟩
    exact e2.ok _ _ (rel3.same (same_upd hp)) (.lstN (fun b z => rel3.av_some z) hp (k2.cut _ _)) (st.trans (Same.step (same_upd hp)))
  · rename_i ds er
    cases e1
    rw [er] at rp
    obtain ⟨a, xs, rfl, k1, k2⟩ := rp.tupE
    have hl := k2.len
    refine .inr ⟨a, xs, rfl, k1.sq, fun hw => ?_, fun _ p hp => ?_⟩
    · rw [hl] at hw
      refine e2.ok _ H3 rel3 ?_ st
      rw [cut_all hw]
      exact rp
    · exact e2.ok _ _ (rel3.same (same_upd hp)) (.tupN (fun b z => rel3.av_some z) hp (k2.cut _ _)) (st.trans (Same.step (same_upd hp)))
  · cases e1
end
end ZZ

/-! Z5: statements, loops, comprehensions -/
namespace ZZ
open PySem PySem.Spec PyProof.Rows L2

inductive Fl where
  | nx | bk | ct
  | rt (s : Slot)
abbrev SM := Rho → Res (Fl × Rho)
section
variable {ι : Type} (Z : Cz ι)
def Prot (σ σ' : L2.St) : Prop := ∀ i ∈ Z.prot, σ'[i]? = σ[i]?
def RetR (Wo : Wt) (σ' : L2.St) (H' : Hp) (ρ' : Rho) (v : V) : Slot → Prop
  | .val d => Rp Z.K (av Wo σ' ρ') H' v d
  | .own d => ∃ j, j ∉ Z.prot ∧ ρ'[j]? = some (some (Slot.own d)) ∧ σ'[j]? = some (some v)
  | .raw u => v = u
def GS (Wo : Wt) (σ : L2.St) (H : Hp) (ρ : Rho) (D : Ends) (r : Fl × Rho) : Prop := match r.1 with
  | .nx => ∀ σ' H', Bd Z.K H' → RelZ Z Wo σ' H' r.2 → Step σ H ρ σ' H' r.2 → Prot Z σ σ' → D.nx σ' H'
  | .bk => ∀ σ' H', Bd Z.K H' → RelZ Z Wo σ' H' r.2 → Step σ H ρ σ' H' r.2 → Prot Z σ σ' → D.bk σ' H'
  | .ct => ∀ σ' H', Bd Z.K H' → RelZ Z Wo σ' H' r.2 → Step σ H ρ σ' H' r.2 → Prot Z σ σ' → D.ct σ' H'
  | .rt s => ∀ v σ' H', Bd Z.K H' → RelZ Z Wo σ' H' r.2 → RetR Z Wo σ' H' r.2 v s → Step σ H ρ σ' H' r.2 → Prot Z σ σ' → D.rt v H'
def SimS (t : TS) (m : SM) : Prop := ∀ Wo σ H ρ D, RelZ Z Wo σ H ρ → RQ Z σ H ρ (m ρ) (GS Z Wo σ H ρ D) → t D σ H
structure DS (st : Stmt) (m : SM) : Prop where
  ex : ∃ t, (∀ i, PS (Z.F i) st t) ∧ SimS Z t m
structure DSs (st : List Stmt) (m : SM) : Prop where
  ex : ∃ t, (∀ i, PSs (Z.F i) st t) ∧ SimS Z t m
def gs0 (Wo : Wt) (σ : L2.St) (H : Hp) (ρ : Rho) (D : Ends) (r : Fl × Rho) : Prop := match r.1 with
  | .nx => ∀ σ' H', RelZ Z Wo σ' H' r.2 → Step σ H ρ σ' H' r.2 → Prot Z σ σ' → D.nx σ' H'
  | .bk => ∀ σ' H', RelZ Z Wo σ' H' r.2 → Step σ H ρ σ' H' r.2 → Prot Z σ σ' → D.bk σ' H'
  | .ct => ∀ σ' H', RelZ Z Wo σ' H' r.2 → Step σ H ρ σ' H' r.2 → Prot Z σ σ' → D.ct σ' H'
  | .rt s => ∀ v σ' H', RelZ Z Wo σ' H' r.2 → RetR Z Wo σ' H' r.2 v s → Step σ H ρ σ' H' r.2 → Prot Z σ σ' → D.rt v H'
end
def lockEnds (K : PySem.W.Frag) (D : Ends) : Ends := { nx := fun σ H => Bd K H → D.nx σ H, rt := fun v H => Bd K H → D.rt v H, bk := fun σ H => Bd K H → D.bk σ H, ct := fun σ H => Bd K H → D.ct σ H }
theorem lockSP {X : Cx} {pins : List (Addr × Obj)} {D : Ends} {f : Flow} {s' : Shared} (h : SP X pins (lockEnds X.K D) f s') : SP X pins D f s' := by
  cases f with
  | next => obtain ⟨σ', H', I, q⟩ := h; exact ⟨σ', H', I, q (bd_of I)⟩
  | brk => obtain ⟨σ', H', I, q⟩ := h; exact ⟨σ', H', I, q (bd_of I)⟩
  | cont => obtain ⟨σ', H', I, q⟩ := h; exact ⟨σ', H', I, q (bd_of I)⟩
  | ret u => obtain ⟨v, σ', H', I, r, q⟩ := h; exact ⟨v, σ', H', I, r, q (bd_of I)⟩
theorem lockS {X : Cx} {K : PySem.W.Frag} {st : Stmt} {t : TS} (hK : X.K = K) (h : PS X st t) : PS X st (fun D σ H => Bd K H → t (lockEnds K D) σ H) :=
  ⟨fun pins s σ H D I hw => by
    subst hK
    exact thn (h.run pins s σ H _ I (hw (bd_of I))) fun f s' q => lockSP q⟩
section
variable {ι : Type} {Z : Cz ι} {st : Stmt} {rest : List Stmt} {m m' : SM} {pos : Pos} {e : Expr} {me : EM} {es : List Expr}
theorem DS.mk' {t : TS} (h : ∀ i, PS (Z.F i) st t) (s : ∀ Wo σ H ρ D, Bd Z.K H → RelZ Z Wo σ H ρ → RQ Z σ H ρ (m ρ) (gs0 Z Wo σ H ρ D) → t D σ H) : DS Z st m := by
  refine ⟨_, fun i => lockS (Z.hK i) (h i), fun Wo σ H ρ D rel post bd => s Wo σ H ρ _ bd rel (post.imp fun r g => ?_)⟩
  obtain ⟨f, ρ'⟩ := r
  cases f with
  | nx => exact fun σ' H' r1 st p bd' => g σ' H' bd' r1 st p
  | bk => exact fun σ' H' r1 st p bd' => g σ' H' bd' r1 st p
  | ct => exact fun σ' H' r1 st p bd' => g σ' H' bd' r1 st p
  | rt s => exact fun v σ' H' r1 r2 st p bd' => g v σ' H' bd' r1 r2 st p
theorem Prot.refl (σ : L2.St) : Prot Z σ σ := fun _ _ => rfl
theorem Prot.trans {a b c : L2.St} (h : Prot Z a b) (k : Prot Z b c) : Prot Z a c := fun i hi => (k i hi).trans (h i hi)
theorem Prot.set {σ : L2.St} {j : Nat} {v : Option V} (h : j ∉ Z.prot) : Prot Z σ (σ.set j v) := fun i hi => by
  have : j ≠ i := fun e => h (e ▸ hi)
  rw [List.getElem?_set_ne this]
/-- behind a first step -/
theorem GS.after {Wo : Wt} {σ σ1 : L2.St} {H H1 : Hp} {ρ ρ1 : Rho} {D D' : Ends} {r : Fl × Rho} (g : GS Z Wo σ H ρ D r) (s : Step σ H ρ σ1 H1 ρ1) (p : Prot Z σ σ1)
    (hn : D'.nx = D.nx := by rfl) (hb : D'.bk = D.bk := by rfl) (hc : D'.ct = D.ct := by rfl) (hr : D'.rt = D.rt := by rfl) : GS Z Wo σ1 H1 ρ1 D' r := by
  obtain ⟨f, ρ'⟩ := r
  cases f with
  | nx => intro σ' H' bd rl st pr; rw [hn]; exact g σ' H' bd rl (s.trans st) (p.trans pr)
  | bk => intro σ' H' bd rl st pr; rw [hb]; exact g σ' H' bd rl (s.trans st) (p.trans pr)
  | ct => intro σ' H' bd rl st pr; rw [hc]; exact g σ' H' bd rl (s.trans st) (p.trans pr)
  | rt sl => intro v σ' H' bd rl rr st pr; rw [hr]; exact g v σ' H' bd rl rr (s.trans st) (p.trans pr)
def mSkip : SM := fun ρ => .ok (.nx, ρ)
def mSeq (a b : SM) : SM := fun ρ => a ρ >>= fun r => match r.1 with
  | .nx => b r.2
  | f => .ok (f, r.2)
theorem simSeq {t u : TS} (ha : SimS Z t m) (hb : SimS Z u m') : SimS Z (tSeq t u) (mSeq m m') := fun Wo σ H ρ D rel post => by
  refine ha Wo σ H ρ _ rel (post.bind.imp fun r h => ?_)
  obtain ⟨f, ρ1⟩ := r
  cases f with
  | nx => exact fun σ1 H1 bd rel1 st p => hb Wo σ1 H1 ρ1 D rel1 ((RQ.step h st).imp fun r g => g.after st p)
  | bk => exact h
  | ct => exact h
  | rt s => exact h
theorem lockSs {X : Cx} {K : PySem.W.Frag} {sts : List Stmt} {t : TS} (hK : X.K = K) (h : PSs X sts t) : PSs X sts (fun D σ H => Bd K H → t (lockEnds K D) σ H) :=
  ⟨fun pins s σ H D I hw => by
    subst hK
    exact thn (h.run pins s σ H _ I (hw (bd_of I))) fun f s' q => lockSP q⟩
theorem dss_nil : DSs Z [] mSkip := ⟨_, fun i => lockSs (Z.hK i) pss_nil, fun Wo σ H ρ D rel post bd bd' => post.ok σ H bd rel (.refl ..) (.refl _)⟩
theorem dss_cons (h1 : DS Z st m) (h2 : DSs Z rest m') : DSs Z (st :: rest) (mSeq m m') := by
  obtain ⟨t, p1, s1⟩ := h1.ex
  obtain ⟨u, p2, s2⟩ := h2.ex
  exact ⟨_, fun i => pss_cons (p1 i) (p2 i), simSeq s1 s2⟩
theorem dss_one (h1 : DS Z st m) : DSs Z [st] m := by
  obtain ⟨t, p1, s1⟩ := h1.ex
  exact ⟨_, fun i => pss_one (p1 i), s1⟩
theorem ds_pass : DS Z (.Pass pos) mSkip := .mk' (fun i => ps_pass) fun Wo σ H ρ D bd rel post => post.ok σ H rel (.refl ..) (.refl _)
def mBreak : SM := fun ρ => .ok (.bk, ρ)
def mCont : SM := fun ρ => .ok (.ct, ρ)
theorem ds_break : DS Z (.Break pos) mBreak := .mk' (fun i => ps_break) fun Wo σ H ρ D bd rel post => post.ok σ H rel (.refl ..) (.refl _)
theorem ds_cont : DS Z (.Continue pos) mCont := .mk' (fun i => ps_continue) fun Wo σ H ρ D bd rel post => post.ok σ H rel (.refl ..) (.refl _)
def mExpr (m : EM) : SM := fun ρ => m ρ >>= fun r => .ok (.nx, r.2)
theorem ds_expr (he : DE Z e me) (hs : ∀ i, swapsWith e none pos.line (Z.F i).env = pure false := by intro _; rfl) : DS Z (.Expr e pos) (mExpr me) := by
  obtain ⟨t, p, s⟩ := he.ex
  refine .mk' (fun i => ps_expr (p i) (hs i)) fun Wo σ H ρ D bd rel post => ?_
  exact s Wo σ H ρ _ rel (post.bind.imp fun r h v H1 bd1 rel1 rp1 st1 => h.ok σ H1 rel1 st1 (.refl _))
def mRet (m : EM) : SM := fun ρ => m ρ >>= fun r => .ok (.rt (.val r.1), r.2)
theorem ds_ret (he : DE Z e me) : DS Z (.Return (some e) pos) (mRet me) := by
  obtain ⟨t, p, s⟩ := he.ex
  refine .mk' (fun i => ps_ret (p i)) fun Wo σ H ρ D bd rel post => ?_
  exact s Wo σ H ρ _ rel (post.bind.imp fun r h v H1 bd1 rel1 rp1 st1 => h.ok v σ H1 rel1 rp1 st1 (.refl _))
def mRetN : SM := fun ρ => .ok (.rt (.val .none), ρ)
theorem ds_retN : DS Z (.Return none pos) mRetN := .mk' (fun i => ps_retN) fun Wo σ H ρ D bd rel post => post.ok .non σ H rel .non (.refl ..) (.refl _)
/-- return x, x one's own -/
def mRetOwn (j : Nat) : SM := fun ρ => match ρ[j]? with
  | some (some (.own d)) => .ok (.rt (.own d), ρ)
  | _ => .err
theorem ds_retOwn {j : Nat} {x : Str} {pos' : Pos} (hN : ∀ i, (Z.F i).N[j]? = some x) (hv : ∀ i, Vis (Z.F i).env.scope x) (hj : j ∉ Z.prot) (hd : (x == ("__debug__" : Str)) = false := by decide) (hcd : (x == ("__classdict__" : Str)) = false := by decide) :
    DS Z (.Return (some (.Name x pos')) pos) (mRetOwn j) := by
  refine .mk' (fun i => ps_ret (pe_var (hN i) (hv i) hd hcd)) fun Wo σ H ρ D bd rel post => ?_
  unfold mRetOwn at post
  split at post
  · rename_i d e
    obtain ⟨v, e1, h⟩ := rel.slot j _ e
    exact ⟨v, e1, post.ok v σ H rel ⟨j, hj, e, e1⟩ (.refl ..) (.refl _)⟩
  · exact post.elim
def mIfS (c : TM) (a b : SM) : SM := fun ρ => c ρ >>= fun r => if r.1 = true then a r.2 else b r.2
theorem ds_if {c : Expr} {a b : List Stmt} {tm : TM} {ma mb : SM} (hc : DT Z c tm) (ha : DSs Z a ma) (hb : DSs Z b mb) : DS Z (.If c a b pos) (mIfS tm ma mb) := by
  obtain ⟨tc, pc, sc⟩ := hc.ex
  obtain ⟨ta, pa, sa⟩ := ha.ex
  obtain ⟨tb, pb, sb⟩ := hb.ex
  refine ⟨_, fun i => ps_if (pc i) (pa i) (pb i), fun Wo σ H ρ D rel post => ?_⟩
  refine sc Wo σ H ρ _ rel (post.bind.imp fun r h H1 bd1 rel1 st1 => ?_)
  obtain ⟨k, ρ1⟩ := r
  cases k with
  | true => exact sa Wo σ H1 ρ1 D rel1 ((RQ.step h st1).imp fun r g => g.after st1 (.refl _))
  | false => exact sb Wo σ H1 ρ1 D rel1 ((RQ.step h st1).imp fun r g => g.after st1 (.refl _))

/-! ### stores -/
theorem ps_setW {X : Cx} {i : Nat} {x : Str} {e : Expr} {te : TE} {pos pos' : Pos} (hN : X.N.Nodup) (hi : X.N[i]? = some x) (hx : Loc X.env.scope x) (he : PE X e te) (hs : swapsWith e (some (.Name x pos')) pos.line X.env = pure false)
    (hf : X.fn x = true ∨ X.env.scope.names.lookup x = some .local) : PS X (.Assign [.Name x pos'] e pos) (tAsg te (gName i)) := ps_set hN hi hx he hs hf
def mSet (j : Nat) (m : EM) : SM := fun ρ => m ρ >>= fun r => .ok (.nx, r.2.set j (some (.val r.1)))
def mSetO (j : Nat) (m : EM) : SM := fun ρ => m ρ >>= fun r => .ok (.nx, r.2.set j (some (.own r.1)))
theorem ds_set {j : Nat} {x : Str} {pos' : Pos} (hi : ∀ i, (Z.F i).N[j]? = some x) (hx : ∀ i, Loc (Z.F i).env.scope x) (hp : j ∉ Z.prot) (he : DE Z e me)
    (hs : ∀ i, swapsWith e (some (.Name x pos')) pos.line (Z.F i).env = pure false) (hf : ∀ i, (Z.F i).fn x = true ∨ (Z.F i).env.scope.names.lookup x = some .local) :
    DS Z (.Assign [.Name x pos'] e pos) (mSet j me) := by
  obtain ⟨t, p, s⟩ := he.ex
  refine .mk' (fun i => ps_setW (Z.nd i) (hi i) (hx i) (p i) (hs i) (hf i)) fun Wo σ H ρ D bd rel post => ?_
  exact s Wo σ H ρ _ rel (post.bind.imp fun r h v H1 bd1 rel1 rp1 st1 => h.ok _ H1 (rel1.set_val rp1) (st1.trans (step_set fun _ z => nomatch z)) (.set hp))
theorem step_own {σ : L2.St} {H : Hp} {ρ : Rho} {j : Nat} {p : Addr} {d : PyData} {H0 : Hp} {σ0 : L2.St} {ρ0 : Rho} (s : Step σ0 H0 ρ0 σ H ρ) (hp : H0 p = none) : Step σ0 H0 ρ0 (σ.set j (some (.ref p))) H (ρ.set j (some (.own d))) :=
  ⟨s.keep, fun b z => by
    rcases ownAt_set_own z with z | z
    · exact .inr (by rw [z]; exact hp)
    · exact s.own b z, s.there⟩
theorem ds_setO {j : Nat} {x : Str} {pos' : Pos} (hi : ∀ i, (Z.F i).N[j]? = some x) (hx : ∀ i, Loc (Z.F i).env.scope x) (hp : j ∉ Z.prot) (he : DO Z e me)
    (hs : ∀ i, swapsWith e (some (.Name x pos')) pos.line (Z.F i).env = pure false) (hf : ∀ i, (Z.F i).fn x = true ∨ (Z.F i).env.scope.names.lookup x = some .local) :
    DS Z (.Assign [.Name x pos'] e pos) (mSetO j me) := by
  obtain ⟨t, p, s⟩ := he.ex
  refine .mk' (fun i => ps_setW (Z.nd i) (hi i) (hx i) (p i) (hs i) (hf i)) fun Wo σ H ρ D bd rel post => ?_
  exact s Wo σ H ρ _ rel (post.bind.imp fun r h q H1 bd1 rel1 n1 n2 ow st1 hq => h.ok _ H1 (rel1.set_own n1 n2 ow) (step_own st1 hq) (.set hp))
/-! targets -/
abbrev GM := PyData → Rho → Res Rho
abbrev GMs := List PyData → Rho → Res Rho
section
variable (Z)
structure DG (tg : Expr) (ts : List Nat) (m : GM) : Prop where
  ex : ∃ t : TG, (∀ i, PG (Z.F i) tg t) ∧ ∀ Wo σ H ρ v d (Q : L2.St → Hp → Prop), RelZ Z Wo σ H ρ → Rp Z.K (av Wo σ ρ) H v d →
    (∃ ρ', m d ρ = .ok ρ' ∧ ∀ σ', RelZ Z Wo σ' H ρ' → Step σ H ρ σ' H ρ' → (∀ i, i ∉ ts → σ'[i]? = σ[i]?) → σ'.length = σ.length → Q σ' H) → t v σ H Q
structure DGs (tgs : List Expr) (ts : List Nat) (m : GMs) : Prop where
  ex : ∃ t : TGs, (∀ i, PGs (Z.F i) tgs t) ∧ ∀ Wo σ H ρ vs ds (Q : L2.St → Hp → Prop), RelZ Z Wo σ H ρ → RpL Z.K (av Wo σ ρ) H vs ds →
    (∃ ρ', m ds ρ = .ok ρ' ∧ ∀ σ', RelZ Z Wo σ' H ρ' → Step σ H ρ σ' H ρ' → (∀ i, i ∉ ts → σ'[i]? = σ[i]?) → σ'.length = σ.length → Q σ' H) → t vs σ H Q
end
def gmName (j : Nat) : GM := fun d ρ => .ok (ρ.set j (some (.val d)))
theorem dg_name {j : Nat} {x : Str} (hi : ∀ i, (Z.F i).N[j]? = some x) (hx : ∀ i, Loc (Z.F i).env.scope x) (hf : ∀ i, (Z.F i).fn x = true ∨ (Z.F i).env.scope.names.lookup x = some .local) : DG Z (.Name x pos) [j] (gmName j) := by
  refine ⟨_, fun i => pg_name (Z.nd i) (hi i) (hx i) (hf i), fun Wo σ H ρ v d Q rel rp ⟨ρ', e, h⟩ => ?_⟩
  cases e
  refine h _ (rel.set_val rp) (step_set fun _ z => nomatch z) (fun i hi => ?_) (by simp)
  rw [List.getElem?_set_ne (fun z => hi (by simp [z]))]
def gmNil : GMs := fun ds ρ => match ds with | [] => .ok ρ | _ => .err
def gmCons (a : GM) (r : GMs) : GMs := fun ds ρ => match ds with | d :: ds => a d ρ >>= fun ρ' => r ds ρ' | _ => .err
theorem dgs_nil : DGs Z [] [] gmNil := by
  refine ⟨_, fun i => pgs_nil, fun Wo σ H ρ vs ds Q rel rp ⟨ρ', e, h⟩ => ?_⟩
  cases ds with
  | nil => cases e; cases rp; exact ⟨rfl, h σ rel (.refl ..) (fun _ _ => rfl) rfl⟩
  | cons d ds => cases e
theorem dgs_cons {tg : Expr} {tgs : List Expr} {ts ts' : List Nat} {a : GM} {r : GMs} (ha : DG Z tg ts a) (hr : DGs Z tgs ts' r)
    (hs : ∀ i, (assignEach (tg :: tgs) (Z.F i).env).map (·.2) = assign tg (Z.F i).env :: (assignEach tgs (Z.F i).env).map (·.2) := by intro _; rfl) : DGs Z (tg :: tgs) (ts ++ ts') (gmCons a r) := by
  obtain ⟨t, p, s⟩ := ha.ex
  obtain ⟨u, q, w⟩ := hr.ex
  refine ⟨_, fun i => pgs_cons (p i) (q i) (hs i), fun Wo σ H ρ vs ds Q rel rp ⟨ρ', e, h⟩ => ?_⟩
  cases ds with
  | nil => cases e
  | cons d ds =>
    cases rp with
    | cons r1 r2 =>
      have e : (a d ρ >>= fun ρ' => r ds ρ') = Res.ok ρ' := e
      cases ea : a d ρ with
      | ok ρ1 =>
        rw [ea] at e
        refine ⟨_, _, rfl, s Wo σ H ρ _ d _ rel r1 ⟨ρ1, ea, fun σ1 rel1 st1 k1 l1 => ?_⟩⟩
        refine w Wo σ1 H ρ1 _ ds Q rel1 (r2.step st1) ⟨ρ', e, fun σ2 rel2 st2 k2 l2 => ?_⟩
        refine h σ2 rel2 (st1.trans st2) (fun i hi => ?_) (l2.trans l1)
        simp only [List.mem_append, not_or] at hi
        exact (k2 i hi.2).trans (k1 i hi.1)
      | exc c as => rw [ea] at e; cases e
      | err => rw [ea] at e; cases e
def gmTup (r : GMs) : GM := fun d ρ => match d with | .tuple ds => r ds ρ | _ => .err
theorem dg_tup {tgs : List Expr} {k : Nat} {ts : List Nat} {r : GMs} (h : DGs Z tgs ts r) (n : Nat) (hl : ∀ ds ρ ρ', r ds ρ = .ok ρ' → ds.length = n)
    (hn : ∀ i, (assignEach tgs (Z.F i).env).length = n := by intro _; rfl) (hst : ∀ i, (assignEach tgs (Z.F i).env).findIdx? (·.1) = none := by intro _; rfl) (hcm : Z.cm := by exact trivial) : DG Z (.Tuple tgs k pos) ts (gmTup r) := by
  obtain ⟨t, p, s⟩ := h.ex
  refine ⟨gTup Z.K n t, fun i => by rw [← Z.hK i]; exact pg_tup (Z.calm hcm i) (p i) (hn i) (hst i), fun Wo σ H ρ v d Q rel rp ⟨ρ', e, h⟩ => ?_⟩
  cases d with
  | tuple ds =>
    obtain ⟨a, xs, rfl, h1, h2⟩ := rp.tupE
    exact ⟨a, xs, rfl, h1.sq, by rw [h2.len]; exact hl ds ρ ρ' e, s Wo σ H ρ xs ds Q rel h2 ⟨ρ', e, h⟩⟩
  | _ => cases e
theorem gm_len0 : ∀ ds ρ ρ', gmNil ds ρ = .ok ρ' → ds.length = 0 := fun ds ρ ρ' h => by
  cases ds with
  | nil => rfl
  | cons _ _ => cases h
theorem gm_lenS {a : GM} {r : GMs} {n : Nat} (h : ∀ ds ρ ρ', r ds ρ = .ok ρ' → ds.length = n) : ∀ ds ρ ρ', gmCons a r ds ρ = .ok ρ' → ds.length = n + 1 := fun ds ρ ρ' e => by
  cases ds with
  | nil => cases e
  | cons d ds =>
    have e : (a d ρ >>= fun ρ' => r ds ρ') = Res.ok ρ' := e
    cases ea : a d ρ with
    | ok ρ1 => rw [ea] at e; simp [h ds ρ1 ρ' e]
    | exc c as => rw [ea] at e; cases e
    | err => rw [ea] at e; cases e
/-- targets = value -/
def mAsg (g : GM) (m : EM) : SM := fun ρ => m ρ >>= fun r => g r.1 r.2 >>= fun ρ' => .ok (.nx, ρ')
theorem ds_asg {tg : Expr} {ts : List Nat} {g : GM} (he : DE Z e me) (hg : DG Z tg ts g) (hp : ∀ i ∈ Z.prot, i ∉ ts) (gp : ∀ d ρ c as, g d ρ ≠ .exc c as) (hs : ∀ i, swapsWithSole [tg] e pos.line (Z.F i).env = pure false := by intro _; rfl) (hw : ∀ i, swappedStores [tg] e (Z.F i).env = pure none := by intro _; rfl)
    (h1 : ∀ i, (assignEach [tg] (Z.F i).env).map (·.2) = [assign tg (Z.F i).env] := by intro _; rfl) : DS Z (.Assign [tg] e pos) (mAsg g me) := by
  obtain ⟨t, p, s⟩ := he.ex
  obtain ⟨u, q, w⟩ := hg.ex
  refine .mk' (fun i => ps_asg (p i) (q i) (hs i) (hw i) (h1 i)) fun Wo σ H ρ D bd rel post => ?_
  refine s Wo σ H ρ _ rel (post.bind.imp fun r h v H1 bd1 rel1 rp1 st1 => ?_)
  obtain ⟨ρ', e1, e2⟩ := h.bind.pure (gp _ _)
  exact w Wo σ H1 r.2 v r.1 _ rel1 rp1 ⟨ρ', e1, fun σ' rel2 st2 k _ => e2.ok σ' H1 rel2 (st1.trans st2) fun i hi => k i (hp i hi)⟩
theorem gp_name {j : Nat} : ∀ d ρ c as, gmName j d ρ ≠ .exc c as := fun _ _ _ _ z => nomatch z
theorem gp_nil : ∀ d ρ c as, gmNil d ρ ≠ .exc c as := fun d ρ c as => by
  unfold gmNil
  split <;> exact fun z => nomatch z
theorem gp_cons {a : GM} {r : GMs} (ha : ∀ d ρ c as, a d ρ ≠ .exc c as) (hr : ∀ d ρ c as, r d ρ ≠ .exc c as) : ∀ d ρ c as, gmCons a r d ρ ≠ .exc c as := fun ds ρ c as => by
  cases ds with
  | nil => exact fun z => nomatch z
  | cons d ds =>
    show (a d ρ >>= fun ρ' => r ds ρ') ≠ .exc c as
    cases ea : a d ρ with
    | ok ρ1 => exact hr ds ρ1 c as
    | exc c' as' => exact absurd ea (ha _ _ _ _)
    | err => exact fun z => nomatch z
theorem gp_tup {r : GMs} (hr : ∀ d ρ c as, r d ρ ≠ .exc c as) : ∀ d ρ c as, gmTup r d ρ ≠ .exc c as := fun d ρ c as => by
  unfold gmTup
  split
  · exact hr _ _ _ _
  · exact fun z => nomatch z
/-- a, b = x, y with plain local names -/
def mPar (i j : Nat) (m : AM) : SM := fun ρ => m ρ >>= fun r => match r.1 with
  | [a, b] => .ok (.nx, (r.2.set i (some (.val a))).set j (some (.val b)))
  | _ => .err
theorem ds_par {i j : Nat} {x y : Str} {a b : Expr} {ma : AM} {px py pt : Pos} {kt k2 pt2} (hi : ∀ u, (Z.F u).N[i]? = some x) (hj : ∀ u, (Z.F u).N[j]? = some y) (hij : i ≠ j) (pi : i ∉ Z.prot) (pj : j ∉ Z.prot)
    (hx : ∀ u, (Z.F u).env.scope.names.lookup x = some .local) (hy : ∀ u, (Z.F u).env.scope.names.lookup y = some .local) (ha : DA Z [a, b] ma)
    (hw : ∀ u, swappedStores [.Tuple [.Name x px, .Name y py] kt pt] (.Tuple [a, b] k2 pt2) (Z.F u).env = pure (some [x, y]))
    (hs : ∀ u, swapsWithSole [.Tuple [.Name x px, .Name y py] kt pt] (.Tuple [a, b] k2 pt2) pos.line (Z.F u).env = pure false) (hcm : Z.cm := by exact trivial) :
    DS Z (.Assign [.Tuple [.Name x px, .Name y py] kt pt] (.Tuple [a, b] k2 pt2) pos) (mPar i j ma) := by
  obtain ⟨t, p, s⟩ := ha.ex
  refine .mk' (fun u => L2.ps_par (Z.calm hcm u) (Z.nd u) (hi u) (hj u) hij (hx u) (hy u) (p u) (hw u) (hs u)) fun Wo σ H ρ D bd rel post => ?_
  refine s Wo σ H ρ _ bd rel (post.bind.imp fun r h vs H1 bd1 rel1 rp1 st1 => ?_)
  obtain ⟨ds, ρ1⟩ := r
  match ds, vs, h, rp1 with
  | [d1, d2], [v1, v2], h, .cons r1 (.cons r2 .nil) =>
    refine ⟨v1, v2, rfl, ?_⟩
    have s1 : Step σ H1 ρ1 (σ.set i (some v1)) H1 (ρ1.set i (some (.val d1))) := step_set fun _ z => nomatch z
    exact RQ.ok h _ H1 ((rel1.set_val r1).set_val (r2.step s1)) ((st1.trans s1).trans (step_set fun _ z => nomatch z)) ((Prot.set pi).trans (Prot.set pj))
  | [], _, h, _ => exact False.elim h
  | [_], _, h, _ => exact False.elim h
  | _ :: _ :: _ :: _, _, h, _ => exact False.elim h
/-- n += e on a value -/
def mAug (j : Nat) (sem : PyData → PyData → Res PyData) (m : EM) : SM := fun ρ => match ρ[j]? with
  | some (some (.val d)) => m ρ >>= fun r => sem d r.1 >>= fun g => .ok (.nx, r.2.set j (some (.val g)))
  | _ => .err
theorem ds_aug {j : Nat} {x : Str} {op : Operator} {pos' : Pos} {r : R2} {sem : PyData → PyData → Res PyData} (hi : ∀ i, (Z.F i).N[j]? = some x) (hx : ∀ i, Loc (Z.F i).env.scope x) (hp : j ∉ Z.prot) (he : DE Z e me) (ho : ∀ i, PIp (Z.F i) op r) (im : Imp2 Z.K r sem) (pu : Pure2 sem)
    (hf : ∀ i, (Z.F i).fn x = true ∨ (Z.F i).env.scope.names.lookup x = some .local) : DS Z (.AugAssign (.Name x pos') op e pos) (mAug j sem me) := by
  obtain ⟨t, p, s⟩ := he.ex
  refine .mk' (fun i => ps_aug (Z.nd i) (hi i) (hx i) (p i) (ho i) (hf i)) fun Wo σ H ρ D bd rel post => ?_
  unfold mAug at post
  split at post
  · rename_i d e0
    obtain ⟨v, e1, h0⟩ := rel.slot j _ e0
    refine ⟨v, e1, ?_⟩
    refine s Wo σ H ρ _ rel (post.bind.imp fun r h u H1 bd1 rel1 rp1 st1 => ?_)
    obtain ⟨g, e2, e3⟩ := h.bind.pure (pu _ _)
    have h0 : Rp Z.K (av Wo σ ρ) H v d := h0
    refine im (av Wo σ r.2) H1 v u d r.1 _ (fun b z => rel1.av_some z) bd1 (h0.step st1) rp1 ⟨g, e2, fun w H2 sm rp2 => ?_⟩
    exact e3.ok _ H2 ((rel1.same sm).set_val rp2) ((st1.trans (Same.step sm)).trans (step_set fun _ z => nomatch z)) (.set hp)
  · exact post.elim
end
end ZZ

/-! Z6: what is walked; for; comprehensions; while -/
namespace ZZ
open PySem PySem.Spec PyProof.Rows L2

/-- the items come as told, whatever else is written -/
def Del (K : PySem.W.Frag) (J : It) (W0 : Wt) (H0 : Hp) (ds : List PyData) : Prop :=
  ∀ H, (∀ b o, ¬ W0 b → H0 b = some o → H b = some o) → ∀ i : Nat,
    (∀ d, ds[i]? = some d → J.go i H ∧ ∀ x H', J.yld i H x H' → Same H H' ∧ ∀ W : Wt, (∀ b, W b → W0 b ∨ H0 b = none) → (∀ b, W b → H b ≠ none) → Rp K W H' x d) ∧ (ds.length ≤ i → J.stop i H)
abbrev IM := Rho → Res (List PyData × Rho)
section
variable {ι : Type} (Z : Cz ι)
def GI (Wo : Wt) (σ : L2.St) (H : Hp) (ρ : Rho) (R : It → Hp → Prop) (r : List PyData × Rho) : Prop :=
  ∀ J H', Bd Z.K H' → RelZ Z Wo σ H' r.2 → Del Z.K J (av Wo σ r.2) H' r.1 → r.1.length ≤ sizeLine → Step σ H ρ σ H' r.2 → R J H'
structure DI (tg e : Expr) (m : IM) : Prop where
  ex : ∃ t, (∀ i, PI (Z.F i) tg e t) ∧ ∀ Wo σ H ρ R, RelZ Z Wo σ H ρ → RQ Z σ H ρ (m ρ) (GI Z Wo σ H ρ R) → t σ H R
end
theorem lockI {X : Cx} {K : PySem.W.Frag} {tg e : Expr} {t : TI} (hK : X.K = K) (h : PI X tg e t) : PI X tg e (fun σ H R => Bd K H → t σ H fun J H' => Bd K H' → R J H') :=
  ⟨fun pins s σ H R I hw => by
    subst hK
    exact thn (h.run pins s σ H _ I (hw (bd_of I))) fun v s1 h1 => thn h1 fun itv s2 ⟨it, fp, tn, J, H', e1, I', T, st, f, r⟩ => ⟨it, fp, tn, J, H', e1, I', T, st, f, r (bd_of I')⟩⟩
section
variable {ι : Type} {Z : Cz ι} {tg e a b : Expr} {m : IM} {me ma mb : EM} {pos : Pos}
theorem DI.mk' {t : TI} (h : ∀ i, PI (Z.F i) tg e t) (s : ∀ Wo σ H ρ R, Bd Z.K H → RelZ Z Wo σ H ρ → RQ Z σ H ρ (m ρ) (fun r => ∀ J H', RelZ Z Wo σ H' r.2 → Del Z.K J (av Wo σ r.2) H' r.1 → r.1.length ≤ sizeLine → Step σ H ρ σ H' r.2 → R J H') → t σ H R) : DI Z tg e m :=
  ⟨_, fun i => lockI (Z.hK i) (h i), fun Wo σ H ρ R rel post bd => s Wo σ H ρ _ bd rel (post.imp fun r g J H' r1 d l st bd' => g J H' bd' r1 d l st)⟩
theorem sq_ofL {K : PySem.W.Frag} {W0 : Wt} {H0 H : Hp} {a : Addr} {xs : List V} (h : LsW K W0 H0 a xs) (k : ∀ b o, ¬ W0 b → H0 b = some o → H b = some o) : SqL K H a xs := .inl (rd_keep h.2 fun o e => k a o h.1 e)
theorem sq_ofT {K : PySem.W.Frag} {W0 : Wt} {H0 H : Hp} {a : Addr} {xs : List V} (h : TuW K W0 H0 a xs) (k : ∀ b o, ¬ W0 b → H0 b = some o → H b = some o) : SqT K H a xs := .inl (.inl (k a _ h.1 h.2))
theorem del_list {K : PySem.W.Frag} {W0 : Wt} {H0 : Hp} {a : Addr} {xs : List V} {ds : List PyData} (h : LsW K W0 H0 a xs) (r : RpL K W0 H0 xs ds) : Del K (Itl K a) W0 H0 ds := fun H k i => by
  have hs := sq_ofL h k
  refine ⟨fun d e => ?_, fun l => ⟨xs, hs, by rw [r.len]; exact l⟩⟩
  obtain ⟨v, e1, e2⟩ := r.get e
  refine ⟨⟨xs, v, hs, e1⟩, fun x H' y => ?_⟩
  obtain ⟨rfl, y⟩ := y
  have e3 := y xs hs
  rw [e1] at e3
  cases e3
  exact ⟨same_refl, fun W w _ => Rp.keep k w d e2⟩
theorem del_tup {K : PySem.W.Frag} {W0 : Wt} {H0 : Hp} {a : Addr} {xs : List V} {ds : List PyData} (h : TuW K W0 H0 a xs) (r : RpL K W0 H0 xs ds) : Del K (Itt K a) W0 H0 ds := fun H k i => by
  have hs := sq_ofT h k
  refine ⟨fun d e => ?_, fun l => ⟨xs, hs, by rw [r.len]; exact l⟩⟩
  obtain ⟨v, e1, e2⟩ := r.get e
  refine ⟨⟨xs, v, hs, e1⟩, fun x H' y => ?_⟩
  obtain ⟨rfl, y⟩ := y
  have e3 := y xs hs
  rw [e1] at e3
  cases e3
  exact ⟨same_refl, fun W w _ => Rp.keep k w d e2⟩
def iLst (m : EM) : IM := fun ρ => m ρ >>= fun r => match r.1 with | .list ds => .ok (ds, r.2) | _ => .err
def iTpl (m : EM) : IM := fun ρ => m ρ >>= fun r => match r.1 with | .tuple ds => .ok (ds, r.2) | _ => .err
theorem di_list (he : DE Z e me) : DI Z tg e (iLst me) := by
  obtain ⟨t, p, s⟩ := he.ex
  refine .mk' (t := iList Z.K t) (fun i => by rw [← Z.hK i]; exact pi_list (p i)) fun Wo σ H ρ R bd rel post => ?_
  refine s Wo σ H ρ _ rel (post.bind.imp fun r h v H1 bd1 rel1 rp1 st1 => ?_)
  obtain ⟨d, ρ1⟩ := r
  cases d with
  | list ds =>
    obtain ⟨a, xs, rfl, h1, h2⟩ := Rp.lstE rp1
    exact ⟨a, rfl, ⟨xs, h1.sq⟩, RQ.ok h _ H1 rel1 (del_list h1 h2) (by rw [← h2.len]; exact bd1.1 a xs h1.sq) st1⟩
  | _ => exact False.elim h
theorem di_tup (he : DE Z e me) : DI Z tg e (iTpl me) := by
  obtain ⟨t, p, s⟩ := he.ex
  refine .mk' (t := iTup Z.K t) (fun i => by rw [← Z.hK i]; exact pi_tup (p i)) fun Wo σ H ρ R bd rel post => ?_
  refine s Wo σ H ρ _ rel (post.bind.imp fun r h v H1 bd1 rel1 rp1 st1 => ?_)
  obtain ⟨d, ρ1⟩ := r
  cases d with
  | tuple ds =>
    obtain ⟨a, xs, rfl, h1, h2⟩ := Rp.tupE rp1
    exact ⟨a, rfl, ⟨xs, h1.sq⟩, RQ.ok h _ H1 rel1 (del_tup h1 h2) (by rw [← h2.len]; exact bd1.2 a xs h1.sq) st1⟩
  | _ => exact False.elim h
/-- range(n), range(a, b), below lim -/
def rgD (a b : Int) : List PyData := (List.range (b - a).toNat).map fun i => PyData.int (a + (i : Nat))
def okRg (a b : Int) : Bool := decide (-(2 ^ 62) ≤ a) && decide (a < 2 ^ 62) && decide (-(2 ^ 62) ≤ b) && decide (b < 2 ^ 62) && decide ((b - a).toNat ≤ lim)
theorem del_range {K : PySem.W.Frag} {W0 : Wt} {H0 : Hp} {a b : Int} : Del K (Itr a (b - a).toNat) W0 H0 (rgD a b) := fun H k i => by
  unfold rgD
  refine ⟨fun d e => ?_, fun l => by show (b - a).toNat ≤ i; simpa using l⟩
  rw [List.getElem?_map] at e
  by_cases hi : i < (b - a).toNat
  · rw [List.getElem?_range hi] at e
    cases e
    refine ⟨hi, fun x H' y => ?_⟩
    obtain ⟨rfl, rfl⟩ := y
    exact ⟨same_refl, fun W _ _ => .int _⟩
  · rw [List.getElem?_eq_none (by simpa using hi)] at e
    cases e
theorem okRg_of {a b : Int} (h : okRg a b = true) : -(2 ^ 62) ≤ a ∧ a < 2 ^ 62 ∧ -(2 ^ 62) ≤ b ∧ b < 2 ^ 62 ∧ (b - a).toNat ≤ lim := by
  unfold okRg at h
  simp only [Bool.and_eq_true, decide_eq_true_eq] at h
  exact ⟨h.1.1.1.1, h.1.1.1.2, h.1.1.2, h.1.2, h.2⟩
theorem rgD_len (a b : Int) : (rgD a b).length = (b - a).toNat := by simp [rgD]
def iR1 (m : EM) : IM := fun ρ => m ρ >>= fun r => match r.1 with | .int n => if okRg 0 n then .ok (rgD 0 n, r.2) else .err | _ => .err
def iR2 (ma mb : EM) : IM := fun ρ => ma ρ >>= fun r => mb r.2 >>= fun q => match r.1, q.1 with | .int a, .int b => if okRg a b then .ok (rgD a b, q.2) else .err | _, _ => .err
theorem di_range1 {p : Pos} (hg : ∀ i, Gl (Z.F i) "range") (hm : Z.mg "range" = none) (ha : DE Z a ma) (hs : ∀ i, starEach [a] (Z.F i).env = [(false, eval a (Z.F i).env)] := by intro _; rfl)
    (hs' : ∀ i, starEach [a] (Z.F i).env = (false, eval a (Z.F i).env) :: starEach [] (Z.F i).env := by intro _; rfl) : DI Z tg (.Call (.Name "range" p) [a] [] pos) (iR1 ma) := by
  obtain ⟨t, q, s⟩ := ha.ex
  refine .mk' (fun i => pi_range1 (hg i) (by rw [Z.hmg]; exact hm) (pa_cons (q i) pa_nil (hs' i)) (hs i)) fun Wo σ H ρ R bd rel post => ?_
  refine s Wo σ H ρ _ rel (post.bind.imp fun r h v H1 bd1 rel1 rp1 st1 => ?_)
  obtain ⟨d, ρ1⟩ := r
  cases d with
  | int n =>
    have h : RQ Z σ H ρ (if okRg 0 n then .ok (rgD 0 n, ρ1) else .err) _ := h
    split at h
    · rename_i ok
      have k := okRg_of ok
      cases rp1
      refine ⟨n, rfl, k.2.2.1, k.2.2.2.1, ?_⟩
      have dl : Del Z.K (Itr 0 n.toNat) (av Wo σ ρ1) H1 (rgD 0 n) := by
        have q := del_range (K := Z.K) (W0 := av Wo σ ρ1) (H0 := H1) (a := 0) (b := n)
        rw [Int.sub_zero] at q
        exact q
      exact h.ok _ H1 rel1 dl (by rw [rgD_len]; exact lim_le k.2.2.2.2) st1
    · exact h.elim
  | _ => exact False.elim h
theorem di_range2 {p : Pos} (hg : ∀ i, Gl (Z.F i) "range") (hm : Z.mg "range" = none) (ha : DE Z a ma) (hb : DE Z b mb) (hs : ∀ i, starEach [a, b] (Z.F i).env = [(false, eval a (Z.F i).env), (false, eval b (Z.F i).env)] := by intro _; rfl)
    (hs2 : ∀ i, starEach [b] (Z.F i).env = [(false, eval b (Z.F i).env)] := by intro _; rfl)
    (hs' : ∀ i, starEach [a, b] (Z.F i).env = (false, eval a (Z.F i).env) :: starEach [b] (Z.F i).env := by intro _; rfl) (hs'' : ∀ i, starEach [b] (Z.F i).env = (false, eval b (Z.F i).env) :: starEach [] (Z.F i).env := by intro _; rfl) :
    DI Z tg (.Call (.Name "range" p) [a, b] [] pos) (iR2 ma mb) := by
  obtain ⟨ta, pa, sa⟩ := ha.ex
  obtain ⟨tb, pb, sb⟩ := hb.ex
  refine .mk' (fun i => pi_range2 (hg i) (by rw [Z.hmg]; exact hm) (pa_cons (pa i) (pa_cons (pb i) pa_nil (hs'' i)) (hs' i)) (hs i) (hs2 i)) fun Wo σ H ρ R bd rel post => ?_
  refine sa Wo σ H ρ _ rel (post.bind.imp fun r h v H1 bd1 rel1 rp1 st1 => ?_)
  refine sb Wo σ H1 r.2 _ rel1 ((RQ.step h st1).bind.imp fun r2 h2 u H2 bd2 rel2 rp2 st2 => ?_)
  obtain ⟨d, ρ1⟩ := r
  obtain ⟨d2, ρ2⟩ := r2
  cases d with
  | int i =>
    cases d2 with
    | int j =>
      have h2 : RQ Z σ H1 ρ1 (if okRg i j then .ok (rgD i j, ρ2) else .err) _ := h2
      split at h2
      · rename_i ok
        have k := okRg_of ok
        cases rp1
        cases rp2
        exact ⟨i, j, rfl, ⟨k.1, k.2.1, k.2.2.1, k.2.2.2.1⟩, h2.ok _ H2 rel2 del_range (by rw [rgD_len]; exact lim_le k.2.2.2.2) (st1.trans st2)⟩
      · exact h2.elim
    | _ => exact False.elim h2
  | _ => exact False.elim h2
/-! zip, enumerate -/
theorem del_zipL {K : PySem.W.Frag} {W0 : Wt} {H0 : Hp} {a b : Addr} {xs ys : List V} {ds es : List PyData} (h : LsW K W0 H0 a xs) (r : RpL K W0 H0 xs ds) (h' : LsW K W0 H0 b ys) (r' : RpL K W0 H0 ys es) :
    Del K (Itz K a b) W0 H0 (List.zipWith (fun x y => PyData.tuple [x, y]) ds es) := fun H k i => by
  have hs := sq_ofL h k
  have hs' := sq_ofL h' k
  refine ⟨fun d e => ?_, fun l => ?_⟩
  · rw [List.getElem?_zipWith] at e
    cases e1 : ds[i]? with
    | none => rw [e1] at e; cases e
    | some d1 =>
      cases e2 : es[i]? with
      | none => rw [e1, e2] at e; cases e
      | some d2 =>
        rw [e1, e2] at e
        cases e
        obtain ⟨v, q1, q2⟩ := r.get e1
        obtain ⟨u, q3, q4⟩ := r'.get e2
        refine ⟨⟨xs, ys, v, u, hs, hs', q1, q3⟩, fun x H' y => ?_⟩
        obtain ⟨T, x1, y1, rfl, hT, rfl, f1, f2⟩ := y
        have z1 := f1 xs hs
        have z2 := f2 ys hs'
        rw [q1] at z1
        rw [q3] at z2
        cases z1
        cases z2
        exact ⟨same_upd hT, fun W w wn => .tupN wn hT (.cons (Rp.keep k w _ q2) (.one (Rp.keep k w _ q4)))⟩
  · rw [List.length_zipWith] at l
    refine ⟨xs, ys, hs, hs', ?_⟩
    rw [r.len, r'.len]
    omega
theorem del_zipT {K : PySem.W.Frag} {W0 : Wt} {H0 : Hp} {a b : Addr} {xs ys : List V} {ds es : List PyData} (h : TuW K W0 H0 a xs) (r : RpL K W0 H0 xs ds) (h' : TuW K W0 H0 b ys) (r' : RpL K W0 H0 ys es) :
    Del K (RZ.ItzT K a b) W0 H0 (List.zipWith (fun x y => PyData.tuple [x, y]) ds es) := fun H k i => by
  have hs := sq_ofT h k
  have hs' := sq_ofT h' k
  refine ⟨fun d e => ?_, fun l => ?_⟩
  · rw [List.getElem?_zipWith] at e
    cases e1 : ds[i]? with
    | none => rw [e1] at e; cases e
    | some d1 =>
      cases e2 : es[i]? with
      | none => rw [e1, e2] at e; cases e
      | some d2 =>
        rw [e1, e2] at e
        cases e
        obtain ⟨v, q1, q2⟩ := r.get e1
        obtain ⟨u, q3, q4⟩ := r'.get e2
        refine ⟨⟨xs, ys, v, u, hs, hs', q1, q3⟩, fun x H' y => ?_⟩
        obtain ⟨T, x1, y1, rfl, hT, rfl, f1, f2⟩ := y
        have z1 := f1 xs hs
        have z2 := f2 ys hs'
        rw [q1] at z1
        rw [q3] at z2
        cases z1
        cases z2
        exact ⟨same_upd hT, fun W w wn => .tupN wn hT (.cons (Rp.keep k w _ q2) (.one (Rp.keep k w _ q4)))⟩
  · rw [List.length_zipWith] at l
    refine ⟨xs, ys, hs, hs', ?_⟩
    rw [r.len, r'.len]
    omega
def zipD (d e : PyData) : Res (List PyData) := match d, e with
  | .list xs, .list ys => .ok (List.zipWith (fun x y => PyData.tuple [x, y]) xs ys)
  | .tuple xs, .tuple ys => .ok (List.zipWith (fun x y => PyData.tuple [x, y]) xs ys)
  | _, _ => .err
theorem pu_zip (d e) : ∀ c as, zipD d e ≠ .exc c as := fun c as => by
  unfold zipD
  split <;> exact fun z => nomatch z
def iZip (ma mb : EM) : IM := fun ρ => ma ρ >>= fun r => mb r.2 >>= fun q => zipD r.1 q.1 >>= fun l => .ok (l, q.2)
theorem di_zip {p tpos : Pos} {elts : List Expr} {kk : Nat} (hg : ∀ i, Gl (Z.F i) "zip") (hm : Z.mg "zip" = none) (ha : DE Z a ma) (hb : DE Z b mb)
    (hs : ∀ i, starEach [a, b] (Z.F i).env = (false, eval a (Z.F i).env) :: starEach [b] (Z.F i).env := by intro _; rfl) (hpl : ∀ i, (backTo pos (starEach [b] (Z.F i).env)).any (·.1) = false := by intro _; rfl)
    (hs'' : ∀ i, starEach [b] (Z.F i).env = (false, eval b (Z.F i).env) :: starEach [] (Z.F i).env := by intro _; rfl) : DI Z (.Tuple elts kk tpos) (.Call (.Name "zip" p) [a, b] [] pos) (iZip ma mb) := by
  obtain ⟨ta, pa, sa⟩ := ha.ex
  obtain ⟨tb, pb, sb⟩ := hb.ex
  refine .mk' (t := RZ.iZipA Z.K (tCons ta (tCons tb tNil))) (fun i => by rw [← Z.hK i]; exact RZ.pi_zipA (hg i) (by rw [Z.hmg]; exact hm) (pa_cons (pa i) (pa_cons (pb i) pa_nil (hs'' i)) (hs i)) (hs i) (hpl i)) fun Wo σ H ρ R bd rel post => ?_
  refine sa Wo σ H ρ _ rel (post.bind.imp fun r h v H1 bd1 rel1 rp1 st1 => ?_)
  refine sb Wo σ H1 r.2 _ rel1 ((RQ.step h st1).bind.imp fun r2 h2 u H2 bd2 rel2 rp2 st2 => ?_)
  obtain ⟨l, e1, e2⟩ := h2.bind.pure (pu_zip _ _)
  have rp1 := rp1.step st2
  obtain ⟨d, ρ1⟩ := r
  obtain ⟨d2, ρ2⟩ := r2
  unfold zipD at e1
  dsimp only at e1 rp1 rp2
  split at e1
  · cases e1
    obtain ⟨a, xs, rfl, k1, k2⟩ := rp1.lstE
    obtain ⟨b, ys, rfl, k3, k4⟩ := rp2.lstE
    refine ⟨a, b, xs, ys, rfl, .inl ⟨k1.sq, k3.sq, e2.ok _ H2 rel2 (del_zipL k1 k2 k3 k4) ?_ (st1.trans st2)⟩⟩
    rw [List.length_zipWith, ← k2.len]
    exact Nat.le_trans (Nat.min_le_left _ _) (bd2.1 a xs k1.sq)
  · cases e1
    obtain ⟨a, xs, rfl, k1, k2⟩ := rp1.tupE
    obtain ⟨b, ys, rfl, k3, k4⟩ := rp2.tupE
    refine ⟨a, b, xs, ys, rfl, .inr ⟨k1.sq, k3.sq, e2.ok _ H2 rel2 (del_zipT k1 k2 k3 k4) ?_ (st1.trans st2)⟩⟩
    rw [List.length_zipWith, ← k2.len]
    exact Nat.le_trans (Nat.min_le_left _ _) (bd2.2 a xs k1.sq)
  · cases e1
def enumD (ds : List PyData) : List PyData := (List.range ds.length).zipWith (fun i d => PyData.tuple [.int ((i : Nat) : Int), d]) ds
theorem del_enum {K : PySem.W.Frag} {W0 : Wt} {H0 : Hp} {a : Addr} {xs : List V} {ds : List PyData} (h : LsW K W0 H0 a xs) (r : RpL K W0 H0 xs ds) : Del K (Ite K a) W0 H0 (enumD ds) := fun H k i => by
  have hs := sq_ofL h k
  unfold enumD
  refine ⟨fun d e => ?_, fun l => ?_⟩
  · rw [List.getElem?_zipWith] at e
    cases e2 : ds[i]? with
    | none =>
      rw [e2] at e
      revert e; cases (List.range ds.length)[i]? <;> intro e <;> cases e
    | some d2 =>
      have hi : i < ds.length := (List.getElem?_eq_some_iff.mp e2).1
      rw [e2, List.getElem?_range hi] at e
      cases e
      obtain ⟨v, q1, q2⟩ := r.get e2
      refine ⟨⟨xs, v, hs, q1⟩, fun x H' y => ?_⟩
      obtain ⟨T, x1, rfl, hT, rfl, f1⟩ := y
      have z1 := f1 xs hs
      rw [q1] at z1
      cases z1
      exact ⟨same_upd hT, fun W w wn => .tupN wn hT (.cons (.int _) (.one (Rp.keep k w _ q2)))⟩
  · rw [List.length_zipWith, List.length_range, Nat.min_self] at l
    exact ⟨xs, hs, by rw [r.len]; exact l⟩
def iEnL (m : EM) : IM := fun ρ => m ρ >>= fun r => match r.1 with | .list ds => .ok (enumD ds, r.2) | _ => .err
theorem di_enumL {p tpos : Pos} {elts : List Expr} {kk : Nat} (hg : ∀ i, Gl (Z.F i) "enumerate") (hm : Z.mg "enumerate" = none) (ha : DE Z a ma) (hs : ∀ i, starEach [a] (Z.F i).env = [(false, eval a (Z.F i).env)] := by intro _; rfl)
    (hs' : ∀ i, starEach [a] (Z.F i).env = (false, eval a (Z.F i).env) :: starEach [] (Z.F i).env := by intro _; rfl) : DI Z (.Tuple elts kk tpos) (.Call (.Name "enumerate" p) [a] [] pos) (iEnL ma) := by
  obtain ⟨t, q, s⟩ := ha.ex
  refine .mk' (t := iEnum Z.K (tCons t tNil)) (fun i => by rw [← Z.hK i]; exact pi_enum (hg i) (by rw [Z.hmg]; exact hm) (pa_cons (q i) pa_nil (hs' i)) (hs i)) fun Wo σ H ρ R bd rel post => ?_
  refine s Wo σ H ρ _ rel (post.bind.imp fun r h v H1 bd1 rel1 rp1 st1 => ?_)
  obtain ⟨d, ρ1⟩ := r
  cases d with
  | list ds =>
    obtain ⟨a, xs, rfl, h1, h2⟩ := Rp.lstE rp1
    refine ⟨a, xs, rfl, h1.sq, RQ.ok h _ H1 rel1 (del_enum h1 h2) ?_ st1⟩
    show (enumD ds).length ≤ sizeLine
    unfold enumD
    rw [List.length_zipWith, List.length_range, Nat.min_self, ← h2.len]
    exact bd1.1 a xs h1.sq
  | _ => exact False.elim h

/-! ### for -/
def forL (g : GM) (mb : SM) : List PyData → SM
  | [], ρ => .ok (.nx, ρ)
  | d :: ds, ρ => g d ρ >>= fun ρ1 => mb ρ1 >>= fun q => match q.1 with
    | .nx => forL g mb ds q.2
    | .ct => forL g mb ds q.2
    | .bk => .ok (.nx, q.2)
    | .rt s => .ok (.rt s, q.2)
def mFor (mi : IM) (g : GM) (mb : SM) : SM := fun ρ => mi ρ >>= fun r => forL g mb r.1 r.2
theorem drop_at {α : Type} {l : List α} {i : Nat} {d : α} (h : l[i]? = some d) : l.drop i = d :: l.drop (i + 1) := by
  obtain ⟨hi, e⟩ := List.getElem?_eq_some_iff.mp h
  rw [← e, List.drop_eq_getElem_cons hi]
theorem ds_for {ts : List Nat} {g : GM} {body : List Stmt} {mbd : SM} (hi : DI Z tg e m) (hg : DG Z tg ts g) (gp : ∀ d ρ c as, g d ρ ≠ .exc c as) (hp : ∀ i ∈ Z.prot, i ∉ ts) (hb : DSs Z body mbd)
    (hs : ∀ i x, foldedSetIterable e (Z.F i).env x = pure x := by intro _ _; rfl) (hcm : Z.cm := by exact trivial) : DS Z (.For tg e body [] pos) (mFor m g mbd) := by
  obtain ⟨ti, pi, si⟩ := hi.ex
  obtain ⟨tg', pg, sg⟩ := hg.ex
  obtain ⟨tb, pb, sb⟩ := hb.ex
  refine ⟨_, fun i => ps_for (Z.pO i) (Z.calm hcm i) (pi i) (pg i) (pb i) (hs i), fun Wo σ H ρ D rel post => ?_⟩
  refine si Wo σ H ρ _ rel (post.bind.imp fun r h J H1 bd1 rel1 dl hl st1 => ?_)
  obtain ⟨ds, ρ1⟩ := r
  dsimp only at h rel1 dl hl st1
  have h : RQ Z σ H1 ρ1 (forL g mbd ds ρ1) (GS Z Wo σ H1 ρ1 D) := (RQ.step h st1).imp fun q w => w.after st1 (.refl _)
  let Wn : Nat → L2.St → Hp → Prop := fun i σi Hi => ∃ ρi, RelZ Z Wo σi Hi ρi ∧ Step σ H1 ρ1 σi Hi ρi ∧ Prot Z σ σi ∧ Bd Z.K Hi ∧ RQ Z σi Hi ρi (forL g mbd (ds.drop i) ρi) (GS Z Wo σ H1 ρ1 D)
  refine ⟨fun i n σi Hi => n = ds.length - i ∧ i ≤ ds.length ∧ Wn i σi Hi, ⟨ds.length, by simp, Nat.zero_le _, ρ1, rel1, .refl .., .refl _, bd1, by simpa using h⟩, ?_⟩
  rintro i n σi Hi ⟨rfl, hi, ρi, reli, sti, pri, bdi, qi⟩
  have hd := dl Hi (fun b o nb eb => sti.keep b o (fun z => nb (.inr z)) eb) i
  by_cases hlt : i < ds.length
  · obtain ⟨d, ed⟩ : ∃ d, ds[i]? = some d := ⟨ds[i], by simp [hlt]⟩
    obtain ⟨go, yd⟩ := hd.1 d ed
    refine .inr ⟨go, Wn (i + 1), fun σ' H' w => ⟨ds.length - (i + 1), by omega, rfl, hlt, w⟩, fun x H' y => ?_⟩
    obtain ⟨sm, rpx⟩ := yd x H' y
    have rpx := rpx (av Wo σi ρi) (fun b z => z.elim (fun w => .inl (.inl w)) fun w => (sti.own b w).elim (fun q => .inl (.inr q)) .inr) (fun b z => reli.av_some z)
    rw [drop_at ed] at qi
    have qi : RQ Z σi Hi ρi (g d ρi >>= fun ρ1 => mbd ρ1 >>= fun q => match q.1 with
      | .nx => forL g mbd (ds.drop (i + 1)) q.2 | .ct => forL g mbd (ds.drop (i + 1)) q.2 | .bk => .ok (.nx, q.2) | .rt s => .ok (.rt s, q.2)) _ := qi
    obtain ⟨ρ2, e2, qi⟩ := qi.bind.pure (gp _ _)
    refine sg Wo σi H' ρi x d _ (reli.same sm) rpx ⟨ρ2, e2, fun σ2 rel2 st2 k2 _ => ?_⟩
    have s2 : Step σi Hi ρi σ2 H' ρ2 := (Same.step sm).trans st2
    have p2 : Prot Z σi σ2 := fun j hj => k2 j (hp j hj)
    refine sb Wo σ2 H' ρ2 _ rel2 ((RQ.step qi.bind s2).imp fun q w => ?_)
    obtain ⟨f, ρ3⟩ := q
    cases f with
    | nx => exact fun σ3 H3 bd3 rel3 st3 p3 => ⟨ρ3, rel3, (sti.trans s2).trans st3, (pri.trans p2).trans p3, bd3, (RQ.step (RQ.step w s2) st3).imp fun _ z => z⟩
    | ct => exact fun σ3 H3 bd3 rel3 st3 p3 => ⟨ρ3, rel3, (sti.trans s2).trans st3, (pri.trans p2).trans p3, bd3, (RQ.step (RQ.step w s2) st3).imp fun _ z => z⟩
    | bk => exact fun σ3 H3 bd3 rel3 st3 p3 => RQ.ok w σ3 H3 bd3 rel3 ((sti.trans s2).trans st3) ((pri.trans p2).trans p3)
    | rt s => exact fun v σ3 H3 bd3 rel3 rr st3 p3 => RQ.ok w v σ3 H3 bd3 rel3 rr ((sti.trans s2).trans st3) ((pri.trans p2).trans p3)
  · have e : i = ds.length := by omega
    subst e
    refine .inl ⟨hd.2 (Nat.le_refl _), ?_⟩
    rw [List.drop_length] at qi
    exact RQ.ok qi σi Hi bdi reli sti pri
/-! ### while: n turns at most -/
def whL (n : Nat) (c : TM) (mb : SM) : SM := match n with
  | 0 => fun _ => .err
  | n + 1 => fun ρ => c ρ >>= fun r => if r.1 = true then (mb r.2 >>= fun q => match q.1 with
      | .nx => whL n c mb q.2
      | .ct => whL n c mb q.2
      | .bk => .ok (.nx, q.2)
      | .rt s => .ok (.rt s, q.2))
    else .ok (.nx, r.2)
theorem ds_while {c : Expr} {body : List Stmt} {tm : TM} {mbd : SM} (n : Nat) (hc : DT Z c tm) (hb : DSs Z body mbd) : DS Z (.While c body [] pos) (whL n tm mbd) := by
  obtain ⟨tc, pc, sc⟩ := hc.ex
  obtain ⟨tb, pb, sb⟩ := hb.ex
  refine ⟨_, fun i => ps_while (Z.pO i) (pc i) (pb i), fun Wo σ H ρ D rel post => ?_⟩
  let Wn : Nat → L2.St → Hp → Prop := fun k σi Hi => ∃ ρi, RelZ Z Wo σi Hi ρi ∧ Step σ H ρ σi Hi ρi ∧ Prot Z σ σi ∧ RQ Z σi Hi ρi (whL k tm mbd ρi) (GS Z Wo σ H ρ D)
  refine ⟨Wn, ⟨n, ρ, rel, .refl .., .refl _, post⟩, ?_⟩
  rintro k σi Hi ⟨ρi, reli, sti, pri, qi⟩
  cases k with
  | zero => exact qi.elim
  | succ k =>
    have qi : RQ Z σi Hi ρi (tm ρi >>= fun r => if r.1 = true then (mbd r.2 >>= fun q => match q.1 with
      | .nx => whL k tm mbd q.2 | .ct => whL k tm mbd q.2 | .bk => .ok (.nx, q.2) | .rt s => .ok (.rt s, q.2)) else .ok (.nx, r.2)) _ := qi
    refine sc Wo σi Hi ρi _ reli (qi.bind.imp fun r w H1 bd1 rel1 st1 => ?_)
    obtain ⟨t, ρ1⟩ := r
    cases t with
    | true =>
      rw [if_pos rfl]
      have w : RQ Z σi Hi ρi (mbd ρ1 >>= fun q => match q.1 with
        | .nx => whL k tm mbd q.2 | .ct => whL k tm mbd q.2 | .bk => .ok (.nx, q.2) | .rt s => .ok (.rt s, q.2)) _ := w
      refine ⟨Wn k, fun σ' H' x => ⟨k, Nat.lt_succ_self k, x⟩, ?_⟩
      refine sb Wo σi H1 ρ1 _ rel1 ((RQ.step w.bind st1).imp fun q w => ?_)
      obtain ⟨f, ρ3⟩ := q
      cases f with
      | nx => exact fun σ3 H3 bd3 rel3 st3 p3 => ⟨ρ3, rel3, (sti.trans st1).trans st3, pri.trans p3, (RQ.step (RQ.step w st1) st3).imp fun _ z => z⟩
      | ct => exact fun σ3 H3 bd3 rel3 st3 p3 => ⟨ρ3, rel3, (sti.trans st1).trans st3, pri.trans p3, (RQ.step (RQ.step w st1) st3).imp fun _ z => z⟩
      | bk => exact fun σ3 H3 bd3 rel3 st3 p3 => RQ.ok w σ3 H3 bd3 rel3 ((sti.trans st1).trans st3) (pri.trans p3)
      | rt s => exact fun v σ3 H3 bd3 rel3 rr st3 p3 => RQ.ok w v σ3 H3 bd3 rel3 rr ((sti.trans st1).trans st3) (pri.trans p3)
    | false =>
      rw [if_neg Bool.false_ne_true]
      exact RQ.ok w σi H1 bd1 rel1 (sti.trans st1) pri
end
end ZZ

/-! Z7: comprehensions -/
namespace ZZ
open PySem PySem.Spec PyProof.Rows L2

section
variable {ι : Type}
theorem takesF {X : Cx} : Takes X (fun cls d _ H => (fun _ _ _ => False : XK) cls d H) := fun _ _ x => by
  obtain ⟨_, _, _, _, _, _, _, _, _, _, _, _, _, _, _, _, z⟩ := x
  exact z.elim
def Cz.blk (Z : Cz ι) (scope : Scope) : Cz (ι × Shared × Hp × Addr × List (Str × Addr) × List Addr) where
  F := fun i => (Z.F i.1).blk i.2.1 i.2.2.1 scope (compEnvC scope i.2.2.2.2.1 i.2.2.2.1 (Z.F i.1).env) i.2.2.2.2.2
  P := Z.P
  w := Z.w
  K := Z.K
  mg := Z.mg
  base := Z.base
  EX := fun _ _ _ => False
  prot := Z.prot
  k := Z.k
  hP := fun i => Z.hP i.1
  hw := fun i => Z.hw i.1
  hK := fun i => Z.hK i.1
  hmg := fun i => Z.hmg i.1
  hb := fun i => Z.hb i.1
  nd := fun i => Z.nd i.1
  cm := Z.cm
  calm := fun h i => Z.calm h i.1
  room := fun h i => Z.room h i.1
  un := fun i => Z.un i.1
  tk := fun i => takesF
  pO := fun i => PassesOwn.never
end

/-! ### slots forgotten, and put back -/
def wipeR (ρ : Rho) : List Nat → Rho
  | [] => ρ
  | v :: vs => (wipeR ρ vs).set v none
def restR (ρ : Rho) (ρ' : Rho) : List Nat → Rho
  | [] => ρ'
  | v :: vs => (restR ρ ρ' vs).set v (ρ[v]?.join)
def notOwn : Option (Option Slot) → Bool
  | some (some (.own _)) => false
  | _ => true
theorem wipe_get {σ : L2.St} {i : Nat} : ∀ {vs : List Nat}, i ∉ vs → (wipe σ vs)[i]? = σ[i]?
  | [], _ => rfl
  | v :: vs, h => by
    simp only [List.mem_cons, not_or] at h
    unfold wipe
    rw [List.getElem?_set_ne (Ne.symm h.1)]
    exact wipe_get h.2
theorem wipe_in {σ : L2.St} {i : Nat} : ∀ {vs : List Nat}, i ∈ vs → i < σ.length → (wipe σ vs)[i]? = some none
  | [], h, _ => by cases h
  | v :: vs, h, hl => by
    unfold wipe
    by_cases e : v = i
    · subst e
      rw [List.getElem?_set_self (by rw [wipe_length]; exact hl)]
    · rw [List.getElem?_set_ne e]
      rcases List.mem_cons.mp h with z | z
      · exact absurd z.symm e
      · exact wipe_in z hl
theorem wipe_ext {σ σ' : L2.St} {vs : List Nat} (hl : σ'.length = σ.length) (h : ∀ i, i ∉ vs → σ'[i]? = σ[i]?) : wipe σ' vs = wipe σ vs := by
  refine List.ext_getElem? fun i => ?_
  by_cases hi : i ∈ vs
  · by_cases hb : i < σ.length
    · rw [wipe_in hi hb, wipe_in hi (by omega)]
    · rw [List.getElem?_eq_none (by rw [wipe_length]; omega), List.getElem?_eq_none (by rw [wipe_length]; omega)]
  · rw [wipe_get hi, wipe_get hi, h i hi]
theorem wipeR_length (ρ : Rho) : ∀ vs : List Nat, (wipeR ρ vs).length = ρ.length
  | [] => rfl
  | v :: vs => by unfold wipeR; rw [List.length_set, wipeR_length ρ vs]
theorem wipeR_get {ρ : Rho} {i : Nat} : ∀ {vs : List Nat}, i ∉ vs → (wipeR ρ vs)[i]? = ρ[i]?
  | [], _ => rfl
  | v :: vs, h => by
    simp only [List.mem_cons, not_or] at h
    unfold wipeR
    rw [List.getElem?_set_ne (Ne.symm h.1)]
    exact wipeR_get h.2
theorem wipeR_some {ρ : Rho} {i : Nat} {s : Slot} : ∀ {vs : List Nat}, (wipeR ρ vs)[i]? = some (some s) → i ∉ vs ∧ ρ[i]? = some (some s)
  | [], h => ⟨by simp, h⟩
  | v :: vs, h => by
    unfold wipeR at h
    by_cases e : v = i
    · subst e
      rw [List.getElem?_set] at h
      simp only [if_true] at h
      split at h <;> cases h
    · rw [List.getElem?_set_ne e] at h
      obtain ⟨h1, h2⟩ := wipeR_some h
      exact ⟨by simp only [List.mem_cons, not_or]; exact ⟨Ne.symm e, h1⟩, h2⟩
theorem restR_length (ρ ρ' : Rho) : ∀ vs : List Nat, (restR ρ ρ' vs).length = ρ'.length
  | [] => rfl
  | v :: vs => by unfold restR; rw [List.length_set, restR_length ρ ρ' vs]
theorem restR_get {ρ ρ' : Rho} {i : Nat} : ∀ {vs : List Nat}, i ∉ vs → (restR ρ ρ' vs)[i]? = ρ'[i]?
  | [], _ => rfl
  | v :: vs, h => by
    simp only [List.mem_cons, not_or] at h
    unfold restR
    rw [List.getElem?_set_ne (Ne.symm h.1)]
    exact restR_get h.2
theorem restR_in {ρ ρ' : Rho} {i : Nat} {s : Slot} : ∀ {vs : List Nat}, i ∈ vs → (restR ρ ρ' vs)[i]? = some (some s) → ρ[i]? = some (some s)
  | [], h, _ => by cases h
  | v :: vs, h, e => by
    unfold restR at e
    by_cases q : v = i
    · subst q
      rw [List.getElem?_set] at e
      simp only [if_true] at e
      split at e
      · have e := Option.some.inj e
        cases z : ρ[v]? with
        | none => rw [z] at e; cases e
        | some t => rw [z] at e; exact congrArg some e
      · cases e
    · rw [List.getElem?_set_ne q] at e
      rcases List.mem_cons.mp h with z | z
      · exact absurd z.symm q
      · exact restR_in z e
section
variable {K : PySem.W.Frag} {prot : List Nat} {Wo : Wt} {σ : L2.St} {H : Hp} {ρ : Rho}
theorem Rel.wipe (r : Rel K prot Wo σ H ρ) : ∀ vs : List Nat, Rel K prot Wo (L2.wipe σ vs) H (wipeR ρ vs)
  | [] => r
  | v :: vs => (Rel.wipe r vs).set (fun _ z => nomatch z) fun _ z => nomatch z
theorem own_wipe {vs : List Nat} {b : Addr} (h : ownAt (L2.wipe σ vs) (wipeR ρ vs) b) : ownAt σ ρ b := by
  obtain ⟨i, d, e1, e2⟩ := h
  obtain ⟨h1, h2⟩ := wipeR_some e1
  rw [wipe_get h1] at e2
  exact ⟨i, d, h2, e2⟩
end
def noX {α : Type} (r : Res α) : Res α := match r with | .exc _ _ => .err | r => r
theorem noX_rq {ι ι' : Type} {Z : Cz ι} {Z' : Cz ι'} {σ σ' : L2.St} {H H' : Hp} {ρ ρ' : Rho} {α : Type} {r : Res α} {g : α → Prop} (h : RQ Z σ H ρ (noX r) g) : RQ Z' σ' H' ρ' r g := by
  cases r with
  | ok a => exact h
  | exc c as => exact h.elim
  | err => exact h.elim

/-! ### the loop of a list comprehension -/
def lcL (vs : List Nat) (g : GM) (tt : TM) (te : EM) : List PyData → List PyData → Rho → Res (List PyData × Rho)
  | [], acc, ρ => .ok (acc, ρ)
  | d :: ds, acc, ρ => noX (g d (wipeR ρ vs)) >>= fun ρ1 => noX (tt ρ1) >>= fun b =>
    if b.1 = true then noX (te b.2) >>= fun y => lcL vs g tt te ds (acc ++ [y.1]) (restR ρ y.2 vs) else lcL vs g tt te ds acc (restR ρ b.2 vs)
def mLc (mi : IM) (vs : List Nat) (g : GM) (tt : TM) (te : EM) : EM := fun ρ => mi ρ >>= fun r =>
  if vs.all (fun v => notOwn r.2[v]?) then lcL vs g tt te r.1 [] r.2 >>= fun q => .ok (.list q.1, q.2) else .err
theorem notOwn_of {vs : List Nat} {ρ : Rho} (h : vs.all (fun v => notOwn ρ[v]?) = true) : ∀ v ∈ vs, ∀ d, ρ[v]? ≠ some (some (.own d)) := fun v hv d e => by
  have := List.all_eq_true.mp h v hv
  rw [e] at this
  cases this
/-- behind a turn: the outer slots -/
theorem Rel.back {K : PySem.W.Frag} {prot : List Nat} {Wo : Wt} {σ σ2 : L2.St} {H H' H4 : Hp} {ρ ρ4 : Rho} {vs : List Nat} {D : Addr} {u u' : HO} (r : Rel K prot (pls Wo D) σ H ρ) (sm : Same H H') (hl : σ2.length = σ.length) (ks : ∀ i, i ∉ vs → σ2[i]? = σ[i]?)
    (st : Step (L2.wipe σ vs) H' (wipeR ρ vs) σ2 H4 ρ4) (r4 : Rel K prot (pls Wo D) σ2 H4 ρ4) (no : ∀ v ∈ vs, ∀ d, ρ[v]? ≠ some (some (.own d))) (nD : ¬ ownAt σ ρ D) (hD : H D = some u) :
    (∀ b, ownAt σ (restR ρ ρ4 vs) b → ownAt σ2 ρ4 b) ∧ ¬ ownAt σ2 ρ4 D ∧ H4 D = some u ∧ Rel K prot (pls Wo D) σ (upd H4 D u') (restR ρ ρ4 vs) ∧ (∀ b o, b ≠ D → ¬ ownAt σ ρ b → H b = some o → upd H4 D u' b = some o) ∧
      (∀ b, ownAt σ (restR ρ ρ4 vs) b → ownAt σ ρ b ∨ H b = none) ∧ (∀ b, H b ≠ none → upd H4 D u' b ≠ none) := by
  have o1 : ∀ b, ownAt σ (restR ρ ρ4 vs) b → ownAt σ2 ρ4 b := fun b ⟨i, d, e1, e2⟩ => by
    by_cases hi : i ∈ vs
    · exact absurd (restR_in hi e1) (no i hi d)
    · rw [restR_get hi] at e1
      exact ⟨i, d, e1, by rw [ks i hi]; exact e2⟩
  have hD' : H' D = some u := sm D _ hD
  have nDb : ¬ ownAt (L2.wipe σ vs) (wipeR ρ vs) D := fun z => nD (own_wipe z)
  have nD4 : ¬ ownAt σ2 ρ4 D := fun z => by
    rcases st.own D z with z | z
    · exact nDb z
    · rw [hD'] at z; cases z
  have hD4 : H4 D = some u := st.keep D _ nDb hD'
  have back : ∀ b, ownAt σ2 ρ4 b → ownAt σ ρ b ∨ H b = none := fun b z => by
    rcases st.own b z with z | z
    · exact .inl (own_wipe z)
    · refine .inr ?_
      cases e : H b with
      | none => rfl
      | some o => rw [sm b o e] at z; cases z
  have keepD : ∀ b o, b ≠ D → ¬ ownAt σ ρ b → H b = some o → upd H4 D u' b = some o := fun b o hb n e => by
    rw [upd_ne hb]
    exact st.keep b o (fun z => n (own_wipe z)) (sm b o e)
  have w4 : ∀ b, av (pls Wo D) σ (restR ρ ρ4 vs) b → av (pls Wo D) σ2 ρ4 b := fun b z => z.imp id (o1 b)
  have wi : ∀ b, av (pls Wo D) σ (restR ρ ρ4 vs) b → av (pls Wo D) σ ρ b ∨ H b = none := fun b z => by
    rcases z with z | z
    · exact .inl (.inl z)
    · exact (back b (o1 b z)).imp .inr id
  have k4 : ∀ b o, b ≠ D → H4 b = some o → upd H4 D u' b = some o := fun b o hb e => by rw [upd_ne hb]; exact e
  refine ⟨o1, nD4, hD4, ⟨?_, fun i s e => ?_, fun i j d e a h1 h2 h3 h4 => ?_, fun b w => ?_, fun j d a hj e1 e2 w => ?_⟩, keepD, fun b z => back b (o1 b z), fun b n => ?_⟩
  · rw [restR_length, ← r4.len, hl]
  · by_cases hi : i ∈ vs
    · have e' := restR_in hi e
      obtain ⟨v, e1, h⟩ := r.slot i s e'
      refine ⟨v, e1, ?_⟩
      cases s with
      | val d => exact Rp.keep (fun b o n eb => keepD b o (fun z => n (.inl (.inr z))) (fun z => n (.inr z)) eb) wi d h
      | own d => exact absurd e' (no i hi d)
      | raw _ => exact h
    · rw [restR_get hi] at e
      obtain ⟨v, e1, h⟩ := r4.slot i s e
      rw [ks i hi] at e1
      refine ⟨v, e1, ?_⟩
      cases s with
      | val d => exact Rp.keep (fun b o n eb => k4 b o (fun z => n (.inl (.inr z))) eb) (fun b z => .inl (w4 b z)) d h
      | own d =>
        refine OwnR.keep h (fun b o n eb => k4 b o (fun z => n (.inl (.inr z))) eb) (fun b z => .inl (w4 b z)) fun a ea o eo => ?_
        subst ea
        refine k4 a o (fun z => ?_) eo
        subst z
        exact nD4 ⟨i, d, e, by rw [ks i hi]; exact e1⟩
      | raw _ => exact h
  · have q : ∀ {x : Nat} {f : PyData}, (restR ρ ρ4 vs)[x]? = some (some (.own f)) → x ∉ vs ∧ ρ4[x]? = some (some (.own f)) := fun {x f} z => by
      by_cases hx : x ∈ vs
      · exact absurd (restR_in hx z) (no x hx f)
      · rw [restR_get hx] at z; exact ⟨hx, z⟩
    obtain ⟨n1, h1⟩ := q h1
    obtain ⟨n2, h2⟩ := q h2
    exact r4.sep i j d e a h1 h2 (by rw [ks i n1]; exact h3) (by rw [ks j n2]; exact h4)
  · by_cases hb : b = D
    · rw [hb, upd_same]; simp
    · rw [upd_ne hb]; exact r4.wo b w
  · by_cases hx : j ∈ vs
    · exact absurd (restR_in hx e1) (no j hx d)
    · rw [restR_get hx] at e1
      exact r4.fr j d a hj e1 (by rw [ks j hx]; exact e2) w
  · by_cases hb : b = D
    · rw [hb, upd_same]; simp
    · rw [upd_ne hb]
      refine st.there b ?_
      cases e : H b with
      | none => exact absurd e n
      | some o => rw [sm b o e]; simp

section
variable {ι : Type} {Z : Cz ι} {tg iter elt : Expr} {ifs : List Expr} {scope : Scope} {mi : IM} {g : GM} {tt : TM} {te : EM} {pos : Pos}
structure DTs {ι : Type} (Z : Cz ι) (ifs : List Expr) (m : TM) : Prop where
  ex : ∃ t, (∀ i, PTs (Z.F i) ifs t) ∧ SimT Z t m
def tmYes : TM := fun ρ => .ok (true, ρ)
theorem lockTs {X : Cx} {K : PySem.W.Frag} {ifs : List Expr} {t : TT} (hK : X.K = K) (h : PTs X ifs t) : PTs X ifs (fun σ H Q => Bd K H → t σ H fun v H' => Bd K H' → Q v H') :=
  ⟨fun pins s σ H Q I hw => by
    subst hK
    exact thn (h.run pins s σ H _ I (hw (bd_of I))) fun v s' ⟨H', I', q⟩ => ⟨H', I', q (bd_of I')⟩⟩
theorem dts_nil : DTs Z [] tmYes := ⟨_, fun i => lockTs (Z.hK i) pts_nil, fun Wo σ H ρ Q rel post bd bd' => post.ok H bd' rel (.refl ..)⟩
theorem dts_one {c : Expr} (hc : DT Z c tt) : DTs Z [c] tt := let ⟨t, h1, h2⟩ := hc.ex; ⟨t, fun i => pts_one (h1 i), h2⟩
/-- the reading of a list comprehension -/
theorem simLc {wi : TI} {gg : TG} {t1 : TT} {t2 : TE} {vs ts : List Nat} (si : ∀ Wo σ H ρ R, RelZ Z Wo σ H ρ → RQ Z σ H ρ (mi ρ) (GI Z Wo σ H ρ R) → wi σ H R)
    (sg : ∀ Wo σ H ρ v d (Q : L2.St → Hp → Prop), RelZ Z Wo σ H ρ → Rp Z.K (av Wo σ ρ) H v d → (∃ ρ', g d ρ = .ok ρ' ∧ ∀ σ', RelZ Z Wo σ' H ρ' → Step σ H ρ σ' H ρ' → (∀ i, i ∉ ts → σ'[i]? = σ[i]?) → σ'.length = σ.length → Q σ' H) → gg v σ H Q)
    (hts : ∀ i ∈ ts, i ∈ vs) (st : SimT (Z.blk scope) t1 tt) (se : SimE (Z.blk scope) t2 te) :
    ∀ Wo σ H ρ Q, Bd Z.K H → RelZ Z Wo σ H ρ → RQ Z σ H ρ (mLc mi vs g tt te ρ) (go0 Z Wo σ H ρ Q) → tLc wi gg t1 t2 vs σ H Q := fun Wo σ H ρ Q bd rel post => by
  refine si Wo σ H ρ _ rel (post.bind.imp fun r h J H1 bd1 rel1 dl hl st1 => ?_)
  obtain ⟨ds, ρ1⟩ := r
  dsimp only at h rel1 dl hl st1
  split at h
  · rename_i hno
    have h := h.bind
    intro D hD
    have nW : ¬ Wo D := fun z => rel1.wo D z hD
    have nO : ¬ ownAt σ ρ1 D := fun z => rel1.own_some z hD
    let G : List PyData × Rho → Prop := fun q => RQ Z σ H ρ (Res.ok (PyData.list q.1, q.2)) (go0 Z Wo σ H ρ Q)
    refine ⟨fun i n Hi => n = ds.length - i ∧ i ≤ ds.length ∧ ∃ ρi acc vacc, Rel Z.K Z.prot (pls Wo D) σ Hi ρi ∧ (∀ b o, b ≠ D → ¬ ownAt σ ρ1 b → H1 b = some o → Hi b = some o) ∧ (∀ b, ownAt σ ρi b → ownAt σ ρ1 b ∨ H1 b = none) ∧ (∀ b, H1 b ≠ none → Hi b ≠ none) ∧
      Hi D = some (.lst vacc) ∧ ¬ ownAt σ ρi D ∧ RpL Z.K (av (pls Wo D) σ ρi) Hi vacc acc ∧ acc.length ≤ i ∧ vs.all (fun v => notOwn ρi[v]?) = true ∧ RQ Z σ H ρ (lcL vs g tt te (ds.drop i) acc ρi) G, ⟨ds.length, by simp, Nat.zero_le _, ρ1, [], [], ?_⟩, ?_⟩
    · refine ⟨rel1.fresh hD, fun b o hb _ e => by rw [upd_ne hb]; exact e, fun b z => .inl z, fun b n => ?_, upd_same, nO, .nil, Nat.zero_le _, hno, by simpa using h⟩
      by_cases hb : b = D
      · rw [hb, upd_same]; simp
      · rw [upd_ne hb]; exact n
    rintro i n Hi ⟨rfl, hi, ρi, acc, vacc, reli, keepi, owni, theri, hDi, nDi, racc, hacc, hnoi, qi⟩
    have noi := notOwn_of hnoi
    have hd := dl Hi (fun b o nb eb => keepi b o (fun z => by subst z; rw [hD] at eb; cases eb) (fun z => nb (.inr z)) eb) i
    by_cases hlt : i < ds.length
    · obtain ⟨d, ed⟩ : ∃ d, ds[i]? = some d := ⟨ds[i], by simp [hlt]⟩
      obtain ⟨go, yd⟩ := hd.1 d ed
      refine .inr ⟨go, fun H' => ∃ ρ', ∃ acc' vacc', Rel Z.K Z.prot (pls Wo D) σ H' ρ' ∧ (∀ b o, b ≠ D → ¬ ownAt σ ρ1 b → H1 b = some o → H' b = some o) ∧ (∀ b, ownAt σ ρ' b → ownAt σ ρ1 b ∨ H1 b = none) ∧ (∀ b, H1 b ≠ none → H' b ≠ none) ∧
        H' D = some (.lst vacc') ∧ ¬ ownAt σ ρ' D ∧ RpL Z.K (av (pls Wo D) σ ρ') H' vacc' acc' ∧ acc'.length ≤ i + 1 ∧ vs.all (fun v => notOwn ρ'[v]?) = true ∧ RQ Z σ H ρ (lcL vs g tt te (ds.drop (i + 1)) acc' ρ') G,
        fun H' w => ⟨ds.length - (i + 1), by omega, rfl, hlt, w⟩, fun x H' y => ?_⟩
      obtain ⟨sm, rpx⟩ := yd x H' y
      have relb : Rel Z.K Z.prot (pls Wo D) (L2.wipe σ vs) H' (wipeR ρi vs) := (reli.wipe vs).same sm
      have rpx := rpx (av (pls Wo D) (L2.wipe σ vs) (wipeR ρi vs)) (fun b z => by
        rcases z with (z | z) | z
        · exact .inl (.inl z)
        · exact .inr (by rw [z]; exact hD)
        · exact (owni b (own_wipe z)).imp .inr id) (fun b z => (reli.wipe vs).av_some z)
      rw [drop_at ed] at qi
      have qi : RQ Z σ H ρ (noX (g d (wipeR ρi vs)) >>= fun ρ1 => noX (tt ρ1) >>= fun b =>
        if b.1 = true then noX (te b.2) >>= fun y => lcL vs g tt te (ds.drop (i + 1)) (acc ++ [y.1]) (restR ρi y.2 vs) else lcL vs g tt te (ds.drop (i + 1)) acc (restR ρi b.2 vs)) G := qi
      have qg := noX_rq (Z' := Z) (σ' := σ) (H' := H) (ρ' := ρ) qi.bind
      obtain ⟨ρ2, e2, qi⟩ : ∃ ρ2, g d (wipeR ρi vs) = .ok ρ2 ∧ RQ Z σ H ρ (noX (tt ρ2) >>= fun b =>
        if b.1 = true then noX (te b.2) >>= fun y => lcL vs g tt te (ds.drop (i + 1)) (acc ++ [y.1]) (restR ρi y.2 vs) else lcL vs g tt te (ds.drop (i + 1)) acc (restR ρi b.2 vs)) G := by
        have z := qi.bind
        cases q : g d (wipeR ρi vs) with
        | ok a => rw [q] at z; exact ⟨a, rfl, z⟩
        | exc c as => rw [q] at z; exact z.elim
        | err => rw [q] at z; exact z.elim
      refine sg (pls Wo D) (L2.wipe σ vs) H' (wipeR ρi vs) x d _ relb rpx ⟨ρ2, e2, fun σ2 rel2 st2 k2 l2 => ?_⟩
      have l2' : σ2.length = σ.length := l2.trans (wipe_length σ vs)
      have k2' : ∀ j, j ∉ vs → σ2[j]? = σ[j]? := fun j hj => (k2 j (fun z => hj (hts j z))).trans (wipe_get hj)
      refine ⟨wipe_ext l2' k2', ?_⟩
      -- the turn's end: what is kept of the outer slots
      have fin : ∀ (H4 : Hp) (ρ4 : Rho), RelZ Z (pls Wo D) σ2 H4 ρ4 → Step σ2 H' ρ2 σ2 H4 ρ4 → ∀ vnew : List V, _ := fun H4 ρ4 rel4 st4 vnew => Rel.back (u' := .lst vnew) reli sm l2' k2' (st2.trans st4) rel4 noi nDi hDi
      have again : ∀ (H4 : Hp) (ρ4 : Rho), RelZ Z (pls Wo D) σ2 H4 ρ4 → Step σ2 H' ρ2 σ2 H4 ρ4 → vs.all (fun v => notOwn (restR ρi ρ4 vs)[v]?) = true := fun H4 ρ4 rel4 st4 => List.all_eq_true.mpr fun v hv => by
        cases e : (restR ρi ρ4 vs)[v]? with
        | none => rfl
        | some s =>
          cases s with
          | none => rfl
          | some s =>
            cases s with
            | own d => exact absurd (restR_in hv e) (noi v hv d)
            | _ => rfl
      refine st (pls Wo D) σ2 H' ρ2 _ rel2 ((noX_rq qi.bind).imp fun b w H3 bd3 rel3 st3 => ?_)
      obtain ⟨k, ρ3⟩ := b
      cases k with
      | true =>
        rw [if_pos rfl]
        have w : RQ Z σ H ρ (noX (te ρ3) >>= fun y => lcL vs g tt te (ds.drop (i + 1)) (acc ++ [y.1]) (restR ρi y.2 vs)) G := w
        refine se (pls Wo D) σ2 H3 ρ3 _ rel3 ((noX_rq w.bind).imp fun y w v H4 bd4 rel4 rp4 st4 => ?_)
        obtain ⟨yd, ρ4⟩ := y
        obtain ⟨o1, nD4, hD4, rel5, keep5, own5, ther5⟩ := fin H4 ρ4 rel4 (st3.trans st4) (vacc ++ [v])
        have rE : RpL Z.K (av (pls Wo D) σ (restR ρi ρ4 vs)) (upd H4 D (.lst (vacc ++ [v]))) (vacc ++ [v]) (acc ++ [yd]) := by
          refine (RpL.keep (fun b o n eb => keep5 b o (fun z => n (.inl (.inr z))) (fun z => n (.inr z)) eb) (fun b z => ?_) acc racc).append (.one (Rp.keep (fun b o n eb => ?_) (fun b z => ?_) yd rp4))
          · rcases z with z | z
            · exact .inl (.inl z)
            · exact (own5 b z).imp .inr id
          · rw [upd_ne (fun z => n (.inl (.inr z)))]; exact eb
          · exact .inl (z.imp id (o1 b))
        refine ⟨vacc, hD4, ?_, _, acc ++ [yd], vacc ++ [v], rel5, fun b o hb n e => keep5 b o hb (fun z => (owni b z).elim n fun q => by rw [e] at q; cases q) (keepi b o hb n e), fun b z => ?_, fun b n => ther5 b (theri b n), upd_same, fun z => nD4 (o1 D z), rE, by simp; omega, again H4 ρ4 rel4 (st3.trans st4), w⟩
        · rw [racc.len]; omega
        · rcases own5 b z with q | q
          · exact owni b q
          · refine .inr ?_
            cases e : H1 b with
            | none => rfl
            | some o => exact absurd q (theri b (by rw [e]; simp))
      | false =>
        rw [if_neg Bool.false_ne_true]
        obtain ⟨o1, nD4, hD4, rel5, keep5, own5, ther5⟩ := fin H3 ρ3 rel3 st3 vacc
        have e5 : upd H3 D (.lst vacc) = H3 := by
          funext b
          by_cases hb : b = D
          · rw [hb, upd_same, hD4]
          · rw [upd_ne hb]
        rw [e5] at rel5 keep5 ther5
        refine ⟨_, acc, vacc, rel5, fun b o hb n e => keep5 b o hb (fun z => (owni b z).elim n fun q => by rw [e] at q; cases q) (keepi b o hb n e), fun b z => ?_, fun b n => ther5 b (theri b n), hD4, fun z => nD4 (o1 D z), ?_, by omega, again H3 ρ3 rel3 st3, w⟩
        · rcases own5 b z with q | q
          · exact owni b q
          · refine .inr ?_
            cases e : H1 b with
            | none => rfl
            | some o => exact absurd q (theri b (by rw [e]; simp))
        · refine RpL.keep (fun b o n eb => keep5 b o (fun z => n (.inl (.inr z))) (fun z => n (.inr z)) eb) (fun b z => ?_) acc racc
          rcases z with z | z
          · exact .inl (.inl z)
          · exact (own5 b z).imp .inr id
    · have e : i = ds.length := by omega
      subst e
      refine .inl ⟨hd.2 (Nat.le_refl _), ?_⟩
      rw [List.drop_length] at qi
      have qi : go0 Z Wo σ H ρ Q (PyData.list acc, ρi) := qi
      refine qi D Hi reli nW nDi ⟨D, vacc, rfl, hDi, racc⟩ (st1.trans ⟨fun b o n e => keepi b o (fun z => by subst z; rw [hD] at e; cases e) n e, owni, theri⟩) (st1.none hD)
  · exact h.elim
theorem do_lc {own : List (Str × Nat)} {ts : List Nat} (hi : DI Z tg iter mi) (hg : DG (Z.blk scope) tg ts g) (ht : DTs (Z.blk scope) ifs tt) (he : DE (Z.blk scope) elt te) (ok : ∀ i, BlkOk (Z.F i).N (Z.F i).env.scope scope own) (hts : ∀ i ∈ ts, i ∈ own.map (·.2))
    (hs : ∀ i x, foldedSetIterable iter (Z.F i).env x = pure x := by intro _ _; rfl) (hcm : Z.cm := by exact trivial) : DO Z (.ListComp elt [⟨tg, iter, ifs, 0⟩] scope pos) (mLc mi (own.map (·.2)) g tt te) := by
  obtain ⟨wi, pi, si⟩ := hi.ex
  obtain ⟨gg, pg, sg⟩ := hg.ex
  obtain ⟨t1, p1, s1⟩ := ht.ex
  obtain ⟨t2, p2, s2⟩ := he.ex
  exact .mk' (fun i => pe_lc (Z.calm hcm i) (Z.nd i) (pi i) (ok i) (fun s H C cl fp => pg (i, s, H, C, cl, fp)) (fun s H C cl fp => p1 (i, s, H, C, cl, fp)) (fun s H C cl fp => p2 (i, s, H, C, cl, fp)) (hs i))
    (simLc (scope := scope) si sg hts s1 s2)
theorem go_ge {Wo : Wt} {σ : L2.St} {H : Hp} {ρ : Rho} {Q : VK} {ds : List PyData} {ρ' : Rho} (h : ge0 Z Wo σ H ρ Q (.list ds, ρ')) : go0 Z Wo σ H ρ Q (.list ds, ρ') := fun p H' rl n1 n2 o st hp => by
  obtain ⟨a, xs, e1, e2, e3⟩ := o
  cases e1
  exact h _ H' rl.plus (.lst ⟨fun z => z.elim n1 n2, .inl e2⟩ (RpL.keep (fun _ _ _ e => e) (fun b z => .inl (z.imp (fun w => .inl w) id)) ds e3)) st
theorem lc_ge {vs : List Nat} {Wo : Wt} {σ : L2.St} {H : Hp} {ρ : Rho} {Q : VK} (post : RQ Z σ H ρ (mLc mi vs g tt te ρ) (ge0 Z Wo σ H ρ Q)) : RQ Z σ H ρ (mLc mi vs g tt te ρ) (go0 Z Wo σ H ρ Q) := by
  unfold mLc at post ⊢
  cases e : mi ρ with
  | ok r =>
    rw [e] at post
    simp only [ok_bind] at post ⊢
    split
    · rename_i h
      rw [if_pos h] at post
      cases e2 : lcL vs g tt te r.1 [] r.2 with
      | ok q => rw [e2] at post; exact go_ge post
      | exc c as => rw [e2] at post; exact post
      | err => rw [e2] at post; exact post
    · rename_i h
      rw [if_neg h] at post
      exact post
  | exc c as => rw [e] at post; exact post
  | err => rw [e] at post; exact post
theorem de_lc {own : List (Str × Nat)} {ts : List Nat} (hi : DI Z tg iter mi) (hg : DG (Z.blk scope) tg ts g) (ht : DTs (Z.blk scope) ifs tt) (he : DE (Z.blk scope) elt te) (ok : ∀ i, BlkOk (Z.F i).N (Z.F i).env.scope scope own) (hts : ∀ i ∈ ts, i ∈ own.map (·.2))
    (hs : ∀ i x, foldedSetIterable iter (Z.F i).env x = pure x := by intro _ _; rfl) (hcm : Z.cm := by exact trivial) : DE Z (.ListComp elt [⟨tg, iter, ifs, 0⟩] scope pos) (mLc mi (own.map (·.2)) g tt te) := by
  obtain ⟨wi, pi, si⟩ := hi.ex
  obtain ⟨gg, pg, sg⟩ := hg.ex
  obtain ⟨t1, p1, s1⟩ := ht.ex
  obtain ⟨t2, p2, s2⟩ := he.ex
  exact .mk' (fun i => pe_lc (Z.calm hcm i) (Z.nd i) (pi i) (ok i) (fun s H C cl fp => pg (i, s, H, C, cl, fp)) (fun s H C cl fp => p1 (i, s, H, C, cl, fp)) (fun s H C cl fp => p2 (i, s, H, C, cl, fp)) (hs i))
    (fun Wo σ H ρ Q bd rel post => simLc (scope := scope) si sg hts s1 s2 Wo σ H ρ Q bd rel (lc_ge post))
/-- x = [..] on one line, x a plain local name -/
theorem ds_setLc {j : Nat} {y : Str} {py spos : Pos} {own : List (Str × Nat)} {ts : List Nat} (hy : ∀ i, (Z.F i).N[j]? = some y) (hyl : ∀ i, (Z.F i).env.scope.names.lookup y = some .local) (hp : j ∉ Z.prot)
    (hsw : ∀ i, swapsWith (.ListComp elt [⟨tg, iter, ifs, 0⟩] scope pos) (some (.Name y py)) spos.line (Z.F i).env = pure true)
    (hi : DI Z tg iter mi) (hg : DG (Z.blk scope) tg ts g) (ht : DTs (Z.blk scope) ifs tt) (he : DE (Z.blk scope) elt te) (ok : ∀ i, BlkOk (Z.F i).N (Z.F i).env.scope scope own) (hts : ∀ i ∈ ts, i ∈ own.map (·.2))
    (hs : ∀ i x, foldedSetIterable iter (Z.F i).env x = pure x := by intro _ _; rfl) (hcm : Z.cm := by exact trivial) : DS Z (.Assign [.Name y py] (.ListComp elt [⟨tg, iter, ifs, 0⟩] scope pos) spos) (mSet j (mLc mi (own.map (·.2)) g tt te)) := by
  obtain ⟨wi, pi, si⟩ := hi.ex
  obtain ⟨gg, pg, sg⟩ := hg.ex
  obtain ⟨t1, p1, s1⟩ := ht.ex
  obtain ⟨t2, p2, s2⟩ := he.ex
  refine .mk' (fun i => L2.ps_setLc (Z.calm hcm i) (Z.nd i) (hy i) (hyl i) (hsw i) (pi i) (ok i) (fun s H C cl fp => pg (i, s, H, C, cl, fp)) (fun s H C cl fp => p1 (i, s, H, C, cl, fp)) (fun s H C cl fp => p2 (i, s, H, C, cl, fp)) (hs i)) fun Wo σ H ρ D bd rel post => ?_
  refine simLc (scope := scope) si sg hts s1 s2 Wo σ H ρ _ bd rel (lc_ge (post.bind.imp fun r h v H1 rel1 rp1 st1 => ?_))
  exact h.ok _ H1 (rel1.set_val rp1) (st1.trans (step_set fun _ z => nomatch z)) (.set hp)
theorem ds_setLcO {j : Nat} {y : Str} {py spos : Pos} {own : List (Str × Nat)} {ts : List Nat} (hy : ∀ i, (Z.F i).N[j]? = some y) (hyl : ∀ i, (Z.F i).env.scope.names.lookup y = some .local) (hp : j ∉ Z.prot)
    (hsw : ∀ i, swapsWith (.ListComp elt [⟨tg, iter, ifs, 0⟩] scope pos) (some (.Name y py)) spos.line (Z.F i).env = pure true)
    (hi : DI Z tg iter mi) (hg : DG (Z.blk scope) tg ts g) (ht : DTs (Z.blk scope) ifs tt) (he : DE (Z.blk scope) elt te) (ok : ∀ i, BlkOk (Z.F i).N (Z.F i).env.scope scope own) (hts : ∀ i ∈ ts, i ∈ own.map (·.2))
    (hs : ∀ i x, foldedSetIterable iter (Z.F i).env x = pure x := by intro _ _; rfl) (hcm : Z.cm := by exact trivial) : DS Z (.Assign [.Name y py] (.ListComp elt [⟨tg, iter, ifs, 0⟩] scope pos) spos) (mSetO j (mLc mi (own.map (·.2)) g tt te)) := by
  obtain ⟨wi, pi, si⟩ := hi.ex
  obtain ⟨gg, pg, sg⟩ := hg.ex
  obtain ⟨t1, p1, s1⟩ := ht.ex
  obtain ⟨t2, p2, s2⟩ := he.ex
  refine .mk' (fun i => L2.ps_setLc (Z.calm hcm i) (Z.nd i) (hy i) (hyl i) (hsw i) (pi i) (ok i) (fun s H C cl fp => pg (i, s, H, C, cl, fp)) (fun s H C cl fp => p1 (i, s, H, C, cl, fp)) (fun s H C cl fp => p2 (i, s, H, C, cl, fp)) (hs i)) fun Wo σ H ρ D bd rel post => ?_
  refine simLc (scope := scope) si sg hts s1 s2 Wo σ H ρ _ bd rel (post.bind.imp fun r h p H1 rel1 n1 n2 ow st1 hq => ?_)
  exact h.ok _ H1 (rel1.set_own n1 n2 ow) (step_own st1 hq) (.set hp)
end
end ZZ

/-! Z8: defs, calls -/
namespace ZZ
open PySem PySem.Spec PyProof.Rows L2

abbrev FM := List Slot → Res (Slot × Rho)
def startR (n : Nat) (ss : List Slot) : Rho := ss.map some ++ List.replicate (n - ss.length) none
def ArgR (K : PySem.W.Frag) (W : Wt) (H : Hp) : List V → List Slot → Prop
  | [], [] => True
  | v :: vs, s :: ss => SlotR K W H v s ∧ (∀ d, s = .own d → ∀ a, v = .ref a → W a) ∧ ArgR K W H vs ss
  | _, _ => False
def ResR (K : PySem.W.Frag) (W : Wt) (H H' : Hp) (v : V) : Slot → Prop
  | .val d => Rp K W H' v d
  | .own d => ∃ p, v = .ref p ∧ H p = none ∧ OwnR K (pls W p) H' v d
  | .raw u => v = u
/-- a def that computes f: prot: where it may be given what is one's own -/
def SpZ (K : PySem.W.Frag) (mg : Str → Option Value) (n : Nat) (prot : List Nat) (f : FM) : Sp := fun vs H Q E => vs.length = n ∧ ∃ (W : Wt) (ss : List Slot), (∀ b, W b → H b ≠ none) ∧ ArgR K W H vs ss ∧
  (∀ (i : Nat) (d : PyData), ss[i]? = some (.own d) → i ∈ prot) ∧ (∀ (i j : Nat) (d e : PyData) (a : Addr), ss[i]? = some (.own d) → ss[j]? = some (.own e) → vs[i]? = some (.ref a) → vs[j]? = some (.ref a) → i = j) ∧
  match f ss with
  | .ok (s, outs) => ∀ v H', Kept (vs.map some) (ss.map some) H H' → ResR K W H H' v s → (∀ (i : Nat) (d : PyData) (u : V), ss[i]? = some (.own d) → vs[i]? = some u → ∃ d', outs[i]? = some (some (.own d')) ∧ OwnR K W H' u d') → Q v H'
  | .exc c as => ∀ cls dd H', Kept (vs.map some) (ss.map some) H H' → ExcR mg c as cls dd H' → E cls dd H'
  | .err => False
theorem ArgR.len {K : PySem.W.Frag} {W : Wt} {H : Hp} : ∀ {vs : List V} {ss : List Slot}, ArgR K W H vs ss → vs.length = ss.length
  | [], [], _ => rfl
  | _ :: _, _ :: _, h => by simp [ArgR.len h.2.2]
  | [], _ :: _, h => h.elim
  | _ :: _, [], h => h.elim
theorem ArgR.get {K : PySem.W.Frag} {W : Wt} {H : Hp} : ∀ {vs : List V} {ss : List Slot} {i : Nat} {s : Slot}, ArgR K W H vs ss → ss[i]? = some s → ∃ v, vs[i]? = some v ∧ SlotR K W H v s ∧ (∀ d, s = .own d → ∀ a, v = .ref a → W a)
  | [], [], _, _, _, e => by simp at e
  | v :: _, t :: _, 0, s, h, e => by simp at e; subst e; exact ⟨v, rfl, h.1, h.2.1⟩
  | _ :: _, _ :: _, i + 1, s, h, e => by
    obtain ⟨v, e1, r⟩ := ArgR.get (i := i) h.2.2 (by simpa using e)
    exact ⟨v, by simpa using e1, r⟩
  | [], _ :: _, _, _, h, _ => h.elim
  | _ :: _, [], _, _, h, _ => h.elim
theorem ArgR.vals {K : PySem.W.Frag} {W : Wt} {H : Hp} : ∀ {vs : List V} {ds : List PyData}, RpL K W H vs ds → ArgR K W H vs (ds.map .val)
  | [], _, h => by cases h; trivial
  | v :: vs, _, h => by
    cases h with
    | cons h1 h2 => exact ⟨h1, (fun d z => by cases z), ArgR.vals h2⟩
/-! ### a def's body -/
def ownKept : List Slot → Rho → Bool
  | [], _ => true
  | .own _ :: ss, some (.own _) :: ρ => ownKept ss ρ
  | .own _ :: _, _ => false
  | _ :: ss, _ :: ρ => ownKept ss ρ
  | _ :: ss, [] => ownKept ss []
def runF (n : Nat) (body : SM) : FM := fun ss => body (startR n ss) >>= fun r => if ownKept ss r.2 then (match r.1 with
    | .nx => .ok (.val .none, r.2)
    | .rt s => .ok (s, r.2)
    | _ => .err) else .err
theorem ownKept_get : ∀ {ss : List Slot} {ρ : Rho} {i : Nat} {d : PyData}, ownKept ss ρ = true → ss[i]? = some (.own d) → ∃ d', ρ[i]? = some (some (.own d'))
  | [], _, _, _, _, e => by simp at e
  | .own _ :: ss, some (.own d') :: ρ, 0, _, h, e => ⟨d', rfl⟩
  | .own _ :: ss, some (.own d') :: ρ, i + 1, d, h, e => by
    obtain ⟨x, q⟩ := ownKept_get (i := i) (ss := ss) (ρ := ρ) h (by simpa using e)
    exact ⟨x, by simpa using q⟩
  | .own _ :: _, [], _, _, h, _ => by cases h
  | .own _ :: _, none :: _, _, _, h, _ => by cases h
  | .own _ :: _, some (.val _) :: _, _, _, h, _ => by cases h
  | .own _ :: _, some (.raw _) :: _, _, _, h, _ => by cases h
  | .val _ :: ss, _ :: ρ, 0, _, h, e => by simp at e
  | .raw _ :: ss, _ :: ρ, 0, _, h, e => by simp at e
  | .val _ :: ss, _ :: ρ, i + 1, d, h, e => by
    obtain ⟨x, q⟩ := ownKept_get (i := i) (ss := ss) (ρ := ρ) h (by simpa using e)
    exact ⟨x, by simpa using q⟩
  | .raw _ :: ss, _ :: ρ, i + 1, d, h, e => by
    obtain ⟨x, q⟩ := ownKept_get (i := i) (ss := ss) (ρ := ρ) h (by simpa using e)
    exact ⟨x, by simpa using q⟩
  | .val _ :: ss, [], 0, _, h, e => by simp at e
  | .raw _ :: ss, [], 0, _, h, e => by simp at e
  | .val _ :: ss, [], i + 1, d, h, e => by
    obtain ⟨x, q⟩ := ownKept_get (i := i) (ss := ss) (ρ := []) h (by simpa using e)
    simp at q
  | .raw _ :: ss, [], i + 1, d, h, e => by
    obtain ⟨x, q⟩ := ownKept_get (i := i) (ss := ss) (ρ := []) h (by simpa using e)
    simp at q
theorem start_get {n : Nat} {ss : List Slot} {i : Nat} {s : Slot} (h : (startR n ss)[i]? = some (some s)) : ss[i]? = some s := by
  unfold startR at h
  by_cases hi : i < ss.length
  · rw [List.getElem?_append_left (by simpa using hi), List.getElem?_map] at h
    cases e : ss[i]? with
    | none => rw [e] at h; cases h
    | some t => rw [e] at h; cases h; rfl
  · rw [List.getElem?_append_right (by simpa using hi), List.getElem?_replicate] at h
    split at h <;> cases h
theorem start_getV {N : List Str} {vs : List V} {i : Nat} {v : V} (h : vs[i]? = some v) : (L2.start N vs)[i]? = some (some v) := by
  unfold L2.start
  have hi : i < vs.length := (List.getElem?_eq_some_iff.mp h).1
  rw [List.getElem?_append_left (by simpa using hi), List.getElem?_map, h]
  rfl
theorem start_getV' {N : List Str} {vs : List V} {i : Nat} {v : V} (h : (L2.start N vs)[i]? = some (some v)) : vs[i]? = some v := by
  unfold L2.start at h
  by_cases hi : i < vs.length
  · rw [List.getElem?_append_left (by simpa using hi), List.getElem?_map] at h
    cases e : vs[i]? with
    | none => rw [e] at h; cases h
    | some t => rw [e] at h; cases h; rfl
  · rw [List.getElem?_append_right (by simpa using hi), List.getElem?_replicate] at h
    split at h <;> cases h
theorem own_start {N : List Str} {vs : List V} {ss : List Slot} {n : Nat} {b : Addr} : ownAt (L2.start N vs) (startR n ss) b → ownAt (vs.map some) (ss.map some) b := fun ⟨i, d, e1, e2⟩ =>
  ⟨i, d, by rw [List.getElem?_map, start_get e1]; rfl, by rw [List.getElem?_map, start_getV' e2]; rfl⟩
section
variable {P : Program} {w : World} {K : PySem.W.Frag} {mg : Str → Option Value} {base : Heap}
def Zf (N : List Str) (qual : Str) (st : Stmt) (f : Addr) (cdv : Value) (P : Program) (w : World) (K : PySem.W.Frag) (mg : Str → Option Value) (base : Heap) (k : Nat) (A : Around) (outer : List PySem.Env) (s : Shared) (H : Hp) (E : XK) (prot : List Nat) (nd : N.Nodup) (hr : Room k (A.deeper (envOfC qual (defScope st) s.heap.objs.size f cdv))) : Cz Unit where
  F := fun _ => cxOf (L2.CX P w) P w K mg base N qual (defScope st) f cdv A outer s H E
  P := P
  w := w
  K := K
  mg := mg
  base := base
  EX := E
  prot := prot
  k := k
  hP := fun _ => rfl
  hw := fun _ => rfl
  hK := fun _ => rfl
  hmg := fun _ => rfl
  hb := fun _ => rfl
  nd := fun _ => nd
  cm := True
  calm := fun _ _ => rfl
  room := fun _ _ => hr
  un := fun _ => by
    have := hr.un
    show (A.deeper _).units + 200 < _
    omega
  tk := fun _ => takes_of rfl rfl rfl rfl
  pO := fun _ => passes_of rfl
theorem fn_okZ {x qual : Str} {st : Stmt} {f : Addr} {fd : FuncData} {N ps : List Str} {k : Nat} {prot : List Nat} {body : SM} (F : Fun K x qual st f fd) (S : FnScope N ps (defScope st))
    (hbody : ∀ cdv A outer s H E (hr : Room k (A.deeper (envOfC qual (defScope st) s.heap.objs.size f cdv))), DSs (Zf N qual st f cdv P w K mg base k A outer s H E prot S.nd hr) (defBody st) body) :
    FnOk P w K mg base (L2.CX P w) (k + 1) f fd ps (SpZ K mg ps.length prot (runF N.length body)) := by
  refine F.okX S (fun vs H Q E h => h.1) fun cdv A outer s H vs Q E hr h => ?_
  obtain ⟨hl, W, ss, hW, ar, hpr, hsep, post⟩ := h
  obtain ⟨t, p, sim⟩ := (hbody cdv A outer s H E hr).ex
  refine ⟨t, p (), ?_⟩
  have hpl : ps.length ≤ N.length := by have := congrArg List.length S.pre; rw [List.length_take] at this; omega
  have hls := ar.len
  have hav : ∀ b, av W (L2.start N vs) (startR N.length ss) b → W b := fun b z => by
    rcases z with z | ⟨i, d, e1, e2⟩
    · exact z
    · obtain ⟨v, e3, _, hw⟩ := ar.get (start_get e1)
      rw [start_getV' e2] at e3
      cases e3
      exact hw d rfl b rfl
  have rel : Rel K prot W (L2.start N vs) H (startR N.length ss) := by
    refine ⟨?_, fun i s e => ?_, fun i j d e a h1 h2 h3 h4 => ?_, hW, fun j d a hj e1 _ _ => hj (hpr j d (start_get e1))⟩
    · unfold L2.start startR
      simp only [List.length_append, List.length_map, List.length_replicate]
      omega
    · obtain ⟨v, e3, sr, _⟩ := ar.get (start_get e)
      refine ⟨v, start_getV e3, ?_⟩
      cases s with
      | val d => exact Rp.keep (fun _ _ _ e => e) (fun b z => .inl (hav b z)) d sr
      | own d => exact OwnR.keep sr (fun _ _ _ e => e) (fun b z => .inl (hav b z)) fun _ _ _ e => e
      | raw _ => exact sr
    · exact hsep i j d e a (start_get h1) (start_get h2) (start_getV' h3) (start_getV' h4)
  refine sim W (L2.start N vs) H (startR N.length ss) _ rel ?_
  unfold runF at post
  have kept : ∀ {σ' : L2.St} {H' : Hp} {ρ' : Rho}, Step (L2.start N vs) H (startR N.length ss) σ' H' ρ' → Kept (vs.map some) (ss.map some) H H' := fun {σ' H' ρ'} st => ⟨fun b o n e => st.keep b o (fun z => n (own_start z)) e, st.there⟩
  cases e : body (startR N.length ss) with
  | err => rw [e] at post; exact post.elim
  | exc c as =>
    rw [e] at post
    exact fun cls dd H' kp ex => post cls dd H' ⟨fun b o n e => kp.keep b o (fun z => n (own_start z)) e, kp.there⟩ ex
  | ok r =>
    obtain ⟨fl, ρ'⟩ := r
    rw [e] at post
    simp only [ok_bind] at post
    by_cases hok : ownKept ss ρ' = true
    · rw [if_pos hok] at post
      have outs : ∀ {σ' : L2.St} {H' : Hp}, Rel K prot W σ' H' ρ' → (∀ i ∈ prot, σ'[i]? = (L2.start N vs)[i]?) → ∀ (i : Nat) (d : PyData) (u : V), ss[i]? = some (.own d) → vs[i]? = some u → ∃ d', ρ'[i]? = some (some (.own d')) ∧ OwnR K W H' u d' := fun {σ' H'} rl pr i d u e1 e2 => by
        obtain ⟨d', e3⟩ := ownKept_get hok e1
        obtain ⟨v, e4, ow⟩ := rl.slot i _ e3
        rw [pr i (hpr i d e1), start_getV e2] at e4
        cases e4
        exact ⟨d', e3, OwnR.keep ow (fun _ _ _ e => e) (fun b z => .inl (.inl z)) fun _ _ _ e => e⟩
      cases fl with
      | nx => exact fun σ' H' bd rl st pr => post .non H' (kept st) .non (outs rl pr)
      | bk => exact post.elim
      | ct => exact post.elim
      | rt s =>
        refine fun v σ' H' bd rl rr st pr => post v H' (kept st) ?_ (outs rl pr)
        cases s with
        | val d => exact Rp.keep (fun _ _ _ e => e) (fun b z => .inl (.inl z)) d rr
        | own d =>
          obtain ⟨j, hj, e1, e2⟩ := rr
          obtain ⟨u, e3, ow⟩ := rl.slot j _ e1
          rw [e2] at e3
          cases e3
          obtain ⟨p, ep, _⟩ := OwnR.ref ow
          refine ⟨p, ep, ?_, OwnR.keep ow (fun _ _ _ e => e) (fun b z => .inl ?_) fun _ _ _ e => e⟩
          · subst ep
            rcases st.own p ⟨j, d, e1, e2⟩ with z | z
            · obtain ⟨i, d0, q1, q2⟩ := z
              have hi := hpr i d0 (start_get q1)
              obtain ⟨d1, q3⟩ := ownKept_get hok (start_get q1)
              have q4 : σ'[i]? = some (some (.ref p)) := by rw [pr i hi]; exact q2
              have := rl.sep i j d1 d p q3 e1 q4 e2
              exact absurd (this ▸ hi) hj
            · exact z
          · rcases z with z | z
            · exact .inl z
            · exact .inr ⟨j, d, e1, by rw [e2, ep, z]⟩
        | raw u => exact rr
    · rw [if_neg hok] at post
      exact post.elim
end

/-! ### calls -/
def slotV : Slot → Res PyData
  | .val d => .ok d
  | .own (.list ds) => .ok (.list ds)
  | _ => .err
def slotO : Slot → Res PyData
  | .own d => .ok d
  | _ => .err
def mCall (f : FM) (m : AM) : EM := fun ρ => m ρ >>= fun r => f (r.1.map .val) >>= fun q => slotV q.1 >>= fun d => .ok (d, r.2)
def mCallO (f : FM) (m : AM) : EM := fun ρ => m ρ >>= fun r => f (r.1.map .val) >>= fun q => slotO q.1 >>= fun d => .ok (d, r.2)
section
variable {ι : Type} {Z : Cz ι} {a : Expr} {es : List Expr} {m : AM} {x : Str} {p pos : Pos} {k n : Nat} {f : Addr} {fd : FuncData} {ps : List Str} {prot : List Nat} {fm : FM}
theorem fnAt {sp : Sp} (G : FnOk Z.P Z.w Z.K Z.mg Z.base (L2.CX Z.P Z.w) k f fd ps sp) (i : ι) : FnOk (Z.F i).prog (Z.F i).w (Z.F i).K (Z.F i).mg (Z.F i).base (L2.CX (Z.F i).prog (Z.F i).w) k f fd ps sp := by
  rw [Z.hP, Z.hw, Z.hK, Z.hmg, Z.hb]
  exact G
theorem pass_Z (i : ι) : Passes (L2.CX (Z.F i).prog (Z.F i).w) (Z.F i) Z.EX := passes_call (Z.tk i) fun _ _ _ _ h => h
theorem no_own {vs : List V} {ds : List PyData} {b : Addr} : ¬ ownAt (vs.map some) ((ds.map Slot.val).map some) b := fun ⟨i, d, e1, _⟩ => by
  rw [List.getElem?_map, List.getElem?_map] at e1
  cases e : ds[i]? with
  | none => rw [e] at e1; cases e1
  | some t => rw [e] at e1; cases e1
theorem noOwnAt {ds : List PyData} {i : Nat} {d : PyData} (h : (ds.map Slot.val)[i]? = some (.own d)) : False := by
  rw [List.getElem?_map] at h
  cases e : ds[i]? with
  | none => rw [e] at h; cases h
  | some t => rw [e] at h; cases h
theorem slotV_pure (s : Slot) : ∀ c as, slotV s ≠ .exc c as := fun c as => by
  unfold slotV
  split <;> exact fun z => nomatch z
theorem slotO_pure (s : Slot) : ∀ c as, slotO s ≠ .exc c as := fun c as => by
  unfold slotO
  split <;> exact fun z => nomatch z
/-- the state behind a call that is handed values alone -/
theorem call_rel {Wo : Wt} {σ : L2.St} {H H' : Hp} {ρ : Rho} {vs : List V} {ds : List PyData} (kp : Kept (vs.map some) ((ds.map Slot.val).map some) H H') : Same H H' := fun b o e => kp.keep b o no_own e
theorem simCall {ta : TA} {sl : Slot → Res PyData} (post' : ∀ (Wo : Wt) (σ : L2.St) (H : Hp) (ρ ρ' : Rho) (Q : VK) (s : Slot) (v : V) (H1 H' : Hp), RelZ Z Wo σ H1 ρ' → Step σ H ρ σ H1 ρ' → Same H1 H' → ResR Z.K (av Wo σ ρ') H1 H' v s → RQ Z σ H ρ (sl s >>= fun d => Res.ok (d, ρ')) (ge0 Z Wo σ H ρ Q) → Q v H')
    (sp : ∀ s c as, sl s ≠ .exc c as) (da : DA Z es m) (hn : es.length = n) (sa : ∀ Wo σ H ρ Q, Bd Z.K H → RelZ Z Wo σ H ρ → RQ Z σ H ρ (m ρ) (GA Z Wo σ H ρ Q) → ta σ H Q) :
    ∀ Wo σ H ρ Q, Bd Z.K H → RelZ Z Wo σ H ρ → RQ Z σ H ρ (m ρ >>= fun r => fm (r.1.map .val) >>= fun q => sl q.1 >>= fun d => Res.ok (d, r.2)) (ge0 Z Wo σ H ρ Q) → tCall (SpZ Z.K Z.mg n prot fm) [] Z.EX ta σ H Q := fun Wo σ H ρ Q bd rel post => by
  refine sa Wo σ H ρ _ bd rel (post.bind.imp' fun r em h vs H1 bd1 rel1 rp1 st1 => ?_)
  have hl := da.len ρ r em
  show SpZ Z.K Z.mg n prot fm (vs ++ []) H1 Q Z.EX
  rw [List.append_nil]
  refine ⟨by rw [rp1.len, hl, hn], av Wo σ r.2, r.1.map .val, fun b z => rel1.av_some z, ArgR.vals rp1, fun i d e => (noOwnAt e).elim, fun i j d e a h1 _ _ _ => (noOwnAt h1).elim, ?_⟩
  cases ef : fm (r.1.map .val) with
  | err => rw [ef] at h; exact h.elim
  | exc c as =>
    rw [ef] at h
    exact fun cls dd H' kp ex => h cls dd H' (.of_step st1 ⟨fun b o _ e => kp.keep b o no_own e, kp.there⟩) ex
  | ok q =>
    obtain ⟨s, outs⟩ := q
    rw [ef] at h
    exact fun v H' kp rr _ => post' Wo σ H ρ r.2 Q s v H1 H' rel1 st1 (fun b o e => kp.keep b o no_own e) rr h
theorem post_v (Wo : Wt) (σ : L2.St) (H : Hp) (ρ ρ' : Rho) (Q : VK) (s : Slot) (v : V) (H1 H' : Hp) (rel1 : RelZ Z Wo σ H1 ρ') (st : Step σ H ρ σ H1 ρ') (sm : Same H1 H') (rr : ResR Z.K (av Wo σ ρ') H1 H' v s)
    (h : RQ Z σ H ρ (slotV s >>= fun d => Res.ok (d, ρ')) (ge0 Z Wo σ H ρ Q)) : Q v H' := by
  cases s with
  | val d => exact h.ok v H' (rel1.same sm) rr (st.trans (Same.step sm))
  | own d =>
    cases d with
    | list ds =>
      obtain ⟨p, rfl, hp, a, xs, e1, e2, e3⟩ := rr
      cases e1
      exact h.ok _ H' (rel1.same sm) (.lst ⟨rel1.new hp, .inl e2⟩ (RpL.keep (fun _ _ _ e => e) (fun b z => .inl (.inl z)) ds e3)) (st.trans (Same.step sm))
    | _ => exact False.elim h
  | raw u => exact False.elim h
theorem de_call (G : FnOk Z.P Z.w Z.K Z.mg Z.base (L2.CX Z.P Z.w) k f fd ps (SpZ Z.K Z.mg n prot fm)) (hk : k ≤ Z.k) (hg : ∀ i, Gl (Z.F i) x) (hm : Z.mg x = some (.ref f)) (kp : PySem.W.keepIn Z.K (.ref f) = true) (hb : Binds Z.K fd ps []) (hn : (a :: es).length = n)
    (ha : DA Z (a :: es) m) (hdb : (x == ("__debug__" : Str)) = false := by decide) (he : ∀ i, starEach (a :: es) (Z.F i).env = (false, eval a (Z.F i).env) :: starEach es (Z.F i).env := by intro _; rfl) (hpl : ∀ i, (backTo pos (starEach es (Z.F i).env)).any (·.1) = false := by intro _; rfl) (hcm : Z.cm := by exact trivial) :
    DE Z (.Call (.Name x p) (a :: es) [] pos) (mCall fm m) := by
  obtain ⟨t, q, s⟩ := ha.ex
  exact .mk' (fun i => pe_call (fnAt G i) ((Z.room hcm i).mono hk) (hg i) (by rw [Z.hmg]; exact hm) (by rw [Z.hK]; exact kp) (by rw [Z.hK]; exact hb) .nil (pass_Z i) (q i) hdb (he i) (hpl i))
    (simCall post_v slotV_pure ha hn s)
theorem do_call (G : FnOk Z.P Z.w Z.K Z.mg Z.base (L2.CX Z.P Z.w) k f fd ps (SpZ Z.K Z.mg n prot fm)) (hk : k ≤ Z.k) (hg : ∀ i, Gl (Z.F i) x) (hm : Z.mg x = some (.ref f)) (kp : PySem.W.keepIn Z.K (.ref f) = true) (hb : Binds Z.K fd ps []) (hn : (a :: es).length = n)
    (ha : DA Z (a :: es) m) (hdb : (x == ("__debug__" : Str)) = false := by decide) (he : ∀ i, starEach (a :: es) (Z.F i).env = (false, eval a (Z.F i).env) :: starEach es (Z.F i).env := by intro _; rfl) (hpl : ∀ i, (backTo pos (starEach es (Z.F i).env)).any (·.1) = false := by intro _; rfl) (hcm : Z.cm := by exact trivial) :
    DO Z (.Call (.Name x p) (a :: es) [] pos) (mCallO fm m) := by
  obtain ⟨t, q, s⟩ := ha.ex
  refine .mk' (fun i => pe_call (fnAt G i) ((Z.room hcm i).mono hk) (hg i) (by rw [Z.hmg]; exact hm) (by rw [Z.hK]; exact kp) (by rw [Z.hK]; exact hb) .nil (pass_Z i) (q i) hdb (he i) (hpl i)) fun Wo σ H ρ Q bd rel post => ?_
  refine s Wo σ H ρ _ bd rel (post.bind.imp' fun r em h vs H1 bd1 rel1 rp1 st1 => ?_)
  have hl := ha.len ρ r em
  show SpZ Z.K Z.mg n prot fm (vs ++ []) H1 Q Z.EX
  rw [List.append_nil]
  refine ⟨by rw [rp1.len, hl, hn], av Wo σ r.2, r.1.map .val, fun b z => rel1.av_some z, ArgR.vals rp1, fun i d e => (noOwnAt e).elim, fun i j d e a h1 _ _ _ => (noOwnAt h1).elim, ?_⟩
  cases ef : fm (r.1.map .val) with
  | err => rw [ef] at h; exact h.elim
  | exc c as =>
    rw [ef] at h
    exact fun cls dd H' kp ex => h cls dd H' (.of_step st1 ⟨fun b o _ e => kp.keep b o no_own e, kp.there⟩) ex
  | ok q =>
    obtain ⟨s, outs⟩ := q
    rw [ef] at h
    refine fun v H' kp rr _ => ?_
    have sm : Same H1 H' := fun b o e => kp.keep b o no_own e
    cases s with
    | own d =>
      obtain ⟨p, rfl, hp, ow⟩ := rr
      have n := rel1.new hp
      refine RQ.ok h p H' ?_ (fun z => n (.inl z)) (fun z => n (.inr z)) (OwnR.keep ow (fun _ _ _ e => e) (fun b z => .inl ?_) fun _ _ _ e => e) (st1.trans (Same.step sm)) (st1.none hp)
      · obtain ⟨_, e1, n1⟩ := OwnR.ref ow
        cases e1
        exact rel1.fresh' sm hp n1
      · rcases z with (z | z) | z
        · exact .inl (.inl z)
        · exact .inr z
        · exact .inl (.inr z)
    | _ => exact False.elim h
end
end ZZ

/-! Z9: own lists, built-ins -/
namespace ZZ
open PySem PySem.Spec PyProof.Rows L2
section
variable {ι : Type} {Z : Cz ι} {e a b : Expr} {es : List Expr} {me ma mb : EM} {m : AM} {x : Str} {pos pos' apos p : Pos} {j : Nat}

/-! ### own lists -/
theorem own_at {prot : List Nat} {K : PySem.W.Frag} {Wo : Wt} {σ : L2.St} {H : Hp} {ρ : Rho} {ds : List PyData} (r : Rel K prot Wo σ H ρ) (h : ρ[j]? = some (some (.own (.list ds)))) :
    ∃ a xs, σ[j]? = some (some (.ref a)) ∧ H a = some (.lst xs) ∧ RpL K (av Wo σ ρ) H xs ds := by
  obtain ⟨v, e1, a, xs, e2, h1, h2⟩ := r.slot j _ h
  subst e2
  exact ⟨a, xs, e1, h1, h2⟩
theorem keep_upd {Wo : Wt} {σ : L2.St} {H : Hp} {ρ : Rho} {a : Addr} {o : HO} {d : PyData} (hj : ρ[j]? = some (some (.own d))) (ha : σ[j]? = some (some (.ref a))) :
    ∀ b o', ¬ av Wo σ ρ b → H b = some o' → upd H a o b = some o' := fun b o' n eb => by
  rw [upd_ne (fun z => n (.inr ⟨j, d, hj, by rw [z]; exact ha⟩))]
  exact eb
/-- what is written into an own list: items of before, and values -/
theorem RpL.upd {K : PySem.W.Frag} {Wo : Wt} {σ : L2.St} {H : Hp} {ρ : Rho} {a : Addr} {o : HO} {ds : List PyData} {xs : List V} {d : PyData} (hj : ρ[j]? = some (some (.own d))) (ha : σ[j]? = some (some (.ref a)))
    (h : RpL K (av Wo σ ρ) H xs ds) : RpL K (av Wo σ ρ) (L2.upd H a o) xs ds := RpL.keep (keep_upd hj ha) (fun _ z => .inl z) ds h
theorem Rp.upd {K : PySem.W.Frag} {Wo : Wt} {σ : L2.St} {H : Hp} {ρ : Rho} {a : Addr} {o : HO} {g : PyData} {v : V} {d : PyData} (hj : ρ[j]? = some (some (.own d))) (ha : σ[j]? = some (some (.ref a)))
    (h : Rp K (av Wo σ ρ) H v g) : Rp K (av Wo σ ρ) (L2.upd H a o) v g := Rp.keep (keep_upd hj ha) (fun _ z => .inl z) g h
theorem pe_bmZ {T id : String} {name : Str} {r : V → List V → Hp → VK → Prop} {o : Expr} {to : TE} {t : TA} (pa : PlainAttrs T) (slot : PySem.Slot T name id) (hty : typeOf (.builtin id) = pure (.type "method_descriptor")) (hm : ∀ i, MtR (Z.F i) id r) (ho : ∀ i, PE (Z.F i) o to) (ha : ∀ i, PA (Z.F i) (e :: es) t)
    (hbase : ∀ i, attributeBase o name (Z.F i).env (eval o (Z.F i).env) = eval o (Z.F i).env)
    (hfew : ∀ i, ((backTo pos (starEach (e :: es) (Z.F i).env)).all (fun x => !x.1) && (backToKw pos (keywordEach [] (Z.F i).env)).all (fun x => x.1.isSome) && decide ((e :: es).length + ([] : List Keyword).length + (if ([] : List Keyword).isEmpty then 0 else 1) < 30)) = true)
    (hline : (apos.endLine == pos.line) = true) (hs : ∀ i, starEach (e :: es) (Z.F i).env = (false, eval e (Z.F i).env) :: starEach es (Z.F i).env) (hplain : ∀ i, (backTo pos (starEach es (Z.F i).env)).any (·.1) = false) (i : ι) :
    PE (Z.F i) (.Call (.Attribute o name apos) (e :: es) [] pos) (tBM Z.K T r to t) := by
  rw [← Z.hK i]
  exact pe_bm pa slot hty (hm i) (ho i) (ha i) (hbase i) (hfew i) hline (hs i) (hplain i)
theorem pe_bm0Z {T id : String} {name : Str} {r : V → List V → Hp → VK → Prop} {o : Expr} {to : TE} (pa : PlainAttrs T) (slot : PySem.Slot T name id) (hty : typeOf (.builtin id) = pure (.type "method_descriptor")) (hm : ∀ i, MtR (Z.F i) id r) (ho : ∀ i, PE (Z.F i) o to)
    (hbase : ∀ i, attributeBase o name (Z.F i).env (eval o (Z.F i).env) = eval o (Z.F i).env) (hline : (apos.endLine == pos.line) = true) (i : ι) :
    PE (Z.F i) (.Call (.Attribute o name apos) [] [] pos) (tBM0 Z.K T r to) := by
  rw [← Z.hK i]
  exact pe_bm0 pa slot hty (hm i) (ho i) (hbase i) hline
def mAppend (j : Nat) (m : EM) : SM := fun ρ => match ρ[j]? with
  | some (some (.own (.list _))) => m ρ >>= fun r => (match r.2[j]? with
    | some (some (.own (.list ds))) => if ds.length < lim then .ok (.nx, r.2.set j (some (.own (.list (ds ++ [r.1]))))) else .err
    | _ => .err)
  | _ => .err
theorem ds_append (hN : ∀ i, (Z.F i).N[j]? = some x) (hv : ∀ i, Vis (Z.F i).env.scope x) (he : DE Z e me) (hd : (x == ("__debug__" : Str)) = false := by decide) (hcd : (x == ("__classdict__" : Str)) = false := by decide)
    (hbase : ∀ i, attributeBase (.Name x p) "append" (Z.F i).env (eval (.Name x p) (Z.F i).env) = eval (.Name x p) (Z.F i).env := by intro _; rfl)
    (hfew : ∀ i, ((backTo pos (starEach [e] (Z.F i).env)).all (fun x => !x.1) && (backToKw pos (keywordEach [] (Z.F i).env)).all (fun x => x.1.isSome) && decide (([e] : List Expr).length + ([] : List Keyword).length + (if ([] : List Keyword).isEmpty then 0 else 1) < 30)) = true := by intro _; rfl)
    (hline : (apos.endLine == pos.line) = true := by rfl) (hs : ∀ i, starEach [e] (Z.F i).env = (false, eval e (Z.F i).env) :: starEach [] (Z.F i).env := by intro _; rfl) (hplain : ∀ i, (backTo pos (starEach [] (Z.F i).env)).any (·.1) = false := by intro _; rfl)
    (hsw : ∀ i, swapsWith (.Call (.Attribute (.Name x p) "append" apos) [e] [] pos) none pos'.line (Z.F i).env = pure false := by intro _; rfl) :
    DS Z (.Expr (.Call (.Attribute (.Name x p) "append" apos) [e] [] pos) pos') (mAppend j me) := by
  obtain ⟨t, q, s⟩ := he.ex
  refine .mk' (fun i => ps_expr (pe_bmZ PySem.F.plainAttrs_list PySem.F.slot_list_append PySem.F.type_list_append (fun i => mt_append) (fun i => pe_var (hN i) (hv i) hd hcd) (fun i => pa_cons (q i) pa_nil (hs i)) hbase hfew hline hs hplain i) (hsw i)) fun Wo σ H ρ D bd rel post => ?_
  unfold mAppend at post
  split at post
  · rename_i d0 e0
    obtain ⟨l, xs, e1, h1, h2⟩ := own_at rel e0
    refine ⟨.ref l, e1, .inl ⟨rfl, xs, .inl (.inl h1)⟩, ?_⟩
    refine s Wo σ H ρ _ rel (post.bind.imp fun r h v H1 bd1 rel1 rp1 st1 => ?_)
    split at h
    · rename_i ds e2
      split at h
      · rename_i hl
        obtain ⟨l', ys, e3, h3, h4⟩ := own_at rel1 e2
        rw [e1] at e3
        cases e3
        refine ⟨l, ys, v, rfl, rfl, h3, by rw [h4.len]; exact Nat.lt_of_lt_of_le hl (lim_le (Nat.le_refl _)), ?_⟩
        exact h.ok σ _ (rel1.write e2 e1 ⟨l, _, rfl, upd_same, (h4.append (.one rp1)).upd e2 e1⟩) (st1.trans (step_write e2 e1)) (.refl _)
      · exact h.elim
    · exact h.elim
  · exact post.elim
def rExtR : V → List V → Hp → VK → Prop := fun x vs H Q => ∃ l b xs zs, x = .ref l ∧ vs = [.ref b] ∧ H l = some (.lst xs) ∧ Rd H b (.lst zs) ∧ xs.length + zs.length ≤ sizeLine ∧ Q .non (L2.upd H l (.lst (xs ++ zs)))
theorem mt_extR {X : Cx} : MtR X "list.extend" rExtR := by
  intro pins s σ H x vs v us Q I rx rv h
  obtain ⟨l, b, xs, zs, rfl, rfl, hH, hB, hz, q⟩ := h
  cases rx
  obtain ⟨u, rfl, ru⟩ := rv.one
  cases ru
  obtain ⟨z, its, n, r, hl, e⟩ := I.lstM hH
  obtain ⟨z2, its2, n2, r2, e2⟩ := hB.ok I.hok
  have hl2 := r2.length
  have hsz : its.toArray.size + its2.toArray.size ≤ sizeLine := by rw [List.size_toArray, List.size_toArray]; omega
  have hlong : ¬ (!its.toArray.isEmpty && Builtin.List.listTooLong (its.toArray.size + its2.toArray.size)) = true := by
    rw [notLongL hsz, Bool.and_false]
    exact Bool.false_ne_true
  refine call_meets F.slot_list_extend ⟨_, e, rfl⟩ F.entry_list_extend (F.args_list_extend_2 _ _)
    (AutoSeq1.list_extend_list_list_0 l its.toArray n b its2.toArray n2 hlong (by rw [List.size_toArray]; omega) (by omega)) ⟨e, e2, ?_⟩
  refine ⟨.non, _, I.lset (its' := its ++ its2) hH e (by simp) (r.append r2) ?_, rfl, q⟩
  rw [List.length_append]
  omega
def mExtend (j : Nat) (m : EM) : SM := fun ρ => match ρ[j]? with
  | some (some (.own (.list _))) => m ρ >>= fun r => (match r.2[j]?, r.1 with
    | some (some (.own (.list ds))), .list es => if ds.length + es.length ≤ lim then .ok (.nx, r.2.set j (some (.own (.list (ds ++ es))))) else .err
    | _, _ => .err)
  | _ => .err
theorem ds_extend (hN : ∀ i, (Z.F i).N[j]? = some x) (hv : ∀ i, Vis (Z.F i).env.scope x) (he : DE Z e me) (hd : (x == ("__debug__" : Str)) = false := by decide) (hcd : (x == ("__classdict__" : Str)) = false := by decide)
    (hbase : ∀ i, attributeBase (.Name x p) "extend" (Z.F i).env (eval (.Name x p) (Z.F i).env) = eval (.Name x p) (Z.F i).env := by intro _; rfl)
    (hfew : ∀ i, ((backTo pos (starEach [e] (Z.F i).env)).all (fun x => !x.1) && (backToKw pos (keywordEach [] (Z.F i).env)).all (fun x => x.1.isSome) && decide (([e] : List Expr).length + ([] : List Keyword).length + (if ([] : List Keyword).isEmpty then 0 else 1) < 30)) = true := by intro _; rfl)
    (hline : (apos.endLine == pos.line) = true := by rfl) (hs : ∀ i, starEach [e] (Z.F i).env = (false, eval e (Z.F i).env) :: starEach [] (Z.F i).env := by intro _; rfl) (hplain : ∀ i, (backTo pos (starEach [] (Z.F i).env)).any (·.1) = false := by intro _; rfl)
    (hsw : ∀ i, swapsWith (.Call (.Attribute (.Name x p) "extend" apos) [e] [] pos) none pos'.line (Z.F i).env = pure false := by intro _; rfl) :
    DS Z (.Expr (.Call (.Attribute (.Name x p) "extend" apos) [e] [] pos) pos') (mExtend j me) := by
  obtain ⟨t, q, s⟩ := he.ex
  refine .mk' (fun i => ps_expr (pe_bmZ PySem.F.plainAttrs_list PySem.F.slot_list_extend PySem.F.type_list_extend (fun i => mt_extR) (fun i => pe_var (hN i) (hv i) hd hcd) (fun i => pa_cons (q i) pa_nil (hs i)) hbase hfew hline hs hplain i) (hsw i)) fun Wo σ H ρ D bd rel post => ?_
  unfold mExtend at post
  split at post
  · rename_i d0 e0
    obtain ⟨l, xs, e1, h1, h2⟩ := own_at rel e0
    refine ⟨.ref l, e1, .inl ⟨rfl, xs, .inl (.inl h1)⟩, ?_⟩
    refine s Wo σ H ρ _ rel (post.bind.imp fun r h v H1 bd1 rel1 rp1 st1 => ?_)
    obtain ⟨rd, ρ1⟩ := r
    dsimp only at h rel1 rp1 st1
    split at h
    · rename_i ds es e2
      split at h
      · rename_i hl
        obtain ⟨l', ys, e3, h3, h4⟩ := own_at rel1 e2
        rw [e1] at e3
        cases e3
        obtain ⟨b, zs, rfl, k1, k2⟩ := rp1.lstE
        refine ⟨l, b, ys, zs, rfl, rfl, h3, k1.2, by rw [h4.len, k2.len]; exact lim_le hl, ?_⟩
        exact h.ok σ _ (rel1.write e2 e1 ⟨l, _, rfl, upd_same, (h4.append k2).upd e2 e1⟩) (st1.trans (step_write e2 e1)) (.refl _)
      · exact h.elim
    · exact h.elim
  · exact post.elim
def mPop (j : Nat) : EM := fun ρ => match ρ[j]? with
  | some (some (.own (.list ds))) => (match ds[ds.length - 1]? with
    | some d => .ok (d, ρ.set j (some (.own (.list ds.dropLast))))
    | none => .err)
  | _ => .err
theorem RpL.dropLast {K : PySem.W.Frag} {W : Wt} {H : Hp} {xs : List V} {ds : List PyData} (h : RpL K W H xs ds) : RpL K W H xs.dropLast ds.dropLast := by
  rw [List.dropLast_eq_take, List.dropLast_eq_take, h.len]
  exact h.take _
theorem de_pop (hN : ∀ i, (Z.F i).N[j]? = some x) (hv : ∀ i, Vis (Z.F i).env.scope x) (hd : (x == ("__debug__" : Str)) = false := by decide) (hcd : (x == ("__classdict__" : Str)) = false := by decide)
    (hbase : ∀ i, attributeBase (.Name x p) "pop" (Z.F i).env (eval (.Name x p) (Z.F i).env) = eval (.Name x p) (Z.F i).env := by intro _; rfl) (hline : (apos.endLine == pos.line) = true := by rfl) :
    DE Z (.Call (.Attribute (.Name x p) "pop" apos) [] [] pos) (mPop j) := by
  refine .mk' (pe_bm0Z PySem.F.plainAttrs_list PySem.F.slot_list_pop PySem.F.type_list_pop (fun i => mt_pop) (fun i => pe_var (hN i) (hv i) hd hcd) hbase hline) fun Wo σ H ρ Q bd rel post => ?_
  unfold mPop at post
  split at post
  · rename_i ds e0
    split at post
    · rename_i d e1
      obtain ⟨l, xs, e2, h1, h2⟩ := own_at rel e0
      obtain ⟨v, e3, h3⟩ := h2.get e1
      refine ⟨.ref l, e2, .inl ⟨rfl, xs, .inl (.inl h1)⟩, l, xs, v, rfl, rfl, h1, by rw [h2.len]; exact e3, ?_⟩
      have stw : Step σ H ρ σ (L2.upd H l (.lst xs.dropLast)) (ρ.set j (some (.own (.list ds.dropLast)))) := step_write e0 e2
      exact post.ok v _ (rel.write e0 e2 ⟨l, _, rfl, upd_same, h2.dropLast.upd e0 e2⟩) (h3.step stw) stw
    · exact post.elim
  · exact post.elim
/-- x[i] = e, x an own list -/
def mPutL (j : Nat) (mi me : EM) : SM := fun ρ => me ρ >>= fun r => mi r.2 >>= fun q => match q.2[j]?, q.1 with
  | some (some (.own (.list ds))), .int i => (match ixN ds.length i with
    | some n => .ok (.nx, q.2.set j (some (.own (.list (ds.set n r.1)))))
    | none => .err)
  | _, _ => .err
theorem ds_putL {ix : Expr} {mi : EM} {tpos : Pos} (hN : ∀ i, (Z.F i).N[j]? = some x) (hv : ∀ i, Vis (Z.F i).env.scope x) (hi : DE Z ix mi) (he : DE Z e me) (hd : (x == ("__debug__" : Str)) = false := by decide) (hcd : (x == ("__classdict__" : Str)) = false := by decide)
    (hgd : ∀ (ρ : Rho) r, me ρ = .ok r → ∃ v, ρ[j]? = some (some v))
    (ha : ∀ i v, assign (.Subscript (.Name x p) ix tpos) (Z.F i).env v = (do
      let ov ← holding [v] (eval (.Name x p) (Z.F i).env)
      let iv ← holding [v, ov] (eval ix (Z.F i).env)
      standAt tpos
      holding [v, ov, iv] (setItem ov iv v)
      release [v, ov, iv] []) := by intro _ _; rfl)
    (hs : ∀ i, swapsWithSole [.Subscript (.Name x p) ix tpos] e pos.line (Z.F i).env = pure false := by intro _; rfl) (hw : ∀ i, swappedStores [.Subscript (.Name x p) ix tpos] e (Z.F i).env = pure none := by intro _; rfl)
    (h1 : ∀ i, (assignEach [.Subscript (.Name x p) ix tpos] (Z.F i).env).map (·.2) = [assign (.Subscript (.Name x p) ix tpos) (Z.F i).env] := by intro _; rfl) :
    DS Z (.Assign [.Subscript (.Name x p) ix tpos] e pos) (mPutL j mi me) := by
  obtain ⟨t, q, s⟩ := he.ex
  obtain ⟨ti, qi, si⟩ := hi.ex
  refine .mk' (fun i => ps_asg (q i) (pg_sub (pe_var (hN i) (hv i) hd hcd) (qi i) set_list (ha i)) (hs i) (hw i) (h1 i)) fun Wo σ H ρ D bd rel post => ?_
  refine s Wo σ H ρ _ rel (post.bind.imp' fun r er h v H1 bd1 rel1 rp1 st1 => ?_)
  obtain ⟨s0, es⟩ := hgd ρ r er
  obtain ⟨v0, ev, _⟩ := rel.slot j _ es
  refine ⟨v0, ev, ?_⟩
  refine si Wo σ H1 r.2 _ rel1 ((RQ.step h st1).bind.imp fun q h2 u H2 bd2 rel2 rp2 st2 => ?_)
  obtain ⟨qd, ρ2⟩ := q
  dsimp only at h2 rel2 rp2 st2
  split at h2
  · rename_i ds i e2
    split at h2
    · rename_i n hn
      obtain ⟨l, ys, e3, h3, h4⟩ := own_at rel2 e2
      rw [ev] at e3
      cases e3
      cases rp2
      refine ⟨l, ys, i, n, rfl, rfl, h3, by rw [h4.len]; exact hn, ?_⟩
      exact h2.ok σ _ (rel2.write e2 ev ⟨l, _, rfl, upd_same, ((h4.set n (rp1.step st2)).upd e2 ev)⟩) ((st1.trans st2).trans (step_write e2 ev)) (.refl _)
    · exact h2.elim
  · exact h2.elim
end

/-! ### built-ins of one value -/
def sLen : PyData → Res PyData
  | .list ds => .ok (.int ds.length)
  | .tuple ds => .ok (.int ds.length)
  | .str x => if x.length ≤ lim then .ok (.int x.length) else .err
  | _ => .err
theorem pu_len : Pure1 sLen := fun d c as => by
  unfold sLen
  split <;> (try split) <;> exact fun z => nomatch z
theorem im_len {K : PySem.W.Frag} : Imp1 K (fun v => (fun xs H Q => ∃ x n, xs = [x] ∧ LenV K x H n ∧ Q (.int n) H) [v]) sLen := by
  intro W H x d Q hw bd hx ⟨g, eg, hg⟩
  unfold sLen at eg
  split at eg
  · cases eg
    obtain ⟨a, xs, rfl, h1, h2⟩ := hx
    exact ⟨_, xs.length, rfl, .inl ⟨xs, .inl h1, rfl⟩, by rw [h2.len]; exact hg _ H same_refl (.int _)⟩
  · cases eg
    obtain ⟨a, xs, rfl, h1, h2⟩ := Rp.tupE hx
    exact ⟨_, xs.length, rfl, .inr ⟨xs, h1.sq, rfl⟩, by rw [h2.len]; exact hg _ H same_refl (.int _)⟩
  · split at eg
    · rename_i hl
      cases eg
      cases hx
      exact ⟨_, _, rfl, ⟨lim_le hl, rfl⟩, hg _ H same_refl (.int _)⟩
    · cases eg
  · cases eg
theorem call_lenZ {ι : Type} {Z : Cz ι} (i : ι) : CallR (Z.F i) (.builtin "len") (fun xs H Q => ∃ x n, xs = [x] ∧ LenV Z.K x H n ∧ Q (.int n) H) := by rw [← Z.hK i]; exact call_len
def sTuple : PyData → Res PyData
  | .list ds => .ok (.tuple ds)
  | .tuple ds => .ok (.tuple ds)
  | _ => .err
theorem pu_tuple : Pure1 sTuple := fun d c as => by
  unfold sTuple
  split <;> exact fun z => nomatch z
def rTupleOf (K : PySem.W.Frag) : List V → Hp → VK → Prop := fun xs H Q => ∃ p ys, xs = [.ref p] ∧ ((SqL K H p ys ∧ ∀ l, H l = none → Q (.ref l) (upd H l (.tup ys))) ∨ (SqT K H p ys ∧ Q (.ref p) H))
theorem call_tupleZ {ι : Type} {Z : Cz ι} (i : ι) : CallR (Z.F i) (.type "tuple") (rTupleOf Z.K) := by rw [← Z.hK i]; exact call_tuple_of
theorem im_tuple {K : PySem.W.Frag} : Imp1 K (fun v => rTupleOf K [v]) sTuple := by
  intro W H x d Q hw bd hx ⟨g, eg, hg⟩
  unfold sTuple at eg
  split at eg
  · cases eg
    obtain ⟨a, xs, rfl, h1, h2⟩ := hx
    exact ⟨a, xs, rfl, .inl ⟨.inl h1, fun l hl => hg _ _ (same_upd hl) (.tupN hw hl h2)⟩⟩
  · cases eg
    obtain ⟨a, xs, rfl, h1, h2⟩ := Rp.tupE hx
    exact ⟨a, xs, rfl, .inr ⟨h1.sq, hg _ H same_refl (.tup h1 h2)⟩⟩
  · cases eg
def sList : PyData → Res PyData
  | .list ds => .ok (.list ds)
  | .tuple ds => .ok (.list ds)
  | _ => .err
theorem pu_list : Pure1 sList := fun d c as => by
  unfold sList
  split <;> exact fun z => nomatch z
def rListOf (K : PySem.W.Frag) : List V → Hp → VK → Prop := fun xs H Q => ∃ p ys, xs = [.ref p] ∧ (SqL K H p ys ∨ SqT K H p ys) ∧ ∀ l, H l = none → Q (.ref l) (upd H l (.lst ys))
theorem call_listZ {ι : Type} {Z : Cz ι} (i : ι) : CallR (Z.F i) (.type "list") (rListOf Z.K) := by rw [← Z.hK i]; exact call_list_of
theorem im_list {K : PySem.W.Frag} : Imp1 K (fun v => rListOf K [v]) sList := by
  intro W H x d Q hw bd hx ⟨g, eg, hg⟩
  unfold sList at eg
  split at eg
  · cases eg
    obtain ⟨a, xs, rfl, h1, h2⟩ := hx
    exact ⟨a, xs, rfl, .inl (.inl h1), fun l hl => hg _ _ (same_upd hl) (.lstN hw hl h2)⟩
  · cases eg
    obtain ⟨a, xs, rfl, h1, h2⟩ := Rp.tupE hx
    exact ⟨a, xs, rfl, .inr h1.sq, fun l hl => hg _ _ (same_upd hl) (.lstN hw hl h2)⟩
  · cases eg
def sInt : PyData → Res PyData
  | .int i => .ok (.int i)
  | .bool b => .ok (.int (if b then 1 else 0))
  | _ => .err
theorem pu_int : Pure1 sInt := fun d c as => by
  unfold sInt
  split <;> exact fun z => nomatch z
theorem im_int {K : PySem.W.Frag} : Imp1 K (fun v => (fun xs H Q => (∃ i, xs = [.int i] ∧ Q (.int i) H) ∨ ∃ k, xs = [.bl k] ∧ Q (.int (if k then 1 else 0)) H) [v]) sInt := by
  intro W H x d Q hw bd hx ⟨g, eg, hg⟩
  unfold sInt at eg
  split at eg
  · cases eg
    cases hx
    exact .inl ⟨_, rfl, hg _ H same_refl (.int _)⟩
  · cases eg
    cases hx
    exact .inr ⟨_, rfl, hg _ H same_refl (.int _)⟩
  · cases eg
def sAbs : PyData → Res PyData
  | .int i => .ok (.int (if i < 0 then -i else i))
  | _ => .err
theorem pu_abs : Pure1 sAbs := fun d c as => by
  unfold sAbs
  split <;> exact fun z => nomatch z
theorem im_abs {K : PySem.W.Frag} : Imp1 K (fun v => (fun xs H Q => ∃ i, xs = [.int i] ∧ Q (.int (if i < 0 then -i else i)) H) [v]) sAbs := by
  intro W H x d Q hw bd hx ⟨g, eg, hg⟩
  unfold sAbs at eg
  split at eg
  · cases eg
    cases hx
    exact ⟨_, rfl, hg _ H same_refl (.int _)⟩
  · cases eg
/-- lists of bools, of ints -/
def boolsOf : List PyData → Option (List Bool)
  | [] => some []
  | .bool b :: ds => (boolsOf ds).map (b :: ·)
  | _ => none
def intsOf : List PyData → Option (List Int)
  | [] => some []
  | .int b :: ds => (intsOf ds).map (b :: ·)
  | _ => none
theorem boolsOf_eq : ∀ {ds : List PyData} {bs : List Bool}, boolsOf ds = some bs → ds = bs.map .bool
  | [], _, h => by cases h; rfl
  | .bool b :: ds, bs, h => by
    have h : (boolsOf ds).map (b :: ·) = some bs := h
    cases e : boolsOf ds with
    | none => rw [e] at h; cases h
    | some r => rw [e] at h; cases h; rw [boolsOf_eq e]; rfl
  | .none :: _, _, h => by cases h
  | .int _ :: _, _, h => by cases h
  | .str _ :: _, _, h => by cases h
  | .list _ :: _, _, h => by cases h
  | .tuple _ :: _, _, h => by cases h
  | .dict _ :: _, _, h => by cases h
theorem intsOf_eq : ∀ {ds : List PyData} {bs : List Int}, intsOf ds = some bs → ds = bs.map .int
  | [], _, h => by cases h; rfl
  | .int b :: ds, bs, h => by
    have h : (intsOf ds).map (b :: ·) = some bs := h
    cases e : intsOf ds with
    | none => rw [e] at h; cases h
    | some r => rw [e] at h; cases h; rw [intsOf_eq e]; rfl
  | .none :: _, _, h => by cases h
  | .bool _ :: _, _, h => by cases h
  | .str _ :: _, _, h => by cases h
  | .list _ :: _, _, h => by cases h
  | .tuple _ :: _, _, h => by cases h
  | .dict _ :: _, _, h => by cases h
@[simp] theorem intsOf_map (l : List Int) : intsOf (l.map .int) = some l := by
  induction l with
  | nil => rfl
  | cons x r ih => show (intsOf (r.map .int)).map (x :: ·) = _; rw [ih]; rfl
@[simp] theorem boolsOf_map (l : List Bool) : boolsOf (l.map .bool) = some l := by
  induction l with
  | nil => rfl
  | cons x r ih => show (boolsOf (r.map .bool)).map (x :: ·) = _; rw [ih]; rfl
theorem RpL.bools_inv {K : PySem.W.Frag} {W : Wt} {H : Hp} : ∀ {is : List Bool} {vs : List V}, RpL K W H vs (is.map PyData.bool) → vs = is.map V.bl
  | [], _, h => by cases h; rfl
  | i :: is, _, h => by
    cases h with
    | cons h1 h2 =>
      cases h1
      rw [RpL.bools_inv h2]
      rfl
def sAll : PyData → Res PyData
  | .list ds => match boolsOf ds with | some bs => .ok (.bool (bs.all id)) | none => .err
  | _ => .err
def sAny : PyData → Res PyData
  | .list ds => match boolsOf ds with | some bs => .ok (.bool (bs.any id)) | none => .err
  | _ => .err
def sSum : PyData → Res PyData
  | .list ds => match intsOf ds with | some bs => .ok (.int bs.sum) | none => .err
  | _ => .err
def maxI : List Int → Option Int
  | [] => none
  | x :: r => some (r.foldl (fun a b => if a < b then b else a) x)
def minI : List Int → Option Int
  | [] => none
  | x :: r => some (r.foldl (fun a b => if b < a then b else a) x)
def sMax : PyData → Res PyData
  | .list ds => match (intsOf ds).bind maxI with | some b => .ok (.int b) | none => .err
  | _ => .err
def sMin : PyData → Res PyData
  | .list ds => match (intsOf ds).bind minI with | some b => .ok (.int b) | none => .err
  | _ => .err
theorem pu_all : Pure1 sAll := fun d c as => by
  unfold sAll
  split <;> (try split) <;> exact fun z => nomatch z
theorem pu_any : Pure1 sAny := fun d c as => by
  unfold sAny
  split <;> (try split) <;> exact fun z => nomatch z
theorem pu_sum : Pure1 sSum := fun d c as => by
  unfold sSum
  split <;> (try split) <;> exact fun z => nomatch z
theorem pu_max : Pure1 sMax := fun d c as => by
  unfold sMax
  split <;> (try split) <;> exact fun z => nomatch z
theorem pu_min : Pure1 sMin := fun d c as => by
  unfold sMin
  split <;> (try split) <;> exact fun z => nomatch z
theorem im_all {K : PySem.W.Frag} : Imp1 K (fun v => rAll K [v]) sAll := by
  intro W H x d Q hw bd hx ⟨g, eg, hg⟩
  unfold sAll at eg
  split at eg
  · split at eg
    · rename_i bs hb
      cases eg
      rw [boolsOf_eq hb] at hx
      obtain ⟨a, xs, rfl, h1, h2⟩ := hx
      rw [h2.bools_inv] at h1
      exact ⟨a, bs, rfl, .inl h1, hg _ H same_refl (.bl _)⟩
    · cases eg
  · cases eg
theorem im_any {K : PySem.W.Frag} : Imp1 K (fun v => rAny K [v]) sAny := by
  intro W H x d Q hw bd hx ⟨g, eg, hg⟩
  unfold sAny at eg
  split at eg
  · split at eg
    · rename_i bs hb
      cases eg
      rw [boolsOf_eq hb] at hx
      obtain ⟨a, xs, rfl, h1, h2⟩ := hx
      rw [h2.bools_inv] at h1
      exact ⟨a, bs, rfl, .inl h1, hg _ H same_refl (.bl _)⟩
    · cases eg
  · cases eg
theorem im_sum {K : PySem.W.Frag} : Imp1 K (fun v => rSum K [v]) sSum := by
  intro W H x d Q hw bd hx ⟨g, eg, hg⟩
  unfold sSum at eg
  split at eg
  · split at eg
    · rename_i bs hb
      cases eg
      rw [intsOf_eq hb] at hx
      obtain ⟨a, xs, rfl, h1, h2⟩ := hx
      rw [h2.ints_inv] at h1
      exact ⟨a, bs, rfl, .inl h1, hg _ H same_refl (.int _)⟩
    · cases eg
  · cases eg
theorem foldl_max : ∀ (r : List Int) (x : Int), (r.foldl (fun a b => if a < b then b else a) x) ∈ x :: r ∧ ∀ y ∈ x :: r, y ≤ r.foldl (fun a b => if a < b then b else a) x
  | [], x => ⟨by simp, fun y hy => by simp at hy; rw [hy]; exact Int.le_refl _⟩
  | z :: r, x => by
    obtain ⟨h1, h2⟩ := foldl_max r (if x < z then z else x)
    rw [List.foldl_cons]
    refine ⟨?_, fun y hy => ?_⟩
    · rcases List.mem_cons.mp h1 with h | h
      · rw [h]; split <;> simp
      · exact List.mem_cons_of_mem _ (List.mem_cons_of_mem _ h)
    · have hx : (if x < z then z else x) ≤ r.foldl (fun a b => if a < b then b else a) (if x < z then z else x) := h2 _ (List.mem_cons_self)
      rcases List.mem_cons.mp hy with h | h
      · rw [h]; refine Int.le_trans ?_ hx; split <;> omega
      · rcases List.mem_cons.mp h with h | h
        · rw [h]; refine Int.le_trans ?_ hx; split <;> omega
        · exact h2 y (List.mem_cons_of_mem _ h)
theorem foldl_min : ∀ (r : List Int) (x : Int), (r.foldl (fun a b => if b < a then b else a) x) ∈ x :: r ∧ ∀ y ∈ x :: r, r.foldl (fun a b => if b < a then b else a) x ≤ y
  | [], x => ⟨by simp, fun y hy => by simp at hy; rw [hy]; exact Int.le_refl _⟩
  | z :: r, x => by
    obtain ⟨h1, h2⟩ := foldl_min r (if z < x then z else x)
    rw [List.foldl_cons]
    refine ⟨?_, fun y hy => ?_⟩
    · rcases List.mem_cons.mp h1 with h | h
      · rw [h]; split <;> simp
      · exact List.mem_cons_of_mem _ (List.mem_cons_of_mem _ h)
    · have hx : r.foldl (fun a b => if b < a then b else a) (if z < x then z else x) ≤ (if z < x then z else x) := h2 _ (List.mem_cons_self)
      rcases List.mem_cons.mp hy with h | h
      · rw [h]; refine Int.le_trans hx ?_; split <;> omega
      · rcases List.mem_cons.mp h with h | h
        · rw [h]; refine Int.le_trans hx ?_; split <;> omega
        · exact h2 y (List.mem_cons_of_mem _ h)
theorem im_max {K : PySem.W.Frag} : Imp1 K (fun v => rMax K [v]) sMax := by
  intro W H x d Q hw bd hx ⟨g, eg, hg⟩
  unfold sMax at eg
  split at eg
  · split at eg
    · rename_i m hb
      cases eg
      obtain ⟨bs, hb, hm⟩ := Option.bind_eq_some_iff.mp hb
      rw [intsOf_eq hb] at hx
      obtain ⟨a, xs, rfl, h1, h2⟩ := hx
      rw [h2.ints_inv] at h1
      cases bs with
      | nil => cases hm
      | cons z r =>
        cases hm
        obtain ⟨k1, k2⟩ := foldl_max r z
        refine ⟨a, z :: r, rfl, .inl h1, by simp, fun m' hm' hle => ?_⟩
        have e : m' = r.foldl (fun a b => if a < b then b else a) z := Int.le_antisymm (k2 _ hm') (hle _ k1)
        rw [e]
        exact hg _ H same_refl (.int _)
    · cases eg
  · cases eg
theorem im_min {K : PySem.W.Frag} : Imp1 K (fun v => rMin K [v]) sMin := by
  intro W H x d Q hw bd hx ⟨g, eg, hg⟩
  unfold sMin at eg
  split at eg
  · split at eg
    · rename_i m hb
      cases eg
      obtain ⟨bs, hb, hm⟩ := Option.bind_eq_some_iff.mp hb
      rw [intsOf_eq hb] at hx
      obtain ⟨a, xs, rfl, h1, h2⟩ := hx
      rw [h2.ints_inv] at h1
      cases bs with
      | nil => cases hm
      | cons z r =>
        cases hm
        obtain ⟨k1, k2⟩ := foldl_min r z
        refine ⟨a, z :: r, rfl, .inl h1, by simp, fun m' hm' hle => ?_⟩
        have e : m' = r.foldl (fun a b => if b < a then b else a) z := Int.le_antisymm (hle _ k1) (k2 _ hm')
        rw [e]
        exact hg _ H same_refl (.int _)
    · cases eg
  · cases eg
abbrev sMax2 := sI2 fun i j => .int (if j > i then j else i)
abbrev sMin2 := sI2 fun i j => .int (if j < i then j else i)
theorem im_max2 {K : PySem.W.Frag} : Imp2 K (fun v u => (fun xs H Q => ∃ i j, xs = [.int i, .int j] ∧ Q (.int (if j > i then j else i)) H) [v, u]) sMax2 := by
  intro W H x y d e Q hw bd hx hy ⟨g, eg, hg⟩
  have eg : sI2 _ d e = Res.ok g := eg
  unfold sI2 at eg
  split at eg
  · cases eg
    cases hx
    cases hy
    exact ⟨_, _, rfl, hg _ H same_refl (.int _)⟩
  · cases eg
theorem im_min2 {K : PySem.W.Frag} : Imp2 K (fun v u => (fun xs H Q => ∃ i j, xs = [.int i, .int j] ∧ Q (.int (if j < i then j else i)) H) [v, u]) sMin2 := by
  intro W H x y d e Q hw bd hx hy ⟨g, eg, hg⟩
  have eg : sI2 _ d e = Res.ok g := eg
  unfold sI2 at eg
  split at eg
  · cases eg
    cases hx
    cases hy
    exact ⟨_, _, rfl, hg _ H same_refl (.int _)⟩
  · cases eg
section
variable {ι : Type} {Z : Cz ι} {e a b : Expr} {me ma mb : EM} {pos p : Pos}
theorem de_len (hg : ∀ i, Gl (Z.F i) "len") (hm : Z.mg "len" = none) (ha : DB Z e me) (he : ∀ i, starEach [e] (Z.F i).env = (false, eval e (Z.F i).env) :: starEach [] (Z.F i).env := by intro _; rfl) (hpl : ∀ i, (backTo pos (starEach [] (Z.F i).env)).any (·.1) = false := by intro _; rfl) : DE Z (.Call (.Name "len" p) [e] [] pos) (mUn sLen me) := de_call1 call_lenZ im_len pu_len hg hm PySem.boot_len ha (he := he) (hpl := hpl)
theorem de_tupleOf (hg : ∀ i, Gl (Z.F i) "tuple") (hm : Z.mg "tuple" = none) (ha : DB Z e me) (he : ∀ i, starEach [e] (Z.F i).env = (false, eval e (Z.F i).env) :: starEach [] (Z.F i).env := by intro _; rfl) (hpl : ∀ i, (backTo pos (starEach [] (Z.F i).env)).any (·.1) = false := by intro _; rfl) : DE Z (.Call (.Name "tuple" p) [e] [] pos) (mUn sTuple me) := de_callT1 call_tupleZ im_tuple pu_tuple hg hm (by decide +kernel) ha (he := he) (hpl := hpl)
theorem de_listOf (hg : ∀ i, Gl (Z.F i) "list") (hm : Z.mg "list" = none) (ha : DB Z e me) (he : ∀ i, starEach [e] (Z.F i).env = (false, eval e (Z.F i).env) :: starEach [] (Z.F i).env := by intro _; rfl) (hpl : ∀ i, (backTo pos (starEach [] (Z.F i).env)).any (·.1) = false := by intro _; rfl) : DE Z (.Call (.Name "list" p) [e] [] pos) (mUn sList me) := de_callT1 call_listZ im_list pu_list hg hm (by decide +kernel) ha (he := he) (hpl := hpl)
theorem de_intOf (hg : ∀ i, Gl (Z.F i) "int") (hm : Z.mg "int" = none) (ha : DB Z e me) (he : ∀ i, starEach [e] (Z.F i).env = (false, eval e (Z.F i).env) :: starEach [] (Z.F i).env := by intro _; rfl) (hpl : ∀ i, (backTo pos (starEach [] (Z.F i).env)).any (·.1) = false := by intro _; rfl) : DE Z (.Call (.Name "int" p) [e] [] pos) (mUn sInt me) := de_callT1 (fun i => call_int1) im_int pu_int hg hm (by decide +kernel) ha (he := he) (hpl := hpl)
theorem de_abs (hg : ∀ i, Gl (Z.F i) "abs") (hm : Z.mg "abs" = none) (ha : DB Z e me) (he : ∀ i, starEach [e] (Z.F i).env = (false, eval e (Z.F i).env) :: starEach [] (Z.F i).env := by intro _; rfl) (hpl : ∀ i, (backTo pos (starEach [] (Z.F i).env)).any (·.1) = false := by intro _; rfl) : DE Z (.Call (.Name "abs" p) [e] [] pos) (mUn sAbs me) := de_call1 (fun i => call_abs) im_abs pu_abs hg hm (by decide +kernel) ha (he := he) (hpl := hpl)
theorem de_all (hg : ∀ i, Gl (Z.F i) "all") (hm : Z.mg "all" = none) (ha : DB Z e me) (he : ∀ i, starEach [e] (Z.F i).env = (false, eval e (Z.F i).env) :: starEach [] (Z.F i).env := by intro _; rfl) (hpl : ∀ i, (backTo pos (starEach [] (Z.F i).env)).any (·.1) = false := by intro _; rfl) (hcm : Z.cm := by exact trivial) : DE Z (.Call (.Name "all" p) [e] [] pos) (mUn sAll me) := de_call1 (fun i => by rw [← Z.hK i]; exact cr_all (Z.calm hcm i)) im_all pu_all hg hm (by decide +kernel) ha (he := he) (hpl := hpl)
theorem de_any (hg : ∀ i, Gl (Z.F i) "any") (hm : Z.mg "any" = none) (ha : DB Z e me) (he : ∀ i, starEach [e] (Z.F i).env = (false, eval e (Z.F i).env) :: starEach [] (Z.F i).env := by intro _; rfl) (hpl : ∀ i, (backTo pos (starEach [] (Z.F i).env)).any (·.1) = false := by intro _; rfl) (hcm : Z.cm := by exact trivial) : DE Z (.Call (.Name "any" p) [e] [] pos) (mUn sAny me) := de_call1 (fun i => by rw [← Z.hK i]; exact cr_any (Z.calm hcm i)) im_any pu_any hg hm (by decide +kernel) ha (he := he) (hpl := hpl)
theorem de_sum (hg : ∀ i, Gl (Z.F i) "sum") (hm : Z.mg "sum" = none) (ha : DB Z e me) (he : ∀ i, starEach [e] (Z.F i).env = (false, eval e (Z.F i).env) :: starEach [] (Z.F i).env := by intro _; rfl) (hpl : ∀ i, (backTo pos (starEach [] (Z.F i).env)).any (·.1) = false := by intro _; rfl) (hcm : Z.cm := by exact trivial) : DE Z (.Call (.Name "sum" p) [e] [] pos) (mUn sSum me) := de_call1 (fun i => by rw [← Z.hK i]; exact cr_sum (Z.calm hcm i)) im_sum pu_sum hg hm (by decide +kernel) ha (he := he) (hpl := hpl)
theorem de_max1 (hg : ∀ i, Gl (Z.F i) "max") (hm : Z.mg "max" = none) (ha : DB Z e me) (he : ∀ i, starEach [e] (Z.F i).env = (false, eval e (Z.F i).env) :: starEach [] (Z.F i).env := by intro _; rfl) (hpl : ∀ i, (backTo pos (starEach [] (Z.F i).env)).any (·.1) = false := by intro _; rfl) (hcm : Z.cm := by exact trivial) : DE Z (.Call (.Name "max" p) [e] [] pos) (mUn sMax me) := de_call1 (fun i => by rw [← Z.hK i]; exact cr_max (Z.calm hcm i)) im_max pu_max hg hm (by decide +kernel) ha (he := he) (hpl := hpl)
theorem de_min1 (hg : ∀ i, Gl (Z.F i) "min") (hm : Z.mg "min" = none) (ha : DB Z e me) (he : ∀ i, starEach [e] (Z.F i).env = (false, eval e (Z.F i).env) :: starEach [] (Z.F i).env := by intro _; rfl) (hpl : ∀ i, (backTo pos (starEach [] (Z.F i).env)).any (·.1) = false := by intro _; rfl) (hcm : Z.cm := by exact trivial) : DE Z (.Call (.Name "min" p) [e] [] pos) (mUn sMin me) := de_call1 (fun i => by rw [← Z.hK i]; exact cr_min (Z.calm hcm i)) im_min pu_min hg hm (by decide +kernel) ha (he := he) (hpl := hpl)
theorem de_max2 (hg : ∀ i, Gl (Z.F i) "max") (hm : Z.mg "max" = none) (ha : DE Z a ma) (hb : DE Z b mb) (he : ∀ i, starEach [a, b] (Z.F i).env = (false, eval a (Z.F i).env) :: starEach [b] (Z.F i).env := by intro _; rfl) (he2 : ∀ i, starEach [b] (Z.F i).env = (false, eval b (Z.F i).env) :: starEach [] (Z.F i).env := by intro _; rfl) (hpl : ∀ i, (backTo pos (starEach [b] (Z.F i).env)).any (·.1) = false := by intro _; rfl) (hcm : Z.cm := by exact trivial) : DE Z (.Call (.Name "max" p) [a, b] [] pos) (mBin sMax2 ma mb) := de_call2 (fun i => call_max2 (Z.calm hcm i)) im_max2 pu_i2 hg hm (by decide +kernel) ha hb (he := he) (he2 := he2) (hpl := hpl)
theorem de_min2 (hg : ∀ i, Gl (Z.F i) "min") (hm : Z.mg "min" = none) (ha : DE Z a ma) (hb : DE Z b mb) (he : ∀ i, starEach [a, b] (Z.F i).env = (false, eval a (Z.F i).env) :: starEach [b] (Z.F i).env := by intro _; rfl) (he2 : ∀ i, starEach [b] (Z.F i).env = (false, eval b (Z.F i).env) :: starEach [] (Z.F i).env := by intro _; rfl) (hpl : ∀ i, (backTo pos (starEach [b] (Z.F i).env)).any (·.1) = false := by intro _; rfl) (hcm : Z.cm := by exact trivial) : DE Z (.Call (.Name "min" p) [a, b] [] pos) (mBin sMin2 ma mb) := de_call2 (fun i => call_min2 (Z.calm hcm i)) im_min2 pu_i2 hg hm (by decide +kernel) ha hb (he := he) (he2 := he2) (hpl := hpl)
end
end ZZ

/-! Z10: calls that are handed an own list; isinstance; range -/
namespace ZZ
open PySem PySem.Spec PyProof.Rows L2
section
variable {K : PySem.W.Frag} {prot : List Nat} {Wo : Wt} {σ : L2.St} {H H' : Hp} {ρ : Rho} {j : Nat} {a : Addr} {d d' : PyData}
theorem ownAt_set (hj : ρ[j]? = some (some (.own d))) (b : Addr) : ownAt σ (ρ.set j (some (.own d'))) b ↔ ownAt σ ρ b := by
  have hl : j < ρ.length := (List.getElem?_eq_some_iff.mp hj).1
  constructor
  · rintro ⟨i, e, e1, e2⟩
    by_cases hi : j = i
    · subst hi; exact ⟨j, d, hj, e2⟩
    · rw [List.getElem?_set_ne hi] at e1; exact ⟨i, e, e1, e2⟩
  · rintro ⟨i, e, e1, e2⟩
    by_cases hi : j = i
    · subst hi; exact ⟨j, d', by rw [List.getElem?_set_self hl], e2⟩
    · exact ⟨i, e, by rw [List.getElem?_set_ne hi]; exact e1, e2⟩
theorem Rel.write' (r : Rel K prot Wo σ H ρ) (hj : ρ[j]? = some (some (.own d))) (ha : σ[j]? = some (some (.ref a))) (hk : ∀ b o, b ≠ a → H b = some o → H' b = some o) (ht : ∀ b, H b ≠ none → H' b ≠ none)
    (h : OwnR K (av Wo σ ρ) H' (.ref a) d') : Rel K prot Wo σ H' (ρ.set j (some (.own d'))) := by
  have hl : j < ρ.length := (List.getElem?_eq_some_iff.mp hj).1
  have hav : ∀ b, av Wo σ (ρ.set j (some (.own d'))) b → av Wo σ ρ b := fun b z => z.imp id (ownAt_set hj b).mp
  have oa : ownAt σ ρ a := ⟨j, d, hj, ha⟩
  have hk' : ∀ b o', ¬ av Wo σ ρ b → H b = some o' → H' b = some o' := fun b o' n e => hk b o' (fun z => n (.inr (by rw [z]; exact oa))) e
  have own_ix : ∀ (i : Nat) (e : PyData), (ρ.set j (some (.own d')))[i]? = some (some (.own e)) → ∃ e', ρ[i]? = some (some (.own e')) := fun i e q => by
    by_cases hi : j = i
    · subst hi; exact ⟨d, hj⟩
    · rw [List.getElem?_set_ne hi] at q; exact ⟨e, q⟩
  refine ⟨by simp [r.len], fun i t e => ?_, fun i k d1 d2 b h1 h2 h3 h4 => ?_, fun b w => ht b (r.wo b w), fun i d1 b hi e1 e2 w => ?_⟩
  · by_cases hi : j = i
    · subst hi
      rw [List.getElem?_set_self hl] at e
      cases e
      exact ⟨_, ha, OwnR.keep h (fun _ _ _ e => e) (fun b z => .inl (hav b z)) fun _ _ _ e => e⟩
    · rw [List.getElem?_set_ne hi] at e
      obtain ⟨u, e2, q⟩ := r.slot i t e
      refine ⟨u, e2, ?_⟩
      cases t with
      | val d => exact Rp.keep hk' (fun b z => .inl (hav b z)) d q
      | own d2 =>
        refine OwnR.keep q hk' (fun b z => .inl (hav b z)) fun c ec o' eo => ?_
        subst ec
        refine hk c o' (fun z => ?_) eo
        subst z
        exact hi (r.sep j i d d2 c hj e ha e2)
      | raw _ => exact q
  · obtain ⟨x, h1⟩ := own_ix i d1 h1
    obtain ⟨y, h2⟩ := own_ix k d2 h2
    exact r.sep i k x y b h1 h2 h3 h4
  · obtain ⟨x, e1⟩ := own_ix i d1 e1
    exact r.fr i x b hi e1 e2 w
theorem step_write' (hj : ρ[j]? = some (some (.own d))) (ha : σ[j]? = some (some (.ref a))) (hk : ∀ b o, b ≠ a → H b = some o → H' b = some o) (ht : ∀ b, H b ≠ none → H' b ≠ none) : Step σ H ρ σ H' (ρ.set j (some (.own d'))) :=
  ⟨fun b o' n e => hk b o' (fun z => n (by rw [z]; exact ⟨j, d, hj, ha⟩)) e, fun b z => .inl ((ownAt_set hj b).mp z), ht⟩
end
def mCallOwn (f : FM) (j : Nat) (m : AM) : EM := fun ρ => match ρ[j]? with
  | some (some (.own _)) => m ρ >>= fun r => (match r.2[j]? with
    | some (some (.own d)) => f (.own d :: r.1.map .val) >>= fun (q : Slot × Rho) => (match (q.2 : Rho)[(0 : Nat)]? with
      | some (some (.own d')) => slotV q.1 >>= fun g => .ok (g, r.2.set j (some (.own d')))
      | _ => .err)
    | _ => .err)
  | _ => .err
section
variable {ι : Type} {Z : Cz ι} {a : Expr} {es : List Expr} {m : AM} {x y : Str} {p p' pos : Pos} {k n j : Nat} {f : Addr} {fd : FuncData} {ps : List Str} {prot : List Nat} {fm : FM}
theorem de_callOwn (G : FnOk Z.P Z.w Z.K Z.mg Z.base (L2.CX Z.P Z.w) k f fd ps (SpZ Z.K Z.mg n prot fm)) (hk : k ≤ Z.k) (hg : ∀ i, Gl (Z.F i) x) (hm : Z.mg x = some (.ref f)) (kp : PySem.W.keepIn Z.K (.ref f) = true) (hb : Binds Z.K fd ps []) (hn : es.length + 1 = n) (h0 : 0 ∈ prot)
    (hN : ∀ i, (Z.F i).N[j]? = some y) (hv : ∀ i, Vis (Z.F i).env.scope y) (ha : DA Z es m) (hd : (y == ("__debug__" : Str)) = false := by decide) (hcd : (y == ("__classdict__" : Str)) = false := by decide)
    (hdb : (x == ("__debug__" : Str)) = false := by decide) (he : ∀ i, starEach (.Name y p' :: es) (Z.F i).env = (false, eval (.Name y p') (Z.F i).env) :: starEach es (Z.F i).env := by intro _; rfl) (hpl : ∀ i, (backTo pos (starEach es (Z.F i).env)).any (·.1) = false := by intro _; rfl) (hcm : Z.cm := by exact trivial) :
    DE Z (.Call (.Name x p) (.Name y p' :: es) [] pos) (mCallOwn fm j m) := by
  obtain ⟨t, q, s⟩ := ha.ex
  refine .mk' (fun i => pe_call (fnAt G i) ((Z.room hcm i).mono hk) (hg i) (by rw [Z.hmg]; exact hm) (by rw [Z.hK]; exact kp) (by rw [Z.hK]; exact hb) .nil (pass_Z i) (pa_cons (pe_var (hN i) (hv i) hd hcd) (q i) (he i)) hdb (he i) (hpl i)) fun Wo σ H ρ Q bd rel post => ?_
  unfold mCallOwn at post
  split at post
  · rename_i d0 e0
    obtain ⟨v, e1, ow0⟩ := rel.slot j _ e0
    refine ⟨v, e1, ?_⟩
    refine s Wo σ H ρ _ bd rel (post.bind.imp' fun r em h vs H1 bd1 rel1 rp1 st1 => ?_)
    have hl := ha.len ρ r em
    split at h
    · rename_i d e2
      obtain ⟨v', e3, ow⟩ := rel1.slot j _ e2
      rw [e1] at e3
      cases e3
      obtain ⟨l, rfl, _⟩ := OwnR.ref ow
      show SpZ Z.K Z.mg n prot fm ((.ref l :: vs) ++ []) H1 Q Z.EX
      rw [List.append_nil]
      have hown : ∀ b, ownAt ((V.ref l :: vs).map some) ((Slot.own d :: r.1.map .val).map some) b → b = l := fun b ⟨i, d', q1, q2⟩ => by
        cases i with
        | zero => simp at q2; exact q2.symm
        | succ i =>
          simp at q1
      have single : ∀ {i : Nat} {d1 : PyData}, (Slot.own d :: r.1.map .val)[i]? = some (.own d1) → i = 0 := fun {i d1} z => by
        cases i with
        | zero => rfl
        | succ i => simp at z
      refine ⟨by simp [rp1.len, hl, hn], av Wo σ r.2, .own d :: r.1.map .val, fun b z => rel1.av_some z, ⟨ow, fun _ _ a ea => ?_, ArgR.vals rp1⟩, fun i d1 z => by rw [single z]; exact h0, fun i i' d1 d2 b h1 h2 _ _ => by rw [single h1, single h2], ?_⟩
      · cases ea
        exact .inr ⟨j, d, e2, e1⟩
      · have kept : ∀ {H' : Hp}, Kept ((V.ref l :: vs).map some) ((Slot.own d :: r.1.map .val).map some) H1 H' → ∀ b o, b ≠ l → H1 b = some o → H' b = some o := fun {H'} kp b o hb e => kp.keep b o (fun z => hb (hown b z)) e
        cases ef : fm (.own d :: r.1.map .val) with
        | err => rw [ef] at h; exact h.elim
        | exc c as =>
          rw [ef] at h
          exact fun cls dd H' kp ex => h cls dd H' (.of_step st1 ⟨fun b o n e => kept kp b o (fun z => n (by rw [z]; exact ⟨j, d, e2, e1⟩)) e, kp.there⟩) ex
        | ok qq =>
          obtain ⟨sl, outs⟩ := qq
          rw [ef] at h
          refine fun w H' kp rr ho => ?_
          have h : RQ Z σ H ρ (match (outs : Rho)[(0 : Nat)]? with
            | some (some (.own d')) => slotV sl >>= fun g => Res.ok (g, r.2.set j (some (.own d')))
            | _ => .err) (ge0 Z Wo σ H ρ Q) := h
          obtain ⟨d', e5, ow'⟩ := ho 0 d (.ref l) rfl rfl
          rw [e5] at h
          have rel2 := rel1.write' e2 e1 (kept kp) kp.there ow'
          have st2 : Step σ H1 r.2 σ H' (r.2.set j (some (.own d'))) := step_write' e2 e1 (kept kp) kp.there
          have wless : ∀ b, av Wo σ (r.2.set j (some (.own d'))) b → av Wo σ r.2 b := fun b z => z.imp id (ownAt_set e2 b).mp
          cases sl with
          | val g => exact RQ.ok h w H' rel2 (Rp.keep (fun _ _ _ e => e) (fun b z => .inl (wless b z)) g rr) (st1.trans st2)
          | own g =>
            cases g with
            | list ds =>
              obtain ⟨pp, rfl, hp, aa, xs, q1, q2, q3⟩ := rr
              cases q1
              exact RQ.ok h _ H' rel2 (.lst ⟨fun z => rel1.new hp (wless _ z), .inl q2⟩ (RpL.keep (fun _ _ _ e => e) (fun b z => .inl (.inl (wless b z))) ds q3)) (st1.trans st2)
            | _ => exact False.elim h
          | raw _ => exact False.elim h
    · exact h.elim
  · exact post.elim
end

/-! ### isinstance -/
def tyD : PyData → Option String
  | .none => some "NoneType"
  | .bool _ => some "bool"
  | .int _ => some "int"
  | .str _ => some "str"
  | .list _ => some "list"
  | .tuple _ => some "tuple"
  | .dict _ => some "dict"
def isTy (T : String) : PyData → Option Bool
  | .none => some (decide (T = "NoneType"))
  | .bool _ => some (decide (T = "bool" ∨ T = "int"))
  | .int _ => some (decide (T = "int"))
  | .str _ => some (decide (T = "str"))
  | .list _ => some (decide (T = "list"))
  | .tuple _ => some (decide (T = "tuple"))
  | .dict _ => none
def sIsT (T : String) (d : PyData) : Res PyData := match isTy T d with | some b => .ok (.bool b) | none => .err
theorem pu_isT (T : String) : Pure1 (sIsT T) := fun d c as => by
  unfold sIsT
  split <;> exact fun z => nomatch z
def kOk (T : String) : Bool := ["NoneType", "bool", "int", "str", "list", "tuple"].all fun t => decide (kitB t T = some (decide (T = t ∨ (t = "bool" ∧ T = "int"))))
theorem kOk_of {T t : String} (h : kOk T = true) (ht : t ∈ ["NoneType", "bool", "int", "str", "list", "tuple"]) : kitB t T = some (decide (T = t ∨ (t = "bool" ∧ T = "int"))) := by
  have := List.all_eq_true.mp h t ht
  exact of_decide_eq_true this
section
variable {ι : Type} {Z : Cz ι} {e b : Expr} {m : EM} {x : Str} {p p2 pos : Pos} {T : String}
theorem RpB.ty {K : PySem.W.Frag} {W : Wt} {H : Hp} {v : V} {d : PyData} {k : Bool} (h : RpB K W H v d) (ok : kOk T = true) (e : isTy T d = some k) : ∃ t, TyX K H v t ∧ PySem.W.kitOne K t (.type T) = some k := by
  cases d with
  | none => cases h; cases e; exact ⟨_, .base .non, kit_ty (by rw [kOk_of ok (by simp)]; simp)⟩
  | bool b => cases h; cases e; exact ⟨_, .base (.bl b), kit_ty (by rw [kOk_of ok (by simp)]; simp)⟩
  | int b => cases h; cases e; exact ⟨_, .base (.int b), kit_ty (by rw [kOk_of ok (by simp)]; simp)⟩
  | str b => cases h; cases e; exact ⟨_, .base (.str b), kit_ty (by rw [kOk_of ok (by simp)]; simp)⟩
  | list ds =>
    obtain ⟨a, xs, rfl, h1, h2⟩ := h
    cases e
    refine ⟨.type "list", ?_, kit_ty (by rw [kOk_of ok (by simp)]; simp)⟩
    rcases h1 with h1 | ⟨o, h1⟩
    · exact .base (.lst h1)
    · exact .base (.frz h1)
  | tuple ds =>
    obtain ⟨a, xs, rfl, h1, h2⟩ := Rp.tupE h
    cases e
    refine ⟨.type "tuple", ?_, kit_ty (by rw [kOk_of ok (by simp)]; simp)⟩
    rcases h1.sq with (h1 | ⟨o, h1⟩) | ⟨o, its, n, hk, hc, _⟩
    · exact .base (.tup h1)
    · exact .fTuple h1
    · exact .kTuple hk hc
  | dict _ => cases e
theorem de_isT (ok : kOk T = true) (hg : ∀ i, Gl (Z.F i) "isinstance") (hm : Z.mg "isinstance" = none) (hgT : ∀ i, Gl (Z.F i) x) (hmT : Z.mg x = none) (hvT : bootBuiltins x = some (.type T)) (ha : DB Z e m) (hnx : x ≠ "__name__" := by decide) (hdx : (x == ("__debug__" : Str)) = false := by decide)
    (he : ∀ i, starEach [e, .Name x p2] (Z.F i).env = (false, eval e (Z.F i).env) :: starEach [.Name x p2] (Z.F i).env := by intro _; rfl) (he2 : ∀ i, starEach [.Name x p2] (Z.F i).env = (false, eval (.Name x p2) (Z.F i).env) :: starEach [] (Z.F i).env := by intro _; rfl)
    (hpl : ∀ i, (backTo pos (starEach [.Name x p2] (Z.F i).env)).any (·.1) = false := by intro _; rfl) : DE Z (.Call (.Name "isinstance" p) [e, .Name x p2] [] pos) (mUn (sIsT T) m) := by
  obtain ⟨t, q, s⟩ := ha.ex
  refine .mk' (t := tCB (rIsi Z.K) (tCons t (tCons (tC (.ty T)) tNil))) (fun i => pe_callB (by rw [← Z.hK i]; exact call_isi) (hg i) (by rw [Z.hmg]; exact hm) (by decide +kernel) (pa_cons (q i) (pa_cons (pe_bltn (hgT i) (by rw [Z.hmg]; exact hmT) hvT rfl hnx hdx) pa_nil (he2 i)) (he i)) (by decide) (by decide) (he i) (hpl i)) fun Wo σ H ρ Q bd rel post => ?_
  refine s Wo σ H ρ _ rel (post.bind.imp fun r h v H1 bd1 rel1 rp1 st1 => ?_)
  obtain ⟨g, e1, e2⟩ := h.bind.pure (pu_isT T _)
  unfold sIsT at e1
  split at e1
  · rename_i k ek
    cases e1
    obtain ⟨t, h1, h2⟩ := rp1.ty ok ek
    exact ⟨v, .ty T, t, .type T, k, rfl, .ty T, h1, h2, e2.ok _ H1 rel1 (.bl _) st1⟩
  · cases e1

/-! ### list(range(..)), tuple(range(..)) -/
variable {a : Expr} {ma mb : EM}
def mRg (m : IM) : EM := fun ρ => m ρ >>= fun r => .ok (.list r.1, r.2)
def mRgT (m : IM) : EM := fun ρ => m ρ >>= fun r => .ok (.tuple r.1, r.2)
theorem rpl_rg {K : PySem.W.Frag} {W : Wt} {H : Hp} (a b : Int) : RpL K W H (rgV a b) (rgD a b) := by
  unfold rgV rgD
  generalize List.range (b - a).toNat = l
  induction l with
  | nil => exact .nil
  | cons x r ih => exact .cons (.int _) ih
theorem rgOk_of {a b : Int} (h : okRg a b = true) : RgOk a b := by
  obtain ⟨h1, h2, h3, h4, h5⟩ := okRg_of h
  refine ⟨h1, h2, h3, h4, Nat.le_trans h5 (by decide)⟩
theorem de_listRg1 {p3 q1 : Pos} (hgl : ∀ i, Gl (Z.F i) "list") (hml : Z.mg "list" = none) (hg : ∀ i, Gl (Z.F i) "range") (hm : Z.mg "range" = none) (ha : DE Z a ma) (na : ∀ i, starEach [a] (Z.F i).env = (false, eval a (Z.F i).env) :: starEach [] (Z.F i).env := by intro _; rfl)
    (nb : ∀ i, starEach [.Call (.Name "range" p3) [a] [] q1] (Z.F i).env = (false, eval (.Call (.Name "range" p3) [a] [] q1) (Z.F i).env) :: starEach [] (Z.F i).env := by intro _; rfl) (hcm : Z.cm := by exact trivial) :
    DE Z (.Call (.Name "list" p) [.Call (.Name "range" p3) [a] [] q1] [] pos) (mRg (iR1 ma)) := by
  obtain ⟨t, q, s⟩ := ha.ex
  refine .mk' (fun i => pe_listRg (Z.calm hcm i) (hgl i) (by rw [Z.hmg]; exact hml) (prg_1 (hg i) (by rw [Z.hmg]; exact hm) (q i) (na i)) (nb i)) fun Wo σ H ρ Q bd rel post => ?_
  refine s Wo σ H ρ _ rel (post.bind.bind.imp fun r h v H1 bd1 rel1 rp1 st1 => ?_)
  obtain ⟨d, ρ1⟩ := r
  cases d with
  | int n =>
    by_cases ok : okRg 0 n = true
    · have h : RQ Z σ H ρ (if okRg 0 n then Res.ok (rgD 0 n, ρ1) else .err) _ := h
      rw [if_pos ok] at h
      cases rp1
      refine ⟨n, rfl, rgOk_of ok, fun q hq => ?_⟩
      exact (RQ.ok h).ok _ _ (rel1.same (same_upd hq)) (.lstN (fun b z => rel1.av_some z) hq (rpl_rg 0 n)) (st1.trans (Same.step (same_upd hq)))
    · have h : RQ Z σ H ρ (if okRg 0 n then Res.ok (rgD 0 n, ρ1) else .err) _ := h
      rw [if_neg ok] at h
      exact h.elim
  | _ => exact False.elim h
theorem de_tupRg1 {p3 q1 : Pos} (hgl : ∀ i, Gl (Z.F i) "tuple") (hml : Z.mg "tuple" = none) (hg : ∀ i, Gl (Z.F i) "range") (hm : Z.mg "range" = none) (ha : DE Z a ma) (na : ∀ i, starEach [a] (Z.F i).env = (false, eval a (Z.F i).env) :: starEach [] (Z.F i).env := by intro _; rfl)
    (nb : ∀ i, starEach [.Call (.Name "range" p3) [a] [] q1] (Z.F i).env = (false, eval (.Call (.Name "range" p3) [a] [] q1) (Z.F i).env) :: starEach [] (Z.F i).env := by intro _; rfl) (hcm : Z.cm := by exact trivial) :
    DE Z (.Call (.Name "tuple" p) [.Call (.Name "range" p3) [a] [] q1] [] pos) (mRgT (iR1 ma)) := by
  obtain ⟨t, q, s⟩ := ha.ex
  refine .mk' (fun i => pe_tupRg (Z.calm hcm i) (hgl i) (by rw [Z.hmg]; exact hml) (prg_1 (hg i) (by rw [Z.hmg]; exact hm) (q i) (na i)) (nb i)) fun Wo σ H ρ Q bd rel post => ?_
  refine s Wo σ H ρ _ rel (post.bind.bind.imp fun r h v H1 bd1 rel1 rp1 st1 => ?_)
  obtain ⟨d, ρ1⟩ := r
  cases d with
  | int n =>
    by_cases ok : okRg 0 n = true
    · have h : RQ Z σ H ρ (if okRg 0 n then Res.ok (rgD 0 n, ρ1) else .err) _ := h
      rw [if_pos ok] at h
      cases rp1
      refine ⟨n, rfl, rgOk_of ok, fun q hq => ?_⟩
      exact (RQ.ok h).ok _ _ (rel1.same (same_upd hq)) (.tupN (fun b z => rel1.av_some z) hq (rpl_rg 0 n)) (st1.trans (Same.step (same_upd hq)))
    · have h : RQ Z σ H ρ (if okRg 0 n then Res.ok (rgD 0 n, ρ1) else .err) _ := h
      rw [if_neg ok] at h
      exact h.elim
  | _ => exact False.elim h
end
end ZZ

/-! Z11: order of data; sorted -/
namespace ZZ
open PySem PySem.Spec PyProof.Rows L2

def rk : PyData → Nat
  | .none => 0 | .bool _ => 1 | .int _ => 2 | .str _ => 3 | .list _ => 4 | .tuple _ => 5 | .dict _ => 6
def cmpB (a b : Bool) : Ordering := if a then .lt else if b then .gt else .eq
mutual
def pcmp : PyData → PyData → Ordering
  | .int i, y => match y with | .int j => cmpB (decide (i < j)) (decide (j < i)) | y => cmpB (decide (2 < rk y)) (decide (rk y < 2))
  | .str x, y => match y with | .str z => cmpB (decide (x.cps.toList < z.cps.toList)) (decide (z.cps.toList < x.cps.toList)) | y => cmpB (decide (3 < rk y)) (decide (rk y < 3))
  | .tuple xs, y => match y with | .tuple ys => pcmpL xs ys | y => cmpB (decide (5 < rk y)) (decide (rk y < 5))
  | .none, y => cmpB (decide (0 < rk y)) (decide (rk y < 0))
  | .bool _, y => cmpB (decide (1 < rk y)) (decide (rk y < 1))
  | .list _, y => cmpB (decide (4 < rk y)) (decide (rk y < 4))
  | .dict _, y => cmpB (decide (6 < rk y)) (decide (rk y < 6))
def pcmpL : List PyData → List PyData → Ordering
  | [], ys => match ys with | [] => .eq | _ => .lt
  | x :: xs, ys => match ys with
    | [] => .gt
    | y :: ys => (pcmp x y).then (pcmpL xs ys)
end
theorem cmpB_swap (a b : Bool) (h : ¬ (a = true ∧ b = true)) : cmpB b a = (cmpB a b).swap := by
  cases a <;> cases b <;> first | rfl | exact absurd ⟨rfl, rfl⟩ h
theorem cmpB_swapN (a b : Nat) : cmpB (decide (b < a)) (decide (a < b)) = (cmpB (decide (a < b)) (decide (b < a))).swap := cmpB_swap _ _ (by simp; omega)
theorem cmpB_eqN {a b : Nat} (h : cmpB (decide (a < b)) (decide (b < a)) = .eq) : a = b := by
  unfold cmpB at h
  split at h
  · cases h
  · split at h
    · cases h
    · simp at *; omega
theorem cmpB_ltN {a b : Nat} : cmpB (decide (a < b)) (decide (b < a)) = .lt ↔ a < b := by
  unfold cmpB
  split
  · simp at *; assumption
  · split <;> simp at * <;> omega
theorem nl_asym {a b : List Nat} (h : a < b) : ¬ b < a := fun k => List.lt_irrefl a (List.lt_trans h k)
theorem nl_eq {a b : List Nat} (h : ¬ a < b) (k : ¬ b < a) : a = b := List.le_antisymm (List.not_lt.mp k) (List.not_lt.mp h)
/-- unlike kinds: by rank -/
theorem pcmp_rk (x y : PyData) (h : rk x ≠ rk y ∨ (rk x ≠ 2 ∧ rk x ≠ 3 ∧ rk x ≠ 5)) : pcmp x y = cmpB (decide (rk x < rk y)) (decide (rk y < rk x)) := by
  cases x <;> cases y <;> first | rfl | (simp [rk] at h; done)
mutual
theorem pcmp_swap : ∀ x y : PyData, pcmp y x = (pcmp x y).swap
  | .tuple xs, y => by
    cases y with
    | tuple ys => exact pcmpL_swap xs ys
    | _ => rw [pcmp_rk _ _ (by simp [rk]), pcmp_rk _ _ (by simp [rk])]; exact cmpB_swapN _ _
  | .int i, y => by
    cases y with
    | int j => exact cmpB_swap _ _ (by simp; omega)
    | _ => rw [pcmp_rk _ _ (by simp [rk]), pcmp_rk _ _ (by simp [rk])]; exact cmpB_swapN _ _
  | .str x, y => by
    cases y with
    | str z => exact cmpB_swap _ _ (by simp only [decide_eq_true_eq]; exact fun h => nl_asym h.1 h.2)
    | _ => rw [pcmp_rk _ _ (by simp [rk]), pcmp_rk _ _ (by simp [rk])]; exact cmpB_swapN _ _
  | .none, y => by
    cases y <;> first | rfl | (rw [pcmp_rk _ _ (by simp [rk]), pcmp_rk _ _ (by simp [rk])]; exact cmpB_swapN _ _)
  | .bool _, y => by
    cases y <;> first | rfl | (rw [pcmp_rk _ _ (by simp [rk]), pcmp_rk _ _ (by simp [rk])]; exact cmpB_swapN _ _)
  | .list _, y => by
    cases y <;> first | rfl | (rw [pcmp_rk _ _ (by simp [rk]), pcmp_rk _ _ (by simp [rk])]; exact cmpB_swapN _ _)
  | .dict _, y => by
    cases y <;> first | rfl | (rw [pcmp_rk _ _ (by simp [rk]), pcmp_rk _ _ (by simp [rk])]; exact cmpB_swapN _ _)
theorem pcmpL_swap : ∀ xs ys : List PyData, pcmpL ys xs = (pcmpL xs ys).swap
  | [], ys => by cases ys <;> rfl
  | x :: xs, ys => by
    cases ys with
    | nil => rfl
    | cons y ys =>
      show (pcmp y x).then (pcmpL ys xs) = ((pcmp x y).then (pcmpL xs ys)).swap
      rw [pcmp_swap x y, pcmpL_swap xs ys]
      cases pcmp x y <;> rfl
end
/-- of equal rank -/
theorem pcmp_eq_rk {x y : PyData} (h : pcmp x y = .eq) : rk x = rk y := by
  by_cases e : rk x = rk y
  · exact e
  · rw [pcmp_rk x y (.inl e)] at h
    exact cmpB_eqN h
theorem pcmp_eqS {x y z : PyData} (hx : rk x ≠ 2 ∧ rk x ≠ 3 ∧ rk x ≠ 5) (h : pcmp x y = .eq) : pcmp x z = pcmp y z := by
  have e := pcmp_eq_rk h
  rw [pcmp_rk x z (.inr hx), pcmp_rk y z (.inr (by rw [← e]; exact hx)), e]
theorem pcmp_eqR {x y z : PyData} (h : pcmp x y = .eq) (hz : rk z ≠ rk x) : pcmp x z = pcmp y z := by
  have e := pcmp_eq_rk h
  rw [pcmp_rk x z (.inl (Ne.symm hz)), pcmp_rk y z (.inl (by rw [← e]; exact Ne.symm hz)), e]
mutual
theorem pcmp_eqL : ∀ x y z : PyData, pcmp x y = .eq → pcmp x z = pcmp y z
  | .tuple xs, y, z, h => by
    cases y with
    | tuple ys =>
      cases z with
      | tuple zs => exact pcmpL_eqL xs ys zs h
      | _ => exact pcmp_eqR h (by simp [rk])
    | _ => exact absurd (pcmp_eq_rk h) (by simp [rk])
  | .int i, y, z, h => by
    cases y with
    | int j =>
      have e : i = j := by
        have h : cmpB (decide (i < j)) (decide (j < i)) = .eq := h
        unfold cmpB at h
        split at h
        · cases h
        · split at h
          · cases h
          · simp at *; omega
      rw [e]
    | _ => exact absurd (pcmp_eq_rk h) (by simp [rk])
  | .str i, y, z, h => by
    cases y with
    | str j =>
      have e : i.cps.toList = j.cps.toList := by
        have h : cmpB (decide (i.cps.toList < j.cps.toList)) (decide (j.cps.toList < i.cps.toList)) = .eq := h
        unfold cmpB at h
        split at h
        · cases h
        · split at h
          · cases h
          · rename_i h1 h2
            simp only [decide_eq_true_eq] at h1 h2
            exact nl_eq h1 h2
      cases z with
      | str l => show cmpB _ _ = cmpB _ _; rw [e]
      | _ => exact pcmp_eqR h (by simp [rk])
    | _ => exact absurd (pcmp_eq_rk h) (by simp [rk])
  | .none, y, z, h => pcmp_eqS (by simp [rk]) h
  | .bool _, y, z, h => pcmp_eqS (by simp [rk]) h
  | .list _, y, z, h => pcmp_eqS (by simp [rk]) h
  | .dict _, y, z, h => pcmp_eqS (by simp [rk]) h
theorem pcmpL_eqL : ∀ xs ys zs : List PyData, pcmpL xs ys = .eq → pcmpL xs zs = pcmpL ys zs
  | [], ys, zs, h => by
    cases ys with
    | nil => rfl
    | cons y ys => cases h
  | x :: xs, ys, zs, h => by
    cases ys with
    | nil => cases h
    | cons y ys =>
      have h : (pcmp x y).then (pcmpL xs ys) = .eq := h
      cases e : pcmp x y with
      | eq =>
        rw [e] at h
        cases zs with
        | nil => rfl
        | cons z zs =>
          show (pcmp x z).then (pcmpL xs zs) = (pcmp y z).then (pcmpL ys zs)
          rw [pcmp_eqL x y z e, pcmpL_eqL xs ys zs h]
      | lt => rw [e] at h; cases h
      | gt => rw [e] at h; cases h
end
theorem pcmp_eq2 {x y z : PyData} (h : pcmp y z = .eq) : pcmp x z = pcmp x y := by
  have e : pcmp z y = .eq := by rw [pcmp_swap y z, h]; rfl
  rw [pcmp_swap z x, pcmp_swap y x, pcmp_eqL z y x e]
mutual
theorem pcmp_lt : ∀ x y z : PyData, pcmp x y = .lt → pcmp y z = .lt → pcmp x z = .lt
  | .tuple xs, y, z, h, k => by
    by_cases e : rk y = 5 ∧ rk z = 5
    · cases y <;> first | (simp [rk] at e; done) | skip
      cases z <;> first | (simp [rk] at e; done) | skip
      exact pcmpL_lt xs _ _ h k
    · exact pcmp_ltR h k (fun q => e ⟨by rw [← q.1]; rfl, by rw [← q.2, ← q.1]; rfl⟩)
  | .int i, y, z, h, k => by
    by_cases e : rk y = 2 ∧ rk z = 2
    · cases y <;> first | (simp [rk] at e; done) | skip
      cases z <;> first | (simp [rk] at e; done) | skip
      rename_i j l
      have h : cmpB (decide (i < j)) (decide (j < i)) = .lt := h
      have k : cmpB (decide (j < l)) (decide (l < j)) = .lt := k
      show cmpB (decide (i < l)) (decide (l < i)) = .lt
      have h1 : i < j := by
        unfold cmpB at h
        split at h
        · simp at *; assumption
        · split at h <;> cases h
      have h2 : j < l := by
        unfold cmpB at k
        split at k
        · simp at *; assumption
        · split at k <;> cases k
      unfold cmpB
      rw [if_pos (by simp; omega)]
    · exact pcmp_ltR h k (fun q => e ⟨by rw [← q.1]; rfl, by rw [← q.2, ← q.1]; rfl⟩)
  | .str i, y, z, h, k => by
    by_cases e : rk y = 3 ∧ rk z = 3
    · cases y <;> first | (simp [rk] at e; done) | skip
      cases z <;> first | (simp [rk] at e; done) | skip
      rename_i j l
      have h : cmpB (decide (i.cps.toList < j.cps.toList)) (decide (j.cps.toList < i.cps.toList)) = .lt := h
      have k : cmpB (decide (j.cps.toList < l.cps.toList)) (decide (l.cps.toList < j.cps.toList)) = .lt := k
      show cmpB (decide (i.cps.toList < l.cps.toList)) (decide (l.cps.toList < i.cps.toList)) = .lt
      have h1 : i.cps.toList < j.cps.toList := by
        unfold cmpB at h
        split at h
        · rename_i q; exact of_decide_eq_true q
        · split at h <;> cases h
      have h2 : j.cps.toList < l.cps.toList := by
        unfold cmpB at k
        split at k
        · rename_i q; exact of_decide_eq_true q
        · split at k <;> cases k
      unfold cmpB
      rw [if_pos (decide_eq_true (List.lt_trans h1 h2))]
    · exact pcmp_ltR h k (fun q => e ⟨by rw [← q.1]; rfl, by rw [← q.2, ← q.1]; rfl⟩)
  | .none, y, z, h, k => pcmp_ltS (by simp [rk]) h k
  | .bool _, y, z, h, k => pcmp_ltS (by simp [rk]) h k
  | .list _, y, z, h, k => pcmp_ltS (by simp [rk]) h k
  | .dict _, y, z, h, k => pcmp_ltS (by simp [rk]) h k
theorem pcmpL_lt : ∀ xs ys zs : List PyData, pcmpL xs ys = .lt → pcmpL ys zs = .lt → pcmpL xs zs = .lt
  | [], ys, zs, h, k => by
    cases ys with
    | nil => cases h
    | cons y ys =>
      cases zs with
      | nil => cases k
      | cons z zs => rfl
  | x :: xs, ys, zs, h, k => by
    cases ys with
    | nil => cases h
    | cons y ys =>
      cases zs with
      | nil => cases k
      | cons z zs =>
        have h : (pcmp x y).then (pcmpL xs ys) = .lt := h
        have k : (pcmp y z).then (pcmpL ys zs) = .lt := k
        show (pcmp x z).then (pcmpL xs zs) = .lt
        cases e1 : pcmp x y with
        | gt => rw [e1] at h; cases h
        | lt =>
          cases e2 : pcmp y z with
          | gt => rw [e2] at k; cases k
          | lt => rw [pcmp_lt x y z e1 e2]; rfl
          | eq => rw [pcmp_eq2 e2, e1]; rfl
        | eq =>
          rw [e1] at h
          cases e2 : pcmp y z with
          | gt => rw [e2] at k; cases k
          | lt => rw [pcmp_eqL x y z e1, e2]; rfl
          | eq => rw [e2] at k; rw [pcmp_eqL x y z e1, e2]; exact pcmpL_lt xs ys zs h k
theorem pcmp_ltS {x y z : PyData} (hx : rk x ≠ 2 ∧ rk x ≠ 3 ∧ rk x ≠ 5) (h : pcmp x y = .lt) (k : pcmp y z = .lt) : pcmp x z = .lt := by
  rw [pcmp_rk x y (.inr hx)] at h
  have h := cmpB_ltN.mp h
  rw [pcmp_rk x z (.inr hx)]
  refine cmpB_ltN.mpr ?_
  by_cases e : rk y = rk z
  · omega
  · rw [pcmp_rk y z (.inl e)] at k
    have := cmpB_ltN.mp k
    omega
theorem pcmp_ltR {x y z : PyData} (h : pcmp x y = .lt) (k : pcmp y z = .lt) (n : ¬ (rk x = rk y ∧ rk y = rk z)) : pcmp x z = .lt := by
  have h1 : rk x ≤ rk y := by
    by_cases e : rk x = rk y
    · omega
    · rw [pcmp_rk x y (.inl e)] at h
      have := cmpB_ltN.mp h
      omega
  have h2 : rk y ≤ rk z := by
    by_cases e : rk y = rk z
    · omega
    · rw [pcmp_rk y z (.inl e)] at k
      have := cmpB_ltN.mp k
      omega
  rw [pcmp_rk x z (.inl (by omega))]
  exact cmpB_ltN.mpr (by omega)
end
def plt (x y : PyData) : Bool := pcmp x y == .lt
theorem plt_lt {x y : PyData} : plt x y = true ↔ pcmp x y = .lt := by simp [plt]
theorem plt_nlt {x y : PyData} : plt x y = false ↔ pcmp x y ≠ .lt := by simp [plt]
theorem plt_swo {α : Type} (f : α → PyData) : SrtO.Swo (fun a b => plt (f a) (f b)) where
  asym := fun x y h => by
    have h := plt_lt.mp h
    refine plt_nlt.mpr ?_
    rw [pcmp_swap, h]
    exact fun z => nomatch z
  tr := fun x y z h k => by
    have h := plt_nlt.mp h
    have k := plt_nlt.mp k
    refine plt_nlt.mpr fun q => ?_
    -- z < x, not y < x, not z < y
    cases e1 : pcmp (f x) (f y) with
    | gt => exact h (by rw [pcmp_swap, e1]; rfl)
    | lt => exact k (pcmp_lt _ _ _ q e1)
    | eq => exact k (by rw [← pcmp_eq2 (x := f z) e1] at q; exact q)
end ZZ

/-! Z12: sorted -/
namespace ZZ
open PySem PySem.Spec PyProof.Rows L2 Ob

/-! ### insertion, stable -/
def insP (x : PyData) : List PyData → List PyData
  | [] => [x]
  | y :: ys => if plt y x then y :: insP x ys else x :: y :: ys
def psort : List PyData → List PyData
  | [] => []
  | x :: xs => insP x (psort xs)
theorem insP_perm (x : PyData) : ∀ l, (insP x l).Perm (x :: l)
  | [] => .refl _
  | y :: ys => by
    unfold insP
    split
    · exact ((insP_perm x ys).cons y).trans (.swap x y ys)
    · exact .refl _
theorem psort_perm : ∀ l, (psort l).Perm l
  | [] => .refl _
  | x :: xs => (insP_perm x _).trans ((psort_perm xs).cons x)
theorem insP_srtd (x : PyData) : ∀ l, SrtO.Srtd plt l → SrtO.Srtd plt (insP x l)
  | [], _ => SrtO.srtd_one x
  | y :: ys, h => by
    have O := plt_swo (fun d : PyData => d)
    unfold insP
    obtain ⟨h1, h2⟩ := List.pairwise_cons.mp h
    split
    · rename_i q
      refine List.pairwise_cons.mpr ⟨fun z hz => ?_, insP_srtd x ys h2⟩
      rcases List.mem_cons.mp ((insP_perm x ys).mem_iff.mp hz) with e | hz
      · rw [e]; exact O.asym y x q
      · exact h1 z hz
    · rename_i q
      have q : plt y x = false := by simpa using q
      refine List.pairwise_cons.mpr ⟨fun z hz => ?_, h⟩
      rcases List.mem_cons.mp hz with e | hz
      · rw [e]; exact q
      · exact O.tr x y z q (h1 z hz)
theorem psort_srtd : ∀ l, SrtO.Srtd plt (psort l)
  | [] => List.Pairwise.nil
  | x :: xs => insP_srtd x _ (psort_srtd xs)
theorem insP_cls (x z : PyData) : ∀ l, (insP x l).filter (SrtO.eqv plt z) = (x :: l).filter (SrtO.eqv plt z)
  | [] => rfl
  | y :: ys => by
    have O := plt_swo (fun d : PyData => d)
    unfold insP
    split
    · rename_i q
      have ih := insP_cls x z ys
      rw [List.filter_cons, ih]
      cases ex : SrtO.eqv plt z x with
      | true =>
        have ny : SrtO.eqv plt z y = false := by
          cases ey : SrtO.eqv plt z y with
          | false => rfl
          | true =>
            have hx := SrtO.eqv_iff.mp ex
            have hy := SrtO.eqv_iff.mp ey
            have := O.tr x z y (by exact hx.1) (by exact hy.2)
            rw [q] at this
            cases this
        simp [List.filter_cons, ex, ny]
      | false => simp [List.filter_cons, ex]
    · rfl
theorem psort_stb : ∀ l, SrtO.Stb plt (psort l) l
  | [] => .refl _
  | x :: xs => ⟨psort_perm _, fun z => by
    show (insP x (psort xs)).filter _ = _
    rw [insP_cls, List.filter_cons, List.filter_cons, (psort_stb xs).cls z]⟩

/-! ### data that is ordered: ints, texts, tuples of such -/
mutual
def cmpb : PyData → PyData → Bool
  | .int _, y => match y with | .int _ => true | _ => false
  | .str _, y => match y with | .str _ => true | _ => false
  | .tuple xs, y => match y with | .tuple ys => cmpbL xs ys | _ => false
  | _, _ => false
def cmpbL : List PyData → List PyData → Bool
  | [], _ => true
  | x :: xs, ys => match ys with
    | [] => true
    | y :: ys => cmpb x y && cmpbL xs ys
end
theorem str_ext {x y : Str} (h : x.cps.toList = y.cps.toList) : x = y := by
  cases x with
  | mk a => cases y with
    | mk b =>
      have h : a.toList = b.toList := h
      rw [Array.toList_inj.mp h]
theorem cmpB_eq {a b : Bool} (h : cmpB a b = .eq) : a = false ∧ b = false := by
  cases a <;> cases b <;> first | exact ⟨rfl, rfl⟩ | cases h
theorem cmpB_lt {a b : Bool} : cmpB a b = .lt ↔ a = true := by
  cases a <;> cases b <;> simp [cmpB]
mutual
theorem eqv_cmp : ∀ x y : PyData, cmpb x y = true → (PyData.eqv x y = true ↔ pcmp x y = .eq)
  | .int i, y, h => by
    cases y with
    | int j =>
      show (i == j) = true ↔ cmpB (decide (i < j)) (decide (j < i)) = .eq
      constructor
      · intro e
        have e : i = j := by simpa using e
        subst e
        simp [cmpB]
      · intro e
        obtain ⟨h1, h2⟩ := cmpB_eq e
        have h1 := of_decide_eq_false h1
        have h2 := of_decide_eq_false h2
        simp; omega
    | _ => cases h
  | .str i, y, h => by
    cases y with
    | str j =>
      show (i == j) = true ↔ cmpB (decide (i.cps.toList < j.cps.toList)) (decide (j.cps.toList < i.cps.toList)) = .eq
      constructor
      · intro e
        have e : i = j := by simpa using e
        subst e
        have : ¬ i.cps.toList < i.cps.toList := List.lt_irrefl _
        unfold cmpB
        rw [if_neg (by simpa using this), if_neg (by simpa using this)]
      · intro e
        obtain ⟨h1, h2⟩ := cmpB_eq e
        have := str_ext (nl_eq (of_decide_eq_false h1) (of_decide_eq_false h2))
        simp [this]
    | _ => cases h
  | .tuple xs, y, h => by
    cases y with
    | tuple ys => exact eqvL_cmp xs ys h
    | _ => cases h
  | .none, _, h => by cases h
  | .bool _, _, h => by cases h
  | .list _, _, h => by cases h
  | .dict _, _, h => by cases h
theorem eqvL_cmp : ∀ xs ys : List PyData, cmpbL xs ys = true → (PyData.eqvAll xs ys = true ↔ pcmpL xs ys = .eq)
  | [], ys, h => by
    cases ys with
    | nil => exact ⟨fun _ => rfl, fun _ => rfl⟩
    | cons y ys => exact ⟨(fun z => nomatch z), (fun z => nomatch z)⟩
  | x :: xs, ys, h => by
    cases ys with
    | nil => exact ⟨(fun z => nomatch z), (fun z => nomatch z)⟩
    | cons y ys =>
      have h : (cmpb x y && cmpbL xs ys) = true := h
      simp only [Bool.and_eq_true] at h
      show (PyData.eqv x y && PyData.eqvAll xs ys) = true ↔ (pcmp x y).then (pcmpL xs ys) = .eq
      rw [Bool.and_eq_true, eqv_cmp x y h.1, eqvL_cmp xs ys h.2]
      cases pcmp x y <;> simp [Ordering.then]
end
/-- the first unlike pair decides -/
theorem pcmpL_cons {x y : PyData} {xs ys : List PyData} (h : cmpb x y = true) : (pcmpL (x :: xs) (y :: ys) == .lt) = if PyData.eqv x y = true then (pcmpL xs ys == .lt) else plt x y := by
  show ((pcmp x y).then (pcmpL xs ys) == .lt) = _
  by_cases e : pcmp x y = .eq
  · rw [if_pos ((eqv_cmp x y h).mpr e), e]
    rfl
  · rw [if_neg (fun z => e ((eqv_cmp x y h).mp z))]
    unfold plt
    cases q : pcmp x y <;> first | rfl | exact absurd q e

/-! ### at the machine -/
mutual
def MR (h : Heap) : PyData → Value → Prop
  | .int i, u => ∃ t, u = .int i t
  | .str x, u => ∃ t, u = .str x t
  | .tuple ds, u => ∃ (a : Addr) (its : List Value), u = .ref a ∧ IsTup h a its.toArray ∧ MRL h ds its
  | _, _ => False
def MRL (h : Heap) : List PyData → List Value → Prop
  | [], us => us = []
  | d :: ds, us => ∃ u r, us = u :: r ∧ MR h d u ∧ MRL h ds r
end
mutual
theorem MR.reads {h : Heap} : ∀ (d : PyData) {u : Value}, MR h d u → ∃ as, Reads h u d as
  | .int i, u, m => by obtain ⟨t, rfl⟩ := m; exact ⟨_, .int i t⟩
  | .str x, u, m => by obtain ⟨t, rfl⟩ := m; exact ⟨_, .str x t⟩
  | .tuple ds, u, m => by
    obtain ⟨a, its, rfl, ⟨o, ho, hc, n, hd⟩, r⟩ := m
    obtain ⟨as, q⟩ := MRL.reads ds r
    exact ⟨_, .tuple ho hc hd (by simpa using q)⟩
  | .none, _, m => m.elim
  | .bool _, _, m => m.elim
  | .list _, _, m => m.elim
  | .dict _, _, m => m.elim
theorem MRL.reads {h : Heap} : ∀ (ds : List PyData) {us : List Value}, MRL h ds us → ∃ as, ReadsAll h us ds as
  | [], us, m => by
    have m : us = [] := m
    subst m
    exact ⟨_, .nil⟩
  | d :: ds, us, m => by
    obtain ⟨u, r, rfl, m1, m2⟩ := m
    obtain ⟨as, q1⟩ := MR.reads d m1
    obtain ⟨bs, q2⟩ := MRL.reads ds m2
    exact ⟨_, .cons q1 q2⟩
end
mutual
theorem MR.keep {h h' : Heap} (k : ∀ b o, h.get? b = some o → o.cls = .type "tuple" → h'.get? b = some o) : ∀ (d : PyData) {u : Value}, MR h d u → MR h' d u
  | .int i, u, m => m
  | .str x, u, m => m
  | .tuple ds, u, m => by
    obtain ⟨a, its, rfl, ⟨o, ho, hc, q⟩, r⟩ := m
    exact ⟨a, its, rfl, ⟨o, k a o ho hc, hc, q⟩, MRL.keep k ds r⟩
  | .none, _, m => m
  | .bool _, _, m => m
  | .list _, _, m => m
  | .dict _, _, m => m
theorem MRL.keep {h h' : Heap} (k : ∀ b o, h.get? b = some o → o.cls = .type "tuple" → h'.get? b = some o) : ∀ (ds : List PyData) {us : List Value}, MRL h ds us → MRL h' ds us
  | [], us, m => m
  | d :: ds, us, m => by
    obtain ⟨u, r, e, m1, m2⟩ := m
    exact ⟨u, r, e, MR.keep k d m1, MRL.keep k ds m2⟩
end
mutual
theorem MR.inj {h : Heap} : ∀ (d e : PyData) {u : Value}, MR h d u → MR h e u → d = e
  | .int i, e, u, m, m' => by
    obtain ⟨t, rfl⟩ := m
    cases e with
    | int j => obtain ⟨_, q⟩ := m'; cases q; rfl
    | str _ => obtain ⟨_, q⟩ := m'; cases q
    | tuple _ => obtain ⟨_, _, q, _⟩ := m'; cases q
    | _ => exact m'.elim
  | .str i, e, u, m, m' => by
    obtain ⟨t, rfl⟩ := m
    cases e with
    | str j => obtain ⟨_, q⟩ := m'; cases q; rfl
    | int _ => obtain ⟨_, q⟩ := m'; cases q
    | tuple _ => obtain ⟨_, _, q, _⟩ := m'; cases q
    | _ => exact m'.elim
  | .tuple ds, e, u, m, m' => by
    obtain ⟨a, its, rfl, ⟨o, ho, hc, n, hd⟩, r⟩ := m
    cases e with
    | tuple es =>
      obtain ⟨a', its', q, ⟨o', ho', hc', n', hd'⟩, r'⟩ := m'
      cases q
      rw [ho] at ho'
      cases ho'
      rw [hd] at hd'
      injection hd' with e1 _
      have : its = its' := by simpa using congrArg Array.toList e1
      subst this
      rw [MRL.inj ds es r r']
    | int _ => obtain ⟨_, q⟩ := m'; cases q
    | str _ => obtain ⟨_, q⟩ := m'; cases q
    | _ => exact m'.elim
  | .none, _, _, m, _ => m.elim
  | .bool _, _, _, m, _ => m.elim
  | .list _, _, _, m, _ => m.elim
  | .dict _, _, _, m, _ => m.elim
theorem MRL.inj {h : Heap} : ∀ (ds es : List PyData) {us : List Value}, MRL h ds us → MRL h es us → ds = es
  | [], es, us, m, m' => by
    have m : us = [] := m
    subst m
    cases es with
    | nil => rfl
    | cons e es => obtain ⟨_, _, q, _⟩ := m'; cases q
  | d :: ds, es, us, m, m' => by
    obtain ⟨u, r, rfl, m1, m2⟩ := m
    cases es with
    | nil => have m' : u :: r = [] := m'; cases m'
    | cons e es =>
      obtain ⟨u', r', q, n1, n2⟩ := m'
      cases q
      rw [MR.inj d e m1 n1, MRL.inj ds es m2 n2]
end
theorem MRL.len {h : Heap} : ∀ {ds : List PyData} {us : List Value}, MRL h ds us → us.length = ds.length
  | [], us, m => by have m : us = [] := m; rw [m]; rfl
  | d :: ds, us, m => by obtain ⟨u, r, rfl, _, m2⟩ := m; simp [MRL.len m2]
/-- lexAt is the order of the rows -/
theorem lexAt_pcmp (e r : Nat → Bool) : ∀ (xs ys : List PyData) (i : Nat) (z : Bool), cmpbL xs ys = true → z = decide (xs.length < ys.length) → (∀ j x y, xs[j]? = some x → ys[j]? = some y → e (i + j) = PyData.eqv x y ∧ (e (i + j) = false → r (i + j) = plt x y)) →
    lexAt e r z i (min xs.length ys.length) = (pcmpL xs ys == .lt)
  | [], ys, i, z, _, hz, _ => by
    subst hz
    cases ys with
    | nil => simp [lexAt_zero]; first | rfl | exact (fun z => nomatch z)
    | cons y ys => simp [lexAt_zero]; first | rfl | exact (fun z => nomatch z)
  | x :: xs, ys, i, z, hc, hz, h => by
    subst hz
    cases ys with
    | nil => simp [lexAt_zero]; first | rfl | exact (fun z => nomatch z)
    | cons y ys =>
      have hc : (cmpb x y && cmpbL xs ys) = true := hc
      simp only [Bool.and_eq_true] at hc
      obtain ⟨h1, h2⟩ := h 0 x y rfl rfl
      rw [Nat.add_zero] at h1 h2
      rw [List.length_cons, List.length_cons, Nat.succ_min_succ, lexAt_succ, pcmpL_cons hc.1, h1]
      split
      · refine lexAt_pcmp e r xs ys (i + 1) _ hc.2 (by simp) fun j a b ea eb => ?_
        have q := h (j + 1) a b (by simpa using ea) (by simpa using eb)
        rw [show i + 1 + j = i + (j + 1) by omega]
        exact q
      · rename_i q
        exact h2 (by rw [h1]; simpa using q)
theorem MRL.get {h : Heap} : ∀ {ds : List PyData} {us : List Value} {j : Nat} {d : PyData}, MRL h ds us → ds[j]? = some d → ∃ u, us[j]? = some u ∧ MR h d u
  | [], _, j, d, _, e => by simp at e
  | x :: ds, us, 0, d, m, e => by
    obtain ⟨u, r, rfl, m1, _⟩ := m
    simp at e
    subst e
    exact ⟨u, rfl, m1⟩
  | x :: ds, us, j + 1, d, m, e => by
    obtain ⟨u, r, rfl, _, m2⟩ := m
    obtain ⟨v, e1, e2⟩ := MRL.get (j := j) m2 (by simpa using e)
    exact ⟨v, by simpa using e1, e2⟩
theorem canLay_mem {ds : List PyData} (h : PyData.canLayAll0 ds = true) : ∀ {j : Nat} {d : PyData}, ds[j]? = some d → d.canLay0 = true := by
  induction ds with
  | nil => intro j d e; simp at e
  | cons x r ih =>
    intro j d e
    have h' : x.canLay0 = true ∧ PyData.canLayAll0 r = true := by simpa [PyData.canLayAll0] using h
    cases j with
    | zero => simp at e; subst e; exact h'.1
    | succ j => exact ih h'.2 (by simpa using e)
theorem depth_mem {ds : List PyData} : ∀ {j : Nat} {d : PyData}, ds[j]? = some d → d.depth ≤ PyData.depthAll ds := by
  induction ds with
  | nil => intro j d e; simp at e
  | cons x r ih =>
    intro j d e
    show d.depth ≤ max x.depth (PyData.depthAll r)
    cases j with
    | zero => simp at e; subst e; omega
    | succ j => have := ih (by simpa using e : r[j]? = some d); omega
theorem cmpb_mem {xs ys : List PyData} (h : cmpbL xs ys = true) : ∀ {j : Nat} {x y : PyData}, xs[j]? = some x → ys[j]? = some y → cmpb x y = true := by
  induction xs generalizing ys with
  | nil => intro j x y e; simp at e
  | cons a r ih =>
    intro j x y e1 e2
    cases ys with
    | nil => simp at e2
    | cons b s =>
      have h : (cmpb a b && cmpbL r s) = true := h
      simp only [Bool.and_eq_true] at h
      cases j with
      | zero => simp at e1 e2; subst e1 e2; exact h.1
      | succ j => exact ih h.2 (by simpa using e1) (by simpa using e2)
theorem ltR {s : Shared} : ∀ (n : Nat) (d e : PyData) (A : Around) (u v : Value), d.depth ≤ n → MR s.heap d u → MR s.heap e v → cmpb d e = true → d.canLay0 = true → e.canLay0 = true → A.units + n < cLine → RcOp .Lt A s u v (plt d e)
  | n, .int i, e, A, u, v, _, m, m', hc, _, _, _ => by
    cases e with
    | int j =>
      obtain ⟨t, rfl⟩ := m
      obtain ⟨t', rfl⟩ := m'
      have q := RcOp.lt_int (A := A) (s := s) i j t t'
      rw [show plt (.int i) (.int j) = decide (i < j) by
        unfold plt
        show (cmpB (decide (i < j)) (decide (j < i)) == .lt) = decide (i < j)
        by_cases z : i < j
        · simp [cmpB, z]
        · simp only [cmpB, z, decide_false, Bool.false_eq_true, if_false]
          split <;> rfl]
      exact q
    | _ => cases hc
  | n, .str i, e, A, u, v, _, m, m', hc, _, _, _ => by
    cases e with
    | str j =>
      obtain ⟨t, rfl⟩ := m
      obtain ⟨t', rfl⟩ := m'
      rw [show plt (.str i) (.str j) = decide (i.cps.toList < j.cps.toList) by
        unfold plt
        show (cmpB (decide (i.cps.toList < j.cps.toList)) (decide (j.cps.toList < i.cps.toList)) == .lt) = decide (i.cps.toList < j.cps.toList)
        by_cases z : i.cps.toList < j.cps.toList
        · simp [cmpB, z]
        · simp only [cmpB, z, decide_false, Bool.false_eq_true, if_false]
          split <;> rfl]
      exact fun prog w E Q h => P.lt_str h
    | _ => cases hc
  | 0, .tuple xs, e, A, u, v, hn, _, _, _, _, _, _ => by
    have : PyData.depthAll xs + 1 ≤ 0 := hn
    omega
  | n + 1, .tuple xs, e, A, u, v, hn, m, m', hc, hd, he, hu => by
    cases e with
    | tuple ys =>
      obtain ⟨a, its, rfl, ht, r⟩ := m
      obtain ⟨b, its2, rfl, ht2, r2⟩ := m'
      have hn : PyData.depthAll xs + 1 ≤ n + 1 := hn
      have hc : cmpbL xs ys = true := hc
      have hd : PyData.canLayAll0 xs = true := hd
      have he : PyData.canLayAll0 ys = true := he
      have l1 := r.len
      have l2 := r2.len
      have e1 : plt (.tuple xs) (.tuple ys) = (pcmpL xs ys == .lt) := rfl
      have at1 : ∀ j (h1 : j < its.toArray.size), ∃ x, xs[j]? = some x ∧ MR s.heap x its.toArray[j] := fun j h1 => by
        have hj : j < xs.length := by rw [List.size_toArray] at h1; omega
        obtain ⟨w, e1, e2⟩ := r.get (List.getElem?_eq_getElem hj)
        have : its.toArray[j] = w := by
          rw [List.size_toArray] at h1
          rw [List.getElem?_eq_getElem h1] at e1
          simpa using e1
        exact ⟨_, List.getElem?_eq_getElem hj, by rw [this]; exact e2⟩
      have at2 : ∀ j (h1 : j < its2.toArray.size), ∃ x, ys[j]? = some x ∧ MR s.heap x its2.toArray[j] := fun j h1 => by
        have hj : j < ys.length := by rw [List.size_toArray] at h1; omega
        obtain ⟨w, e1, e2⟩ := r2.get (List.getElem?_eq_getElem hj)
        have : its2.toArray[j] = w := by
          rw [List.size_toArray] at h1
          rw [List.getElem?_eq_getElem h1] at e1
          simpa using e1
        exact ⟨_, List.getElem?_eq_getElem hj, by rw [this]; exact e2⟩
      have key := RcOp.tuples_lt (A := A) (s := s) (e := fun j => PyData.eqv (xs.getD j .none) (ys.getD j .none)) (r := fun j => plt (xs.getD j .none) (ys.getD j .none)) ht ht2 (by omega) (fun j h1 h2 => ?_) (fun j h1 h2 ej => ?_)
      · rw [e1, ← lexAt_pcmp (fun j => PyData.eqv (xs.getD j .none) (ys.getD j .none)) (fun j => plt (xs.getD j .none) (ys.getD j .none)) xs ys 0 (decide (xs.length < ys.length)) hc rfl (fun j x y ex ey => by
          rw [Nat.zero_add, List.getD_eq_getElem?_getD, List.getD_eq_getElem?_getD, ex, ey]
          exact ⟨rfl, fun _ => rfl⟩)]
        rw [List.size_toArray, List.size_toArray, l1, l2] at key
        exact key
      · obtain ⟨x, ex, mx⟩ := at1 j h1
        obtain ⟨y, ey, my⟩ := at2 j h2
        obtain ⟨as, rx⟩ := MR.reads x mx
        obtain ⟨bs, ry⟩ := MR.reads y my
        have dx := depth_mem ex
        rw [List.getD_eq_getElem?_getD, List.getD_eq_getElem?_getD, ex, ey]
        refine SeqAt.eqAt_reads x y A.in1 s _ _ as bs rx ry (canLay_mem hd ex) (canLay_mem he ey) ?_
        show A.units + 1 + min x.depth y.depth < cLine
        omega
      · obtain ⟨x, ex, mx⟩ := at1 j h1
        obtain ⟨y, ey, my⟩ := at2 j h2
        have dx := depth_mem ex
        rw [List.getD_eq_getElem?_getD, List.getD_eq_getElem?_getD, ex, ey]
        refine ltR n x y A.in1 _ _ (by omega) mx my (cmpb_mem hc ex ey) (canLay_mem hd ex) (canLay_mem he ey) ?_
        show A.units + 1 + n < cLine
        omega
    | _ => cases hc
  | _, .none, _, _, _, _, _, m, _, _, _, _, _ => m.elim
  | _, .bool _, _, _, _, _, _, m, _, _, _, _, _ => m.elim
  | _, .list _, _, _, _, _, _, m, _, _, _, _, _ => m.elim
  | _, .dict _, _, _, _, _, _, m, _, _, _, _, _ => m.elim

theorem tupParts {s : Shared} {xs ys : List PyData} {A : Around} {u v : Value} (m : MR s.heap (.tuple xs) u) (m' : MR s.heap (.tuple ys) v) (hc : cmpbL xs ys = true) (hd : PyData.canLayAll0 xs = true) (he : PyData.canLayAll0 ys = true) (hu : A.units + (PyData.depthAll xs + 1) < cLine) :
    ∃ (a b : Addr) (its its2 : List Value) (e r : Nat → Bool), u = .ref a ∧ v = .ref b ∧ IsTup s.heap a its.toArray ∧ IsTup s.heap b its2.toArray ∧ (∀ j (h1 : j < its.toArray.size) (h2 : j < its2.toArray.size), SeqAt.EqAt A.in1 s its.toArray[j] its2.toArray[j] (e j)) ∧
      (∀ j (h1 : j < its.toArray.size) (h2 : j < its2.toArray.size), e j = false → RcOp .Lt A.in1 s its.toArray[j] its2.toArray[j] (r j)) ∧ lexAt e r (decide (its.toArray.size < its2.toArray.size)) 0 (min its.toArray.size its2.toArray.size) = plt (.tuple xs) (.tuple ys) := by
  obtain ⟨a, its, rfl, ht, r⟩ := m
  obtain ⟨b, its2, rfl, ht2, r2⟩ := m'
  have l1 := r.len
  have l2 := r2.len
  have at1 : ∀ j (h1 : j < its.toArray.size), ∃ x, xs[j]? = some x ∧ MR s.heap x its.toArray[j] := fun j h1 => by
    have hj : j < xs.length := by rw [List.size_toArray] at h1; omega
    obtain ⟨w, e1, e2⟩ := r.get (List.getElem?_eq_getElem hj)
    have : its.toArray[j] = w := by
      rw [List.size_toArray] at h1
      rw [List.getElem?_eq_getElem h1] at e1
      simpa using e1
    exact ⟨_, List.getElem?_eq_getElem hj, by rw [this]; exact e2⟩
  have at2 : ∀ j (h1 : j < its2.toArray.size), ∃ x, ys[j]? = some x ∧ MR s.heap x its2.toArray[j] := fun j h1 => by
    have hj : j < ys.length := by rw [List.size_toArray] at h1; omega
    obtain ⟨w, e1, e2⟩ := r2.get (List.getElem?_eq_getElem hj)
    have : its2.toArray[j] = w := by
      rw [List.size_toArray] at h1
      rw [List.getElem?_eq_getElem h1] at e1
      simpa using e1
    exact ⟨_, List.getElem?_eq_getElem hj, by rw [this]; exact e2⟩
  refine ⟨a, b, its, its2, fun j => PyData.eqv (xs.getD j .none) (ys.getD j .none), fun j => plt (xs.getD j .none) (ys.getD j .none), rfl, rfl, ht, ht2, fun j h1 h2 => ?_, fun j h1 h2 ej => ?_, ?_⟩
  · obtain ⟨x, ex, mx⟩ := at1 j h1
    obtain ⟨y, ey, my⟩ := at2 j h2
    obtain ⟨as, rx⟩ := MR.reads x mx
    obtain ⟨bs, ry⟩ := MR.reads y my
    have dx := depth_mem ex
    dsimp only
    rw [List.getD_eq_getElem?_getD, List.getD_eq_getElem?_getD, ex, ey]
    refine SeqAt.eqAt_reads x y A.in1 s _ _ as bs rx ry (canLay_mem hd ex) (canLay_mem he ey) ?_
    show A.units + 1 + min x.depth y.depth < cLine
    omega
  · obtain ⟨x, ex, mx⟩ := at1 j h1
    obtain ⟨y, ey, my⟩ := at2 j h2
    have dx := depth_mem ex
    dsimp only
    rw [List.getD_eq_getElem?_getD, List.getD_eq_getElem?_getD, ex, ey]
    refine ltR (PyData.depthAll xs) x y A.in1 _ _ (by omega) mx my (cmpb_mem hc ex ey) (canLay_mem hd ex) (canLay_mem he ey) ?_
    show A.units + 1 + PyData.depthAll xs < cLine
    omega
  · show _ = (pcmpL xs ys == .lt)
    rw [← lexAt_pcmp (fun j => PyData.eqv (xs.getD j .none) (ys.getD j .none)) (fun j => plt (xs.getD j .none) (ys.getD j .none)) xs ys 0 (decide (xs.length < ys.length)) hc rfl (fun j x y ex ey => by
      rw [Nat.zero_add, List.getD_eq_getElem?_getD, List.getD_eq_getElem?_getD, ex, ey]
      exact ⟨rfl, fun _ => rfl⟩)]
    rw [List.size_toArray, List.size_toArray, l1, l2]

/-! ### comparisons of the sort -/
section
variable {prog : Program} {w : World} {A : Around} {E : Value → Shared → Prop} {s : Shared}
theorem oneLt_MR {f : Bool} {d e : PyData} {u v : Value} {Q : Bool → Shared → Prop} (m : MR s.heap d u) (m' : MR s.heap e v) (hc : cmpb d e = true) (hd : d.canLay0 = true) (he : e.canLay0 = true) (hu : A.units + d.depth < cLine) (h : Q (plt d e) s) :
    wpAny (model prog w) A (oneLt' f u v) Q E s := by
  have key := ltR d.depth d e A u v (Nat.le_refl _) m m' hc hd he hu
  have gen : wpAny (model prog w) A (richCompare .Lt u v >>= fun r => truthOfDropped r) Q E s := wpAny_bind (key prog w _ _ (wpAny_truthy_bool h))
  cases f with
  | false =>
    rw [oneLt'_eq]
    simp only [Bool.false_eq_true, if_false]
    exact gen
  | true =>
    cases d with
    | int i =>
      cases e with
      | int j =>
        obtain ⟨t, rfl⟩ := m
        obtain ⟨t', rfl⟩ := m'
        refine oneLt_int ?_
        have : plt (.int i) (.int j) = decide (i < j) := by
          unfold plt
          show (cmpB (decide (i < j)) (decide (j < i)) == .lt) = decide (i < j)
          by_cases z : i < j
          · simp [cmpB, z]
          · simp only [cmpB, z, decide_false, Bool.false_eq_true, if_false]
            split <;> rfl
        rw [← this]
        exact h
      | _ => cases hc
    | str i =>
      cases e with
      | str j =>
        obtain ⟨t, rfl⟩ := m
        obtain ⟨t', rfl⟩ := m'
        refine oneLt_str ?_
        have : plt (.str i) (.str j) = decide (i.cps.toList < j.cps.toList) := by
          unfold plt
          show (cmpB (decide (i.cps.toList < j.cps.toList)) (decide (j.cps.toList < i.cps.toList)) == .lt) = decide (i.cps.toList < j.cps.toList)
          by_cases z : i.cps.toList < j.cps.toList
          · simp [cmpB, z]
          · simp only [cmpB, z, decide_false, Bool.false_eq_true, if_false]
            split <;> rfl
        rw [← this]
        exact h
      | _ => cases hc
    | tuple xs =>
      cases e with
      | tuple ys =>
        have hu : A.units + (PyData.depthAll xs + 1) < cLine := hu
        obtain ⟨a, b, its, its2, e, r, rfl, rfl, ht, ht2, he', hr', elex⟩ := tupParts m m' hc hd he hu
        rw [oneLt'_eq]
        simp only [if_true]
        refine wpAny_bind (wpAny_cRoomFor (by omega) ?_)
        obtain ⟨⟨cls, dd, data, sl⟩, ho, hcl, n, hdt⟩ := id ht
        obtain ⟨⟨cls2, dd2, data2, sl2⟩, ho2, hcl2, n2, hdt2⟩ := id ht2
        simp only at hcl hdt hcl2 hdt2
        subst hcl hdt hcl2 hdt2
        refine wpAny_bind (wpAny_callSpecialIfBound?_slot ⟨_, ho, rfl⟩ F.slot_tuple_lt (call_meets F.slot_tuple_lt ⟨_, ho, rfl⟩ F.entry_tuple_lt (F.args_tuple_lt_2 _ _) (tuple_ltAt a b its.toArray its2.toArray n n2 dd dd2 sl sl2 e r) ⟨ho, ho2, he', hr', ?_⟩))
        rw [elex]
        exact wpAny_truthy_bool h
      | _ => cases hc
    | _ => exact m.elim
/-- what is asked of what is sorted -/
def okS (ds : List PyData) : Bool := ds.all (fun d => d.canLay0 && decide (d.depth ≤ 60) && ds.all fun e => cmpb d e)
theorem okS_of {ds : List PyData} (h : okS ds = true) : ∀ d ∈ ds, d.canLay0 = true ∧ d.depth ≤ 60 ∧ ∀ e ∈ ds, cmpb d e = true := fun d hd => by
  have := List.all_eq_true.mp h d hd
  simp only [Bool.and_eq_true, decide_eq_true_eq, List.all_eq_true] at this
  exact ⟨this.1.1, this.1.2, this.2⟩
theorem MRL.mem {h : Heap} : ∀ {ds : List PyData} {us : List Value}, MRL h ds us → ∀ u ∈ us, ∃ d ∈ ds, MR h d u
  | [], us, m, u, hu => by have m : us = [] := m; subst m; cases hu
  | d :: ds, us, m, u, hu => by
    obtain ⟨v, r, rfl, m1, m2⟩ := m
    rcases List.mem_cons.mp hu with e | hu
    · subst e; exact ⟨d, List.mem_cons_self, m1⟩
    · obtain ⟨d', h1, h2⟩ := MRL.mem m2 u hu
      exact ⟨d', List.mem_cons_of_mem _ h1, h2⟩
open Classical in
noncomputable def dat (h : Heap) (u : Value) : PyData := if q : ∃ d, MR h d u then q.choose else .none
theorem dat_eq {h : Heap} {d : PyData} {u : Value} (m : MR h d u) : dat h u = d := by
  unfold dat
  have q : ∃ d, MR h d u := ⟨d, m⟩
  rw [dif_pos q]
  exact MR.inj _ _ q.choose_spec m
theorem dat_map {h : Heap} : ∀ {ds : List PyData} {us : List Value}, MRL h ds us → us.map (dat h) = ds
  | [], us, m => by have m : us = [] := m; subst m; rfl
  | d :: ds, us, m => by
    obtain ⟨v, r, rfl, m1, m2⟩ := m
    rw [List.map_cons, dat_eq m1, dat_map m2]

theorem MRL.mem2 {h h0 : Heap} : ∀ {ds : List PyData} {us : List Value}, MRL h ds us → MRL h0 ds us → ∀ u ∈ us, ∃ d ∈ ds, MR h d u ∧ MR h0 d u
  | [], us, m, _, u, hu => by have m : us = [] := m; subst m; cases hu
  | d :: ds, us, m, m0, u, hu => by
    obtain ⟨v, r, rfl, m1, m2⟩ := m
    obtain ⟨v', r', q, n1, n2⟩ := m0
    cases q
    rcases List.mem_cons.mp hu with e | hu
    · subst e; exact ⟨d, List.mem_cons_self, m1, n1⟩
    · obtain ⟨d', h1, h2⟩ := MRL.mem2 m2 n2 u hu
      exact ⟨d', List.mem_cons_of_mem _ h1, h2⟩
theorem katlex {b fin : Bool} {Q : Bool → Shared → Prop} : ∀ (xs ys : List PyData) {us vs : List Value} (i : Nat), MRL s.heap xs us → MRL s.heap ys vs → cmpbL xs ys = true → PyData.canLayAll0 xs = true → PyData.canLayAll0 ys = true → A.units + 1 + PyData.depthAll xs < cLine →
    fin = decide (xs.length < ys.length) → Q (pcmpL xs ys == .lt) s → PySem.W.KatLex prog w A b fin Q (us.zip vs) i s
  | [], ys, us, vs, i, m, m', _, _, _, _, hf, h => by
    have m : us = [] := m
    subst m hf
    refine PySem.W.kat_nil ?_
    cases ys with
    | nil => exact h
    | cons y ys => exact h
  | x :: xs, [], us, vs, i, m, m', _, _, _, _, hf, h => by
    have m' : vs = [] := m'
    subst m' hf
    rw [List.zip_nil_right]
    exact PySem.W.kat_nil h
  | x :: xs, y :: ys, us, vs, i, m, m', hc, hd, he, hu, hf, h => by
    obtain ⟨u, us, rfl, m1, m2⟩ := m
    obtain ⟨v, vs, rfl, n1, n2⟩ := m'
    subst hf
    have hc' : cmpb x y = true ∧ cmpbL xs ys = true := by
      have hc : (cmpb x y && cmpbL xs ys) = true := hc
      simpa using hc
    have hd' : x.canLay0 = true ∧ PyData.canLayAll0 xs = true := by simpa [PyData.canLayAll0] using hd
    have he' : y.canLay0 = true ∧ PyData.canLayAll0 ys = true := by simpa [PyData.canLayAll0] using he
    have hu' : A.units + 1 + max x.depth (PyData.depthAll xs) < cLine := hu
    obtain ⟨as, rx⟩ := MR.reads x m1
    obtain ⟨bs, ry⟩ := MR.reads y n1
    rw [List.zip_cons_cons]
    refine PySem.W.kat_cons (SeqAt.eqAt_reads x y A s u v as bs rx ry hd'.1 he'.1 (by omega) prog w _ _ ?_)
    rw [pcmpL_cons hc'.1] at h
    refine PySem.W.kat_go (fun e1 => ?_) (fun e1 => ?_)
    · rw [if_pos e1] at h
      exact PySem.W.kat_yes (katlex xs ys (i + 1) m2 n2 hc'.2 hd'.2 he'.2 (by omega) (by simp) h)
    · rw [if_neg (by rw [e1]; simp)] at h
      exact PySem.W.kat_no (oneLt_MR m1 n1 hc'.1 hd'.1 he'.1 (by omega) h)
/-- any kind serves -/
theorem cmp_any {h0 : Heap} {κ : SortKind} {ds : List PyData} {vs : List Value} (hκ : κ = general' ∨ κ = oneType' ∨ ((∃ b, κ = tuples' b) ∧ ∀ d ∈ ds, ∃ xs, d = .tuple xs)) (ok : okS ds = true) (m : MRL s.heap ds vs) (m0 : MRL h0 ds vs) (hu : A.units + 62 < cLine) :
    SrtO.Cmp prog w A s κ (fun p => p.1 ∈ vs) (SrtO.lt2 fun a b => plt (dat h0 a) (dat h0 b)) := by
  intro p q hp hq
  obtain ⟨d, hd, md, md0⟩ := m.mem2 m0 _ hp
  obtain ⟨e, he, me, me0⟩ := m.mem2 m0 _ hq
  obtain ⟨d1, d2, d3⟩ := okS_of ok d hd
  obtain ⟨e1, e2, e3⟩ := okS_of ok e he
  show wpAny (model prog w) A (keyLt' κ p.1 q.1) (fun r s' => s' = s ∧ r = plt (dat h0 p.1) (dat h0 q.1)) (fun _ _ => False) s
  rw [dat_eq md0, dat_eq me0]
  rcases hκ with rfl | rfl | ⟨⟨b, rfl⟩, hall⟩
  · exact oneLt_MR (f := false) md me (d3 e he) d1 e1 (by omega) ⟨rfl, rfl⟩
  · rw [keyLt'_oneType]
    exact oneLt_MR (f := true) md me (d3 e he) d1 e1 (by omega) ⟨rfl, rfl⟩
  · obtain ⟨xs, rfl⟩ := hall d hd
    obtain ⟨ys, rfl⟩ := hall e he
    obtain ⟨a, its, ep, ht, r⟩ := md
    obtain ⟨a', its2, eq, ht2, r2⟩ := me
    rw [ep, eq]
    obtain ⟨o, ho, hc, n, hdt⟩ := ht
    obtain ⟨o2, ho2, hc2, n2, hdt2⟩ := ht2
    have dd : PyData.depthAll xs + 1 ≤ 60 := d2
    refine PySem.W.kat_lt ho hdt ho2 hdt2 ?_
    exact katlex xs ys 0 r r2 (d3 _ he) d1 e1 (by omega) (by rw [List.size_toArray, List.size_toArray, r.len, r2.len]) ⟨rfl, rfl⟩

/-! ### the kind of the keys -/
/-- it answers r and changes nothing -/
def Det {α : Type} (M : Model) (A : Around) (s : Shared) (m : Sem α) (r : α) : Prop := ∀ (Q : α → Shared → Prop) (E : Value → Shared → Prop), Q r s → wpAny M A m Q E s
theorem det_mapM {M : Model} {α β : Type} {f : α → Sem β} {R : α → β → Prop} : ∀ (l : List α), (∀ v ∈ l, ∃ r, R v r ∧ Det M A s (f v) r) → ∃ rs, Paired R l rs ∧ Det M A s (l.mapM f) rs
  | [], _ => ⟨[], .nil, fun Q E h => by rw [List.mapM_nil]; exact wpAny_pure h⟩
  | x :: l, hf => by
    obtain ⟨r, h1, h2⟩ := hf x List.mem_cons_self
    obtain ⟨rs, h3, h4⟩ := det_mapM l fun v hv => hf v (List.mem_cons_of_mem _ hv)
    refine ⟨r :: rs, .cons h1 h3, fun Q E h => ?_⟩
    rw [List.mapM_cons]
    exact wpAny_bind (h2 _ _ (wpAny_bind (h4 _ _ (wpAny_pure h))))
theorem MR.ty {M : Model} : ∀ (d : PyData) {u : Value}, MR s.heap d u → ∃ T, Det M A s (typeOf u) T ∧ ((T != Value.type "tuple") = false → ∃ xs, d = .tuple xs)
  | .int i, u, m => by
    obtain ⟨t, rfl⟩ := m
    refine ⟨.type "int", fun Q E h => wpAny_typeOf (T := "int") rfl h, fun z => ?_⟩
    have e : (Value.type "int" != Value.type "tuple") = true := by first | decide +kernel | rfl | decide
    rw [e] at z
    cases z
  | .str i, u, m => by
    obtain ⟨t, rfl⟩ := m
    refine ⟨.type "str", fun Q E h => wpAny_typeOf (T := "str") rfl h, fun z => ?_⟩
    have e : (Value.type "str" != Value.type "tuple") = true := by first | decide +kernel | rfl | decide
    rw [e] at z
    cases z
  | .tuple xs, u, m => by
    obtain ⟨a, its, rfl, ⟨o, ho, hc, q⟩, r⟩ := m
    exact ⟨.type "tuple", fun Q E h => wpAny_typeOf (T := "tuple") ⟨o, ho, hc⟩ h, fun _ => ⟨_, rfl⟩⟩
  | .none, _, m => m.elim
  | .bool _, _, m => m.elim
  | .list _, _, m => m.elim
  | .dict _, _, m => m.elim
theorem MR.first {M : Model} (d : PyData) {u : Value} (m : MR s.heap d u) : ∃ r, Det M A s (firstOfTuple' u) r ∧ (r.isSome = true → ∃ xs, d = .tuple xs) ∧ ∀ f, r = some f → ∃ e, MR s.heap e f := by
  obtain ⟨T, h1, h2⟩ := MR.ty (M := M) (A := A) d m
  rw [PySem.W.kas_first_eq]
  cases q : (T != Value.type "tuple") with
  | true => exact ⟨none, fun Q E h => wpAny_bind (h1 _ _ (by rw [if_pos q]; exact wpAny_pure h)), (fun z => nomatch z), (fun _ z => nomatch z)⟩
  | false =>
    obtain ⟨xs, rfl⟩ := h2 q
    obtain ⟨a, its, rfl, ⟨o, ho, hc, n, hd⟩, r⟩ := m
    refine ⟨its.toArray[0]?, fun Q E h => wpAny_bind (h1 _ _ ?_), fun _ => ⟨_, rfl⟩, fun f e => ?_⟩
    · rw [if_neg (by rw [q]; simp)]
      exact wpAny_bind (listItems_at ho hd (wpAny_pure h))
    · have e : its[0]? = some f := by simpa using e
      obtain ⟨e', _, h'⟩ := MRL.mem r f (List.mem_of_getElem? e)
      exact ⟨e', h'⟩
theorem det_one {M : Model} {vs : List Value} (h : ∀ v ∈ vs, ∃ d, MR s.heap d v) : ∃ r, Det M A s (oneTypeOnly' vs.toArray) r := by
  obtain ⟨ts, _, h2⟩ := det_mapM (M := M) (A := A) (s := s) (f := typeOf) (R := fun _ _ => True) vs fun v hv => by
    obtain ⟨d, m⟩ := h v hv
    obtain ⟨T, h1, _⟩ := MR.ty (M := M) (A := A) d m
    exact ⟨T, trivial, h1⟩
  cases e : ts.toArray[0]? with
  | none =>
    refine ⟨none, fun Q E hq => ?_⟩
    rw [oneTypeOnly'_eq, List.mapM_toArray, map_eq_pure_bind]
    refine wpAny_bind (wpAny_bind (h2 _ _ (wpAny_pure ?_)))
    rw [e]
    exact wpAny_pure hq
  | some t =>
    refine ⟨if ts.toArray.all (· == t) then some t else none, fun Q E hq => ?_⟩
    rw [oneTypeOnly'_eq, List.mapM_toArray, map_eq_pure_bind]
    refine wpAny_bind (wpAny_bind (h2 _ _ (wpAny_pure ?_)))
    rw [e]
    exact wpAny_pure hq
theorem MRL.mem' {h : Heap} : ∀ {ds : List PyData} {us : List Value}, MRL h ds us → ∀ d ∈ ds, ∃ u ∈ us, MR h d u
  | [], _, _, d, hd => by cases hd
  | e :: ds, us, m, d, hd => by
    obtain ⟨v, r, rfl, m1, m2⟩ := m
    rcases List.mem_cons.mp hd with e | hd
    · subst e; exact ⟨v, List.mem_cons_self, m1⟩
    · obtain ⟨d', h1, h2⟩ := MRL.mem' m2 d hd
      exact ⟨d', List.mem_cons_of_mem _ h1, h2⟩
theorem paired_mem {α β : Type} {R : α → β → Prop} : ∀ {l : List α} {rs : List β}, Paired R l rs → (∀ x ∈ l, ∃ r ∈ rs, R x r) ∧ ∀ r ∈ rs, ∃ x ∈ l, R x r
  | _, _, .nil => ⟨fun _ h => (by cases h), fun _ h => (by cases h)⟩
  | _, _, .cons h1 h2 => by
    obtain ⟨a, b⟩ := paired_mem h2
    refine ⟨fun z hz => ?_, fun z hz => ?_⟩
    · rcases List.mem_cons.mp hz with e | hz
      · subst e; exact ⟨_, List.mem_cons_self, h1⟩
      · obtain ⟨r, k1, k2⟩ := a z hz
        exact ⟨r, List.mem_cons_of_mem _ k1, k2⟩
    · rcases List.mem_cons.mp hz with e | hz
      · subst e; exact ⟨_, List.mem_cons_self, h1⟩
      · obtain ⟨r, k1, k2⟩ := b z hz
        exact ⟨r, List.mem_cons_of_mem _ k1, k2⟩
theorem kind_any {M : Model} {ds : List PyData} {vs : List Value} (m : MRL s.heap ds vs) : ∃ κ, Det M A s (keyKind' vs.toArray) κ ∧ (κ = general' ∨ κ = oneType' ∨ ((∃ b, κ = tuples' b) ∧ ∀ d ∈ ds, ∃ xs, d = .tuple xs)) := by
  obtain ⟨rs, p, h2⟩ := det_mapM (M := M) (A := A) (s := s) (f := firstOfTuple') (R := fun v r => (r.isSome = true → ∀ d, MR s.heap d v → ∃ xs, d = .tuple xs) ∧ ∀ f, r = some f → ∃ e, MR s.heap e f) vs fun v hv => by
    obtain ⟨d, _, md⟩ := m.mem v hv
    obtain ⟨r, h1, h2, h3⟩ := MR.first (M := M) (A := A) d md
    exact ⟨r, ⟨fun z d' m' => by rw [MR.inj d' d m' md]; exact h2 z, h3⟩, h1⟩
  obtain ⟨pa, pb⟩ := paired_mem p
  cases q : rs.toArray.all (·.isSome) with
  | true =>
    obtain ⟨o, ho⟩ := det_one (M := M) (A := A) (s := s) (vs := rs.filterMap id) fun v hv => by
      obtain ⟨r, hr, e⟩ := List.mem_filterMap.mp hv
      obtain ⟨x, _, _, k⟩ := pb r hr
      exact k v e
    refine ⟨tuples' (o.any (· != .type "tuple")), fun Q E hq => ?_, .inr (.inr ⟨⟨_, rfl⟩, fun d hd => ?_⟩)⟩
    · rw [PyProof.Rows.kat_kind_eq, List.mapM_toArray, map_eq_pure_bind]
      refine wpAny_bind (wpAny_bind (h2 _ _ (wpAny_pure ?_)))
      rw [if_pos q]
      refine wpAny_bind (wpAny_rule ?_)
      have hfm : (rs.toArray.filterMap id) = (rs.filterMap id).toArray := by simp
      rw [hfm]
      exact wpAny_bind (ho _ _ (wpAny_pure hq))
    · obtain ⟨u, hu, mu⟩ := m.mem' d hd
      obtain ⟨r, hr, k, _⟩ := pa u hu
      exact k (by simpa using (List.all_eq_true.mp (by simpa using q)) r hr) d mu
  | false =>
    cases q2 : (rs.toArray[0]?.bind id).isSome with
    | true =>
      refine ⟨general', fun Q E hq => ?_, .inl rfl⟩
      rw [PyProof.Rows.kat_kind_eq, List.mapM_toArray, map_eq_pure_bind]
      refine wpAny_bind (wpAny_bind (h2 _ _ (wpAny_pure ?_)))
      rw [if_neg (by rw [q]; simp), if_pos q2]
      exact wpAny_pure hq
    | false =>
      obtain ⟨o, ho⟩ := det_one (M := M) (A := A) (s := s) (vs := vs) fun v hv => by
        obtain ⟨d, _, md⟩ := m.mem v hv
        exact ⟨d, md⟩
      refine ⟨if o.isSome then oneType' else general', fun Q E hq => ?_, ?_⟩
      · rw [PyProof.Rows.kat_kind_eq, List.mapM_toArray, map_eq_pure_bind]
        refine wpAny_bind (wpAny_bind (h2 _ _ (wpAny_pure ?_)))
        rw [if_neg (by rw [q]; simp), if_neg (by rw [q2]; simp)]
        exact wpAny_bind (ho _ _ (wpAny_pure hq))
      · cases o with
        | none => exact .inl rfl
        | some _ => exact .inr (.inl rfl)
/-- what is asked for a sort -/
theorem sortable_any {a : Addr} {ds : List PyData} {vs : List Value} {h0 : Heap} {l : Obj} (ok : okS ds = true) (m0 : MRL h0 ds vs) (k0 : ∀ b o, h0.get? b = some o → s.heap.get? b = some o) (ha : s.heap.get? a = some l) (hcl : l.cls = .type "list") (hu : A.units + 62 < cLine) :
    SrtO.SortableO prog w A s a vs (fun u v => plt (dat h0 u) (dat h0 v)) := by
  intro h' keep
  have m' : MRL ({ s with heap := h' } : Shared).heap ds vs := MRL.keep (fun b o e c => keep b o (fun z => by
    subst z
    have e' := k0 _ _ e
    rw [ha] at e'
    cases e'
    rw [hcl] at c
    exact absurd (Value.type.inj c) (by decide)) (k0 b o e)) ds m0
  obtain ⟨κ, k1, k2⟩ := kind_any (M := model prog w) (A := A) (s := { s with heap := h' }) m'
  exact ⟨κ, k1, cmp_any k2 ok m' m0 hu⟩
end
section
variable {X : Cx} {pins : List (Addr × Obj)} {σ : L2.St} {H : Hp} {s : Shared} {W : Wt}
mutual
theorem Rp.mr (I : Inv X pins σ H s) : ∀ (d : PyData) {v : V} {u : Value} {e : PyData}, Rp X.K W H v d → RelV v u → cmpb d d = true → MR s.heap d u
  | .int i, _, _, _, h, r, _ => by cases h; exact r
  | .str i, _, _, _, h, r, _ => by cases h; exact r
  | .tuple ds, _, u, _, h, r, c => by
    cases h with
    | tup h1 h2 =>
      cases r
      obtain ⟨its, rv, ht, _⟩ := I.tuple h1.sq
      exact ⟨_, its, rfl, ht, RpL.mr I ds h2 rv c⟩
  | .none, _, _, _, _, _, c => by cases c
  | .bool _, _, _, _, _, _, c => by cases c
  | .list _, _, _, _, _, _, c => by cases c
  | .dict _, _, _, _, _, _, c => by cases c
theorem RpL.mr (I : Inv X pins σ H s) : ∀ (ds : List PyData) {vs : List V} {us : List Value}, RpL X.K W H vs ds → Vals vs us → cmpbL ds ds = true → MRL s.heap ds us
  | [], _, _, h, r, _ => by cases h; cases r; rfl
  | d :: ds, _, _, h, r, c => by
    cases h with
    | cons h1 h2 =>
      cases r with
      | cons r1 r2 =>
        have c : (cmpb d d && cmpbL ds ds) = true := c
        simp only [Bool.and_eq_true] at c
        exact ⟨_, _, rfl, Rp.mr I d (e := d) h1 r1 c.1, RpL.mr I ds h2 r2 c.2⟩
end
theorem okS_self : ∀ {ds : List PyData}, (∀ d ∈ ds, cmpb d d = true) → cmpbL ds ds = true
  | [], _ => rfl
  | d :: ds, h => by
    show (cmpb d d && cmpbL ds ds) = true
    rw [h d List.mem_cons_self, okS_self fun e he => h e (List.mem_cons_of_mem _ he)]
    rfl
end

/-! ### sorted of a tuple -/
section
open PySem.Calls
variable {prog : Program} {w : World} {A : Around} {E : Value → Shared → Prop} {s : Shared}
theorem collect_tupZ {l : Addr} {vs : List Value} {Q : List Value → Shared → Prop} (hl : IsTup s.heap l vs.toArray)
    (h : Q vs { s with heap := (s.heap.push (seqObj "list" #[] 0)).update s.heap.objs.size (Obj.mapSeq (· ++ vs.toArray)) }) (hsz : vs.length ≤ sizeLine) :
    wpAny (model prog w) A (collect (.ref l)) Q E s := by
  obtain ⟨o, ho, hc, n, hd⟩ := id hl
  unfold collect
  refine wpAny_bind (wpAny_runValue (codeAny_builtin entry_proto_collect' ?_))
  show wpAny _ _ (do again (.builtin "list.__iadd__" ⟨[← newList [], .ref l], []⟩)) _ _ s
  refine wpAny_bind (wpAny_newList (wpAny_pure ⟨Code.quiet_builtin _ (by decide +kernel), codeAny_builtin entry_list_iadd' ?_⟩))
  show wpAny _ _ (Builtin.List.listExtendWith (.ref s.heap.objs.size) (.ref l) (.ref s.heap.objs.size)) _ _ { s with heap := s.heap.push (seqObj "list" #[] 0) }
  unfold Builtin.List.listExtendWith
  have ho' : (s.heap.push (seqObj "list" #[] 0)).get? l = some o := Heap.get?_push_of_some _ ho
  refine wpAny_bind (wpAny_typeOf (T := "tuple") ⟨o, ho', hc⟩ ?_)
  have ht : (Value.type "tuple" == Value.type "tuple") = true := by rfl
  rw [if_pos (by rw [ht]; simp)]
  refine wpAny_bind (listItems_at ho' hd ?_)
  refine wpAny_bind (listItems_at (xs := #[]) (n := 0) (Heap.get?_push_size _ rfl) rfl ?_)
  rw [if_neg (by simp)]
  refine wpAny_bind (listUpdate_at (xs := #[]) (n := 0) (Heap.get?_push_size _ rfl) rfl ?_ (Nat.zero_le _) (by show (#[] ++ vs.toArray).size ≤ sizeLine + 1; simp only [Array.size_append, List.size_toArray, List.length_nil]; omega))
  refine wpAny_pure ?_
  show wpAny (model prog w) A (do
      let o ← load s.heap.objs.size
      match o.data with
      | .seq xs _ => pure xs.toList
      | _ => unsupported "internal:collect") Q E { s with heap := (s.heap.push (seqObj "list" #[] 0)).update s.heap.objs.size (Obj.mapSeq (· ++ vs.toArray)) }
  refine wpAny_bind (wpAny_load (get?_update_seq (Heap.get?_push_size _ rfl) _) ?_)
  show wpAny _ _ (pure ((#[] : Array Value) ++ vs.toArray).toList) Q E _
  rw [show ((#[] : Array Value) ++ vs.toArray).toList = vs by simp]
  exact wpAny_pure h
theorem sorted_ordT {l : Addr} {vs : List Value} {ltv : Value → Value → Bool} {Q : Value → Shared → Prop} (O : SrtO.Swo ltv) (hl : IsTup s.heap l vs.toArray) (hz : vs.length ≤ sizeLine)
    (hS : 2 ≤ vs.length → ∀ (h₁ : Heap) (a : Addr), h₁.get? a = some (seqObj "list" vs.toArray 0) → (∀ b o, s.heap.get? b = some o → b ≠ a ∧ h₁.get? b = some o) → SrtO.SortableO prog w A.in1.in1 { s with heap := h₁ } a vs ltv)
    (h : ∀ out : List Value, SrtO.Srtd ltv out → SrtO.Stb ltv out vs → Q (.ref (s.heap.objs.size + 1)) { s with heap := sortedAll s.heap vs out.toArray }) :
    wpAny (model prog w) A (call (.builtin "sorted") [.ref l]) Q E s := by
  refine Calls.call_function_entry kind_sorted plain_sorted entry_sorted (args_sorted1 _) ?_
  unfold Builtin.«sorted»
  refine wpAny_bind (m := checkCount "sorted" 1 1 _) (wpAny_pure ?_)
  refine wpAny_bind (collect_tupZ hl ?_ hz)
  refine wpAny_bind (wpAny_newList ?_ hz)
  have hsz : ((s.heap.push (seqObj "list" #[] 0)).update s.heap.objs.size (Obj.mapSeq (· ++ vs.toArray))).objs.size = s.heap.objs.size + 1 := by
    rw [Heap.size_update, size_push']
  have hoL : (((s.heap.push (seqObj "list" #[] 0)).update s.heap.objs.size (Obj.mapSeq (· ++ vs.toArray))).push (seqObj "list" vs.toArray 0)).get? (s.heap.objs.size + 1) = some (seqObj "list" vs.toArray 0) := by
    rw [← hsz]; exact Heap.get?_push_size _ rfl
  have keep : ∀ b o, s.heap.get? b = some o → b ≠ s.heap.objs.size + 1 ∧ (((s.heap.push (seqObj "list" #[] 0)).update s.heap.objs.size (Obj.mapSeq (· ++ vs.toArray))).push (seqObj "list" vs.toArray 0)).get? b = some o := fun b o q => by
    have hlt : b < s.heap.objs.size := Heap.lt_size q
    refine ⟨Nat.ne_of_lt (Nat.lt_succ_of_lt hlt), Heap.get?_push_of_some _ ?_⟩
    rw [Heap.get?_update_ne _ _ _ _ (Nat.ne_of_lt hlt)]
    exact Heap.get?_push_of_some _ q
  show wpAny _ _ _ _ _ { s with heap := ((s.heap.push (seqObj "list" #[] 0)).update s.heap.objs.size (Obj.mapSeq (· ++ vs.toArray))).push (seqObj "list" vs.toArray 0) }
  rw [hsz]
  refine wpAny_bind (wpAny_holding (wpAny_call_entry slot_list_sort ⟨_, hoL, rfl⟩ entry_list_sort (SrtO.list_sort_ord O hoL hz (fun h2 => hS h2 _ _ hoL keep) fun out hs hb => ⟨_, rfl, ?_⟩) (args_list_sort _)))
  exact wpAny_pure ⟨_, rfl, h out hs hb⟩
end

/-! ### the rule -/
def backX (u : Value) : V := (absV u).getD .non
theorem backX_rel {x : V} {u : Value} (r : RelV x u) : backX u = x := by unfold backX; rw [r.abs]; rfl
def rSrt (K : PySem.W.Frag) : List V → Hp → VK → Prop := fun xs H Q => ∃ (a : Addr) (ys : List V) (ds : List PyData) (W : Wt), xs = [.ref a] ∧ (SqL K H a ys ∨ SqT K H a ys) ∧ RpL K W H ys ds ∧ okS ds = true ∧
  ∀ (zs : List V) (p : Addr), RpL K W H zs (psort ds) → H p = none → Q (.ref p) (upd H p (.lst zs))
section
variable {K : PySem.W.Frag} {W : Wt} {H : Hp}
theorem trip {h : Heap} : ∀ {ds : List PyData} {ys : List V} {its : List Value}, RpL K W H ys ds → Vals ys its → MRL h ds its → ∀ u ∈ its, ∃ y d, RelV y u ∧ Rp K W H y d ∧ MR h d u
  | [], _, its, r, v, m, u, hu => by have m : its = [] := m; subst m; cases hu
  | d :: ds, _, _, r, v, m, u, hu => by
    cases r with
    | cons r1 r2 =>
      cases v with
      | cons v1 v2 =>
        obtain ⟨w, t, q, m1, m2⟩ := m
        cases q
        rcases List.mem_cons.mp hu with e | hu
        · subst e; exact ⟨_, _, v1, r1, m1⟩
        · exact trip r2 v2 m2 u hu
theorem rpl_out {h : Heap} : ∀ {out : List Value}, (∀ u ∈ out, ∃ y d, RelV y u ∧ Rp K W H y d ∧ MR h d u) → RpL K W H (out.map backX) (out.map (dat h)) ∧ Vals (out.map backX) out
  | [], _ => ⟨.nil, .nil⟩
  | u :: us, hh => by
    obtain ⟨y, d, h1, h2, h3⟩ := hh u List.mem_cons_self
    obtain ⟨k1, k2⟩ := rpl_out fun v hv => hh v (List.mem_cons_of_mem _ hv)
    rw [List.map_cons, List.map_cons, backX_rel h1, dat_eq h3]
    exact ⟨.cons h2 k1, .cons h1 k2⟩
end
theorem cr_srt {ι : Type} {Z : Cz ι} (i : ι) : CallR (Z.F i) (.builtin "sorted") (rSrt Z.K) := by
  intro pins s σ H vs us Q I r h
  obtain ⟨a, ys, ds, W, rfl, hs, hr, ok, q⟩ := h
  rw [← Z.hK i] at hs hr
  have hu := units64 (Z := Z) i
  have go : ∀ its : List Value, Vals ys its → ys.length ≤ sizeLine → SrtO.Swo (fun u v => plt (dat s.heap u) (dat s.heap v)) ∧ (2 ≤ its.length → ∀ (h₁ : Heap) (a : Addr), h₁.get? a = some (seqObj "list" its.toArray 0) → (∀ b o, s.heap.get? b = some o → b ≠ a ∧ h₁.get? b = some o) → SrtO.SortableO (Z.F i).prog (Z.F i).w (Z.F i).A.in1.in1 { s with heap := h₁ } a its (fun u v => plt (dat s.heap u) (dat s.heap v))) ∧
      ∀ out : List Value, SrtO.Srtd (fun u v => plt (dat s.heap u) (dat s.heap v)) out → SrtO.Stb (fun u v => plt (dat s.heap u) (dat s.heap v)) out its → EP (Z.F i) pins σ Q (.ref (s.heap.objs.size + 1)) { s with heap := sortedAll s.heap its out.toArray } := fun its rv hz => by
    have m : MRL s.heap ds its := hr.mr I ds rv (okS_self fun d hd => (okS_of ok d hd).2.2 d hd)
    refine ⟨plt_swo (dat s.heap), fun _ h₁ a hl keep => ?_, fun out h1 h2 => ?_⟩
    · refine sortable_any (s := { s with heap := h₁ }) ok m (fun b o e => (keep b o e).2) hl rfl ?_
      show (Z.F i).A.units + 1 + 1 + 62 < cLine
      omega
    · have e1 : out.map (dat s.heap) = psort ds := by
        have O := plt_swo (fun d : PyData => d)
        have h3 : SrtO.Stb plt (out.map (dat s.heap)) ds := by
          have := SrtO.Stb.map O (dat s.heap) h2
          rw [dat_map m] at this
          exact this
        refine SrtO.stb_uniq O (SrtO.srtd_map h1) (psort_srtd ds) ?_
        exact ⟨h3.perm.trans (psort_perm ds).symm, fun z => (h3.cls z).trans ((psort_stb ds).cls z).symm⟩
      obtain ⟨k1, k2⟩ := rpl_out (K := (Z.F i).K) (W := W) (H := H) (h := s.heap) (out := out) fun u hu => trip hr rv m u (h2.perm.mem_iff.mp hu)
      rw [e1] at k1
      obtain ⟨ep, he'⟩ := PyProof.Rows.sortedAll_at s.heap its out.toArray
      have hlen : (out.map backX).length ≤ sizeLine := by
        rw [List.length_map, h2.len, ← rv.length]
        exact hz
      rw [Z.hK i] at k1
      exact ⟨.ref _, upd H (s.heap.objs.size + 1) (.lst (out.map backX)), I.laid (t' := s.toks) (fun _ _ => PyProof.Rows.sortedAll_old) (Nat.le_succ _) ⟨hlen, out, ep, k2, he'⟩, rfl, q _ _ k1 (I.hok.fresh (Nat.le_succ _))⟩
  rw [Vals.ref1 r]
  rcases hs with hs | hs
  · obtain ⟨its, rv, hl, hz⟩ := I.list hs
    obtain ⟨g1, g2, g3⟩ := go its rv hz
    exact SrtO.sorted_ord g1 hl.isList (by rw [← rv.length]; exact hz) g2 g3
  · obtain ⟨its, rv, hl, hz⟩ := I.tuple hs
    obtain ⟨g1, g2, g3⟩ := go its rv hz
    exact sorted_ordT g1 hl (by rw [← rv.length]; exact hz) g2 g3
def sSorted : PyData → Res PyData
  | .list ds => if okS ds then .ok (.list (psort ds)) else .err
  | .tuple ds => if okS ds then .ok (.list (psort ds)) else .err
  | _ => .err
theorem pu_sorted : Pure1 sSorted := fun d c as => by
  unfold sSorted
  split <;> (try split) <;> exact fun z => nomatch z
theorem im_sorted {K : PySem.W.Frag} : Imp1 K (fun v => rSrt K [v]) sSorted := by
  intro W H x d Q hw bd hx ⟨g, eg, hg⟩
  unfold sSorted at eg
  split at eg
  · split at eg
    · rename_i ok
      cases eg
      obtain ⟨a, xs, rfl, h1, h2⟩ := hx
      exact ⟨a, xs, _, W, rfl, .inl (.inl h1), h2, ok, fun zs l h3 hl => hg _ _ (same_upd hl) (.lstN hw hl h3)⟩
    · cases eg
  · split at eg
    · rename_i ok
      cases eg
      obtain ⟨a, xs, rfl, h1, h2⟩ := Rp.tupE hx
      exact ⟨a, xs, _, W, rfl, .inr h1.sq, h2, ok, fun zs l h3 hl => hg _ _ (same_upd hl) (.lstN hw hl h3)⟩
    · cases eg
  · cases eg
section
variable {ι : Type} {Z : Cz ι} {e : Expr} {m : EM} {p pos : Pos}
theorem de_sorted (hg : ∀ i, Gl (Z.F i) "sorted") (hm : Z.mg "sorted" = none) (ha : DB Z e m)
    (he : ∀ i, starEach [e] (Z.F i).env = (false, eval e (Z.F i).env) :: starEach [] (Z.F i).env := by intro _; rfl) (hpl : ∀ i, (backTo pos (starEach [] (Z.F i).env)).any (·.1) = false := by intro _; rfl) :
    DE Z (.Call (.Name "sorted" p) [e] [] pos) (mUn sSorted m) := de_call1 cr_srt im_sorted pu_sorted hg hm (by first | rfl | decide +kernel | decide) ha (by decide) (by decide) he hpl
end
end ZZ

/-! Z13: sets of ints: len(set(xs)), sorted(set(xs)) -/
namespace ZZ
open PySem PySem.Spec PyProof.Rows L2 Ob
section
variable {P : Program} {w : World} {A : Around} {E : Value → Shared → Prop} {s : Shared}
/-! the kit's law of set(t), turned to a list -/
set_option maxRecDepth 100000 in
set_option maxHeartbeats 3200000 in
theorem call_set_listI {l : Addr} {items : Array Value} (ns : List Int) {Q : Value → Shared → Prop} (hh : A.handled = none) (hl : s.heap.IsList l items) (hit : IntsAre items.toList ns) (hb : ns.length + 1 < scanBound)
    (h : ∀ (h' : Heap) (tk c : Nat), SetR w h' s.heap.objs.size (fun j => decide (j ∈ ns)) c → c ≤ ns.length → (∀ b o, s.heap.get? b = some o → h'.get? b = some o) → Q (.ref s.heap.objs.size) { s with heap := h', toks := tk }) :
    wpAny (model P w) A (call (.type "set") [.ref l]) Q E s := by
  have hisz : items.size = ns.length := by
    have q := IntsAre.length hit
    rw [Array.length_toList] at q
    exact q
  obtain ⟨c, tl, hmro⟩ := F.called_set.mro
  have hmade := F.called_set.made
  have hsub := F.called_set.sub
  refine wpAny_call (codeAny_of_tree ?_)
  show wpAny _ _ (callAny (.type "set") _) _ _ _
  refine wpAny_pure ⟨Code.quiet_builtin _ (by decide +kernel), codeAny_builtin F.entry_type_call ?_⟩
  rw [Around.under_plain (weight_type_call_type "set" [.ref l] []) rfl]
  have h1 := F.called_set.notType
  have h2 := F.called_set.canCreate
  have hct := F.typeCall_set_1 (.ref l)
  repeat (any_goals (first | assumption | wp_step))

  refine codeAny_mono (code_set_led1 (.ref l) (E := E) (Q₁ := fun obj s₁ => obj = .ref s.heap.objs.size ∧ s₁ = { s with heap := s.heap.push { cls := .type "set", dict := none, data := .set #[] 0 (.fresh 0 0 (!w.params.followText "set-order")) } }) ⟨rfl, rfl⟩) fun r s₁ hr => ?_
  cases r with
  | error e => exact hr
  | ok fl =>
    cases fl with
    | ret obj =>
      obtain ⟨rfl, rfl⟩ := hr
      have hS : (s.heap.push { cls := .type "set", dict := none, data := .set #[] 0 (.fresh 0 0 (!w.params.followText "set-order")) }).get? s.heap.objs.size = some { cls := .type "set", dict := none, data := .set #[] 0 (.fresh 0 0 (!w.params.followText "set-order")) } := Heap.get?_push_size _ rfl
      have hT : Shared.TypeIs { s with heap := s.heap.push { cls := .type "set", dict := none, data := .set #[] 0 (.fresh 0 0 (!w.params.followText "set-order")) } } (.ref s.heap.objs.size) "set" := ⟨_, hS, rfl⟩
      have hli := F.called_set.init.lookup
      have hbi := F.called_set.init.bind (.ref s.heap.objs.size)
      repeat (any_goals (first | assumption | wp_step))

      refine codeAny_mono (codeAny_call_builtin (R := wants (fun r s₂ => r = .none ∧ ∃ h' tk c, s₂ = { s with heap := h', toks := tk } ∧ SetR w h' s.heap.objs.size (fun j => decide (j ∈ ns)) c ∧ c ≤ ns.length ∧
          (∀ b o, s.heap.get? b = some o → h'.get? b = some o)) E) F.called_set.init.plain F.entry_set_init (check_set_init_1 hT ?_)) fun r₂ s₂ hr₂ => ?_
      · obtain ⟨ol, hol, hcl, nl, hdl⟩ := hl
        obtain ⟨ocls, odict, odata, oslots⟩ := ol
        simp only at hcl hdl
        subst hcl; subst hdl
        have hol' : (s.heap.push { cls := .type "set", dict := none, data := .set #[] 0 (.fresh 0 0 (!w.params.followText "set-order")) }).get? l = some { cls := .type "list", dict := odict, data := .seq items nl, slots := oslots } := Heap.get?_push_of_some _ hol
        have hsls := F.sub_list_set
        have hslf := F.sub_list_frozenset
        have hne : (Value.type "list" == Value.type "dict") = false := by decide
        have hl1 : (s.heap.push { cls := .type "set", dict := none, data := .set #[] 0 (.fresh 0 0 (!w.params.followText "set-order")) }).IsList l items := ⟨_, hol', rfl, nl, rfl⟩
        unfold Builtin.«set.__init__» noKeywords Builtin.Frozenset.updateFrom
        generalize hPI : pyIter = PI
        wp_walk
        subst hPI

        refine wpAny_pyIter_list hl1 ?_
        refine wpAny_bind (wpAny_runValue ?_)
        have hlS : l < s.heap.objs.size := Heap.lt_size hol
        have hh3 : A.in1.in1.in1.handled = none := by simp [hh]
        have hz1 : (s.heap.push { cls := .type "set", dict := none, data := .set #[] 0 (.fresh 0 0 (!w.params.followText "set-order")) }).objs.size = s.heap.objs.size + 1 := Heap.size_push ..
        have hneI : l ≠ (s.heap.push { cls := .type "set", dict := none, data := .set #[] 0 (.fresh 0 0 (!w.params.followText "set-order")) }).objs.size := by
          rw [Heap.size_push]; exact Nat.ne_of_lt (Nat.lt_succ_of_lt hlS)
        have hSf : s.heap.objs.size ∉ [(s.heap.push { cls := .type "set", dict := none, data := .set #[] 0 (.fresh 0 0 (!w.params.followText "set-order")) }).objs.size, l] := by
          rw [Heap.size_push]; simp only [List.mem_cons, List.mem_singleton, List.not_mem_nil, or_false, not_or]
          exact ⟨Nat.ne_of_lt (Nat.lt_succ_self _), Nat.ne_of_gt hlS⟩
        have hval : ∀ (i : Nat) (v : Value), items[i]? = some v → ∃ k t, ns[i]? = some k ∧ v = .int k t := fun i v hv => by
          have hi : i < ns.length := by rw [← hisz]; exact (Array.getElem?_eq_some_iff.mp hv).1
          obtain ⟨t, e⟩ := PyProof.Rows.IntsAre.int_at hit i v (by rw [Array.getElem?_toList]; exact hv)
          refine ⟨ns[i], t, List.getElem?_eq_getElem hi, ?_⟩
          rw [e, List.getD_eq_getElem?_getD, List.getElem?_eq_getElem hi] <;> rfl
        refine set_update_ints ((Walks.list hh3 _ l hneI items).toS) s.heap.objs.size
          hSf ns hisz hb hval (items.size - 0) 0 _ (by omega) (Nat.zero_le _)
          ⟨⟨_, Heap.get?_push_size _ rfl, rfl, rfl⟩, (hl1.push _)⟩ ?hS0 ?hR
        case hS0 =>
          have hget : ((s.heap.push { cls := .type "set", dict := none, data := .set #[] 0 (.fresh 0 0 (!w.params.followText "set-order")) }).push { cls := .type "list_iterator", data := .fields #[.ref l, .int 0 0] }).get? s.heap.objs.size
              = some { cls := .type "set", dict := none, data := .set #[] 0 (.fresh 0 0 (!w.params.followText "set-order")) } := Heap.get?_push_of_some _ hS
          exact ⟨0, Nat.le_refl 0, setR_new_at hget⟩
        case hR =>
          intro s' c' hm hc' hS'
          obtain ⟨h', g2, d', tk', os'⟩ := s'
          have eg : g2 = s.gens := hm.gens
          have ed : d' = s.drawn := hm.drawn
          have eo : os' = s.os := hm.os
          subst eg; subst ed; subst eo
          show wpAny _ _ _ _ _ _
          refine wpAny_pure ?_
          show wpAny _ _ (ret Value.none) _ _ _
          rw [hisz] at hc'
          refine wpAny_pure ⟨rfl, h', tk', c', rfl, hS', hc', fun b o e => ?_⟩
          have hb0 : b < s.heap.objs.size := Heap.lt_size e
          have hb1 : b ≠ s.heap.objs.size := Nat.ne_of_lt hb0
          have hb2 : b ≠ (s.heap.push { cls := .type "set", dict := none, data := .set #[] 0 (.fresh 0 0 (!w.params.followText "set-order")) }).objs.size := by
            rw [Heap.size_push]; exact Nat.ne_of_lt (Nat.lt_succ_of_lt hb0)
          exact hm.heap b o (by simp only [List.mem_cons, List.mem_singleton, List.not_mem_nil, or_false, not_or]; exact ⟨hb1, hb2⟩) (Heap.get?_push_of_some _ (Heap.get?_push_of_some _ e))

      · cases r₂ with
        | error e => exact hr₂
        | ok fl₂ =>
          cases fl₂ with
          | ret r =>
            obtain ⟨rfl, h', tk, c', rfl, hS', hc', hk'⟩ := hr₂
            repeat (any_goals (first | assumption | wp_step))
            exact h _ _ _ hS' hc' hk'
          | _ => exact hr₂.elim
    | _ => exact hr.elim

end



/-- the members, rising -/
def insN (x : Int) : List Int → List Int
  | [] => [x]
  | y :: ys => if x < y then x :: y :: ys else if x = y then y :: ys else y :: insN x ys
def dsort : List Int → List Int
  | [] => []
  | x :: xs => insN x (dsort xs)
theorem insN_mem {x k : Int} : ∀ {l : List Int}, k ∈ insN x l ↔ k = x ∨ k ∈ l
  | [] => by simp [insN]
  | y :: ys => by
    unfold insN
    split
    · simp
    · split
      · rename_i e; subst e; simp
      · rw [List.mem_cons, insN_mem (l := ys), List.mem_cons]
        constructor
        · rintro (h | h | h) <;> simp [h]
        · rintro (h | h | h) <;> simp [h]
theorem dsort_mem {k : Int} : ∀ {l : List Int}, k ∈ dsort l ↔ k ∈ l
  | [] => by simp [dsort]
  | x :: xs => by
    show k ∈ insN x (dsort xs) ↔ _
    rw [insN_mem, dsort_mem (l := xs), List.mem_cons]
theorem insN_lt {x : Int} : ∀ {l : List Int}, l.Pairwise (· < ·) → (insN x l).Pairwise (· < ·)
  | [], _ => List.pairwise_singleton _ _
  | y :: ys, h => by
    obtain ⟨h1, h2⟩ := List.pairwise_cons.mp h
    unfold insN
    split
    · rename_i q
      refine List.pairwise_cons.mpr ⟨fun z hz => ?_, h⟩
      rcases List.mem_cons.mp hz with e | hz
      · omega
      · have := h1 z hz; omega
    · split
      · exact h
      · rename_i q1 q2
        refine List.pairwise_cons.mpr ⟨fun z hz => ?_, insN_lt h2⟩
        rcases insN_mem.mp hz with e | hz
        · omega
        · exact h1 z hz
theorem dsort_lt : ∀ (l : List Int), (dsort l).Pairwise (· < ·)
  | [] => .nil
  | x :: xs => insN_lt (dsort_lt xs)
theorem rise_uniq : ∀ {a b : List Int}, a.Pairwise (· < ·) → b.Pairwise (· < ·) → (∀ k, k ∈ a ↔ k ∈ b) → a = b
  | [], [], _, _, _ => rfl
  | [], y :: b, _, _, h => by have := (h y).mpr List.mem_cons_self; cases this
  | x :: a, [], _, _, h => by have := (h x).mp List.mem_cons_self; cases this
  | x :: a, y :: b, ha, hb, h => by
    obtain ⟨a1, a2⟩ := List.pairwise_cons.mp ha
    obtain ⟨b1, b2⟩ := List.pairwise_cons.mp hb
    have e : x = y := by
      rcases List.mem_cons.mp ((h x).mp List.mem_cons_self) with e | p
      · exact e
      · rcases List.mem_cons.mp ((h y).mpr List.mem_cons_self) with e | q
        · exact e.symm
        · have := a1 y q; have := b1 x p; omega
    subst e
    rw [rise_uniq a2 b2 fun k => ⟨fun hk => ?_, fun hk => ?_⟩]
    · rcases List.mem_cons.mp ((h k).mp (List.mem_cons_of_mem _ hk)) with e | q
      · have := a1 k hk; omega
      · exact q
    · rcases List.mem_cons.mp ((h k).mpr (List.mem_cons_of_mem _ hk)) with e | q
      · have := b1 k hk; omega
      · exact q
/-! ### the set is made -/
section
variable {X : Cx} {pins : List (Addr × Obj)} {σ : L2.St} {H : Hp} {s : Shared}
def SqB (K : PySem.W.Frag) (H : Hp) (a : Addr) (xs : List V) : Prop := SqL K H a xs ∨ SqT K H a xs
theorem set_made {l : Addr} {ns : List Int} {R : Value → Shared → Prop} (I : Inv X pins σ H s) (hc : X.calm = true) (hq : SqB X.K H l (ns.map V.int)) (hl : ns.length ≤ 4000)
    (h : ∀ (h' : Heap) (tk c p : Nat), Inv X pins σ H { s with heap := h', toks := tk } → SetR X.w h' p (fun j => decide (j ∈ ns)) c → c ≤ ns.length → R (.ref p) { s with heap := h', toks := tk }) :
    wpAny (model X.prog X.w) X.A (call (.type "set") [.ref l]) R X.xe s := by
  rcases hq with hq | hq
  · obtain ⟨its, r, pl, hz⟩ := I.list hq
    refine call_set_listI ns (I.ok.hd hc) pl.isList (by simpa using RZ.intsAre_vals r) (by unfold scanBound; omega) fun h' tk c R1 hcn k => ?_
    exact h h' tk c _ (I.kept k) R1 hcn
  · obtain ⟨its, r, pl, hz⟩ := I.tuple hq
    refine call_set_tupI ns (I.ok.hd hc) pl (by simpa using RZ.intsAre_vals r) (by unfold scanBound; omega) fun h' tk c R1 hcn k => ?_
    exact h h' tk c _ (I.kept k) R1 hcn
def rLenSet (K : PySem.W.Frag) : V → Hp → VK → Prop := fun x H Q => ∃ (l : Addr) (ns : List Int), x = .ref l ∧ SqB K H l (ns.map V.int) ∧ ns.length ≤ 4000 ∧ Q (.int ((dsort ns).length : Nat)) H
def rSorSet (K : PySem.W.Frag) : V → Hp → VK → Prop := fun x H Q => ∃ (l : Addr) (ns : List Int), x = .ref l ∧ SqB K H l (ns.map V.int) ∧ ns.length < 64 ∧ ∀ p, H p = none → Q (.ref p) (upd H p (.lst ((dsort ns).map V.int)))
theorem setR_len {w : World} {h : Heap} {p : Addr} {ns : List Int} {c : Nat} (R : SetR w h p (fun j => decide (j ∈ ns)) c) : c = (dsort ns).length := by
  obtain ⟨o, es, ep, t, ho, hex, hd, g, nd, hm, hb, hf, hn, hr, hl⟩ := R
  have e1 : (es.toList.map keyOf).length = c := by rw [List.length_map, Array.length_toList]; exact hn
  rw [← e1]
  have nd2 : (dsort ns).Nodup := (dsort_lt ns).imp fun h => by omega
  exact ((List.perm_ext_iff_of_nodup nd nd2).mpr fun k => by rw [← hm k, dsort_mem, decide_eq_true_eq]).length_eq
end
section
variable {X : Cx} {a : Expr} {ta : TE} {p p2 q pos : Pos}
theorem pe_lenSet (hg : Gl X "len") (hm : X.mg "len" = none) (hg2 : Gl X "set") (hm2 : X.mg "set" = none) (ha : PE X a ta) (hc : X.calm = true)
    (na : starEach [a] X.env = (false, eval a X.env) :: starEach [] X.env) : PE X (.Call (.Name "len" p) [.Call (.Name "set" p2) [a] [] q] [] pos) (tUn (rLenSet X.K) ta) := by
  refine ⟨fun pins s σ H Q I h => ?_⟩
  refine Call_ (ld_blt I hg hm boot_len ?_)
  refine PyProof.Rows.callWith_builtin1 (PyProof.Rows.args_cons ?_ rfl) rfl rfl
  refine Call_ (ld_blt I hg2 hm2 PyProof.Rows.boot_set ?_)
  refine PyProof.Rows.callWith_type1 (PyProof.Rows.args_cons (thn (ha.run pins s σ H _ I h) fun v s1 ⟨x, H1, I1, r1, q1⟩ => PyProof.Rows.args_nil ?_) na) na rfl
  obtain ⟨l, ns, rfl, hq, hl, q1⟩ := q1
  cases r1
  refine set_made I1 hc hq hl fun h' tk c p I2 hS hcn => ?_
  refine PyProof.Rows.args_nil ?_
  have ec := setR_len hS
  obtain ⟨o, es, ep, t, ho, hex, hd, _, _, _, _, hf, hn, _, _⟩ := hS
  subst hn
  exact call_len_set ho hex hd hf (by omega) ⟨.int es.size, H1, I2.tok _, ⟨_, rfl⟩, by rw [ec]; exact q1⟩
theorem pe_sorSet (hg : Gl X "sorted") (hm : X.mg "sorted" = none) (hg2 : Gl X "set") (hm2 : X.mg "set" = none) (ha : PE X a ta) (hc : X.calm = true)
    (na : starEach [a] X.env = (false, eval a X.env) :: starEach [] X.env) : PE X (.Call (.Name "sorted" p) [.Call (.Name "set" p2) [a] [] q] [] pos) (tUn (rSorSet X.K) ta) := by
  refine ⟨fun pins s σ H Q I h => ?_⟩
  refine Call_ (ld_blt I hg hm PyProof.Rows.boot_sorted ?_)
  refine PyProof.Rows.callWith_builtin1 (PyProof.Rows.args_cons ?_ rfl) rfl rfl
  refine Call_ (ld_blt I hg2 hm2 PyProof.Rows.boot_set ?_)
  refine PyProof.Rows.callWith_type1 (PyProof.Rows.args_cons (thn (ha.run pins s σ H _ I h) fun v s1 ⟨x, H1, I1, r1, q1⟩ => PyProof.Rows.args_nil ?_) na) na rfl
  obtain ⟨l, ns, rfl, hq, hl, q1⟩ := q1
  cases r1
  refine set_made I1 hc hq (by omega) fun h' tk c p I2 hS hcn => ?_
  refine PyProof.Rows.args_nil ?_
  refine sorted_set hS (I2.ok.hd hc) (by omega) fun s' p out c ns' k g o hp hgt hi hs hm hl => ?_
  have e : ns' = dsort ns := rise_uniq hs (dsort_lt ns) fun j => by rw [hm j, dsort_mem, decide_eq_true_eq]
  subst e
  have hlen : ((dsort ns).map V.int).length ≤ sizeLine := by rw [List.length_map, hl, sizeLine_eq]; omega
  have hn : H1 p = none := I2.hok.fresh hp
  have J : Inv X pins σ (upd H1 p (.lst ((dsort ns).map V.int))) { s1 with heap := s'.heap, gens := s'.gens, drawn := s'.drawn, toks := s'.toks } :=
    Inv.call (s := { s1 with heap := h', toks := tk }) I2 (ch := []) (Un.laid k hp hn) (I2.hok.laid k hp ⟨hlen, out.toList, c, vals_of_ints hi, hgt⟩) (by rw [g]; exact I2.bare) (fun _ z => nomatch z)
  have e : s' = { s1 with heap := s'.heap, gens := s'.gens, drawn := s'.drawn, toks := s'.toks } := by
    cases s'
    cases s1
    cases o
    rfl
  rw [e]
  exact ⟨.ref p, _, J, rfl, q1 p hn⟩
end
def sLenSet : PyData → Res PyData
  | .list ds => match intsOf ds with | some ns => if ns.length ≤ 4000 then .ok (.int (dsort ns).length) else .err | none => .err
  | .tuple ds => match intsOf ds with | some ns => if ns.length ≤ 4000 then .ok (.int (dsort ns).length) else .err | none => .err
  | _ => .err
def sSorSet : PyData → Res PyData
  | .list ds => match intsOf ds with | some ns => if ns.length < 64 then .ok (.list ((dsort ns).map .int)) else .err | none => .err
  | .tuple ds => match intsOf ds with | some ns => if ns.length < 64 then .ok (.list ((dsort ns).map .int)) else .err | none => .err
  | _ => .err
theorem pu_lenSet : Pure1 sLenSet := fun d c as => by
  unfold sLenSet
  split <;> (try split) <;> (try split) <;> exact fun z => nomatch z
theorem pu_sorSet : Pure1 sSorSet := fun d c as => by
  unfold sSorSet
  split <;> (try split) <;> (try split) <;> exact fun z => nomatch z
theorem sqb_of {K : PySem.W.Frag} {W : Wt} {H : Hp} {x : V} {d : PyData} {ds : List PyData} (hx : RpB K W H x d) (hd : d = .list ds ∨ d = .tuple ds) {ns : List Int} (e : intsOf ds = some ns) : ∃ l, x = .ref l ∧ SqB K H l (ns.map V.int) := by
  rcases hd with rfl | rfl
  · obtain ⟨a, xs, rfl, h1, h2⟩ := hx
    rw [intsOf_eq e] at h2
    rw [RpL.ints_inv h2] at h1
    exact ⟨a, rfl, .inl (.inl h1)⟩
  · obtain ⟨a, xs, rfl, h1, h2⟩ := Rp.tupE hx
    rw [intsOf_eq e] at h2
    rw [RpL.ints_inv h2] at h1
    exact ⟨a, rfl, .inr h1.sq⟩
theorem im_lenSet {K : PySem.W.Frag} : Imp1 K (rLenSet K) sLenSet := by
  intro W H x d Q hw bd hx ⟨g, eg, hg⟩
  unfold sLenSet at eg
  split at eg
  all_goals first
    | (split at eg
       · split at eg
         · rename_i ns e hl
           cases eg
           obtain ⟨l, rfl, h⟩ := sqb_of hx (by first | exact .inl rfl | exact .inr rfl) e
           exact ⟨l, ns, rfl, h, hl, hg _ H same_refl (.int _)⟩
         · cases eg
       · cases eg)
    | cases eg
theorem im_sorSet {K : PySem.W.Frag} : Imp1 K (rSorSet K) sSorSet := by
  intro W H x d Q hw bd hx ⟨g, eg, hg⟩
  unfold sSorSet at eg
  split at eg
  all_goals first
    | (split at eg
       · split at eg
         · rename_i ns e hl
           cases eg
           obtain ⟨l, rfl, h⟩ := sqb_of hx (by first | exact .inl rfl | exact .inr rfl) e
           exact ⟨l, ns, rfl, h, hl, fun p hp => hg _ _ (same_upd hp) (.lstN hw hp (RpL.ints _))⟩
         · cases eg
       · cases eg)
    | cases eg
section
variable {ι : Type} {Z : Cz ι} {e : Expr} {m : EM} {p p2 q pos : Pos}
theorem de_lenSet (hg : ∀ i, Gl (Z.F i) "len") (hm : Z.mg "len" = none) (hg2 : ∀ i, Gl (Z.F i) "set") (hm2 : Z.mg "set" = none) (ha : DB Z e m)
    (he : ∀ i, starEach [e] (Z.F i).env = (false, eval e (Z.F i).env) :: starEach [] (Z.F i).env := by intro _; rfl) (hcm : Z.cm := by exact trivial) :
    DE Z (.Call (.Name "len" p) [.Call (.Name "set" p2) [e] [] q] [] pos) (mUn sLenSet m) := by
  obtain ⟨ta, pa, sa⟩ := ha.ex
  exact .mk' (fun i => by have h := pe_lenSet (p := p) (p2 := p2) (q := q) (pos := pos) (hg i) (by rw [Z.hmg]; exact hm) (hg2 i) (by rw [Z.hmg]; exact hm2) (pa i) (Z.calm hcm i) (he i); rw [Z.hK i] at h; exact h) (sim1 sa im_lenSet pu_lenSet)
theorem de_sorSet (hg : ∀ i, Gl (Z.F i) "sorted") (hm : Z.mg "sorted" = none) (hg2 : ∀ i, Gl (Z.F i) "set") (hm2 : Z.mg "set" = none) (ha : DB Z e m)
    (he : ∀ i, starEach [e] (Z.F i).env = (false, eval e (Z.F i).env) :: starEach [] (Z.F i).env := by intro _; rfl) (hcm : Z.cm := by exact trivial) :
    DE Z (.Call (.Name "sorted" p) [.Call (.Name "set" p2) [e] [] q] [] pos) (mUn sSorSet m) := by
  obtain ⟨ta, pa, sa⟩ := ha.ex
  exact .mk' (fun i => by have h := pe_sorSet (p := p) (p2 := p2) (q := q) (pos := pos) (hg i) (by rw [Z.hmg]; exact hm) (hg2 i) (by rw [Z.hmg]; exact hm2) (pa i) (Z.calm hcm i) (he i); rw [Z.hK i] at h; exact h) (sim1 sa im_sorSet pu_sorSet)
end
end ZZ

/-! Z14: own dicts -/
namespace ZZ
open PySem PySem.Spec PyProof.Rows L2 Ob

/-! ### dicts as data -/
def dget (kvs : List (PyData × PyData)) (k : PyData) : Option PyData := (kvs.find? fun q => PyData.eqv q.1 k).map (·.2)
def dput (kvs : List (PyData × PyData)) (k v : PyData) : List (PyData × PyData) :=
  if kvs.any (fun q => PyData.eqv q.1 k) then kvs.map (fun q => if PyData.eqv q.1 k then (q.1, v) else q) else kvs ++ [(k, v)]
def keyV : PyData → Option Key
  | .int i => some (.inl i)
  | .str x => some (.inr x)
  | _ => none
def keyL : List PyData → Option (List Key)
  | [] => some []
  | d :: ds => match keyV d, keyL ds with
    | some k, some ks => some (k :: ks)
    | _, _ => none
theorem keyV_eq {d : PyData} {k : Key} (h : keyV d = some k) : d = keyD k := by
  cases d with
  | int i => cases h; rfl
  | str x => cases h; rfl
  | _ => cases h
theorem keyL_eq : ∀ {ds : List PyData} {ks : List Key}, keyL ds = some ks → ds = ks.map keyD
  | [], _, h => by cases h; rfl
  | d :: ds, ks, h => by
    have h : (match keyV d, keyL ds with | some k, some ks => some (k :: ks) | _, _ => none) = some ks := h
    cases e1 : keyV d with
    | none => rw [e1] at h; cases h
    | some k =>
      cases e2 : keyL ds with
      | none => rw [e1, e2] at h; cases h
      | some ks' =>
        rw [e1, e2] at h
        cases h
        rw [keyV_eq e1, keyL_eq e2]
        rfl
theorem eqv_keyD (a b : Key) : PyData.eqv (keyD a) (keyD b) = decide (a = b) := by
  cases a with
  | inl i =>
    cases b with
    | inl j =>
      show (i == j) = decide (Sum.inl i = Sum.inl j)
      rw [Bool.eq_iff_iff]; simp
    | inr y => simp [keyD, PyData.eqv]
  | inr x =>
    cases b with
    | inl j => simp [keyD, PyData.eqv]
    | inr y =>
      show (x == y) = decide (Sum.inr x = Sum.inr y)
      rw [Bool.eq_iff_iff]; simp
theorem eqv_keyL : ∀ (a b : List Key), PyData.eqvAll (a.map keyD) (b.map keyD) = decide (a = b)
  | [], [] => rfl
  | [], _ :: _ => rfl
  | _ :: _, [] => rfl
  | x :: a, y :: b => by
    show (PyData.eqv (keyD x) (keyD y) && PyData.eqvAll (a.map keyD) (b.map keyD)) = _
    rw [eqv_keyD, eqv_keyL a b, Bool.eq_iff_iff]
    simp
theorem eqv_keyT (a b : List Key) : PyData.eqv (.tuple (a.map keyD)) (.tuple (b.map keyD)) = decide (a = b) := eqv_keyL a b
section
variable {K : PySem.W.Frag} {W : Wt} {H : Hp} {κ : Type} [DecidableEq κ] {D : κ → PyData} (hD : ∀ a b, PyData.eqv (D a) (D b) = decide (a = b))
include hD
theorem ent_get {k : κ} : ∀ {es : List (κ × V)} {kvs : List (PyData × PyData)}, Paired (fun e q => D e.1 = q.1 ∧ Rp K W H e.2 q.2) es kvs →
    (∀ g, dget kvs (D k) = some g → ∃ v, valV es k = some v ∧ Rp K W H v g) ∧ (valV es k).isSome = (dget kvs (D k)).isSome
  | _, _, .nil => ⟨fun g e => (nomatch (show (none : Option PyData) = some g from e)), rfl⟩
  | _, _, .cons (a := e) (b := q) h t => by
    obtain ⟨ih1, ih2⟩ := ent_get (k := k) t
    obtain ⟨ek, ev⟩ := e
    obtain ⟨qk, qv⟩ := q
    obtain ⟨h1, h2⟩ := h
    dsimp only at h1 h2
    subst h1
    by_cases z : ek = k
    · subst z
      have e1 : ∀ l, dget ((D ek, qv) :: l) (D ek) = some qv := fun l => by unfold dget; rw [List.find?_cons_of_pos (by rw [hD]; simp)]; rfl
      exact ⟨fun g e => by rw [e1] at e; cases e; exact ⟨ev, valV_pos rfl, h2⟩, by rw [e1, valV_pos rfl]; rfl⟩
    · have e1 : ∀ l, dget ((D ek, qv) :: l) (D k) = dget l (D k) := fun l => by unfold dget; rw [List.find?_cons_of_neg (by rw [hD]; simpa using z)]
      rw [e1, valV_neg z]
      exact ⟨ih1, ih2⟩
theorem ent_any {k : κ} : ∀ {es : List (κ × V)} {kvs : List (PyData × PyData)}, Paired (fun e q => D e.1 = q.1 ∧ Rp K W H e.2 q.2) es kvs → (es.any fun kv => decide (kv.1 = k)) = kvs.any fun q => PyData.eqv q.1 (D k)
  | _, _, .nil => rfl
  | _, _, .cons h t => by
    rw [List.any_cons, List.any_cons, ent_any t, ← h.1, hD]
theorem ent_map {k : κ} {v : V} {g : PyData} (hv : Rp K W H v g) : ∀ {es : List (κ × V)} {kvs : List (PyData × PyData)}, Paired (fun e q => D e.1 = q.1 ∧ Rp K W H e.2 q.2) es kvs →
    Paired (fun e q => D e.1 = q.1 ∧ Rp K W H e.2 q.2) (es.map fun kv => if kv.1 = k then (kv.1, v) else kv) (kvs.map fun q => if PyData.eqv q.1 (D k) then (q.1, g) else q)
  | _, _, .nil => .nil
  | _, _, .cons (a := e) (b := q) h t => by
    rw [List.map_cons, List.map_cons]
    refine .cons ?_ (ent_map hv t)
    rw [← h.1, hD]
    by_cases z : e.1 = k
    · rw [if_pos z, if_pos (by simpa using z)]
      exact ⟨rfl, hv⟩
    · rw [if_neg z, if_neg (by simpa using z)]
      exact h
theorem ent_put {k : κ} {v : V} {g : PyData} (hv : Rp K W H v g) {es : List (κ × V)} {kvs : List (PyData × PyData)} (h : Paired (fun e q => D e.1 = q.1 ∧ Rp K W H e.2 q.2) es kvs) : Paired (fun e q => D e.1 = q.1 ∧ Rp K W H e.2 q.2) (putK es k v) (dput kvs (D k) g) := by
  unfold putK dput
  rw [ent_any hD h]
  cases kvs.any fun q => PyData.eqv q.1 (D k) with
  | true => exact ent_map hD hv h
  | false => exact Paired.snoc h ⟨rfl, hv⟩
end

/-! ### the readings -/
section
variable {ι : Type} {Z : Cz ι} {e ix : Expr} {me mi : EM} {x : Str} {pos pos' tpos p : Pos} {j : Nat}
theorem key_at {W : Wt} {H : Hp} {v : V} {ds : List PyData} {ks : List Key} (h : Rp Z.K W H v (.tuple ds)) (e : keyL ds = some ks) : ∃ b, v = .ref b ∧ H b = some (.tup (ks.map kV)) := by
  obtain ⟨a, xs, rfl, h1, h2⟩ := h.tupE
  rw [keyL_eq e] at h2
  have e2 : ∀ (ks : List Key) (xs : List V), RpL Z.K W H xs (ks.map keyD) → xs = ks.map kV := fun ks => by
    induction ks with
    | nil => intro xs r; cases r; rfl
    | cons k r ih =>
      intro xs q
      cases q with
      | cons q1 q2 =>
        rw [ih _ q2]
        cases k with
        | inl i => have q1 : Rp Z.K W H _ (.int i) := q1; cases q1; rfl
        | inr i => have q1 : Rp Z.K W H _ (.str i) := q1; cases q1; rfl
  rw [e2 ks xs h2] at h1
  exact ⟨a, rfl, h1.2⟩
theorem ownT_at {prot : List Nat} {K : PySem.W.Frag} {Wo : Wt} {σ : L2.St} {H : Hp} {ρ : Rho} {kvs : List (PyData × PyData)} (r : Rel K prot Wo σ H ρ) (h : ρ[j]? = some (some (.own (.tuple [.dict kvs])))) :
    ∃ a es, σ[j]? = some (some (.ref a)) ∧ H a = some (.dT es) ∧ EntT K (av Wo σ ρ) H es kvs := by
  obtain ⟨v, e1, a, xs, e2, h1, h2⟩ := r.slot j _ h
  subst e2
  exact ⟨a, xs, e1, h1, h2⟩
def mDNewT : EM := fun ρ => .ok (.tuple [.dict []], ρ)
theorem do_dnewT : DO Z (.Dict [] [] pos) mDNewT := by
  refine .mk' (fun i => pe_dnewT) fun Wo σ H ρ Q bd rel post => fun p hp => ?_
  have n := rel.new hp
  exact (RQ.ok post) p _ (rel.fresh hp) (fun z => n (.inl z)) (fun z => n (.inr z)) ⟨p, [], rfl, upd_same, .nil⟩ (Same.step (same_upd hp)) hp
def mDGetT (j : Nat) (mi : EM) : EM := fun ρ => match ρ[j]? with
  | some (some (.own _)) => mi ρ >>= fun r => (match r.2[j]?, r.1 with
    | some (some (.own (.tuple [.dict kvs]))), .tuple ds => (match keyL ds with
      | some _ => (match dget kvs (.tuple ds) with
        | some g => .ok (g, r.2)
        | none => .err)
      | none => .err)
    | _, _ => .err)
  | _ => .err
theorem room1 (i : ι) : (Z.F i).A.units + 1 < cLine := by
  have := Z.u65 i
  omega
theorem de_dgetT (hN : ∀ i, (Z.F i).N[j]? = some x) (hv : ∀ i, Vis (Z.F i).env.scope x) (hi : DE Z ix mi) (hs : NoSl ix)
    (hd : (x == ("__debug__" : Str)) = false := by decide) (hcd : (x == ("__classdict__" : Str)) = false := by decide) : DE Z (.Subscript (.Name x p) ix pos) (mDGetT j mi) := by
  obtain ⟨t, q, s⟩ := hi.ex
  refine .mk' (fun i => pe_dget (room1 i) (pe_var (hN i) (hv i) hd hcd) (q i) hs) fun Wo σ H ρ Q bd rel post => ?_
  unfold mDGetT at post
  split at post
  · rename_i d0 e0
    obtain ⟨v, e1, _⟩ := rel.slot j _ e0
    refine ⟨v, e1, ?_⟩
    refine s Wo σ H ρ _ rel (post.bind.imp fun r h u H1 bd1 rel1 rp1 st1 => ?_)
    obtain ⟨di, ρi⟩ := r
    dsimp only at h rel1 rp1 st1
    split at h
    · rename_i kvs ds e2
      split at h
      · rename_i ks e3
        split at h
        · rename_i g e4
          obtain ⟨a, es, e5, e6, e7⟩ := ownT_at rel1 e2
          rw [e1] at e5
          cases e5
          obtain ⟨b, rfl, hb⟩ := key_at rp1 e3
          rw [keyL_eq e3] at e4
          obtain ⟨w, e8, e9⟩ := (ent_get eqv_keyT e7).1 g e4
          refine ⟨a, w, rfl, ?_, (RQ.ok h) w H1 rel1 e9 st1⟩
          rw [← e8]
          exact DGet.t e6 hb
        · exact h.elim
      · exact h.elim
    · exact h.elim
  · exact post.elim
def mDPutT (j : Nat) (mi me : EM) : SM := fun ρ => me ρ >>= fun r => (match r.2[j]? with
  | some (some (.own _)) => mi r.2 >>= fun q => (match q.2[j]?, q.1 with
    | some (some (.own (.tuple [.dict kvs]))), .tuple ds => (match keyL ds with
      | some _ => if kvs.length < lim then .ok (.nx, q.2.set j (some (.own (.tuple [.dict (dput kvs (.tuple ds) r.1)])))) else .err
      | none => .err)
    | _, _ => .err)
  | _ => .err)
theorem ds_dputT (hN : ∀ i, (Z.F i).N[j]? = some x) (hv : ∀ i, Vis (Z.F i).env.scope x) (hi : DE Z ix mi) (he : DE Z e me) (hd : (x == ("__debug__" : Str)) = false := by decide) (hcd : (x == ("__classdict__" : Str)) = false := by decide)
    (hs : ∀ i, swapsWith e (some (.Subscript (.Name x p) ix tpos)) pos.line (Z.F i).env = pure false := by intro _; rfl) :
    DS Z (.Assign [.Subscript (.Name x p) ix tpos] e pos) (mDPutT j mi me) := by
  obtain ⟨t, q, s⟩ := he.ex
  obtain ⟨ti, qi, si⟩ := hi.ex
  refine .mk' (fun i => ps_dput (room1 i) (pe_var (hN i) (hv i) hd hcd) (qi i) (q i) (hs i)) fun Wo σ H ρ D bd rel post => ?_
  refine s Wo σ H ρ _ rel (post.bind.imp fun r h v H1 bd1 rel1 rp1 st1 => ?_)
  split at h
  · rename_i d0 e0
    obtain ⟨v0, ev, _⟩ := rel1.slot j _ e0
    refine ⟨v0, ev, ?_⟩
    refine si Wo σ H1 r.2 _ rel1 ((RQ.step h st1).bind.imp fun q h2 u H2 bd2 rel2 rp2 st2 => ?_)
    obtain ⟨qd, ρ2⟩ := q
    dsimp only at h2 rel2 rp2 st2
    split at h2
    · rename_i kvs ds e2
      split at h2
      · rename_i ks e3
        split at h2
        · rename_i hl
          obtain ⟨a, es, e5, e6, e7⟩ := ownT_at rel2 e2
          rw [ev] at e5
          cases e5
          obtain ⟨b, rfl, hb⟩ := key_at rp2 e3
          have hlen := Paired.length e7
          refine ⟨a, _, rfl, DPut.t e6 hb (by rw [hlen]; exact Nat.lt_of_lt_of_le hl (lim_le (Nat.le_refl _))), ?_⟩
          have e8 := ent_put (k := ks) eqv_keyT (rp1.step st2) e7
          rw [← keyL_eq e3] at e8
          exact h2.ok σ _ (rel2.write e2 ev ⟨a, _, rfl, upd_same, Paired.mapP e8 fun x y z => ⟨z.1, z.2.upd e2 ev⟩⟩) ((st1.trans st2).trans (step_write e2 ev)) (.refl _)
        · exact h2.elim
      · exact h2.elim
    · exact h2.elim
  · exact h.elim
end
end ZZ

/-! Z15: what a law's row asks -/
namespace ZZ
open PySem PySem.Spec PyProof.Rows L2 Ob

/-! ### K holds no list, no tuple -/
def lstFree (K : PySem.W.Frag) : Bool := K.all fun p => match p.2.cls with
  | .type n => n != "list"
  | _ => true
theorem lookup_mem {α : Type} {l : List (Nat × α)} {a : Nat} {b : α} (h : l.lookup a = some b) : (a, b) ∈ l := by
  induction l with
  | nil => cases h
  | cons p r ih =>
    rw [List.lookup_cons] at h
    split at h
    · rename_i e
      have e : a = p.1 := by simpa using e
      cases h
      rw [e]
      exact List.mem_cons_self
    · exact List.mem_cons_of_mem _ (ih h)
theorem rd_of_sq {K : PySem.W.Frag} (h : lstFree K = true) {H : Hp} {a : Addr} {xs : List V} (hs : SqL K H a xs) : Rd H a (.lst xs) := by
  rcases hs with h' | ⟨o, its, n, hk, hc, _⟩
  · exact h'
  · have := List.all_eq_true.mp h _ (lookup_mem hk)
    dsimp only at this
    rw [hc] at this
    simp at this
/-! ### the law's promise -/
def spLaw (m : Nat) : Sp := fun vs H Q _ => ∃ (a : Addr) (ns : List Int), vs = [.ref a] ∧ Rd H a (.lst (ns.map V.int)) ∧ ns.length ≤ m ∧ ∀ H', Q (.bl true) H'
theorem law_of {P : Program} {w : World} {K : PySem.W.Frag} {mg : Str → Option Value} {base : Heap} {k m : Nat} {f : Addr} {fd : FuncData} {fm : FM}
    (G : FnOk P w K mg base (L2.CX P w) k f fd ["script"] (SpZ K mg 1 [] fm)) (h : ∀ ns : List Int, ns.length ≤ m → ∃ outs, fm [.val (.list (ns.map .int))] = .ok (.val (.bool true), outs)) : FnOk P w K mg base (L2.CX P w) k f fd ["script"] (spLaw m) :=
  G.imp fun vs H Q E ⟨a, ns, e, hs, hl, q⟩ => by
    subst e
    obtain ⟨outs, e⟩ := h ns hl
    refine ⟨rfl, fun _ => False, [.val (.list (ns.map .int))], (fun _ z => z.elim), ⟨.lst ⟨(fun z => z), hs⟩ (RpL.ints ns), (fun _ z => by cases z), trivial⟩, fun i d z => ?_, fun i j d e' a' z => ?_, ?_⟩
    · cases i with
      | zero => simp at z
      | succ i => simp at z
    · cases i with
      | zero => simp at z
      | succ i => simp at z
    · rw [e]
      intro v H' _ r _
      have r : Rp K (fun _ => False) H' v (.bool true) := r
      cases r
      exact q H'
theorem cx_no {P : Program} {w : World} {H : Hp} {s s' : Shared} {e : Value} (h : L2.CX P w [] H s (fun _ _ _ => False) e s') : False := by
  obtain ⟨a, B, H', cls, d, _, _, _, _, _, _, _, hE⟩ := h
  exact hE
/-! ### defs by name -/
structure FnE (K : PySem.W.Frag) (mg : Str → Option Value) (x : Str) (st : Stmt) (ps : List Str) (f : Addr) (fd : FuncData) : Prop where
  F : Fun K x x st f fd
  g : mg x = some (.ref f)
  b : Binds K fd ps []
section
variable {ι : Type} {Z : Cz ι} {st : Stmt}
def mErr : SM := fun _ => .err
theorem ds_err : DS Z st mErr := .mk' (fun i => ps_never) fun Wo σ H ρ D bd rel post => post.elim
end
end ZZ
namespace ZZ
open PySem PySem.Spec PyProof.Rows L2 Ob
theorem np {j : Nat} {l : List Nat} (h : l.contains j = false) : j ∉ l := fun m => by
  rw [List.contains_iff_mem.mpr m] at h
  cases h
theorem npl {l ts : List Nat} (h : (l.all fun i => ts.all fun j => i != j) = true) : ∀ i ∈ l, i ∉ ts := fun i hi m => by
  have := List.all_eq_true.mp (List.all_eq_true.mp h i hi) i m
  simp at this
def blkB (N : List Str) (sc scope : Scope) (own : List (Str × Nat)) : Bool :=
  decide (scope.kind = .function) && (scope.names.all fun y => decide (scope.names.lookup y.1 = some y.2)) && (own.all fun p => decide (N[p.2]? = some p.1)) &&
    (scope.names.all fun y => if y.2 = .free then decide (sc.names.lookup y.1 = some .cell) || decide (sc.names.lookup y.1 = some .free) else true) &&
    (scope.names.all fun y => if y.2 = .local ∨ y.2 = .cell then (own.any fun p => decide (p.1 = y.1)) || !N.contains y.1 else true)
theorem blk_ok {N : List Str} {sc scope : Scope} {own : List (Str × Nat)} (h : blkB N sc scope own = true) : BlkOk N sc scope own := by
  unfold blkB at h
  simp only [Bool.and_eq_true, List.all_eq_true, decide_eq_true_eq] at h
  obtain ⟨⟨⟨⟨h1, h2⟩, h3⟩, h4⟩, h5⟩ := h
  refine ⟨h1, h2, h3, fun y hy e => ?_, fun y hy e => ?_⟩
  · have := h4 y hy
    rw [if_pos e] at this
    simpa using this
  · have := h5 y hy
    rw [if_pos e] at this
    simp only [Bool.or_eq_true, List.any_eq_true, decide_eq_true_eq] at this
    rcases this with ⟨p, hp, ep⟩ | q
    · exact .inl (List.mem_map.mpr ⟨p, hp, ep⟩)
    · exact .inr (by simpa using q)
theorem pil {l ts : List Nat} (h : (ts.all fun i => l.contains i) = true) : ∀ i ∈ ts, i ∈ l := fun i hi => by
  have := List.all_eq_true.mp h i hi
  simpa using this
end ZZ

/-! Z16: is of bools -/
namespace ZZ
open PySem PySem.Spec PyProof.Rows L2 Ob
def sIsB : PyData → PyData → Res PyData
  | .bool a, .bool b => .ok (.bool (decide (a = b)))
  | _, _ => .err
def sNotB : PyData → PyData → Res PyData
  | .bool a, .bool b => .ok (.bool (!decide (a = b)))
  | _, _ => .err
theorem pu_isB : Pure2 sIsB := fun d e c as => by
  unfold sIsB
  split <;> exact fun z => nomatch z
theorem pu_notB : Pure2 sNotB := fun d e c as => by
  unfold sNotB
  split <;> exact fun z => nomatch z
theorem im_isB {K : PySem.W.Frag} : Imp2 K rIsB sIsB := by
  intro W H x y d e Q hw bd hx hy ⟨g, eg, hg⟩
  unfold sIsB at eg
  split at eg
  · cases eg; cases hx; cases hy
    exact ⟨_, _, rfl, rfl, hg _ H same_refl (.bl _)⟩
  · cases eg
theorem im_notB {K : PySem.W.Frag} : Imp2 K rNotB sNotB := by
  intro W H x y d e Q hw bd hx hy ⟨g, eg, hg⟩
  unfold sNotB at eg
  split at eg
  · cases eg; cases hx; cases hy
    exact ⟨_, _, rfl, rfl, hg _ H same_refl (.bl _)⟩
  · cases eg
section
variable {ι : Type} {Z : Cz ι} {a b : Expr} {ma mb : EM} {pos : Pos}
theorem de_isB (ha : DE Z a ma) (hb : DE Z b mb) : DE Z (.Compare a [.Is] [b] pos) (mBin sIsB ma mb) := de_cmp (fun i => op_isBl) im_isB pu_isB ha hb (nomark _)
theorem de_notB (ha : DE Z a ma) (hb : DE Z b mb) : DE Z (.Compare a [.IsNot] [b] pos) (mBin sNotB ma mb) := de_cmp (fun i => op_notBl) im_notB pu_notB ha hb (nomark _)
theorem dt_isB (ha : DE Z a ma) (hb : DE Z b mb) : DT Z (.Compare a [.Is] [b] pos) (mTest (mBin sIsB ma mb)) := dt_cmp (fun i => op_isBl) im_isB pu_isB ha hb (nomark _)
theorem dt_notB (ha : DE Z a ma) (hb : DE Z b mb) : DT Z (.Compare a [.IsNot] [b] pos) (mTest (mBin sNotB ma mb)) := dt_cmp (fun i => op_notBl) im_notB pu_notB ha hb (nomark _)
end
end ZZ

/-! Z17: two own lists at once -/
namespace ZZ
open PySem PySem.Spec PyProof.Rows L2 Ob
def mParO (i j : Nat) (ma mb : EM) : SM := fun ρ => ma ρ >>= fun r => mb r.2 >>= fun q => .ok (.nx, (q.2.set i (some (.own r.1))).set j (some (.own q.1)))
theorem set_comm' {α : Type} {l : List α} {i j : Nat} {a b : α} (h : i ≠ j) : (l.set i a).set j b = (l.set j b).set i a := List.set_comm a b h
section
variable {ι : Type} {Z : Cz ι}
theorem ds_parO {i j : Nat} {x y : Str} {a b : Expr} {ma mb : EM} {px py pt pos : Pos} {kt k2 pt2} (hi : ∀ u, (Z.F u).N[i]? = some x) (hj : ∀ u, (Z.F u).N[j]? = some y) (hij : i ≠ j) (pi : i ∉ Z.prot) (pj : j ∉ Z.prot)
    (hx : ∀ u, (Z.F u).env.scope.names.lookup x = some .local) (hy : ∀ u, (Z.F u).env.scope.names.lookup y = some .local) (ha : DO Z a ma) (hb : DO Z b mb)
    (hw : ∀ u, swappedStores [.Tuple [.Name x px, .Name y py] kt pt] (.Tuple [a, b] k2 pt2) (Z.F u).env = pure (some [x, y]))
    (hs : ∀ u, swapsWithSole [.Tuple [.Name x px, .Name y py] kt pt] (.Tuple [a, b] k2 pt2) pos.line (Z.F u).env = pure false)
    (h1 : ∀ i, starEach [a, b] (Z.F i).env = (false, eval a (Z.F i).env) :: starEach [b] (Z.F i).env := by intro _; rfl) (h2 : ∀ i, starEach [b] (Z.F i).env = (false, eval b (Z.F i).env) :: starEach [] (Z.F i).env := by intro _; rfl) (hcm : Z.cm := by exact trivial) :
    DS Z (.Assign [.Tuple [.Name x px, .Name y py] kt pt] (.Tuple [a, b] k2 pt2) pos) (mParO i j ma mb) := by
  obtain ⟨ta, qa, sa⟩ := ha.ex
  obtain ⟨tb, qb, sb⟩ := hb.ex
  refine .mk' (fun u => L2.ps_par (Z.calm hcm u) (Z.nd u) (hi u) (hj u) hij (hx u) (hy u) (pa_cons (qa u) (pa_cons (qb u) pa_nil (h2 u)) (h1 u)) (hw u) (hs u)) fun Wo σ H ρ D bd rel post => ?_
  refine sa Wo σ H ρ _ rel (post.bind.imp fun r h p H1 bd1 rel1 n1 n2 ow1 st1 hp => ?_)
  refine sb (pls Wo p) σ H1 r.2 _ rel1 ((RQ.step h st1).bind.imp fun q g s H2 bd2 rel2 m1 m2 ow2 st2 hs2 => ?_)
  refine ⟨.ref p, .ref s, rfl, ?_⟩
  obtain ⟨a1, e1, hp1⟩ := ow1.ref
  cases e1
  have nps : p ≠ s := fun e => by rw [e] at hp1; exact hp1 hs2
  have np2 : ¬ ownAt σ q.2 p := fun z => (st2.own p z).elim n2 hp1
  -- s at j
  have relJ : Rel Z.K Z.prot (pls Wo p) (σ.set j (some (.ref s))) H2 (q.2.set j (some (.own q.1))) := rel2.set_own m1 m2 ow2
  have npJ : ¬ ownAt (σ.set j (some (.ref s))) (q.2.set j (some (.own q.1))) p := fun z => (ownAt_set_own z).elim nps np2
  have owJ : OwnR Z.K (av (pls Wo p) (σ.set j (some (.ref s))) (q.2.set j (some (.own q.1)))) H2 (.ref p) r.1 := by
    refine OwnR.keep ow1 (fun b o n e => st2.keep b o (fun z => n (.inr z)) e) (fun b z => ?_) fun a e o eo => ?_
    · rcases z with z | z
      · exact .inl (.inl z)
      · rcases ownAt_set_own z with z | z
        · exact .inr (by rw [z]; exact hs2)
        · exact (st2.own b z).imp .inr id
    · cases e
      exact st2.keep _ o n2 eo
  have relI := relJ.set_own (j := i) n1 npJ owJ
  have e1 : ((σ.set i (some (V.ref p))).set j (some (.ref s))) = (σ.set j (some (.ref s))).set i (some (.ref p)) := set_comm' hij
  have e2 : ((q.2.set i (some (Slot.own r.1))).set j (some (.own q.1))) = (q.2.set j (some (.own q.1))).set i (some (.own r.1)) := set_comm' hij
  rw [e1]
  rw [e2] at g
  refine RQ.ok g _ H2 relI ?_ ?_
  · refine ⟨fun b o n e => st2.keep b o (fun z => (st1.own b z).elim n (fun z => by rw [z] at e; cases e)) (st1.keep b o n e), fun b z => ?_, fun b n => st2.there b (st1.there b n)⟩
    rcases ownAt_set_own z with z | z
    · exact .inr (by rw [z]; exact hp)
    · rcases ownAt_set_own z with z | z
      · refine .inr ?_
        rw [z]
        cases e : H s with
        | none => rfl
        | some o => exact absurd hs2 (st1.there s (by rw [e]; simp))
      · rcases st2.own b z with z | z
        · exact st1.own b z
        · refine .inr ?_
          cases e : H b with
          | none => rfl
          | some o => exact absurd z (st1.there b (by rw [e]; simp))
  · exact (Prot.set pj).trans (Prot.set pi)
end
end ZZ

/-! Z18: xs.index(e) of a list -/
namespace ZZ
open PySem PySem.Spec PyProof.Rows L2 Ob
def sIndex (ds : List PyData) (d : PyData) : Res PyData := if SeqAt.shaped (.list ds) && SeqAt.shaped d then (match ds.findIdx? fun z => PyData.eqv z d with
  | some j => .ok (.int (j : Nat))
  | none => .err) else .err
def mIndex (mo me : EM) : EM := fun ρ => mo ρ >>= fun r => match r.1 with
  | .list ds => me r.2 >>= fun q => sIndex ds q.1 >>= fun g => .ok (g, q.2)
  | _ => .err
theorem pu_index (ds d) : ∀ c as, sIndex ds d ≠ .exc c as := fun c as => by
  unfold sIndex
  split <;> (try split) <;> exact fun z => nomatch z
section
variable {ι : Type} {Z : Cz ι} {o e : Expr} {mo me : EM} {pos apos : Pos}
theorem de_index (ho : DE Z o mo) (he : DE Z e me)
    (hbase : ∀ i, attributeBase o "index" (Z.F i).env (eval o (Z.F i).env) = eval o (Z.F i).env := by intro _; rfl)
    (hfew : ∀ i, ((backTo pos (starEach [e] (Z.F i).env)).all (fun x => !x.1) && (backToKw pos (keywordEach [] (Z.F i).env)).all (fun x => x.1.isSome) && decide (([e] : List Expr).length + ([] : List Keyword).length + (if ([] : List Keyword).isEmpty then 0 else 1) < 30)) = true := by intro _; rfl)
    (hline : (apos.endLine == pos.line) = true := by rfl) (hs : ∀ i, starEach [e] (Z.F i).env = (false, eval e (Z.F i).env) :: starEach [] (Z.F i).env := by intro _; rfl) (hplain : ∀ i, (backTo pos (starEach [] (Z.F i).env)).any (·.1) = false := by intro _; rfl) :
    DE Z (.Call (.Attribute o "index" apos) [e] [] pos) (mIndex mo me) := by
  obtain ⟨to, po, so⟩ := ho.ex
  obtain ⟨te, pe, se⟩ := he.ex
  refine .mk' (fun i => pe_bmZ (r := rIndexD Z.K) PySem.F.plainAttrs_list PySem.F.slot_list_index PySem.F.type_list_index (fun i => by rw [← Z.hK i]; exact mt_indexD (Cz.u65 i)) po (fun i => pa_cons (pe i) pa_nil (hs i)) hbase hfew hline hs hplain i) fun Wo σ H ρ Q bd rel post => ?_
  refine so Wo σ H ρ _ rel (post.bind.imp fun r1 h v H1 bd1 rel1 rp1 st1 => ?_)
  obtain ⟨d1, ρ1⟩ := r1
  dsimp only at h rel1 rp1 st1
  split at h
  · rename_i ds
    obtain ⟨a, xs, rfl, hl, hr⟩ := rp1.lstE
    refine ⟨.inl ⟨rfl, xs, hl.sq⟩, ?_⟩
    refine se Wo σ H1 ρ1 _ rel1 ((RQ.step h st1).bind.imp fun q h2 u H2 bd2 rel2 rp2 st2 => ?_)
    obtain ⟨g, e1, e2⟩ := h2.bind.pure (pu_index _ _)
    have hx := Rp.step rp1 st2
    unfold sIndex at e1
    split at e1
    · rename_i sh
      simp only [Bool.and_eq_true] at sh
      cases f : ds.findIdx? fun z => PyData.eqv z q.1 with
      | none => rw [f] at e1; cases e1
      | some j =>
        rw [f] at e1
        cases e1
        obtain ⟨hj, p1, p2⟩ := List.findIdx?_eq_some_iff_getElem.mp f
        refine ⟨a, u, q.1, ds, j, ds[j], rfl, rfl, Rp.dp _ hx, Rp.dp _ rp2, sh.1, sh.2, List.getElem?_eq_getElem hj, p1, fun m z' hm hz => ?_, ?_⟩
        · obtain ⟨hm', ez⟩ := List.getElem?_eq_some_iff.mp hz
          have := p2 m hm
          rw [← ez]
          simpa using this
        · exact (RQ.ok e2) _ H2 rel2 (.int _) (st1.trans st2)
    · cases e1
  · exact h.elim
end
end ZZ

/-! Z19: enumerate(t) of a tuple -/
namespace ZZ
open PySem PySem.Spec PyProof.Rows L2 Ob
open AutoSeq1 (wpAny_loadPart')
theorem enumT_new (l : Addr) (items : Array Value) (n : Nat) (dct : Option Addr) (sl : Array (Option Value)) :
    Meets (Builtin.«enumerate.__new__» ⟨[.type "enumerate", .ref l], []⟩) (fun _ R s => s.heap.get? l = some { cls := .type "tuple", dict := dct, data := .seq items n, slots := sl } ∧
      R (.ok (.ret (.ref (s.heap.push { cls := .type "tuple_iterator", data := .fields #[.ref l, .int 0 0] }).objs.size)))
        { s with heap := (s.heap.push { cls := .type "tuple_iterator", data := .fields #[.ref l, .int 0 0] }).push { cls := .type "enumerate", data := .fields #[.none, .bool false, .ref s.heap.objs.size, rawInt 0, .none, .none] } }) :=
  .of_wp fun prog w A R s h => by
    obtain ⟨hp, g, d, tk, os⟩ := s; obtain ⟨hl, h⟩ := h
    have hsub := sub_enumerate
    have hL : Heap.IsTuple (Shared.heap ⟨hp, g, d, tk, os⟩) l items := ⟨_, hl, rfl, n, rfl⟩
    wp_walk using wpAny_loadPart' hl
    refine wpAny_stack_any fun st => wpAny_pure ?_
    split
    · rename_i c _ _ _ _ _
      cases (c == Value.type "enumerate")
      · wp_walk using wpAny_loadPart' hl, wpAny_pyIter_tuple hL
        exact ⟨_, rfl, h⟩
      · wp_walk using wpAny_loadPart' hl, wpAny_pyIter_tuple hL
        exact ⟨_, rfl, h⟩
    · wp_walk using wpAny_loadPart' hl, wpAny_pyIter_tuple hL
      exact ⟨_, rfl, h⟩
section
variable {prog : Program} {w : World} {A : Around} {E : Value → Shared → Prop} {s : Shared}
theorem call_enumT {l : Addr} {items : Array Value} {Q : Value → Shared → Prop} (hL : s.heap.IsTuple l items)
    (h : ∀ h', IsEnum h' (s.heap.objs.size + 1) s.heap.objs.size 0 .none → h'.IsTupleIter s.heap.objs.size l 0 → h'.objs.size = s.heap.objs.size + 2 →
      (∀ b o, s.heap.get? b = some o → h'.get? b = some o) → Q (.ref (s.heap.objs.size + 1)) { s with heap := h' }) :
    wpAny (model prog w) A (call (.type "enumerate") [.ref l]) Q E s := by
  obtain ⟨⟨c, dct, dt, sl⟩, hl, hc, n, hd⟩ := hL
  replace hc : c = .type "tuple" := hc
  replace hd : dt = .seq items n := hd
  subst hc hd
  refine callType_new F.called_enumerate (by decide) (F.typeCall_enumerate_1 _) (F.newCall_enumerate_1 _) (fun obj => F.args_object_init_2 obj _) F.entry_enumerate_new
    (enumT_new l items n dct sl) ⟨hl, ?_⟩
  have hz : (s.heap.push { cls := .type "tuple_iterator", data := .fields #[.ref l, .int 0 0] }).objs.size = s.heap.objs.size + 1 := Heap.size_push ..
  show _ ∧ _
  rw [hz]
  have he : IsEnum ((s.heap.push { cls := .type "tuple_iterator", data := .fields #[.ref l, .int 0 0] }).push
      { cls := .type "enumerate", data := .fields #[.none, .bool false, .ref s.heap.objs.size, rawInt 0, .none, .none] }) (s.heap.objs.size + 1) s.heap.objs.size 0 .none := by
    have := Heap.get?_push_size (s.heap.push { cls := .type "tuple_iterator", data := .fields #[.ref l, .int 0 0] })
      (o := { cls := .type "enumerate", data := .fields #[.none, .bool false, .ref s.heap.objs.size, rawInt 0, .none, .none] }) rfl
    rw [hz] at this; exact this
  refine ⟨⟨_, he, rfl⟩, h _ he ⟨_, Heap.get?_push_of_some _ (Heap.get?_push_size _ rfl), rfl, rfl⟩ (by rw [Heap.size_push, hz]) fun b o x => Heap.get?_push_of_some _ (Heap.get?_push_of_some _ x)⟩
end
def IteT (K : PySem.W.Frag) (a : Addr) : It :=
  ⟨fun i H => ∃ (xs : List V) (x : V), SqT K H a xs ∧ xs[i]? = some x, fun i H v H' => ∃ T x, v = .ref T ∧ H T = none ∧ H' = upd H T (.tup [.int (i : Nat), x]) ∧ ∀ xs, SqT K H a xs → xs[i]? = some x, fun i H => ∃ xs : List V, SqT K H a xs ∧ xs.length ≤ i⟩
theorem turn_enumT {P : Program} {w : World} {K : PySem.W.Frag} {elts : List Expr} {kk : Nat} {tpos : Pos} (a e it : Addr) :
    Turn P w K (.Tuple elts kk tpos) (IteT K a) [e, it] e (fun i h => (∃ old, IsEnum h e it ((i : Nat) : Int) old) ∧ h.IsTupleIter it a i ∧ e ≠ it) where
  mem := by simp
  obj := fun i h st b hb => by
    obtain ⟨⟨old, he⟩, ⟨o, ho, hc, hd⟩, _⟩ := st
    have e' : b = e ∨ b = it := by simpa using hb
    rcases e' with z | z
    · rw [z]; exact ⟨_, he, fun v q => nomatch q⟩
    · rw [z]; exact ⟨o, ho, fun v q => by rw [hd] at q; cases q⟩
  keep := fun i h h' st k => let ⟨⟨old, he⟩, hi, hne⟩ := st; ⟨⟨old, k e (by simp) _ he⟩, hi.at fun o q => k it (by simp) o q, hne⟩
  item := by
    intro X hP hw hK hc i pins s σ H E I hf st hg
    subst hP hw hK
    obtain ⟨⟨old, he⟩, hit, hne⟩ := st
    obtain ⟨xs, x, hq, hx⟩ := hg
    obtain ⟨its, rv, p, hz⟩ := I.tuple hq
    obtain ⟨u, hu, ru⟩ := rv.get hx
    have hel : e < s.heap.objs.size := Heap.lt_size he
    have hil : it < s.heap.objs.size := by obtain ⟨_, q, _⟩ := hit; exact Heap.lt_size q
    have hai : a ≠ it := fun z => by
      obtain ⟨o1, g1, c1, _⟩ := hit
      obtain ⟨o2, g2, c2, _⟩ := p
      rw [z, g1] at g2
      cases g2
      rw [c1] at c2
      exact absurd (Value.type.inj c2) (by decide)
    have hae : e ≠ a := fun z => by
      obtain ⟨o2, g2, c2, _⟩ := p
      rw [← z] at g2
      rw [show s.heap.get? e = some _ from he] at g2
      cases g2
      exact absurd (Value.type.inj c2) (by decide)
    have hi : i < its.toArray.size := by simpa using (List.getElem?_eq_some_iff.mp hu).1
    refine wpAny_pyNext_enum_itemC (Draws.tuple (A := X.A.in1) (by simpa using I.ok.hd hc) it a hai its.toArray) he ⟨hit, p⟩ hi hne (by simp [hne, hae]) fun x' h' tk hx' ho hst' hT hsz hk => ?_
    have ex : x' = u := by
      have q1 : its[i]? = some x' := by simpa using hx'
      rw [hu] at q1
      exact (Option.some.inj q1).symm
    subst ex
    obtain ⟨hit', _⟩ := hst'
    refine ⟨_, rfl, wpAny_letOwnedTupleGo_enum (s := { s with heap := h', toks := tk + 1 }) ho fun h'' he' sb => ?_⟩
    have hT2 : h''.get? s.heap.objs.size = some { cls := .type "tuple", data := .seq #[.int i tk, x'] } := (sb.2 _ (Nat.ne_of_gt hel)).trans hT
    have new : ObjOk X.prog X.w (upd H s.heap.objs.size (.tup [.int (i : Nat), x])) h'' s.heap.objs.size (.tup [.int (i : Nat), x]) :=
      ⟨by show 2 ≤ sizeLine; decide, [.int i tk, x'], .cons ⟨_, rfl⟩ (.cons ru .nil), ⟨_, hT2, rfl, _, rfl⟩⟩
    have I1 : Inv X pins σ (upd H s.heap.objs.size (.tup [.int (i : Nat), x])) { s with heap := h'', toks := tk + 1 } :=
      I.turnedNew (ch := [e, it]) (fun b ob hb q => (sb.2 b (fun z => hb (by simp [z]))).trans (hk b ob (fun z => hb (by simp [z])) (fun z => hb (by simp [z])) q)) hf (Nat.le_refl _) new
    refine ⟨.ref s.heap.objs.size, _, I1, rfl, ⟨_, x, rfl, I.hok.fresh (Nat.le_refl _), rfl, fun ys hy => by rw [I.tuple_inj hy hq]; exact hx⟩, ⟨⟨x', ?_⟩, hit'.at fun o q => (sb.2 it (Ne.symm hne)).trans q, hne⟩, fun b hb => ?_⟩
    · have e1 : ((i + 1 : Nat) : Int) = (i : Int) + 1 := by omega
      rw [e1]; exact he'
    · have hb' : b < s.heap.objs.size := by
        have e' : b = e ∨ b = it := by simpa using hb
        rcases e' with z | z
        · rw [z]; exact hel
        · rw [z]; exact hil
      rw [upd_ne (Nat.ne_of_lt hb')]
      exact (hf b hb).1
  done := by
    intro X hP hw hK hc i pins s σ H E I hf st hg
    subst hP hw hK
    obtain ⟨⟨old, he⟩, hit, hne⟩ := st
    obtain ⟨xs, hq, hx⟩ := hg
    obtain ⟨its, rv, p, hz⟩ := I.tuple hq
    obtain ⟨f0, f1, f2, f3, f4, f5⟩ := hf it (by simp)
    have hl := rv.length
    have hai : a ≠ it := fun z => by
      obtain ⟨o1, g1, c1, _⟩ := hit
      obtain ⟨o2, g2, c2, _⟩ := p
      rw [z, g1] at g2
      cases g2
      rw [c1] at c2
      exact absurd (Value.type.inj c2) (by decide)
    have hno : its.toArray[i]? = none := by simp; omega
    have hh : X.A.in1.handled = none := by simpa using I.ok.hd hc
    have D : Draws X.prog X.w X.A.in1 it [it, a] i (fun _ _ => True) (fun j h => j = i ∧ h.IsTupleIter it a i ∧ h.IsTuple a its.toArray) :=
      { live := fun _ _ st => let ⟨o, ho, _⟩ := st.2.1; ⟨o, ho⟩
        frame := fun _ _ _ st hk => ⟨st.1, st.2.1.at fun o e => hk it (by simp) o e, st.2.2.at fun o e => hk a (by simp) o e⟩
        item := fun j _ _ _ hj st _ => by have := st.1; omega
        done := fun s Q E st hE => wpAny_nextOf_tuple_end hh st.2.1 st.2.2 hno hE }
    exact wpAny_pyNext_enum_endD D he ⟨rfl, hit, p⟩ fun h' eb => ⟨rfl, I.turned (t' := s.toks) (fun b o hb q => eb b o hb q) f0 f1 f3 f4 f5⟩
  self := fun A i s Q E st h => let ⟨⟨_, he⟩, _⟩ := st; wpAny_pyIter_enum he h
def iEnumT (K : PySem.W.Frag) (ta : TA) : TI := fun σ H R => ta σ H fun vs H1 => ∃ a xs, vs = [.ref a] ∧ SqT K H1 a xs ∧ R (IteT K a) H1
theorem pi_enumT {X : Cx} {e : Expr} {ta : TA} {p pos tpos : Pos} {elts : List Expr} {kk : Nat} (hg : Gl X "enumerate") (hm : X.mg "enumerate" = none) (ha : PA X [e] ta) (hs : starEach [e] X.env = [(false, eval e X.env)] := by rfl) :
    PI X (.Tuple elts kk tpos) (.Call (.Name "enumerate" p) [e] [] pos) (iEnumT X.K ta) := by
  refine ⟨fun pins s σ H R I h => ?_⟩
  refine Call_ (ld_blt I hg hm boot_enumerate (PyProof.Rows.callWith_type1 (thn (ha.run pos pins s σ H _ I h) fun us s1 ⟨vs, H1, I1, r1, q1⟩ => ?_) hs rfl))
  obtain ⟨a, xs, ex, hq, q⟩ := q1
  subst ex
  cases r1 with
  | cons r rr =>
    cases rr
    cases r
    obtain ⟨its, rv, p', hz⟩ := I1.tuple hq
    refine call_enumT p' fun h' he hit hsz hk => wpAny_pyIter_enum he ?_
    have I2 : Inv X pins σ H1 { s1 with heap := h' } := I1.kept (t' := s1.toks) hk
    refine ⟨s1.heap.objs.size + 1, [s1.heap.objs.size + 1, s1.heap.objs.size], _, _, H1, rfl, I2, turn_enumT a (s1.heap.objs.size + 1) s1.heap.objs.size, ⟨⟨.none, he⟩, hit, Nat.succ_ne_self _⟩, fun b hb => ?_, q⟩
    have e' : b = s1.heap.objs.size + 1 ∨ b = s1.heap.objs.size := by simpa using hb
    have hle : s1.heap.objs.size ≤ b := by
      rcases e' with z | z
      · rw [z]; exact Nat.le_add_right _ _
      · rw [z]; exact Nat.le_refl _
    exact I1.fpOk hle (I1.hok.fresh hle)
theorem del_enumT {K : PySem.W.Frag} {W0 : Wt} {H0 : Hp} {a : Addr} {xs : List V} {ds : List PyData} (h : TuW K W0 H0 a xs) (r : RpL K W0 H0 xs ds) : Del K (IteT K a) W0 H0 (enumD ds) := fun H k i => by
  have hs := sq_ofT h k
  unfold enumD
  refine ⟨fun d e => ?_, fun l => ?_⟩
  · rw [List.getElem?_zipWith] at e
    cases e2 : ds[i]? with
    | none =>
      rw [e2] at e
      revert e; cases (List.range ds.length)[i]? <;> intro e <;> cases e
    | some d2 =>
      have hi : i < ds.length := (List.getElem?_eq_some_iff.mp e2).1
      rw [e2, List.getElem?_range hi] at e
      cases e
      obtain ⟨v, q1, q2⟩ := r.get e2
      refine ⟨⟨xs, v, hs, q1⟩, fun x H' y => ?_⟩
      obtain ⟨T, x1, rfl, hT, rfl, f1⟩ := y
      have z1 := f1 xs hs
      rw [q1] at z1
      cases z1
      exact ⟨same_upd hT, fun W w wn => .tupN wn hT (.cons (.int _) (.one (Rp.keep k w _ q2)))⟩
  · rw [List.length_zipWith, List.length_range, Nat.min_self] at l
    exact ⟨xs, hs, by rw [r.len]; exact l⟩
def iEnT (m : EM) : IM := fun ρ => m ρ >>= fun r => match r.1 with | .tuple ds => .ok (enumD ds, r.2) | _ => .err
section
variable {ι : Type} {Z : Cz ι} {a : Expr} {ma : EM} {pos : Pos}
theorem di_enumT {p tpos : Pos} {elts : List Expr} {kk : Nat} (hg : ∀ i, Gl (Z.F i) "enumerate") (hm : Z.mg "enumerate" = none) (ha : DE Z a ma) (hs : ∀ i, starEach [a] (Z.F i).env = [(false, eval a (Z.F i).env)] := by intro _; rfl)
    (hs' : ∀ i, starEach [a] (Z.F i).env = (false, eval a (Z.F i).env) :: starEach [] (Z.F i).env := by intro _; rfl) : DI Z (.Tuple elts kk tpos) (.Call (.Name "enumerate" p) [a] [] pos) (iEnT ma) := by
  obtain ⟨t, q, s⟩ := ha.ex
  refine .mk' (t := iEnumT Z.K (tCons t tNil)) (fun i => by rw [← Z.hK i]; exact pi_enumT (hg i) (by rw [Z.hmg]; exact hm) (pa_cons (q i) pa_nil (hs' i)) (hs i)) fun Wo σ H ρ R bd rel post => ?_
  refine s Wo σ H ρ _ rel (post.bind.imp fun r h v H1 bd1 rel1 rp1 st1 => ?_)
  obtain ⟨d, ρ1⟩ := r
  cases d with
  | tuple ds =>
    obtain ⟨a, xs, rfl, h1, h2⟩ := Rp.tupE rp1
    refine ⟨a, xs, rfl, h1.sq, RQ.ok h _ H1 rel1 (del_enumT h1 h2) ?_ st1⟩
    show (enumD ds).length ≤ sizeLine
    unfold enumD
    rw [List.length_zipWith, List.length_range, Nat.min_self, ← h2.len]
    exact bd1.2 a xs h1.sq
  | _ => exact False.elim h
end
end ZZ

/-! Z20: raise X() of an own exception without __init__ -/
namespace ZZ
open PySem PySem.Spec PyProof.Rows L2 Ob
abbrev veB : List Value := [.type "ValueError", .type "Exception", .type "BaseException", .type "object"]
structure ExcT (K : PySem.W.Frag) (mg : Str → Option Value) (c : Str) (C : Addr) : Prop where
  g : mg c = some (.ref C)
  x : PySem.W.excIn K C veB "ValueError.__new__" = true
  k : PySem.W.keepIn K (.ref C) = true
  b : PySem.W.subIn K (.ref C) (.type "BaseException") = some true
  t : PySem.W.typeIn K (.ref C) = some (.type "type")
theorem pmk_own0 {X : Cx} {C : Addr} {bmB : List Value} {B newId initId : String} {x : Str} {p pos : Pos} (F : ExcBaseFacts B newId initId bmB) (q : PySem.W.excIn X.K C bmB newId = true) (gC : X.mg x = some (.ref C)) (kC : PySem.W.keepIn X.K (.ref C) = true) (r : Raises X (.ref C)) (hg : Gl X x)
    (hdb : (x == ("__debug__" : Str)) = false := by decide) : PMk X (.Call (.Name x p) [] [] pos) (fun _ H Q => Q (.ref C) none H) := by
  intro pins s σ H Q I h
  refine wpAny_Call_Name_kw (ld_glob I hg gC ?_ hdb)
  refine PySem.W.callWith_K0 I.kIn kC ?_
  obtain ⟨bm, N, nm, qn, bs, hdct, sn, sub, ab, col, dd, k0, k1, k2, k3, k5, mN, hC, hN, hni, T⟩ := exc_obj I.kIn q
  refine wpAny_call_exc_subT F T hC hN hni (fun h' e hm => ?_) (by show 0 ≤ sizeLine; omega)
  exact mk_of I hm r h (I.hok.gone hm.new)
def mRaise (c : Str) : SM := fun _ => .exc c []
theorem ds_raise0 {ι : Type} {Z : Cz ι} {x : Str} {C : Addr} {p pos pos' : Pos} (T : ExcT Z.K Z.mg x C) (hg : ∀ i, Gl (Z.F i) x) (hdb : (x == ("__debug__" : Str)) = false := by decide) (hcm : Z.cm := by exact trivial) : DS Z (.Raise (some (.Call (.Name x p) [] [] pos)) none pos') (mRaise x) := by
  refine .mk' (fun i => ps_raise (Z.calm hcm i) (Z.tk i) (pmk_own0 PySem.F.excBase_ValueError (by rw [Z.hK]; exact T.x) (by rw [Z.hmg]; exact T.g) (by rw [Z.hK]; exact T.k) (raises_own (by rw [Z.hK]; exact T.b) (by rw [Z.hK]; exact T.t)) (hg i) hdb)) fun Wo σ H ρ D bd rel post => ?_
  exact post (.ref C) none H ⟨fun _ _ _ e => e, fun _ e => e⟩ ⟨T.g, rfl⟩
end ZZ

/-! Z21: a def that calls what it is handed within try; a suite with the error by name -/
namespace ZZ
open PySem PySem.Spec PyProof.Rows L2 Ob LamX
section
variable {ι : Type}
/-- the def that is handed a lambda, called from any of Z -/
def Zhd (Z : Cz ι) (hk : 1 ≤ Z.k) (hcm : Z.cm) (N : List Str) (nd : N.Nodup) (x : Str) (sg : Scope) (g : Addr) (cdg : Value) : Cz (ι × Shared × Hp) where
  F := fun i => (cxOf C8.CX0 (Z.F i.1).prog (Z.F i.1).w (Z.F i.1).K (Z.F i.1).mg (Z.F i.1).base N x sg g cdg (Z.F i.1).A (Z.F i.1).stack i.2.1 i.2.2 C8.E0).nox
  P := Z.P
  w := Z.w
  K := Z.K
  mg := Z.mg
  base := Z.base
  EX := fun _ _ _ => False
  prot := []
  k := 0
  hP := fun i => Z.hP i.1
  hw := fun i => Z.hw i.1
  hK := fun i => Z.hK i.1
  hmg := fun i => Z.hmg i.1
  hb := fun i => Z.hb i.1
  nd := fun _ => nd
  cm := False
  calm := fun h => h.elim
  room := fun h => h.elim
  un := fun i => by
    have := (Z.room hcm i.1).un
    show (Z.F i.1).A.units + 3 + 200 < cLine
    omega
  tk := fun _ => takesF
  pO := fun _ => PassesOwn.never
/-- the suite of an except clause that holds the exception at a, of the class D -/
def Zsu (Z : Cz ι) (a D : Addr) : Cz {p : ι × Obj × List (Addr × Obj) // Zc (.ref D) none p.2.1 ∧ ∃ vs, p.2.1.data = .fields vs} where
  F := fun i => (Z.F i.1.1).suite a ((a, i.1.2.1) :: i.1.2.2)
  P := Z.P
  w := Z.w
  K := Z.K
  mg := Z.mg
  base := Z.base
  EX := fun _ _ _ => False
  prot := Z.prot
  k := 0
  hP := fun i => Z.hP i.1.1
  hw := fun i => Z.hw i.1.1
  hK := fun i => Z.hK i.1.1
  hmg := fun i => Z.hmg i.1.1
  hb := fun i => Z.hb i.1.1
  nd := fun i => Z.nd i.1.1
  cm := False
  calm := fun h => h.elim
  room := fun h => h.elim
  un := fun i => Z.un i.1.1
  tk := fun _ => takesF
  pO := fun _ => PassesOwn.never
end
/-! ### isinstance(error, X) -/
def mIsE (j : Nat) (a : Addr) (b : Bool) : EM := fun ρ => match ρ[j]? with
  | some (some (.raw (.ref a'))) => if a' = a then .ok (.bool b, ρ) else .err
  | _ => .err
section
variable {ι : Type} {Z : Cz ι} {a D : Addr} {e x : Str} {j : Nat} {p p1 p2 pos : Pos} {b : Bool}
theorem de_isE0 {cv : V} {u0 : Value} (C : ExcC Z.K D) (hN : ∀ i, ((Zsu Z a D).F i).N[j]? = some e) (hv : ∀ i, Vis ((Zsu Z a D).F i).env.scope e) (hg : ∀ i, Gl ((Zsu Z a D).F i) "isinstance") (hm : Z.mg "isinstance" = none)
    (hx : ∀ i, PE ((Zsu Z a D).F i) (.Name x p2) (tC cv)) (hr : ∀ u, RelV cv u → u = u0) (hk : PySem.W.kitOne Z.K (.ref D) u0 = some b)
    (hd : (e == ("__debug__" : Str)) = false := by decide) (hcd : (e == ("__classdict__" : Str)) = false := by decide)
    (he : ∀ i, starEach [.Name e p1, .Name x p2] ((Zsu Z a D).F i).env = (false, eval (.Name e p1) ((Zsu Z a D).F i).env) :: starEach [.Name x p2] ((Zsu Z a D).F i).env := by intro _; rfl)
    (he2 : ∀ i, starEach [.Name x p2] ((Zsu Z a D).F i).env = (false, eval (.Name x p2) ((Zsu Z a D).F i).env) :: starEach [] ((Zsu Z a D).F i).env := by intro _; rfl)
    (hpl : ∀ i, (backTo pos (starEach [.Name x p2] ((Zsu Z a D).F i).env)).any (·.1) = false := by intro _; rfl) :
    DE (Zsu Z a D) (.Call (.Name "isinstance" p) [.Name e p1, .Name x p2] [] pos) (mIsE j a b) := by
  have hc : ∀ i, CallR ((Zsu Z a D).F i) (.builtin "isinstance") (rIsE Z.K D a) := fun i => by
    have := call_isE (X := Z.F i.1.1) (a := a) (D := D) (oe := i.1.2.1) (pn := i.1.2.2) (by rw [Z.hK]; exact C) i.2.1 i.2.2
    rw [Z.hK] at this
    exact this
  have hm' : ∀ i, ((Zsu Z a D).F i).mg "isinstance" = none := fun i => by rw [(Zsu Z a D).hmg]; exact hm
  refine .mk' (t := tCB (rIsE Z.K D a) (tCons (tVar j) (tCons (tC cv) tNil))) (fun i => pe_callB (hc i) (hg i) (hm' i) (by decide +kernel) (pa_cons (pe_var (hN i) (hv i) hd hcd) (pa_cons (hx i) pa_nil (he2 i)) (he i)) (by decide) (by decide) (he i) (hpl i)) fun Wo σ H ρ Q bd rel post => ?_
  unfold mIsE at post
  split at post
  · rename_i a' e1
    split at post
    · rename_i ea
      subst ea
      obtain ⟨v, e2, e3⟩ := rel.slot j _ e1
      have e3 : v = .ref a' := e3
      subst e3
      exact ⟨.ref a', e2, cv, u0, b, rfl, hr, hk, post.ok _ H rel (.bl _) (.refl ..)⟩
    · exact post.elim
  · exact post.elim
/-- of an own class -/
theorem de_isE {C : Addr} (c : ExcC Z.K D) (hN : ∀ i, ((Zsu Z a D).F i).N[j]? = some e) (hv : ∀ i, Vis ((Zsu Z a D).F i).env.scope e) (hg : ∀ i, Gl ((Zsu Z a D).F i) "isinstance") (hm : Z.mg "isinstance" = none)
    (hgx : ∀ i, Gl ((Zsu Z a D).F i) x) (hmx : Z.mg x = some (.ref C)) (hk : PySem.W.kitOne Z.K (.ref D) (.ref C) = some b)
    (hd : (e == ("__debug__" : Str)) = false := by decide) (hcd : (e == ("__classdict__" : Str)) = false := by decide) (hdx : (x == ("__debug__" : Str)) = false := by decide)
    (he : ∀ i, starEach [.Name e p1, .Name x p2] ((Zsu Z a D).F i).env = (false, eval (.Name e p1) ((Zsu Z a D).F i).env) :: starEach [.Name x p2] ((Zsu Z a D).F i).env := by intro _; rfl)
    (he2 : ∀ i, starEach [.Name x p2] ((Zsu Z a D).F i).env = (false, eval (.Name x p2) ((Zsu Z a D).F i).env) :: starEach [] ((Zsu Z a D).F i).env := by intro _; rfl)
    (hpl : ∀ i, (backTo pos (starEach [.Name x p2] ((Zsu Z a D).F i).env)).any (·.1) = false := by intro _; rfl) :
    DE (Zsu Z a D) (.Call (.Name "isinstance" p) [.Name e p1, .Name x p2] [] pos) (mIsE j a b) :=
  de_isE0 (cv := .ref C) c hN hv hg hm (fun i => pe_glob (hgx i) (((Zsu Z a D).hmg i).symm ▸ hmx) rfl hdx) (fun u h => h) hk hd hcd he he2 hpl
/-- of a built-in class -/
theorem de_isEb {T : String} (c : ExcC Z.K D) (hN : ∀ i, ((Zsu Z a D).F i).N[j]? = some e) (hv : ∀ i, Vis ((Zsu Z a D).F i).env.scope e) (hg : ∀ i, Gl ((Zsu Z a D).F i) "isinstance") (hm : Z.mg "isinstance" = none)
    (hgx : ∀ i, Gl ((Zsu Z a D).F i) x) (hmx : Z.mg x = none) (hb : bootBuiltins x = some (.type T)) (hk : PySem.W.kitOne Z.K (.ref D) (.type T) = some b)
    (hd : (e == ("__debug__" : Str)) = false := by decide) (hcd : (e == ("__classdict__" : Str)) = false := by decide) (hdx : (x == ("__debug__" : Str)) = false := by decide) (hnx : x ≠ "__name__" := by decide)
    (he : ∀ i, starEach [.Name e p1, .Name x p2] ((Zsu Z a D).F i).env = (false, eval (.Name e p1) ((Zsu Z a D).F i).env) :: starEach [.Name x p2] ((Zsu Z a D).F i).env := by intro _; rfl)
    (he2 : ∀ i, starEach [.Name x p2] ((Zsu Z a D).F i).env = (false, eval (.Name x p2) ((Zsu Z a D).F i).env) :: starEach [] ((Zsu Z a D).F i).env := by intro _; rfl)
    (hpl : ∀ i, (backTo pos (starEach [.Name x p2] ((Zsu Z a D).F i).env)).any (·.1) = false := by intro _; rfl) :
    DE (Zsu Z a D) (.Call (.Name "isinstance" p) [.Name e p1, .Name x p2] [] pos) (mIsE j a b) :=
  de_isE0 (cv := .ty T) c hN hv hg hm (fun i => pe_bltn (hgx i) (((Zsu Z a D).hmg i).symm ▸ hmx) hb rfl hnx hdx) (fun u h => h) hk hd hcd he he2 hpl
end
/-! ### try: a() / except T as e: suite / return s -/
def atomV : PyData → Option V
  | .none => some .non
  | .bool b => some (.bl b)
  | .int i => some (.int i)
  | .str s => some (.str s)
  | _ => none
theorem atom_rp {K : PySem.W.Frag} {W : Wt} {H : Hp} {v w : V} {d : PyData} (h : Rp K W H v d) (e : atomV d = some w) : v = w := by
  cases d <;> first | (cases h; cases e; rfl) | cases e
theorem rp_atom {K : PySem.W.Frag} {W : Wt} {H : Hp} {w : V} {d : PyData} (e : atomV d = some w) : Rp K W H w d := by
  cases d <;> first | (cases e; first | exact .non | exact .bl _ | exact .int _ | exact .str _) | cases e
/-- what the suite makes of an exception of the class c: hd c -/
structure Hand (K : PySem.W.Frag) (mg : Str → Option Value) (T : Str) (CL : List Str) (N : List Str) (j : Nat) (ms : Addr → Str → SM) (hd : Str → Res PyData) : Prop where
  res : ∀ c ∈ CL, ∀ a : Addr, ∃ g w ρ', ms a c ((List.replicate N.length none).set j (some (.raw (.ref a)))) = .ok (.rt (.val g), ρ') ∧ hd c = .ok g ∧ atomV g = some w
  top : ∃ CS, mg T = some (.ref CS)
  cls : ∀ c ∈ CL, ∃ D CS, mg c = some (.ref D) ∧ ExcC K D ∧ mg T = some (.ref CS) ∧ PySem.W.exmOne K (.ref D) (.ref CS) = some true
/-- what is asked of the lambda -/
def THd (mg : Str → Option Value) (CL : List Str) (s0 : Str) (hd : Str → Res PyData) : (XK → Hp → VK → Prop) → Hp → VK → Prop := fun tl H Q =>
  tl (fun cls dd H' => ∃ c D, c ∈ CL ∧ mg c = some (.ref D) ∧ cls = .ref D ∧ dd = none ∧ ∀ g w H'', Same H' H'' → hd c = .ok g → atomV g = some w → Q w H'') H (fun _ H' => Q (.str s0) H')
section
variable {ι : Type} {Z : Cz ι}
theorem gives_try {hk : 1 ≤ Z.k} {hcm : Z.cm} {N : List Str} {nd : N.Nodup} {x a e q T s0 : Str} {sg : Scope} {g : Addr} {cdg : Value} {j jj : Nat} {CL : List Str} {ms : Addr → Str → SM} {hd : Str → Res PyData} {b0 : Stmt} {suite : List Stmt} {p1 p2 p3 p4 p5 p6 p7 p8 : Pos}
    (hh : Hand Z.K Z.mg T CL N j ms hd) (hs : ∀ a D c, c ∈ CL → Z.mg c = some (.ref D) → ExcC Z.K D → DSs (Zsu (Zhd Z hk hcm N nd x sg g cdg) a D) (b0 :: suite) (ms a c))
    (hj : N[j]? = some e) (hj0 : j ≠ 0) (hle : sg.names.lookup e = some .local) (hgT : sg.names.lookup T = some .globalImplicit) (hdT : (T == ("__debug__" : Str)) = false) (i : ι) :
    GivesTo (Z.F i) N x sg g cdg [.Try [.Expr (.Call (.Name a p1) [] [] p2) p3] [.ExceptHandler (some (.Name T p4)) (some e) (b0 :: suite) p5] [] [] p6, .Return (some (.Constant (.str s0) jj p7)) p8] a q (THd Z.mg CL s0 hd) := by
  intro f c' s H Q tl act hc h
  let X0 := (cxOf C8.CX0 (Z.F i).prog (Z.F i).w (Z.F i).K (Z.F i).mg (Z.F i).base N x sg g cdg (Z.F i).A (Z.F i).stack s H C8.E0).nox
  have hgl : Gl X0 T := hgT
  have hcl : ∀ c ∈ CL, ∃ D CS, Z.mg c = some (.ref D) ∧ ExcC Z.K D ∧ Z.mg T = some (.ref CS) ∧ PySem.W.exmOne Z.K (.ref D) (.ref CS) = some true := hh.cls
  have hl0 : 0 < N.length := by
    have := (List.getElem?_eq_some_iff.mp hj).1
    omega
  -- the suite's promise
  let ts : Addr → Value → Option Addr → TS := fun b cls d En σ H' => σ.length = N.length → ∃ (c : Str) (D : Addr) (h1 : c ∈ CL) (h2 : Z.mg c = some (.ref D)) (h3 : ExcC Z.K D), cls = .ref D ∧ d = none ∧ Classical.choose (hs b D c h1 h2 h3).ex En σ H'
  have hsu : ∀ (b : Addr) (oe : Obj) (cls : Value) (d : Option Addr) (pn : List (Addr × Obj)), Zc cls d oe → (∃ vs, oe.data = .fields vs) → PSs (X0.suite b ((b, oe) :: pn)) (b0 :: suite) (ts b cls d) := fun b oe cls d pn z1 z2 => by
    refine ⟨fun pins s' σ H' En I w => ?_⟩
    obtain ⟨c, D, h1, h2, h3, e1, e2, w2⟩ := w I.len
    subst e1 e2
    exact ((Classical.choose_spec (hs b D c h1 h2 h3).ex).1 ⟨((i, s, H), oe, pn), z1, z2⟩).run pins s' σ H' En I w2
  have hst : ∀ (b : Addr) (c : Str) (D : Addr), c ∈ CL → Z.mg c = some (.ref D) → ∀ (En : Ends) (σ : L2.St) (H' : Hp), (∀ g w H'', Same H' H'' → hd c = .ok g → atomV g = some w → En.rt w H'') → ts b (.ref D) none En (σ.set j (some (.ref b))) H' := fun b c D h1 h2 En σ H' w hlen => by
    have hlen : σ.length = N.length := by simpa using hlen
    obtain ⟨D', CS, k1, k2, k3, k4⟩ := hcl c h1
    rw [h2] at k1
    cases k1
    refine ⟨c, D, h1, h2, k2, rfl, rfl, (Classical.choose_spec (hs b D c h1 h2 k2).ex).2 (fun _ => False) _ _ ((List.replicate N.length none).set j (some (.raw (.ref b)))) En ?_ ?_⟩
    · have noOwn : ∀ (i : Nat) (d : PyData), ((List.replicate N.length (none : Option Slot)).set j (some (.raw (.ref b))))[i]? = some (some (.own d)) → False := fun i d e => by
        by_cases hi : j = i
        · subst hi
          rw [List.getElem?_set] at e
          simp at e
        · rw [List.getElem?_set_ne hi, List.getElem?_replicate] at e
          split at e <;> cases e
      refine ⟨by simp [hlen], fun i sl e => ?_, fun i j d e a h _ _ _ => (noOwn i d h).elim, fun b z => z.elim, fun j d a _ h _ _ => (noOwn j d h).elim⟩
      by_cases hi : j = i
      · subst hi
        have hjl : j < N.length := (List.getElem?_eq_some_iff.mp hj).1
        rw [List.getElem?_set_self (by simp; omega)] at e
        cases e
        exact ⟨.ref b, by rw [List.getElem?_set_self (by omega)], rfl⟩
      · rw [List.getElem?_set_ne hi, List.getElem?_replicate] at e
        split at e <;> cases e
    · obtain ⟨g, w', ρ', e1, e2, e3⟩ := hh.res c h1 b
      rw [e1]
      intro v σ' H'' bd rl rr st pr
      have rr : Rp Z.K _ H'' v g := rr
      rw [atom_rp rr e3]
      refine w g w' H'' (fun b' o eo => st.keep b' o (fun z => ?_) eo) e2 e3
      obtain ⟨i, d, z1, _⟩ := z
      by_cases hi : j = i
      · subst hi
        rw [List.getElem?_set] at z1
        simp at z1
      · rw [List.getElem?_set_ne hi, List.getElem?_replicate] at z1
        split at z1 <;> cases z1
  have nd0 : X0.N.Nodup := nd
  have hstk : X0.stack = X0.env :: X0.outer := rfl
  have hT : ∀ CS, Z.mg T = some (.ref CS) → Names X0 T (.ref CS) := fun CS h => ⟨hgl, hdT, .inl (by show (Z.F i).mg T = _; rw [Z.hmg]; exact h)⟩
  · obtain ⟨CS, hCS⟩ := hh.top
    have P1 := ps_try_as (X := X0) (i := j) (n := e) (c := .ref CS) (body := [.Expr (.Call (.Name a p1) [] [] p2) p3]) (b₀ := b0) (suite := suite) (pos := p6) (pos' := p5) (np := p4) (ts := ts) (Wout := fun _ _ _ _ => False)
      (tb := fun W D σ H => ∃ Ech : XK, (∀ cls d σ' H', Ech cls d H' → W cls d σ' H') ∧ σ[0]? = some (some (.ref f)) ∧ H c' = some (CodeO c' q) ∧ tl Ech H fun _ H' => D.nx σ H')
      hstk rfl nd0 hj hle (hT CS hCS) L2.takes0 (fun W pn xe tk _ => ?_) hsu
    · refine ⟨_, pss_cons P1 (pss_one (ps_ret pe_str)), ?_⟩
      refine ⟨fun cls dd H' => ∃ c D, c ∈ CL ∧ Z.mg c = some (.ref D) ∧ cls = .ref D ∧ dd = none ∧ ∀ g w H'', Same H' H'' → hd c = .ok g → atomV g = some w → Q w H'', ?_, ?_, hc, h⟩
      · intro cls d σ' H' ⟨c, D, h1, h2, h3, h4, h5⟩
        subst h3 h4
        obtain ⟨D', CS', k1, k2, k3, k4⟩ := hcl c h1
        rw [h2] at k1
        cases k1
        rw [hCS] at k3
        cases k3
        have hKX : X0.K = Z.K := Z.hK i
        refine ⟨true, by rw [hKX]; exact k4, fun _ b _ => ?_, fun z => nomatch z⟩
        exact hst b c D h1 h2 _ σ' H' h5
      · simp [L2.start]
    · refine ⟨fun pins s' σ H' D I h' => ?_⟩
      obtain ⟨Ech, hW, h1, h2, h3⟩ := h'
      exact (pss_one (ps_expr (act W pn xe Ech p1 p2 tk hW))).run pins s' σ H' D I ⟨h1, h2, h3⟩
end
end ZZ

/-! Z22: g(lambda: body) -/
namespace ZZ
open PySem PySem.Spec PyProof.Rows L2 Ob LamX
/-- what the making of a lambda changes: its table alone; its code object is new, if it is not told by the table -/
structure LamH (H H1 : Hp) (P : Addr) (q : Str) (c' : Addr) : Prop where
  keep : ∀ b o, b ≠ P → H b = some o → H1 b = some o
  tab : ∃ ps0 ps : Array Value, H P = some (.tbl ps0) ∧ H1 P = some (.tbl ps) ∧ PySem.TriplesOk ps.toList ∧ ∀ (pos : Pos) (cv : Value), codeAmong pos ps.toList = some cv → ∃ c, cv = .ref c ∧ ((∃ pos', codeAmong pos' ps0.toList = some cv) ∨ H c = none) ∧ H1 c = some (CodeO c q)
  code : H1 c' = some (CodeO c' q)
def TabP (H : Hp) (P : Addr) (q : Str) : Prop := ∃ ps : Array Value, H P = some (.tbl ps) ∧ PySem.TriplesOk ps.toList ∧ ∀ (pos : Pos) (cv : Value), codeAmong pos ps.toList = some cv → ∃ c, cv = .ref c ∧ H c = some (CodeO c q)
theorem TabR.p {W : Wt} {H : Hp} {P : Addr} {q : Str} (h : TabR W H P q) : TabP H P q := by
  obtain ⟨ps, h1, h2, h3⟩ := h
  exact ⟨ps, h1, h2, fun pos cv hc => by
    obtain ⟨c, e, _, k⟩ := h3 pos cv hc
    exact ⟨c, e, k⟩⟩
section
variable {X : Cx} {pins : List (Addr × Obj)} {σ : L2.St} {H : Hp} {s : Shared}
theorem lam_mk {c P : Addr} {params : Arguments} {body : Expr} {scope : Scope} {pos : Pos} {E Q : Value → Shared → Prop} (I : Inv X pins σ H s) (tp : TabP H P (X.env.qual ++ "<lambda>")) (TB : TabB X.base X.mg c P) (hcode : X.env.code = .ref c)
    (hdef : defaultsOf params X.env = ([], [])) (hfree : ∀ y ∈ scope.names, y.2 = .free → ∃ c, X.env.cells.lookup y.1 = some c)
    (fin : ∀ (f c' : Addr) (pm ctv : Value) (H1 : Hp) (s' : Shared), Inv X pins σ H1 s' → LamH H H1 P (X.env.qual ++ "<lambda>") c' → f ∉ frs X.stack → H1 f = none →
      s'.heap.get? f = some (PySem.W.kla_obj "<lambda>" (X.env.qual ++ "<lambda>") params body scope (cloFrom X.env.cells scope.names []) pm c' ctv) → Q (.ref f) s') :
    wpAny (model X.prog X.w) X.A (eval (.Lambda params body scope pos) X.env) Q E s := by
  obtain ⟨ps, hP, tri, ent⟩ := tp
  have bk := I.bk
  have out : ∀ f : Addr, s.heap.objs.size ≤ f → f ∉ frs X.stack := fun f hf m => (List.mem_cons.mp (I.stkSub _ m)).elim (fun e => absurd (Nat.lt_of_lt_of_le (e ▸ I.lt) hf) (Nat.lt_irrefl _)) (I.nofs hf)
  have hPs : s.heap.get? P = some { cls := .none, data := .fields ps } := I.hok P _ hP
  have bP := TB.bm.keeps bk
  apply PySem.W.kla_eval hdef
  rcases hc : codeAmong pos ps.toList with _ | cv
  · refine PySem.W.kla_makeFunction (mg := X.mg) (c := c) (P := P) (ps := ps) (closure_ok hfree) I.ok.glob (I.mod.glob.keeps bk) hcode (TB.code.keeps bk) hPs tri hc TB.gP bP ?_
    rintro c' ctv h' tk ext ge lt ⟨c2, oc, vs, t, e2, hoc, hd, hv⟩ htb
    cases e2
    have free : H c' = none := I.hok.fresh ge
    have nPc : P ≠ c' := fun z => by rw [z, free] at hP; cases hP
    have at_P : ∀ (u w : HO), upd (upd H P u) c' w P = some u := fun u w => by rw [upd_ne nPc, upd_same]
    have size' : s.heap.objs.size ≤ h'.objs.size := Nat.le_of_lt (Nat.lt_of_le_of_lt ge lt)
    have J := inv_table (q := X.env.qual ++ "<lambda>") (t' := tk) (more := #[rawInt pos.line, rawInt pos.col, .ref c']) (h' := h'.push (PySem.W.kla_obj "<lambda>" (X.env.qual ++ "<lambda>") params body scope (cloFrom X.env.cells scope.names []) ((X.mg "__name__").getD .none) c' ctv)) I hP
      (fun b o nb e => Heap.get?_push_of_some _ (ext b o nb e)) (Heap.get?_push_of_some _ htb) ge ⟨oc, vs, t, Heap.get?_push_of_some _ hoc, hd, hv⟩
    have lst : (ps ++ #[rawInt pos.line, rawInt pos.col, .ref c']).toList = ps.toList ++ [rawInt pos.line, rawInt pos.col, .ref c'] := by simp
    refine fin h'.objs.size c' ((X.mg "__name__").getD .none) ctv _ _ J ⟨fun b o nb e => ?_, ⟨ps, _, hP, at_P _ _, ?_, fun p' cv hcv => ?_⟩, upd_same⟩ (out _ size') ?_ (Heap.get?_push_size _ rfl)
    · rw [upd_ne (fun z => by rw [z, free] at e; cases e), upd_ne nb]
      exact e
    · rw [lst]
      exact PySem.TriplesOk_snoc _ _ _ _ tri
    · rw [lst] at hcv
      rcases among_app _ tri hcv with z | z
      · obtain ⟨c0, e1, e3⟩ := ent p' cv z
        refine ⟨c0, e1, .inl ⟨p', z⟩, ?_⟩
        rw [upd_ne (fun y => by rw [y, free] at e3; cases e3), upd_ne (fun y => ?_)]
        · exact e3
        · rw [y, hP] at e3
          exact codeO_ne _ (Option.some.inj e3).symm
      · exact ⟨c', z, .inr free, upd_same⟩
    · rw [upd_ne (Nat.ne_of_gt lt), upd_ne (Nat.ne_of_gt (Nat.lt_of_lt_of_le (Heap.lt_size hPs) size'))]
      exact I.hok.fresh size'
  · obtain ⟨c', e, hco⟩ := ent pos cv hc
    subst e
    refine PySem.W.kla_makeFunctionHit (mg := X.mg) (c := c) (P := P) (ps := ps) (closure_ok hfree) I.ok.glob (I.mod.glob.keeps bk) hcode (TB.code.keeps bk) hPs tri hc bP ?_
    intro ctv h' tk ext size'
    exact fin h'.objs.size c' _ ctv H _ (I.kept fun b o e => Heap.get?_push_of_some _ (ext b o e)) ⟨fun _ _ _ e => e, ⟨ps, ps, hP, hP, tri, fun p' cv hcv => by
      obtain ⟨c0, e1, e3⟩ := ent p' cv hcv
      exact ⟨c0, e1, .inl ⟨p', hcv⟩, e3⟩⟩, hco⟩ (out _ size') (I.hok.fresh size') (Heap.get?_push_size _ rfl)
end
/-- g(lambda: body): what is asked of the state -/
def tLam1 (P : Addr) (q : Str) (TT : (XK → Hp → VK → Prop) → Hp → VK → Prop) (t : XK → TE) : TE := fun σ H Q => TabP H P q ∧ ∀ H1 c', LamH H H1 P q c' → TT (fun E H' Q' => t E σ H' Q') H1 Q
section
variable {X : Cx}
theorem pe_lam1 {TT : (XK → Hp → VK → Prop) → Hp → VK → Prop} {x a : Str} {g c P : Addr} {k : Nat} {pg : Arguments} {bg : List Stmt} {sg : Scope} {dV kV doc pm cdv ct oc : Value} {an od : Option Addr} {osl : Array (Option Value)} {N : List Str}
    {params : Arguments} {body : Expr} {scope : Scope} {t : XK → TE} {p lpos pos : Pos} (hg : Gl X x) (hm : X.mg x = some (.ref g)) (hk : PySem.W.keepIn X.K (.ref g) = true)
    (lk : X.K.lookup g = some ⟨oc, od, .func (PySem.W.fnOf x x pg bg sg dV kV doc pm an cdv ct), osl⟩) (hcg : PySem.W.codeIn X.K cdv x = true) (hb : L2.Binds X.K (PySem.W.fnOf x x pg bg sg dV kV doc pm an cdv ct) [a] []) (Sg : FnScope N [a] sg) (hN : N[0]? = some a) (hva : Vis sg a)
    (hG : GivesTo X N x sg g cdv bg a (X.env.qual ++ "<lambda>") TT) (TB : TabB X.base X.mg c P) (hcode : X.env.code = .ref c) (hr : Room (k + 2) X.A) (L : LamS X.env.scope scope) (hdef : defaultsOf params X.env = ([], []))
    (hbind : ∀ (q : Str) (cl : List (Str × Addr)) (pm cv ctv : Value), bindArgs (PySem.W.kla_fn "<lambda>" q params body scope cl pm cv ctv) ⟨[], []⟩ = pure [])
    (hbody : ∀ (A : Around) (outer : List Env) (s : Shared) (H : Hp) (E : XK) (f c' : Addr), Room k (A.deeper (lamEnv X scope s.heap.objs.size f c')) → PE (lamCx X A outer s H E scope f c') body (t E))
    (hdx : (x == ("__debug__" : Str)) = false := by decide) (hda : (a == ("__debug__" : Str)) = false := by decide) (hca : (a == ("__classdict__" : Str)) = false := by decide) :
    PE X (.Call (.Name x p) [.Lambda params body scope lpos] [] pos) (tLam1 P (X.env.qual ++ "<lambda>") TT t) := by
  constructor
  rintro pins s σ H Q I ⟨tp, after⟩
  apply wpAny_Call_Name_kw
  apply ld_glob I hg hm _ hdx
  apply PySem.W.callWith_K (h₀ := X.base) I.ok.mod.kin hk _ (by rfl) (by rfl)
  show wpAny _ _ (spliced ((false, eval (.Lambda params body scope lpos) X.env) :: backTo pos (starEach [] X.env))) _ _ s
  refine Calls.spliced_cons (lam_mk I tp TB hcode hdef (L.has I.ok) ?_)
  intro f c' pm' ctv H1 s1 J lh hfr hfn hf
  refine Calls.spliced_nil ⟨J.kIn, ?_⟩
  have run : codeAny (model X.prog X.w) X.A (.call (.ref g) ⟨[.ref f], []⟩) (CR C8.CX0 X.stack X.prog X.w H1 s1 Q C8.E0) s1 :=
    run_ofS (N := N) (ps := [a]) (us := [.ref f]) (vs := [.ref f]) lk hcg Sg hr J.env0 (hb s1 [.ref f] J.kIn rfl) (.cons rfl .nil) rfl fun hr1 => by
      obtain ⟨tt, h1, h2⟩ := hG f c' s1 H1 Q (fun E H' Q' => t E σ H' Q') (fun W pn xe E p1 p2 tk hW => pe_act (i := 0) J L hf hfn hfr (hbind _ _ _ _ _) tk hW hr1 (fun A outer s H hr2 => hbody A outer s H E f c' hr2) hN hva hda hca) lh.code (after H1 c' lh)
      exact ⟨tt, h1.nox, h2⟩
  refine wpAny_call (codeAny_mono run fun r s2 hq => ?_)
  rcases r with e | fl
  · exact (show False from hq).elim
  · cases fl with
    | ret u => exact J.after hq
    | _ => exact False.elim hq
end
/-! ### as a rule -/
def hideR (ρ : Rho) : Rho := ρ.map fun o => match o with
  | some (.own _) => none
  | o => o
theorem hide_get {ρ : Rho} {i : Nat} {sl : Slot} (h : (hideR ρ)[i]? = some (some sl)) : ρ[i]? = some (some sl) ∧ ∀ d, sl ≠ .own d := by
  unfold hideR at h
  rw [List.getElem?_map] at h
  rcases e : ρ[i]? with _ | o
  · rw [e] at h; cases h
  · rw [e] at h
    rcases o with _ | t
    · cases h
    · cases t with
      | own d => cases h
      | val d => cases h; exact ⟨rfl, fun _ z => nomatch z⟩
      | raw d => cases h; exact ⟨rfl, fun _ z => nomatch z⟩
theorem hide_own {σ : L2.St} {ρ : Rho} {b : Addr} : ¬ ownAt σ (hideR ρ) b := fun ⟨i, d, e, _⟩ => (hide_get e).2 d rfl
def tabAt (ρ : Rho) (j : Nat) (P : Addr) (q : Str) : Bool := match ρ[j]? with
  | some (some (.own (.tuple [.str q', .int i]))) => decide (q' = q) && decide (i = (P : Int))
  | _ => false
theorem tabAt_of {ρ : Rho} {j : Nat} {P : Addr} {q : Str} (h : tabAt ρ j P q = true) : ρ[j]? = some (some (.own (.tuple [.str q, .int (P : Int)]))) := by
  unfold tabAt at h
  split at h
  · rename_i q' i e
    simp at h
    rw [e, h.1, h.2]
  · cases h
def mLam (j : Nat) (P : Addr) (q : Str) (CL : List Str) (s0 : Str) (hd : Str → Res PyData) (mb : EM) : EM := fun ρ => if tabAt ρ j P q = true then (match mb (hideR ρ) with
  | .ok _ => .ok (.str s0, ρ)
  | .exc c _ => if c ∈ CL then hd c >>= fun d => .ok (d, ρ) else .err
  | .err => .err) else .err
section
variable {ι : Type}
def Zlm (Z : Cz ι) (k : Nat) (E : XK) (scope : Scope) : Cz {p : ι × Around × List PySem.Env × Shared × Hp × Addr × Addr // Room k (p.2.1.deeper (lamEnv (Z.F p.1) scope p.2.2.2.1.heap.objs.size p.2.2.2.2.2.1 p.2.2.2.2.2.2))} where
  F := fun p => lamCx (Z.F p.1.1) p.1.2.1 p.1.2.2.1 p.1.2.2.2.1 p.1.2.2.2.2.1 E scope p.1.2.2.2.2.2.1 p.1.2.2.2.2.2.2
  P := Z.P
  w := Z.w
  K := Z.K
  mg := Z.mg
  base := Z.base
  EX := E
  prot := []
  k := k
  hP := fun p => Z.hP p.1.1
  hw := fun p => Z.hw p.1.1
  hK := fun p => Z.hK p.1.1
  hmg := fun p => Z.hmg p.1.1
  hb := fun p => Z.hb p.1.1
  nd := fun p => Z.nd p.1.1
  cm := True
  calm := fun _ _ => rfl
  room := fun _ p => p.2
  un := fun p => by
    have := p.2.un
    show (p.1.2.1.deeper _).units + 200 < cLine
    omega
  tk := fun _ => takes_of rfl rfl rfl rfl
  pO := fun _ => passes_of rfl
variable {Z : Cz ι}
theorem Rel.lam {K : PySem.W.Frag} {prot : List Nat} {Wo : Wt} {σ : L2.St} {H H1 H' : Hp} {ρ : Rho} {j : Nat} {P c' : Addr} {q : Str} (r : Rel K prot Wo σ H ρ) (ht : ρ[j]? = some (some (.own (.tuple [.str q, .int (P : Int)])))) (lh : LamH H H1 P q c') (sm : Same H1 H') :
    Rel K prot Wo σ H' ρ ∧ Step σ H ρ σ H' ρ ∧ Rel K [] (av Wo σ ρ) σ H1 (hideR ρ) ∧ TabP H P q := by
  obtain ⟨v, hσ, a, rfl, ea, tr⟩ := r.slot j _ ht
  have ea : (a : Int) = (P : Int) := ea
  have ea : a = P := Int.ofNat.inj ea
  subst ea
  have oP : ownAt σ ρ a := ⟨j, _, ht, hσ⟩
  have k1 : ∀ b o, ¬ av Wo σ ρ b → H b = some o → H1 b = some o := fun b o n e => lh.keep b o (fun z => n (.inr (by rw [z]; exact oP))) e
  have k2 : ∀ b o, ¬ av Wo σ ρ b → H b = some o → H' b = some o := fun b o n e => sm b o (k1 b o n e)
  obtain ⟨ps0, ps, h0, h1, h2, h3⟩ := lh.tab
  have th1 : ∀ b, H b ≠ none → H1 b ≠ none := fun b n => by
    by_cases hb : b = a
    · rw [hb, h1]; simp
    · rcases e : H b with _ | o
      · exact absurd e n
      · rw [lh.keep b o hb e]; simp
  have th : ∀ b, H b ≠ none → H' b ≠ none := fun b n => by
    rcases e : H1 b with _ | o
    · exact absurd e (th1 b n)
    · rw [sm b o e]; simp
  have hav : ∀ b, av Wo σ ρ b → H b ≠ none := fun b z => r.av_some z
  refine ⟨⟨r.len, fun i sl e => ?_, r.sep, fun b w => th b (r.wo b w), r.fr⟩, ⟨fun b o n e => sm b o (lh.keep b o (fun z => n (by rw [z]; exact oP)) e), fun b z => .inl z, th⟩, ⟨?_, fun i sl e => ?_, fun i i' d e a' h _ _ _ => ((hide_get h).2 d rfl).elim, fun b w => th1 b (hav b w), fun i d a' _ h _ _ => ((hide_get h).2 d rfl).elim⟩, tr.p⟩
  · obtain ⟨v, e1, h⟩ := r.slot i sl e
    refine ⟨v, e1, ?_⟩
    cases sl with
    | val d => exact Rp.keep k2 (fun _ z => .inl z) d h
    | raw u => exact h
    | own d =>
      by_cases hi : i = j
      · subst hi
        rw [ht] at e
        cases e
        rw [hσ] at e1
        cases e1
        refine ⟨a, rfl, rfl, ps, sm a _ h1, h2, fun pos cv hc => ?_⟩
        obtain ⟨c, e2, e3, e4⟩ := h3 pos cv hc
        refine ⟨c, e2, fun w => ?_, sm c _ e4⟩
        rcases e3 with ⟨pos', e3⟩ | e3
        · obtain ⟨ps1, q1, _, q2⟩ := tr
          rw [h0] at q1
          cases q1
          obtain ⟨c0, e5, e6, _⟩ := q2 pos' cv e3
          rw [e2] at e5
          cases e5
          exact e6 w
        · exact hav c w e3
      · refine OwnR.keep h k2 (fun _ z => .inl z) fun b eb o eo => sm b o (lh.keep b o (fun z => ?_) eo)
        subst eb z
        exact hi (r.sep i j _ _ _ e ht e1 hσ)
  · unfold hideR
    rw [List.length_map]
    exact r.len
  · obtain ⟨e0, no⟩ := hide_get e
    obtain ⟨v, e1, h⟩ := r.slot i sl e0
    refine ⟨v, e1, ?_⟩
    cases sl with
    | val d => exact Rp.keep k1 (fun b z => .inl (z.elim id fun z => (hide_own z).elim)) d h
    | raw u => exact h
    | own d => exact (no d rfl).elim
theorem de_lam {j k : Nat} {P c g : Addr} {x a T s0 q : Str} {CL N : List Str} {hd : Str → Res PyData} {mb : EM} {st : Stmt} {fd : FuncData} {params : Arguments} {body : Expr} {scope : Scope} {p lpos pos : Pos} {je : Nat} {ms : Addr → Str → SM}
    (F : FnE Z.K Z.mg x st [a] g fd) (Sg : FnScope N [a] (defScope st)) (hg : ∀ i, Gl (Z.F i) x) (hN : N[0]? = some a) (hva : Vis (defScope st) a)
    (hh : Hand Z.K Z.mg T CL N je ms hd) (hG : ∀ i cdv, GivesTo (Z.F i) N x (defScope st) g cdv (defBody st) a q (THd Z.mg CL s0 hd))
    (hq : ∀ i, (Z.F i).env.qual ++ "<lambda>" = q) (TB : TabB Z.base Z.mg c P) (hcode : ∀ i, (Z.F i).env.code = .ref c) (hk : k + 2 ≤ Z.k) (L : ∀ i, LamS (Z.F i).env.scope scope) (hdef : ∀ i, defaultsOf params (Z.F i).env = ([], []))
    (hbind : ∀ (q : Str) (cl : List (Str × Addr)) (pm cv ctv : Value), bindArgs (PySem.W.kla_fn "<lambda>" q params body scope cl pm cv ctv) ⟨[], []⟩ = pure [])
    (hb : ∀ E, DE (Zlm Z k E scope) body mb)
    (hdx : (x == ("__debug__" : Str)) = false := by decide) (hda : (a == ("__debug__" : Str)) = false := by decide) (hca : (a == ("__classdict__" : Str)) = false := by decide) (hcm : Z.cm := by exact trivial) :
    DE Z (.Call (.Name x p) [.Lambda params body scope lpos] [] pos) (mLam j P q CL s0 hd mb) := by
  obtain ⟨oc, od, kV, doc, pm, an, cdv, ct, osl, rfl, lk, hcd⟩ := F.F.ex
  refine .mk' (t := tLam1 P q (THd Z.mg CL s0 hd) fun E => Classical.choose (hb E).ex) (fun i => ?_) fun Wo σ H ρ Q bd rel post => ?_
  · have := pe_lam1 (X := Z.F i) (k := k) (t := fun E => Classical.choose (hb E).ex) (p := p) (lpos := lpos) (pos := pos) (hg i) (by rw [Z.hmg]; exact F.g) (by rw [Z.hK]; exact F.F.kp) (by rw [Z.hK]; exact lk) (by rw [Z.hK]; exact hcd) (by rw [Z.hK]; exact F.b) Sg hN hva
      (by rw [hq i]; exact hG i cdv) (by rw [Z.hb, Z.hmg]; exact TB) (hcode i) ((Z.room hcm i).mono hk) (L i) (hdef i) hbind (fun A outer s H E f c' hr => (Classical.choose_spec (hb E).ex).1 ⟨(i, A, outer, s, H, f, c'), hr⟩) hdx hda hca
    rw [hq i] at this
    exact this
  · unfold mLam at post
    split at post
    · rename_i ht
      have ht := tabAt_of ht
      have tp : TabP H P q := by
        obtain ⟨v, hσ, a', rfl, ea, tr⟩ := rel.slot j _ ht
        have ea : (a' : Int) = (P : Int) := ea
        have ea : a' = P := Int.ofNat.inj ea
        subst ea
        exact tr.p
      refine ⟨tp, fun H1 c' lh => ?_⟩
      obtain ⟨_, _, rh, _⟩ := rel.lam ht lh (.refl H1)
      refine (Classical.choose_spec (hb _).ex).2 (av Wo σ ρ) σ H1 (hideR ρ) _ rh ?_
      cases em : mb (hideR ρ) with
      | err => rw [em] at post; exact post.elim
      | ok r =>
        rw [em] at post
        intro v H' bd' rl rp st
        obtain ⟨r1, r2, _, _⟩ := rel.lam ht lh (H' := H') fun b o e => st.keep b o hide_own e
        exact post.ok _ H' r1 (.str _) r2
      | exc c0 as =>
        rw [em] at post
        dsimp only at post
        split at post
        · rename_i hc
          rintro cls dd H' kp ⟨e1, e2⟩
          obtain ⟨D, CS, m1, _⟩ := hh.cls c0 hc
          have e1 : Z.mg c0 = some cls := e1
          rw [m1] at e1
          cases e1
          refine ⟨c0, D, hc, m1, rfl, e2, fun g0 w H'' s2 eg ew => ?_⟩
          rw [eg, ok_bind] at post
          obtain ⟨r1, r2, _, _⟩ := rel.lam ht lh (H' := H'') fun b o e => s2 b o (kp.keep b o hide_own e)
          exact post.ok _ H'' r1 (rp_atom ew) r2
        · exact post.elim
    · exact post.elim
end
end ZZ

/-! Z23: a law that makes lambdas -/
namespace ZZ
open PySem PySem.Spec PyProof.Rows L2 Ob LamX
def spLawT (m : Nat) (P : Addr) : Sp := fun vs H Q _ => ∃ (a : Addr) (ns : List Int), vs = [.ref a] ∧ Rd H a (.lst (ns.map V.int)) ∧ ns.length ≤ m ∧ H P = some (.tbl #[]) ∧ ∀ H', Q (.bl true) H'
theorem inv_blind {X : Cx} {pins : List (Addr × Obj)} {σ : L2.St} {H : Hp} {s : Shared} {j : Nat} {x : Str} {v : Option V} (I : Inv X pins σ H s) (hN : X.N[j]? = some x) (hv : ¬ Vis X.env.scope x) : Inv X pins (σ.set j v) H s :=
  ⟨I.ok, I.os, I.bare, I.base, by
    obtain ⟨m, h1, h2⟩ := I.loc
    refine ⟨m, h1, fun i y u e1 e2 e3 => ?_⟩
    by_cases hi : j = i
    · subst hi
      rw [hN] at e1
      cases e1
      exact (hv e3).elim
    · rw [List.getElem?_set_ne hi] at e2
      exact h2 i y u e1 e2 e3, I.cell, I.free, I.freeC, I.pin, I.hok, by rw [List.length_set]; exact I.len⟩
def startT (n j : Nat) (P : Addr) (q : Str) (ns : List Int) : Rho := (startR n [.val (.list (ns.map .int))]).set j (some (.own (.tuple [.str q, .int (P : Int)])))
section
variable {P : Program} {w : World} {K : PySem.W.Frag} {mg : Str → Option Value} {base : Heap}
theorem law_ofT {st : Stmt} {f : Addr} {fd : FuncData} {N : List Str} {k mx j : Nat} {c T : Addr} {tn q : Str} {m : SM} (F : Fun K "law" "law" st f fd) (hc : fd.code = .ref c) (S : FnScope N ["script"] (defScope st)) (hj : N[j]? = some tn) (hj0 : j ≠ 0) (hv : ¬ Vis (defScope st) tn)
    (hb : ∀ A outer s H E (hr : Room k (A.deeper (envOfC "law" (defScope st) s.heap.objs.size f (.ref c)))), DSs (Zf N "law" st f (.ref c) P w K mg base k A outer s H E [] S.nd hr) (defBody st) m)
    (hm : ∀ ns : List Int, ns.length ≤ mx → ∃ ρ', m (startT N.length j T q ns) = .ok (.rt (.val (.bool true)), ρ')) : FnOk P w K mg base (L2.CX P w) (k + 1) f fd ["script"] (spLawT mx T) := by
  obtain ⟨oc, od, kV, doc, pm, an, cdv, ct, osl, rfl, lk, hcd⟩ := F.ex
  have hc : cdv = .ref c := hc
  subst hc
  refine fn_of lk hcd S (fun vs H Q E ⟨a, ns, e, _⟩ => by rw [e]; rfl) fun A outer s H vs Q E hr ⟨a, ns, e, hs, hl, hT, hQ⟩ => ?_
  subst e
  obtain ⟨t, p, sim⟩ := (hb A outer s H E hr).ex
  refine ⟨fun D σ H => t D (σ.set j (some (.ref T))) H, ⟨fun pins s1 σ H1 D I h => (p ()).run pins s1 _ H1 D (inv_blind I hj hv) h⟩, ?_⟩
  obtain ⟨ρ', em⟩ := hm ns hl
  have jl : j < N.length := (List.getElem?_eq_some_iff.mp hj).1
  have l1 : (L2.start N [V.ref a]).length = N.length := by
    unfold L2.start
    simp
    omega
  have l2 : (startR N.length [Slot.val (.list (ns.map .int))]).length = N.length := by
    unfold startR
    simp
    omega
  have aT : a ≠ T := fun z => by
    rw [z] at hs
    rcases hs with h | ⟨o, h⟩ <;> rw [hT] at h <;> cases h
  have own : ∀ {i : Nat} {d : PyData}, (startT N.length j T q ns)[i]? = some (some (.own d)) → i = j ∧ d = .tuple [.str q, .int (T : Int)] := fun {i d} e => by
    unfold startT at e
    by_cases hi : j = i
    · subst hi
      rw [List.getElem?_set_self (by rw [l2]; exact jl)] at e
      cases e
      exact ⟨rfl, rfl⟩
    · rw [List.getElem?_set_ne hi] at e
      have := start_get e
      cases i with
      | zero => simp at this
      | succ i => simp at this
  have σj : ((L2.start N [V.ref a]).set j (some (.ref T)))[j]? = some (some (.ref T)) := List.getElem?_set_self (by rw [l1]; exact jl)
  have av_ : ∀ b, av (fun _ => False) ((L2.start N [V.ref a]).set j (some (.ref T))) (startT N.length j T q ns) b → b = T := fun b z => by
    rcases z with z | ⟨i, d, e1, e2⟩
    · exact z.elim
    · obtain ⟨rfl, _⟩ := own e1
      rw [σj] at e2
      cases e2
      rfl
  have rel : Rel K [] (fun _ => False) ((L2.start N [V.ref a]).set j (some (.ref T))) H (startT N.length j T q ns) := by
    refine ⟨?_, fun i sl e => ?_, fun i i' d d' b h1 h2 _ _ => ?_, fun b z => z.elim, fun i d b _ _ _ z => z⟩
    · unfold startT
      rw [List.length_set, List.length_set, l1, l2]
    · by_cases hi : j = i
      · subst hi
        unfold startT at e
        rw [List.getElem?_set_self (by rw [l2]; exact jl)] at e
        cases e
        exact ⟨_, σj, T, rfl, rfl, #[], hT, trivial, fun pos cv hc => by
          have hc : codeAmong pos [] = some cv := hc
          simp [codeAmong] at hc⟩
      · unfold startT at e
        rw [List.getElem?_set_ne hi] at e
        have e1 := start_get e
        cases i with
        | zero =>
          simp at e1
          subst e1
          exact ⟨.ref a, by rw [List.getElem?_set_ne hi]; exact start_getV rfl, .lst ⟨fun z => aT (av_ a z), hs⟩ (RpL.ints ns)⟩
        | succ i => simp at e1
    · rw [(own h1).1, (own h2).1]
  refine sim (fun _ => False) _ H _ _ rel ?_
  rw [em]
  intro v σ' H' _ _ rr _ _
  have rr : Rp K _ H' v (.bool true) := rr
  cases rr
  exact hQ H'
end
theorem walk_tab {l : PySem.W.OpenLaw} {n k : Nat} {q : Program} {loose : List Str} {XP : (Str → Option Value) → Heap → Prop} {YP : World → Heap → Prop} {d : DefRec} {K : Params → PySem.W.Frag} {x : Str} (hn : l.most = some n) (hn2 : n ≤ sizeLine) (hdf : d.params.defaults = []) (hr : Room k callerA)
    (hY : ∀ (w : World) (h : Heap), YP w h → (K w.params).In h) (hd : (recsOf q).find? (fun e => e.name == d.name) = some d) (hst : ∀ w : World, lstFree (K w.params) = true)
    (F : ∀ (w : World) (mg : Str → Option Value) (fa : Addr) (h : Heap), (K w.params).In h → h.Ns mainGlobals mg → mg d.name = some (.ref fa) → ∃ (fd : FuncData) (c P : Addr), PySem.W.tabIn (K w.params) d.name = some (c, P) ∧ (K w.params).lookup P = none ∧
      (∀ (s : Shared) (u : Value), BindsTo s fd ⟨[u], []⟩ [(x, u)]) ∧ ∀ base : Heap, (K w.params).In base → base.Ns mainGlobals mg → TabB base mg c P → FnOk l.prog w (K w.params) mg base (L2.CX l.prog w) k fa fd [x] (spLawT n P)) :
    PySem.W.WalkO q loose XP YP l.row.toRowW d [] (fun f vs => PySem.call f vs) := by
  refine Att.attach_callB hn hdf fun w s₀ s₁ mg mb fa o pm cd doc a vs ns G Y ho hdt hcd hmg hobj hints hlen hbits hg => ?_
  have X := hY w _ Y
  obtain ⟨fd, c, P, ht, nP, hb, hF⟩ := F w mg fa _ X G.T.g hmg
  obtain ⟨hC, hP⟩ := PySem.W.tab_of G.T X hd ht
  have one : ∀ p ∈ [(c, P)], p = (c, P) := fun p hp => List.mem_singleton.mp hp
  exact law_callTs (cs := [(c, P)]) X G.T.g G.T.b G.T.builtins G.T.nolimit hg (fun p hp => by rw [one p hp]; exact hP) (fun p hp => by rw [one p hp]; exact nP) (fun p hp => by rw [one p hp]; exact hC) G.T.bmain hobj hints (Nat.le_trans hlen hn2) hr
    (fun base h1 h2 h3 => hF base h1 h2 (h3 (c, P) List.mem_cons_self)) hb (fun H hH hS => ⟨a, ns, rfl, rd_of_sq (hst w) hS, hlen, hH (c, P) List.mem_cons_self, fun _ => rfl⟩) fun H e s' h => cx_no h
theorem code_of_tab {K : PySem.W.Frag} {x : Str} {f c P : Addr} {oc : Value} {od : Option Addr} {fd : FuncData} {sl : Array (Option Value)} (h : PySem.W.nsIn K mainGlobals x = some (some (.ref f))) (l : K.lookup f = some ⟨oc, od, .func fd, sl⟩) (t : PySem.W.tabIn K x = some (c, P)) : fd.code = .ref c := by
  unfold PySem.W.tabIn at t
  rw [h] at t
  dsimp only at t
  rw [l] at t
  dsimp only at t
  split at t
  · rename_i c2 hc
    split at t
    · split at t
      · cases t
        exact hc
      · cases t
    · cases t
  · cases t
/-- the own classes among what the suite asks for -/
structure HandX (K : PySem.W.Frag) (mg : Str → Option Value) (CL XL : List Str) (isx : Str → Str → Bool) : Prop where
  o : ∀ c ∈ CL, ∀ D, mg c = some (.ref D) → ∀ x ∈ XL, ∃ C, mg x = some (.ref C) ∧ PySem.W.kitOne K (.ref D) (.ref C) = some (isx c x)
  b : ∀ c ∈ CL, ∀ D, mg c = some (.ref D) → PySem.W.kitOne K (.ref D) (.type "ValueError") = some (isx c "ValueError")
/-- the suite of the except clause that a def's body begins with -/
def suiteOf (st : Stmt) : List Stmt := match defBody st with
  | .Try _ [.ExceptHandler _ _ b _] _ _ _ :: _ => b
  | _ => []
def tabOK (K : PySem.W.Frag) (x : Str) : Bool := match PySem.W.tabIn K x with
  | some (_, P) => (K.lookup P).isNone
  | none => false
theorem tab_ok {K : PySem.W.Frag} {x : Str} (h : tabOK K x = true) : ∃ c P, PySem.W.tabIn K x = some (c, P) ∧ K.lookup P = none := by
  unfold tabOK at h
  split at h
  · rename_i c P e
    exact ⟨c, P, e, by simpa using h⟩
  · cases h
end ZZ

/-! Z24: for x in (f, g, ..): defs in a variable, called there -/
namespace ZZ
open PySem PySem.Spec PyProof.Rows L2 Ob
def tFns (fs : List Addr) : TA := fun _ H Q => Q (fs.map V.ref) H
section
variable {X : Cx} {es : List Expr} {fs : List Addr} {f : Addr}
theorem pa_fnil : PA X [] (tFns []) := ⟨fun p pins s σ H Q I h => (pa_nil (X := X)).run p pins s σ H Q I h⟩
theorem pa_fcons {e : Expr} (h : PE X e (tC (.ref f))) (r : PA X es (tFns fs)) (hs : starEach (e :: es) X.env = (false, eval e X.env) :: starEach es X.env := by rfl) : PA X (e :: es) (tFns (f :: fs)) :=
  ⟨fun p pins s σ H Q I w => (pa_cons h r hs).run p pins s σ H Q I w⟩
theorem pe_callVar {CX : CXT} {k j : Nat} {fd : FuncData} {ps : List Str} {sp : Sp} {x : Str} {e : Expr} {t : TA} {E : XK} {p pos : Pos} (F : FnOk X.prog X.w X.K X.mg X.base CX k f fd ps sp) (hr : Room k X.A) (hk : PySem.W.keepIn X.K (.ref f) = true) (hb : Binds X.K fd ps []) (hx : Passes CX X E)
    (hN : X.N[j]? = some x) (hv : Vis X.env.scope x) (ha : PA X (e :: es) t) (he : starEach (e :: es) X.env = (false, eval e X.env) :: starEach es X.env) (hpl : (backTo pos (starEach es X.env)).any (·.1) = false) (hd : (x == ("__debug__" : Str)) = false) (hcd : (x == ("__classdict__" : Str)) = false) :
    PE X (.Call (.Name x p) (e :: es) [] pos) (fun σ H Q => σ[j]? = some (some (.ref f)) ∧ tCall sp [] E t σ H Q) := by
  constructor
  rintro pins s σ H Q I ⟨hj, w⟩
  apply wpAny_Call_Name_kw
  refine thn ((pe_var hN hv hd hcd).run pins s σ H (fun v H1 => v = .ref f ∧ H1 = H) I ⟨.ref f, hj, rfl, rfl⟩) ?_
  rintro u s1 ⟨v, H1, I1, r1, rfl, rfl⟩
  obtain rfl : u = .ref f := r1
  refine PySem.W.callWith_K (h₀ := X.base) I1.ok.mod.kin hk (thn (ha.run pos pins s1 σ H1 _ I1 w) ?_) he hpl
  rintro us s2 ⟨vs, H2, I2, r2, q2⟩
  exact ⟨I2.kIn, run_fn F hr hb .nil hx I2 r2 q2⟩
end
/-! the call -/
def mCallV (j : Nat) (f : Addr) (fm : FM) (m : AM) : EM := fun ρ => match ρ[j]? with
  | some (some (.raw (.ref a))) => if a = f then mCall fm m ρ else .err
  | _ => .err
section
variable {ι : Type} {Z : Cz ι} {a : Expr} {es : List Expr} {m : AM} {x : Str} {p pos : Pos} {k n j : Nat} {f : Addr} {fd : FuncData} {ps : List Str} {prot : List Nat} {fm : FM}
theorem de_callV (G : FnOk Z.P Z.w Z.K Z.mg Z.base (L2.CX Z.P Z.w) k f fd ps (SpZ Z.K Z.mg n prot fm)) (hk : k ≤ Z.k) (kp : PySem.W.keepIn Z.K (.ref f) = true) (hb : Binds Z.K fd ps []) (hn : (a :: es).length = n)
    (hN : ∀ i, (Z.F i).N[j]? = some x) (hv : ∀ i, Vis (Z.F i).env.scope x) (ha : DA Z (a :: es) m) (hd : (x == ("__debug__" : Str)) = false := by decide) (hcd : (x == ("__classdict__" : Str)) = false := by decide)
    (he : ∀ i, starEach (a :: es) (Z.F i).env = (false, eval a (Z.F i).env) :: starEach es (Z.F i).env := by intro _; rfl) (hpl : ∀ i, (backTo pos (starEach es (Z.F i).env)).any (·.1) = false := by intro _; rfl) (hcm : Z.cm := by exact trivial) :
    DE Z (.Call (.Name x p) (a :: es) [] pos) (mCallV j f fm m) := by
  obtain ⟨t, q, s⟩ := ha.ex
  refine .mk' (fun i => pe_callVar (fnAt G i) ((Z.room hcm i).mono hk) (by rw [Z.hK]; exact kp) (by rw [Z.hK]; exact hb) (pass_Z i) (hN i) (hv i) (q i) (he i) (hpl i) hd hcd) fun Wo σ H ρ Q bd rel post => ?_
  unfold mCallV at post
  split at post
  · rename_i a' e1
    split at post
    · rename_i ea
      subst ea
      obtain ⟨v, e2, e3⟩ := rel.slot j _ e1
      have e3 : v = .ref a' := e3
      subst e3
      exact ⟨e2, simCall post_v slotV_pure ha hn s Wo σ H ρ Q bd rel post⟩
    · exact post.elim
  · exact post.elim
end
/-! the loop -/
def forV (j : Nat) : List (Addr × SM) → SM
  | [], ρ => .ok (.nx, ρ)
  | q :: r, ρ => q.2 (ρ.set j (some (.raw (.ref q.1)))) >>= fun w => match w.1 with
    | .nx => forV j r w.2
    | .ct => forV j r w.2
    | .bk => .ok (.nx, w.2)
    | .rt s => .ok (.rt s, w.2)
theorem Rel.set_raw {K : PySem.W.Frag} {prot : List Nat} {Wo : Wt} {σ : L2.St} {H : Hp} {ρ : Rho} {j : Nat} {v : V} (r : Rel K prot Wo σ H ρ) : Rel K prot Wo (σ.set j (some v)) H (ρ.set j (some (.raw v))) :=
  r.set (fun _ e => by cases e) fun t e => by cases e; exact ⟨v, rfl, rfl⟩
section
variable {ι : Type} {Z : Cz ι} {es : List Expr} {body : List Stmt} {j k : Nat} {x : Str} {px pt pos : Pos} {qs : List (Addr × SM)}
theorem ds_forV (hes : ∀ i, PA (Z.F i) es (tFns (qs.map (·.1)))) (hi : ∀ i, (Z.F i).N[j]? = some x) (hx : ∀ i, Loc (Z.F i).env.scope x) (hf : ∀ i, (Z.F i).fn x = true ∨ (Z.F i).env.scope.names.lookup x = some .local) (hp : j ∉ Z.prot) (hl : qs.length ≤ 1000)
    (hb : ∀ q ∈ qs, DSs Z body q.2) (hs : ∀ i y, foldedSetIterable (.Tuple es k pt) (Z.F i).env y = pure y := by intro _ _; rfl) (hcm : Z.cm := by exact trivial) : DS Z (.For (.Name x px) (.Tuple es k pt) body [] pos) (forV j qs) := by
  have hb' : ∀ n : Nat, ∃ t : TS, (∀ i, PSs (Z.F i) body t) ∧ ∀ q, qs[n]? = some q → SimS Z t q.2 := fun n => by
    rcases e : qs[n]? with _ | q
    · refine ⟨fun _ _ _ => False, fun i => ⟨fun _ _ _ _ _ _ z => z.elim⟩, fun q z => nomatch z⟩
    · obtain ⟨t, h1, h2⟩ := (hb q (List.mem_of_getElem? e)).ex
      exact ⟨t, h1, fun q' z => by cases z; exact h2⟩
  have PB : ∀ i, PSs (Z.F i) body (fun D σ H => ∃ n, Classical.choose (hb' n) D σ H) := fun i => ⟨fun pins s σ H D I ⟨n, w⟩ => ((Classical.choose_spec (hb' n)).1 i).run pins s σ H D I w⟩
  refine .mk' (fun i => ps_for (tb := fun D σ H => ∃ n, Classical.choose (hb' n) D σ H) (wi := iTup Z.K (tTup (tFns (qs.map (·.1))))) (Z.pO i) (Z.calm hcm i) (by rw [← Z.hK i]; exact pi_tup (pe_tup (hes i))) (pg_name (Z.nd i) (hi i) (hx i) (hf i)) (PB i) (hs i)) fun Wo σ H ρ D bd rel post => ?_
  refine ⟨by simp; exact lim_le (by unfold lim; omega), fun p hn => ⟨p, rfl, ⟨_, .inl (.inl upd_same)⟩, ?_⟩⟩
  have sm0 : Same H (upd H p (.tup ((qs.map (·.1)).map V.ref))) := same_upd hn
  let Wn : Nat → L2.St → Hp → Prop := fun i σi Hi => ∃ ρi, RelZ Z Wo σi Hi ρi ∧ Step σ H ρ σi Hi ρi ∧ Prot Z σ σi ∧ Hi p = some (.tup ((qs.map (·.1)).map V.ref)) ∧ ¬ ownAt σi ρi p ∧ RQ Z σi Hi ρi (forV j (qs.drop i) ρi) (gs0 Z Wo σ H ρ D)
  have np : ¬ ownAt σ ρ p := fun z => rel.own_some z hn
  refine ⟨fun i n σi Hi => n = qs.length - i ∧ i ≤ qs.length ∧ Wn i σi Hi, ⟨qs.length, by simp, Nat.zero_le _, ρ, rel.same sm0, Same.step sm0, .refl _, upd_same, np, by simpa using post.step (Same.step sm0)⟩, ?_⟩
  rintro i n σi Hi ⟨rfl, hle, ρi, reli, sti, pri, hpi, npi, qi⟩
  by_cases hlt : i < qs.length
  · obtain ⟨q, eq⟩ : ∃ q, qs[i]? = some q := ⟨qs[i], by simp [hlt]⟩
    have ev : ((qs.map (·.1)).map V.ref)[i]? = some (.ref q.1) := by simp [eq]
    refine .inr ⟨⟨_, _, .inl (.inl hpi), ev⟩, Wn (i + 1), fun σ' H' w => ⟨qs.length - (i + 1), by omega, rfl, hlt, w⟩, fun y H' hy => ?_⟩
    obtain ⟨eH, hy⟩ := hy
    have eH := eH.symm
    subst eH
    have ey := hy _ (.inl (.inl hpi))
    rw [ev] at ey
    cases ey
    rw [drop_at eq] at qi
    have qi : RQ Z σi Hi ρi (q.2 (ρi.set j (some (.raw (.ref q.1)))) >>= fun w => match w.1 with
      | .nx => forV j (qs.drop (i + 1)) w.2 | .ct => forV j (qs.drop (i + 1)) w.2 | .bk => .ok (.nx, w.2) | .rt s => .ok (.rt s, w.2)) _ := qi
    have s2 : Step σi Hi ρi (σi.set j (some (.ref q.1))) Hi (ρi.set j (some (.raw (.ref q.1)))) := step_set fun _ z => nomatch z
    have p2 : Prot Z σi (σi.set j (some (.ref q.1))) := .set hp
    have rel2 : RelZ Z Wo (σi.set j (some (.ref q.1))) Hi (ρi.set j (some (.raw (.ref q.1)))) := reli.set_raw
    have n2 : ¬ ownAt (σi.set j (some (.ref q.1))) (ρi.set j (some (.raw (.ref q.1)))) p := fun z => npi (ownAt_set_val (s := some (Slot.raw (.ref q.1))) (fun _ z => nomatch z) z)
    have kp : ∀ {σ3 : L2.St} {H3 : Hp} {ρ3 : Rho}, Step (σi.set j (some (.ref q.1))) Hi (ρi.set j (some (.raw (.ref q.1)))) σ3 H3 ρ3 → H3 p = some (.tup ((qs.map (·.1)).map V.ref)) ∧ ¬ ownAt σ3 ρ3 p := fun {σ3 H3 ρ3} st => ⟨st.keep p _ n2 hpi, fun z => (st.own p z).elim n2 fun z => by rw [hpi] at z; cases z⟩
    refine ⟨i, ((Classical.choose_spec (hb' i)).2 q eq) Wo _ Hi _ _ rel2 ((RQ.step qi.bind s2).imp fun w g => ?_)⟩
    obtain ⟨f, ρ3⟩ := w
    cases f with
    | nx => exact fun σ3 H3 bd3 rel3 st3 p3 => ⟨ρ3, rel3, (sti.trans s2).trans st3, (pri.trans p2).trans p3, (kp st3).1, (kp st3).2, (RQ.step (RQ.step g s2) st3).imp fun _ z => z⟩
    | ct => exact fun σ3 H3 bd3 rel3 st3 p3 => ⟨ρ3, rel3, (sti.trans s2).trans st3, (pri.trans p2).trans p3, (kp st3).1, (kp st3).2, (RQ.step (RQ.step g s2) st3).imp fun _ z => z⟩
    | bk => exact fun σ3 H3 bd3 rel3 st3 p3 => RQ.ok g σ3 H3 rel3 ((sti.trans s2).trans st3) ((pri.trans p2).trans p3)
    | rt s => exact fun v σ3 H3 bd3 rel3 rr st3 p3 => RQ.ok g v σ3 H3 rel3 rr ((sti.trans s2).trans st3) ((pri.trans p2).trans p3)
  · have e : i = qs.length := by omega
    subst e
    refine .inl ⟨⟨_, .inl (.inl hpi), by simp⟩, ?_⟩
    rw [List.drop_length] at qi
    have qi : gs0 Z Wo σ H ρ D (.nx, ρi) := qi
    exact qi σi Hi reli sti pri
end
section
variable {ι : Type} {Z : Cz ι} {body : List Stmt}
theorem fq_nil : ∀ q ∈ ([] : List (Addr × SM)), DSs Z body q.2 := fun _ h => nomatch h
theorem fq_cons {f : Addr} {mb : SM} {qs : List (Addr × SM)} (h : DSs Z body mb) (r : ∀ q ∈ qs, DSs Z body q.2) : ∀ q ∈ (f, mb) :: qs, DSs Z body q.2 := fun q hq => by
  rcases List.mem_cons.mp hq with e | e
  · rw [e]; exact h
  · exact r q e
end
/-! (..) * k -/
def sRepT : PyData → PyData → Res PyData
  | .tuple ds, .int k => if ds ≠ [] ∧ 2 ≤ k ∧ k ≤ 1000 ∧ ds.length ≤ 1000 then .ok (.tuple (List.replicate k.toNat ds).flatten) else .err
  | _, _ => .err
theorem pu_repT : Pure2 sRepT := fun d e c as => by
  unfold sRepT
  split <;> (try split) <;> exact fun z => nomatch z
theorem RpL.rep {K : PySem.W.Frag} {W : Wt} {H : Hp} {vs : List V} {ds : List PyData} (h : RpL K W H vs ds) : ∀ n : Nat, RpL K W H (List.replicate n vs).flatten (List.replicate n ds).flatten
  | 0 => .nil
  | n + 1 => by
    rw [List.replicate_succ, List.replicate_succ, List.flatten_cons, List.flatten_cons]
    exact h.append (RpL.rep h n)
theorem im_repT {K : PySem.W.Frag} : Imp2 K (rRepT K) sRepT := by
  intro W H x y d e Q hw bd hx hy ⟨g, eg, hg⟩
  unfold sRepT at eg
  split at eg
  · split at eg
    · rename_i hl
      cases eg
      obtain ⟨a, vs, rfl, h1, h2⟩ := hx.tupE
      cases hy
      obtain ⟨l1, l2, l3, l4⟩ := hl
      exact ⟨a, _, vs, rfl, rfl, h1.sq, fun z => l1 (by subst z; cases h2; rfl), l2, l3, by rw [h2.len]; exact l4, fun p hp => hg _ _ (same_upd hp) (.tupN hw hp (h2.rep _))⟩
    · cases eg
  · cases eg
theorem de_repT {ι : Type} {Z : Cz ι} {a b : Expr} {ma mb : EM} {pos : Pos} (ha : DE Z a ma) (hb : DE Z b mb) : DE Z (.BinOp a .Mult b pos) (mBin sRepT ma mb) := de_bin (fun i => by rw [← Z.hK i]; exact op_repT) im_repT pu_repT ha hb
end ZZ

/-! Z25: own dicts with keys of ints and texts -/
namespace ZZ
open PySem PySem.Spec PyProof.Rows L2 Ob
/-! ### d.update(e) -/
def rUpd : V → List V → Hp → VK → Prop := fun x xs H Q => ∃ (a b : Addr) (ks ls : List (Key × V)), x = .ref a ∧ xs = [.ref b] ∧ a ≠ b ∧ H a = some (.dK ks) ∧ H b = some (.dK ls) ∧ ks.length + ls.length ≤ sizeLine ∧ Q .non (upd H a (.dK (mergeK ks ls)))
theorem length_mergeK : ∀ (more kvs : List (Key × V)), (mergeK kvs more).length ≤ kvs.length + more.length
  | [], kvs => Nat.le_refl _
  | q :: more, kvs => by
    have h1 := length_mergeK more (putK kvs q.1 q.2)
    have h2 := length_putK kvs q.1 q.2
    show (mergeK (putK kvs q.1 q.2) more).length ≤ kvs.length + (more.length + 1)
    omega
theorem mt_upd {X : Cx} : MtR X "dict.update" rUpd := by
  intro pins s σ H x xs v us Q I rx rv h
  obtain ⟨a, b, ks, ls, rfl, rfl, ne, ea, eb, hl, q⟩ := h
  obtain rfl : v = Value.ref a := rx
  cases rv with
  | cons r1 r2 =>
    cases r2
    obtain rfl := (show _ = Value.ref b from r1)
    obtain ⟨_, sa, vs, rl1, d1⟩ := dk_of I.hok ea
    obtain ⟨_, sb, ws, rl2, d2⟩ := dk_of I.hok eb
    have n1 := rl1.length
    have n2 := rl2.length
    refine call_meetsIn PySem.F.slot_dict_update d1.typeIs PySem.F.entry_dict_update (PySem.F.args_dict_update_2 _ _) (meets_dict_update (mixKind X.prog X.w) a b ne sb) ⟨vs, ws, d1, d2, by omega, fun h' dd _ hs => ?_⟩
    have he : ∃ q, h'.get? a = some q := let ⟨q, _, _, hq, _⟩ := dd; ⟨q, hq⟩
    have z := length_mergeK ls ks
    exact ⟨.non, _, d_write I (by rw [ea]; exact True.intro) hs he (dk_new (Nat.le_trans z hl) sa (rl2.merge rl1) dd), rfl, q⟩
/-! ### the readings -/
theorem keyV_D (k : Key) : keyV (keyD k) = some k := by cases k <;> rfl
section
variable {ι : Type} {Z : Cz ι} {e ix o : Expr} {me mi mo : EM} {x : Str} {pos pos' tpos p apos cpos : Pos} {j : Nat}
theorem keyK_at {K : PySem.W.Frag} {W : Wt} {H : Hp} {v : V} {d : PyData} {k : Key} (h : Rp K W H v d) (e : keyV d = some k) : v = kV k := by
  rw [keyV_eq e] at h
  cases k with
  | inl i => have h : Rp K W H v (.int i) := h; cases h; rfl
  | inr i => have h : Rp K W H v (.str i) := h; cases h; rfl
theorem ownK_at {prot : List Nat} {K : PySem.W.Frag} {Wo : Wt} {σ : L2.St} {H : Hp} {ρ : Rho} {kvs : List (PyData × PyData)} (r : Rel K prot Wo σ H ρ) (h : ρ[j]? = some (some (.own (.dict kvs)))) :
    ∃ a es, σ[j]? = some (some (.ref a)) ∧ H a = some (.dK es) ∧ EntK K (av Wo σ ρ) H es kvs := by
  obtain ⟨v, e1, a, xs, e2, h1, h2⟩ := r.slot j _ h
  subst e2
  exact ⟨a, xs, e1, h1, h2⟩
def mDNewK : EM := fun ρ => .ok (.dict [], ρ)
theorem do_dnewK : DO Z (.Dict [] [] pos) mDNewK := by
  refine .mk' (fun i => pe_dnewK) fun Wo σ H ρ Q bd rel post => fun p hp => ?_
  have n := rel.new hp
  exact (RQ.ok post) p _ (rel.fresh hp) (fun z => n (.inl z)) (fun z => n (.inr z)) ⟨p, [], rfl, upd_same, .nil⟩ (Same.step (same_upd hp)) hp
/-- d[k] -/
def mDGetK (j : Nat) (mi : EM) : EM := fun ρ => match ρ[j]? with
  | some (some (.own _)) => mi ρ >>= fun r => (match r.2[j]? with
    | some (some (.own (.dict kvs))) => (match keyV r.1, dget kvs r.1 with
      | some _, some g => .ok (g, r.2)
      | _, _ => .err)
    | _ => .err)
  | _ => .err
theorem de_dgetK (hN : ∀ i, (Z.F i).N[j]? = some x) (hv : ∀ i, Vis (Z.F i).env.scope x) (hi : DE Z ix mi) (hs : NoSl ix)
    (hd : (x == ("__debug__" : Str)) = false := by decide) (hcd : (x == ("__classdict__" : Str)) = false := by decide) : DE Z (.Subscript (.Name x p) ix pos) (mDGetK j mi) := by
  obtain ⟨t, q, s⟩ := hi.ex
  refine .mk' (fun i => pe_dget (room1 i) (pe_var (hN i) (hv i) hd hcd) (q i) hs) fun Wo σ H ρ Q bd rel post => ?_
  unfold mDGetK at post
  split at post
  · rename_i d0 e0
    obtain ⟨v, e1, _⟩ := rel.slot j _ e0
    refine ⟨v, e1, s Wo σ H ρ _ rel (post.bind.imp fun r h u H1 bd1 rel1 rp1 st1 => ?_)⟩
    obtain ⟨di, ρi⟩ := r
    dsimp only at h rel1 rp1 st1
    split at h
    · rename_i kvs e2
      split at h
      · rename_i k g e3 e4
        obtain ⟨a, es, e5, e6, e7⟩ := ownK_at rel1 e2
        rw [e1] at e5
        cases e5
        rw [keyV_eq e3] at e4
        obtain ⟨w, e8, e9⟩ := (ent_get eqv_keyD e7).1 g e4
        refine ⟨a, w, rfl, ?_, (RQ.ok h) w H1 rel1 e9 st1⟩
        rw [← e8, keyK_at rp1 e3]
        exact DGet.k e6
      · exact h.elim
    · exact h.elim
  · exact post.elim
/-- d[k] = v -/
def mDPutK (j : Nat) (mi me : EM) : SM := fun ρ => me ρ >>= fun r => (match r.2[j]? with
  | some (some (.own _)) => mi r.2 >>= fun q => (match q.2[j]? with
    | some (some (.own (.dict kvs))) => (match keyV q.1 with
      | some _ => if kvs.length < lim then .ok (.nx, q.2.set j (some (.own (.dict (dput kvs q.1 r.1))))) else .err
      | none => .err)
    | _ => .err)
  | _ => .err)
theorem ds_dputK (hN : ∀ i, (Z.F i).N[j]? = some x) (hv : ∀ i, Vis (Z.F i).env.scope x) (hi : DE Z ix mi) (he : DE Z e me) (hd : (x == ("__debug__" : Str)) = false := by decide) (hcd : (x == ("__classdict__" : Str)) = false := by decide)
    (hs : ∀ i, swapsWith e (some (.Subscript (.Name x p) ix tpos)) pos.line (Z.F i).env = pure false := by intro _; rfl) :
    DS Z (.Assign [.Subscript (.Name x p) ix tpos] e pos) (mDPutK j mi me) := by
  obtain ⟨t, q, s⟩ := he.ex
  obtain ⟨ti, qi, si⟩ := hi.ex
  refine .mk' (fun i => ps_dput (room1 i) (pe_var (hN i) (hv i) hd hcd) (qi i) (q i) (hs i)) fun Wo σ H ρ D bd rel post => ?_
  refine s Wo σ H ρ _ rel (post.bind.imp fun r h v H1 bd1 rel1 rp1 st1 => ?_)
  split at h
  · rename_i d0 e0
    obtain ⟨v0, ev, _⟩ := rel1.slot j _ e0
    refine ⟨v0, ev, si Wo σ H1 r.2 _ rel1 ((RQ.step h st1).bind.imp fun q h2 u H2 bd2 rel2 rp2 st2 => ?_)⟩
    obtain ⟨qd, ρ2⟩ := q
    dsimp only at h2 rel2 rp2 st2
    split at h2
    · rename_i kvs e2
      split at h2
      · rename_i k e3
        split at h2
        · rename_i hl
          obtain ⟨a, es, e5, e6, e7⟩ := ownK_at rel2 e2
          rw [ev] at e5
          cases e5
          have hlen := Paired.length e7
          refine ⟨a, _, rfl, (keyK_at rp2 e3).symm ▸ DPut.k e6 (by rw [hlen]; exact Nat.lt_of_lt_of_le hl (lim_le (Nat.le_refl _))), ?_⟩
          have e8 := ent_put (k := k) eqv_keyD (rp1.step st2) e7
          rw [← keyV_eq e3] at e8
          exact h2.ok σ _ (rel2.write e2 ev ⟨a, _, rfl, upd_same, Paired.mapP e8 fun x y z => ⟨z.1, z.2.upd e2 ev⟩⟩) ((st1.trans st2).trans (step_write e2 ev)) (.refl _)
        · exact h2.elim
      · exact h2.elim
    · exact h2.elim
  · exact h.elim
/-- k in d, k not in d -/
def mDInK (neg : Bool) (mi : EM) (j : Nat) : EM := fun ρ => mi ρ >>= fun r => (match r.2[j]? with
  | some (some (.own (.dict kvs))) => (match keyV r.1 with
    | some _ => .ok (.bool ((dget kvs r.1).isSome != neg), r.2)
    | none => .err)
  | _ => .err)
theorem sim_dinK {neg : Bool} {ti : TE} (si : SimE Z ti mi) : ∀ Wo σ H ρ Q, Bd Z.K H → RelZ Z Wo σ H ρ → RQ Z σ H ρ (mDInK neg mi j ρ) (ge0 Z Wo σ H ρ Q) → ti σ H fun y H1 => tVar j σ H1 fun x H2 => ∃ a o, x = .ref a ∧ DGet H2 a y o ∧ Q (.bl (o.isSome != neg)) H2 := fun Wo σ H ρ Q bd rel post => by
  refine si Wo σ H ρ _ rel (post.bind.imp fun r h u H1 bd1 rel1 rp1 st1 => ?_)
  obtain ⟨di, ρi⟩ := r
  dsimp only at h rel1 rp1 st1
  split at h
  · rename_i kvs e2
    split at h
    · rename_i k e3
      obtain ⟨a, es, e5, e6, e7⟩ := ownK_at rel1 e2
      have e8 := (ent_get (k := k) eqv_keyD e7).2
      refine ⟨.ref a, e5, a, _, rfl, (keyK_at rp1 e3).symm ▸ DGet.k e6, ?_⟩
      rw [e8, ← keyV_eq e3]
      exact (RQ.ok h) _ H1 rel1 (.bl _) st1
    · exact h.elim
  · exact h.elim
theorem de_dinK (hi : DE Z ix mi) (hN : ∀ i, (Z.F i).N[j]? = some x) (hv : ∀ i, Vis (Z.F i).env.scope x) (hb : behindInMarks .In (.Name x p) = false := by rfl) (hd : (x == ("__debug__" : Str)) = false := by decide) (hcd : (x == ("__classdict__" : Str)) = false := by decide) :
    DE Z (.Compare ix [.In] [.Name x p] pos) (mDInK false mi j) := by
  obtain ⟨t, q, s⟩ := hi.ex
  refine .mk' (fun i => pe_cmp (pc_din (room1 i) (q i) (pe_var (hN i) (hv i) hd hcd)) hb) fun Wo σ H ρ Q bd rel post => ?_
  have := sim_dinK (neg := false) s Wo σ H ρ Q bd rel post
  simpa [tDIn] using this
theorem de_dnotinK (hi : DE Z ix mi) (hN : ∀ i, (Z.F i).N[j]? = some x) (hv : ∀ i, Vis (Z.F i).env.scope x) (hb : behindInMarks .NotIn (.Name x p) = false := by rfl) (hd : (x == ("__debug__" : Str)) = false := by decide) (hcd : (x == ("__classdict__" : Str)) = false := by decide) :
    DE Z (.Compare ix [.NotIn] [.Name x p] pos) (mDInK true mi j) := by
  obtain ⟨t, q, s⟩ := hi.ex
  refine .mk' (fun i => pe_cmp (pc_dnotin (room1 i) (q i) (pe_var (hN i) (hv i) hd hcd)) hb) fun Wo σ H ρ Q bd rel post => ?_
  have := sim_dinK (neg := true) s Wo σ H ρ Q bd rel post
  simpa [tDNotIn] using this
end
end ZZ

/-! Z26: dict comprehensions; d.update(e) -/
namespace ZZ
open PySem PySem.Spec PyProof.Rows L2 Ob
def dcL (vs : List Nat) (g : GM) (tt : TM) (tk te : EM) : List PyData → List (PyData × PyData) → Rho → Res (List (PyData × PyData) × Rho)
  | [], acc, ρ => .ok (acc, ρ)
  | d :: ds, acc, ρ => noX (g d (wipeR ρ vs)) >>= fun ρ1 => noX (tt ρ1) >>= fun b =>
    if b.1 = true then noX (tk b.2) >>= fun y => noX (te y.2) >>= fun z => (match keyV y.1 with | some _ => dcL vs g tt tk te ds (dput acc y.1 z.1) (restR ρ z.2 vs) | none => .err) else dcL vs g tt tk te ds acc (restR ρ b.2 vs)
def mDc (mi : IM) (vs : List Nat) (g : GM) (tt : TM) (tk te : EM) : EM := fun ρ => mi ρ >>= fun r =>
  if vs.all (fun v => notOwn r.2[v]?) then dcL vs g tt tk te r.1 [] r.2 >>= fun q => .ok (.dict q.1, q.2) else .err
section
variable {ι : Type} {Z : Cz ι} {tg iter kx vx : Expr} {ifs : List Expr} {scope : Scope} {mi : IM} {g : GM} {tt : TM} {tk te : EM} {pos : Pos}
theorem simDc {wi : TI} {gg : TG} {t1 : TT} {t2 t3 : TE} {vs ts : List Nat} (si : ∀ Wo σ H ρ R, RelZ Z Wo σ H ρ → RQ Z σ H ρ (mi ρ) (GI Z Wo σ H ρ R) → wi σ H R)
    (sg : ∀ Wo σ H ρ v d (Q : L2.St → Hp → Prop), RelZ Z Wo σ H ρ → Rp Z.K (av Wo σ ρ) H v d → (∃ ρ', g d ρ = .ok ρ' ∧ ∀ σ', RelZ Z Wo σ' H ρ' → Step σ H ρ σ' H ρ' → (∀ i, i ∉ ts → σ'[i]? = σ[i]?) → σ'.length = σ.length → Q σ' H) → gg v σ H Q)
    (hts : ∀ i ∈ ts, i ∈ vs) (st : SimT (Z.blk scope) t1 tt) (sk : SimE (Z.blk scope) t2 tk) (se : SimE (Z.blk scope) t3 te) :
    ∀ Wo σ H ρ Q, Bd Z.K H → RelZ Z Wo σ H ρ → RQ Z σ H ρ (mDc mi vs g tt tk te ρ) (go0 Z Wo σ H ρ Q) → tDc wi gg t1 t2 t3 vs σ H Q := fun Wo σ H ρ Q bd rel post => by
  refine si Wo σ H ρ _ rel (post.bind.imp fun r h J H1 bd1 rel1 dl hl st1 => ?_)
  obtain ⟨ds, ρ1⟩ := r
  dsimp only at h rel1 dl hl st1
  split at h
  · rename_i hno
    have h := h.bind
    intro D hD
    have nW : ¬ Wo D := fun z => rel1.wo D z hD
    have nO : ¬ ownAt σ ρ1 D := fun z => rel1.own_some z hD
    let G : List (PyData × PyData) × Rho → Prop := fun q => RQ Z σ H ρ (Res.ok (PyData.dict q.1, q.2)) (go0 Z Wo σ H ρ Q)
    refine ⟨fun i n Hi => n = ds.length - i ∧ i ≤ ds.length ∧ ∃ ρi acc vacc, Rel Z.K Z.prot (pls Wo D) σ Hi ρi ∧ (∀ b o, b ≠ D → ¬ ownAt σ ρ1 b → H1 b = some o → Hi b = some o) ∧ (∀ b, ownAt σ ρi b → ownAt σ ρ1 b ∨ H1 b = none) ∧ (∀ b, H1 b ≠ none → Hi b ≠ none) ∧
      Hi D = some (.dK vacc) ∧ ¬ ownAt σ ρi D ∧ EntK Z.K (av (pls Wo D) σ ρi) Hi vacc acc ∧ acc.length ≤ i ∧ vs.all (fun v => notOwn ρi[v]?) = true ∧ RQ Z σ H ρ (dcL vs g tt tk te (ds.drop i) acc ρi) G, ⟨ds.length, by simp, Nat.zero_le _, ρ1, [], [], ?_⟩, ?_⟩
    · refine ⟨rel1.fresh hD, fun b o hb _ e => by rw [upd_ne hb]; exact e, fun b z => .inl z, fun b n => ?_, upd_same, nO, .nil, Nat.zero_le _, hno, by simpa using h⟩
      by_cases hb : b = D
      · rw [hb, upd_same]; simp
      · rw [upd_ne hb]; exact n
    rintro i n Hi ⟨rfl, hi, ρi, acc, vacc, reli, keepi, owni, theri, hDi, nDi, racc, hacc, hnoi, qi⟩
    have noi := notOwn_of hnoi
    have hd := dl Hi (fun b o nb eb => keepi b o (fun z => by subst z; rw [hD] at eb; cases eb) (fun z => nb (.inr z)) eb) i
    by_cases hlt : i < ds.length
    · obtain ⟨d, ed⟩ : ∃ d, ds[i]? = some d := ⟨ds[i], by simp [hlt]⟩
      obtain ⟨go, yd⟩ := hd.1 d ed
      refine .inr ⟨go, fun H' => ∃ ρ', ∃ acc' vacc', Rel Z.K Z.prot (pls Wo D) σ H' ρ' ∧ (∀ b o, b ≠ D → ¬ ownAt σ ρ1 b → H1 b = some o → H' b = some o) ∧ (∀ b, ownAt σ ρ' b → ownAt σ ρ1 b ∨ H1 b = none) ∧ (∀ b, H1 b ≠ none → H' b ≠ none) ∧
        H' D = some (.dK vacc') ∧ ¬ ownAt σ ρ' D ∧ EntK Z.K (av (pls Wo D) σ ρ') H' vacc' acc' ∧ acc'.length ≤ i + 1 ∧ vs.all (fun v => notOwn ρ'[v]?) = true ∧ RQ Z σ H ρ (dcL vs g tt tk te (ds.drop (i + 1)) acc' ρ') G,
        fun H' w => ⟨ds.length - (i + 1), by omega, rfl, hlt, w⟩, fun x H' y => ?_⟩
      obtain ⟨sm, rpx⟩ := yd x H' y
      have relb : Rel Z.K Z.prot (pls Wo D) (L2.wipe σ vs) H' (wipeR ρi vs) := (reli.wipe vs).same sm
      have rpx := rpx (av (pls Wo D) (L2.wipe σ vs) (wipeR ρi vs)) (fun b z => by
        rcases z with (z | z) | z
        · exact .inl (.inl z)
        · exact .inr (by rw [z]; exact hD)
        · exact (owni b (own_wipe z)).imp .inr id) (fun b z => (reli.wipe vs).av_some z)
      rw [drop_at ed] at qi
      have qi : RQ Z σ H ρ (noX (g d (wipeR ρi vs)) >>= fun ρ1 => noX (tt ρ1) >>= fun b =>
        if b.1 = true then noX (tk b.2) >>= fun y => noX (te y.2) >>= fun z => (match keyV y.1 with | some _ => dcL vs g tt tk te (ds.drop (i + 1)) (dput acc y.1 z.1) (restR ρi z.2 vs) | none => .err) else dcL vs g tt tk te (ds.drop (i + 1)) acc (restR ρi b.2 vs)) G := qi
      have qg := noX_rq (Z' := Z) (σ' := σ) (H' := H) (ρ' := ρ) qi.bind
      obtain ⟨ρ2, e2, qi⟩ : ∃ ρ2, g d (wipeR ρi vs) = .ok ρ2 ∧ RQ Z σ H ρ (noX (tt ρ2) >>= fun b =>
        if b.1 = true then noX (tk b.2) >>= fun y => noX (te y.2) >>= fun z => (match keyV y.1 with | some _ => dcL vs g tt tk te (ds.drop (i + 1)) (dput acc y.1 z.1) (restR ρi z.2 vs) | none => .err) else dcL vs g tt tk te (ds.drop (i + 1)) acc (restR ρi b.2 vs)) G := by
        have z := qi.bind
        cases q : g d (wipeR ρi vs) with
        | ok a => rw [q] at z; exact ⟨a, rfl, z⟩
        | exc c as => rw [q] at z; exact z.elim
        | err => rw [q] at z; exact z.elim
      refine sg (pls Wo D) (L2.wipe σ vs) H' (wipeR ρi vs) x d _ relb rpx ⟨ρ2, e2, fun σ2 rel2 st2 k2 l2 => ?_⟩
      have l2' : σ2.length = σ.length := l2.trans (wipe_length σ vs)
      have k2' : ∀ j, j ∉ vs → σ2[j]? = σ[j]? := fun j hj => (k2 j (fun z => hj (hts j z))).trans (wipe_get hj)
      refine ⟨wipe_ext l2' k2', ?_⟩
      -- the turn's end: what is kept of the outer slots
      have fin : ∀ (H4 : Hp) (ρ4 : Rho), RelZ Z (pls Wo D) σ2 H4 ρ4 → Step σ2 H' ρ2 σ2 H4 ρ4 → ∀ vnew : List (Key × V), _ := fun H4 ρ4 rel4 st4 vnew => Rel.back (u' := .dK vnew) reli sm l2' k2' (st2.trans st4) rel4 noi nDi hDi
      have again : ∀ (H4 : Hp) (ρ4 : Rho), RelZ Z (pls Wo D) σ2 H4 ρ4 → Step σ2 H' ρ2 σ2 H4 ρ4 → vs.all (fun v => notOwn (restR ρi ρ4 vs)[v]?) = true := fun H4 ρ4 rel4 st4 => List.all_eq_true.mpr fun v hv => by
        cases e : (restR ρi ρ4 vs)[v]? with
        | none => rfl
        | some s =>
          cases s with
          | none => rfl
          | some s =>
            cases s with
            | own d => exact absurd (restR_in hv e) (noi v hv d)
            | _ => rfl
      refine st (pls Wo D) σ2 H' ρ2 _ rel2 ((noX_rq qi.bind).imp fun b w H3 bd3 rel3 st3 => ?_)
      obtain ⟨k, ρ3⟩ := b
      cases k with
      | true =>
        rw [if_pos rfl]
        have w : RQ Z σ H ρ (noX (tk ρ3) >>= fun y => noX (te y.2) >>= fun z => (match keyV y.1 with | some _ => dcL vs g tt tk te (ds.drop (i + 1)) (dput acc y.1 z.1) (restR ρi z.2 vs) | none => .err)) G := w
        refine sk (pls Wo D) σ2 H3 ρ3 _ rel3 ((noX_rq w.bind).imp fun y w u H4 bd4 rel4 rp4 st4 => ?_)
        obtain ⟨yk, ρ4⟩ := y
        have w : RQ Z σ H ρ (noX (te ρ4) >>= fun z => (match keyV yk with | some _ => dcL vs g tt tk te (ds.drop (i + 1)) (dput acc yk z.1) (restR ρi z.2 vs) | none => .err)) G := w
        refine se (pls Wo D) σ2 H4 ρ4 _ rel4 ((noX_rq w.bind).imp fun y w v H5 bd5 rel5' rp5 st5 => ?_)
        obtain ⟨yd, ρ5⟩ := y
        dsimp only at w rel5' rp5 st5
        split at w
        · rename_i k ek
          have ev := keyK_at rp4 ek
          obtain ⟨o1, nD4, hD4, rel5, keep5, own5, ther5⟩ := fin H5 ρ5 rel5' ((st3.trans st4).trans st5) (putK vacc k v)
          have rE : EntK Z.K (av (pls Wo D) σ (restR ρi ρ5 vs)) (upd H5 D (.dK (putK vacc k v))) (putK vacc k v) (dput acc yk yd) := by
            rw [keyV_eq ek]
            refine ent_put (k := k) eqv_keyD (Rp.keep (fun b o n eb => ?_) (fun b z => .inl (z.imp id (o1 b))) yd rp5) (Paired.mapP racc fun p q z => ⟨z.1, Rp.keep (fun b o n eb => keep5 b o (fun z => n (.inl (.inr z))) (fun z => n (.inr z)) eb) (fun b z => ?_) _ z.2⟩)
            · rw [upd_ne (fun z => n (.inl (.inr z)))]; exact eb
            · rcases z with z | z
              · exact .inl (.inl z)
              · exact (own5 b z).imp .inr id
          have hla := Paired.length racc
          refine ⟨vacc, k, ev, hD4, ?_, _, dput acc yk yd, putK vacc k v, rel5, fun b o hb n e => keep5 b o hb (fun z => (owni b z).elim n fun q => by rw [e] at q; cases q) (keepi b o hb n e), fun b z => ?_, fun b n => ther5 b (theri b n), upd_same, fun z => nD4 (o1 D z), rE, ?_, again H5 ρ5 rel5' ((st3.trans st4).trans st5), w⟩
          · rw [hla]; omega
          · rcases own5 b z with q | q
            · exact owni b q
            · refine .inr ?_
              cases e : H1 b with
              | none => rfl
              | some o => exact absurd q (theri b (by rw [e]; simp))
          · have := Paired.length rE
            have := length_putK vacc k v
            omega
        · exact w.elim
      | false =>
        rw [if_neg Bool.false_ne_true]
        obtain ⟨o1, nD4, hD4, rel5, keep5, own5, ther5⟩ := fin H3 ρ3 rel3 st3 vacc
        have e5 : upd H3 D (.dK vacc) = H3 := by
          funext b
          by_cases hb : b = D
          · rw [hb, upd_same, hD4]
          · rw [upd_ne hb]
        rw [e5] at rel5 keep5 ther5
        refine ⟨_, acc, vacc, rel5, fun b o hb n e => keep5 b o hb (fun z => (owni b z).elim n fun q => by rw [e] at q; cases q) (keepi b o hb n e), fun b z => ?_, fun b n => ther5 b (theri b n), hD4, fun z => nD4 (o1 D z), ?_, by omega, again H3 ρ3 rel3 st3, w⟩
        · rcases own5 b z with q | q
          · exact owni b q
          · refine .inr ?_
            cases e : H1 b with
            | none => rfl
            | some o => exact absurd q (theri b (by rw [e]; simp))
        · refine Paired.mapP racc fun p q z => ⟨z.1, Rp.keep (fun b o n eb => keep5 b o (fun z => n (.inl (.inr z))) (fun z => n (.inr z)) eb) (fun b z => ?_) _ z.2⟩
          rcases z with z | z
          · exact .inl (.inl z)
          · exact (own5 b z).imp .inr id
    · have e : i = ds.length := by omega
      subst e
      refine .inl ⟨hd.2 (Nat.le_refl _), ?_⟩
      rw [List.drop_length] at qi
      have qi : go0 Z Wo σ H ρ Q (PyData.dict acc, ρi) := qi
      refine qi D Hi reli nW nDi ⟨D, vacc, rfl, hDi, racc⟩ (st1.trans ⟨fun b o n e => keepi b o (fun z => by subst z; rw [hD] at e; cases e) n e, owni, theri⟩) (st1.none hD)
  · exact h.elim
theorem do_dc {own : List (Str × Nat)} {ts : List Nat} (hi : DI Z tg iter mi) (hg : DG (Z.blk scope) tg ts g) (ht : DTs (Z.blk scope) ifs tt) (hk : DE (Z.blk scope) kx tk) (he : DE (Z.blk scope) vx te) (ok : ∀ i, BlkOk (Z.F i).N (Z.F i).env.scope scope own) (hts : ∀ i ∈ ts, i ∈ own.map (·.2))
    (hs : ∀ i x, foldedSetIterable iter (Z.F i).env x = pure x := by intro _ _; rfl) (hcm : Z.cm := by exact trivial) : DO Z (.DictComp kx vx [⟨tg, iter, ifs, 0⟩] scope pos) (mDc mi (own.map (·.2)) g tt tk te) := by
  obtain ⟨wi, pi, si⟩ := hi.ex
  obtain ⟨gg, pg, sg⟩ := hg.ex
  obtain ⟨t1, p1, s1⟩ := ht.ex
  obtain ⟨t2, p2, s2⟩ := hk.ex
  obtain ⟨t3, p3, s3⟩ := he.ex
  exact .mk' (fun i => pe_dc (Z.calm hcm i) (Z.nd i) (pi i) (ok i) (fun s H C cl fp => pg (i, s, H, C, cl, fp)) (fun s H C cl fp => p1 (i, s, H, C, cl, fp)) (fun s H C cl fp => p2 (i, s, H, C, cl, fp)) (fun s H C cl fp => p3 (i, s, H, C, cl, fp)) (hs i))
    (simDc (scope := scope) si sg hts s1 s2 s3)
end
/-! ### d.update(e), e a fresh dict -/
def mergeD (kvs ls : List (PyData × PyData)) : List (PyData × PyData) := ls.foldl (fun acc q => dput acc q.1 q.2) kvs
theorem ent_merge {K : PySem.W.Frag} {W : Wt} {H : Hp} : ∀ {ls' : List (Key × V)} {ls : List (PyData × PyData)} {es : List (Key × V)} {kvs : List (PyData × PyData)}, EntK K W H ls' ls → EntK K W H es kvs → EntK K W H (mergeK es ls') (mergeD kvs ls)
  | _, _, _, _, .nil, h => h
  | _, _, es, kvs, .cons (a := e) (b := q) ⟨h1, h2⟩ t, h => by
    have := ent_put (k := e.1) eqv_keyD h2 h
    rw [h1] at this
    show EntK K W H (mergeK (putK es e.1 e.2) _) (mergeD (dput kvs q.1 q.2) _)
    exact ent_merge t this
def mUpdK (j : Nat) (me : EM) : SM := fun ρ => match ρ[j]? with
  | some (some (.own (.dict _))) => me ρ >>= fun r => (match r.2[j]?, r.1 with
    | some (some (.own (.dict kvs))), .dict ls => if kvs.length + ls.length ≤ lim then .ok (.nx, r.2.set j (some (.own (.dict (mergeD kvs ls))))) else .err
    | _, _ => .err)
  | _ => .err
section
variable {ι : Type} {Z : Cz ι} {e : Expr} {me : EM} {x : Str} {pos pos' p apos : Pos} {j : Nat}
theorem ds_updK (hN : ∀ i, (Z.F i).N[j]? = some x) (hv : ∀ i, Vis (Z.F i).env.scope x) (he : DO Z e me) (hd : (x == ("__debug__" : Str)) = false := by decide) (hcd : (x == ("__classdict__" : Str)) = false := by decide)
    (hbase : ∀ i, attributeBase (.Name x p) "update" (Z.F i).env (eval (.Name x p) (Z.F i).env) = eval (.Name x p) (Z.F i).env := by intro _; rfl)
    (hfew : ∀ i, ((backTo pos (starEach [e] (Z.F i).env)).all (fun x => !x.1) && (backToKw pos (keywordEach [] (Z.F i).env)).all (fun x => x.1.isSome) && decide (([e] : List Expr).length + ([] : List Keyword).length + (if ([] : List Keyword).isEmpty then 0 else 1) < 30)) = true := by intro _; rfl)
    (hline : (apos.endLine == pos.line) = true := by rfl) (hs : ∀ i, starEach [e] (Z.F i).env = (false, eval e (Z.F i).env) :: starEach [] (Z.F i).env := by intro _; rfl) (hplain : ∀ i, (backTo pos (starEach [] (Z.F i).env)).any (·.1) = false := by intro _; rfl)
    (hsw : ∀ i, swapsWith (.Call (.Attribute (.Name x p) "update" apos) [e] [] pos) none pos'.line (Z.F i).env = pure false := by intro _; rfl) :
    DS Z (.Expr (.Call (.Attribute (.Name x p) "update" apos) [e] [] pos) pos') (mUpdK j me) := by
  obtain ⟨t, q, s⟩ := he.ex
  refine .mk' (fun i => ps_expr (pe_bmZ PySem.F.plainAttrs_dict PySem.F.slot_dict_update PySem.F.type_dict_update (fun i => mt_upd) (fun i => pe_var (hN i) (hv i) hd hcd) (fun i => pa_cons (q i) pa_nil (hs i)) hbase hfew hline hs hplain i) (hsw i)) fun Wo σ H ρ D bd rel post => ?_
  unfold mUpdK at post
  split at post
  · rename_i d0 e0
    obtain ⟨a, es, e1, h1, h2⟩ := ownK_at rel e0
    refine ⟨.ref a, e1, .inr (.inr (.inl ⟨rfl, .inl ⟨_, h1⟩⟩)), ?_⟩
    refine s Wo σ H ρ _ rel (post.bind.imp fun r h b H1 bd1 rel1 n1 n2 ow st1 hb => ?_)
    obtain ⟨rd, ρ1⟩ := r
    dsimp only at h rel1 n1 n2 ow st1
    split at h
    · rename_i kvs ls e2
      split at h
      · rename_i hl
        have rel2 := rel1.plus
        obtain ⟨a', ks, e3, h3, h4⟩ := ownK_at rel2 e2
        rw [e1] at e3
        cases e3
        obtain ⟨b', ls', eb, h5, h6⟩ := ow
        cases eb
        have ne : a ≠ b := fun z => n2 ⟨j, _, e2, by rw [← z]; exact e1⟩
        have l1 := Paired.length h4
        have l2 := Paired.length h6
        refine ⟨a, b, ks, ls', rfl, rfl, ne, h3, h5, by rw [l1, l2]; exact lim_le hl, ?_⟩
        have h7 : EntK Z.K (av Wo σ ρ1) H1 ls' ls := Paired.mapP h6 fun p q z => ⟨z.1, Rp.plus z.2⟩
        have h8 := ent_merge h7 h4
        exact h.ok σ _ (rel2.write e2 e1 ⟨a, _, rfl, upd_same, Paired.mapP h8 fun x y z => ⟨z.1, z.2.upd e2 e1⟩⟩) (st1.trans (step_write e2 e1)) (.refl _)
      · exact h.elim
    · exact h.elim
  · exact post.elim
end
section
variable {ι : Type} {Z : Cz ι} {ix : Expr} {mi : EM} {x : Str} {pos p : Pos} {j : Nat}
theorem sim_dinT {neg : Bool} {ti : TE} (si : SimE Z ti mi) : ∀ Wo σ H ρ Q, Bd Z.K H → RelZ Z Wo σ H ρ → RQ Z σ H ρ (mTest (mDInK neg mi j) ρ) (gt0 Z Wo σ H ρ Q) → ti σ H fun y H1 => tVar j σ H1 fun x H2 => ∃ a o, x = .ref a ∧ DGet H2 a y o ∧ ∃ b, V.bl (o.isSome != neg) = .bl b ∧ Q b H2 := fun Wo σ H ρ Q bd rel post =>
  sim_dinK (neg := neg) si Wo σ H ρ (fun v H' => ∃ b, v = .bl b ∧ Q b H') bd rel (post.bind.imp fun r h v H1 rel1 rp1 st1 => by
    obtain ⟨d, ρ1⟩ := r
    cases d with
    | bool b =>
      cases rp1
      exact ⟨b, rfl, h.ok H1 rel1 st1⟩
    | _ => exact False.elim h)
theorem dt_dinK (hi : DE Z ix mi) (hN : ∀ i, (Z.F i).N[j]? = some x) (hv : ∀ i, Vis (Z.F i).env.scope x) (hb : behindInMarks .In (.Name x p) = false := by rfl) (hd : (x == ("__debug__" : Str)) = false := by decide) (hcd : (x == ("__classdict__" : Str)) = false := by decide) :
    DT Z (.Compare ix [.In] [.Name x p] pos) (mTest (mDInK false mi j)) := by
  obtain ⟨t, q, s⟩ := hi.ex
  refine .mk' (fun i => pt_cmp (pc_din (room1 i) (q i) (pe_var (hN i) (hv i) hd hcd)) hb) fun Wo σ H ρ Q bd rel post => ?_
  have := sim_dinT (neg := false) s Wo σ H ρ Q bd rel post
  simpa [tDIn, tB] using this
theorem dt_dnotinK (hi : DE Z ix mi) (hN : ∀ i, (Z.F i).N[j]? = some x) (hv : ∀ i, Vis (Z.F i).env.scope x) (hb : behindInMarks .NotIn (.Name x p) = false := by rfl) (hd : (x == ("__debug__" : Str)) = false := by decide) (hcd : (x == ("__classdict__" : Str)) = false := by decide) :
    DT Z (.Compare ix [.NotIn] [.Name x p] pos) (mTest (mDInK true mi j)) := by
  obtain ⟨t, q, s⟩ := hi.ex
  refine .mk' (fun i => pt_cmp (pc_dnotin (room1 i) (q i) (pe_var (hN i) (hv i) hd hcd)) hb) fun Wo σ H ρ Q bd rel post => ?_
  have := sim_dinT (neg := true) s Wo σ H ρ Q bd rel post
  simpa [tDNotIn, tB] using this
end
end ZZ

/-! Z27: an own list handed on as a value; own list + list as an own list -/
namespace ZZ
open PySem PySem.Spec PyProof.Rows L2 Ob
theorem own_less {σ : L2.St} {ρ : Rho} {j : Nat} {d : PyData} {b : Addr} (h : ownAt σ (ρ.set j (some (.val d))) b) : ownAt σ ρ b := by
  obtain ⟨i, e, e1, e2⟩ := h
  by_cases hi : j = i
  · subst hi
    rw [List.getElem?_set] at e1
    simp only [if_true] at e1
    split at e1 <;> cases e1
  · rw [List.getElem?_set_ne hi] at e1
    exact ⟨i, e, e1, e2⟩
/-- what one owned is a value from now on -/
theorem Rel.give {K : PySem.W.Frag} {prot : List Nat} {Wo : Wt} {σ : L2.St} {H : Hp} {ρ : Rho} {j : Nat} {ds : List PyData} (r : Rel K prot Wo σ H ρ) (hj : ρ[j]? = some (some (.own (.list ds)))) (hp : j ∉ prot) :
    ∃ v, σ[j]? = some (some v) ∧ Rel K prot Wo σ H (ρ.set j (some (.val (.list ds)))) ∧ Rp K (av Wo σ (ρ.set j (some (.val (.list ds))))) H v (.list ds) := by
  obtain ⟨v, e1, a, xs, rfl, h1, h2⟩ := r.slot j _ hj
  have hl : j < ρ.length := (List.getElem?_eq_some_iff.mp hj).1
  have less : ∀ b, av Wo σ (ρ.set j (some (.val (.list ds)))) b → av Wo σ ρ b ∨ H b = none := fun b z => .inl (z.imp id own_less)
  have own : ∀ {i : Nat} {d : PyData}, (ρ.set j (some (Slot.val (.list ds))))[i]? = some (some (.own d)) → j ≠ i ∧ ρ[i]? = some (some (.own d)) := fun {i d} e => by
    by_cases hi : j = i
    · subst hi
      rw [List.getElem?_set_self hl] at e
      cases e
    · rw [List.getElem?_set_ne hi] at e
      exact ⟨hi, e⟩
  have na : ¬ av Wo σ (ρ.set j (some (.val (.list ds)))) a := fun z => by
    rcases z with z | ⟨i, d, e2, e3⟩
    · exact r.fr j _ a hp hj e1 z
    · obtain ⟨n, e4⟩ := own e2
      exact n (r.sep j i _ _ a hj e4 e1 e3)
  have rv : Rp K (av Wo σ (ρ.set j (some (.val (.list ds))))) H (.ref a) (.list ds) := .lst ⟨na, .inl h1⟩ (RpL.keep (fun _ _ _ e => e) less ds h2)
  refine ⟨_, e1, ⟨by rw [List.length_set]; exact r.len, fun i sl e => ?_, fun i k d d' b q1 q2 q3 q4 => r.sep i k d d' b (own q1).2 (own q2).2 q3 q4, r.wo, fun i d b hi q1 q2 => r.fr i d b hi (own q1).2 q2⟩, rv⟩
  by_cases hi : j = i
  · subst hi
    rw [List.getElem?_set_self hl] at e
    cases e
    exact ⟨_, e1, rv⟩
  · rw [List.getElem?_set_ne hi] at e
    obtain ⟨u, e2, q⟩ := r.slot i sl e
    refine ⟨u, e2, ?_⟩
    cases sl with
    | val d => exact Rp.keep (fun _ _ _ e => e) less d q
    | own d => exact OwnR.keep q (fun _ _ _ e => e) less fun _ _ _ e => e
    | raw u => exact q
/-- y = x, x a list that one owned -/
def mGive (i j : Nat) : SM := fun ρ => match ρ[j]? with
  | some (some (.own (.list ds))) => .ok (.nx, (ρ.set j (some (.val (.list ds)))).set i (some (.val (.list ds))))
  | _ => .err
section
variable {ι : Type} {Z : Cz ι} {i j : Nat} {x y : Str} {p p' pos : Pos} {e : Expr} {me : EM}
theorem ds_give (hi : ∀ u, (Z.F u).N[i]? = some y) (hy : ∀ u, Loc (Z.F u).env.scope y) (hpi : i ∉ Z.prot) (hpj : j ∉ Z.prot) (hN : ∀ u, (Z.F u).N[j]? = some x) (hv : ∀ u, Vis (Z.F u).env.scope x)
    (hs : ∀ u, swapsWith (.Name x p) (some (.Name y p')) pos.line (Z.F u).env = pure false) (hf : ∀ u, (Z.F u).fn y = true ∨ (Z.F u).env.scope.names.lookup y = some .local) (hd : (x == ("__debug__" : Str)) = false := by decide) (hcd : (x == ("__classdict__" : Str)) = false := by decide) :
    DS Z (.Assign [.Name y p'] (.Name x p) pos) (mGive i j) := by
  refine .mk' (fun u => ps_setW (Z.nd u) (hi u) (hy u) (pe_var (hN u) (hv u) hd hcd) (hs u) (hf u)) fun Wo σ H ρ D bd rel post => ?_
  unfold mGive at post
  split at post
  · rename_i ds e0
    obtain ⟨v, e1, r1, rv⟩ := rel.give e0 hpj
    refine ⟨v, e1, post.ok _ H (r1.set_val rv) ?_ (.set hpi)⟩
    exact ⟨fun _ _ _ e => e, fun b z => .inl (own_less (ownAt_set_val (s := some (Slot.val (.list ds))) (fun _ z => nomatch z) z)), fun _ n => n⟩
  · exact post.elim
/-- x + e, x an own list: a fresh list -/
def mAddOwn (j : Nat) (me : EM) : EM := fun ρ => match ρ[j]? with
  | some (some (.own _)) => me ρ >>= fun r => (match r.2[j]?, r.1 with
    | some (some (.own (.list ds))), .list es => if ds.length + es.length ≤ lim then .ok (.list (ds ++ es), r.2) else .err
    | _, _ => .err)
  | _ => .err
theorem do_addOwn (hN : ∀ u, (Z.F u).N[j]? = some x) (hv : ∀ u, Vis (Z.F u).env.scope x) (he : DE Z e me) (hd : (x == ("__debug__" : Str)) = false := by decide) (hcd : (x == ("__classdict__" : Str)) = false := by decide) :
    DO Z (.BinOp (.Name x p) .Add e pos) (mAddOwn j me) := by
  obtain ⟨t, q, s⟩ := he.ex
  refine .mk' (fun u => pe_op op_catL (pe_var (hN u) (hv u) hd hcd) (q u)) fun Wo σ H ρ Q bd rel post => ?_
  unfold mAddOwn at post
  split at post
  · rename_i d0 e0
    obtain ⟨v, e1, _⟩ := rel.slot j _ e0
    refine ⟨v, e1, s Wo σ H ρ _ rel (post.bind.imp fun r h u H1 bd1 rel1 rp1 st1 => ?_)⟩
    obtain ⟨d1, ρ1⟩ := r
    dsimp only at h rel1 rp1 st1
    split at h
    · rename_i ds es e2
      split at h
      · rename_i hl
        obtain ⟨a, xs, e3, h1, h2⟩ := own_at rel1 e2
        rw [e1] at e3
        cases e3
        obtain ⟨b, ys, rfl, h3, h4⟩ := Rp.lstE rp1
        refine ⟨a, b, xs, ys, rfl, rfl, .inl h1, h3.2, by rw [h2.len, h4.len]; exact lim_le hl, fun p hp => ?_⟩
        have n := rel1.new hp
        exact h.ok p _ (rel1.fresh hp) (fun z => n (.inl z)) (fun z => n (.inr z)) (own_lst hp (h2.append h4) rel1) (st1.trans (Same.step (same_upd hp))) (st1.none hp)
      · exact h.elim
    · exact h.elim
  · exact post.elim
end
end ZZ
namespace ZZ
open PySem PySem.Spec PyProof.Rows L2 Ob HT
/-! (..)[::-1] -/
section
variable {prog : Program} {w : World} {A : Around} {E : Value → Shared → Prop} {s : Shared}
theorem adj_rev (n : Nat) : Builtin.Slice.sliceAdjust none none (-1) (n : Int) = ((n : Int) - 1, -1) := by
  unfold Builtin.Slice.sliceAdjust
  simp
theorem plc_rev (n : Nat) : Builtin.Slice.slicePlaces ((n : Int) - 1) (-1) (-1) = n := by
  unfold Builtin.Slice.slicePlaces
  by_cases h : 0 < n
  · simp [h, show (-1 : Int) < (n : Int) - 1 by omega]
  · have : n = 0 := by omega
    subst this
    rfl
theorem fm_congr {α β : Type} {f g : α → Option β} : ∀ {l : List α}, (∀ x ∈ l, f x = g x) → l.filterMap f = l.filterMap g
  | [], _ => rfl
  | x :: l, h => by
    rw [List.filterMap_cons, List.filterMap_cons, h x List.mem_cons_self, fm_congr fun y hy => h y (List.mem_cons_of_mem _ hy)]
theorem fm_all {α : Type} : ∀ r : List α, (List.range r.length).filterMap (fun m : Nat => r[m]?) = r
  | [] => rfl
  | a :: r => by
    rw [List.length_cons, List.range_succ_eq_map, List.filterMap_cons]
    simp only [List.getElem?_cons_zero]
    rw [List.filterMap_map]
    have := fm_all r
    congr 1
theorem pick_rev (xs : Array Value) : ((List.range xs.size).filterMap fun (m : Nat) => xs[(((xs.size : Nat) : Int) - 1 + (m : Int) * (-1)).toNat]?).toArray = xs.toList.reverse.toArray := by
  congr 1
  have h1 : ∀ m ∈ List.range xs.size, xs[(((xs.size : Nat) : Int) - 1 + (m : Int) * (-1)).toNat]? = xs.toList.reverse[m]? := fun m hm => by
    have hm : m < xs.toList.length := by simpa using hm
    rw [List.getElem?_reverse hm, ← Array.getElem?_toList]
    congr 1
    simp at hm ⊢
    omega
  rw [fm_congr h1]
  have := fm_all xs.toList.reverse
  rw [List.length_reverse, Array.length_toList] at this
  exact this
theorem applied_rev {sl : Addr} {vl vu vs : Value} {n : Nat} {Q : Int × Int × Nat → Shared → Prop} (hs : s.heap.IsSliceOf sl vl vu vs) (pl : IsPart vl none) (pu : IsPart vu none) (ps : IsPart vs (some (-1)))
    (h : Q (((n : Nat) : Int) - 1, -1, n) s) : wpAny (model prog w) A (Builtin.Slice.sliceApplied (.ref sl) (pure (n : Int))) Q E s := by
  obtain ⟨o, ho, _, hd⟩ := id hs
  unfold Builtin.Slice.sliceApplied Builtin.Slice.sliceFields
  apply wpAny_bind
  apply wpAny_bind
  apply wpAny_field ho hd (x := vl) rfl
  apply wpAny_bind
  apply wpAny_field ho hd (x := vu) rfl
  apply wpAny_bind
  apply wpAny_field ho hd (x := vs) rfl
  apply wpAny_pure
  apply wpAny_bind
  apply slicePart_ ps
  show wpAny _ _ (if ((-1 : Int) == 0) = true then _ else _) _ _ s
  rw [if_neg (by decide)]
  apply wpAny_bind
  apply slicePart_ pl
  apply wpAny_bind
  apply slicePart_ pu
  apply wpAny_bind
  apply wpAny_pure
  show wpAny _ _ (match Builtin.Slice.sliceAdjust none none (-1) (n : Int) with | (lo, hi) => pure (lo, (-1 : Int), Builtin.Slice.slicePlaces lo hi (-1))) _ _ s
  rw [adj_rev n]
  show wpAny _ _ (pure (((n : Nat) : Int) - 1, (-1 : Int), Builtin.Slice.slicePlaces (((n : Nat) : Int) - 1) (-1) (-1))) _ _ s
  rw [plc_rev]
  exact wpAny_pure h
theorem getItem_tuple_rev {t sl : Addr} {items : Array Value} {vl vu vs : Value} {Q : Value → Shared → Prop} (ht : IsTup s.heap t items) (hs : s.heap.IsSliceOf sl vl vu vs) (pl : IsPart vl none) (pu : IsPart vu none) (ps : IsPart vs (some (-1)))
    (h : Q (.ref s.heap.objs.size) { s with heap := s.heap.push { cls := .type "tuple", data := .seq items.toList.reverse.toArray } }) (hsz : items.size ≤ sizeLine) : wpAny (model prog w) A (getItem (.ref t) (.ref sl)) Q E s := by
  have fits : sizeOk (.seq items.toList.reverse.toArray) := by
    show items.toList.reverse.toArray.size ≤ sizeLine
    rw [List.size_toArray, List.length_reverse, Array.length_toList]
    exact hsz
  obtain ⟨o, ho, hc, hd⟩ := id hs
  have isS : s.TypeIs (.ref sl) "slice" := ⟨o, ho, hc⟩
  unfold getItem
  try with_reducible apply wpAny_holding
  first | refine wpAny_bind (wpAny_pure ?_) | skip
  apply wpAny_bind
  apply wpAny_sequenceKey ht.typeIs (by decide)
  apply wpAny_bind
  refine wpAny_callSpecial?_slot (name := Str.ofString "__getitem__") ht.typeIs PyProof.Rows.slot_tuple_getitem (wpAny_call_entry PyProof.Rows.slot_tuple_getitem ht.typeIs entry_tuple_getitem ?_ (args_tuple_getitem _ _))
  show wpAny _ _ (Builtin.Tuple.tupleItemsOf (.ref t) >>= _) _ _ s
  apply wpAny_bind
  apply tupleItemsOf_ ht
  apply wpAny_bind
  apply wpAny_typeOf isS
  rw [if_pos (by decide)]
  apply wpAny_bind
  apply applied_rev hs pl pu ps
  show wpAny _ _ (if ((((items.size : Nat) : Int) - 1 : Int) == 0 && (-1 : Int) == 1 && items.size == items.size) = true then _ else _) _ _ s
  rw [if_neg (by simp), pick_rev]
  first
    | exact wpAny_bind (m := Builtin.Tuple.tupleExact _) (wpAny_newObj_type (wpAny_pure ⟨_, rfl, wpAny_pure h⟩) fits)
    | exact wpAny_bind (wpAny_bind (m := Builtin.Tuple.tupleExact _) (wpAny_newObj_type (wpAny_pure (wpAny_pure ⟨_, rfl, wpAny_pure h⟩)) fits))
    | exact wpAny_bind (m := Builtin.Tuple.tupleExact _) (wpAny_newObj_type (wpAny_bind (wpAny_pure (wpAny_pure ⟨_, rfl, wpAny_pure h⟩))) fits)
    | exact wpAny_bind (wpAny_bind (m := Builtin.Tuple.tupleExact _) (wpAny_newObj_type (wpAny_pure ⟨_, rfl, wpAny_pure h⟩) fits))
end
def tRevT (K : PySem.W.Frag) (te : TE) : TE := fun σ H Q => te σ H fun x H1 => ∃ a xs, x = .ref a ∧ SqT K H1 a xs ∧ ∀ p, H1 p = none → Q (.ref p) (upd H1 p (.tup xs.reverse))
abbrev revS (k : Nat) (p1 p2 p3 : Pos) : Expr := .Slice none none (some (.UnaryOp .USub (.Constant (.int 1) k p1) p2)) p3
theorem pe_revT {X : Cx} {e : Expr} {te : TE} {k : Nat} {p1 p2 p3 pos : Pos} (he : PE X e te) : PE X (.Subscript e (revS k p1 p2 p3) pos) (tRevT X.K te) := by
  constructor
  intro pins s σ H Q I h
  apply Subscript_
  refine thn (he.run pins s σ H _ I h) ?_
  rintro v s1 ⟨x, H1, I1, r1, a, xs, rfl, hx, q⟩
  cases r1
  have step : PO X (some (.UnaryOp .USub (.Constant (.int 1) k p1) p2)) (tPart (tUn (rU fun i => .int (-i)) (tC (.int 1)))) := po_some (pe_un un_neg pe_int)
  apply wpAny_Slice
  refine thn (po_none.run pins s1 σ H1 (fun o G => o = none ∧ G = H1) I1 ⟨rfl, rfl⟩) ?_
  rintro vl s2 ⟨l, H2, I2, pl, rfl, rfl⟩
  refine thn (po_none.run pins s2 σ H2 (fun o G => o = none ∧ G = H2) I2 ⟨rfl, rfl⟩) ?_
  rintro vu s3 ⟨u, H3, I3, pu, rfl, rfl⟩
  refine thn (step.run pins s3 σ H3 (fun o G => o = some (-1) ∧ G = H3) I3 ⟨1, rfl, -1, rfl, rfl, rfl⟩) ?_
  rintro vs s4 ⟨o, H4, I4, ps, rfl, rfl⟩
  have J : Inv X pins σ H4 { s4 with heap := s4.heap.push { cls := .type "slice", data := .fields #[vl, vu, vs] } } := I4.kept (t' := s4.toks) fun b ob z => Heap.get?_push_of_some _ z
  obtain ⟨its, r, ht, hz⟩ := J.tuple hx
  have len := r.length
  show wpAny (model X.prog X.w) X.A (subscriptTail e (revS k p1 p2 p3) (.ref a) (.ref s4.heap.objs.size)) (EP X pins σ Q) X.xe { s4 with heap := s4.heap.push { cls := .type "slice", data := .fields #[vl, vu, vs] } }
  refine tail_any (ops := [.ref a, .ref s4.heap.objs.size]) ht.typeIs (PyProof.Rows.slot_tuple_getitem.lookup) ?_ (by with_unfolding_all rfl)
  refine getItem_tuple_rev ht (Heap.IsSliceOf.new _ vl vu vs) pl pu ps ?_ (by rw [List.size_toArray, ← len]; exact hz)
  refine ⟨.ref _, _, J.laid (t' := s4.toks) (o := .tup xs.reverse) (fun b ob z => Heap.get?_push_of_some _ z) (Nat.le_refl _) ?_, rfl, q _ (J.hok.fresh (Nat.le_refl _))⟩
  exact ⟨by rw [List.length_reverse]; exact hz, _, r.reverse, ⟨_, Heap.get?_push_size _ rfl, rfl, _, rfl⟩⟩
def sRevT : PyData → Res PyData
  | .tuple ds => .ok (.tuple ds.reverse)
  | _ => .err
theorem pu_revT (d : PyData) : ∀ c as, sRevT d ≠ .exc c as := fun c as => by
  unfold sRevT
  split <;> exact fun z => nomatch z
theorem de_revT {ι : Type} {Z : Cz ι} {e : Expr} {me : EM} {k : Nat} {p1 p2 p3 pos : Pos} (he : DE Z e me) : DE Z (.Subscript e (revS k p1 p2 p3) pos) (mUn sRevT me) := by
  obtain ⟨t, q, s⟩ := he.ex
  refine .mk' (t := tRevT Z.K t) (fun i => by rw [← Z.hK i]; exact pe_revT (q i)) fun Wo σ H ρ Q bd rel post => ?_
  refine s Wo σ H ρ _ rel (post.bind.imp fun r h v H1 bd1 rel1 rp1 st1 => ?_)
  obtain ⟨d, ρ1⟩ := r
  cases d with
  | tuple ds =>
    obtain ⟨a, xs, rfl, h1, h2⟩ := rp1.tupE
    refine ⟨a, xs, rfl, h1.sq, fun p hp => ?_⟩
    exact (RQ.ok h) _ _ (rel1.same (same_upd hp)) (.tupN (fun b z => rel1.av_some z) hp h2.reverse) (st1.trans (Same.step (same_upd hp)))
  | _ => exact False.elim h
/-! list(e) as an own list -/
theorem do_listOf {ι : Type} {Z : Cz ι} {e : Expr} {me : EM} {p pos : Pos} (hg : ∀ i, Gl (Z.F i) "list") (hm : Z.mg "list" = none) (ha : DE Z e me) (he : ∀ i, starEach [e] (Z.F i).env = (false, eval e (Z.F i).env) :: starEach [] (Z.F i).env := by intro _; rfl) (hpl : ∀ i, (backTo pos (starEach [] (Z.F i).env)).any (·.1) = false := by intro _; rfl) :
    DO Z (.Call (.Name "list" p) [e] [] pos) (mUn sList me) := by
  obtain ⟨t, q, s⟩ := ha.ex
  have hm' : ∀ i, (Z.F i).mg "list" = none := fun i => by rw [Z.hmg]; exact hm
  refine .mk' (t := tCB (rListOf Z.K) (tCons t tNil)) (fun i => pe_callTy (call_listZ i) (hg i) (hm' i) (by decide +kernel) (pa_cons (q i) pa_nil (he i)) (by decide) (by decide) (he i) (hpl i)) fun Wo σ H ρ Q bd rel post => ?_
  refine s Wo σ H ρ _ rel (post.bind.imp fun r h v H1 bd1 rel1 rp1 st1 => ?_)
  obtain ⟨d, ρ1⟩ := r
  dsimp only at h rel1 rp1 st1
  have fin : ∀ {a : Addr} {xs : List V} {ds : List PyData}, v = .ref a → (SqL Z.K H1 a xs ∨ SqT Z.K H1 a xs) → RpL Z.K (av Wo σ ρ1) H1 xs ds → RQ Z σ H ρ (Res.ok (PyData.list ds, ρ1)) (go0 Z Wo σ H ρ Q) → rListOf Z.K [v] H1 Q := fun {a xs ds} ev hs hr h => ⟨a, xs, by rw [ev], hs, fun l hl => by
    have n := rel1.new hl
    exact h.ok l _ (rel1.fresh hl) (fun z => n (.inl z)) (fun z => n (.inr z)) (own_lst hl hr rel1) (st1.trans (Same.step (same_upd hl))) (st1.none hl)⟩
  cases d with
  | list ds =>
    obtain ⟨a, xs, rfl, h1, h2⟩ := Rp.lstE rp1
    exact fin rfl (.inl (.inl h1.2)) h2 h
  | tuple ds =>
    obtain ⟨a, xs, rfl, h1, h2⟩ := rp1.tupE
    exact fin rfl (.inr h1.sq) h2 h
  | _ => exact False.elim h
end ZZ

/-! C1: how the functions compute -/
namespace ZZ
open PySem PySem.Spec PyProof.Rows L2 Ob

theorem nr {α : Type} {a b : α} (h : a = b) : a = b := h
theorem ok_b {α β : Type} (a : α) (f : α → Res β) : (Res.ok a >>= f) = f a := nr rfl
theorem mVar_e (j : Nat) (ρ : Rho) : mVar j ρ = match ρ[j]? with
  | some (some (.val d)) => .ok (d, ρ)
  | _ => .err := nr rfl
theorem mCon_e (d : PyData) (ρ : Rho) : mCon d ρ = .ok (d, ρ) := nr rfl
theorem mPk_e (j : Nat) (ρ : Rho) : mPk j ρ = match ρ[j]? with
  | some (some (.val d)) => .ok (d, ρ)
  | some (some (.own (.list ds))) => .ok (.list ds, ρ)
  | _ => .err := nr rfl
theorem mBin_e (sem : PyData → PyData → Res PyData) (ma mb : EM) (ρ : Rho) : mBin sem ma mb ρ = ma ρ >>= fun r1 => mb r1.2 >>= fun r2 => sem r1.1 r2.1 >>= fun g => .ok (g, r2.2) := nr rfl
theorem mUn_e (sem : PyData → Res PyData) (ma : EM) (ρ : Rho) : mUn sem ma ρ = ma ρ >>= fun r1 => sem r1.1 >>= fun g => .ok (g, r1.2) := nr rfl
theorem mTest_e (m : EM) (ρ : Rho) : mTest m ρ = m ρ >>= fun r => match r.1 with | .bool b => .ok (b, r.2) | _ => .err := nr rfl
theorem mChain_e (s1 s2 : PyData → PyData → Res PyData) (ma mb mc : EM) (ρ : Rho) : mChain s1 s2 ma mb mc ρ = ma ρ >>= fun r1 => mb r1.2 >>= fun r2 => s1 r1.1 r2.1 >>= fun g => match g with
  | .bool true => mc r2.2 >>= fun r3 => s2 r2.1 r3.1 >>= fun g => .ok (g, r3.2)
  | .bool false => .ok (.bool false, r2.2)
  | _ => .err := nr rfl
theorem mTru_e (m : EM) (ρ : Rho) : mTru m ρ = m ρ >>= fun r => oTru r.1 >>= fun b => .ok (b, r.2) := nr rfl
theorem tmAnd_e (a b : TM) (ρ : Rho) : tmAnd a b ρ = a ρ >>= fun r => if r.1 = true then b r.2 else .ok (false, r.2) := nr rfl
theorem tmOr_e (a b : TM) (ρ : Rho) : tmOr a b ρ = a ρ >>= fun r => if r.1 = true then .ok (true, r.2) else b r.2 := nr rfl
theorem tmNot_e (a : TM) (ρ : Rho) : tmNot a ρ = a ρ >>= fun r => .ok (!r.1, r.2) := nr rfl
theorem mAnd_e (a b : EM) (ρ : Rho) : mAnd a b ρ = a ρ >>= fun r => oTru r.1 >>= fun k => if k = true then b r.2 else .ok r := nr rfl
theorem mOr_e (a b : EM) (ρ : Rho) : mOr a b ρ = a ρ >>= fun r => oTru r.1 >>= fun k => if k = true then .ok r else b r.2 := nr rfl
theorem mNot_e (a : EM) (ρ : Rho) : mNot a ρ = a ρ >>= fun r => oTru r.1 >>= fun k => .ok (.bool (!k), r.2) := nr rfl
theorem mIf_e (c : TM) (a b : EM) (ρ : Rho) : mIf c a b ρ = c ρ >>= fun r => if r.1 = true then a r.2 else b r.2 := nr rfl
theorem mNil_e (ρ : Rho) : mNil ρ = .ok ([], ρ) := nr rfl
theorem mCons_e (a : EM) (r : AM) (ρ : Rho) : mCons a r ρ = a ρ >>= fun x => r x.2 >>= fun y => .ok (x.1 :: y.1, y.2) := nr rfl
theorem mTup_e (m : AM) (ρ : Rho) : mTup m ρ = m ρ >>= fun r => if r.1.length ≤ lim then .ok (.tuple r.1, r.2) else .err := nr rfl
theorem mLst_e (m : AM) (ρ : Rho) : mLst m ρ = m ρ >>= fun r => if r.1.length ≤ lim then .ok (.list r.1, r.2) else .err := nr rfl
theorem mIxOwn_e (j : Nat) (mb : EM) (ρ : Rho) : mIxOwn j mb ρ = match ρ[j]? with
  | some (some (.own _)) => mb ρ >>= fun r => (match r.2[j]? with
    | some (some (.own (.list ds))) => sIx (.list ds) r.1 >>= fun g => .ok (g, r.2)
    | _ => .err)
  | _ => .err := nr rfl
theorem oNo_e (ρ : Rho) : oNo ρ = .ok (none, ρ) := nr rfl
theorem oIt_e (m : EM) (ρ : Rho) : oIt m ρ = m ρ >>= fun r => match r.1 with | .int i => .ok (some i, r.2) | _ => .err := nr rfl
theorem mSl_e (ma : EM) (ml mh : OM) (ρ : Rho) : mSl ma ml mh ρ = ma ρ >>= fun r => ml r.2 >>= fun l => mh l.2 >>= fun h => sSl r.1 l.1 h.1 >>= fun g => .ok (g, h.2) := nr rfl
theorem mSkip_e (ρ : Rho) : mSkip ρ = .ok (.nx, ρ) := nr rfl
theorem mSeq_e (a b : SM) (ρ : Rho) : mSeq a b ρ = a ρ >>= fun r => match r.1 with
  | .nx => b r.2
  | f => .ok (f, r.2) := nr rfl
theorem mExpr_e (m : EM) (ρ : Rho) : mExpr m ρ = m ρ >>= fun r => .ok (.nx, r.2) := nr rfl
theorem mRet_e (m : EM) (ρ : Rho) : mRet m ρ = m ρ >>= fun r => .ok (.rt (.val r.1), r.2) := nr rfl
theorem mRetN_e (ρ : Rho) : mRetN ρ = .ok (.rt (.val .none), ρ) := nr rfl
theorem mRetOwn_e (j : Nat) (ρ : Rho) : mRetOwn j ρ = match ρ[j]? with
  | some (some (.own d)) => .ok (.rt (.own d), ρ)
  | _ => .err := nr rfl
theorem mIfS_e (c : TM) (a b : SM) (ρ : Rho) : mIfS c a b ρ = c ρ >>= fun r => if r.1 = true then a r.2 else b r.2 := nr rfl
theorem mSet_e (j : Nat) (m : EM) (ρ : Rho) : mSet j m ρ = m ρ >>= fun r => .ok (.nx, r.2.set j (some (.val r.1))) := nr rfl
theorem mSetO_e (j : Nat) (m : EM) (ρ : Rho) : mSetO j m ρ = m ρ >>= fun r => .ok (.nx, r.2.set j (some (.own r.1))) := nr rfl
theorem mAsg_e (g : GM) (m : EM) (ρ : Rho) : mAsg g m ρ = m ρ >>= fun r => g r.1 r.2 >>= fun ρ' => .ok (.nx, ρ') := nr rfl
theorem mPar_e (i j : Nat) (m : AM) (ρ : Rho) : mPar i j m ρ = m ρ >>= fun r => match r.1 with
  | [a, b] => .ok (.nx, (r.2.set i (some (.val a))).set j (some (.val b)))
  | _ => .err := nr rfl
theorem iLst_e (m : EM) (ρ : Rho) : iLst m ρ = m ρ >>= fun r => match r.1 with | .list ds => .ok (ds, r.2) | _ => .err := nr rfl
theorem iTpl_e (m : EM) (ρ : Rho) : iTpl m ρ = m ρ >>= fun r => match r.1 with | .tuple ds => .ok (ds, r.2) | _ => .err := nr rfl
theorem iZip_e (ma mb : EM) (ρ : Rho) : iZip ma mb ρ = ma ρ >>= fun r => mb r.2 >>= fun q => zipD r.1 q.1 >>= fun l => .ok (l, q.2) := nr rfl
theorem iEnL_e (m : EM) (ρ : Rho) : iEnL m ρ = m ρ >>= fun r => match r.1 with | .list ds => .ok (enumD ds, r.2) | _ => .err := nr rfl
theorem mFor_e (mi : IM) (g : GM) (mb : SM) (ρ : Rho) : mFor mi g mb ρ = mi ρ >>= fun r => forL g mb r.1 r.2 := nr rfl
theorem mRg_e (m : IM) (ρ : Rho) : mRg m ρ = m ρ >>= fun r => .ok (.list r.1, r.2) := nr rfl
theorem mRgT_e (m : IM) (ρ : Rho) : mRgT m ρ = m ρ >>= fun r => .ok (.tuple r.1, r.2) := nr rfl
theorem mAppend_e (j : Nat) (m : EM) (ρ : Rho) : mAppend j m ρ = match ρ[j]? with
  | some (some (.own (.list _))) => m ρ >>= fun r => (match r.2[j]? with
    | some (some (.own (.list ds))) => if ds.length < lim then .ok (.nx, r.2.set j (some (.own (.list (ds ++ [r.1]))))) else .err
    | _ => .err)
  | _ => .err := nr rfl
theorem mPop_e (j : Nat) (ρ : Rho) : mPop j ρ = match ρ[j]? with
  | some (some (.own (.list ds))) => (match ds[ds.length - 1]? with
    | some d => .ok (d, ρ.set j (some (.own (.list ds.dropLast))))
    | none => .err)
  | _ => .err := nr rfl
theorem mCallOwn_e (f : FM) (j : Nat) (m : AM) (ρ : Rho) : mCallOwn f j m ρ = match ρ[j]? with
  | some (some (.own _)) => m ρ >>= fun r => (match r.2[j]? with
    | some (some (.own d)) => f (.own d :: r.1.map .val) >>= fun (q : Slot × Rho) => (match (q.2 : Rho)[(0 : Nat)]? with
      | some (some (.own d')) => slotV q.1 >>= fun g => .ok (g, r.2.set j (some (.own d')))
      | _ => .err)
    | _ => .err)
  | _ => .err := nr rfl
theorem mCallO_e (f : FM) (m : AM) (ρ : Rho) : mCallO f m ρ = m ρ >>= fun r => f (r.1.map .val) >>= fun q => slotO q.1 >>= fun d => .ok (d, r.2) := nr rfl
theorem mDNewT_e (ρ : Rho) : mDNewT ρ = .ok (.tuple [.dict []], ρ) := nr rfl
theorem mDGetT_e (j : Nat) (mi : EM) (ρ : Rho) : mDGetT j mi ρ = match ρ[j]? with
  | some (some (.own _)) => mi ρ >>= fun r => (match r.2[j]?, r.1 with
    | some (some (.own (.tuple [.dict kvs]))), .tuple ds => (match keyL ds with
      | some _ => (match dget kvs (.tuple ds) with
        | some g => .ok (g, r.2)
        | none => .err)
      | none => .err)
    | _, _ => .err)
  | _ => .err := nr rfl
theorem mDPutT_e (j : Nat) (mi me : EM) (ρ : Rho) : mDPutT j mi me ρ = me ρ >>= fun r => (match r.2[j]? with
  | some (some (.own _)) => mi r.2 >>= fun q => (match q.2[j]?, q.1 with
    | some (some (.own (.tuple [.dict kvs]))), .tuple ds => (match keyL ds with
      | some _ => if kvs.length < lim then .ok (.nx, q.2.set j (some (.own (.tuple [.dict (dput kvs (.tuple ds) r.1)])))) else .err
      | none => .err)
    | _, _ => .err)
  | _ => .err) := nr rfl
theorem mErr_e (ρ : Rho) : mErr ρ = .err := nr rfl

theorem gmName_e (j : Nat) (d : PyData) (ρ : Rho) : gmName j d ρ = .ok (ρ.set j (some (.val d))) := nr rfl
theorem gmNil_e (ρ : Rho) : gmNil [] ρ = .ok ρ := nr rfl
theorem gmCons_e (a : GM) (r : GMs) (d : PyData) (ds : List PyData) (ρ : Rho) : gmCons a r (d :: ds) ρ = a d ρ >>= fun ρ' => r ds ρ' := nr rfl
theorem gmTup_e (r : GMs) (ds : List PyData) (ρ : Rho) : gmTup r (.tuple ds) ρ = r ds ρ := nr rfl
theorem oTru_b (b : Bool) : oTru (.bool b) = .ok b := nr rfl
theorem slotV_e (d : PyData) : slotV (.val d) = .ok d := nr rfl
theorem res_assoc {α β γ : Type} (x : Res α) (f : α → Res β) (g : β → Res γ) : (x >>= f) >>= g = x >>= fun a => f a >>= g := by cases x <;> rfl
@[simp] theorem noX_ok {α : Type} (a : α) : noX (Res.ok a) = .ok a := rfl
/-- a def's answer, on values -/
def res (f : FM) (as : List PyData) : Res PyData := f (as.map .val) >>= fun q => slotV q.1
theorem mCall_eq (f : FM) (m : AM) (ρ : Rho) : mCall f m ρ = m ρ >>= fun r => res f r.1 >>= fun d => .ok (d, r.2) := by
  unfold mCall res
  cases m ρ with
  | ok r => simp only [ok_bind, res_assoc]
  | exc c as => rfl
  | err => rfl
theorem ownKept_val : ∀ (as : List PyData) (ρ : Rho), ownKept (as.map Slot.val) ρ = true
  | [], _ => rfl
  | a :: as, _ :: ρ => ownKept_val as ρ
  | a :: as, [] => ownKept_val as []
theorem res_runF (n : Nat) (b : SM) (as : List PyData) : res (runF n b) as = b (startR n (as.map .val)) >>= fun r => match r.1 with
    | .nx => .ok .none
    | .rt s => slotV s
    | _ => .err := by
  unfold res runF
  cases b (startR n (as.map .val)) with
  | ok r =>
    obtain ⟨f, ρ⟩ := r
    simp only [ok_bind, ownKept_val, if_true]
    cases f <;> rfl
  | exc c as => rfl
  | err => rfl
/-! ### comprehensions with one name -/
section
variable {mi : IM} {j : Nat} {te : EM} {tt : TM} {ρ : Rho} {f : PyData → PyData} {p : PyData → Bool}
theorem set_back (hj : j < ρ.length) (x : Option Slot) : (ρ.set j x).set j (ρ[j]?.join) = ρ := by
  rw [List.set_set]
  have e : ρ[j]?.join = ρ[j] := by rw [List.getElem?_eq_getElem hj]; rfl
  rw [e]
  exact List.set_getElem_self hj
theorem lcL_filter (hj : j < ρ.length) : ∀ (ds acc : List PyData), (∀ d ∈ ds, tt (ρ.set j (some (.val d))) = .ok (p d, ρ.set j (some (.val d)))) → (∀ d ∈ ds, p d = true → te (ρ.set j (some (.val d))) = .ok (f d, ρ.set j (some (.val d)))) →
    lcL [j] (gmName j) tt te ds acc ρ = .ok (acc ++ (ds.filter p).map f, ρ)
  | [], acc, _, _ => by simp [lcL]
  | d :: ds, acc, ht, h => by
    have e1 : gmName j d (wipeR ρ [j]) = .ok (ρ.set j (some (.val d))) := by
      show Res.ok ((ρ.set j none).set j (some (.val d))) = _
      rw [List.set_set]
    have e2 : restR ρ (ρ.set j (some (.val d))) [j] = ρ := set_back hj _
    unfold lcL
    rw [e1, noX_ok, ok_bind, ht d List.mem_cons_self, noX_ok, ok_bind]
    have t2 : ∀ d ∈ ds, tt (ρ.set j (some (.val d))) = .ok (p d, ρ.set j (some (.val d))) := fun e he => ht e (List.mem_cons_of_mem _ he)
    have h2 : ∀ d ∈ ds, p d = true → te (ρ.set j (some (.val d))) = .ok (f d, ρ.set j (some (.val d))) := fun e he => h e (List.mem_cons_of_mem _ he)
    cases q : p d with
    | true =>
      dsimp only
      rw [if_pos rfl, h d List.mem_cons_self q, noX_ok, ok_bind]
      dsimp only
      rw [e2, lcL_filter hj ds _ t2 h2, List.filter_cons_of_pos q, List.map_cons, List.append_assoc]
      rfl
    | false =>
      dsimp only
      rw [if_neg (by simp), e2, lcL_filter hj ds _ t2 h2, List.filter_cons_of_neg (by simp [q])]
theorem lc_filter {ds : List PyData} (hi : mi ρ = .ok (ds, ρ)) (hj : j < ρ.length) (hn : notOwn ρ[j]? = true) (ht : ∀ d ∈ ds, tt (ρ.set j (some (.val d))) = .ok (p d, ρ.set j (some (.val d))))
    (h : ∀ d ∈ ds, p d = true → te (ρ.set j (some (.val d))) = .ok (f d, ρ.set j (some (.val d)))) : mLc mi [j] (gmName j) tt te ρ = .ok (.list ((ds.filter p).map f), ρ) := by
  unfold mLc
  rw [hi, ok_bind]
  dsimp only
  rw [if_pos (by simp [hn]), lcL_filter hj ds [] ht h]
  rfl
theorem lc_map {ds : List PyData} (hi : mi ρ = .ok (ds, ρ)) (hj : j < ρ.length) (hn : notOwn ρ[j]? = true) (h : ∀ d ∈ ds, te (ρ.set j (some (.val d))) = .ok (f d, ρ.set j (some (.val d)))) :
    mLc mi [j] (gmName j) tmYes te ρ = .ok (.list (ds.map f), ρ) := by
  have := lc_filter (tt := tmYes) (p := fun _ => true) (f := f) hi hj hn (fun d _ => rfl) fun d hd _ => h d hd
  rw [this, List.filter_eq_self.mpr fun _ _ => rfl]
end
/-! ### iL -/
abbrev iL (l : List Int) : List PyData := l.map .int
theorem atI_nat' {α : Type} {l : List α} {i : Nat} (h : i < l.length) : atI l (i : Int) = some l[i] := by
  unfold atI ixN
  rw [if_pos (by omega), if_pos (by omega)]
  simp [List.getElem?_eq_getElem h]
theorem canLay_ints : ∀ l : List Int, PyData.canLayAll0 (iL l) = true
  | [] => rfl
  | x :: l => by
    have := canLay_ints l
    simpa [PyData.canLayAll0, PyData.canLay0] using this

abbrev nL (l : List Nat) : List PyData := l.map fun i : Nat => PyData.int (i : Int)
theorem canLay_nL : ∀ l : List Nat, PyData.canLayAll0 (nL l) = true
  | [] => rfl
  | x :: l => by
    have := canLay_nL l
    simpa [PyData.canLayAll0, PyData.canLay0] using this
theorem depth_nL : ∀ l : List Nat, PyData.depthAll (nL l) ≤ 1
  | [] => by simp [PyData.depthAll]
  | x :: l => by
    have := depth_nL l
    show max (PyData.depth (.int x)) (PyData.depthAll (nL l)) ≤ 1
    have e : PyData.depth (.int x) ≤ 1 := by simp [PyData.depth]
    omega
theorem eqvAll_nL : ∀ a b : List Nat, PyData.eqvAll (nL a) (nL b) = decide (a = b)
  | [], [] => rfl
  | [], _ :: _ => rfl
  | _ :: _, [] => rfl
  | x :: a, y :: b => by
    show (PyData.eqv (.int x) (.int y) && PyData.eqvAll (nL a) (nL b)) = _
    rw [eqvAll_nL a b]
    show (((x : Int) == (y : Int)) && _) = _
    rw [Bool.eq_iff_iff]
    simp
    exact fun _ => by omega
theorem intsOf_nL (l : List Nat) : intsOf (nL l) = some (l.map fun i : Nat => (i : Int)) := by
  have := intsOf_map (l.map fun i : Nat => (i : Int))
  rw [List.map_map] at this
  exact this

theorem lcL_gen {vs : List Nat} {g : GM} {tt : TM} {te : EM} {ρ : Rho} {f : PyData → PyData} {p : PyData → Bool} {G : PyData → Rho} : ∀ (ds acc : List PyData), (∀ d ∈ ds, g d (wipeR ρ vs) = .ok (G d)) → (∀ d ∈ ds, restR ρ (G d) vs = ρ) → (∀ d ∈ ds, tt (G d) = .ok (p d, G d)) → (∀ d ∈ ds, p d = true → te (G d) = .ok (f d, G d)) →
    lcL vs g tt te ds acc ρ = .ok (acc ++ (ds.filter p).map f, ρ)
  | [], acc, _, _, _, _ => by simp [lcL]
  | d :: ds, acc, hg, hr, ht, h => by
    unfold lcL
    rw [hg d List.mem_cons_self, noX_ok, ok_bind, ht d List.mem_cons_self, noX_ok, ok_bind]
    have g2 : ∀ d ∈ ds, g d (wipeR ρ vs) = .ok (G d) := fun e he => hg e (List.mem_cons_of_mem _ he)
    have r2 : ∀ d ∈ ds, restR ρ (G d) vs = ρ := fun e he => hr e (List.mem_cons_of_mem _ he)
    have t2 : ∀ d ∈ ds, tt (G d) = .ok (p d, G d) := fun e he => ht e (List.mem_cons_of_mem _ he)
    have h2 : ∀ d ∈ ds, p d = true → te (G d) = .ok (f d, G d) := fun e he => h e (List.mem_cons_of_mem _ he)
    cases q : p d with
    | true =>
      dsimp only
      rw [if_pos rfl, h d List.mem_cons_self q, noX_ok, ok_bind]
      dsimp only
      rw [hr d List.mem_cons_self, lcL_gen ds _ g2 r2 t2 h2, List.filter_cons_of_pos q, List.map_cons, List.append_assoc]
      rfl
    | false =>
      dsimp only
      rw [if_neg (by simp), hr d List.mem_cons_self, lcL_gen ds _ g2 r2 t2 h2, List.filter_cons_of_neg (by simp [q])]
theorem lc_gen {mi : IM} {vs : List Nat} {g : GM} {te : EM} {ρ : Rho} {ds : List PyData} {f : PyData → PyData} {G : PyData → Rho} (hi : mi ρ = .ok (ds, ρ)) (hn : vs.all (fun v => notOwn ρ[v]?) = true) (hg : ∀ d ∈ ds, g d (wipeR ρ vs) = .ok (G d)) (hr : ∀ d ∈ ds, restR ρ (G d) vs = ρ)
    (h : ∀ d ∈ ds, te (G d) = .ok (f d, G d)) : mLc mi vs g tmYes te ρ = .ok (.list (ds.map f), ρ) := by
  unfold mLc
  rw [hi, ok_bind]
  dsimp only
  rw [if_pos hn, lcL_gen (p := fun _ => true) ds [] hg hr (fun _ _ => rfl) (fun d hd _ => h d hd), List.filter_eq_self.mpr fun _ _ => rfl]
  rfl
theorem boolsOf_true : ∀ ds : List PyData, boolsOf (ds.map fun _ => PyData.bool true) = some (ds.map fun _ => true)
  | [] => rfl
  | d :: ds => by
    show (boolsOf (ds.map fun _ => PyData.bool true)).map (true :: ·) = _
    rw [boolsOf_true ds]
    rfl
theorem map_true (ds : List PyData) : (ds.map fun _ => PyData.bool true) = List.replicate ds.length (.bool true) := List.map_const'
theorem all_true (n : Nat) : sAll (.list (List.replicate n (PyData.bool true))) = .ok (.bool true) := by
  have e : List.replicate n (PyData.bool true) = (List.replicate n true).map .bool := by simp
  unfold sAll
  rw [e]
  simp only [boolsOf_map]
  simp
theorem cut_one {α : Type} (l : List α) : ZZ.cut l (some 1) none = l.drop 1 := by
  unfold ZZ.cut HT.sIx
  cases l with
  | nil => rfl
  | cons x l => simp
theorem zip_rise : ∀ l : List Nat, l.Pairwise (· < ·) → ∀ d ∈ List.zipWith (fun x y => PyData.tuple [x, y]) (nL l) ((nL l).drop 1), ∃ x y : Nat, x < y ∧ d = .tuple [.int x, .int y]
  | [], _, d, hd => by simp at hd
  | [x], _, d, hd => by simp at hd
  | x :: y :: l, h, d, hd => by
    obtain ⟨h1, h2⟩ := List.pairwise_cons.mp h
    have hd : d ∈ PyData.tuple [.int x, .int y] :: List.zipWith (fun x y => PyData.tuple [x, y]) (nL (y :: l)) ((nL (y :: l)).drop 1) := hd
    rcases List.mem_cons.mp hd with e | hd
    · exact ⟨x, y, h1 y List.mem_cons_self, e⟩
    · exact zip_rise (y :: l) h2 d hd

section
variable {α : Type} {c : α → PyData} {G : α → Rho} {F : α → PyData} {p : α → Bool} {vs : List Nat} {g : GM} {tt : TM} {te : EM} {ρ : Rho} {mi : IM} {j : Nat}
theorem lcL_N : ∀ (l : List α) (acc : List PyData), (∀ d ∈ l, g (c d) (wipeR ρ vs) = .ok (G d)) → (∀ d ∈ l, restR ρ (G d) vs = ρ) → (∀ d ∈ l, tt (G d) = .ok (p d, G d)) → (∀ d ∈ l, p d = true → te (G d) = .ok (F d, G d)) →
    lcL vs g tt te (l.map c) acc ρ = .ok (acc ++ (l.filter p).map F, ρ)
  | [], acc, _, _, _, _ => by simp [lcL]
  | d :: ds, acc, hg, hr, ht, h => by
    rw [List.map_cons]
    unfold lcL
    rw [hg d List.mem_cons_self, noX_ok, ok_bind, ht d List.mem_cons_self, noX_ok, ok_bind]
    have g2 : ∀ d ∈ ds, g (c d) (wipeR ρ vs) = .ok (G d) := fun e he => hg e (List.mem_cons_of_mem _ he)
    have r2 : ∀ d ∈ ds, restR ρ (G d) vs = ρ := fun e he => hr e (List.mem_cons_of_mem _ he)
    have t2 : ∀ d ∈ ds, tt (G d) = .ok (p d, G d) := fun e he => ht e (List.mem_cons_of_mem _ he)
    have h2 : ∀ d ∈ ds, p d = true → te (G d) = .ok (F d, G d) := fun e he => h e (List.mem_cons_of_mem _ he)
    cases q : p d with
    | true =>
      dsimp only
      rw [if_pos rfl, h d List.mem_cons_self q, noX_ok, ok_bind]
      dsimp only
      rw [hr d List.mem_cons_self, lcL_N ds _ g2 r2 t2 h2, List.filter_cons_of_pos q, List.map_cons, List.append_assoc]
      rfl
    | false =>
      dsimp only
      rw [if_neg (by simp), hr d List.mem_cons_self, lcL_N ds _ g2 r2 t2 h2, List.filter_cons_of_neg (by simp [q])]
theorem lcN_filter {l : List α} (hi : mi ρ = .ok (l.map c, ρ)) (hj : j < ρ.length) (hn : notOwn ρ[j]? = true) (ht : ∀ d ∈ l, tt (ρ.set j (some (.val (c d)))) = .ok (p d, ρ.set j (some (.val (c d)))))
    (h : ∀ d ∈ l, p d = true → te (ρ.set j (some (.val (c d)))) = .ok (F d, ρ.set j (some (.val (c d))))) : mLc mi [j] (gmName j) tt te ρ = .ok (.list ((l.filter p).map F), ρ) := by
  unfold mLc
  rw [hi, ok_bind]
  dsimp only
  rw [if_pos (by simp [hn]), lcL_N (vs := [j]) (g := gmName j) (G := fun d => ρ.set j (some (.val (c d)))) l [] (fun d _ => ?_) (fun d _ => (set_back hj _ : (ρ.set j (some (.val (c d)))).set j (ρ[j]?.join) = ρ)) ht h]
  · rfl
  · show Res.ok ((ρ.set j none).set j (some (.val (c d)))) = _
    rw [List.set_set]
theorem lcN_map {l : List α} (hi : mi ρ = .ok (l.map c, ρ)) (hj : j < ρ.length) (hn : notOwn ρ[j]? = true) (h : ∀ d ∈ l, te (ρ.set j (some (.val (c d)))) = .ok (F d, ρ.set j (some (.val (c d))))) :
    mLc mi [j] (gmName j) tmYes te ρ = .ok (.list (l.map F), ρ) := by
  rw [lcN_filter (tt := tmYes) (p := fun _ => true) (F := F) hi hj hn (fun d _ => rfl) (fun d hd _ => h d hd), List.filter_eq_self.mpr fun _ _ => rfl]
end
/-! ### reads -/
theorem ix_nL {l : List Nat} {k : Nat} (h : k < l.length) : sIx (.list (nL l)) (.int (k : Int)) = .ok (.int ((l.getD k 0 : Nat) : Int)) := by
  show (match atI (nL l) (k : Int) with | some g => Res.ok g | none => Res.err) = _
  rw [atI_nat' (l := nL l) (by simpa using h)]
  simp [List.getD_eq_getElem?_getD, List.getElem?_eq_getElem h]
theorem ixT_nL {l : List Nat} {k : Nat} (h : k < l.length) : sIx (.tuple (nL l)) (.int (k : Int)) = .ok (.int ((l.getD k 0 : Nat) : Int)) := ix_nL h
theorem ixT_map {α : Type} {c : α → PyData} {l : List α} {k : Nat} {z : α} (h : k < l.length) : sIx (.tuple (l.map c)) (.int (k : Int)) = .ok (c (l.getD k z)) := by
  show (match atI (l.map c) (k : Int) with | some g => Res.ok g | none => Res.err) = _
  rw [atI_nat' (l := l.map c) (by simpa using h)]
  simp [List.getD_eq_getElem?_getD, List.getElem?_eq_getElem h]
theorem eqv_nat (a b : Nat) : PyData.eqv (.int a) (.int b) = decide (a = b) := by
  show ((a : Int) == (b : Int)) = _
  rw [Bool.eq_iff_iff]
  simp
  omega
theorem sNe_nat (a b : Nat) : sNe (.int a) (.int b) = .ok (.bool (!decide (a = b))) := by
  unfold sNe
  rw [if_pos (by simp [SeqAt.shaped, PyData.canLay0, PyData.depth]), eqv_nat]
theorem sEq_nat (a b : Nat) : sEq (.int a) (.int b) = .ok (.bool (decide (a = b))) := by
  unfold sEq
  rw [if_pos (by simp [SeqAt.shaped, PyData.canLay0, PyData.depth]), eqv_nat]
theorem sEq_int (a b : Int) : sEq (.int a) (.int b) = .ok (.bool (decide (a = b))) := by
  unfold sEq
  rw [if_pos (by simp [SeqAt.shaped, PyData.canLay0, PyData.depth])]
  show Res.ok (PyData.bool (a == b)) = _
  rw [show (a == b) = decide (a = b) by rw [Bool.eq_iff_iff]; simp]
theorem sIn_nat (h a b : Nat) : sIn (.int h) (.tuple [.int a, .int b]) = .ok (.bool (decide (h = a ∨ h = b))) := by
  have e : dIn (.int h) (.tuple [.int a, .int b]) = some (decide (h = a ∨ h = b)) := by
    show (if (SeqAt.shaped (.int h) && PyData.canLayAll0 [.int a, .int b]) = true then some ([PyData.int a, .int b].any fun z => PyData.eqv z (.int h)) else none) = _
    rw [if_pos (by simp [SeqAt.shaped, PyData.canLay0, PyData.canLayAll0, PyData.depth])]
    simp only [List.any_cons, List.any_nil, eqv_nat, Bool.or_false]
    rw [Option.some.injEq, Bool.eq_iff_iff]
    simp
    omega
  unfold sIn
  rw [e]
theorem min_nat (a b : Nat) : (if (b : Int) < a then (b : Int) else a) = ((min a b : Nat) : Int) := by
  split <;> omega
theorem max_nat (a b : Nat) : (if (b : Int) > a then (b : Int) else a) = ((max a b : Nat) : Int) := by
  split <;> omega
theorem rgD_nat (n : Nat) : rgD 0 (n : Int) = nL (List.range n) := by
  unfold rgD
  simp
theorem okRg_nat {n : Nat} (h : n ≤ 1000000) : okRg 0 (n : Int) = true := by
  unfold okRg lim
  simp
  omega

theorem forL_step {g : GM} {mb : SM} {d : PyData} {ds : List PyData} {ρ ρ1 ρ2 : Rho} (hg : g d ρ = .ok ρ1) (hb : mb ρ1 = .ok (.nx, ρ2)) : forL g mb (d :: ds) ρ = forL g mb ds ρ2 := by
  show (g d ρ >>= fun ρ1 => mb ρ1 >>= fun q => _) = _
  rw [hg, ok_bind, hb, ok_bind]
theorem forL_stop {g : GM} {mb : SM} {d : PyData} {ds : List PyData} {ρ ρ1 ρ2 : Rho} {s : Slot} (hg : g d ρ = .ok ρ1) (hb : mb ρ1 = .ok (.rt s, ρ2)) : forL g mb (d :: ds) ρ = .ok (.rt s, ρ2) := by
  show (g d ρ >>= fun ρ1 => mb ρ1 >>= fun q => _) = _
  rw [hg, ok_bind, hb, ok_bind]

theorem iR1_nat {m : EM} {ρ ρ' : Rho} {n : Nat} (h : m ρ = .ok (.int (n : Int), ρ')) (hn : n ≤ 1000000) : iR1 m ρ = .ok (nL (List.range n), ρ') := by
  unfold iR1
  rw [h, ok_bind]
  show (if okRg 0 (n : Int) = true then Res.ok (rgD 0 (n : Int), ρ') else Res.err) = _
  rw [if_pos (okRg_nat hn), rgD_nat]

/-! ### calls that hand over, that change -/
def resO (f : FM) (as : List PyData) : Res PyData := f (as.map .val) >>= fun q => slotO q.1
theorem mCallO_eq (f : FM) (m : AM) (ρ : Rho) : mCallO f m ρ = m ρ >>= fun r => resO f r.1 >>= fun d => .ok (d, r.2) := by
  unfold mCallO resO
  cases m ρ with
  | ok r => simp only [ok_bind, res_assoc]
  | exc c as => rfl
  | err => rfl
theorem resO_runF (n : Nat) (b : SM) (as : List PyData) : resO (runF n b) as = b (startR n (as.map .val)) >>= fun r => match r.1 with
    | .rt s => slotO s
    | _ => .err := by
  unfold resO runF
  cases b (startR n (as.map .val)) with
  | ok r =>
    obtain ⟨f, ρ⟩ := r
    simp only [ok_bind, ownKept_val, if_true]
    cases f <;> rfl
  | exc c as => rfl
  | err => rfl
def resW (f : FM) (d : PyData) (as : List PyData) : Res (PyData × PyData) := f (.own d :: as.map .val) >>= fun (q : Slot × Rho) => match (q.2 : Rho)[(0 : Nat)]? with
  | some (some (.own d')) => slotV q.1 >>= fun g => .ok (g, d')
  | _ => .err
theorem mCallOwn_eq (f : FM) (j : Nat) (m : AM) (ρ : Rho) : mCallOwn f j m ρ = match ρ[j]? with
  | some (some (.own _)) => m ρ >>= fun r => (match r.2[j]? with
    | some (some (.own d)) => resW f d r.1 >>= fun x => .ok (x.1, r.2.set j (some (.own x.2)))
    | _ => .err)
  | _ => .err := by
  unfold mCallOwn resW
  cases ρ[j]? with
  | none => rfl
  | some z =>
    cases z with
    | none => rfl
    | some s =>
      cases s with
      | val _ => rfl
      | raw _ => rfl
      | own d0 =>
        dsimp only
        cases m ρ with
        | exc c as => rfl
        | err => rfl
        | ok r =>
          simp only [ok_bind]
          cases r.2[j]? with
          | none => rfl
          | some z =>
            cases z with
            | none => rfl
            | some s =>
              cases s with
              | val _ => rfl
              | raw _ => rfl
              | own d1 =>
                dsimp only
                cases f (Slot.own d1 :: r.1.map Slot.val) with
                | exc c as => rfl
                | err => rfl
                | ok q =>
                  simp only [ok_bind]
                  cases (q.2 : Rho)[(0 : Nat)]? with
                  | none => rfl
                  | some z =>
                    cases z with
                    | none => rfl
                    | some s =>
                      cases s with
                      | val _ => rfl
                      | raw _ => rfl
                      | own d' =>
                        dsimp only
                        cases slotV q.1 <;> rfl
theorem ownKept_own (d : PyData) (as : List PyData) (d' : PyData) (ρ : Rho) : ownKept (.own d :: as.map Slot.val) (some (.own d') :: ρ) = true := ownKept_val as ρ
/-- the answer of a def that changes its first argument -/
theorem resW_runF {n : Nat} {b : SM} {d d' : PyData} {as : List PyData} {g : PyData} {ρ : Rho} (h : b (startR n (.own d :: as.map .val)) = .ok (.rt (.val g), some (.own d') :: ρ)) : resW (runF n b) d as = .ok (g, d') := by
  unfold resW runF
  simp only [h, ok_bind, ownKept_own, if_true]
  rfl
end ZZ

/-! C2: comprehensions whose test changes what stands around -/
namespace ZZ
open PySem PySem.Spec PyProof.Rows L2 Ob
theorem lcL_sub {α : Type} {c : α → PyData} {F : α → PyData} {vs : List Nat} {g : GM} {tt : TM} {te : EM} {I : Rho → Prop} : ∀ (l : List α) (acc : List PyData),
    (∀ d ∈ l, ∀ ρ, I ρ → ∃ ρ1 b ρ2, g (c d) (wipeR ρ vs) = .ok ρ1 ∧ tt ρ1 = .ok (b, ρ2) ∧ I (restR ρ ρ2 vs) ∧ (b = true → te ρ2 = .ok (F d, ρ2))) →
    ∀ ρ, I ρ → ∃ (sub : List α) (ρ' : Rho), sub.Sublist l ∧ lcL vs g tt te (l.map c) acc ρ = .ok (acc ++ sub.map F, ρ') ∧ I ρ'
  | [], acc, _, ρ, i => ⟨[], ρ, .slnil, by simp [lcL], i⟩
  | d :: ds, acc, h, ρ, i => by
    obtain ⟨ρ1, b, ρ2, h1, h2, i2, h3⟩ := h d List.mem_cons_self ρ i
    have ht : ∀ e ∈ ds, ∀ ρ, I ρ → ∃ ρ1 b ρ2, g (c e) (wipeR ρ vs) = .ok ρ1 ∧ tt ρ1 = .ok (b, ρ2) ∧ I (restR ρ ρ2 vs) ∧ (b = true → te ρ2 = .ok (F e, ρ2)) := fun e he => h e (List.mem_cons_of_mem _ he)
    rw [List.map_cons]
    unfold lcL
    rw [h1, noX_ok, ok_bind, h2, noX_ok, ok_bind]
    dsimp only
    cases b with
    | true =>
      obtain ⟨sub, ρ', s, e, i'⟩ := lcL_sub ds (acc ++ [F d]) ht _ i2
      refine ⟨d :: sub, ρ', s.cons₂ d, ?_, i'⟩
      rw [if_pos rfl, h3 rfl, noX_ok, ok_bind]
      dsimp only
      rw [e, List.map_cons, List.append_assoc]
      rfl
    | false =>
      obtain ⟨sub, ρ', s, e, i'⟩ := lcL_sub ds acc ht _ i2
      refine ⟨sub, ρ', s.cons d, ?_, i'⟩
      rw [if_neg (by simp), e]
end ZZ

/-! Y1: the functions without slots: rules -/
namespace ZZ
open PySem PySem.Spec PyProof.Rows L2 Ob

abbrev PD := PyData
/-! ### one answer is told by the other one, where it is no .err -/
def GY {α Ω : Type} (r : Res α) (R : Res Ω) (Φ : Ω → α → Prop) : Prop := match R with
  | .ok w => ∃ a, r = .ok a ∧ Φ w a
  | .exc c as => r = .exc c as
  | .err => True
section
variable {α β Ω Ψ : Type} {r : Res α} {R : Res Ω} {P : Ω → α → Prop} {f : α → Res β} {F : Ω → Res Ψ} {S : Ψ → β → Prop}
theorem GY.bind (h : GY r R P) (k : ∀ w a, P w a → GY (f a) (F w) S) : GY (r >>= f) (R >>= F) S := by
  cases R with
  | ok w => obtain ⟨a, rfl, h⟩ := h; exact k w a h
  | exc c as =>
    have h : r = .exc c as := h
    subst h
    exact rfl
  | err => exact trivial
theorem GY.imp (h : GY r R P) {P' : Ω → α → Prop} (k : ∀ w a, P w a → P' w a) : GY r R P' := by
  cases R with
  | ok w => obtain ⟨a, e, h⟩ := h; exact ⟨a, e, k w a h⟩
  | exc c as => exact h
  | err => exact trivial
theorem GY.ok {w : Ω} {a : α} (h : P w a) : GY (.ok a) (.ok w) P := ⟨a, rfl, h⟩
theorem GY.same (x : Res α) : GY x x (fun w a => a = w) := by
  cases x with
  | ok a => exact ⟨a, rfl, rfl⟩
  | exc c as => exact rfl
  | err => exact trivial
/-- without exceptions on the way -/
theorem GY.noX (h : GY r R P) : GY (noX r) (noX R) P := by
  cases R with
  | ok w => obtain ⟨a, rfl, h⟩ := h; exact ⟨a, rfl, h⟩
  | exc c as => exact trivial
  | err => exact trivial
end
def Rf {α : Type} (x y : Res α) : Prop := GY y x fun w a => a = w
theorem Rf.refl {α : Type} (x : Res α) : Rf x x := GY.same x
theorem Rf.eq {α : Type} {x y : Res α} {a : α} (h : Rf x y) (e : x = .ok a) : y = .ok a := by
  subst e
  obtain ⟨b, h1, h2⟩ := h
  rw [h1, h2]
theorem Rf.exc {α : Type} {x y : Res α} {c : Str} {as : List PyData} (h : Rf x y) (e : x = .exc c as) : y = .exc c as := by
  subst e
  exact h

/-! ### what is known of slots -/
inductive Kn where
  | is (s : Slot)
  | nown
  | any
abbrev Cx1 := List Kn
def KOk : Kn → Option (Option Slot) → Prop
  | .is s, x => x = some (some s)
  | .nown, x => notOwn x = true
  | .any, _ => True
structure Sat (Γ : Cx1) (ρ : Rho) : Prop where
  len : ρ.length = Γ.length
  at_ : ∀ (j : Nat) (k : Kn), Γ[j]? = some k → KOk k ρ[j]?
theorem Sat.is {Γ : Cx1} {ρ : Rho} {j : Nat} {s : Slot} (h : Sat Γ ρ) (e : Γ[j]? = some (.is s)) : ρ[j]? = some (some s) := h.at_ j _ e
theorem Sat.set {Γ : Cx1} {ρ : Rho} {j : Nat} {k : Kn} {x : Option Slot} (h : Sat Γ ρ) (hk : KOk k (some x)) : Sat (Γ.set j k) (ρ.set j x) := by
  refine ⟨by simp [h.len], fun i k' e => ?_⟩
  by_cases hi : j = i
  · subst hi
    have hl : j < Γ.length := by
      have := (List.getElem?_eq_some_iff.mp e).1
      simpa using this
    rw [List.getElem?_set_self hl] at e
    cases e
    rw [List.getElem?_set_self (by rw [h.len]; exact hl)]
    exact hk
  · rw [List.getElem?_set_ne hi] at e
    rw [List.getElem?_set_ne hi]
    exact h.at_ i k' e
theorem Sat.setS {Γ : Cx1} {ρ : Rho} {j : Nat} {s : Slot} (h : Sat Γ ρ) : Sat (Γ.set j (.is s)) (ρ.set j (some s)) := h.set rfl
inductive RL : Cx1 → Cx1 → Prop
  | nil : RL [] []
  | same {k : Kn} {a b : Cx1} : RL a b → RL (k :: a) (k :: b)
  | any {k : Kn} {a b : Cx1} : RL a b → RL (.any :: a) (k :: b)
  | nown {d : PyData} {a b : Cx1} : RL a b → RL (.nown :: a) (.is (.val d) :: b)
  | raw {v : V} {a b : Cx1} : RL a b → RL (.nown :: a) (.is (.raw v) :: b)
theorem RL.refl : ∀ Γ : Cx1, RL Γ Γ
  | [] => .nil
  | _ :: Γ => .same (RL.refl Γ)
theorem RL.at_ {a b : Cx1} (h : RL a b) : a.length = b.length ∧ ∀ (x : Option (Option Slot)) (j : Nat) (k : Kn), a[j]? = some k → ∃ k', b[j]? = some k' ∧ (KOk k' x → KOk k x) := by
  induction h with
  | nil => exact ⟨rfl, fun x j k e => by simp at e⟩
  | same h ih =>
    refine ⟨by simp [ih.1], fun x j k e => ?_⟩
    cases j with
    | zero => exact ⟨k, by simpa using e, id⟩
    | succ j => obtain ⟨k', e1, e2⟩ := ih.2 x j k (by simpa using e); exact ⟨k', by simpa using e1, e2⟩
  | any h ih =>
    refine ⟨by simp [ih.1], fun x j k e => ?_⟩
    cases j with
    | zero => simp at e; subst e; exact ⟨_, rfl, fun _ => trivial⟩
    | succ j => obtain ⟨k', e1, e2⟩ := ih.2 x j k (by simpa using e); exact ⟨k', by simpa using e1, e2⟩
  | nown h ih =>
    refine ⟨by simp [ih.1], fun x j k e => ?_⟩
    cases j with
    | zero => simp at e; subst e; exact ⟨_, rfl, fun z => by rw [show x = _ from z]; rfl⟩
    | succ j => obtain ⟨k', e1, e2⟩ := ih.2 x j k (by simpa using e); exact ⟨k', by simpa using e1, e2⟩
  | raw h ih =>
    refine ⟨by simp [ih.1], fun x j k e => ?_⟩
    cases j with
    | zero => simp at e; subst e; exact ⟨_, rfl, fun z => by rw [show x = _ from z]; rfl⟩
    | succ j => obtain ⟨k', e1, e2⟩ := ih.2 x j k (by simpa using e); exact ⟨k', by simpa using e1, e2⟩
theorem RL.sat {a b : Cx1} {ρ : Rho} (h : RL a b) (s : Sat b ρ) : Sat a ρ := by
  obtain ⟨h1, h2⟩ := h.at_
  refine ⟨by rw [s.len, h1], fun j k e => ?_⟩
  obtain ⟨k', e1, e2⟩ := h2 ρ[j]? j k e
  exact e2 (s.at_ j k' e1)

/-! ### the judgement -/
def GJ {α Ω : Type} (Γ : Cx1) (m : Rho → Res α) (R : Res Ω) (P : Ω → α → Prop) : Prop := ∀ ρ, Sat Γ ρ → GY (m ρ) R P
/-- an expression that changes nothing -/
def XP {α : Type} (Γ : Cx1) (m : Rho → Res (α × Rho)) (x : Res α) : Prop := GJ Γ m x fun v a => a.1 = v ∧ Sat Γ a.2
/-- one that changes what one slot owns -/
abbrev SX (α : Type) := PyData → Res (α × PyData)
def XE {α : Type} (Γ : Cx1) (j : Nat) (m : Rho → Res (α × Rho)) (x : SX α) : Prop := ∀ d, GJ (Γ.set j (.is (.own d))) m (x d) fun t a => a.1 = t.1 ∧ Sat (Γ.set j (.is (.own t.2))) a.2
/-! ### pure expressions -/
def pBin (sem : PyData → PyData → Res PyData) (x y : Res PyData) : Res PyData := x >>= fun a => y >>= fun b => sem a b
def pUn (sem : PyData → Res PyData) (x : Res PyData) : Res PyData := x >>= sem
def pTest (x : Res PyData) : Res Bool := x >>= fun d => match d with | .bool b => .ok b | _ => .err
def pTru (x : Res PyData) : Res Bool := x >>= oTru
def pAndT (x y : Res Bool) : Res Bool := x >>= fun b => if b = true then y else .ok false
def pOrT (x y : Res Bool) : Res Bool := x >>= fun b => if b = true then .ok true else y
def pNotT (x : Res Bool) : Res Bool := x >>= fun b => .ok (!b)
def pAnd (x y : Res PyData) : Res PyData := x >>= fun d => oTru d >>= fun k => if k = true then y else .ok d
def pOr (x y : Res PyData) : Res PyData := x >>= fun d => oTru d >>= fun k => if k = true then .ok d else y
def pNot (x : Res PyData) : Res PyData := x >>= fun d => oTru d >>= fun k => .ok (.bool (!k))
def pIf {α : Type} (c : Res Bool) (x y : Res α) : Res α := c >>= fun b => if b = true then x else y
def pChain (s1 s2 : PyData → PyData → Res PyData) (x y z : Res PyData) : Res PyData := x >>= fun a => y >>= fun b => s1 a b >>= fun g => match g with
  | .bool true => z >>= fun c => s2 b c
  | .bool false => .ok (.bool false)
  | _ => .err
def pCons (x : Res PyData) (r : Res (List PyData)) : Res (List PyData) := x >>= fun a => r >>= fun l => .ok (a :: l)
def pNil : Res (List PyData) := .ok []
def pTup (r : Res (List PyData)) : Res PyData := r >>= fun l => if l.length ≤ lim then .ok (.tuple l) else .err
def pLst (r : Res (List PyData)) : Res PyData := r >>= fun l => if l.length ≤ lim then .ok (.list l) else .err
def pPk : PyData → Res PyData
  | .list ds => .ok (.list ds)
  | _ => .err
def pIxOwn (d : PyData) (y : Res PyData) : Res PyData := y >>= fun i => match d with
  | .list ds => sIx (.list ds) i
  | _ => .err
def pNo : Res (Option Int) := .ok none
def pIt (x : Res PyData) : Res (Option Int) := x >>= fun d => match d with | .int i => .ok (some i) | _ => .err
def pSl (x : Res PyData) (l h : Res (Option Int)) : Res PyData := x >>= fun a => l >>= fun lo => h >>= fun hi => sSl a lo hi
def qLst (x : Res PyData) : Res (List PyData) := x >>= fun d => match d with | .list ds => .ok ds | _ => .err
def qTpl (x : Res PyData) : Res (List PyData) := x >>= fun d => match d with | .tuple ds => .ok ds | _ => .err
def qR1 (x : Res PyData) : Res (List PyData) := x >>= fun d => match d with | .int n => if okRg 0 n then .ok (rgD 0 n) else .err | _ => .err
def qR2 (x y : Res PyData) : Res (List PyData) := x >>= fun d => y >>= fun e => match d, e with | .int a, .int b => if okRg a b then .ok (rgD a b) else .err | _, _ => .err
def qZip (x y : Res PyData) : Res (List PyData) := x >>= fun d => y >>= fun e => zipD d e
def qEnL (x : Res PyData) : Res (List PyData) := x >>= fun d => match d with | .list ds => .ok (enumD ds) | _ => .err
def qEnT (x : Res PyData) : Res (List PyData) := x >>= fun d => match d with | .tuple ds => .ok (enumD ds) | _ => .err
def pRg (x : Res (List PyData)) : Res PyData := x >>= fun l => .ok (.list l)
def pRgT (x : Res (List PyData)) : Res PyData := x >>= fun l => .ok (.tuple l)
def lcY (x : Res PyData) : Res (Option PyData) := x >>= fun y => .ok (some y)
def lcT (t : Res Bool) (x : Res PyData) : Res (Option PyData) := t >>= fun b => if b = true then x >>= fun y => .ok (some y) else .ok none
def lcM (f : PyData → Res (Option PyData)) : List PyData → Res (List PyData)
  | [] => .ok []
  | d :: ds => noX (f d) >>= fun o => lcM f ds >>= fun r => .ok (o.toList ++ r)
def pLc (xs : Res (List PyData)) (f : PyData → Res (Option PyData)) : Res PyData := xs >>= fun l => lcM f l >>= fun r => .ok (.list r)
def un2 {α : Type} (d : PyData) (k : PyData → PyData → Res α) : Res α := match d with | .tuple [a, b] => k a b | _ => .err
def un3 {α : Type} (d : PyData) (k : PyData → PyData → PyData → Res α) : Res α := match d with | .tuple [a, b, c] => k a b c | _ => .err
def un4 {α : Type} (d : PyData) (k : PyData → PyData → PyData → PyData → Res α) : Res α := match d with | .tuple [a, b, c, e] => k a b c e | _ => .err
def pC0 (f : Res PyData) : Res PyData := f
def pC1 {α : Type} (f : PyData → Res α) (x : Res PyData) : Res α := x >>= fun a => f a
def pC2 {α : Type} (f : PyData → PyData → Res α) (x y : Res PyData) : Res α := x >>= fun a => y >>= fun b => f a b
def pC3 {α : Type} (f : PyData → PyData → PyData → Res α) (x y z : Res PyData) : Res α := x >>= fun a => y >>= fun b => z >>= fun c => f a b c
def pC4 {α : Type} (f : PyData → PyData → PyData → PyData → Res α) (x y z u : Res PyData) : Res α := x >>= fun a => y >>= fun b => z >>= fun c => u >>= fun d => f a b c d
def pC5 {α : Type} (f : PyData → PyData → PyData → PyData → PyData → Res α) (x y z u v : Res PyData) : Res α := x >>= fun a => y >>= fun b => z >>= fun c => u >>= fun d => v >>= fun e => f a b c d e
def pC6 {α : Type} (f : PyData → PyData → PyData → PyData → PyData → PyData → Res α) (x y z u v w : Res PyData) : Res α := x >>= fun a => y >>= fun b => z >>= fun c => u >>= fun d => v >>= fun e => w >>= fun g => f a b c d e g
def pC7 {α : Type} (f : PyData → PyData → PyData → PyData → PyData → PyData → PyData → Res α) (x y z u v w t : Res PyData) : Res α := x >>= fun a => y >>= fun b => z >>= fun c => u >>= fun d => v >>= fun e => w >>= fun g => t >>= fun h => f a b c d e g h

section
variable {Γ : Cx1} {ma mb mc : EM} {x y z : Res PyData} {j : Nat} {d : PyData}
theorem xp_var (h : Γ[j]? = some (.is (.val d))) : XP Γ (mVar j) (.ok d) := fun ρ s => by
  show GY (match ρ[j]? with | some (some (.val d)) => Res.ok (d, ρ) | _ => .err) _ _
  rw [s.is h]
  exact .ok ⟨rfl, s⟩
theorem xp_con : XP Γ (mCon d) (.ok d) := fun ρ s => .ok ⟨rfl, s⟩
theorem xp_pkV (h : Γ[j]? = some (.is (.val d))) : XP Γ (mPk j) (.ok d) := fun ρ s => by
  show GY (match ρ[j]? with | some (some (.val d)) => Res.ok (d, ρ) | some (some (.own (.list ds))) => .ok (.list ds, ρ) | _ => .err) _ _
  rw [s.is h]
  exact .ok ⟨rfl, s⟩
theorem xp_pkO (h : Γ[j]? = some (.is (.own d))) : XP Γ (mPk j) (pPk d) := fun ρ s => by
  show GY (match ρ[j]? with | some (some (.val d)) => Res.ok (d, ρ) | some (some (.own (.list ds))) => .ok (.list ds, ρ) | _ => .err) _ _
  rw [s.is h]
  cases d with
  | list ds => exact .ok ⟨rfl, s⟩
  | _ => exact trivial
theorem xp_fin {α β : Type} {ρ : Rho} {X : Res α} {f : α → β} (s : Sat Γ ρ) : GY (X >>= fun g => Res.ok (f g, ρ)) (X >>= fun g => .ok (f g)) (fun v a => a.1 = v ∧ Sat Γ a.2) :=
  (GY.same X).bind fun w a e => by subst e; exact .ok ⟨rfl, s⟩
theorem xp_fin' {α : Type} {ρ : Rho} {X : Res α} (s : Sat Γ ρ) : GY (X >>= fun g => Res.ok (g, ρ)) X (fun v a => a.1 = v ∧ Sat Γ a.2) := by
  cases X with
  | ok a => exact .ok ⟨rfl, s⟩
  | exc c as => exact rfl
  | err => exact trivial
theorem xp_bin {sem : PyData → PyData → Res PyData} (ha : XP Γ ma x) (hb : XP Γ mb y) : XP Γ (mBin sem ma mb) (pBin sem x y) := fun ρ s =>
  (ha ρ s).bind fun v a ⟨e, s1⟩ => (hb a.2 s1).bind fun w b ⟨e2, s2⟩ => by subst e e2; exact xp_fin' s2
theorem xp_un {sem : PyData → Res PyData} (ha : XP Γ ma x) : XP Γ (mUn sem ma) (pUn sem x) := fun ρ s =>
  (ha ρ s).bind fun v a ⟨e, s1⟩ => by subst e; exact xp_fin' s1
theorem xp_test (ha : XP Γ ma x) : XP Γ (mTest ma) (pTest x) := fun ρ s =>
  (ha ρ s).bind fun v a ⟨e, s1⟩ => by
    subst e
    obtain ⟨d, ρ1⟩ := a
    cases d with
    | bool b => exact .ok ⟨rfl, s1⟩
    | _ => exact trivial
theorem xp_tru (ha : XP Γ ma x) : XP Γ (mTru ma) (pTru x) := fun ρ s =>
  (ha ρ s).bind fun v a ⟨e, s1⟩ => by subst e; exact xp_fin' s1
theorem xp_andT {ta tb : TM} {x y : Res Bool} (ha : XP Γ ta x) (hb : XP Γ tb y) : XP Γ (tmAnd ta tb) (pAndT x y) := fun ρ s =>
  (ha ρ s).bind fun v a ⟨e, s1⟩ => by
    subst e
    obtain ⟨b, ρ1⟩ := a
    cases b with
    | true => exact hb ρ1 s1
    | false => exact .ok ⟨rfl, s1⟩
theorem xp_orT {ta tb : TM} {x y : Res Bool} (ha : XP Γ ta x) (hb : XP Γ tb y) : XP Γ (tmOr ta tb) (pOrT x y) := fun ρ s =>
  (ha ρ s).bind fun v a ⟨e, s1⟩ => by
    subst e
    obtain ⟨b, ρ1⟩ := a
    cases b with
    | true => exact .ok ⟨rfl, s1⟩
    | false => exact hb ρ1 s1
theorem xp_notT {ta : TM} {x : Res Bool} (ha : XP Γ ta x) : XP Γ (tmNot ta) (pNotT x) := fun ρ s =>
  (ha ρ s).bind fun v a ⟨e, s1⟩ => by subst e; exact .ok ⟨rfl, s1⟩
theorem xp_and (ha : XP Γ ma x) (hb : XP Γ mb y) : XP Γ (mAnd ma mb) (pAnd x y) := fun ρ s =>
  (ha ρ s).bind fun v a ⟨e, s1⟩ => by
    subst e
    refine (GY.same _).bind fun w k e => ?_
    subst e
    cases k with
    | true => exact hb a.2 s1
    | false => exact .ok ⟨rfl, s1⟩
theorem xp_or (ha : XP Γ ma x) (hb : XP Γ mb y) : XP Γ (mOr ma mb) (pOr x y) := fun ρ s =>
  (ha ρ s).bind fun v a ⟨e, s1⟩ => by
    subst e
    refine (GY.same _).bind fun w k e => ?_
    subst e
    cases k with
    | true => exact .ok ⟨rfl, s1⟩
    | false => exact hb a.2 s1
theorem xp_not (ha : XP Γ ma x) : XP Γ (mNot ma) (pNot x) := fun ρ s =>
  (ha ρ s).bind fun v a ⟨e, s1⟩ => by
    subst e
    exact (GY.same _).bind fun w k e => by subst e; exact .ok ⟨rfl, s1⟩
theorem xp_if {tc : TM} {c : Res Bool} (hc : XP Γ tc c) (ha : XP Γ ma x) (hb : XP Γ mb y) : XP Γ (mIf tc ma mb) (pIf c x y) := fun ρ s =>
  (hc ρ s).bind fun v a ⟨e, s1⟩ => by
    subst e
    obtain ⟨b, ρ1⟩ := a
    cases b with
    | true => exact ha ρ1 s1
    | false => exact hb ρ1 s1
theorem xp_chain {s1 s2 : PyData → PyData → Res PyData} (ha : XP Γ ma x) (hb : XP Γ mb y) (hc : XP Γ mc z) : XP Γ (mChain s1 s2 ma mb mc) (pChain s1 s2 x y z) := fun ρ s =>
  (ha ρ s).bind fun v a ⟨e, st1⟩ => (hb a.2 st1).bind fun w b ⟨e2, st2⟩ => by
    subst e e2
    refine (GY.same _).bind fun g k e => ?_
    subst e
    cases k with
    | bool t =>
      cases t with
      | true => exact (hc b.2 st2).bind fun u c ⟨e3, st3⟩ => by subst e3; exact xp_fin' st3
      | false => exact .ok ⟨rfl, st2⟩
    | _ => exact trivial
theorem xp_nil : XP Γ mNil pNil := fun ρ s => .ok ⟨rfl, s⟩
theorem xp_cons {r : AM} {l : Res (List PyData)} (ha : XP Γ ma x) (hr : XP Γ r l) : XP Γ (mCons ma r) (pCons x l) := fun ρ s =>
  (ha ρ s).bind fun v a ⟨e, s1⟩ => (hr a.2 s1).bind fun w b ⟨e2, s2⟩ => by subst e e2; exact .ok ⟨rfl, s2⟩
theorem xp_tup {r : AM} {l : Res (List PyData)} (hr : XP Γ r l) : XP Γ (mTup r) (pTup l) := fun ρ s =>
  (hr ρ s).bind fun v a ⟨e, s1⟩ => by
    subst e
    by_cases h : a.1.length ≤ lim
    · rw [if_pos h, if_pos h]; exact .ok ⟨rfl, s1⟩
    · rw [if_neg h, if_neg h]; exact trivial
theorem xp_lst {r : AM} {l : Res (List PyData)} (hr : XP Γ r l) : XP Γ (mLst r) (pLst l) := fun ρ s =>
  (hr ρ s).bind fun v a ⟨e, s1⟩ => by
    subst e
    by_cases h : a.1.length ≤ lim
    · rw [if_pos h, if_pos h]; exact .ok ⟨rfl, s1⟩
    · rw [if_neg h, if_neg h]; exact trivial
theorem xp_ixOwn (h : Γ[j]? = some (.is (.own d))) (hb : XP Γ mb y) : XP Γ (mIxOwn j mb) (pIxOwn d y) := fun ρ s => by
  unfold mIxOwn pIxOwn
  rw [s.is h]
  dsimp only
  refine (hb ρ s).bind fun v a ⟨e, s1⟩ => ?_
  subst e
  rw [s1.is h]
  cases d with
  | list ds => exact xp_fin' s1
  | _ => exact trivial
theorem xo_no : XP Γ oNo pNo := fun ρ s => .ok ⟨rfl, s⟩
theorem xo_it (ha : XP Γ ma x) : XP Γ (oIt ma) (pIt x) := fun ρ s =>
  (ha ρ s).bind fun v a ⟨e, s1⟩ => by
    subst e
    obtain ⟨d, ρ1⟩ := a
    cases d with
    | int b => exact .ok ⟨rfl, s1⟩
    | _ => exact trivial
theorem xp_sl {ml mh : OM} {l h : Res (Option Int)} (ha : XP Γ ma x) (hl : XP Γ ml l) (hh : XP Γ mh h) : XP Γ (mSl ma ml mh) (pSl x l h) := fun ρ s =>
  (ha ρ s).bind fun v a ⟨e, s1⟩ => (hl a.2 s1).bind fun w b ⟨e2, s2⟩ => (hh b.2 s2).bind fun u c ⟨e3, s3⟩ => by subst e e2 e3; exact xp_fin' s3
theorem xi_lst (ha : XP Γ ma x) : XP Γ (iLst ma) (qLst x) := fun ρ s =>
  (ha ρ s).bind fun v a ⟨e, s1⟩ => by
    subst e
    obtain ⟨d, ρ1⟩ := a
    cases d with
    | list b => exact .ok ⟨rfl, s1⟩
    | _ => exact trivial
theorem xi_tpl (ha : XP Γ ma x) : XP Γ (iTpl ma) (qTpl x) := fun ρ s =>
  (ha ρ s).bind fun v a ⟨e, s1⟩ => by
    subst e
    obtain ⟨d, ρ1⟩ := a
    cases d with
    | tuple b => exact .ok ⟨rfl, s1⟩
    | _ => exact trivial
theorem xi_r1 (ha : XP Γ ma x) : XP Γ (iR1 ma) (qR1 x) := fun ρ s =>
  (ha ρ s).bind fun v a ⟨e, s1⟩ => by
    subst e
    obtain ⟨d, ρ1⟩ := a
    cases d with
    | int n =>
      show GY (if okRg 0 n = true then Res.ok (rgD 0 n, ρ1) else .err) (if okRg 0 n = true then .ok (rgD 0 n) else .err) _
      by_cases h : okRg 0 n = true
      · rw [if_pos h, if_pos h]; exact .ok ⟨rfl, s1⟩
      · rw [if_neg h, if_neg h]; exact trivial
    | _ => exact trivial
theorem xi_r2 (ha : XP Γ ma x) (hb : XP Γ mb y) : XP Γ (iR2 ma mb) (qR2 x y) := fun ρ s =>
  (ha ρ s).bind fun v a ⟨e, s1⟩ => (hb a.2 s1).bind fun w b ⟨e2, s2⟩ => by
    subst e e2
    obtain ⟨d, ρ1⟩ := a
    obtain ⟨f, ρ2⟩ := b
    cases d with
    | int n =>
      cases f with
      | int k =>
        show GY (if okRg n k = true then Res.ok (rgD n k, ρ2) else .err) (if okRg n k = true then .ok (rgD n k) else .err) _
        by_cases h : okRg n k = true
        · rw [if_pos h, if_pos h]; exact .ok ⟨rfl, s2⟩
        · rw [if_neg h, if_neg h]; exact trivial
      | _ => exact trivial
    | _ => exact trivial
theorem xi_zip (ha : XP Γ ma x) (hb : XP Γ mb y) : XP Γ (iZip ma mb) (qZip x y) := fun ρ s =>
  (ha ρ s).bind fun v a ⟨e, s1⟩ => (hb a.2 s1).bind fun w b ⟨e2, s2⟩ => by subst e e2; exact xp_fin' s2
theorem xi_enL (ha : XP Γ ma x) : XP Γ (iEnL ma) (qEnL x) := fun ρ s =>
  (ha ρ s).bind fun v a ⟨e, s1⟩ => by
    subst e
    obtain ⟨d, ρ1⟩ := a
    cases d with
    | list b => exact .ok ⟨rfl, s1⟩
    | _ => exact trivial
theorem xi_enT (ha : XP Γ ma x) : XP Γ (iEnT ma) (qEnT x) := fun ρ s =>
  (ha ρ s).bind fun v a ⟨e, s1⟩ => by
    subst e
    obtain ⟨d, ρ1⟩ := a
    cases d with
    | tuple b => exact .ok ⟨rfl, s1⟩
    | _ => exact trivial
theorem xp_rg {mi : IM} {l : Res (List PyData)} (h : XP Γ mi l) : XP Γ (mRg mi) (pRg l) := fun ρ s =>
  (h ρ s).bind fun v a ⟨e, s1⟩ => by subst e; exact .ok ⟨rfl, s1⟩
theorem xp_rgT {mi : IM} {l : Res (List PyData)} (h : XP Γ mi l) : XP Γ (mRgT mi) (pRgT l) := fun ρ s =>
  (h ρ s).bind fun v a ⟨e, s1⟩ => by subst e; exact .ok ⟨rfl, s1⟩
end
end ZZ

/-! Y2: calls, comprehensions, what changes an own thing -/
namespace ZZ
open PySem PySem.Spec PyProof.Rows L2 Ob
theorem sat_set_self {Γ : Cx1} {ρ : Rho} {j : Nat} {d : PyData} (s : Sat (Γ.set j (.is (.own d))) ρ) (hj : j < Γ.length) : ρ[j]? = some (some (.own d)) := s.is (List.getElem?_set_self hj)
theorem sat_re {Γ : Cx1} {ρ : Rho} {j : Nat} {d e : PyData} (s : Sat (Γ.set j (.is (.own d))) ρ) : Sat (Γ.set j (.is (.own e))) (ρ.set j (some (.own e))) := by
  have := Sat.setS (j := j) (s := .own e) s
  rwa [List.set_set] at this
theorem bind_ok'' {α : Type} (x : Res α) : (x >>= Res.ok) = x := by cases x <;> rfl
section
variable {Γ : Cx1} {fm : FM} {m : AM} {l : Res (List PyData)}
theorem xp_call {pf : List PyData → Res PyData} (hf : ∀ as, Rf (pf as) (res fm as)) (hm : XP Γ m l) : XP Γ (mCall fm m) (l >>= pf) := fun ρ s => by
  rw [mCall_eq]
  exact (hm ρ s).bind fun v a ⟨e, s1⟩ => by
    subst e
    have := (hf a.1 : GY _ _ _).bind (f := fun d => Res.ok (d, a.2)) (F := Res.ok) (S := fun v b => b.1 = v ∧ Sat Γ b.2) fun w d e => by subst e; exact .ok ⟨rfl, s1⟩
    rwa [bind_ok''] at this
/-- one that hands over its own -/
def XO (Γ : Cx1) (m : EM) (x : Res PyData) : Prop := XP Γ m x
theorem xp_callO {pf : List PyData → Res PyData} (hf : ∀ as, Rf (pf as) (resO fm as)) (hm : XP Γ m l) : XP Γ (mCallO fm m) (l >>= pf) := fun ρ s => by
  rw [mCallO_eq]
  exact (hm ρ s).bind fun v a ⟨e, s1⟩ => by
    subst e
    have := (hf a.1 : GY _ _ _).bind (f := fun d => Res.ok (d, a.2)) (F := Res.ok) (S := fun v b => b.1 = v ∧ Sat Γ b.2) fun w d e => by subst e; exact .ok ⟨rfl, s1⟩
    rwa [bind_ok''] at this
def l0 {α : Type} (f : Res α) : List PyData → Res α | [] => f | _ => .err
def l1 {α : Type} (f : PyData → Res α) : List PyData → Res α | [a] => f a | _ => .err
def l2 {α : Type} (f : PyData → PyData → Res α) : List PyData → Res α | [a, b] => f a b | _ => .err
def l3 {α : Type} (f : PyData → PyData → PyData → Res α) : List PyData → Res α | [a, b, c] => f a b c | _ => .err
def l4 {α : Type} (f : PyData → PyData → PyData → PyData → Res α) : List PyData → Res α | [a, b, c, d] => f a b c d | _ => .err
def l5 {α : Type} (f : PyData → PyData → PyData → PyData → PyData → Res α) : List PyData → Res α | [a, b, c, d, e] => f a b c d e | _ => .err
def l6 {α : Type} (f : PyData → PyData → PyData → PyData → PyData → PyData → Res α) : List PyData → Res α | [a, b, c, d, e, g] => f a b c d e g | _ => .err
def l7 {α : Type} (f : PyData → PyData → PyData → PyData → PyData → PyData → PyData → Res α) : List PyData → Res α | [a, b, c, d, e, g, h] => f a b c d e g h | _ => .err
theorem Rf.err {α : Type} {y : Res α} : Rf .err y := trivial
theorem l0_ok {α : Type} {f : Res α} {r : List PyData → Res α} (h : Rf f (r [])) : ∀ as, Rf (l0 f as) (r as)
  | [] => h
  | _ :: _ => .err
theorem l1_ok {α : Type} {f : PyData → Res α} {r : List PyData → Res α} (h : ∀ a, Rf (f a) (r [a])) : ∀ as, Rf (l1 f as) (r as)
  | [] => .err
  | [a] => h a
  | _ :: _ :: _ => .err
theorem l2_ok {α : Type} {f : PyData → PyData → Res α} {r : List PyData → Res α} (h : ∀ a b, Rf (f a b) (r [a, b])) : ∀ as, Rf (l2 f as) (r as)
  | [] => .err
  | [_] => .err
  | [a, b] => h a b
  | _ :: _ :: _ :: _ => .err
theorem l3_ok {α : Type} {f : PyData → PyData → PyData → Res α} {r : List PyData → Res α} (h : ∀ a b c, Rf (f a b c) (r [a, b, c])) : ∀ as, Rf (l3 f as) (r as)
  | [] => .err
  | [_] => .err
  | [_, _] => .err
  | [a, b, c] => h a b c
  | _ :: _ :: _ :: _ :: _ => .err
theorem l4_ok {α : Type} {f : PyData → PyData → PyData → PyData → Res α} {r : List PyData → Res α} (h : ∀ a b c d, Rf (f a b c d) (r [a, b, c, d])) : ∀ as, Rf (l4 f as) (r as)
  | [] => .err
  | [_] => .err
  | [_, _] => .err
  | [_, _, _] => .err
  | [a, b, c, d] => h a b c d
  | _ :: _ :: _ :: _ :: _ :: _ => .err
theorem l5_ok {α : Type} {f : PyData → PyData → PyData → PyData → PyData → Res α} {r : List PyData → Res α} (h : ∀ a b c d e, Rf (f a b c d e) (r [a, b, c, d, e])) : ∀ as, Rf (l5 f as) (r as)
  | [] => .err
  | [_] => .err
  | [_, _] => .err
  | [_, _, _] => .err
  | [_, _, _, _] => .err
  | [a, b, c, d, e] => h a b c d e
  | _ :: _ :: _ :: _ :: _ :: _ :: _ => .err
theorem l6_ok {α : Type} {f : PyData → PyData → PyData → PyData → PyData → PyData → Res α} {r : List PyData → Res α} (h : ∀ a b c d e g, Rf (f a b c d e g) (r [a, b, c, d, e, g])) : ∀ as, Rf (l6 f as) (r as)
  | [] => .err
  | [_] => .err
  | [_, _] => .err
  | [_, _, _] => .err
  | [_, _, _, _] => .err
  | [_, _, _, _, _] => .err
  | [a, b, c, d, e, g] => h a b c d e g
  | _ :: _ :: _ :: _ :: _ :: _ :: _ :: _ => .err
theorem l7_ok {α : Type} {f : PyData → PyData → PyData → PyData → PyData → PyData → PyData → Res α} {r : List PyData → Res α} (h : ∀ a b c d e g i, Rf (f a b c d e g i) (r [a, b, c, d, e, g, i])) : ∀ as, Rf (l7 f as) (r as)
  | [] => .err
  | [_] => .err
  | [_, _] => .err
  | [_, _, _] => .err
  | [_, _, _, _] => .err
  | [_, _, _, _, _] => .err
  | [_, _, _, _, _, _] => .err
  | [a, b, c, d, e, g, i] => h a b c d e g i
  | _ :: _ :: _ :: _ :: _ :: _ :: _ :: _ :: _ => .err
variable {x y z u v w t : Res PyData} {α : Type}
theorem XP.to {β : Type} {Γ : Cx1} {m : Rho → Res (β × Rho)} {x y : Res β} (h : XP Γ m x) (e : x = y) : XP Γ m y := e ▸ h
end
end ZZ
namespace ZZ
open PySem PySem.Spec PyProof.Rows L2 Ob
section
variable {α : Type} {x y z u v w t : Res PyData}
theorem bind_ok' {α : Type} (x : Res α) : (x >>= Res.ok) = x := by cases x <;> rfl
theorem c1_eq {f : PyData → Res α} : (pCons x pNil >>= l1 f) = pC1 f x := by
  unfold pCons pNil pC1; simp only [res_assoc, ok_bind, l1]
theorem c2_eq {f : PyData → PyData → Res α} : (pCons x (pCons y pNil) >>= l2 f) = pC2 f x y := by
  unfold pCons pNil pC2; simp only [res_assoc, ok_bind, l2]
theorem c3_eq {f : PyData → PyData → PyData → Res α} : (pCons x (pCons y (pCons z pNil)) >>= l3 f) = pC3 f x y z := by
  unfold pCons pNil pC3; simp only [res_assoc, ok_bind, l3]
theorem c4_eq {f : PyData → PyData → PyData → PyData → Res α} : (pCons x (pCons y (pCons z (pCons u pNil))) >>= l4 f) = pC4 f x y z u := by
  unfold pCons pNil pC4; simp only [res_assoc, ok_bind, l4]
theorem c5_eq {f : PyData → PyData → PyData → PyData → PyData → Res α} : (pCons x (pCons y (pCons z (pCons u (pCons v pNil)))) >>= l5 f) = pC5 f x y z u v := by
  unfold pCons pNil pC5; simp only [res_assoc, ok_bind, l5]
theorem c6_eq {f : PyData → PyData → PyData → PyData → PyData → PyData → Res α} : (pCons x (pCons y (pCons z (pCons u (pCons v (pCons w pNil))))) >>= l6 f) = pC6 f x y z u v w := by
  unfold pCons pNil pC6; simp only [res_assoc, ok_bind, l6]
theorem c7_eq {f : PyData → PyData → PyData → PyData → PyData → PyData → PyData → Res α} : (pCons x (pCons y (pCons z (pCons u (pCons v (pCons w (pCons t pNil)))))) >>= l7 f) = pC7 f x y z u v w t := by
  unfold pCons pNil pC7; simp only [res_assoc, ok_bind, l7]
end
/-! ### comprehensions -/
def wipeK (Γ : Cx1) : List Nat → Cx1
  | [] => Γ
  | v :: vs => (wipeK Γ vs).set v .nown
def anyK (Γ : Cx1) : List Nat → Cx1
  | [] => Γ
  | v :: vs => (anyK Γ vs).set v .any
theorem wipe_sat {Γ : Cx1} {ρ : Rho} (s : Sat Γ ρ) : ∀ vs, Sat (wipeK Γ vs) (wipeR ρ vs)
  | [] => s
  | v :: vs => (wipe_sat s vs).set rfl
theorem anyK_len (Γ : Cx1) : ∀ vs, (anyK Γ vs).length = Γ.length
  | [] => rfl
  | v :: vs => by unfold anyK; rw [List.length_set, anyK_len Γ vs]
theorem restR_len (ρ ρ' : Rho) : ∀ vs, (restR ρ ρ' vs).length = ρ'.length
  | [] => rfl
  | v :: vs => by unfold restR; rw [List.length_set, restR_len ρ ρ' vs]
theorem anyK_at {Γ : Cx1} {j : Nat} : ∀ {vs : List Nat}, j ∉ vs → (anyK Γ vs)[j]? = Γ[j]?
  | [], _ => rfl
  | v :: vs, h => by
    simp only [List.mem_cons, not_or] at h
    unfold anyK
    rw [List.getElem?_set_ne (Ne.symm h.1), anyK_at h.2]
theorem restR_at {ρ ρ' : Rho} {j : Nat} : ∀ {vs : List Nat}, j ∉ vs → (restR ρ ρ' vs)[j]? = ρ'[j]?
  | [], _ => rfl
  | v :: vs, h => by
    simp only [List.mem_cons, not_or] at h
    unfold restR
    rw [List.getElem?_set_ne (Ne.symm h.1), restR_at h.2]
theorem restR_mem {ρ ρ' : Rho} {j : Nat} : ∀ {vs : List Nat}, j ∈ vs → j < ρ'.length → j < ρ.length → (restR ρ ρ' vs)[j]? = ρ[j]?
  | [], h, _, _ => by cases h
  | v :: vs, h, h1, h2 => by
    unfold restR
    by_cases e : v = j
    · subst e
      rw [List.getElem?_set_self (by rw [restR_len]; exact h1), List.getElem?_eq_getElem h2]
      rfl
    · rw [List.getElem?_set_ne e]
      exact restR_mem ((List.mem_cons.mp h).resolve_left (Ne.symm e)) h1 h2
theorem rest_sat {Γ Γ' : Cx1} {ρ ρ' : Rho} {vs : List Nat} (s : Sat Γ ρ) (s' : Sat (anyK Γ' vs) ρ') (hl : Γ'.length = Γ.length) (he : ∀ j, j ∈ vs → Γ'[j]? = Γ[j]?) : Sat Γ' (restR ρ ρ' vs) := by
  have l' : ρ'.length = Γ.length := by rw [s'.len, anyK_len, hl]
  refine ⟨by rw [restR_len, l', hl], fun j k e => ?_⟩
  by_cases hj : j ∈ vs
  · have hlt : j < Γ'.length := (List.getElem?_eq_some_iff.mp e).1
    rw [restR_mem hj (by omega) (by rw [s.len]; omega)]
    exact s.at_ j k (by rw [← he j hj]; exact e)
  · rw [restR_at hj]
    exact s'.at_ j k (by rw [anyK_at hj]; exact e)
/-- one turn of a comprehension -/
def turnM (g : GM) (tt : TM) (te : EM) (d : PyData) : Rho → Res (Option PyData × Rho) := fun ρ => g d ρ >>= fun ρ1 => tt ρ1 >>= fun b => if b.1 = true then te b.2 >>= fun y => .ok (some y.1, y.2) else .ok (none, b.2)
theorem noX_bind {α β : Type} (x : Res α) (f : α → Res β) : noX (x >>= f) = noX x >>= fun a => noX (f a) := by cases x <;> rfl
theorem lcL_turn (vs : List Nat) (g : GM) (tt : TM) (te : EM) (d : PyData) (ds acc : List PyData) (ρ : Rho) : lcL vs g tt te (d :: ds) acc ρ = noX (turnM g tt te d (wipeR ρ vs)) >>= fun o => lcL vs g tt te ds (acc ++ o.1.toList) (restR ρ o.2 vs) := by
  conv => lhs; unfold lcL
  unfold turnM
  cases g d (wipeR ρ vs) with
  | exc c as => rfl
  | err => rfl
  | ok ρ1 =>
    simp only [ok_bind, noX_ok]
    cases tt ρ1 with
    | exc c as => rfl
    | err => rfl
    | ok b =>
      simp only [ok_bind, noX_ok]
      by_cases h : b.1 = true
      · rw [if_pos h, if_pos h]
        cases te b.2 with
        | exc c as => rfl
        | err => rfl
        | ok y => rfl
      · rw [if_neg h, if_neg h]
        simp only [noX_ok, ok_bind]
        simp
def NoOwn (Γ : Cx1) (vs : List Nat) : Prop := ∀ v ∈ vs, Γ[v]? = some .nown ∨ ∃ d, Γ[v]? = some (.is (.val d))
theorem NoOwn.all {Γ : Cx1} {vs : List Nat} {ρ : Rho} (h : NoOwn Γ vs) (s : Sat Γ ρ) : vs.all (fun v => notOwn ρ[v]?) = true := List.all_eq_true.mpr fun v hv => by
  rcases h v hv with e | ⟨d, e⟩
  · exact s.at_ v _ e
  · rw [s.is e]; rfl
theorem no_own0 {Γ : Cx1} : NoOwn Γ [] := fun v hv => by cases hv
theorem no_own1 {Γ : Cx1} {v : Nat} {vs : List Nat} (h : Γ[v]? = some .nown) (k : NoOwn Γ vs) : NoOwn Γ (v :: vs) := fun u hu => (List.mem_cons.mp hu).elim (fun e => .inl (e ▸ h)) (k u)
theorem no_own2 {Γ : Cx1} {v : Nat} {vs : List Nat} {d : PyData} (h : Γ[v]? = some (.is (.val d))) (k : NoOwn Γ vs) : NoOwn Γ (v :: vs) := fun u hu => (List.mem_cons.mp hu).elim (fun e => .inr ⟨d, e ▸ h⟩) (k u)
section
variable {Γ : Cx1} {mi : IM} {vs : List Nat} {g : GM} {tt : TM} {te : EM} {xs : Res (List PyData)} {f : PyData → Res (Option PyData)}
theorem lcL_GY (ht : ∀ d, GJ (wipeK Γ vs) (turnM g tt te d) (f d) fun o a => a.1 = o ∧ Sat (anyK Γ vs) a.2) : ∀ (ds acc : List PyData) (ρ : Rho), Sat Γ ρ →
    GY (lcL vs g tt te ds acc ρ) (lcM f ds) fun l a => a.1 = acc ++ l ∧ Sat Γ a.2
  | [], acc, ρ, s => .ok ⟨by simp, s⟩
  | d :: ds, acc, ρ, s => by
    rw [lcL_turn]
    refine (ht d _ (wipe_sat s vs)).noX.bind fun o a ⟨e, s1⟩ => ?_
    subst e
    have h := lcL_GY ht ds (acc ++ a.1.toList) (restR ρ a.2 vs) (rest_sat s s1 rfl fun _ _ => rfl)
    have := h.bind (f := Res.ok) (F := fun r => Res.ok (a.1.toList ++ r)) (S := fun l b => b.1 = acc ++ l ∧ Sat Γ b.2) fun l b ⟨e, s2⟩ => .ok ⟨by rw [e, List.append_assoc], s2⟩
    rw [bind_ok'] at this
    exact this
theorem xp_lc (hi : XP Γ mi xs) (hn : NoOwn Γ vs) (ht : ∀ d, GJ (wipeK Γ vs) (turnM g tt te d) (f d) fun o a => a.1 = o ∧ Sat (anyK Γ vs) a.2) : XP Γ (mLc mi vs g tt te) (pLc xs f) := fun ρ s =>
  (hi ρ s).bind fun l a ⟨e, s1⟩ => by
    subst e
    rw [if_pos (hn.all s1)]
    exact (lcL_GY ht a.1 [] a.2 s1).bind fun r b ⟨e, s2⟩ => .ok ⟨by rw [e]; rfl, s2⟩
/-! targets -/
theorem gt_name {α Ω : Type} {j : Nat} {d : PyData} {k : Rho → Res α} {R : Res Ω} {P : Ω → α → Prop} (h : GJ (Γ.set j (.is (.val d))) k R P) : GJ Γ (fun ρ => gmName j d ρ >>= k) R P := fun ρ s => h (ρ.set j (some (.val d))) s.setS
theorem gt_tup {α Ω : Type} {r : GMs} {d : PyData} {k : Rho → Res α} {R : Res Ω} {P : Ω → α → Prop} (h : ∀ ds, d = .tuple ds → GJ Γ (fun ρ => r ds ρ >>= k) R P) (he : (∀ ds, d ≠ .tuple ds) → R = .err) : GJ Γ (fun ρ => gmTup r d ρ >>= k) R P := fun ρ s => by
  cases d with
  | tuple ds => exact h ds rfl ρ s
  | _ => rw [he fun ds e => by cases e]; exact trivial
theorem gt_tup2 {α Ω : Type} {g1 g2 : GM} {d : PyData} {k : Rho → Res α} {R : PyData → PyData → Res Ω} {P : Ω → α → Prop} (h : ∀ a b, GJ Γ (fun ρ => g1 a ρ >>= fun ρ1 => g2 b ρ1 >>= k) (R a b) P) :
    GJ Γ (fun ρ => gmTup (gmCons g1 (gmCons g2 gmNil)) d ρ >>= k) (un2 d R) P := fun ρ s => by
  unfold un2
  split
  · rename_i a b
    have e : (gmTup (gmCons g1 (gmCons g2 gmNil)) (.tuple [a, b]) ρ >>= k) = g1 a ρ >>= fun ρ1 => g2 b ρ1 >>= k := by
      show ((g1 a ρ >>= fun ρ1 => g2 b ρ1 >>= fun ρ2 => Res.ok ρ2) >>= k) = _
      simp only [res_assoc, ok_bind]
    show GY (gmTup (gmCons g1 (gmCons g2 gmNil)) (.tuple [a, b]) ρ >>= k) _ _
    rw [e]
    exact h a b ρ s
  · exact trivial
theorem gt_tup3 {α Ω : Type} {g1 g2 g3 : GM} {d : PyData} {k : Rho → Res α} {R : PyData → PyData → PyData → Res Ω} {P : Ω → α → Prop} (h : ∀ a b c, GJ Γ (fun ρ => g1 a ρ >>= fun ρ1 => g2 b ρ1 >>= fun ρ2 => g3 c ρ2 >>= k) (R a b c) P) :
    GJ Γ (fun ρ => gmTup (gmCons g1 (gmCons g2 (gmCons g3 gmNil))) d ρ >>= k) (un3 d R) P := fun ρ s => by
  unfold un3
  split
  · rename_i a b c
    have e : (gmTup (gmCons g1 (gmCons g2 (gmCons g3 gmNil))) (.tuple [a, b, c]) ρ >>= k) = g1 a ρ >>= fun ρ1 => g2 b ρ1 >>= fun ρ2 => g3 c ρ2 >>= k := by
      show ((g1 a ρ >>= fun ρ1 => g2 b ρ1 >>= fun ρ2 => g3 c ρ2 >>= fun ρ3 => Res.ok ρ3) >>= k) = _
      simp only [res_assoc, ok_bind]
    show GY (gmTup (gmCons g1 (gmCons g2 (gmCons g3 gmNil))) (.tuple [a, b, c]) ρ >>= k) _ _
    rw [e]
    exact h a b c ρ s
  · exact trivial
theorem gt_tup4 {α Ω : Type} {g1 g2 g3 g4 : GM} {d : PyData} {k : Rho → Res α} {R : PyData → PyData → PyData → PyData → Res Ω} {P : Ω → α → Prop} (h : ∀ a b c e, GJ Γ (fun ρ => g1 a ρ >>= fun ρ1 => g2 b ρ1 >>= fun ρ2 => g3 c ρ2 >>= fun ρ3 => g4 e ρ3 >>= k) (R a b c e) P) :
    GJ Γ (fun ρ => gmTup (gmCons g1 (gmCons g2 (gmCons g3 (gmCons g4 gmNil)))) d ρ >>= k) (un4 d R) P := fun ρ s => by
  unfold un4
  split
  · rename_i a b c e'
    have e : (gmTup (gmCons g1 (gmCons g2 (gmCons g3 (gmCons g4 gmNil)))) (.tuple [a, b, c, e']) ρ >>= k) = g1 a ρ >>= fun ρ1 => g2 b ρ1 >>= fun ρ2 => g3 c ρ2 >>= fun ρ3 => g4 e' ρ3 >>= k := by
      show ((g1 a ρ >>= fun ρ1 => g2 b ρ1 >>= fun ρ2 => g3 c ρ2 >>= fun ρ3 => g4 e' ρ3 >>= fun ρ4 => Res.ok ρ4) >>= k) = _
      simp only [res_assoc, ok_bind]
    show GY (gmTup (gmCons g1 (gmCons g2 (gmCons g3 (gmCons g4 gmNil)))) (.tuple [a, b, c, e']) ρ >>= k) _ _
    rw [e]
    exact h a b c e' ρ s
  · exact trivial
/-- the rest of a turn -/
theorem gt_elt {Γ' : Cx1} {x : Res PyData} (hx : XP Γ te x) (hr : RL Γ' Γ) : GJ Γ (fun ρ => tmYes ρ >>= fun b => if b.1 = true then te b.2 >>= fun y => Res.ok (some y.1, y.2) else .ok (none, b.2)) (lcY x) fun o a => a.1 = o ∧ Sat Γ' a.2 := fun ρ s => by
  show GY (if true = true then te ρ >>= fun y => Res.ok (some y.1, y.2) else .ok (none, ρ)) _ _
  rw [if_pos rfl]
  exact (hx ρ s).bind fun v a ⟨e, s1⟩ => by subst e; exact .ok ⟨rfl, hr.sat s1⟩
theorem gt_test {Γ' : Cx1} {c : Res Bool} {x : Res PyData} (hc : XP Γ tt c) (hx : XP Γ te x) (hr : RL Γ' Γ) : GJ Γ (fun ρ => tt ρ >>= fun b => if b.1 = true then te b.2 >>= fun y => Res.ok (some y.1, y.2) else .ok (none, b.2)) (lcT c x) fun o a => a.1 = o ∧ Sat Γ' a.2 := fun ρ s =>
  (hc ρ s).bind fun v a ⟨e, s1⟩ => by
    subst e
    by_cases h : a.1 = true
    · rw [if_pos h, if_pos h]
      exact (hx a.2 s1).bind fun w b ⟨e, s2⟩ => by subst e; exact .ok ⟨rfl, hr.sat s2⟩
    · rw [if_neg h, if_neg h]
      exact .ok ⟨rfl, hr.sat s1⟩
end
/-! ### expressions that change what one slot owns -/
def EvQ {α : Type} (Γ' : PyData → Cx1) (o : α × PyData) (a : α × Rho) : Prop := a.1 = o.1 ∧ Sat (Γ' o.2) a.2
def eP {α : Type} (x : Res α) : SX α := fun d => x >>= fun v => .ok (v, d)
def eBin (sem : PyData → PyData → Res PyData) (x y : SX PyData) : SX PyData := fun d => x d >>= fun a => y a.2 >>= fun b => sem a.1 b.1 >>= fun g => .ok (g, b.2)
def eUn {α β : Type} (f : α → Res β) (x : SX α) : SX β := fun d => x d >>= fun a => f a.1 >>= fun g => .ok (g, a.2)
def fTest : PyData → Res Bool := fun d => match d with | .bool b => .ok b | _ => .err
def fTup : List PyData → Res PyData := fun l => if l.length ≤ lim then .ok (.tuple l) else .err
def fLst : List PyData → Res PyData := fun l => if l.length ≤ lim then .ok (.list l) else .err
def fR1 : PyData → Res (List PyData) := fun d => match d with | .int n => if okRg 0 n then .ok (rgD 0 n) else .err | _ => .err
def fLstI : PyData → Res (List PyData) := fun d => match d with | .list ds => .ok ds | _ => .err
def fTplI : PyData → Res (List PyData) := fun d => match d with | .tuple ds => .ok ds | _ => .err
def eIf {α : Type} (c : SX Bool) (x y : SX α) : SX α := fun d => c d >>= fun b => if b.1 = true then x b.2 else y b.2
def eNil : SX (List PyData) := fun d => .ok ([], d)
def eCons (x : SX PyData) (r : SX (List PyData)) : SX (List PyData) := fun d => x d >>= fun a => r a.2 >>= fun l => .ok (a.1 :: l.1, l.2)
def eCall (pf : PyData → List PyData → Res (PyData × PyData)) (l : SX (List PyData)) : SX PyData := fun d => l d >>= fun t => pf t.2 t.1
def eAndT (x y : SX Bool) : SX Bool := fun d => x d >>= fun b => if b.1 = true then y b.2 else .ok (false, b.2)
def eOrT (x y : SX Bool) : SX Bool := fun d => x d >>= fun b => if b.1 = true then .ok (true, b.2) else y b.2
def ePop : SX PyData := fun d => match d with
  | .list ds => (match ds[ds.length - 1]? with | some x => .ok (x, .list ds.dropLast) | none => .err)
  | _ => .err
def elcY (x : SX PyData) : SX (Option PyData) := fun d => x d >>= fun y => .ok (some y.1, y.2)
def elcT (t : SX Bool) (x : SX PyData) : SX (Option PyData) := fun d => t d >>= fun b => if b.1 = true then x b.2 >>= fun y => .ok (some y.1, y.2) else .ok (none, b.2)
def elcM (f : PyData → SX (Option PyData)) : List PyData → SX (List PyData)
  | [], d => .ok ([], d)
  | x :: xs, d => noX (f x d) >>= fun o => elcM f xs o.2 >>= fun r => .ok (o.1.toList ++ r.1, r.2)
def eLc (xs : SX (List PyData)) (f : PyData → SX (Option PyData)) : SX PyData := fun d => xs d >>= fun l => elcM f l.1 l.2 >>= fun r => .ok (.list r.1, r.2)
section
variable {Γ : Cx1} {j : Nat} {α β : Type} {ma mb : EM} {x y : SX PyData}
theorem xe_p {m : Rho → Res (α × Rho)} {x : Res α} (h : ∀ d, XP (Γ.set j (.is (.own d))) m x) : XE Γ j m (eP x) := fun d ρ s => by
  have := (h d ρ s).bind (f := Res.ok) (F := fun v => Res.ok (v, d)) (S := fun t a => a.1 = t.1 ∧ Sat (Γ.set j (.is (.own t.2))) a.2) fun v a ⟨e, s1⟩ => .ok ⟨e, s1⟩
  rwa [bind_ok'] at this
theorem xe_fin {γ : Type} {X : Res α} {d : PyData} {ρ : Rho} (s : Sat (Γ.set j (.is (.own d))) ρ) : GY (X >>= fun g => Res.ok (g, ρ)) (X >>= fun g => .ok (g, d)) (fun t a => a.1 = t.1 ∧ Sat (Γ.set j (.is (.own t.2))) a.2) :=
  (GY.same X).bind fun w a e => by subst e; exact .ok ⟨rfl, s⟩
theorem xe_bin {sem : PyData → PyData → Res PyData} (ha : XE Γ j ma x) (hb : XE Γ j mb y) : XE Γ j (mBin sem ma mb) (eBin sem x y) := fun d ρ s =>
  (ha d ρ s).bind fun v a ⟨e, s1⟩ => (hb v.2 a.2 s1).bind fun w b ⟨e2, s2⟩ => by rw [e, e2]; exact xe_fin (γ := Unit) s2
theorem xe_un {sem : PyData → Res PyData} (ha : XE Γ j ma x) : XE Γ j (mUn sem ma) (eUn sem x) := fun d ρ s =>
  (ha d ρ s).bind fun v a ⟨e, s1⟩ => by rw [e]; exact xe_fin (γ := Unit) s1
theorem xe_test (ha : XE Γ j ma x) : XE Γ j (mTest ma) (eUn fTest x) := fun d ρ s =>
  (ha d ρ s).bind fun v a ⟨e, s1⟩ => by
    obtain ⟨v1, v2⟩ := v
    obtain ⟨a1, a2⟩ := a
    cases e
    cases v1 with
    | bool b => exact .ok ⟨rfl, s1⟩
    | _ => exact trivial
theorem xe_tru (ha : XE Γ j ma x) : XE Γ j (mTru ma) (eUn oTru x) := fun d ρ s =>
  (ha d ρ s).bind fun v a ⟨e, s1⟩ => by rw [e]; exact xe_fin (γ := Unit) s1
theorem xe_notT {ta : TM} {x : SX Bool} (ha : XE Γ j ta x) : XE Γ j (tmNot ta) (eUn (fun b => .ok (!b)) x) := fun d ρ s =>
  (ha d ρ s).bind fun v a ⟨e, s1⟩ => by rw [e]; exact .ok ⟨rfl, s1⟩
theorem xe_andT {ta tb : TM} {x y : SX Bool} (ha : XE Γ j ta x) (hb : XE Γ j tb y) : XE Γ j (tmAnd ta tb) (eAndT x y) := fun d ρ s =>
  (ha d ρ s).bind fun v a ⟨e, s1⟩ => by
    obtain ⟨v1, v2⟩ := v
    obtain ⟨a1, a2⟩ := a
    cases e
    cases v1 with
    | true => exact hb v2 a2 s1
    | false => exact .ok ⟨rfl, s1⟩
theorem xe_orT {ta tb : TM} {x y : SX Bool} (ha : XE Γ j ta x) (hb : XE Γ j tb y) : XE Γ j (tmOr ta tb) (eOrT x y) := fun d ρ s =>
  (ha d ρ s).bind fun v a ⟨e, s1⟩ => by
    obtain ⟨v1, v2⟩ := v
    obtain ⟨a1, a2⟩ := a
    cases e
    cases v1 with
    | true => exact .ok ⟨rfl, s1⟩
    | false => exact hb v2 a2 s1
theorem xe_if {tc : TM} {c : SX Bool} (hc : XE Γ j tc c) (ha : XE Γ j ma x) (hb : XE Γ j mb y) : XE Γ j (mIf tc ma mb) (eIf c x y) := fun d ρ s =>
  (hc d ρ s).bind fun v a ⟨e, s1⟩ => by
    obtain ⟨v1, v2⟩ := v
    obtain ⟨a1, a2⟩ := a
    cases e
    cases v1 with
    | true => exact ha v2 a2 s1
    | false => exact hb v2 a2 s1
theorem xe_nil : XE Γ j mNil eNil := fun d ρ s => .ok ⟨rfl, s⟩
theorem xe_cons {r : AM} {l : SX (List PyData)} (ha : XE Γ j ma x) (hr : XE Γ j r l) : XE Γ j (mCons ma r) (eCons x l) := fun d ρ s =>
  (ha d ρ s).bind fun v a ⟨e, s1⟩ => (hr v.2 a.2 s1).bind fun w b ⟨e2, s2⟩ => by rw [e, e2]; exact .ok ⟨rfl, s2⟩
theorem xe_tup {r : AM} {l : SX (List PyData)} (hr : XE Γ j r l) : XE Γ j (mTup r) (eUn fTup l) := fun d ρ s =>
  (hr d ρ s).bind fun v a ⟨e, s1⟩ => by
    rw [e]
    unfold fTup
    by_cases h : v.1.length ≤ lim
    · rw [if_pos h, if_pos h]; exact .ok ⟨rfl, s1⟩
    · rw [if_neg h, if_neg h]; exact trivial
theorem xe_lst {r : AM} {l : SX (List PyData)} (hr : XE Γ j r l) : XE Γ j (mLst r) (eUn fLst l) := fun d ρ s =>
  (hr d ρ s).bind fun v a ⟨e, s1⟩ => by
    rw [e]
    unfold fLst
    by_cases h : v.1.length ≤ lim
    · rw [if_pos h, if_pos h]; exact .ok ⟨rfl, s1⟩
    · rw [if_neg h, if_neg h]; exact trivial
theorem xe_call {fm : FM} {m : AM} {l : SX (List PyData)} {pf : List PyData → Res PyData} (hf : ∀ as, Rf (pf as) (res fm as)) (hm : XE Γ j m l) : XE Γ j (mCall fm m) (eUn pf l) := fun d ρ s => by
  rw [mCall_eq]
  exact (hm d ρ s).bind fun v a ⟨e, s1⟩ => by
    rw [e]
    exact (hf v.1 : GY _ _ _).bind fun w d e => by subst e; exact .ok ⟨rfl, s1⟩
theorem xe_callOwn {fm : FM} {m : AM} {l : SX (List PyData)} {pf : PyData → List PyData → Res (PyData × PyData)} (hf : ∀ d as, Rf (pf d as) (resW fm d as)) (hj : j < Γ.length) (hm : XE Γ j m l) : XE Γ j (mCallOwn fm j m) (eCall pf l) := fun d ρ s => by
  rw [mCallOwn_eq, sat_set_self s hj]
  dsimp only
  refine (hm d ρ s).bind fun v a ⟨e, s1⟩ => ?_
  rw [sat_set_self s1 hj, e]
  dsimp only
  have := (hf v.2 v.1 : GY _ _ _).bind (f := fun x => Res.ok (x.1, a.2.set j (some (.own x.2)))) (F := Res.ok) (S := fun t b => b.1 = t.1 ∧ Sat (Γ.set j (.is (.own t.2))) b.2) fun w b e => by subst e; exact .ok ⟨rfl, sat_re s1⟩
  rwa [bind_ok'] at this
theorem xe_pop (hj : j < Γ.length) : XE Γ j (mPop j) ePop := fun d ρ s => by
  unfold mPop ePop
  rw [sat_set_self s hj]
  cases d with
  | list ds =>
    dsimp only
    cases e : ds[ds.length - 1]? with
    | none => exact trivial
    | some x => exact .ok ⟨rfl, sat_re s⟩
  | _ => exact trivial
theorem xe_r1 (ha : XE Γ j ma x) : XE Γ j (iR1 ma) (eUn fR1 x) := fun d ρ s =>
  (ha d ρ s).bind fun v a ⟨e, s1⟩ => by
    obtain ⟨v1, v2⟩ := v
    obtain ⟨a1, a2⟩ := a
    cases e
    cases v1 with
    | int n =>
      show GY (if okRg 0 n = true then Res.ok (rgD 0 n, a2) else .err) ((if okRg 0 n = true then Res.ok (rgD 0 n) else .err) >>= fun g => .ok (g, v2)) _
      by_cases h : okRg 0 n = true
      · rw [if_pos h, if_pos h]; exact .ok ⟨rfl, s1⟩
      · rw [if_neg h, if_neg h]; exact trivial
    | _ => exact trivial
theorem xe_ilst (ha : XE Γ j ma x) : XE Γ j (iLst ma) (eUn fLstI x) := fun d ρ s =>
  (ha d ρ s).bind fun v a ⟨e, s1⟩ => by
    obtain ⟨v1, v2⟩ := v
    obtain ⟨a1, a2⟩ := a
    cases e
    cases v1 with
    | list n => exact .ok ⟨rfl, s1⟩
    | _ => exact trivial
theorem xe_itpl (ha : XE Γ j ma x) : XE Γ j (iTpl ma) (eUn fTplI x) := fun d ρ s =>
  (ha d ρ s).bind fun v a ⟨e, s1⟩ => by
    obtain ⟨v1, v2⟩ := v
    obtain ⟨a1, a2⟩ := a
    cases e
    cases v1 with
    | tuple n => exact .ok ⟨rfl, s1⟩
    | _ => exact trivial
variable {mi : IM} {vs : List Nat} {g : GM} {tt : TM} {te : EM} {xs : SX (List PyData)} {f : PyData → SX (Option PyData)}
theorem elcL_GY (hj : j ∉ vs) (ht : ∀ x d, GJ (wipeK (Γ.set j (.is (.own d))) vs) (turnM g tt te x) (f x d) (EvQ fun d => anyK (Γ.set j (.is (.own d))) vs)) : ∀ (ds acc : List PyData) (d : PyData) (ρ : Rho), Sat (Γ.set j (.is (.own d))) ρ →
    GY (lcL vs g tt te ds acc ρ) (elcM f ds d) fun l a => a.1 = acc ++ l.1 ∧ Sat (Γ.set j (.is (.own l.2))) a.2
  | [], acc, d, ρ, s => .ok ⟨by simp, s⟩
  | x :: ds, acc, d, ρ, s => by
    rw [lcL_turn]
    refine (ht x d _ (wipe_sat s vs)).noX.bind fun o a ⟨e, s1⟩ => ?_
    rw [e]
    have h := elcL_GY hj ht ds (acc ++ o.1.toList) o.2 (restR ρ a.2 vs) (rest_sat s s1 (by simp) fun i hi => by
      have : j ≠ i := fun e => hj (e ▸ hi)
      rw [List.getElem?_set_ne this, List.getElem?_set_ne this])
    have := h.bind (f := Res.ok) (F := fun r => Res.ok (o.1.toList ++ r.1, r.2)) (S := fun l b => b.1 = acc ++ l.1 ∧ Sat (Γ.set j (.is (.own l.2))) b.2) fun l b ⟨e, s2⟩ => .ok ⟨by rw [e, List.append_assoc], s2⟩
    rw [bind_ok'] at this
    exact this
theorem xe_lc (hi : XE Γ j mi xs) (hn : ∀ d, NoOwn (Γ.set j (.is (.own d))) vs) (hj : j ∉ vs) (ht : ∀ x d, GJ (wipeK (Γ.set j (.is (.own d))) vs) (turnM g tt te x) (f x d) (EvQ fun d => anyK (Γ.set j (.is (.own d))) vs)) : XE Γ j (mLc mi vs g tt te) (eLc xs f) := fun d ρ s =>
  (hi d ρ s).bind fun l a ⟨e, s1⟩ => by
    rw [e]
    rw [if_pos ((hn l.2).all s1)]
    exact (elcL_GY hj ht l.1 [] l.2 a.2 s1).bind fun r b ⟨e, s2⟩ => .ok ⟨by rw [e]; rfl, s2⟩
theorem xe_at {α : Type} {mm : Rho → Res (α × Rho)} {xx : SX α} {d : PyData} {ρ : Rho} (hx : XE Γ j mm xx) (hj : Γ[j]? = some (.is (.own d))) (s : Sat Γ ρ) : GY (mm ρ) (xx d) fun t a => a.1 = t.1 ∧ Sat (Γ.set j (.is (.own t.2))) a.2 :=
  hx d ρ (by
    have e : Γ.set j (.is (.own d)) = Γ := by
      have hl := (List.getElem?_eq_some_iff.mp hj)
      obtain ⟨h1, h2⟩ := hl
      rw [← h2]
      exact List.set_getElem_self h1
    rw [e]; exact s)
/-- the rest of a turn that changes slot j -/
theorem ge_elt {Γ' : PyData → Cx1} {x : SX PyData} {d : PyData} (hj : Γ[j]? = some (.is (.own d))) (hx : XE Γ j te x) (hr : ∀ d, RL (Γ' d) (Γ.set j (.is (.own d)))) : GJ Γ (fun ρ => tmYes ρ >>= fun b => if b.1 = true then te b.2 >>= fun y => Res.ok (some y.1, y.2) else .ok (none, b.2)) (elcY x d) (EvQ Γ') := fun ρ s => by
  show GY (if true = true then te ρ >>= fun y => Res.ok (some y.1, y.2) else .ok (none, ρ)) _ _
  rw [if_pos rfl]
  exact (xe_at hx hj s).bind fun v a ⟨e, s1⟩ => by rw [e]; exact .ok ⟨rfl, (hr v.2).sat s1⟩
theorem ge_test {Γ' : PyData → Cx1} {c : SX Bool} {x : SX PyData} {d : PyData} (hj : Γ[j]? = some (.is (.own d))) (hc : XE Γ j tt c) (hx : XE Γ j te x) (hr : ∀ d, RL (Γ' d) (Γ.set j (.is (.own d)))) : GJ Γ (fun ρ => tt ρ >>= fun b => if b.1 = true then te b.2 >>= fun y => Res.ok (some y.1, y.2) else .ok (none, b.2)) (elcT c x d) (EvQ Γ') := fun ρ s =>
  (xe_at hc hj s).bind fun v a ⟨e, s1⟩ => by
    obtain ⟨v1, v2⟩ := v
    obtain ⟨a1, a2⟩ := a
    cases e
    cases v1 with
    | true => exact (hx v2 a2 s1).bind fun w b ⟨e, s2⟩ => by rw [e]; exact .ok ⟨rfl, (hr w.2).sat s2⟩
    | false => exact .ok ⟨rfl, (hr v2).sat s1⟩
end
end ZZ

/-! Y3: statements -/
namespace ZZ
open PySem PySem.Spec PyProof.Rows L2 Ob
abbrev FR := Fl × Rho
theorem mSeq_skip (s : SM) : mSeq s mSkip = s := by
  funext ρ
  unfold mSeq
  cases s ρ with
  | ok r =>
    obtain ⟨f, ρ'⟩ := r
    cases f <;> rfl
  | exc c as => rfl
  | err => rfl
theorem mSeq_assoc (p q r : SM) : mSeq (mSeq p q) r = mSeq p (mSeq q r) := by
  funext ρ
  unfold mSeq
  cases p ρ with
  | ok x =>
    obtain ⟨f, ρ'⟩ := x
    cases f <;> rfl
  | exc c as => rfl
  | err => rfl
def pBind2 {α : Type} (x : Res (PyData × PyData)) (k : PyData → PyData → Res α) : Res α := x >>= fun t => k t.1 t.2
/-! loops -/
inductive Lp (S R : Type) where
  | nx (s : S)
  | bk (s : S)
  | rt (r : R)
def pLoop {S R : Type} (f : S → PyData → Res (Lp S R)) : List PyData → S → Res (Lp S R)
  | [], s => .ok (.nx s)
  | d :: ds, s => f s d >>= fun l => match l with
    | .nx s => pLoop f ds s
    | .bk s => .ok (.bk s)
    | .rt r => .ok (.rt r)
def lpK {S R Ω : Type} (k : S → Res Ω) (ret : R → Ω) (l : Lp S R) : Res Ω := match l with
  | .nx s => k s
  | .bk s => k s
  | .rt r => .ok (ret r)
def pFor {S R Ω : Type} (xs : Res (List PyData)) (s0 : S) (f : S → PyData → Res (Lp S R)) (k : S → Res Ω) (ret : R → Ω) : Res Ω := xs >>= fun l => pLoop f l s0 >>= lpK k ret
def pWhL {S R : Type} (c : S → Res Bool) (f : S → Res (Lp S R)) : Nat → S → Res (Lp S R)
  | 0, _ => .err
  | n + 1, s => c s >>= fun b => if b = true then f s >>= fun l => (match l with
    | .nx s => pWhL c f n s
    | .bk s => .ok (.bk s)
    | .rt r => .ok (.rt r)) else .ok (.nx s)
def pWh {S R Ω : Type} (n : Nat) (s0 : S) (c : S → Res Bool) (f : S → Res (Lp S R)) (k : S → Res Ω) (ret : R → Ω) : Res Ω := pWhL c f n s0 >>= lpK k ret
def LpR {S R : Type} (L : S → Cx1) (P : R → FR → Prop) : Lp S R → FR → Prop
  | .nx s, a => (a.1 = .nx ∨ a.1 = .ct) ∧ Sat (L s) a.2
  | .bk s, a => a.1 = .bk ∧ Sat (L s) a.2
  | .rt r, a => P r a ∧ ∃ s, a.1 = .rt s
section
variable {Γ : Cx1} {Ω : Type} {P : Ω → FR → Prop} {rest : SM} {m ma mb : EM} {x y : Res PyData} {i j : Nat}
theorem bj_last {s : SM} {R : Res Ω} (h : GJ Γ (mSeq s mSkip) R P) : GJ Γ s R P := by rw [mSeq_skip] at h; exact h
theorem bj_assoc {p q r : SM} {R : Res Ω} (h : GJ Γ (mSeq p (mSeq q r)) R P) : GJ Γ (mSeq (mSeq p q) r) R P := by rw [mSeq_assoc]; exact h
theorem gj_eq {α Ω : Type} {Γ Γ' : Cx1} {m : Rho → Res α} {R : Res Ω} {P : Ω → α → Prop} (h : Γ = Γ') (k : GJ Γ' m R P) : GJ Γ m R P := h ▸ k
theorem bj_skip {r : SM} {R : Res Ω} (h : GJ Γ r R P) : GJ Γ (mSeq mSkip r) R P := fun ρ s => h ρ s
theorem bj_end {w : Ω} (h : ∀ ρ, Sat Γ ρ → P w (.nx, ρ)) : GJ Γ mSkip (.ok w) P := fun ρ s => .ok (h ρ s)
theorem bj_weak {Γ' : Cx1} {s : SM} {R : Res Ω} (h : RL Γ' Γ) (k : GJ Γ' s R P) : GJ Γ s R P := fun ρ st => k ρ (h.sat st)
theorem bj_set {R : PyData → Res Ω} (hx : XP Γ m x) (k : ∀ v, GJ (Γ.set i (.is (.val v))) rest (R v) P) : GJ Γ (mSeq (mSet i m) rest) (x >>= R) P := fun ρ s => by
  show GY ((m ρ >>= fun r => Res.ok (Fl.nx, r.2.set i (some (.val r.1)))) >>= fun r => _) _ _
  rw [res_assoc]
  exact (hx ρ s).bind fun v a ⟨e, s1⟩ => by subst e; exact k a.1 _ s1.setS
theorem bj_setO {R : PyData → Res Ω} (hx : XP Γ m x) (k : ∀ v, GJ (Γ.set i (.is (.own v))) rest (R v) P) : GJ Γ (mSeq (mSetO i m) rest) (x >>= R) P := fun ρ s => by
  show GY ((m ρ >>= fun r => Res.ok (Fl.nx, r.2.set i (some (.own r.1)))) >>= fun r => _) _ _
  rw [res_assoc]
  exact (hx ρ s).bind fun v a ⟨e, s1⟩ => by subst e; exact k a.1 _ s1.setS
theorem bj_setE {R : PyData → PyData → Res Ω} {d : PyData} {xx : SX PyData} (hj : Γ[j]? = some (.is (.own d))) (hx : XE Γ j m xx) (k : ∀ v d, GJ ((Γ.set j (.is (.own d))).set i (.is (.val v))) rest (R v d) P) : GJ Γ (mSeq (mSet i m) rest) (pBind2 (xx d) R) P := fun ρ s => by
  show GY ((m ρ >>= fun r => Res.ok (Fl.nx, r.2.set i (some (.val r.1)))) >>= fun r => _) _ _
  rw [res_assoc]
  exact (xe_at hx hj s).bind fun v a ⟨e, s1⟩ => by rw [e]; exact k v.1 v.2 _ s1.setS
theorem bj_setOE {R : PyData → PyData → Res Ω} {d : PyData} {xx : SX PyData} (hj : Γ[j]? = some (.is (.own d))) (hx : XE Γ j m xx) (k : ∀ v d, GJ ((Γ.set j (.is (.own d))).set i (.is (.own v))) rest (R v d) P) : GJ Γ (mSeq (mSetO i m) rest) (pBind2 (xx d) R) P := fun ρ s => by
  show GY ((m ρ >>= fun r => Res.ok (Fl.nx, r.2.set i (some (.own r.1)))) >>= fun r => _) _ _
  rw [res_assoc]
  exact (xe_at hx hj s).bind fun v a ⟨e, s1⟩ => by rw [e]; exact k v.1 v.2 _ s1.setS
/-- a target, then the rest -/
theorem bj_asg {g : GM} {R : PyData → Res Ω} (hx : XP Γ m x) (k : ∀ v, GJ Γ (fun ρ => g v ρ >>= rest) (R v) P) : GJ Γ (mSeq (mAsg g m) rest) (x >>= R) P := fun ρ s => by
  show GY ((m ρ >>= fun r => g r.1 r.2 >>= fun ρ' => Res.ok (Fl.nx, ρ')) >>= fun r => _) _ _
  rw [res_assoc]
  refine (hx ρ s).bind fun v a ⟨e, s1⟩ => ?_
  subst e
  have := k a.1 a.2 s1
  rw [res_assoc]
  simp only [ok_bind]
  exact this
theorem bj_asgE {g : GM} {R : PyData → PyData → Res Ω} {d : PyData} {xx : SX PyData} (hj : Γ[j]? = some (.is (.own d))) (hx : XE Γ j m xx) (k : ∀ v d, GJ (Γ.set j (.is (.own d))) (fun ρ => g v ρ >>= rest) (R v d) P) : GJ Γ (mSeq (mAsg g m) rest) (pBind2 (xx d) R) P := fun ρ s => by
  show GY ((m ρ >>= fun r => g r.1 r.2 >>= fun ρ' => Res.ok (Fl.nx, ρ')) >>= fun r => _) _ _
  rw [res_assoc]
  refine (xe_at hx hj s).bind fun v a ⟨e, s1⟩ => ?_
  rw [e]
  have := k v.1 v.2 a.2 s1
  rw [res_assoc]
  simp only [ok_bind]
  exact this
def pPar {α : Type} (x y : Res PyData) (k : PyData → PyData → Res α) : Res α := x >>= fun a => y >>= fun b => k a b
theorem bj_par {R : PyData → PyData → Res Ω} (hx : XP Γ ma x) (hy : XP Γ mb y) (k : ∀ a b, GJ ((Γ.set i (.is (.val a))).set j (.is (.val b))) rest (R a b) P) : GJ Γ (mSeq (mPar i j (mCons ma (mCons mb mNil))) rest) (pPar x y R) P := fun ρ s => by
  unfold mSeq mPar mCons mNil
  simp only [res_assoc, ok_bind]
  exact (hx ρ s).bind fun v a ⟨e, s1⟩ => (hy a.2 s1).bind fun w b ⟨e2, s2⟩ => by subst e e2; exact k a.1 b.1 _ s2.setS.setS
def ePar {α : Type} (x y : SX PyData) (d : PyData) (k : PyData → PyData → PyData → Res α) : Res α := x d >>= fun a => y a.2 >>= fun b => k a.1 b.1 b.2
theorem bj_parE {l : Nat} {R : PyData → PyData → PyData → Res Ω} {d : PyData} {xx yy : SX PyData} (hl : Γ[l]? = some (.is (.own d))) (hx : XE Γ l ma xx) (hy : XE Γ l mb yy) (k : ∀ a b d, GJ (((Γ.set l (.is (.own d))).set i (.is (.val a))).set j (.is (.val b))) rest (R a b d) P) :
    GJ Γ (mSeq (mPar i j (mCons ma (mCons mb mNil))) rest) (ePar xx yy d R) P := fun ρ s => by
  unfold mSeq mPar mCons mNil
  simp only [res_assoc, ok_bind]
  exact (xe_at hx hl s).bind fun v a ⟨e, s1⟩ => (hy v.2 a.2 s1).bind fun w b ⟨e2, s2⟩ => by rw [e, e2]; exact k v.1 w.1 w.2 _ s2.setS.setS
theorem bj_parO {R : PyData → PyData → Res Ω} (hx : XP Γ ma x) (hy : XP Γ mb y) (k : ∀ a b, GJ ((Γ.set i (.is (.own a))).set j (.is (.own b))) rest (R a b) P) : GJ Γ (mSeq (mParO i j ma mb) rest) (pPar x y R) P := fun ρ s => by
  unfold mSeq mParO
  simp only [res_assoc, ok_bind]
  exact (hx ρ s).bind fun v a ⟨e, s1⟩ => (hy a.2 s1).bind fun w b ⟨e2, s2⟩ => by subst e e2; exact k a.1 b.1 _ s2.setS.setS
def pThen {α β : Type} (x : Res α) (k : Res β) : Res β := x >>= fun _ => k
theorem bj_expr {R : Res Ω} (hx : XP Γ m x) (k : GJ Γ rest R P) : GJ Γ (mSeq (mExpr m) rest) (pThen x R) P := fun ρ s => by
  show GY ((m ρ >>= fun r => Res.ok (Fl.nx, r.2)) >>= fun r => _) _ _
  rw [res_assoc]
  exact (hx ρ s).bind fun v a ⟨e, s1⟩ => k _ s1
theorem bj_exprE {R : PyData → PyData → Res Ω} {d : PyData} {xx : SX PyData} (hj : Γ[j]? = some (.is (.own d))) (hx : XE Γ j m xx) (k : ∀ v d, GJ (Γ.set j (.is (.own d))) rest (R v d) P) : GJ Γ (mSeq (mExpr m) rest) (pBind2 (xx d) R) P := fun ρ s => by
  show GY ((m ρ >>= fun r => Res.ok (Fl.nx, r.2)) >>= fun r => _) _ _
  rw [res_assoc]
  exact (xe_at hx hj s).bind fun v a ⟨e, s1⟩ => k v.1 v.2 _ s1
theorem bj_ret {ret : PyData → Ω} (hx : XP Γ m x) (h : ∀ v ρ, Sat Γ ρ → P (ret v) (.rt (.val v), ρ)) : GJ Γ (mSeq (mRet m) rest) (x >>= fun v => .ok (ret v)) P := fun ρ s => by
  show GY ((m ρ >>= fun r => Res.ok (Fl.rt (.val r.1), r.2)) >>= fun r => _) _ _
  rw [res_assoc]
  exact (hx ρ s).bind fun v a ⟨e, s1⟩ => by subst e; exact .ok (h a.1 a.2 s1)
theorem bj_retE {ret : PyData → PyData → Ω} {d : PyData} {xx : SX PyData} (hj : Γ[j]? = some (.is (.own d))) (hx : XE Γ j m xx) (h : ∀ v d ρ, Sat (Γ.set j (.is (.own d))) ρ → P (ret v d) (.rt (.val v), ρ)) : GJ Γ (mSeq (mRet m) rest) (pBind2 (xx d) fun v d => .ok (ret v d)) P := fun ρ s => by
  show GY ((m ρ >>= fun r => Res.ok (Fl.rt (.val r.1), r.2)) >>= fun r => _) _ _
  rw [res_assoc]
  exact (xe_at hx hj s).bind fun v a ⟨e, s1⟩ => by rw [e]; exact .ok (h v.1 v.2 a.2 s1)
theorem bj_ret1 {P : PyData → FR → Prop} (hx : XP Γ m x) (h : ∀ v ρ, Sat Γ ρ → P v (.rt (.val v), ρ)) : GJ Γ (mSeq (mRet m) rest) x P := fun ρ s => by
  have := bj_ret (rest := rest) (ret := fun v => v) hx h ρ s
  rwa [bind_ok'] at this
theorem bj_retOV {ret : PyData → Ω} {d : PyData} (hj : Γ[j]? = some (.is (.own d))) (h : ∀ ds ρ, Sat Γ ρ → P (ret (.list ds)) (.rt (.own (.list ds)), ρ)) : GJ Γ (mSeq (mRetOwn j) rest) (pPk d >>= fun v => .ok (ret v)) P := fun ρ s => by
  unfold mSeq mRetOwn
  rw [s.is hj]
  cases d <;> first | exact .ok (h _ ρ s) | exact trivial
theorem bj_raise {c : Str} {as : List PyData} {sm : SM} (h : ∀ ρ, sm ρ = .exc c as) : GJ Γ (mSeq sm rest) (.exc c as : Res Ω) P := fun ρ s => by
  show (sm ρ >>= fun r => _) = _
  rw [h]
  rfl
theorem bj_retN {ret : PyData → Ω} (h : ∀ v ρ, Sat Γ ρ → P (ret v) (.rt (.val v), ρ)) : GJ Γ (mSeq mRetN rest) (.ok (ret .none)) P := fun ρ s => .ok (h .none ρ s)
theorem bj_retO {ret : PyData → Ω} {d : PyData} (hj : Γ[j]? = some (.is (.own d))) (h : ∀ v ρ, Sat Γ ρ → P (ret v) (.rt (.own v), ρ)) : GJ Γ (mSeq (mRetOwn j) rest) (.ok (ret d)) P := fun ρ s => by
  unfold mSeq mRetOwn
  rw [s.is hj]
  exact .ok (h d ρ s)
theorem bj_if {c : TM} {a b : SM} {t : Res Bool} {Ra Rb : Res Ω} (hc : XP Γ c t) (ha : GJ Γ (mSeq a rest) Ra P) (hb : GJ Γ (mSeq b rest) Rb P) : GJ Γ (mSeq (mIfS c a b) rest) (pIf t Ra Rb) P := fun ρ s => by
  show GY ((c ρ >>= fun r => if r.1 = true then a r.2 else b r.2) >>= fun r => _) _ _
  rw [res_assoc]
  refine (hc ρ s).bind fun v q ⟨e, s1⟩ => ?_
  subst e
  by_cases h : q.1 = true
  · rw [if_pos h, if_pos h]; exact ha q.2 s1
  · rw [if_neg h, if_neg h]; exact hb q.2 s1
def pIfE {α : Type} (t : Res (Bool × PyData)) (a b : PyData → Res α) : Res α := t >>= fun r => if r.1 = true then a r.2 else b r.2
theorem bj_ifE {c : TM} {a b : SM} {d : PyData} {t : SX Bool} {Ra Rb : PyData → Res Ω} (hj : Γ[j]? = some (.is (.own d))) (hc : XE Γ j c t) (ha : ∀ d, GJ (Γ.set j (.is (.own d))) (mSeq a rest) (Ra d) P) (hb : ∀ d, GJ (Γ.set j (.is (.own d))) (mSeq b rest) (Rb d) P) : GJ Γ (mSeq (mIfS c a b) rest) (pIfE (t d) Ra Rb) P := fun ρ s => by
  show GY ((c ρ >>= fun r => if r.1 = true then a r.2 else b r.2) >>= fun r => _) _ _
  rw [res_assoc]
  refine (xe_at hc hj s).bind fun v q ⟨e, s1⟩ => ?_
  rw [e]
  by_cases h : v.1 = true
  · rw [if_pos h, if_pos h]; exact ha v.2 q.2 s1
  · rw [if_neg h, if_neg h]; exact hb v.2 q.2 s1
theorem bj_break {S R : Type} {L : S → Cx1} {P : R → FR → Prop} {s : S} (h : RL (L s) Γ) : GJ Γ (mSeq mBreak rest) (.ok (.bk s)) (LpR L P) := fun ρ st => .ok ⟨rfl, h.sat st⟩
theorem bj_cont {S R : Type} {L : S → Cx1} {P : R → FR → Prop} {s : S} (h : RL (L s) Γ) : GJ Γ (mSeq mCont rest) (.ok (.nx s)) (LpR L P) := fun ρ st => .ok ⟨.inr rfl, h.sat st⟩
theorem bj_next {S R : Type} {L : S → Cx1} {P : R → FR → Prop} {s : S} (h : RL (L s) Γ) : GJ Γ mSkip (.ok (.nx s)) (LpR L P) := fun ρ st => .ok ⟨.inl rfl, h.sat st⟩
theorem bj_err {R : Res Ω} {s : SM} : R = .err → GJ Γ s R P := fun e ρ s => by subst e; exact trivial
/-! what changes own things -/
def fApp (d x : PyData) : Res PyData := match d with | .list ds => if ds.length < lim then .ok (.list (ds ++ [x])) else .err | _ => .err
def fExt (d x : PyData) : Res PyData := match d, x with | .list ds, .list es => if ds.length + es.length ≤ lim then .ok (.list (ds ++ es)) else .err | _, _ => .err
def fPutL (d i x : PyData) : Res PyData := match d, i with | .list ds, .int i => (match ixN ds.length i with | some n => .ok (.list (ds.set n x)) | none => .err) | _, _ => .err
def pApp {α : Type} (d : PyData) (x : Res PyData) (k : PyData → Res α) : Res α := match d with | .list ds => x >>= fun v => if ds.length < lim then k (.list (ds ++ [v])) else .err | _ => .err
def pAppE {α : Type} (d : PyData) (x : Res (PyData × PyData)) (k : PyData → PyData → Res α) : Res α := match d with | .list ds => x >>= fun v => if ds.length < lim then k (.list (ds ++ [v.1])) v.2 else .err | _ => .err
def pExt {α : Type} (d : PyData) (x : Res PyData) (k : PyData → Res α) : Res α := match d with | .list ds => x >>= fun v => (match v with | .list es => if ds.length + es.length ≤ lim then k (.list (ds ++ es)) else .err | _ => .err) | _ => .err
def pPutL {α : Type} (d : PyData) (i x : Res PyData) (k : PyData → Res α) : Res α := x >>= fun v => i >>= fun u => fPutL d u v >>= k
theorem bj_app {d : PyData} {R : PyData → Res Ω} (hj : Γ[j]? = some (.is (.own d))) (hx : XP Γ m x) (k : ∀ d, GJ (Γ.set j (.is (.own d))) rest (R d) P) : GJ Γ (mSeq (mAppend j m) rest) (pApp d x R) P := fun ρ s => by
  unfold mSeq mAppend pApp
  rw [s.is hj]
  cases d with
  | list ds =>
    dsimp only
    rw [res_assoc]
    refine (hx ρ s).bind fun v a ⟨e, s1⟩ => ?_
    subst e
    rw [s1.is hj]
    dsimp only
    by_cases h : ds.length < lim
    · rw [if_pos h, if_pos h]
      simp only [ok_bind]
      exact k _ _ s1.setS
    · rw [if_neg h, if_neg h]; exact trivial
  | _ => exact trivial
theorem bj_appE {l : Nat} {d e : PyData} {xx : SX PyData} {R : PyData → PyData → Res Ω} (hj : Γ[j]? = some (.is (.own d))) (hl : Γ[l]? = some (.is (.own e))) (hne : l ≠ j) (hx : XE Γ l m xx) (k : ∀ d e, GJ ((Γ.set l (.is (.own e))).set j (.is (.own d))) rest (R d e) P) : GJ Γ (mSeq (mAppend j m) rest) (pAppE d (xx e) R) P := fun ρ s => by
  unfold mSeq mAppend pAppE
  rw [s.is hj]
  cases d with
  | list ds =>
    dsimp only
    rw [res_assoc]
    refine (xe_at hx hl s).bind fun v a ⟨e, s1⟩ => ?_
    rw [s1.is (by rw [List.getElem?_set_ne hne]; exact hj), e]
    dsimp only
    by_cases h : ds.length < lim
    · rw [if_pos h, if_pos h]
      simp only [ok_bind]
      exact k _ _ _ s1.setS
    · rw [if_neg h, if_neg h]; exact trivial
  | _ => exact trivial
theorem bj_ext {d : PyData} {R : PyData → Res Ω} (hj : Γ[j]? = some (.is (.own d))) (hx : XP Γ m x) (k : ∀ d, GJ (Γ.set j (.is (.own d))) rest (R d) P) : GJ Γ (mSeq (mExtend j m) rest) (pExt d x R) P := fun ρ s => by
  unfold mSeq mExtend pExt
  rw [s.is hj]
  cases d with
  | list ds =>
    dsimp only
    rw [res_assoc]
    refine (hx ρ s).bind fun v a ⟨e, s1⟩ => ?_
    subst e
    rw [s1.is hj]
    obtain ⟨a1, a2⟩ := a
    cases a1 with
    | list es =>
      dsimp only
      by_cases h : ds.length + es.length ≤ lim
      · rw [if_pos h, if_pos h]
        simp only [ok_bind]
        exact k _ _ s1.setS
      · rw [if_neg h, if_neg h]; exact trivial
    | _ => exact trivial
  | _ => exact trivial
theorem bj_putL {d : PyData} {R : PyData → Res Ω} (hj : Γ[j]? = some (.is (.own d))) (hx : XP Γ ma x) (hy : XP Γ mb y) (k : ∀ d, GJ (Γ.set j (.is (.own d))) rest (R d) P) : GJ Γ (mSeq (mPutL j mb ma) rest) (pPutL d y x R) P := fun ρ s => by
  unfold mSeq mPutL pPutL
  simp only [res_assoc]
  refine (hx ρ s).bind fun v a ⟨e, s1⟩ => (hy a.2 s1).bind fun w b ⟨e2, s2⟩ => ?_
  subst e e2
  rw [s2.is hj]
  unfold fPutL
  obtain ⟨b1, b2⟩ := b
  cases d with
  | list ds =>
    cases b1 with
    | int i =>
      dsimp only
      cases h : ixN ds.length i with
      | none => exact trivial
      | some n => simp only [ok_bind]; exact k _ _ s2.setS
    | _ => exact trivial
  | _ => exact trivial
/-! dicts with tuple keys -/
def fDGetT (d i : PyData) : Res PyData := match d, i with
  | .tuple [.dict kvs], .tuple ds => (match keyL ds with
    | some _ => (match dget kvs (.tuple ds) with | some g => .ok g | none => .err)
    | none => .err)
  | _, _ => .err
def fDPutT (d i v : PyData) : Res PyData := match d, i with
  | .tuple [.dict kvs], .tuple ds => (match keyL ds with
    | some _ => if kvs.length < lim then .ok (.tuple [.dict (dput kvs (.tuple ds) v)]) else .err
    | none => .err)
  | _, _ => .err
theorem xp_dgetT {d : PyData} (hj : Γ[j]? = some (.is (.own d))) (hx : XP Γ m x) : XP Γ (mDGetT j m) (x >>= fDGetT d) := fun ρ s => by
  unfold mDGetT
  rw [s.is hj]
  dsimp only
  refine (hx ρ s).bind fun v a ⟨e, s1⟩ => ?_
  subst e
  rw [s1.is hj]
  by_cases hh : ∃ kvs ds, d = .tuple [.dict kvs] ∧ a.1 = .tuple ds
  · obtain ⟨kvs, ds, rfl, e⟩ := hh
    rw [e]
    unfold fDGetT
    dsimp only
    cases h3 : keyL ds with
    | none => exact trivial
    | some _ =>
      dsimp only
      cases h4 : dget kvs (.tuple ds) with
      | none => exact trivial
      | some g => exact .ok ⟨rfl, s1⟩
  · have e : fDGetT d a.1 = .err := by
      unfold fDGetT
      split
      · rename_i e1; exact (hh ⟨_, _, rfl, e1⟩).elim
      · rfl
    rw [e]
    exact trivial
theorem bj_dputT {d : PyData} {R : PyData → Res Ω} (hj : Γ[j]? = some (.is (.own d))) (hx : XP Γ ma x) (hy : XP Γ mb y) (k : ∀ d, GJ (Γ.set j (.is (.own d))) rest (R d) P) : GJ Γ (mSeq (mDPutT j mb ma) rest) (x >>= fun v => y >>= fun u => fDPutT d u v >>= R) P := fun ρ s => by
  unfold mSeq mDPutT
  simp only [res_assoc]
  refine (hx ρ s).bind fun v a ⟨e, s1⟩ => ?_
  rw [s1.is hj]
  dsimp only
  rw [res_assoc]
  refine (hy a.2 s1).bind fun w b ⟨e2, s2⟩ => ?_
  subst e e2
  rw [s2.is hj]
  by_cases hh : ∃ kvs ds, d = .tuple [.dict kvs] ∧ b.1 = .tuple ds
  · obtain ⟨kvs, ds, rfl, e⟩ := hh
    rw [e]
    unfold fDPutT
    dsimp only
    cases h3 : keyL ds with
    | none => exact trivial
    | some _ =>
      dsimp only
      by_cases h4 : kvs.length < lim
      · rw [if_pos h4, if_pos h4]; exact k _ _ s2.setS
      · rw [if_neg h4, if_neg h4]; exact trivial
  · have e : fDPutT d b.1 a.1 = .err := by
      unfold fDPutT
      split
      · rename_i e1; exact (hh ⟨_, _, rfl, e1⟩).elim
      · rfl
    rw [e]
    exact trivial
theorem xp_dnewT : XP Γ mDNewT (.ok (.tuple [.dict []])) := fun ρ s => .ok ⟨rfl, s⟩
def pIndex (x y : Res PyData) : Res PyData := x >>= fun d => match d with | .list ds => y >>= fun e => sIndex ds e | _ => .err
theorem xp_index (hx : XP Γ ma x) (hy : XP Γ mb y) : XP Γ (mIndex ma mb) (pIndex x y) := fun ρ s =>
  (hx ρ s).bind fun v a ⟨e, s1⟩ => by
    subst e
    obtain ⟨a1, a2⟩ := a
    cases a1 with
    | list ds => exact (hy a2 s1).bind fun w b ⟨e2, s2⟩ => by subst e2; exact xp_fin' s2
    | _ => exact trivial
theorem bj_aug {d : PyData} {sem : PyData → PyData → Res PyData} {R : PyData → Res Ω} (hi : Γ[i]? = some (.is (.val d))) (hx : XP Γ m x) (k : ∀ v, GJ (Γ.set i (.is (.val v))) rest (R v) P) : GJ Γ (mSeq (mAug i sem m) rest) (pBin sem (.ok d) x >>= R) P := fun ρ s => by
  unfold mSeq mAug pBin
  rw [s.is hi]
  simp only [res_assoc, ok_bind]
  refine (hx ρ s).bind fun v a ⟨e, s1⟩ => ?_
  subst e
  exact (GY.same _).bind fun w b e => by subst e; exact k _ _ s1.setS
/-! for, while -/
theorem loop_GY {S R : Type} {L : S → Cx1} {Q : R → FR → Prop} {g : GM} {mbd : SM} {f : S → PyData → Res (Lp S R)} (hb : ∀ s d, GJ (L s) (fun ρ => g d ρ >>= mbd) (f s d) (LpR L Q)) : ∀ (ds : List PyData) (s : S) (ρ : Rho), Sat (L s) ρ →
    GY (forL g mbd ds ρ) (pLoop f ds s) fun l a => match l with | .nx s => a.1 = .nx ∧ Sat (L s) a.2 | .bk s => a.1 = .nx ∧ Sat (L s) a.2 | .rt r => Q r a ∧ ∃ s, a.1 = .rt s
  | [], s, ρ, st => .ok ⟨rfl, st⟩
  | d :: ds, s, ρ, st => by
    have e : forL g mbd (d :: ds) ρ = (g d ρ >>= mbd) >>= fun q => match q.1 with
      | .nx => forL g mbd ds q.2 | .ct => forL g mbd ds q.2 | .bk => .ok (.nx, q.2) | .rt s => .ok (.rt s, q.2) := by
      rw [res_assoc]; rfl
    rw [e]
    refine (hb s d ρ st).bind fun l q h => ?_
    obtain ⟨f1, ρ1⟩ := q
    cases l with
    | nx s1 =>
      obtain ⟨h1, h2⟩ := h
      rcases h1 with h1 | h1
      · cases h1; exact loop_GY hb ds s1 ρ1 h2
      · cases h1; exact loop_GY hb ds s1 ρ1 h2
    | bk s1 =>
      obtain ⟨h1, h2⟩ := h
      cases h1
      exact .ok ⟨rfl, h2⟩
    | rt r =>
      obtain ⟨h1, sl, h2⟩ := h
      cases h2
      exact .ok ⟨h1, sl, rfl⟩
theorem lpK_GY {S R : Type} {L : S → Cx1} {Q : R → FR → Prop} {k : S → Res Ω} {ret : R → Ω} (hk : ∀ s, GJ (L s) rest (k s) P) (hr : ∀ r a, Q r a → P (ret r) a) {l : Lp S R} {a : FR} (h : match l with | .nx s => a.1 = .nx ∧ Sat (L s) a.2 | .bk s => a.1 = .nx ∧ Sat (L s) a.2 | .rt r => Q r a ∧ ∃ s, a.1 = .rt s) :
    GY (match a.1 with | .nx => rest a.2 | f => .ok (f, a.2)) (lpK k ret l) P := by
  obtain ⟨f, ρ⟩ := a
  cases l with
  | nx s => obtain ⟨h1, h2⟩ := h; cases h1; exact hk s ρ h2
  | bk s => obtain ⟨h1, h2⟩ := h; cases h1; exact hk s ρ h2
  | rt r => obtain ⟨h1, sl, h2⟩ := h; cases h2; exact .ok (hr r _ h1)
theorem bj_for {S R : Type} {L : S → Cx1} {Q : R → FR → Prop} {mi : IM} {g : GM} {mbd : SM} {xs : Res (List PyData)} {s0 : S} {f : S → PyData → Res (Lp S R)} {k : S → Res Ω} {ret : R → Ω} (hi : XP Γ mi xs) (hL : RL (L s0) Γ) (hb : ∀ s d, GJ (L s) (fun ρ => g d ρ >>= mbd) (f s d) (LpR L Q))
    (hk : ∀ s, GJ (L s) rest (k s) P) (hr : ∀ r a, Q r a → P (ret r) a) : GJ Γ (mSeq (mFor mi g mbd) rest) (pFor xs s0 f k ret) P := fun ρ s => by
  show GY ((mi ρ >>= fun r => forL g mbd r.1 r.2) >>= fun r => _) _ _
  rw [res_assoc]
  refine (hi ρ s).bind fun v a ⟨e, s1⟩ => ?_
  subst e
  exact (loop_GY hb a.1 s0 a.2 (hL.sat s1)).bind fun l q h => lpK_GY hk hr h
def pForE {S R Ω : Type} (xs : Res (List PyData × PyData)) (s0 : PyData → S) (f : S → PyData → Res (Lp S R)) (k : S → Res Ω) (ret : R → Ω) : Res Ω := xs >>= fun l => pLoop f l.1 (s0 l.2) >>= lpK k ret
theorem bj_forE {S R : Type} {L : S → Cx1} {Q : R → FR → Prop} {mi : IM} {g : GM} {mbd : SM} {d : PyData} {xs : SX (List PyData)} {s0 : PyData → S} {f : S → PyData → Res (Lp S R)} {k : S → Res Ω} {ret : R → Ω} (hj : Γ[j]? = some (.is (.own d))) (hi : XE Γ j mi xs) (hL : ∀ d, RL (L (s0 d)) (Γ.set j (.is (.own d))))
    (hb : ∀ s d, GJ (L s) (fun ρ => g d ρ >>= mbd) (f s d) (LpR L Q)) (hk : ∀ s, GJ (L s) rest (k s) P) (hr : ∀ r a, Q r a → P (ret r) a) : GJ Γ (mSeq (mFor mi g mbd) rest) (pForE (xs d) s0 f k ret) P := fun ρ s => by
  show GY ((mi ρ >>= fun r => forL g mbd r.1 r.2) >>= fun r => _) _ _
  rw [res_assoc]
  refine (xe_at hi hj s).bind fun v a ⟨e, s1⟩ => ?_
  rw [e]
  exact (loop_GY hb v.1 (s0 v.2) a.2 ((hL v.2).sat s1)).bind fun l q h => lpK_GY hk hr h
theorem whl_GY {S R : Type} {L : S → Cx1} {Q : R → FR → Prop} {c : TM} {mbd : SM} {t : S → Res Bool} {f : S → Res (Lp S R)} (hc : ∀ s, XP (L s) c (t s)) (hb : ∀ s, GJ (L s) mbd (f s) (LpR L Q)) : ∀ (n : Nat) (s : S) (ρ : Rho), Sat (L s) ρ →
    GY (whL n c mbd ρ) (pWhL t f n s) fun l a => match l with | .nx s => a.1 = .nx ∧ Sat (L s) a.2 | .bk s => a.1 = .nx ∧ Sat (L s) a.2 | .rt r => Q r a ∧ ∃ s, a.1 = .rt s
  | 0, s, ρ, st => trivial
  | n + 1, s, ρ, st => by
    refine (hc s ρ st).bind fun v a ⟨e, s1⟩ => ?_
    subst e
    by_cases h : a.1 = true
    · rw [if_pos h, if_pos h]
      refine (hb s a.2 s1).bind fun l q h => ?_
      obtain ⟨f1, ρ1⟩ := q
      cases l with
      | nx s1 =>
        obtain ⟨h1, h2⟩ := h
        rcases h1 with h1 | h1
        · cases h1; exact whl_GY hc hb n s1 ρ1 h2
        · cases h1; exact whl_GY hc hb n s1 ρ1 h2
      | bk s1 =>
        obtain ⟨h1, h2⟩ := h
        cases h1
        exact .ok ⟨rfl, h2⟩
      | rt r =>
        obtain ⟨h1, sl, h2⟩ := h
        cases h2
        exact .ok ⟨h1, sl, rfl⟩
    · rw [if_neg h, if_neg h]
      exact .ok ⟨rfl, s1⟩
theorem bj_wh {S R : Type} {L : S → Cx1} {Q : R → FR → Prop} {n : Nat} {c : TM} {mbd : SM} {s0 : S} {t : S → Res Bool} {f : S → Res (Lp S R)} {k : S → Res Ω} {ret : R → Ω} (hL : RL (L s0) Γ) (hc : ∀ s, XP (L s) c (t s)) (hb : ∀ s, GJ (L s) mbd (f s) (LpR L Q))
    (hk : ∀ s, GJ (L s) rest (k s) P) (hr : ∀ r a, Q r a → P (ret r) a) : GJ Γ (mSeq (whL n c mbd) rest) (pWh n s0 t f k ret) P := fun ρ s =>
  (whl_GY hc hb n s0 ρ (hL.sat s)).bind fun l q h => lpK_GY hk hr h
end
/-! ### defs -/
def VR (v : PyData) (a : FR) : Prop := ∃ s, a.1 = .rt s ∧ slotV s = .ok v
def VQ (v : PyData) (a : FR) : Prop := (a.1 = .nx ∧ v = .none) ∨ VR v a
def OQ (v : PyData) (a : FR) : Prop := a.1 = .rt (.own v)
def WR (t : PyData × PyData) (a : FR) : Prop := VR t.1 a ∧ ∃ ρ, a.2 = some (.own t.2) :: ρ
def WQ (t : PyData × PyData) (a : FR) : Prop := VQ t.1 a ∧ ∃ ρ, a.2 = some (.own t.2) :: ρ
def stK (n : Nat) (as : List PyData) : Cx1 := as.map (fun a => .is (.val a)) ++ List.replicate (n - as.length) .nown
theorem stK_sat (n : Nat) (as : List PyData) : Sat (stK n as) (startR n (as.map .val)) := by
  refine ⟨by simp [stK, startR], fun j k e => ?_⟩
  unfold stK at e
  unfold startR
  by_cases h : j < as.length
  · rw [List.getElem?_append_left (by simpa using h), List.getElem?_map] at e
    rw [List.getElem?_append_left (by simpa using h), List.getElem?_map, List.getElem?_map]
    rw [List.getElem?_eq_getElem h] at e ⊢
    cases e
    rfl
  · rw [List.getElem?_append_right (by simpa using h), List.getElem?_replicate] at e
    rw [List.getElem?_append_right (by simpa using h), List.getElem?_replicate]
    split at e
    · rename_i h2
      cases e
      rw [if_pos (by simpa using h2)]
      rfl
    · cases e
theorem fn_val {n : Nat} {b : SM} {as : List PyData} {R : Res PyData} (h : GJ (stK n as) b R VQ) : Rf R (res (runF n b) as) := by
  rw [res_runF]
  have := (h _ (stK_sat n as)).bind (f := fun r => match r.1 with | .nx => Res.ok PyData.none | .rt s => slotV s | _ => .err) (F := Res.ok) (S := fun v a => a = v) fun v a q => by
    rcases q with ⟨q1, q2⟩ | ⟨s, q1, q2⟩
    · rw [q1, q2]; exact .ok rfl
    · rw [q1]; exact ⟨_, q2, rfl⟩
  rw [bind_ok'] at this
  exact this
theorem fn_own {n : Nat} {b : SM} {as : List PyData} {R : Res PyData} (h : GJ (stK n as) b R OQ) : Rf R (resO (runF n b) as) := by
  rw [resO_runF]
  have := (h _ (stK_sat n as)).bind (f := fun r => match r.1 with | .rt s => slotO s | _ => .err) (F := Res.ok) (S := fun v a => a = v) fun v a q => by
    have q : a.1 = _ := q
    rw [q]; exact .ok rfl
  rw [bind_ok'] at this
  exact this
theorem VQ.of_own {v : PyData} {a : FR} (h : OQ v a) (e : pPk v = .ok v) : VQ v a := .inr ⟨_, h, by cases v <;> first | rfl | cases e⟩
theorem fn_ownV {n : Nat} {b : SM} {as : List PyData} {R : Res PyData} (h : GJ (stK n as) b R OQ) : Rf (R >>= pPk) (res (runF n b) as) := by
  rw [res_runF]
  refine (h _ (stK_sat n as)).bind fun v a q => ?_
  have q : a.1 = _ := q
  rw [q]
  cases v <;> first | exact .ok rfl | exact trivial
def stW (n : Nat) (d : PyData) (as : List PyData) : Cx1 := .is (.own d) :: stK (n - 1) as
theorem fn_w {n : Nat} {b : SM} {d : PyData} {as : List PyData} {R : Res (PyData × PyData)} (h : GJ (stW (n + 1) d as) b R WQ) : Rf R (resW (runF (n + 1) b) d as) := by
  have s : Sat (stW (n + 1) d as) (startR (n + 1) (.own d :: as.map .val)) := by
    have := stK_sat n as
    have e : startR (n + 1) (.own d :: as.map .val) = some (.own d) :: startR n (as.map .val) := by
      unfold startR
      simp
    rw [e]
    refine ⟨by simp [stW, this.len], fun j k e => ?_⟩
    cases j with
    | zero => simp [stW] at e; subst e; rfl
    | succ j => exact this.at_ j k (by simpa [stW] using e)
  unfold resW runF
  rw [res_assoc]
  have := (h _ s).bind (f := fun r => (if ownKept (.own d :: as.map .val) r.2 = true then (match r.1 with | .nx => Res.ok (Slot.val .none, r.2) | .rt s => .ok (s, r.2) | _ => .err) else .err) >>= fun (q : Slot × Rho) => match (q.2 : Rho)[(0 : Nat)]? with
    | some (some (.own d')) => slotV q.1 >>= fun g => Res.ok (g, d')
    | _ => .err) (F := Res.ok) (S := fun v a => a = v) fun t a q => by
    obtain ⟨q, ρ, e⟩ := q
    obtain ⟨f, ρ'⟩ := a
    obtain ⟨v, d'⟩ := t
    cases e
    dsimp only at q ⊢
    rw [ownKept_own, if_pos rfl]
    rcases q with ⟨q1, q2⟩ | ⟨s, q1, q2⟩
    · cases q1; cases q2; exact .ok rfl
    · cases q1
      simp only [ok_bind]
      show GY (slotV s >>= fun g => Res.ok (g, d')) _ _
      rw [q2]
      exact .ok rfl
  rw [bind_ok'] at this
  exact this
theorem vr_rt {v : PyData} {a : FR} (h : VR v a) : ∃ s, a.1 = .rt s := let ⟨s, e, _⟩ := h; ⟨s, e⟩
theorem wr_rt {v : PyData × PyData} {a : FR} (h : WR v a) : ∃ s, a.1 = .rt s := vr_rt h.1
theorem oq_rt {v : PyData} {a : FR} (h : OQ v a) : ∃ s, a.1 = .rt s := ⟨_, h⟩
theorem vr_val (v : PyData) (ρ : Rho) : VR v (.rt (.val v), ρ) := ⟨_, rfl, rfl⟩
theorem vq_val (v : PyData) (ρ : Rho) : VQ v (.rt (.val v), ρ) := .inr ⟨_, rfl, rfl⟩
theorem vq_nx (ρ : Rho) : VQ .none (.nx, ρ) := .inl ⟨rfl, rfl⟩
theorem vq_r {v : PyData} {a : FR} (h : VR v a) : VQ v a := .inr h
theorem wq_r {t : PyData × PyData} {a : FR} (h : WR t a) : WQ t a := ⟨.inr h.1, h.2⟩
theorem sat_head {Γ : Cx1} {ρ : Rho} {d : PyData} (s : Sat Γ ρ) (h : Γ[0]? = some (.is (.own d))) : ∃ ρ', ρ = some (.own d) :: ρ' := by
  have := s.is h
  cases ρ with
  | nil => simp at this
  | cons x r => simp at this; exact ⟨r, by rw [this]⟩
theorem vr_valL (v : PyData) (ρ : Rho) : VR v (.rt (.val v), ρ) ∧ ∃ s, ((.rt (.val v), ρ) : FR).1 = .rt s := ⟨vr_val v ρ, _, rfl⟩
theorem vq_own {ds : List PyData} (ρ : Rho) : VQ (.list ds) (.rt (.own (.list ds)), ρ) := .inr ⟨_, rfl, rfl⟩
theorem vr_ownL {ds : List PyData} (ρ : Rho) : VR (.list ds) (.rt (.own (.list ds)), ρ) ∧ ∃ s, ((.rt (.own (.list ds)), ρ) : FR).1 = .rt s := ⟨⟨_, rfl, rfl⟩, _, rfl⟩
theorem wr_val {Γ : Cx1} {ρ : Rho} {v d : PyData} (s : Sat Γ ρ) (h : Γ[0]? = some (.is (.own d))) : WR (v, d) (.rt (.val v), ρ) := ⟨vr_val v ρ, sat_head s h⟩
theorem wq_val {Γ : Cx1} {ρ : Rho} {v d : PyData} (s : Sat Γ ρ) (h : Γ[0]? = some (.is (.own d))) : WQ (v, d) (.rt (.val v), ρ) := ⟨vq_val v ρ, sat_head s h⟩
theorem wr_valL {Γ : Cx1} {ρ : Rho} {v d : PyData} (s : Sat Γ ρ) (h : Γ[0]? = some (.is (.own d))) : WR (v, d) (.rt (.val v), ρ) ∧ ∃ s, ((.rt (.val v), ρ) : FR).1 = .rt s := ⟨wr_val s h, _, rfl⟩
theorem wq_own {Γ : Cx1} {ρ : Rho} {ds : List PyData} {d : PyData} (s : Sat Γ ρ) (h : Γ[0]? = some (.is (.own d))) : WQ (.list ds, d) (.rt (.own (.list ds)), ρ) := ⟨vq_own ρ, sat_head s h⟩
theorem wr_ownL {Γ : Cx1} {ρ : Rho} {ds : List PyData} {d : PyData} (s : Sat Γ ρ) (h : Γ[0]? = some (.is (.own d))) : WR (.list ds, d) (.rt (.own (.list ds)), ρ) ∧ ∃ s, ((.rt (.own (.list ds)), ρ) : FR).1 = .rt s := ⟨⟨(vr_ownL ρ).1, sat_head s h⟩, _, rfl⟩
theorem wq_nx {Γ : Cx1} {ρ : Rho} {d : PyData} (s : Sat Γ ρ) (h : Γ[0]? = some (.is (.own d))) : WQ (.none, d) (.nx, ρ) := ⟨vq_nx ρ, sat_head s h⟩
end ZZ

/-! Y4: lambdas, suites, without slots -/
namespace ZZ
open PySem PySem.Spec PyProof.Rows L2 Ob
def hideK : Kn → Kn
  | .is (.own _) => .nown
  | k => k
theorem Sat.hide {Γ : Cx1} {ρ : Rho} (h : Sat Γ ρ) : Sat (Γ.map hideK) (hideR ρ) := by
  refine ⟨by simp [hideR, h.len], fun j k e => ?_⟩
  rw [List.getElem?_map] at e
  rcases e1 : Γ[j]? with _ | k0
  · rw [e1] at e; cases e
  · rw [e1] at e
    cases e
    have h0 := h.at_ j k0 e1
    unfold hideR
    rw [List.getElem?_map]
    cases k0 with
    | any => trivial
    | nown =>
      have h0 : notOwn ρ[j]? = true := h0
      show notOwn _ = true
      rcases e2 : ρ[j]? with _ | o
      · rfl
      · rw [e2] at h0
        rcases o with _ | t
        · rfl
        · cases t with
          | own d => cases h0
          | _ => rfl
    | is s =>
      have h0 : ρ[j]? = some (some s) := h0
      rw [h0]
      cases s with
      | own d => rfl
      | val d => rfl
      | raw d => rfl
def pLam (CL : List Str) (s0 : Str) (hd : Str → Res PyData) (x : Res PyData) : Res PyData := match x with
  | .ok _ => .ok (.str s0)
  | .exc c _ => if c ∈ CL then hd c else .err
  | .err => .err
theorem xp_lam {Γ : Cx1} {j : Nat} {P : Addr} {q s0 : Str} {CL : List Str} {hd : Str → Res PyData} {mb : EM} {x : Res PyData} (ht : Γ[j]? = some (.is (.own (.tuple [.str q, .int (P : Int)])))) (hb : XP (Γ.map hideK) mb x) : XP Γ (mLam j P q CL s0 hd mb) (pLam CL s0 hd x) := fun ρ s => by
  have e : tabAt ρ j P q = true := by
    unfold tabAt
    rw [s.is ht]
    simp
  have h := hb _ s.hide
  unfold mLam
  rw [if_pos e]
  cases x with
  | err => exact trivial
  | ok d =>
    obtain ⟨a, e1, _⟩ := h
    rw [e1]
    exact .ok ⟨rfl, s⟩
  | exc c as =>
    have h : mb (hideR ρ) = .exc c as := h
    rw [h]
    show GY (if c ∈ CL then hd c >>= fun d => Res.ok (d, ρ) else .err) (if c ∈ CL then hd c else .err) _
    by_cases hc : c ∈ CL
    · rw [if_pos hc, if_pos hc]
      cases hd c with
      | ok d => exact .ok ⟨rfl, s⟩
      | exc c2 as2 => exact rfl
      | err => exact trivial
    · rw [if_neg hc, if_neg hc]
      exact trivial
theorem xp_isE {Γ : Cx1} {j : Nat} {a : Addr} {b : Bool} (ht : Γ[j]? = some (.is (.raw (.ref a)))) : XP Γ (mIsE j a b) (.ok (.bool b)) := fun ρ s => by
  unfold mIsE
  rw [s.is ht]
  dsimp only
  rw [if_pos rfl]
  exact .ok ⟨rfl, s⟩
/-- the suite's answer -/
theorem hd_res {N : List Str} {j : Nat} {a : Addr} {m : SM} {x : Res PyData} {g : PyData} {w : V} (hj : j < N.length) (h : GJ ((List.replicate N.length Kn.nown).set j (.is (.raw (.ref a)))) m x VQ) (e : x = .ok g) (ha : atomV g = some w) (hn : g ≠ .none) :
    ∃ g w ρ', m ((List.replicate N.length none).set j (some (.raw (.ref a)))) = .ok (.rt (.val g), ρ') ∧ x = .ok g ∧ atomV g = some w := by
  have s : Sat ((List.replicate N.length Kn.nown).set j (.is (.raw (.ref a)))) ((List.replicate N.length none).set j (some (.raw (.ref a)))) := by
    refine Sat.setS ⟨by simp, fun i k e => ?_⟩
    rw [List.getElem?_replicate] at e
    split at e
    · cases e
      show notOwn _ = true
      rename_i hi
      rw [List.getElem?_replicate, if_pos hi]
      rfl
    · cases e
  have := h _ s
  subst e
  obtain ⟨⟨fl, ρ'⟩, e1, e2⟩ := this
  rcases e2 with ⟨_, e2⟩ | ⟨sl, e2, e3⟩
  · exact (hn e2).elim
  · have e2 : fl = .rt sl := e2
    subst e2
    cases sl with
    | val d =>
      cases e3
      exact ⟨_, w, ρ', e1, rfl, ha⟩
    | own d =>
      cases d <;> cases e3
      cases ha
    | raw d => cases e3
/-- a law that makes lambdas -/
def stT (n j : Nat) (P : Addr) (q : Str) (d : PyData) : Cx1 := (stK n [d]).set j (.is (.own (.tuple [.str q, .int (P : Int)])))
theorem law_yT {n j : Nat} {P : Addr} {q : Str} {m : SM} {ns : List Int} {x : Res PyData} (h : GJ (stT n j P q (.list (ns.map .int))) m x VQ) (e : x = .ok (.bool true)) : ∃ ρ', m (startT n j P q ns) = .ok (.rt (.val (.bool true)), ρ') := by
  have s : Sat (stT n j P q (.list (ns.map .int))) (startT n j P q ns) := (stK_sat n [.list (ns.map .int)]).setS
  have := h _ s
  subst e
  obtain ⟨⟨fl, ρ'⟩, e1, e2⟩ := this
  rcases e2 with ⟨_, e2⟩ | ⟨sl, e2, e3⟩
  · cases e2
  · have e2 : fl = .rt sl := e2
    subst e2
    cases sl with
    | val d =>
      cases e3
      exact ⟨ρ', e1⟩
    | own d => cases d <;> cases e3
    | raw d => cases e3
/-! defs in a variable -/
theorem xp_callV {Γ : Cx1} {j : Nat} {f : Addr} {fm : FM} {m : AM} {l : Res (List PyData)} {pf : List PyData → Res PyData} (ht : Γ[j]? = some (.is (.raw (.ref f)))) (hf : ∀ as, Rf (pf as) (res fm as)) (hm : XP Γ m l) : XP Γ (mCallV j f fm m) (l >>= pf) := fun ρ s => by
  have e : mCallV j f fm m ρ = mCall fm m ρ := by
    unfold mCallV
    rw [s.is ht]
    dsimp only
    rw [if_pos rfl]
  rw [e]
  exact xp_call hf hm ρ s
/-- neither break nor continue comes out -/
def NoBC (m : SM) : Prop := ∀ ρ fl ρ', m ρ = .ok (fl, ρ') → fl = .nx ∨ ∃ s, fl = .rt s
theorem nb_skip : NoBC mSkip := fun ρ fl ρ' e => by cases e; exact .inl rfl
theorem nb_ret {m : EM} : NoBC (mRet m) := fun ρ fl ρ' e => by
  unfold mRet at e
  rcases h : m ρ with r | _ | _
  · rw [h] at e; cases e; exact .inr ⟨_, rfl⟩
  · rw [h] at e; cases e
  · rw [h] at e; cases e
theorem nb_if {c : TM} {a b : SM} (ha : NoBC a) (hb : NoBC b) : NoBC (mIfS c a b) := fun ρ fl ρ' e => by
  unfold mIfS at e
  rcases h : c ρ with r | _ | _
  · rw [h, ok_bind] at e
    obtain ⟨t, ρ1⟩ := r
    cases t with
    | true => exact ha _ _ _ e
    | false => exact hb _ _ _ e
  · rw [h] at e; cases e
  · rw [h] at e; cases e
theorem bj_fv0 {Ω : Type} {Γ : Cx1} {j : Nat} {rest : SM} {R : Res Ω} {P : Ω → FR → Prop} (h : GJ Γ rest R P) : GJ Γ (mSeq (forV j []) rest) R P := fun ρ s => h ρ s
theorem bj_fv {Ω : Type} {Γ : Cx1} {j : Nat} {a : Addr} {mb rest : SM} {qs : List (Addr × SM)} {R : Res Ω} {P : Ω → FR → Prop} (nb : NoBC mb) (h : GJ (Γ.set j (.is (.raw (.ref a)))) (mSeq mb (mSeq (forV j qs) rest)) R P) : GJ Γ (mSeq (forV j ((a, mb) :: qs)) rest) R P := fun ρ s => by
  have h := h _ (s.setS (j := j) (s := .raw (.ref a)))
  have e : mSeq (forV j ((a, mb) :: qs)) rest ρ = mSeq mb (mSeq (forV j qs) rest) (ρ.set j (some (.raw (.ref a)))) := by
    unfold mSeq
    show ((mb (ρ.set j (some (.raw (.ref a)))) >>= fun w => match w.1 with
      | .nx => forV j qs w.2 | .ct => forV j qs w.2 | .bk => .ok (.nx, w.2) | .rt s => .ok (.rt s, w.2)) >>= fun r => _) = _
    rcases e : mb (ρ.set j (some (.raw (.ref a)))) with w | _ | _
    · obtain ⟨fl, ρ'⟩ := w
      rcases nb _ _ _ e with z | ⟨s, z⟩
      · subst z
        rfl
      · subst z
        rfl
    · rfl
    · rfl
  rw [e]
  exact h
end ZZ

/-! Y5: own dicts with keys of ints and texts, without slots -/
namespace ZZ
open PySem PySem.Spec PyProof.Rows L2 Ob
def fDGetK (d k : PyData) : Res PyData := match d with
  | .dict kvs => (match keyV k, dget kvs k with
    | some _, some g => .ok g
    | _, _ => .err)
  | _ => .err
def fDPutK (d k v : PyData) : Res PyData := match d with
  | .dict kvs => (match keyV k with
    | some _ => if kvs.length < lim then .ok (.dict (dput kvs k v)) else .err
    | none => .err)
  | _ => .err
def fDInK (neg : Bool) (d k : PyData) : Res PyData := match d with
  | .dict kvs => (match keyV k with
    | some _ => .ok (.bool ((dget kvs k).isSome != neg))
    | none => .err)
  | _ => .err
def fDUpdK (d v : PyData) : Res PyData := match d, v with
  | .dict kvs, .dict ls => if kvs.length + ls.length ≤ lim then .ok (.dict (mergeD kvs ls)) else .err
  | _, _ => .err
def pUpdK {α : Type} (d : PyData) (x : Res PyData) (k : PyData → Res α) : Res α := match d with
  | .dict kvs => x >>= fun v => fDUpdK (.dict kvs) v >>= k
  | _ => .err
section
variable {Γ : Cx1} {Ω : Type} {P : Ω → FR → Prop} {rest : SM} {m ma mb : EM} {x y : Res PyData} {j : Nat}
theorem xp_dgetK {d : PyData} (hj : Γ[j]? = some (.is (.own d))) (hx : XP Γ m x) : XP Γ (mDGetK j m) (x >>= fDGetK d) := fun ρ s => by
  unfold mDGetK
  rw [s.is hj]
  dsimp only
  refine (hx ρ s).bind fun v a ⟨e, s1⟩ => ?_
  subst e
  rw [s1.is hj]
  cases d with
  | dict kvs =>
    unfold fDGetK
    dsimp only
    rcases keyV a.1 with _ | k
    · exact trivial
    · rcases dget kvs a.1 with _ | g
      · exact trivial
      · exact .ok ⟨rfl, s1⟩
  | _ => exact trivial
theorem xp_dinK {d : PyData} {neg : Bool} (hj : Γ[j]? = some (.is (.own d))) (hx : XP Γ m x) : XP Γ (mDInK neg m j) (x >>= fDInK neg d) := fun ρ s => by
  unfold mDInK
  refine (hx ρ s).bind fun v a ⟨e, s1⟩ => ?_
  subst e
  rw [s1.is hj]
  cases d with
  | dict kvs =>
    unfold fDInK
    dsimp only
    rcases keyV a.1 with _ | k
    · exact trivial
    · exact .ok ⟨rfl, s1⟩
  | _ => exact trivial
theorem bj_dputK {d : PyData} {R : PyData → Res Ω} (hj : Γ[j]? = some (.is (.own d))) (hx : XP Γ ma x) (hy : XP Γ mb y) (k : ∀ d, GJ (Γ.set j (.is (.own d))) rest (R d) P) : GJ Γ (mSeq (mDPutK j mb ma) rest) (x >>= fun v => y >>= fun u => fDPutK d u v >>= R) P := fun ρ s => by
  unfold mSeq mDPutK
  simp only [res_assoc]
  refine (hx ρ s).bind fun v a ⟨e, s1⟩ => ?_
  rw [s1.is hj]
  dsimp only
  rw [res_assoc]
  refine (hy a.2 s1).bind fun w b ⟨e2, s2⟩ => ?_
  subst e e2
  rw [s2.is hj]
  cases d with
  | dict kvs =>
    unfold fDPutK
    dsimp only
    rcases keyV b.1 with _ | q
    · exact trivial
    · dsimp only
      by_cases h4 : kvs.length < lim
      · rw [if_pos h4, if_pos h4]; exact k _ _ s2.setS
      · rw [if_neg h4, if_neg h4]; exact trivial
  | _ => exact trivial
theorem bj_updK {d : PyData} {R : PyData → Res Ω} (hj : Γ[j]? = some (.is (.own d))) (hx : XP Γ m x) (k : ∀ d, GJ (Γ.set j (.is (.own d))) rest (R d) P) : GJ Γ (mSeq (mUpdK j m) rest) (pUpdK d x R) P := fun ρ s => by
  cases d with
  | dict kvs =>
    unfold mSeq mUpdK
    rw [s.is hj]
    dsimp only
    rw [res_assoc]
    refine (hx ρ s).bind fun v a ⟨e, s1⟩ => ?_
    subst e
    rw [s1.is hj]
    rcases a with ⟨a1, a2⟩
    cases a1 with
    | dict ls =>
      unfold fDUpdK
      dsimp only
      by_cases h4 : kvs.length + ls.length ≤ lim
      · rw [if_pos h4, if_pos h4]; exact k _ _ s1.setS
      · rw [if_neg h4, if_neg h4]; exact trivial
    | _ => exact trivial
  | _ => exact trivial
end
/-! dict comprehensions -/
def dcM (f : PyData → Res (Option PyData)) : List PyData → List (PyData × PyData) → Res (List (PyData × PyData))
  | [], acc => .ok acc
  | d :: ds, acc => noX (f d) >>= fun o => match o with
    | none => dcM f ds acc
    | some (.tuple [k, v]) => (match keyV k with
      | some _ => dcM f ds (dput acc k v)
      | none => .err)
    | _ => .err
def pDc (xs : Res (List PyData)) (f : PyData → Res (Option PyData)) : Res PyData := xs >>= fun l => dcM f l [] >>= fun r => .ok (.dict r)
def dcP (x y : Res PyData) : Res PyData := x >>= fun a => y >>= fun b => .ok (.tuple [a, b])
def turnD (g : GM) (tt : TM) (tk te : EM) (d : PyData) : Rho → Res (Option PyData × Rho) := fun ρ => g d ρ >>= fun ρ1 => tt ρ1 >>= fun b => if b.1 = true then tk b.2 >>= fun y => te y.2 >>= fun z => .ok (some (.tuple [y.1, z.1]), z.2) else .ok (none, b.2)
theorem dcL_turn (vs : List Nat) (g : GM) (tt : TM) (tk te : EM) (d : PyData) (ds : List PyData) (acc : List (PyData × PyData)) (ρ : Rho) : dcL vs g tt tk te (d :: ds) acc ρ = noX (turnD g tt tk te d (wipeR ρ vs)) >>= fun o => match o.1 with
    | none => dcL vs g tt tk te ds acc (restR ρ o.2 vs)
    | some (.tuple [k, v]) => (match keyV k with
      | some _ => dcL vs g tt tk te ds (dput acc k v) (restR ρ o.2 vs)
      | none => .err)
    | _ => .err := by
  conv => lhs; unfold dcL
  unfold turnD
  rcases g d (wipeR ρ vs) with ρ1 | _ | _
  · show (noX (tt ρ1) >>= _) = (noX (tt ρ1 >>= _) >>= _)
    rcases tt ρ1 with b | _ | _
    · obtain ⟨t, ρ2⟩ := b
      cases t with
      | true =>
        show (noX (tk ρ2) >>= _) = (noX (tk ρ2 >>= _) >>= _)
        rcases tk ρ2 with y | _ | _
        · obtain ⟨y1, ρ3⟩ := y
          show (noX (te ρ3) >>= _) = (noX (te ρ3 >>= _) >>= _)
          rcases te ρ3 with z | _ | _ <;> rfl
        · rfl
        · rfl
      | false => rfl
    · rfl
    · rfl
  · rfl
  · rfl
section
variable {Γ : Cx1} {mi : IM} {vs : List Nat} {g : GM} {tt : TM} {tk te : EM} {xs : Res (List PyData)} {f : PyData → Res (Option PyData)}
theorem dcL_GY (ht : ∀ d, GJ (wipeK Γ vs) (turnD g tt tk te d) (f d) fun o a => a.1 = o ∧ Sat (anyK Γ vs) a.2) : ∀ (ds : List PyData) (acc : List (PyData × PyData)) (ρ : Rho), Sat Γ ρ →
    GY (dcL vs g tt tk te ds acc ρ) (dcM f ds acc) fun l a => a.1 = l ∧ Sat Γ a.2
  | [], acc, ρ, s => .ok ⟨rfl, s⟩
  | d :: ds, acc, ρ, s => by
    rw [dcL_turn]
    refine (ht d _ (wipe_sat s vs)).noX.bind fun o a ⟨e, s1⟩ => ?_
    subst e
    have s2 := rest_sat s s1 rfl fun _ _ => rfl
    split
    · exact dcL_GY ht ds acc _ s2
    · rename_i k v _
      rcases keyV k with _ | q
      · exact trivial
      · exact dcL_GY ht ds (dput acc k v) _ s2
    · exact trivial
theorem xp_dc (hi : XP Γ mi xs) (hn : NoOwn Γ vs) (ht : ∀ d, GJ (wipeK Γ vs) (turnD g tt tk te d) (f d) fun o a => a.1 = o ∧ Sat (anyK Γ vs) a.2) : XP Γ (mDc mi vs g tt tk te) (pDc xs f) := fun ρ s =>
  (hi ρ s).bind fun l a ⟨e, s1⟩ => by
    subst e
    rw [if_pos (hn.all s1)]
    exact (dcL_GY ht a.1 [] a.2 s1).bind fun r b ⟨e, s2⟩ => .ok ⟨by rw [e], s2⟩
theorem gt_eltD {Γ' : Cx1} {x y : Res PyData} (hx : XP Γ tk x) (hy : XP Γ te y) (hr : RL Γ' Γ) : GJ Γ (fun ρ => tmYes ρ >>= fun b => if b.1 = true then tk b.2 >>= fun y => te y.2 >>= fun z => Res.ok (some (PyData.tuple [y.1, z.1]), z.2) else .ok (none, b.2)) (lcY (dcP x y)) fun o a => a.1 = o ∧ Sat Γ' a.2 := fun ρ s => by
  show GY (if true = true then tk ρ >>= fun y => te y.2 >>= fun z => Res.ok (some (PyData.tuple [y.1, z.1]), z.2) else .ok (none, ρ)) _ _
  rw [if_pos rfl]
  show GY _ ((x >>= fun a => y >>= fun b => Res.ok (PyData.tuple [a, b])) >>= fun y => Res.ok (some y)) _
  rw [res_assoc]
  refine (hx ρ s).bind fun v a ⟨e, s1⟩ => ?_
  subst e
  rw [res_assoc]
  exact (hy a.2 s1).bind fun w b ⟨e, s2⟩ => by subst e; exact .ok ⟨rfl, hr.sat s2⟩
end
theorem xp_dnewK {Γ : Cx1} : XP Γ mDNewK (.ok (.dict [])) := fun ρ s => .ok ⟨rfl, s⟩
/-! an own list handed on; own list + list -/
def pGive {α : Type} (d : PyData) (k : PyData → Res α) : Res α := match d with
  | .list ds => k (.list ds)
  | _ => .err
def fAddOwn (d v : PyData) : Res PyData := match d, v with
  | .list ds, .list es => if ds.length + es.length ≤ lim then .ok (.list (ds ++ es)) else .err
  | _, _ => .err
section
variable {Γ : Cx1} {Ω : Type} {P : Ω → FR → Prop} {rest : SM} {m : EM} {x : Res PyData} {i j : Nat}
theorem bj_give {d : PyData} {R : PyData → Res Ω} (hj : Γ[j]? = some (.is (.own d))) (k : ∀ d, GJ ((Γ.set j (.is (.val d))).set i (.is (.val d))) rest (R d) P) : GJ Γ (mSeq (mGive i j) rest) (pGive d R) P := fun ρ s => by
  unfold mSeq mGive
  rw [s.is hj]
  cases d with
  | list ds => exact k _ _ (s.setS.setS)
  | _ => exact trivial
theorem xp_addOwn {d : PyData} (hj : Γ[j]? = some (.is (.own d))) (hx : XP Γ m x) : XP Γ (mAddOwn j m) (x >>= fAddOwn d) := fun ρ s => by
  unfold mAddOwn
  rw [s.is hj]
  dsimp only
  refine (hx ρ s).bind fun v a ⟨e, s1⟩ => ?_
  subst e
  rw [s1.is hj]
  cases d with
  | list ds =>
    rcases a with ⟨a1, a2⟩
    cases a1 with
    | list es =>
      unfold fAddOwn
      dsimp only
      by_cases h4 : ds.length + es.length ≤ lim
      · rw [if_pos h4, if_pos h4]; exact .ok ⟨rfl, s1⟩
      · rw [if_neg h4, if_neg h4]; exact trivial
    | _ => exact trivial
  | _ => exact trivial
/-- an own list at an index that changes another own thing -/
def fIxOwn (d i : PyData) : Res PyData := pIxOwn d (.ok i)
theorem xe_ixOwn {mb : EM} {y : SX PyData} {d : PyData} (hne : j ≠ i) (h : Γ[i]? = some (.is (.own d))) (hb : XE Γ j mb y) : XE Γ j (mIxOwn i mb) (eUn (fIxOwn d) y) := fun d' ρ s => by
  have h' : ∀ e, (Γ.set j (.is (.own e)))[i]? = some (.is (.own d)) := fun e => by rw [List.getElem?_set_ne hne]; exact h
  unfold mIxOwn
  rw [s.is (h' _)]
  dsimp only
  refine (hb d' ρ s).bind fun v a ⟨e, s1⟩ => ?_
  rw [s1.is (h' _), ← e]
  unfold fIxOwn pIxOwn
  cases d with
  | list ds => exact xe_fin (γ := Unit) s1
  | _ => exact trivial
end
end ZZ

set_option maxHeartbeats 8000000
namespace ZZ
open PySem PySem.Spec PyProof.Rows L2 Ob
def cl_k07 : List Str := ["NoWeb", "NoLot", "NoPlaces", "NoParting"]
def xl_k07 : List Str := ["NoParting", "NoPlaces", "NoWeb"]
def isx_k07 (c x : Str) : Bool := decide (x = "ValueError") || decide (c = x)
def py_hk07_law_name_j2 (c : Str) (x_names : PyData) : Res (PyData) := (pIf (pTru (.ok (.bool (isx_k07 c "NoWeb")))) (pApp x_names (.ok (.str "NoWeb")) fun x_names => (pIf (pAndT (pTest (pBin sEq (pUn sLen (pPk x_names)) (.ok (.int 1)))) (pTru (.ok (.bool (isx_k07 c "ValueError"))))) (pIxOwn x_names (.ok (.int 0))) (.ok (.str "strange")))) (pIf (pAndT (pTest (pBin sEq (pUn sLen (pPk x_names)) (.ok (.int 1)))) (pTru (.ok (.bool (isx_k07 c "ValueError"))))) (pIxOwn x_names (.ok (.int 0))) (.ok (.str "strange"))))
def py_hk07_law_name_j1 (c : Str) (x_names : PyData) : Res (PyData) := (pIf (pTru (.ok (.bool (isx_k07 c "NoPlaces")))) (pApp x_names (.ok (.str "NoPlaces")) fun x_names => (py_hk07_law_name_j2 c x_names)) (py_hk07_law_name_j2 c x_names))
def hd_k07_law_name (c : Str) : Res PyData := ((pLst pNil) >>= fun x_names => (pIf (pTru (.ok (.bool (isx_k07 c "NoParting")))) (pApp x_names (.ok (.str "NoParting")) fun x_names => (py_hk07_law_name_j1 c x_names)) (py_hk07_law_name_j1 c x_names)))
end ZZ

namespace ZZ
open PySem PySem.Spec PyProof.Rows L2 Ob
def bd_is_int : SM := mRet (mAnd (mUn (sIsT "int") (mPk 0)) (mNot (mUn (sIsT "bool") (mPk 0))))
def fm_is_int : FM := runF 1 bd_is_int
def bd_is_within : SM := mRet (mAnd (mCall fm_is_int (mCons (mVar 0) (mNil))) (mChain sLe sLe (mVar 1) (mVar 0) (mVar 2)))
def fm_is_within : FM := runF 3 bd_is_within
def bd_is_sized : SM := mRet (mAnd (mUn (sIsT "tuple") (mPk 0)) (mChain sLe sLe (mVar 1) (mUn sLen (mPk 0)) (mVar 2)))
def fm_is_sized : FM := runF 3 bd_is_sized
def bd_is_rising : SM := mRet (mUn sAll (mLc (iZip (mVar 0) (mSl (mVar 0) (oIt (mCon (.int 1))) (oNo))) [1, 2] (gmTup (gmCons (gmName 1) (gmCons (gmName 2) (gmNil)))) (tmYes) (mBin sLt (mVar 1) (mVar 2))))
def fm_is_rising : FM := runF 3 bd_is_rising
def bd_is_lot : SM := mSeq (mIfS (tmOr (tmNot (mTru (mUn (sIsT "tuple") (mPk 0)))) (tmNot (mTru (mUn sAll (mLc (iTpl (mVar 0)) [2] (gmName 2) (tmYes) (mCall fm_is_within (mCons (mVar 2) (mCons (mCon (.int 0)) (mCons (mBin sSub (mVar 1) (mCon (.int 1))) (mNil)))))))))) (mRet (mCon (.bool false))) (mSkip)) (mRet (mCall fm_is_rising (mCons (mVar 0) (mNil))))
def fm_is_lot : FM := runF 3 bd_is_lot
def bd_is_pair_of : SM := mSeq (mIfS (tmOr (tmNot (mTru (mCall fm_is_sized (mCons (mVar 1) (mCons (mCon (.int 2)) (mCons (mCon (.int 2)) (mNil))))))) (tmOr (tmNot (mTru (mCall fm_is_within (mCons (mBin sIx (mVar 1) (mCon (.int 0))) (mCons (mCon (.int 0)) (mCons (mBin sSub (mVar 0) (mCon (.int 1))) (mNil))))))) (tmNot (mTru (mCall fm_is_within (mCons (mBin sIx (mVar 1) (mCon (.int 1))) (mCons (mCon (.int 0)) (mCons (mBin sSub (mVar 0) (mCon (.int 1))) (mNil))))))))) (mRet (mCon (.bool false))) (mSkip)) (mRet (mBin sLt (mBin sIx (mVar 1) (mCon (.int 0))) (mBin sIx (mVar 1) (mCon (.int 1)))))
def fm_is_pair_of : FM := runF 2 bd_is_pair_of
def bd_is_web : SM := mSeq (mIfS (tmOr (tmNot (mTru (mCall fm_is_sized (mCons (mVar 0) (mCons (mCon (.int 2)) (mCons (mCon (.int 2)) (mNil))))))) (tmOr (tmNot (mTru (mCall fm_is_within (mCons (mBin sIx (mVar 0) (mCon (.int 0))) (mCons (mCon (.int 1)) (mCons (mCon (.int 12)) (mNil))))))) (tmNot (mTru (mCall fm_is_sized (mCons (mBin sIx (mVar 0) (mCon (.int 1))) (mCons (mCon (.int 0)) (mCons (mCon (.int 40)) (mNil))))))))) (mRet (mCon (.bool false))) (mSkip)) (mRet (mUn sAll (mLc (iTpl (mBin sIx (mVar 0) (mCon (.int 1)))) [1] (gmName 1) (tmYes) (mCall fm_is_pair_of (mCons (mBin sIx (mVar 0) (mCon (.int 0))) (mCons (mVar 1) (mNil)))))))
def fm_is_web : FM := runF 2 bd_is_web
def bd_check_web : SM := mIfS (tmNot (mTru (mCall fm_is_web (mCons (mVar 0) (mNil))))) (mRaise "NoWeb") (mSkip)
def fm_check_web : FM := runF 1 bd_check_web
def bd_raw_is_lot : SM := mRet (mCall fm_is_lot (mCons (mVar 1) (mCons (mUn sLen (mBin sIx (mVar 0) (mCon (.int 1)))) (mNil))))
def fm_raw_is_lot : FM := runF 2 bd_raw_is_lot
def bd_check_lot : SM := mSeq (mExpr (mCall fm_check_web (mCons (mVar 0) (mNil)))) (mIfS (tmNot (mTru (mCall fm_raw_is_lot (mCons (mVar 0) (mCons (mVar 1) (mNil)))))) (mRaise "NoLot") (mSkip))
def fm_check_lot : FM := runF 2 bd_check_lot
def bd_raw_heads : SM := mSeq (mSet 2 (mRg (iR1 (mBin sIx (mVar 0) (mCon (.int 0)))))) (mSeq (mFor (iTpl (mVar 1)) (gmName 3) (mSeq (mAsg (gmTup (gmCons (gmName 4) (gmCons (gmName 5) (gmNil)))) (mTup (mCons (mBin sIx (mVar 2) (mBin sIx (mBin sIx (mBin sIx (mVar 0) (mCon (.int 1))) (mVar 3)) (mCon (.int 0)))) (mCons (mBin sIx (mVar 2) (mBin sIx (mBin sIx (mBin sIx (mVar 0) (mCon (.int 1))) (mVar 3)) (mCon (.int 1)))) (mNil))))) (mIfS (mTest (mBin sNe (mVar 4) (mVar 5))) (mSet 2 (mLc (iLst (mVar 2)) [6] (gmName 6) (tmYes) (mIf (mTest (mBin sIn (mVar 6) (mTup (mCons (mVar 4) (mCons (mVar 5) (mNil)))))) (mBin sMin2 (mVar 4) (mVar 5)) (mVar 6)))) (mSkip)))) (mRet (mVar 2)))
def fm_raw_heads : FM := runF 7 bd_raw_heads
def bd_raw_parts : SM := mSeq (mSet 2 (mCall fm_raw_heads (mCons (mVar 0) (mCons (mVar 1) (mNil))))) (mRet (mUn sTuple (mLc (iLst (mUn sSorSet (mPk 2))) [3] (gmName 3) (tmYes) (mUn sTuple (mLc (iR1 (mBin sIx (mVar 0) (mCon (.int 0)))) [4] (gmName 4) (mTest (mBin sEq (mBin sIx (mVar 2) (mVar 4)) (mVar 3))) (mVar 4))))))
def fm_raw_parts : FM := runF 5 bd_raw_parts
def bd_parts_by : SM := mSeq (mExpr (mCall fm_check_lot (mCons (mVar 0) (mCons (mVar 1) (mNil))))) (mRet (mCall fm_raw_parts (mCons (mVar 0) (mCons (mVar 1) (mNil)))))
def fm_parts_by : FM := runF 2 bd_parts_by
def bd_raw_inside : SM := mRet (mUn sTuple (mLc (iEnT (mBin sIx (mVar 0) (mCon (.int 1)))) [2, 3, 4] (gmTup (gmCons (gmName 2) (gmCons (gmTup (gmCons (gmName 3) (gmCons (gmName 4) (gmNil)))) (gmNil)))) (tmAnd (mTest (mBin sIn (mVar 3) (mVar 1))) (mTest (mBin sIn (mVar 4) (mVar 1)))) (mVar 2)))
def fm_raw_inside : FM := runF 5 bd_raw_inside
def bd_inside : SM := mSeq (mExpr (mCall fm_check_web (mCons (mVar 0) (mNil)))) (mSeq (mIfS (tmNot (mTru (mCall fm_is_lot (mCons (mVar 1) (mCons (mBin sIx (mVar 0) (mCon (.int 0))) (mNil)))))) (mRaise "NoPlaces") (mSkip)) (mRet (mCall fm_raw_inside (mCons (mVar 0) (mCons (mVar 1) (mNil))))))
def fm_inside : FM := runF 2 bd_inside
def bd_raw_is_parting : SM := mSeq (mIfS (tmOr (tmNot (mTru (mUn (sIsT "tuple") (mPk 1)))) (tmNot (mTru (mUn sAll (mLc (iTpl (mVar 1)) [3] (gmName 3) (tmYes) (mAnd (mCall fm_is_lot (mCons (mVar 3) (mCons (mBin sIx (mVar 0) (mCon (.int 0))) (mNil)))) (mBin sGt (mUn sLen (mPk 3)) (mCon (.int 0))))))))) (mRet (mCon (.bool false))) (mSkip)) (mSeq (mSetO 2 (mLst (mNil))) (mSeq (mFor (iTpl (mVar 1)) (gmName 3) (mExtend 2 (mUn sList (mPk 3)))) (mRet (mAnd (mBin sEq (mUn sSorted (mPk 2)) (mRg (iR1 (mBin sIx (mVar 0) (mCon (.int 0)))))) (mBin sEq (mUn sList (mPk 1)) (mUn sSorted (mPk 1)))))))
def fm_raw_is_parting : FM := runF 4 bd_raw_is_parting
def bd_is_parting : SM := mSeq (mExpr (mCall fm_check_web (mCons (mVar 0) (mNil)))) (mRet (mCall fm_raw_is_parting (mCons (mVar 0) (mCons (mVar 1) (mNil)))))
def fm_is_parting : FM := runF 2 bd_is_parting
def bd_raw_between : SM := mSeq (mSetO 2 (mDNewK)) (mSeq (mFor (iEnT (mVar 1)) (gmTup (gmCons (gmName 3) (gmCons (gmName 4) (gmNil)))) (mUpdK 2 (mDc (iTpl (mVar 4)) [5] (gmName 5) (tmYes) (mVar 5) (mVar 3)))) (mRet (mUn sTuple (mLc (iEnT (mBin sIx (mVar 0) (mCon (.int 1)))) [6, 7, 8] (gmTup (gmCons (gmName 6) (gmCons (gmTup (gmCons (gmName 7) (gmCons (gmName 8) (gmNil)))) (gmNil)))) (mTest (mBin sNe (mDGetK 2 (mVar 7)) (mDGetK 2 (mVar 8)))) (mVar 6)))))
def fm_raw_between : FM := runF 9 bd_raw_between
def bd_between : SM := mSeq (mExpr (mCall fm_check_web (mCons (mVar 0) (mNil)))) (mSeq (mIfS (tmNot (mTru (mCall fm_raw_is_parting (mCons (mVar 0) (mCons (mVar 1) (mNil)))))) (mRaise "NoParting") (mSkip)) (mRet (mCall fm_raw_between (mCons (mVar 0) (mCons (mVar 1) (mNil))))))
def fm_between : FM := runF 2 bd_between
def bd__law_draws : SM := mSeq (mSetO 2 (mLst (mNil))) (mSeq (mSet 3 (mIf (mTru (mPk 0)) (mBin sIx (mVar 0) (mCon (.int 0))) (mCon (.int 0)))) (mSeq (mIfS (mTest (mBin sLt (mVar 3) (mCon (.int 0)))) (mSet 3 (mUn sNeg (mPk 3))) (mSkip)) (mSeq (mIfS (mTest (mBin sGe (mVar 3) (mCon (.int 1000000000000000000)))) (mFor (iR1 (mVar 1)) (gmName 4) (mIfS (mTest (mBin sGt (mVar 3) (mCon (.int 0)))) (mSeq (mAppend 2 (mBin sMod (mUn sInt (mPk 3)) (mCon (.int 1009)))) (mSet 3 (mBin sFDiv (mVar 3) (mCon (.int 1009))))) (mSkip))) (mSkip)) (mSeq (mSet 5 (mCon (.int 825))) (mSeq (mFor (iR1 (mBin sSub (mVar 1) (mUn sLen (mPk 2)))) (gmName 4) (mSeq (mSet 6 (mVar 4)) (mSeq (mIfS (mTru (mPk 0)) (mSet 6 (mBin sMod (mUn sInt (mBin sIx (mVar 0) (mBin sMod (mBin sAdd (mVar 4) (mCon (.int 1))) (mUn sLen (mPk 0))))) (mCon (.int 2147483647)))) (mSkip)) (mSeq (mSet 5 (mBin sMod (mUn sInt (mBin sAdd (mBin sAdd (mBin sAdd (mBin sMul (mVar 5) (mCon (.int 48271))) (mVar 6)) (mBin sMul (mVar 4) (mCon (.int 69621)))) (mCon (.int 13)))) (mCon (.int 2147483647)))) (mAppend 2 (mBin sMod (mBin sFDiv (mBin sMod (mUn sInt (mBin sAdd (mBin sMul (mVar 5) (mCon (.int 16807))) (mCon (.int 54321)))) (mCon (.int 2147483647))) (mCon (.int 7))) (mCon (.int 1009)))))))) (mRetOwn 2))))))
def fm__law_draws : FM := runF 7 bd__law_draws
def bd__law_take : SM := mSeq (mIfS (tmNot (mTru (mPk 0))) (mRet (mCon (.int 0))) (mSkip)) (mRet (mBin sMod (mUn sInt (mPop 0)) (mVar 1)))
def fm__law_take : FM := runF 2 bd__law_take
def bd__law_web : SM := mSeq (mSet 4 (mBin sAdd (mVar 1) (mCallOwn fm__law_take 0 (mCons (mBin sAdd (mBin sSub (mVar 2) (mVar 1)) (mCon (.int 1))) (mNil))))) (mSeq (mSetO 5 (mLst (mNil))) (mSeq (mFor (iR1 (mIf (mTest (mBin sGt (mVar 4) (mCon (.int 1)))) (mCallOwn fm__law_take 0 (mCons (mBin sAdd (mVar 3) (mCon (.int 1))) (mNil))) (mCon (.int 0)))) (gmName 6) (mSeq (mPar 7 8 (mCons (mCallOwn fm__law_take 0 (mCons (mVar 4) (mNil))) (mCons (mCallOwn fm__law_take 0 (mCons (mBin sSub (mVar 4) (mCon (.int 1))) (mNil))) (mNil)))) (mSeq (mSet 8 (mIf (mTest (mBin sGe (mVar 8) (mVar 7))) (mBin sAdd (mVar 8) (mCon (.int 1))) (mVar 8))) (mAppend 5 (mTup (mCons (mBin sMin2 (mVar 7) (mVar 8)) (mCons (mBin sMax2 (mVar 7) (mVar 8)) (mNil)))))))) (mRet (mTup (mCons (mVar 4) (mCons (mUn sTuple (mPk 5)) (mNil)))))))
def fm__law_web : FM := runF 9 bd__law_web
def bd__law_partings : SM := mSeq (mSet 1 (mLst (mCons (mTup (mNil)) (mNil)))) (mSeq (mFor (iLst (mVar 0)) (gmName 2) (mSeq (mSetO 3 (mLst (mNil))) (mSeq (mFor (iLst (mVar 1)) (gmName 4) (mSeq (mAppend 3 (mBin sAdd (mVar 4) (mTup (mCons (mTup (mCons (mVar 2) (mNil))) (mNil))))) (mFor (iR1 (mUn sLen (mPk 4))) (gmName 5) (mAppend 3 (mBin sAdd (mBin sAdd (mSl (mVar 4) (oNo) (oIt (mVar 5))) (mTup (mCons (mBin sAdd (mBin sIx (mVar 4) (mVar 5)) (mTup (mCons (mVar 2) (mNil)))) (mNil)))) (mSl (mVar 4) (oIt (mBin sAdd (mVar 5) (mCon (.int 1)))) (oNo))))))) (mGive 1 3)))) (mRet (mUn sSorted (mPk 1))))
def fm__law_partings : FM := runF 6 bd__law_partings
def bd__law_between : SM := mSeq (mSetO 2 (mDNewK)) (mSeq (mFor (iR1 (mUn sLen (mPk 1))) (gmName 3) (mFor (iTpl (mBin sIx (mVar 1) (mVar 3))) (gmName 4) (mDPutK 2 (mVar 4) (mVar 3)))) (mSeq (mSet 5 (mLc (iR1 (mUn sLen (mBin sIx (mVar 0) (mCon (.int 1))))) [6] (gmName 6) (tmAnd (mTest (mDInK false (mBin sIx (mBin sIx (mBin sIx (mVar 0) (mCon (.int 1))) (mVar 6)) (mCon (.int 0))) 2)) (mTest (mDInK false (mBin sIx (mBin sIx (mBin sIx (mVar 0) (mCon (.int 1))) (mVar 6)) (mCon (.int 1))) 2))) (mVar 6))) (mRet (mUn sTuple (mLc (iLst (mVar 5)) [6] (gmName 6) (mTest (mBin sNe (mDGetK 2 (mBin sIx (mBin sIx (mBin sIx (mVar 0) (mCon (.int 1))) (mVar 6)) (mCon (.int 0)))) (mDGetK 2 (mBin sIx (mBin sIx (mBin sIx (mVar 0) (mCon (.int 1))) (mVar 6)) (mCon (.int 1)))))) (mVar 6))))))
def fm__law_between : FM := runF 7 bd__law_between
def bd__law_inside : SM := mRet (mUn sTuple (mLc (iR1 (mUn sLen (mBin sIx (mVar 0) (mCon (.int 1))))) [2] (gmName 2) (tmAnd (mTest (mBin sIn (mBin sIx (mBin sIx (mBin sIx (mVar 0) (mCon (.int 1))) (mVar 2)) (mCon (.int 0))) (mVar 1))) (mTest (mBin sIn (mBin sIx (mBin sIx (mBin sIx (mVar 0) (mCon (.int 1))) (mVar 2)) (mCon (.int 1))) (mVar 1)))) (mVar 2)))
def fm__law_inside : FM := runF 3 bd__law_inside
def ms__law_name (a : Addr) (c : Str) : SM := mSeq (mSetO 2 (mLst (mNil))) (mSeq (mIfS (mTru (mIsE 1 a (isx_k07 c "NoParting"))) (mAppend 2 (mCon (.str "NoParting"))) (mSkip)) (mSeq (mIfS (mTru (mIsE 1 a (isx_k07 c "NoPlaces"))) (mAppend 2 (mCon (.str "NoPlaces"))) (mSkip)) (mSeq (mIfS (mTru (mIsE 1 a (isx_k07 c "NoWeb"))) (mAppend 2 (mCon (.str "NoWeb"))) (mSkip)) (mRet (mIf (tmAnd (mTest (mBin sEq (mUn sLen (mPk 2)) (mCon (.int 1)))) (mTru (mIsE 1 a (isx_k07 c "ValueError")))) (mIxOwn 2 (mCon (.int 0))) (mCon (.str "strange")))))))
def bd__law_near : SM := mSeq (mSet 3 (mBin sIx (mVar 1) (mCon (.int 0)))) (mSeq (mSetO 4 (mLst (mCons (mCon .none) (mCons (mTup (mNil)) (mCons (mUn sList (mPk 2)) (mCons (mBin sAdd (mVar 2) (mTup (mCons (mTup (mNil)) (mNil)))) (mCons (mBin sAdd (mVar 2) (mTup (mCons (mTup (mCons (mVar 3) (mNil))) (mNil)))) (mCons (mBin sAdd (mVar 2) (mTup (mCons (mTup (mCons (mCon (.int 0)) (mNil))) (mNil)))) (mCons (mSl (mVar 2) (oIt (mCon (.int 1))) (oNo)) (mCons (mBin sRepT (mTup (mCons (mRgT (iR1 (mVar 3))) (mNil))) (mCon (.int 2))) (mNil))))))))))) (mSeq (mSetO 4 (mAddOwn 4 (mLst (mCons (mUn sTuple (mLc (iTpl (mVar 2)) [5] (gmName 5) (tmYes) (mUn sList (mPk 5)))) (mCons (mBin sAdd (mTup (mCons (mTup (mCons (mCon (.int 0)) (mCons (mCon (.int 0)) (mNil)))) (mNil))) (mSl (mVar 2) (oIt (mCon (.int 1))) (oNo))) (mCons (mTup (mCons (mBin sAdd (mUn sRevT (mRgT (iR1 (mVar 3)))) (mTup (mCons (mCon (.int 0)) (mNil)))) (mNil))) (mCons (mBin sAdd (mTup (mCons (mTup (mCons (mCon (.bool true)) (mNil))) (mNil))) (mVar 2)) (mNil)))))))) (mSeq (mIfS (mTest (mBin sGt (mUn sLen (mPk 2)) (mCon (.int 1)))) (mAppend 4 (mUn sRevT (mVar 2))) (mSkip)) (mRet (mIxOwn 4 (mCallOwn fm__law_take 0 (mCons (mUn sLen (mPk 4)) (mNil))))))))
def fm__law_near : FM := runF 6 bd__law_near
def bd_law (tP : Addr) : SM := mSeq (mSetO 1 (mCallO fm__law_draws (mCons (mVar 0) (mCons (mCon (.int 200)) (mNil))))) (mSeq (mSet 2 (mCallOwn fm__law_web 1 (mCons (mCon (.int 1)) (mCons (mCon (.int 6)) (mCons (mCon (.int 9)) (mNil)))))) (mSeq (mSet 3 (mCall fm__law_partings (mCons (mRg (iR1 (mBin sIx (mVar 2) (mCon (.int 0))))) (mNil)))) (mSeq (mFor (iR1 (mCon (.int 4))) (gmName 4) (mSeq (mSet 5 (mUn sTuple (mUn sSorted (mBin sIx (mVar 3) (mCallOwn fm__law_take 1 (mCons (mUn sLen (mPk 3)) (mNil))))))) (mSeq (mSet 6 (mUn sTuple (mLc (iR1 (mBin sIx (mVar 2) (mCon (.int 0)))) [10] (gmName 10) (mTest (mBin sEq (mCallOwn fm__law_take 1 (mCons (mCon (.int 2)) (mNil))) (mCon (.int 0)))) (mVar 10)))) (mSeq (mIfS (tmOr (mTest (mBin sNotB (mCall fm_is_parting (mCons (mVar 2) (mCons (mVar 5) (mNil)))) (mCon (.bool true)))) (mTest (mBin sNe (mCall fm_between (mCons (mVar 2) (mCons (mVar 5) (mNil)))) (mCall fm__law_between (mCons (mVar 2) (mCons (mVar 5) (mNil))))))) (mRet (mCon (.bool false))) (mSkip)) (mSeq (mIfS (mTest (mBin sNe (mCall fm_inside (mCons (mVar 2) (mCons (mVar 6) (mNil)))) (mCall fm__law_inside (mCons (mVar 2) (mCons (mVar 6) (mNil)))))) (mRet (mCon (.bool false))) (mSkip)) (mSeq (mSetO 7 (mUn sList (mCall fm_between (mCons (mVar 2) (mCons (mVar 5) (mNil)))))) (mSeq (mFor (iTpl (mVar 5)) (gmName 8) (mExtend 7 (mUn sList (mCall fm_inside (mCons (mVar 2) (mCons (mVar 8) (mNil))))))) (mSeq (mIfS (mTest (mBin sNe (mUn sSorted (mPk 7)) (mRg (iR1 (mUn sLen (mBin sIx (mVar 2) (mCon (.int 1)))))))) (mRet (mCon (.bool false))) (mSkip)) (mSeq (mSet 9 (mCallOwn fm__law_near 1 (mCons (mVar 2) (mCons (mVar 5) (mNil))))) (mIfS (tmOr (mTest (mBin sNotB (mCall fm_is_parting (mCons (mVar 2) (mCons (mVar 9) (mNil)))) (mCon (.bool false)))) (mTest (mBin sNe (mLam 11 tP "law.<locals>.<lambda>" cl_k07 "none" hd_k07_law_name (mCall fm_between (mCons (mVar 2) (mCons (mVar 9) (mNil))))) (mCon (.str "NoParting"))))) (mRet (mCon (.bool false))) (mSkip))))))))))) (mSeq (mIfS (mTest (mBin sNe (mCall fm_between (mCons (mVar 2) (mCons (mCall fm_parts_by (mCons (mVar 2) (mCons (mRgT (iR1 (mUn sLen (mBin sIx (mVar 2) (mCon (.int 1)))))) (mNil)))) (mNil)))) (mTup (mNil)))) (mRet (mCon (.bool false))) (mSkip)) (mSeq (mFor (iTpl (mTup (mCons (mTup (mCons (mBin sIx (mVar 2) (mCon (.int 0))) (mNil))) (mCons (mTup (mCons (mCon (.int 0)) (mCons (mCon (.int 0)) (mNil)))) (mCons (mLst (mCons (mCon (.int 0)) (mNil))) (mCons (mCon .none) (mCons (mTup (mCons (mUn sNeg (mCon (.int 1))) (mNil))) (mCons (mTup (mCons (mCon (.bool true)) (mNil))) (mNil))))))))) (gmName 9) (mIfS (mTest (mBin sNe (mLam 11 tP "law.<locals>.<lambda>" cl_k07 "none" hd_k07_law_name (mCall fm_inside (mCons (mVar 2) (mCons (mVar 9) (mNil))))) (mCon (.str "NoPlaces")))) (mRet (mCon (.bool false))) (mSkip))) (mRet (mCon (.bool true))))))))
end ZZ

namespace ZZ
open PySem PySem.Spec PyProof.Rows L2 Ob
def topS (i : Nat) : Stmt := PySem.Challenge.pw_treesapartways_k07_whole_ties_inside_and.main.body.getD i (.Pass ⟨0, 0, 0, 0⟩)
section
variable {P : Program} {w : World} {K : PySem.W.Frag} {mg : Str → Option Value} {base : Heap}
abbrev s_is_int : Stmt := topS 7
theorem sc_is_int : FnScope ["thing"] ["thing"] (defScope s_is_int) := ⟨rfl, rfl, rfl, by decide +kernel, rfl, by decide +kernel, by decide +kernel⟩
theorem ok_is_int {f : Addr} {fd : FuncData} (F : Fun K "is_int" "is_int" s_is_int f fd) (m_isinstance : mg "isinstance" = none) (m_int : mg "int" = none) (m_bool : mg "bool" = none) :
    FnOk P w K mg base (L2.CX P w) 1 f fd ["thing"] (SpZ K mg 1 [] fm_is_int) :=
  fn_okZ (k := 0) (N := ["thing"]) (prot := []) F sc_is_int fun cdv A outer s H E hr =>
    ((dss_one (ds_ret (de_and (de_isT (T := "int") (by decide +kernel) (fun _ => rfl) m_isinstance (fun _ => rfl) m_int (by decide +kernel) (db_var (j := 0) (fun _ => rfl) (fun _ => .inl rfl))) (de_one (de_not (DE.db (de_isT (T := "bool") (by decide +kernel) (fun _ => rfl) m_isinstance (fun _ => rfl) m_bool (by decide +kernel) (db_var (j := 0) (fun _ => rfl) (fun _ => .inl rfl))))))))))
abbrev s_is_within : Stmt := topS 8
theorem sc_is_within : FnScope ["thing", "low", "high"] ["thing", "low", "high"] (defScope s_is_within) := ⟨rfl, rfl, rfl, by decide +kernel, rfl, by decide +kernel, by decide +kernel⟩
theorem ok_is_within {f : Addr} {fd : FuncData} (F : Fun K "is_within" "is_within" s_is_within f fd) {f_is_int : Addr} {d_is_int : FuncData} (E_is_int : FnE K mg "is_int" s_is_int ["thing"] f_is_int d_is_int) (G_is_int : FnOk P w K mg base (L2.CX P w) 1 f_is_int d_is_int ["thing"] (SpZ K mg 1 [] fm_is_int)) :
    FnOk P w K mg base (L2.CX P w) 2 f fd ["thing", "low", "high"] (SpZ K mg 3 [] fm_is_within) :=
  fn_okZ (k := 1) (N := ["thing", "low", "high"]) (prot := []) F sc_is_within fun cdv A outer s H E hr =>
    ((dss_one (ds_ret (de_and (de_call G_is_int (Nat.le_of_ble_eq_true rfl) (fun _ => rfl) E_is_int.g E_is_int.F.kp E_is_int.b rfl (da_cons (de_var (j := 0) (fun _ => rfl) (fun _ => .inl rfl)) da_nil)) (de_one (de_leLe (de_var (j := 1) (fun _ => rfl) (fun _ => .inl rfl)) (de_var (j := 0) (fun _ => rfl) (fun _ => .inl rfl)) (de_var (j := 2) (fun _ => rfl) (fun _ => .inl rfl)) rfl))))))
abbrev s_is_sized : Stmt := topS 9
theorem sc_is_sized : FnScope ["thing", "least", "most"] ["thing", "least", "most"] (defScope s_is_sized) := ⟨rfl, rfl, rfl, by decide +kernel, rfl, by decide +kernel, by decide +kernel⟩
theorem ok_is_sized {f : Addr} {fd : FuncData} (F : Fun K "is_sized" "is_sized" s_is_sized f fd) (m_isinstance : mg "isinstance" = none) (m_tuple : mg "tuple" = none) (m_len : mg "len" = none) :
    FnOk P w K mg base (L2.CX P w) 1 f fd ["thing", "least", "most"] (SpZ K mg 3 [] fm_is_sized) :=
  fn_okZ (k := 0) (N := ["thing", "least", "most"]) (prot := []) F sc_is_sized fun cdv A outer s H E hr =>
    ((dss_one (ds_ret (de_and (de_isT (T := "tuple") (by decide +kernel) (fun _ => rfl) m_isinstance (fun _ => rfl) m_tuple (by decide +kernel) (db_var (j := 0) (fun _ => rfl) (fun _ => .inl rfl))) (de_one (de_leLe (de_var (j := 1) (fun _ => rfl) (fun _ => .inl rfl)) (de_len (fun _ => rfl) m_len (db_var (j := 0) (fun _ => rfl) (fun _ => .inl rfl))) (de_var (j := 2) (fun _ => rfl) (fun _ => .inl rfl)) rfl))))))
abbrev s_is_rising : Stmt := topS 10
theorem sc_is_rising : FnScope ["some", "one", "other"] ["some"] (defScope s_is_rising) := ⟨rfl, rfl, rfl, by decide +kernel, rfl, by decide +kernel, by decide +kernel⟩
theorem ok_is_rising {f : Addr} {fd : FuncData} (F : Fun K "is_rising" "is_rising" s_is_rising f fd) (m_zip : mg "zip" = none) (m_all : mg "all" = none) :
    FnOk P w K mg base (L2.CX P w) 1 f fd ["some"] (SpZ K mg 1 [] fm_is_rising) :=
  fn_okZ (k := 0) (N := ["some", "one", "other"]) (prot := []) F sc_is_rising fun cdv A outer s H E hr =>
    ((dss_one (ds_ret (de_all (fun _ => rfl) m_all (DE.db (de_lc (own := [(("one" : Str), 1), (("other" : Str), 2)]) (di_zip (fun _ => rfl) m_zip (de_var (j := 0) (fun _ => rfl) (fun _ => .inl rfl)) (de_sl (de_var (j := 0) (fun _ => rfl) (fun _ => .inl rfl)) (dp_some de_int) dp_none)) (dg_tup (dgs_cons (dg_name (j := 1) (fun _ => rfl) (fun _ => .inl rfl) (fun _ => .inr rfl)) (dgs_cons (dg_name (j := 2) (fun _ => rfl) (fun _ => .inl rfl) (fun _ => .inr rfl)) dgs_nil)) 2 (gm_lenS (gm_lenS gm_len0))) dts_nil (de_lt (de_var (j := 1) (fun _ => rfl) (fun _ => .inl rfl)) (de_var (j := 2) (fun _ => rfl) (fun _ => .inl rfl))) (fun _ => blk_ok rfl) (pil rfl)))))))
abbrev s_is_lot : Stmt := topS 11
theorem sc_is_lot : FnScope ["thing", "many", "one"] ["thing", "many"] (defScope s_is_lot) := ⟨rfl, rfl, rfl, by decide +kernel, rfl, by decide +kernel, by decide +kernel⟩
theorem ok_is_lot {f : Addr} {fd : FuncData} (F : Fun K "is_lot" "is_lot" s_is_lot f fd) (m_isinstance : mg "isinstance" = none) (m_tuple : mg "tuple" = none) (m_all : mg "all" = none) {f_is_rising : Addr} {d_is_rising : FuncData} (E_is_rising : FnE K mg "is_rising" s_is_rising ["some"] f_is_rising d_is_rising) (G_is_rising : FnOk P w K mg base (L2.CX P w) 1 f_is_rising d_is_rising ["some"] (SpZ K mg 1 [] fm_is_rising)) {f_is_within : Addr} {d_is_within : FuncData} (E_is_within : FnE K mg "is_within" s_is_within ["thing", "low", "high"] f_is_within d_is_within) (G_is_within : FnOk P w K mg base (L2.CX P w) 2 f_is_within d_is_within ["thing", "low", "high"] (SpZ K mg 3 [] fm_is_within)) :
    FnOk P w K mg base (L2.CX P w) 3 f fd ["thing", "many"] (SpZ K mg 2 [] fm_is_lot) :=
  fn_okZ (k := 2) (N := ["thing", "many", "one"]) (prot := []) F sc_is_lot fun cdv A outer s H E hr =>
    ((dss_cons (ds_if (DW.dt (dw_or (dt_not (dt_truth (DE.db (de_isT (T := "tuple") (by decide +kernel) (fun _ => rfl) m_isinstance (fun _ => rfl) m_tuple (by decide +kernel) (db_var (j := 0) (fun _ => rfl) (fun _ => .inl rfl)))) (fun _ _ => rfl))) (dw_or1 (dt_not (dt_truth (DE.db (de_all (fun _ => rfl) m_all (DE.db (de_lc (own := [(("one" : Str), 2)]) (di_tup (de_var (j := 0) (fun _ => rfl) (fun _ => .inl rfl))) (dg_name (j := 2) (fun _ => rfl) (fun _ => .inl rfl) (fun _ => .inr rfl)) dts_nil (de_call G_is_within (Nat.le_of_ble_eq_true rfl) (fun _ => rfl) E_is_within.g E_is_within.F.kp E_is_within.b rfl (da_cons (de_var (j := 2) (fun _ => rfl) (fun _ => .inl rfl)) (da_cons de_int (da_cons (de_sub (de_var (j := 1) (fun _ => rfl) (fun _ => .inr (.inl rfl))) de_int) da_nil)))) (fun _ => blk_ok rfl) (pil rfl))))) (fun _ _ => rfl)))))) (dss_one (ds_ret de_bl)) dss_nil)
    (dss_one (ds_ret (de_call G_is_rising (Nat.le_of_ble_eq_true rfl) (fun _ => rfl) E_is_rising.g E_is_rising.F.kp E_is_rising.b rfl (da_cons (de_var (j := 0) (fun _ => rfl) (fun _ => .inl rfl)) da_nil))))))
abbrev s_is_pair_of : Stmt := topS 15
theorem sc_is_pair_of : FnScope ["many", "thing"] ["many", "thing"] (defScope s_is_pair_of) := ⟨rfl, rfl, rfl, by decide +kernel, rfl, by decide +kernel, by decide +kernel⟩
theorem ok_is_pair_of {f : Addr} {fd : FuncData} (F : Fun K "is_pair_of" "is_pair_of" s_is_pair_of f fd) {f_is_sized : Addr} {d_is_sized : FuncData} (E_is_sized : FnE K mg "is_sized" s_is_sized ["thing", "least", "most"] f_is_sized d_is_sized) (G_is_sized : FnOk P w K mg base (L2.CX P w) 1 f_is_sized d_is_sized ["thing", "least", "most"] (SpZ K mg 3 [] fm_is_sized)) {f_is_within : Addr} {d_is_within : FuncData} (E_is_within : FnE K mg "is_within" s_is_within ["thing", "low", "high"] f_is_within d_is_within) (G_is_within : FnOk P w K mg base (L2.CX P w) 2 f_is_within d_is_within ["thing", "low", "high"] (SpZ K mg 3 [] fm_is_within)) :
    FnOk P w K mg base (L2.CX P w) 3 f fd ["many", "thing"] (SpZ K mg 2 [] fm_is_pair_of) :=
  fn_okZ (k := 2) (N := ["many", "thing"]) (prot := []) F sc_is_pair_of fun cdv A outer s H E hr =>
    ((dss_cons (ds_if (DW.dt (dw_or (dt_not (dt_truth (DE.db (de_call G_is_sized (Nat.le_of_ble_eq_true rfl) (fun _ => rfl) E_is_sized.g E_is_sized.F.kp E_is_sized.b rfl (da_cons (de_var (j := 1) (fun _ => rfl) (fun _ => .inl rfl)) (da_cons de_int (da_cons de_int da_nil))))) (fun _ _ => rfl))) (dw_or (dt_not (dt_truth (DE.db (de_call G_is_within (Nat.le_of_ble_eq_true rfl) (fun _ => rfl) E_is_within.g E_is_within.F.kp E_is_within.b rfl (da_cons (de_ix (de_var (j := 1) (fun _ => rfl) (fun _ => .inl rfl)) de_int (fun _ _ => rfl)) (da_cons de_int (da_cons (de_sub (de_var (j := 0) (fun _ => rfl) (fun _ => .inl rfl)) de_int) da_nil))))) (fun _ _ => rfl))) (dw_or1 (dt_not (dt_truth (DE.db (de_call G_is_within (Nat.le_of_ble_eq_true rfl) (fun _ => rfl) E_is_within.g E_is_within.F.kp E_is_within.b rfl (da_cons (de_ix (de_var (j := 1) (fun _ => rfl) (fun _ => .inl rfl)) de_int (fun _ _ => rfl)) (da_cons de_int (da_cons (de_sub (de_var (j := 0) (fun _ => rfl) (fun _ => .inl rfl)) de_int) da_nil))))) (fun _ _ => rfl))))))) (dss_one (ds_ret de_bl)) dss_nil)
    (dss_one (ds_ret (de_lt (de_ix (de_var (j := 1) (fun _ => rfl) (fun _ => .inl rfl)) de_int (fun _ _ => rfl)) (de_ix (de_var (j := 1) (fun _ => rfl) (fun _ => .inl rfl)) de_int (fun _ _ => rfl)))))))
abbrev s_is_web : Stmt := topS 16
theorem sc_is_web : FnScope ["thing", "one"] ["thing"] (defScope s_is_web) := ⟨rfl, rfl, rfl, by decide +kernel, rfl, by decide +kernel, by decide +kernel⟩
theorem ok_is_web {f : Addr} {fd : FuncData} (F : Fun K "is_web" "is_web" s_is_web f fd) (m_all : mg "all" = none) {t_MOST_PLACES : Tok} (c_MOST_PLACES : mg "MOST_PLACES" = some (.int 12 t_MOST_PLACES)) {t_MOST_TIES : Tok} (c_MOST_TIES : mg "MOST_TIES" = some (.int 40 t_MOST_TIES)) {f_is_sized : Addr} {d_is_sized : FuncData} (E_is_sized : FnE K mg "is_sized" s_is_sized ["thing", "least", "most"] f_is_sized d_is_sized) (G_is_sized : FnOk P w K mg base (L2.CX P w) 1 f_is_sized d_is_sized ["thing", "least", "most"] (SpZ K mg 3 [] fm_is_sized)) {f_is_within : Addr} {d_is_within : FuncData} (E_is_within : FnE K mg "is_within" s_is_within ["thing", "low", "high"] f_is_within d_is_within) (G_is_within : FnOk P w K mg base (L2.CX P w) 2 f_is_within d_is_within ["thing", "low", "high"] (SpZ K mg 3 [] fm_is_within)) {f_is_pair_of : Addr} {d_is_pair_of : FuncData} (E_is_pair_of : FnE K mg "is_pair_of" s_is_pair_of ["many", "thing"] f_is_pair_of d_is_pair_of) (G_is_pair_of : FnOk P w K mg base (L2.CX P w) 3 f_is_pair_of d_is_pair_of ["many", "thing"] (SpZ K mg 2 [] fm_is_pair_of)) :
    FnOk P w K mg base (L2.CX P w) 4 f fd ["thing"] (SpZ K mg 1 [] fm_is_web) :=
  fn_okZ (k := 3) (N := ["thing", "one"]) (prot := []) F sc_is_web fun cdv A outer s H E hr =>
    ((dss_cons (ds_if (DW.dt (dw_or (dt_not (dt_truth (DE.db (de_call G_is_sized (Nat.le_of_ble_eq_true rfl) (fun _ => rfl) E_is_sized.g E_is_sized.F.kp E_is_sized.b rfl (da_cons (de_var (j := 0) (fun _ => rfl) (fun _ => .inr (.inl rfl))) (da_cons de_int (da_cons de_int da_nil))))) (fun _ _ => rfl))) (dw_or (dt_not (dt_truth (DE.db (de_call G_is_within (Nat.le_of_ble_eq_true rfl) (fun _ => rfl) E_is_within.g E_is_within.F.kp E_is_within.b rfl (da_cons (de_ix (de_var (j := 0) (fun _ => rfl) (fun _ => .inr (.inl rfl))) de_int (fun _ _ => rfl)) (da_cons de_int (da_cons (de_globI (fun _ => rfl) c_MOST_PLACES) da_nil))))) (fun _ _ => rfl))) (dw_or1 (dt_not (dt_truth (DE.db (de_call G_is_sized (Nat.le_of_ble_eq_true rfl) (fun _ => rfl) E_is_sized.g E_is_sized.F.kp E_is_sized.b rfl (da_cons (de_ix (de_var (j := 0) (fun _ => rfl) (fun _ => .inr (.inl rfl))) de_int (fun _ _ => rfl)) (da_cons de_int (da_cons (de_globI (fun _ => rfl) c_MOST_TIES) da_nil))))) (fun _ _ => rfl))))))) (dss_one (ds_ret de_bl)) dss_nil)
    (dss_one (ds_ret (de_all (fun _ => rfl) m_all (DE.db (de_lc (own := [(("one" : Str), 1)]) (di_tup (de_ix (de_var (j := 0) (fun _ => rfl) (fun _ => .inr (.inl rfl))) de_int (fun _ _ => rfl))) (dg_name (j := 1) (fun _ => rfl) (fun _ => .inl rfl) (fun _ => .inr rfl)) dts_nil (de_call G_is_pair_of (Nat.le_of_ble_eq_true rfl) (fun _ => rfl) E_is_pair_of.g E_is_pair_of.F.kp E_is_pair_of.b rfl (da_cons (de_ix (de_var (j := 0) (fun _ => rfl) (fun _ => .inr (.inl rfl))) de_int (fun _ _ => rfl)) (da_cons (de_var (j := 1) (fun _ => rfl) (fun _ => .inl rfl)) da_nil))) (fun _ => blk_ok rfl) (pil rfl))))))))
abbrev s_check_web : Stmt := topS 17
theorem sc_check_web : FnScope ["web"] ["web"] (defScope s_check_web) := ⟨rfl, rfl, rfl, by decide +kernel, rfl, by decide +kernel, by decide +kernel⟩
theorem ok_check_web {f : Addr} {fd : FuncData} (F : Fun K "check_web" "check_web" s_check_web f fd) {a_NoWeb : Addr} (T_NoWeb : ExcT K mg "NoWeb" a_NoWeb) {f_is_web : Addr} {d_is_web : FuncData} (E_is_web : FnE K mg "is_web" s_is_web ["thing"] f_is_web d_is_web) (G_is_web : FnOk P w K mg base (L2.CX P w) 4 f_is_web d_is_web ["thing"] (SpZ K mg 1 [] fm_is_web)) :
    FnOk P w K mg base (L2.CX P w) 5 f fd ["web"] (SpZ K mg 1 [] fm_check_web) :=
  fn_okZ (k := 4) (N := ["web"]) (prot := []) F sc_check_web fun cdv A outer s H E hr =>
    ((dss_one (ds_if (dt_not (dt_truth (DE.db (de_call G_is_web (Nat.le_of_ble_eq_true rfl) (fun _ => rfl) E_is_web.g E_is_web.F.kp E_is_web.b rfl (da_cons (de_var (j := 0) (fun _ => rfl) (fun _ => .inl rfl)) da_nil))) (fun _ _ => rfl))) (dss_one (ds_raise0 T_NoWeb (fun _ => rfl))) dss_nil)))
abbrev s_raw_is_lot : Stmt := topS 18
theorem sc_raw_is_lot : FnScope ["web", "thing"] ["web", "thing"] (defScope s_raw_is_lot) := ⟨rfl, rfl, rfl, by decide +kernel, rfl, by decide +kernel, by decide +kernel⟩
theorem ok_raw_is_lot {f : Addr} {fd : FuncData} (F : Fun K "raw_is_lot" "raw_is_lot" s_raw_is_lot f fd) (m_len : mg "len" = none) {f_is_lot : Addr} {d_is_lot : FuncData} (E_is_lot : FnE K mg "is_lot" s_is_lot ["thing", "many"] f_is_lot d_is_lot) (G_is_lot : FnOk P w K mg base (L2.CX P w) 3 f_is_lot d_is_lot ["thing", "many"] (SpZ K mg 2 [] fm_is_lot)) :
    FnOk P w K mg base (L2.CX P w) 4 f fd ["web", "thing"] (SpZ K mg 2 [] fm_raw_is_lot) :=
  fn_okZ (k := 3) (N := ["web", "thing"]) (prot := []) F sc_raw_is_lot fun cdv A outer s H E hr =>
    ((dss_one (ds_ret (de_call G_is_lot (Nat.le_of_ble_eq_true rfl) (fun _ => rfl) E_is_lot.g E_is_lot.F.kp E_is_lot.b rfl (da_cons (de_var (j := 1) (fun _ => rfl) (fun _ => .inl rfl)) (da_cons (de_len (fun _ => rfl) m_len (DE.db (de_ix (de_var (j := 0) (fun _ => rfl) (fun _ => .inl rfl)) de_int (fun _ _ => rfl)))) da_nil))))))
abbrev s_check_lot : Stmt := topS 19
theorem sc_check_lot : FnScope ["web", "lot"] ["web", "lot"] (defScope s_check_lot) := ⟨rfl, rfl, rfl, by decide +kernel, rfl, by decide +kernel, by decide +kernel⟩
theorem ok_check_lot {f : Addr} {fd : FuncData} (F : Fun K "check_lot" "check_lot" s_check_lot f fd) {a_NoLot : Addr} (T_NoLot : ExcT K mg "NoLot" a_NoLot) {f_check_web : Addr} {d_check_web : FuncData} (E_check_web : FnE K mg "check_web" s_check_web ["web"] f_check_web d_check_web) (G_check_web : FnOk P w K mg base (L2.CX P w) 5 f_check_web d_check_web ["web"] (SpZ K mg 1 [] fm_check_web)) {f_raw_is_lot : Addr} {d_raw_is_lot : FuncData} (E_raw_is_lot : FnE K mg "raw_is_lot" s_raw_is_lot ["web", "thing"] f_raw_is_lot d_raw_is_lot) (G_raw_is_lot : FnOk P w K mg base (L2.CX P w) 4 f_raw_is_lot d_raw_is_lot ["web", "thing"] (SpZ K mg 2 [] fm_raw_is_lot)) :
    FnOk P w K mg base (L2.CX P w) 6 f fd ["web", "lot"] (SpZ K mg 2 [] fm_check_lot) :=
  fn_okZ (k := 5) (N := ["web", "lot"]) (prot := []) F sc_check_lot fun cdv A outer s H E hr =>
    ((dss_cons (ds_expr (de_call G_check_web (Nat.le_of_ble_eq_true rfl) (fun _ => rfl) E_check_web.g E_check_web.F.kp E_check_web.b rfl (da_cons (de_var (j := 0) (fun _ => rfl) (fun _ => .inl rfl)) da_nil)))
    (dss_one (ds_if (dt_not (dt_truth (DE.db (de_call G_raw_is_lot (Nat.le_of_ble_eq_true rfl) (fun _ => rfl) E_raw_is_lot.g E_raw_is_lot.F.kp E_raw_is_lot.b rfl (da_cons (de_var (j := 0) (fun _ => rfl) (fun _ => .inl rfl)) (da_cons (de_var (j := 1) (fun _ => rfl) (fun _ => .inl rfl)) da_nil)))) (fun _ _ => rfl))) (dss_one (ds_raise0 T_NoLot (fun _ => rfl))) dss_nil))))
abbrev s_raw_heads : Stmt := topS 20
theorem sc_raw_heads : FnScope ["web", "lot", "heads", "tie", "one", "other", "head"] ["web", "lot"] (defScope s_raw_heads) := ⟨rfl, rfl, rfl, by decide +kernel, rfl, by decide +kernel, by decide +kernel⟩
theorem ok_raw_heads {f : Addr} {fd : FuncData} (F : Fun K "raw_heads" "raw_heads" s_raw_heads f fd) (m_list : mg "list" = none) (m_range : mg "range" = none) (m_min : mg "min" = none) :
    FnOk P w K mg base (L2.CX P w) 1 f fd ["web", "lot"] (SpZ K mg 2 [] fm_raw_heads) :=
  fn_okZ (k := 0) (N := ["web", "lot", "heads", "tie", "one", "other", "head"]) (prot := []) F sc_raw_heads fun cdv A outer s H E hr =>
    ((dss_cons (ds_set (j := 2) (fun _ => rfl) (fun _ => .inl rfl) (np rfl) (de_listRg1 (fun _ => rfl) m_list (fun _ => rfl) m_range (de_ix (de_var (j := 0) (fun _ => rfl) (fun _ => .inl rfl)) de_int (fun _ _ => rfl))) (fun _ => rfl) (fun _ => .inl rfl))
    (dss_cons (ds_for (di_tup (de_var (j := 1) (fun _ => rfl) (fun _ => .inl rfl))) (dg_name (j := 3) (fun _ => rfl) (fun _ => .inl rfl) (fun _ => .inl rfl)) gp_name (npl rfl) (dss_cons (ds_asg (de_tup (da_cons (de_ix (de_var (j := 2) (fun _ => rfl) (fun _ => .inl rfl)) (de_ix (de_ix (de_ix (de_var (j := 0) (fun _ => rfl) (fun _ => .inl rfl)) de_int (fun _ _ => rfl)) (de_var (j := 3) (fun _ => rfl) (fun _ => .inl rfl)) (fun _ _ => rfl)) de_int (fun _ _ => rfl)) (fun _ _ => rfl)) (da_cons (de_ix (de_var (j := 2) (fun _ => rfl) (fun _ => .inl rfl)) (de_ix (de_ix (de_ix (de_var (j := 0) (fun _ => rfl) (fun _ => .inl rfl)) de_int (fun _ _ => rfl)) (de_var (j := 3) (fun _ => rfl) (fun _ => .inl rfl)) (fun _ _ => rfl)) de_int (fun _ _ => rfl)) (fun _ _ => rfl)) da_nil))) (dg_tup (dgs_cons (dg_name (j := 4) (fun _ => rfl) (fun _ => .inr rfl) (fun _ => .inl rfl)) (dgs_cons (dg_name (j := 5) (fun _ => rfl) (fun _ => .inr rfl) (fun _ => .inl rfl)) dgs_nil)) 2 (gm_lenS (gm_lenS gm_len0))) (npl rfl) (gp_tup (gp_cons gp_name (gp_cons gp_name gp_nil))))
    (dss_one (ds_if (dt_ne (de_var (j := 4) (fun _ => rfl) (fun _ => .inr (.inl rfl))) (de_var (j := 5) (fun _ => rfl) (fun _ => .inr (.inl rfl)))) (dss_one (ds_setLc (j := 2) (fun _ => rfl) (fun _ => rfl) (np rfl) (fun _ => rfl) (own := [(("head" : Str), 6)]) (di_list (de_var (j := 2) (fun _ => rfl) (fun _ => .inl rfl))) (dg_name (j := 6) (fun _ => rfl) (fun _ => .inl rfl) (fun _ => .inr rfl)) dts_nil (de_if (dt_in (de_var (j := 6) (fun _ => rfl) (fun _ => .inl rfl)) (de_tup (da_cons (de_var (j := 4) (fun _ => rfl) (fun _ => .inr (.inl rfl))) (da_cons (de_var (j := 5) (fun _ => rfl) (fun _ => .inr (.inl rfl))) da_nil))) rfl) (de_min2 (fun _ => rfl) m_min (de_var (j := 4) (fun _ => rfl) (fun _ => .inr (.inl rfl))) (de_var (j := 5) (fun _ => rfl) (fun _ => .inr (.inl rfl)))) (de_var (j := 6) (fun _ => rfl) (fun _ => .inl rfl))) (fun _ => blk_ok rfl) (pil rfl))) dss_nil))))
    (dss_one (ds_ret (de_var (j := 2) (fun _ => rfl) (fun _ => .inl rfl)))))))
abbrev s_raw_parts : Stmt := topS 21
theorem sc_raw_parts : FnScope ["web", "lot", "heads", "head", "place"] ["web", "lot"] (defScope s_raw_parts) := ⟨rfl, rfl, rfl, by decide +kernel, rfl, by decide +kernel, by decide +kernel⟩
theorem ok_raw_parts {f : Addr} {fd : FuncData} (F : Fun K "raw_parts" "raw_parts" s_raw_parts f fd) (m_sorted : mg "sorted" = none) (m_set : mg "set" = none) (m_range : mg "range" = none) (m_tuple : mg "tuple" = none) {f_raw_heads : Addr} {d_raw_heads : FuncData} (E_raw_heads : FnE K mg "raw_heads" s_raw_heads ["web", "lot"] f_raw_heads d_raw_heads) (G_raw_heads : FnOk P w K mg base (L2.CX P w) 1 f_raw_heads d_raw_heads ["web", "lot"] (SpZ K mg 2 [] fm_raw_heads)) :
    FnOk P w K mg base (L2.CX P w) 2 f fd ["web", "lot"] (SpZ K mg 2 [] fm_raw_parts) :=
  fn_okZ (k := 1) (N := ["web", "lot", "heads", "head", "place"]) (prot := []) F sc_raw_parts fun cdv A outer s H E hr =>
    ((dss_cons (ds_set (j := 2) (fun _ => rfl) (fun _ => .inr rfl) (np rfl) (de_call G_raw_heads (Nat.le_of_ble_eq_true rfl) (fun _ => rfl) E_raw_heads.g E_raw_heads.F.kp E_raw_heads.b rfl (da_cons (de_var (j := 0) (fun _ => rfl) (fun _ => .inr (.inl rfl))) (da_cons (de_var (j := 1) (fun _ => rfl) (fun _ => .inl rfl)) da_nil))) (fun _ => rfl) (fun _ => .inl rfl))
    (dss_one (ds_ret (de_tupleOf (fun _ => rfl) m_tuple (DE.db (de_lc (own := [(("head" : Str), 3)]) (di_list (de_sorSet (fun _ => rfl) m_sorted (fun _ => rfl) m_set (db_var (j := 2) (fun _ => rfl) (fun _ => .inr (.inl rfl))))) (dg_name (j := 3) (fun _ => rfl) (fun _ => .inr rfl) (fun _ => .inl rfl)) dts_nil (de_tupleOf (fun _ => rfl) m_tuple (DE.db (de_lc (own := [(("place" : Str), 4)]) (di_range1 (fun _ => rfl) m_range (de_ix (de_var (j := 0) (fun _ => rfl) (fun _ => .inr (.inl rfl))) de_int (fun _ _ => rfl))) (dg_name (j := 4) (fun _ => rfl) (fun _ => .inl rfl) (fun _ => .inr rfl)) (dts_one (dt_eq (de_ix (de_var (j := 2) (fun _ => rfl) (fun _ => .inr (.inl rfl))) (de_var (j := 4) (fun _ => rfl) (fun _ => .inl rfl)) (fun _ _ => rfl)) (de_var (j := 3) (fun _ => rfl) (fun _ => .inr (.inl rfl))))) (de_var (j := 4) (fun _ => rfl) (fun _ => .inl rfl)) (fun _ => blk_ok rfl) (pil rfl)))) (fun _ => blk_ok rfl) (pil rfl))))))))
abbrev s_parts_by : Stmt := topS 22
theorem sc_parts_by : FnScope ["web", "lot"] ["web", "lot"] (defScope s_parts_by) := ⟨rfl, rfl, rfl, by decide +kernel, rfl, by decide +kernel, by decide +kernel⟩
theorem ok_parts_by {f : Addr} {fd : FuncData} (F : Fun K "parts_by" "parts_by" s_parts_by f fd) {f_check_lot : Addr} {d_check_lot : FuncData} (E_check_lot : FnE K mg "check_lot" s_check_lot ["web", "lot"] f_check_lot d_check_lot) (G_check_lot : FnOk P w K mg base (L2.CX P w) 6 f_check_lot d_check_lot ["web", "lot"] (SpZ K mg 2 [] fm_check_lot)) {f_raw_parts : Addr} {d_raw_parts : FuncData} (E_raw_parts : FnE K mg "raw_parts" s_raw_parts ["web", "lot"] f_raw_parts d_raw_parts) (G_raw_parts : FnOk P w K mg base (L2.CX P w) 2 f_raw_parts d_raw_parts ["web", "lot"] (SpZ K mg 2 [] fm_raw_parts)) :
    FnOk P w K mg base (L2.CX P w) 7 f fd ["web", "lot"] (SpZ K mg 2 [] fm_parts_by) :=
  fn_okZ (k := 6) (N := ["web", "lot"]) (prot := []) F sc_parts_by fun cdv A outer s H E hr =>
    ((dss_cons (ds_expr (de_call G_check_lot (Nat.le_of_ble_eq_true rfl) (fun _ => rfl) E_check_lot.g E_check_lot.F.kp E_check_lot.b rfl (da_cons (de_var (j := 0) (fun _ => rfl) (fun _ => .inl rfl)) (da_cons (de_var (j := 1) (fun _ => rfl) (fun _ => .inl rfl)) da_nil))))
    (dss_one (ds_ret (de_call G_raw_parts (Nat.le_of_ble_eq_true rfl) (fun _ => rfl) E_raw_parts.g E_raw_parts.F.kp E_raw_parts.b rfl (da_cons (de_var (j := 0) (fun _ => rfl) (fun _ => .inl rfl)) (da_cons (de_var (j := 1) (fun _ => rfl) (fun _ => .inl rfl)) da_nil)))))))
abbrev s_raw_inside : Stmt := topS 23
theorem sc_raw_inside : FnScope ["web", "places", "tie", "i", "j"] ["web", "places"] (defScope s_raw_inside) := ⟨rfl, rfl, rfl, by decide +kernel, rfl, by decide +kernel, by decide +kernel⟩
theorem ok_raw_inside {f : Addr} {fd : FuncData} (F : Fun K "raw_inside" "raw_inside" s_raw_inside f fd) (m_enumerate : mg "enumerate" = none) (m_tuple : mg "tuple" = none) :
    FnOk P w K mg base (L2.CX P w) 1 f fd ["web", "places"] (SpZ K mg 2 [] fm_raw_inside) :=
  fn_okZ (k := 0) (N := ["web", "places", "tie", "i", "j"]) (prot := []) F sc_raw_inside fun cdv A outer s H E hr =>
    ((dss_one (ds_ret (de_tupleOf (fun _ => rfl) m_tuple (DE.db (de_lc (own := [(("tie" : Str), 2), (("i" : Str), 3), (("j" : Str), 4)]) (di_enumT (fun _ => rfl) m_enumerate (de_ix (de_var (j := 0) (fun _ => rfl) (fun _ => .inl rfl)) de_int (fun _ _ => rfl))) (dg_tup (dgs_cons (dg_name (j := 2) (fun _ => rfl) (fun _ => .inl rfl) (fun _ => .inr rfl)) (dgs_cons (dg_tup (dgs_cons (dg_name (j := 3) (fun _ => rfl) (fun _ => .inl rfl) (fun _ => .inr rfl)) (dgs_cons (dg_name (j := 4) (fun _ => rfl) (fun _ => .inl rfl) (fun _ => .inr rfl)) dgs_nil)) 2 (gm_lenS (gm_lenS gm_len0))) dgs_nil)) 2 (gm_lenS (gm_lenS gm_len0))) (dts_one (DW.dt (dw_and (dt_in (de_var (j := 3) (fun _ => rfl) (fun _ => .inl rfl)) (de_var (j := 1) (fun _ => rfl) (fun _ => .inr (.inl rfl))) rfl) (dw_and1 (dt_in (de_var (j := 4) (fun _ => rfl) (fun _ => .inl rfl)) (de_var (j := 1) (fun _ => rfl) (fun _ => .inr (.inl rfl))) rfl))))) (de_var (j := 2) (fun _ => rfl) (fun _ => .inl rfl)) (fun _ => blk_ok rfl) (pil rfl)))))))
abbrev s_inside : Stmt := topS 24
theorem sc_inside : FnScope ["web", "places"] ["web", "places"] (defScope s_inside) := ⟨rfl, rfl, rfl, by decide +kernel, rfl, by decide +kernel, by decide +kernel⟩
theorem ok_inside {f : Addr} {fd : FuncData} (F : Fun K "inside" "inside" s_inside f fd) {a_NoPlaces : Addr} (T_NoPlaces : ExcT K mg "NoPlaces" a_NoPlaces) {f_check_web : Addr} {d_check_web : FuncData} (E_check_web : FnE K mg "check_web" s_check_web ["web"] f_check_web d_check_web) (G_check_web : FnOk P w K mg base (L2.CX P w) 5 f_check_web d_check_web ["web"] (SpZ K mg 1 [] fm_check_web)) {f_raw_inside : Addr} {d_raw_inside : FuncData} (E_raw_inside : FnE K mg "raw_inside" s_raw_inside ["web", "places"] f_raw_inside d_raw_inside) (G_raw_inside : FnOk P w K mg base (L2.CX P w) 1 f_raw_inside d_raw_inside ["web", "places"] (SpZ K mg 2 [] fm_raw_inside)) {f_is_lot : Addr} {d_is_lot : FuncData} (E_is_lot : FnE K mg "is_lot" s_is_lot ["thing", "many"] f_is_lot d_is_lot) (G_is_lot : FnOk P w K mg base (L2.CX P w) 3 f_is_lot d_is_lot ["thing", "many"] (SpZ K mg 2 [] fm_is_lot)) :
    FnOk P w K mg base (L2.CX P w) 6 f fd ["web", "places"] (SpZ K mg 2 [] fm_inside) :=
  fn_okZ (k := 5) (N := ["web", "places"]) (prot := []) F sc_inside fun cdv A outer s H E hr =>
    ((dss_cons (ds_expr (de_call G_check_web (Nat.le_of_ble_eq_true rfl) (fun _ => rfl) E_check_web.g E_check_web.F.kp E_check_web.b rfl (da_cons (de_var (j := 0) (fun _ => rfl) (fun _ => .inl rfl)) da_nil)))
    (dss_cons (ds_if (dt_not (dt_truth (DE.db (de_call G_is_lot (Nat.le_of_ble_eq_true rfl) (fun _ => rfl) E_is_lot.g E_is_lot.F.kp E_is_lot.b rfl (da_cons (de_var (j := 1) (fun _ => rfl) (fun _ => .inl rfl)) (da_cons (de_ix (de_var (j := 0) (fun _ => rfl) (fun _ => .inl rfl)) de_int (fun _ _ => rfl)) da_nil)))) (fun _ _ => rfl))) (dss_one (ds_raise0 T_NoPlaces (fun _ => rfl))) dss_nil)
    (dss_one (ds_ret (de_call G_raw_inside (Nat.le_of_ble_eq_true rfl) (fun _ => rfl) E_raw_inside.g E_raw_inside.F.kp E_raw_inside.b rfl (da_cons (de_var (j := 0) (fun _ => rfl) (fun _ => .inl rfl)) (da_cons (de_var (j := 1) (fun _ => rfl) (fun _ => .inl rfl)) da_nil))))))))
abbrev s_raw_is_parting : Stmt := topS 25
theorem sc_raw_is_parting : FnScope ["web", "thing", "met", "lot"] ["web", "thing"] (defScope s_raw_is_parting) := ⟨rfl, rfl, rfl, by decide +kernel, rfl, by decide +kernel, by decide +kernel⟩
theorem ok_raw_is_parting {f : Addr} {fd : FuncData} (F : Fun K "raw_is_parting" "raw_is_parting" s_raw_is_parting f fd) (m_isinstance : mg "isinstance" = none) (m_tuple : mg "tuple" = none) (m_len : mg "len" = none) (m_all : mg "all" = none) (m_list : mg "list" = none) (m_sorted : mg "sorted" = none) (m_range : mg "range" = none) {f_is_lot : Addr} {d_is_lot : FuncData} (E_is_lot : FnE K mg "is_lot" s_is_lot ["thing", "many"] f_is_lot d_is_lot) (G_is_lot : FnOk P w K mg base (L2.CX P w) 3 f_is_lot d_is_lot ["thing", "many"] (SpZ K mg 2 [] fm_is_lot)) :
    FnOk P w K mg base (L2.CX P w) 4 f fd ["web", "thing"] (SpZ K mg 2 [] fm_raw_is_parting) :=
  fn_okZ (k := 3) (N := ["web", "thing", "met", "lot"]) (prot := []) F sc_raw_is_parting fun cdv A outer s H E hr =>
    ((dss_cons (ds_if (DW.dt (dw_or (dt_not (dt_truth (DE.db (de_isT (T := "tuple") (by decide +kernel) (fun _ => rfl) m_isinstance (fun _ => rfl) m_tuple (by decide +kernel) (db_var (j := 1) (fun _ => rfl) (fun _ => .inl rfl)))) (fun _ _ => rfl))) (dw_or1 (dt_not (dt_truth (DE.db (de_all (fun _ => rfl) m_all (DE.db (de_lc (own := [(("lot" : Str), 3)]) (di_tup (de_var (j := 1) (fun _ => rfl) (fun _ => .inl rfl))) (dg_name (j := 3) (fun _ => rfl) (fun _ => .inl rfl) (fun _ => .inr rfl)) dts_nil (de_and (de_call G_is_lot (Nat.le_of_ble_eq_true rfl) (fun _ => rfl) E_is_lot.g E_is_lot.F.kp E_is_lot.b rfl (da_cons (de_var (j := 3) (fun _ => rfl) (fun _ => .inl rfl)) (da_cons (de_ix (de_var (j := 0) (fun _ => rfl) (fun _ => .inr (.inl rfl))) de_int (fun _ _ => rfl)) da_nil))) (de_one (de_gt (de_len (fun _ => rfl) m_len (db_var (j := 3) (fun _ => rfl) (fun _ => .inl rfl))) de_int))) (fun _ => blk_ok rfl) (pil rfl))))) (fun _ _ => rfl)))))) (dss_one (ds_ret de_bl)) dss_nil)
    (dss_cons (ds_setO (j := 2) (fun _ => rfl) (fun _ => .inl rfl) (np rfl) (do_lst da_nil) (fun _ => rfl) (fun _ => .inl rfl))
    (dss_cons (ds_for (di_tup (de_var (j := 1) (fun _ => rfl) (fun _ => .inl rfl))) (dg_name (j := 3) (fun _ => rfl) (fun _ => .inl rfl) (fun _ => .inl rfl)) gp_name (npl rfl) (dss_one (ds_extend (j := 2) (fun _ => rfl) (fun _ => .inl rfl) (de_listOf (fun _ => rfl) m_list (db_var (j := 3) (fun _ => rfl) (fun _ => .inl rfl))))))
    (dss_one (ds_ret (de_and (de_eq (de_sorted (fun _ => rfl) m_sorted (db_var (j := 2) (fun _ => rfl) (fun _ => .inl rfl))) (de_listRg1 (fun _ => rfl) m_list (fun _ => rfl) m_range (de_ix (de_var (j := 0) (fun _ => rfl) (fun _ => .inr (.inl rfl))) de_int (fun _ _ => rfl)))) (de_one (de_eq (de_listOf (fun _ => rfl) m_list (db_var (j := 1) (fun _ => rfl) (fun _ => .inl rfl))) (de_sorted (fun _ => rfl) m_sorted (db_var (j := 1) (fun _ => rfl) (fun _ => .inl rfl))))))))))))
abbrev s_is_parting : Stmt := topS 26
theorem sc_is_parting : FnScope ["web", "thing"] ["web", "thing"] (defScope s_is_parting) := ⟨rfl, rfl, rfl, by decide +kernel, rfl, by decide +kernel, by decide +kernel⟩
theorem ok_is_parting {f : Addr} {fd : FuncData} (F : Fun K "is_parting" "is_parting" s_is_parting f fd) {f_check_web : Addr} {d_check_web : FuncData} (E_check_web : FnE K mg "check_web" s_check_web ["web"] f_check_web d_check_web) (G_check_web : FnOk P w K mg base (L2.CX P w) 5 f_check_web d_check_web ["web"] (SpZ K mg 1 [] fm_check_web)) {f_raw_is_parting : Addr} {d_raw_is_parting : FuncData} (E_raw_is_parting : FnE K mg "raw_is_parting" s_raw_is_parting ["web", "thing"] f_raw_is_parting d_raw_is_parting) (G_raw_is_parting : FnOk P w K mg base (L2.CX P w) 4 f_raw_is_parting d_raw_is_parting ["web", "thing"] (SpZ K mg 2 [] fm_raw_is_parting)) :
    FnOk P w K mg base (L2.CX P w) 6 f fd ["web", "thing"] (SpZ K mg 2 [] fm_is_parting) :=
  fn_okZ (k := 5) (N := ["web", "thing"]) (prot := []) F sc_is_parting fun cdv A outer s H E hr =>
    ((dss_cons (ds_expr (de_call G_check_web (Nat.le_of_ble_eq_true rfl) (fun _ => rfl) E_check_web.g E_check_web.F.kp E_check_web.b rfl (da_cons (de_var (j := 0) (fun _ => rfl) (fun _ => .inl rfl)) da_nil)))
    (dss_one (ds_ret (de_call G_raw_is_parting (Nat.le_of_ble_eq_true rfl) (fun _ => rfl) E_raw_is_parting.g E_raw_is_parting.F.kp E_raw_is_parting.b rfl (da_cons (de_var (j := 0) (fun _ => rfl) (fun _ => .inl rfl)) (da_cons (de_var (j := 1) (fun _ => rfl) (fun _ => .inl rfl)) da_nil)))))))
abbrev s_raw_between : Stmt := topS 27
theorem sc_raw_between : FnScope ["web", "parting", "owners", "at", "lot", "place", "tie", "i", "j"] ["web", "parting"] (defScope s_raw_between) := ⟨rfl, rfl, rfl, by decide +kernel, rfl, by decide +kernel, by decide +kernel⟩
theorem ok_raw_between {f : Addr} {fd : FuncData} (F : Fun K "raw_between" "raw_between" s_raw_between f fd) (m_enumerate : mg "enumerate" = none) (m_tuple : mg "tuple" = none) :
    FnOk P w K mg base (L2.CX P w) 1 f fd ["web", "parting"] (SpZ K mg 2 [] fm_raw_between) :=
  fn_okZ (k := 0) (N := ["web", "parting", "owners", "at", "lot", "place", "tie", "i", "j"]) (prot := []) F sc_raw_between fun cdv A outer s H E hr =>
    ((dss_cons (ds_setO (j := 2) (fun _ => rfl) (fun _ => .inr rfl) (np rfl) do_dnewK (fun _ => rfl) (fun _ => .inl rfl))
    (dss_cons (ds_for (di_enumT (fun _ => rfl) m_enumerate (de_var (j := 1) (fun _ => rfl) (fun _ => .inl rfl))) (dg_tup (dgs_cons (dg_name (j := 3) (fun _ => rfl) (fun _ => .inr rfl) (fun _ => .inl rfl)) (dgs_cons (dg_name (j := 4) (fun _ => rfl) (fun _ => .inl rfl) (fun _ => .inl rfl)) dgs_nil)) 2 (gm_lenS (gm_lenS gm_len0))) (gp_tup (gp_cons gp_name (gp_cons gp_name gp_nil))) (npl rfl) (dss_one (ds_updK (j := 2) (fun _ => rfl) (fun _ => .inr (.inl rfl)) (do_dc (own := [(("place" : Str), 5)]) (di_tup (de_var (j := 4) (fun _ => rfl) (fun _ => .inl rfl))) (dg_name (j := 5) (fun _ => rfl) (fun _ => .inl rfl) (fun _ => .inr rfl)) dts_nil (de_var (j := 5) (fun _ => rfl) (fun _ => .inl rfl)) (de_var (j := 3) (fun _ => rfl) (fun _ => .inr (.inl rfl))) (fun _ => blk_ok rfl) (pil rfl)))))
    (dss_one (ds_ret (de_tupleOf (fun _ => rfl) m_tuple (DE.db (de_lc (own := [(("tie" : Str), 6), (("i" : Str), 7), (("j" : Str), 8)]) (di_enumT (fun _ => rfl) m_enumerate (de_ix (de_var (j := 0) (fun _ => rfl) (fun _ => .inl rfl)) de_int (fun _ _ => rfl))) (dg_tup (dgs_cons (dg_name (j := 6) (fun _ => rfl) (fun _ => .inl rfl) (fun _ => .inr rfl)) (dgs_cons (dg_tup (dgs_cons (dg_name (j := 7) (fun _ => rfl) (fun _ => .inl rfl) (fun _ => .inr rfl)) (dgs_cons (dg_name (j := 8) (fun _ => rfl) (fun _ => .inl rfl) (fun _ => .inr rfl)) dgs_nil)) 2 (gm_lenS (gm_lenS gm_len0))) dgs_nil)) 2 (gm_lenS (gm_lenS gm_len0))) (dts_one (dt_ne (de_dgetK (j := 2) (fun _ => rfl) (fun _ => .inr (.inl rfl)) (de_var (j := 7) (fun _ => rfl) (fun _ => .inl rfl)) (fun _ _ => rfl)) (de_dgetK (j := 2) (fun _ => rfl) (fun _ => .inr (.inl rfl)) (de_var (j := 8) (fun _ => rfl) (fun _ => .inl rfl)) (fun _ _ => rfl)))) (de_var (j := 6) (fun _ => rfl) (fun _ => .inl rfl)) (fun _ => blk_ok rfl) (pil rfl)))))))))
abbrev s_between : Stmt := topS 28
theorem sc_between : FnScope ["web", "parting"] ["web", "parting"] (defScope s_between) := ⟨rfl, rfl, rfl, by decide +kernel, rfl, by decide +kernel, by decide +kernel⟩
theorem ok_between {f : Addr} {fd : FuncData} (F : Fun K "between" "between" s_between f fd) {a_NoParting : Addr} (T_NoParting : ExcT K mg "NoParting" a_NoParting) {f_check_web : Addr} {d_check_web : FuncData} (E_check_web : FnE K mg "check_web" s_check_web ["web"] f_check_web d_check_web) (G_check_web : FnOk P w K mg base (L2.CX P w) 5 f_check_web d_check_web ["web"] (SpZ K mg 1 [] fm_check_web)) {f_raw_between : Addr} {d_raw_between : FuncData} (E_raw_between : FnE K mg "raw_between" s_raw_between ["web", "parting"] f_raw_between d_raw_between) (G_raw_between : FnOk P w K mg base (L2.CX P w) 1 f_raw_between d_raw_between ["web", "parting"] (SpZ K mg 2 [] fm_raw_between)) {f_raw_is_parting : Addr} {d_raw_is_parting : FuncData} (E_raw_is_parting : FnE K mg "raw_is_parting" s_raw_is_parting ["web", "thing"] f_raw_is_parting d_raw_is_parting) (G_raw_is_parting : FnOk P w K mg base (L2.CX P w) 4 f_raw_is_parting d_raw_is_parting ["web", "thing"] (SpZ K mg 2 [] fm_raw_is_parting)) :
    FnOk P w K mg base (L2.CX P w) 6 f fd ["web", "parting"] (SpZ K mg 2 [] fm_between) :=
  fn_okZ (k := 5) (N := ["web", "parting"]) (prot := []) F sc_between fun cdv A outer s H E hr =>
    ((dss_cons (ds_expr (de_call G_check_web (Nat.le_of_ble_eq_true rfl) (fun _ => rfl) E_check_web.g E_check_web.F.kp E_check_web.b rfl (da_cons (de_var (j := 0) (fun _ => rfl) (fun _ => .inl rfl)) da_nil)))
    (dss_cons (ds_if (dt_not (dt_truth (DE.db (de_call G_raw_is_parting (Nat.le_of_ble_eq_true rfl) (fun _ => rfl) E_raw_is_parting.g E_raw_is_parting.F.kp E_raw_is_parting.b rfl (da_cons (de_var (j := 0) (fun _ => rfl) (fun _ => .inl rfl)) (da_cons (de_var (j := 1) (fun _ => rfl) (fun _ => .inl rfl)) da_nil)))) (fun _ _ => rfl))) (dss_one (ds_raise0 T_NoParting (fun _ => rfl))) dss_nil)
    (dss_one (ds_ret (de_call G_raw_between (Nat.le_of_ble_eq_true rfl) (fun _ => rfl) E_raw_between.g E_raw_between.F.kp E_raw_between.b rfl (da_cons (de_var (j := 0) (fun _ => rfl) (fun _ => .inl rfl)) (da_cons (de_var (j := 1) (fun _ => rfl) (fun _ => .inl rfl)) da_nil))))))))
abbrev s__law_draws : Stmt := topS 30
theorem sc__law_draws : FnScope ["script", "many", "row", "big", "k", "seed", "cell"] ["script", "many"] (defScope s__law_draws) := ⟨rfl, rfl, rfl, by decide +kernel, rfl, by decide +kernel, by decide +kernel⟩
theorem ok__law_draws {f : Addr} {fd : FuncData} (F : Fun K "_law_draws" "_law_draws" s__law_draws f fd) (m_range : mg "range" = none) (m_int : mg "int" = none) (m_len : mg "len" = none) :
    FnOk P w K mg base (L2.CX P w) 1 f fd ["script", "many"] (SpZ K mg 2 [] fm__law_draws) :=
  fn_okZ (k := 0) (N := ["script", "many", "row", "big", "k", "seed", "cell"]) (prot := []) F sc__law_draws fun cdv A outer s H E hr =>
    ((dss_cons (ds_setO (j := 2) (fun _ => rfl) (fun _ => .inl rfl) (np rfl) (do_lst da_nil) (fun _ => rfl) (fun _ => .inl rfl))
    (dss_cons (ds_set (j := 3) (fun _ => rfl) (fun _ => .inl rfl) (np rfl) (de_if (dt_truth (db_var (j := 0) (fun _ => rfl) (fun _ => .inl rfl)) (fun _ _ => rfl)) (de_ix (de_var (j := 0) (fun _ => rfl) (fun _ => .inl rfl)) de_int (fun _ _ => rfl)) de_int) (fun _ => rfl) (fun _ => .inl rfl))
    (dss_cons (ds_if (dt_lt (de_var (j := 3) (fun _ => rfl) (fun _ => .inl rfl)) de_int) (dss_one (ds_set (j := 3) (fun _ => rfl) (fun _ => .inl rfl) (np rfl) (de_neg (db_var (j := 3) (fun _ => rfl) (fun _ => .inl rfl))) (fun _ => rfl) (fun _ => .inl rfl))) dss_nil)
    (dss_cons (ds_if (dt_ge (de_var (j := 3) (fun _ => rfl) (fun _ => .inl rfl)) de_int) (dss_one (ds_for (di_range1 (fun _ => rfl) m_range (de_var (j := 1) (fun _ => rfl) (fun _ => .inl rfl))) (dg_name (j := 4) (fun _ => rfl) (fun _ => .inl rfl) (fun _ => .inl rfl)) gp_name (npl rfl) (dss_one (ds_if (dt_gt (de_var (j := 3) (fun _ => rfl) (fun _ => .inl rfl)) de_int) (dss_cons (ds_append (j := 2) (fun _ => rfl) (fun _ => .inl rfl) (de_mod (de_intOf (fun _ => rfl) m_int (db_var (j := 3) (fun _ => rfl) (fun _ => .inl rfl))) de_int))
    (dss_one (ds_set (j := 3) (fun _ => rfl) (fun _ => .inl rfl) (np rfl) (de_fdiv (de_var (j := 3) (fun _ => rfl) (fun _ => .inl rfl)) de_int) (fun _ => rfl) (fun _ => .inl rfl)))) dss_nil)))) dss_nil)
    (dss_cons (ds_set (j := 5) (fun _ => rfl) (fun _ => .inl rfl) (np rfl) de_int (fun _ => rfl) (fun _ => .inl rfl))
    (dss_cons (ds_for (di_range1 (fun _ => rfl) m_range (de_sub (de_var (j := 1) (fun _ => rfl) (fun _ => .inl rfl)) (de_len (fun _ => rfl) m_len (db_var (j := 2) (fun _ => rfl) (fun _ => .inl rfl))))) (dg_name (j := 4) (fun _ => rfl) (fun _ => .inl rfl) (fun _ => .inl rfl)) gp_name (npl rfl) (dss_cons (ds_set (j := 6) (fun _ => rfl) (fun _ => .inl rfl) (np rfl) (de_var (j := 4) (fun _ => rfl) (fun _ => .inl rfl)) (fun _ => rfl) (fun _ => .inl rfl))
    (dss_cons (ds_if (dt_truth (db_var (j := 0) (fun _ => rfl) (fun _ => .inl rfl)) (fun _ _ => rfl)) (dss_one (ds_set (j := 6) (fun _ => rfl) (fun _ => .inl rfl) (np rfl) (de_mod (de_intOf (fun _ => rfl) m_int (DE.db (de_ix (de_var (j := 0) (fun _ => rfl) (fun _ => .inl rfl)) (de_mod (de_add (de_var (j := 4) (fun _ => rfl) (fun _ => .inl rfl)) de_int) (de_len (fun _ => rfl) m_len (db_var (j := 0) (fun _ => rfl) (fun _ => .inl rfl)))) (fun _ _ => rfl)))) de_int) (fun _ => rfl) (fun _ => .inl rfl))) dss_nil)
    (dss_cons (ds_set (j := 5) (fun _ => rfl) (fun _ => .inl rfl) (np rfl) (de_mod (de_intOf (fun _ => rfl) m_int (DE.db (de_add (de_add (de_add (de_mul (de_var (j := 5) (fun _ => rfl) (fun _ => .inl rfl)) de_int) (de_var (j := 6) (fun _ => rfl) (fun _ => .inl rfl))) (de_mul (de_var (j := 4) (fun _ => rfl) (fun _ => .inl rfl)) de_int)) de_int))) de_int) (fun _ => rfl) (fun _ => .inl rfl))
    (dss_one (ds_append (j := 2) (fun _ => rfl) (fun _ => .inl rfl) (de_mod (de_fdiv (de_mod (de_intOf (fun _ => rfl) m_int (DE.db (de_add (de_mul (de_var (j := 5) (fun _ => rfl) (fun _ => .inl rfl)) de_int) de_int))) de_int) de_int) de_int)))))))
    (dss_one (ds_retOwn (j := 2) (fun _ => rfl) (fun _ => .inl rfl) (np rfl))))))))))
abbrev s__law_take : Stmt := topS 31
theorem sc__law_take : FnScope ["draws", "many"] ["draws", "many"] (defScope s__law_take) := ⟨rfl, rfl, rfl, by decide +kernel, rfl, by decide +kernel, by decide +kernel⟩
theorem ok__law_take {f : Addr} {fd : FuncData} (F : Fun K "_law_take" "_law_take" s__law_take f fd) (m_int : mg "int" = none) :
    FnOk P w K mg base (L2.CX P w) 1 f fd ["draws", "many"] (SpZ K mg 2 [0] fm__law_take) :=
  fn_okZ (k := 0) (N := ["draws", "many"]) (prot := [0]) F sc__law_take fun cdv A outer s H E hr =>
    ((dss_cons (ds_if (dt_not (dt_truth (db_var (j := 0) (fun _ => rfl) (fun _ => .inl rfl)) (fun _ _ => rfl))) (dss_one (ds_ret de_int)) dss_nil)
    (dss_one (ds_ret (de_mod (de_intOf (fun _ => rfl) m_int (DE.db (de_pop (j := 0) (fun _ => rfl) (fun _ => .inl rfl)))) (de_var (j := 1) (fun _ => rfl) (fun _ => .inl rfl)))))))
abbrev s__law_web : Stmt := topS 32
theorem sc__law_web : FnScope ["draws", "least", "most", "ties", "many", "out", "turn", "i", "j"] ["draws", "least", "most", "ties"] (defScope s__law_web) := ⟨rfl, rfl, rfl, by decide +kernel, rfl, by decide +kernel, by decide +kernel⟩
theorem ok__law_web {f : Addr} {fd : FuncData} (F : Fun K "_law_web" "_law_web" s__law_web f fd) (m_range : mg "range" = none) (m_max : mg "max" = none) (m_min : mg "min" = none) (m_tuple : mg "tuple" = none) {f__law_take : Addr} {d__law_take : FuncData} (E__law_take : FnE K mg "_law_take" s__law_take ["draws", "many"] f__law_take d__law_take) (G__law_take : FnOk P w K mg base (L2.CX P w) 1 f__law_take d__law_take ["draws", "many"] (SpZ K mg 2 [0] fm__law_take)) :
    FnOk P w K mg base (L2.CX P w) 2 f fd ["draws", "least", "most", "ties"] (SpZ K mg 4 [0] fm__law_web) :=
  fn_okZ (k := 1) (N := ["draws", "least", "most", "ties", "many", "out", "turn", "i", "j"]) (prot := [0]) F sc__law_web fun cdv A outer s H E hr =>
    ((dss_cons (ds_set (j := 4) (fun _ => rfl) (fun _ => .inl rfl) (np rfl) (de_add (de_var (j := 1) (fun _ => rfl) (fun _ => .inl rfl)) (de_callOwn (j := 0) G__law_take (Nat.le_of_ble_eq_true rfl) (fun _ => rfl) E__law_take.g E__law_take.F.kp E__law_take.b rfl (List.mem_singleton.mpr rfl) (fun _ => rfl) (fun _ => .inl rfl) (da_cons (de_add (de_sub (de_var (j := 2) (fun _ => rfl) (fun _ => .inl rfl)) (de_var (j := 1) (fun _ => rfl) (fun _ => .inl rfl))) de_int) da_nil))) (fun _ => rfl) (fun _ => .inl rfl))
    (dss_cons (ds_setO (j := 5) (fun _ => rfl) (fun _ => .inl rfl) (np rfl) (do_lst da_nil) (fun _ => rfl) (fun _ => .inl rfl))
    (dss_cons (ds_for (di_range1 (fun _ => rfl) m_range (de_if (dt_gt (de_var (j := 4) (fun _ => rfl) (fun _ => .inl rfl)) de_int) (de_callOwn (j := 0) G__law_take (Nat.le_of_ble_eq_true rfl) (fun _ => rfl) E__law_take.g E__law_take.F.kp E__law_take.b rfl (List.mem_singleton.mpr rfl) (fun _ => rfl) (fun _ => .inl rfl) (da_cons (de_add (de_var (j := 3) (fun _ => rfl) (fun _ => .inl rfl)) de_int) da_nil)) de_int)) (dg_name (j := 6) (fun _ => rfl) (fun _ => .inl rfl) (fun _ => .inl rfl)) gp_name (npl rfl) (dss_cons (ds_par (i := 7) (j := 8) (fun _ => rfl) (fun _ => rfl) (by decide) (np rfl) (np rfl) (fun _ => rfl) (fun _ => rfl) (da_cons (de_callOwn (j := 0) G__law_take (Nat.le_of_ble_eq_true rfl) (fun _ => rfl) E__law_take.g E__law_take.F.kp E__law_take.b rfl (List.mem_singleton.mpr rfl) (fun _ => rfl) (fun _ => .inl rfl) (da_cons (de_var (j := 4) (fun _ => rfl) (fun _ => .inl rfl)) da_nil)) (da_cons (de_callOwn (j := 0) G__law_take (Nat.le_of_ble_eq_true rfl) (fun _ => rfl) E__law_take.g E__law_take.F.kp E__law_take.b rfl (List.mem_singleton.mpr rfl) (fun _ => rfl) (fun _ => .inl rfl) (da_cons (de_sub (de_var (j := 4) (fun _ => rfl) (fun _ => .inl rfl)) de_int) da_nil)) da_nil)) (fun _ => rfl) (fun _ => rfl))
    (dss_cons (ds_set (j := 8) (fun _ => rfl) (fun _ => .inl rfl) (np rfl) (de_if (dt_ge (de_var (j := 8) (fun _ => rfl) (fun _ => .inl rfl)) (de_var (j := 7) (fun _ => rfl) (fun _ => .inl rfl))) (de_add (de_var (j := 8) (fun _ => rfl) (fun _ => .inl rfl)) de_int) (de_var (j := 8) (fun _ => rfl) (fun _ => .inl rfl))) (fun _ => rfl) (fun _ => .inl rfl))
    (dss_one (ds_append (j := 5) (fun _ => rfl) (fun _ => .inl rfl) (de_tup (da_cons (de_min2 (fun _ => rfl) m_min (de_var (j := 7) (fun _ => rfl) (fun _ => .inl rfl)) (de_var (j := 8) (fun _ => rfl) (fun _ => .inl rfl))) (da_cons (de_max2 (fun _ => rfl) m_max (de_var (j := 7) (fun _ => rfl) (fun _ => .inl rfl)) (de_var (j := 8) (fun _ => rfl) (fun _ => .inl rfl))) da_nil))))))))
    (dss_one (ds_ret (de_tup (da_cons (de_var (j := 4) (fun _ => rfl) (fun _ => .inl rfl)) (da_cons (de_tupleOf (fun _ => rfl) m_tuple (db_var (j := 5) (fun _ => rfl) (fun _ => .inl rfl))) da_nil)))))))))
abbrev s__law_partings : Stmt := topS 36
theorem sc__law_partings : FnScope ["some", "out", "one", "later", "row", "at"] ["some"] (defScope s__law_partings) := ⟨rfl, rfl, rfl, by decide +kernel, rfl, by decide +kernel, by decide +kernel⟩
theorem ok__law_partings {f : Addr} {fd : FuncData} (F : Fun K "_law_partings" "_law_partings" s__law_partings f fd) (m_len : mg "len" = none) (m_range : mg "range" = none) (m_sorted : mg "sorted" = none) :
    FnOk P w K mg base (L2.CX P w) 1 f fd ["some"] (SpZ K mg 1 [] fm__law_partings) :=
  fn_okZ (k := 0) (N := ["some", "out", "one", "later", "row", "at"]) (prot := []) F sc__law_partings fun cdv A outer s H E hr =>
    ((dss_cons (ds_set (j := 1) (fun _ => rfl) (fun _ => .inl rfl) (np rfl) (de_lst (da_cons (de_tup da_nil) da_nil)) (fun _ => rfl) (fun _ => .inl rfl))
    (dss_cons (ds_for (di_list (de_var (j := 0) (fun _ => rfl) (fun _ => .inl rfl))) (dg_name (j := 2) (fun _ => rfl) (fun _ => .inl rfl) (fun _ => .inl rfl)) gp_name (npl rfl) (dss_cons (ds_setO (j := 3) (fun _ => rfl) (fun _ => .inl rfl) (np rfl) (do_lst da_nil) (fun _ => rfl) (fun _ => .inl rfl))
    (dss_cons (ds_for (di_list (de_var (j := 1) (fun _ => rfl) (fun _ => .inl rfl))) (dg_name (j := 4) (fun _ => rfl) (fun _ => .inl rfl) (fun _ => .inl rfl)) gp_name (npl rfl) (dss_cons (ds_append (j := 3) (fun _ => rfl) (fun _ => .inl rfl) (de_add (de_var (j := 4) (fun _ => rfl) (fun _ => .inl rfl)) (de_tup (da_cons (de_tup (da_cons (de_var (j := 2) (fun _ => rfl) (fun _ => .inl rfl)) da_nil)) da_nil))))
    (dss_one (ds_for (di_range1 (fun _ => rfl) m_range (de_len (fun _ => rfl) m_len (db_var (j := 4) (fun _ => rfl) (fun _ => .inl rfl)))) (dg_name (j := 5) (fun _ => rfl) (fun _ => .inl rfl) (fun _ => .inl rfl)) gp_name (npl rfl) (dss_one (ds_append (j := 3) (fun _ => rfl) (fun _ => .inl rfl) (de_add (de_add (de_sl (de_var (j := 4) (fun _ => rfl) (fun _ => .inl rfl)) dp_none (dp_some (de_var (j := 5) (fun _ => rfl) (fun _ => .inl rfl)))) (de_tup (da_cons (de_add (de_ix (de_var (j := 4) (fun _ => rfl) (fun _ => .inl rfl)) (de_var (j := 5) (fun _ => rfl) (fun _ => .inl rfl)) (fun _ _ => rfl)) (de_tup (da_cons (de_var (j := 2) (fun _ => rfl) (fun _ => .inl rfl)) da_nil))) da_nil))) (de_sl (de_var (j := 4) (fun _ => rfl) (fun _ => .inl rfl)) (dp_some (de_add (de_var (j := 5) (fun _ => rfl) (fun _ => .inl rfl)) de_int)) dp_none))))))))
    (dss_one (ds_give (i := 1) (j := 3) (fun _ => rfl) (fun _ => .inl rfl) (np rfl) (np rfl) (fun _ => rfl) (fun _ => .inl rfl) (fun _ => rfl) (fun _ => .inl rfl))))))
    (dss_one (ds_ret (de_sorted (fun _ => rfl) m_sorted (db_var (j := 1) (fun _ => rfl) (fun _ => .inl rfl))))))))
abbrev s__law_between : Stmt := topS 37
theorem sc__law_between : FnScope ["web", "parting", "where", "at", "place", "some", "n"] ["web", "parting"] (defScope s__law_between) := ⟨rfl, rfl, rfl, by decide +kernel, rfl, by decide +kernel, by decide +kernel⟩
theorem ok__law_between {f : Addr} {fd : FuncData} (F : Fun K "_law_between" "_law_between" s__law_between f fd) (m_len : mg "len" = none) (m_range : mg "range" = none) (m_tuple : mg "tuple" = none) :
    FnOk P w K mg base (L2.CX P w) 1 f fd ["web", "parting"] (SpZ K mg 2 [] fm__law_between) :=
  fn_okZ (k := 0) (N := ["web", "parting", "where", "at", "place", "some", "n"]) (prot := []) F sc__law_between fun cdv A outer s H E hr =>
    ((dss_cons (ds_setO (j := 2) (fun _ => rfl) (fun _ => .inr rfl) (np rfl) do_dnewK (fun _ => rfl) (fun _ => .inl rfl))
    (dss_cons (ds_for (di_range1 (fun _ => rfl) m_range (de_len (fun _ => rfl) m_len (db_var (j := 1) (fun _ => rfl) (fun _ => .inl rfl)))) (dg_name (j := 3) (fun _ => rfl) (fun _ => .inl rfl) (fun _ => .inl rfl)) gp_name (npl rfl) (dss_one (ds_for (di_tup (de_ix (de_var (j := 1) (fun _ => rfl) (fun _ => .inl rfl)) (de_var (j := 3) (fun _ => rfl) (fun _ => .inl rfl)) (fun _ _ => rfl))) (dg_name (j := 4) (fun _ => rfl) (fun _ => .inl rfl) (fun _ => .inl rfl)) gp_name (npl rfl) (dss_one (ds_dputK (j := 2) (fun _ => rfl) (fun _ => .inr (.inl rfl)) (de_var (j := 4) (fun _ => rfl) (fun _ => .inl rfl)) (de_var (j := 3) (fun _ => rfl) (fun _ => .inl rfl)))))))
    (dss_cons (ds_setLc (j := 5) (fun _ => rfl) (fun _ => rfl) (np rfl) (fun _ => rfl) (own := [(("n" : Str), 6)]) (di_range1 (fun _ => rfl) m_range (de_len (fun _ => rfl) m_len (DE.db (de_ix (de_var (j := 0) (fun _ => rfl) (fun _ => .inr (.inl rfl))) de_int (fun _ _ => rfl))))) (dg_name (j := 6) (fun _ => rfl) (fun _ => .inl rfl) (fun _ => .inr rfl)) (dts_one (DW.dt (dw_and (dt_dinK (j := 2) (de_ix (de_ix (de_ix (de_var (j := 0) (fun _ => rfl) (fun _ => .inr (.inl rfl))) de_int (fun _ _ => rfl)) (de_var (j := 6) (fun _ => rfl) (fun _ => .inl rfl)) (fun _ _ => rfl)) de_int (fun _ _ => rfl)) (fun _ => rfl) (fun _ => .inr (.inl rfl))) (dw_and1 (dt_dinK (j := 2) (de_ix (de_ix (de_ix (de_var (j := 0) (fun _ => rfl) (fun _ => .inr (.inl rfl))) de_int (fun _ _ => rfl)) (de_var (j := 6) (fun _ => rfl) (fun _ => .inl rfl)) (fun _ _ => rfl)) de_int (fun _ _ => rfl)) (fun _ => rfl) (fun _ => .inr (.inl rfl))))))) (de_var (j := 6) (fun _ => rfl) (fun _ => .inl rfl)) (fun _ => blk_ok rfl) (pil rfl))
    (dss_one (ds_ret (de_tupleOf (fun _ => rfl) m_tuple (DE.db (de_lc (own := [(("n" : Str), 6)]) (di_list (de_var (j := 5) (fun _ => rfl) (fun _ => .inl rfl))) (dg_name (j := 6) (fun _ => rfl) (fun _ => .inl rfl) (fun _ => .inr rfl)) (dts_one (dt_ne (de_dgetK (j := 2) (fun _ => rfl) (fun _ => .inr (.inl rfl)) (de_ix (de_ix (de_ix (de_var (j := 0) (fun _ => rfl) (fun _ => .inr (.inl rfl))) de_int (fun _ _ => rfl)) (de_var (j := 6) (fun _ => rfl) (fun _ => .inl rfl)) (fun _ _ => rfl)) de_int (fun _ _ => rfl)) (fun _ _ => rfl)) (de_dgetK (j := 2) (fun _ => rfl) (fun _ => .inr (.inl rfl)) (de_ix (de_ix (de_ix (de_var (j := 0) (fun _ => rfl) (fun _ => .inr (.inl rfl))) de_int (fun _ _ => rfl)) (de_var (j := 6) (fun _ => rfl) (fun _ => .inl rfl)) (fun _ _ => rfl)) de_int (fun _ _ => rfl)) (fun _ _ => rfl)))) (de_var (j := 6) (fun _ => rfl) (fun _ => .inl rfl)) (fun _ => blk_ok rfl) (pil rfl))))))))))
abbrev s__law_inside : Stmt := topS 38
theorem sc__law_inside : FnScope ["web", "places", "n"] ["web", "places"] (defScope s__law_inside) := ⟨rfl, rfl, rfl, by decide +kernel, rfl, by decide +kernel, by decide +kernel⟩
theorem ok__law_inside {f : Addr} {fd : FuncData} (F : Fun K "_law_inside" "_law_inside" s__law_inside f fd) (m_len : mg "len" = none) (m_range : mg "range" = none) (m_tuple : mg "tuple" = none) :
    FnOk P w K mg base (L2.CX P w) 1 f fd ["web", "places"] (SpZ K mg 2 [] fm__law_inside) :=
  fn_okZ (k := 0) (N := ["web", "places", "n"]) (prot := []) F sc__law_inside fun cdv A outer s H E hr =>
    ((dss_one (ds_ret (de_tupleOf (fun _ => rfl) m_tuple (DE.db (de_lc (own := [(("n" : Str), 2)]) (di_range1 (fun _ => rfl) m_range (de_len (fun _ => rfl) m_len (DE.db (de_ix (de_var (j := 0) (fun _ => rfl) (fun _ => .inr (.inl rfl))) de_int (fun _ _ => rfl))))) (dg_name (j := 2) (fun _ => rfl) (fun _ => .inl rfl) (fun _ => .inr rfl)) (dts_one (DW.dt (dw_and (dt_in (de_ix (de_ix (de_ix (de_var (j := 0) (fun _ => rfl) (fun _ => .inr (.inl rfl))) de_int (fun _ _ => rfl)) (de_var (j := 2) (fun _ => rfl) (fun _ => .inl rfl)) (fun _ _ => rfl)) de_int (fun _ _ => rfl)) (de_var (j := 1) (fun _ => rfl) (fun _ => .inr (.inl rfl))) rfl) (dw_and1 (dt_in (de_ix (de_ix (de_ix (de_var (j := 0) (fun _ => rfl) (fun _ => .inr (.inl rfl))) de_int (fun _ _ => rfl)) (de_var (j := 2) (fun _ => rfl) (fun _ => .inl rfl)) (fun _ _ => rfl)) de_int (fun _ _ => rfl)) (de_var (j := 1) (fun _ => rfl) (fun _ => .inr (.inl rfl))) rfl))))) (de_var (j := 2) (fun _ => rfl) (fun _ => .inl rfl)) (fun _ => blk_ok rfl) (pil rfl)))))))
abbrev s__law_name : Stmt := topS 40
theorem sc__law_name : FnScope ["ask", "error", "names"] ["ask"] (defScope s__law_name) := ⟨rfl, rfl, rfl, by decide +kernel, rfl, by decide +kernel, by decide +kernel⟩
theorem hs__law_name {ι : Type} {Z : Cz ι} {hk : 1 ≤ Z.k} {hcm : Z.cm} {nd : (["ask", "error", "names"] : List Str).Nodup} {g cdg}  (m_isinstance : Z.mg "isinstance" = none) (m_len : Z.mg "len" = none) (m_ValueError : Z.mg "ValueError" = none) (hx : HandX Z.K Z.mg cl_k07 xl_k07 isx_k07) : ∀ a D c, c ∈ cl_k07 → Z.mg c = some (.ref D) → ExcC Z.K D → DSs (Zsu (Zhd Z hk hcm ["ask", "error", "names"] nd "_law_name" (defScope s__law_name) g cdg) a D) (suiteOf s__law_name) (ms__law_name a c) := fun a D c hc hD hC => by
    obtain ⟨CNoParting, mNoParting, kNoParting⟩ := hx.o c hc D hD "NoParting" (by decide +kernel)
    obtain ⟨CNoPlaces, mNoPlaces, kNoPlaces⟩ := hx.o c hc D hD "NoPlaces" (by decide +kernel)
    obtain ⟨CNoWeb, mNoWeb, kNoWeb⟩ := hx.o c hc D hD "NoWeb" (by decide +kernel)
    exact (dss_cons (ds_setO (j := 2) (fun _ => rfl) (fun _ => .inl rfl) (np rfl) (do_lst da_nil) (fun _ => rfl) (fun _ => .inl rfl))
    (dss_cons (ds_if (dt_truth (DE.db (de_isE (j := 1) hC (fun _ => rfl) (fun _ => .inl rfl) (fun _ => rfl) m_isinstance (fun _ => rfl) mNoParting kNoParting)) (fun _ _ => rfl)) (dss_one (ds_append (j := 2) (fun _ => rfl) (fun _ => .inl rfl) de_str)) dss_nil)
    (dss_cons (ds_if (dt_truth (DE.db (de_isE (j := 1) hC (fun _ => rfl) (fun _ => .inl rfl) (fun _ => rfl) m_isinstance (fun _ => rfl) mNoPlaces kNoPlaces)) (fun _ _ => rfl)) (dss_one (ds_append (j := 2) (fun _ => rfl) (fun _ => .inl rfl) de_str)) dss_nil)
    (dss_cons (ds_if (dt_truth (DE.db (de_isE (j := 1) hC (fun _ => rfl) (fun _ => .inl rfl) (fun _ => rfl) m_isinstance (fun _ => rfl) mNoWeb kNoWeb)) (fun _ _ => rfl)) (dss_one (ds_append (j := 2) (fun _ => rfl) (fun _ => .inl rfl) de_str)) dss_nil)
    (dss_one (ds_ret (de_if (DW.dt (dw_and (dt_eq (de_len (fun _ => rfl) m_len (db_var (j := 2) (fun _ => rfl) (fun _ => .inl rfl))) de_int) (dw_and1 (dt_truth (DE.db (de_isEb (j := 1) (T := "ValueError") hC (fun _ => rfl) (fun _ => .inl rfl) (fun _ => rfl) m_isinstance (fun _ => rfl) m_ValueError (by decide +kernel) (hx.b c hc D hD))) (fun _ _ => rfl))))) (de_ixOwn (j := 2) (fun _ => rfl) (fun _ => .inl rfl) de_int (fun _ _ => rfl)) de_str)))))))
abbrev s__law_near : Stmt := topS 41
theorem sc__law_near : FnScope ["draws", "web", "parting", "many", "some", "lot"] ["draws", "web", "parting"] (defScope s__law_near) := ⟨rfl, rfl, rfl, by decide +kernel, rfl, by decide +kernel, by decide +kernel⟩
theorem ok__law_near {f : Addr} {fd : FuncData} (F : Fun K "_law_near" "_law_near" s__law_near f fd) (m_tuple : mg "tuple" = none) (m_range : mg "range" = none) (m_list : mg "list" = none) (m_len : mg "len" = none) {f__law_take : Addr} {d__law_take : FuncData} (E__law_take : FnE K mg "_law_take" s__law_take ["draws", "many"] f__law_take d__law_take) (G__law_take : FnOk P w K mg base (L2.CX P w) 1 f__law_take d__law_take ["draws", "many"] (SpZ K mg 2 [0] fm__law_take)) :
    FnOk P w K mg base (L2.CX P w) 2 f fd ["draws", "web", "parting"] (SpZ K mg 3 [0] fm__law_near) :=
  fn_okZ (k := 1) (N := ["draws", "web", "parting", "many", "some", "lot"]) (prot := [0]) F sc__law_near fun cdv A outer s H E hr =>
    ((dss_cons (ds_set (j := 3) (fun _ => rfl) (fun _ => .inl rfl) (np rfl) (de_ix (de_var (j := 1) (fun _ => rfl) (fun _ => .inl rfl)) de_int (fun _ _ => rfl)) (fun _ => rfl) (fun _ => .inl rfl))
    (dss_cons (ds_setO (j := 4) (fun _ => rfl) (fun _ => .inl rfl) (np rfl) (do_lst (da_cons de_non (da_cons (de_tup da_nil) (da_cons (de_listOf (fun _ => rfl) m_list (db_var (j := 2) (fun _ => rfl) (fun _ => .inl rfl))) (da_cons (de_add (de_var (j := 2) (fun _ => rfl) (fun _ => .inl rfl)) (de_tup (da_cons (de_tup da_nil) da_nil))) (da_cons (de_add (de_var (j := 2) (fun _ => rfl) (fun _ => .inl rfl)) (de_tup (da_cons (de_tup (da_cons (de_var (j := 3) (fun _ => rfl) (fun _ => .inl rfl)) da_nil)) da_nil))) (da_cons (de_add (de_var (j := 2) (fun _ => rfl) (fun _ => .inl rfl)) (de_tup (da_cons (de_tup (da_cons de_int da_nil)) da_nil))) (da_cons (de_sl (de_var (j := 2) (fun _ => rfl) (fun _ => .inl rfl)) (dp_some de_int) dp_none) (da_cons (de_repT (de_tup (da_cons (de_tupRg1 (fun _ => rfl) m_tuple (fun _ => rfl) m_range (de_var (j := 3) (fun _ => rfl) (fun _ => .inl rfl))) da_nil)) de_int) da_nil))))))))) (fun _ => rfl) (fun _ => .inl rfl))
    (dss_cons (ds_setO (j := 4) (fun _ => rfl) (fun _ => .inl rfl) (np rfl) (do_addOwn (j := 4) (fun _ => rfl) (fun _ => .inl rfl) (de_lst (da_cons (de_tupleOf (fun _ => rfl) m_tuple (DE.db (de_lc (own := [(("lot" : Str), 5)]) (di_tup (de_var (j := 2) (fun _ => rfl) (fun _ => .inl rfl))) (dg_name (j := 5) (fun _ => rfl) (fun _ => .inl rfl) (fun _ => .inr rfl)) dts_nil (de_listOf (fun _ => rfl) m_list (db_var (j := 5) (fun _ => rfl) (fun _ => .inl rfl))) (fun _ => blk_ok rfl) (pil rfl)))) (da_cons (de_add (de_tup (da_cons (de_tup (da_cons de_int (da_cons de_int da_nil))) da_nil)) (de_sl (de_var (j := 2) (fun _ => rfl) (fun _ => .inl rfl)) (dp_some de_int) dp_none)) (da_cons (de_tup (da_cons (de_add (de_revT (de_tupRg1 (fun _ => rfl) m_tuple (fun _ => rfl) m_range (de_var (j := 3) (fun _ => rfl) (fun _ => .inl rfl)))) (de_tup (da_cons de_int da_nil))) da_nil)) (da_cons (de_add (de_tup (da_cons (de_tup (da_cons de_bl da_nil)) da_nil)) (de_var (j := 2) (fun _ => rfl) (fun _ => .inl rfl))) da_nil)))))) (fun _ => rfl) (fun _ => .inl rfl))
    (dss_cons (ds_if (dt_gt (de_len (fun _ => rfl) m_len (db_var (j := 2) (fun _ => rfl) (fun _ => .inl rfl))) de_int) (dss_one (ds_append (j := 4) (fun _ => rfl) (fun _ => .inl rfl) (de_revT (de_var (j := 2) (fun _ => rfl) (fun _ => .inl rfl))))) dss_nil)
    (dss_one (ds_ret (de_ixOwn (j := 4) (fun _ => rfl) (fun _ => .inl rfl) (de_callOwn (j := 0) G__law_take (Nat.le_of_ble_eq_true rfl) (fun _ => rfl) E__law_take.g E__law_take.F.kp E__law_take.b rfl (List.mem_singleton.mpr rfl) (fun _ => rfl) (fun _ => .inl rfl) (da_cons (de_len (fun _ => rfl) m_len (db_var (j := 4) (fun _ => rfl) (fun _ => .inl rfl))) da_nil)) (fun _ _ => rfl)))))))))
abbrev s_law : Stmt := topS 42
theorem sc_law : FnScope ["script", "draws", "web", "every", "turn", "parting", "places", "whole", "lot", "bad", "place", "?t"] ["script"] (defScope s_law) := ⟨rfl, rfl, rfl, by decide +kernel, rfl, by decide +kernel, by decide +kernel⟩
theorem ok_law {f : Addr} {fd : FuncData} (F : Fun K "law" "law" s_law f fd) {cT tP : Addr} (hcT : fd.code = .ref cT) (TB : LamX.TabB base mg cT tP) (m_list : mg "list" = none) (m_range : mg "range" = none) (m_len : mg "len" = none) (m_sorted : mg "sorted" = none) (m_tuple : mg "tuple" = none) (m_isinstance : mg "isinstance" = none) (m_ValueError : mg "ValueError" = none) {f__law_draws : Addr} {d__law_draws : FuncData} (E__law_draws : FnE K mg "_law_draws" s__law_draws ["script", "many"] f__law_draws d__law_draws) (G__law_draws : FnOk P w K mg base (L2.CX P w) 1 f__law_draws d__law_draws ["script", "many"] (SpZ K mg 2 [] fm__law_draws)) {f__law_web : Addr} {d__law_web : FuncData} (E__law_web : FnE K mg "_law_web" s__law_web ["draws", "least", "most", "ties"] f__law_web d__law_web) (G__law_web : FnOk P w K mg base (L2.CX P w) 2 f__law_web d__law_web ["draws", "least", "most", "ties"] (SpZ K mg 4 [0] fm__law_web)) {f__law_partings : Addr} {d__law_partings : FuncData} (E__law_partings : FnE K mg "_law_partings" s__law_partings ["some"] f__law_partings d__law_partings) (G__law_partings : FnOk P w K mg base (L2.CX P w) 1 f__law_partings d__law_partings ["some"] (SpZ K mg 1 [] fm__law_partings)) {f__law_near : Addr} {d__law_near : FuncData} (E__law_near : FnE K mg "_law_near" s__law_near ["draws", "web", "parting"] f__law_near d__law_near) (G__law_near : FnOk P w K mg base (L2.CX P w) 2 f__law_near d__law_near ["draws", "web", "parting"] (SpZ K mg 3 [0] fm__law_near)) {f_between : Addr} {d_between : FuncData} (E_between : FnE K mg "between" s_between ["web", "parting"] f_between d_between) (G_between : FnOk P w K mg base (L2.CX P w) 6 f_between d_between ["web", "parting"] (SpZ K mg 2 [] fm_between)) {f_inside : Addr} {d_inside : FuncData} (E_inside : FnE K mg "inside" s_inside ["web", "places"] f_inside d_inside) (G_inside : FnOk P w K mg base (L2.CX P w) 6 f_inside d_inside ["web", "places"] (SpZ K mg 2 [] fm_inside)) {f__law_inside : Addr} {d__law_inside : FuncData} (E__law_inside : FnE K mg "_law_inside" s__law_inside ["web", "places"] f__law_inside d__law_inside) (G__law_inside : FnOk P w K mg base (L2.CX P w) 1 f__law_inside d__law_inside ["web", "places"] (SpZ K mg 2 [] fm__law_inside)) {f_parts_by : Addr} {d_parts_by : FuncData} (E_parts_by : FnE K mg "parts_by" s_parts_by ["web", "lot"] f_parts_by d_parts_by) (G_parts_by : FnOk P w K mg base (L2.CX P w) 7 f_parts_by d_parts_by ["web", "lot"] (SpZ K mg 2 [] fm_parts_by)) {f__law_name : Addr} {d__law_name : FuncData} (E__law_name : FnE K mg "_law_name" s__law_name ["ask"] f__law_name d__law_name) (H__law_name : Hand K mg "TreeError" cl_k07 ["ask", "error", "names"] 1 ms__law_name hd_k07_law_name) (X__law_name : HandX K mg cl_k07 xl_k07 isx_k07) {f_is_parting : Addr} {d_is_parting : FuncData} (E_is_parting : FnE K mg "is_parting" s_is_parting ["web", "thing"] f_is_parting d_is_parting) (G_is_parting : FnOk P w K mg base (L2.CX P w) 6 f_is_parting d_is_parting ["web", "thing"] (SpZ K mg 2 [] fm_is_parting)) {f__law_between : Addr} {d__law_between : FuncData} (E__law_between : FnE K mg "_law_between" s__law_between ["web", "parting"] f__law_between d__law_between) (G__law_between : FnOk P w K mg base (L2.CX P w) 1 f__law_between d__law_between ["web", "parting"] (SpZ K mg 2 [] fm__law_between)) {f__law_take : Addr} {d__law_take : FuncData} (E__law_take : FnE K mg "_law_take" s__law_take ["draws", "many"] f__law_take d__law_take) (G__law_take : FnOk P w K mg base (L2.CX P w) 1 f__law_take d__law_take ["draws", "many"] (SpZ K mg 2 [0] fm__law_take)) (lt : ∀ ns : List Int, ns.length ≤ 63 → ∃ ρ', bd_law tP (startT 12 11 tP "law.<locals>.<lambda>" ns) = .ok (.rt (.val (.bool true)), ρ')) :
    FnOk P w K mg base (L2.CX P w) 9 f fd ["script"] (spLawT 63 tP) :=
  law_ofT (k := 8) (N := ["script", "draws", "web", "every", "turn", "parting", "places", "whole", "lot", "bad", "place", "?t"]) (j := 11) (q := "law.<locals>.<lambda>") (m := bd_law tP) F hcT sc_law rfl (by decide) (by unfold Vis; decide +kernel) (fun A outer s H E hr =>
    ((dss_cons (ds_setO (j := 1) (fun _ => rfl) (fun _ => .inr rfl) (np rfl) (do_call G__law_draws (Nat.le_of_ble_eq_true rfl) (fun _ => rfl) E__law_draws.g E__law_draws.F.kp E__law_draws.b rfl (da_cons (de_var (j := 0) (fun _ => rfl) (fun _ => .inl rfl)) (da_cons de_int da_nil))) (fun _ => rfl) (fun _ => .inl rfl))
    (dss_cons (ds_set (j := 2) (fun _ => rfl) (fun _ => .inr rfl) (np rfl) (de_callOwn (j := 1) G__law_web (Nat.le_of_ble_eq_true rfl) (fun _ => rfl) E__law_web.g E__law_web.F.kp E__law_web.b rfl (List.mem_singleton.mpr rfl) (fun _ => rfl) (fun _ => .inr (.inl rfl)) (da_cons de_int (da_cons de_int (da_cons de_int da_nil)))) (fun _ => rfl) (fun _ => .inl rfl))
    (dss_cons (ds_set (j := 3) (fun _ => rfl) (fun _ => .inl rfl) (np rfl) (de_call G__law_partings (Nat.le_of_ble_eq_true rfl) (fun _ => rfl) E__law_partings.g E__law_partings.F.kp E__law_partings.b rfl (da_cons (de_listRg1 (fun _ => rfl) m_list (fun _ => rfl) m_range (de_ix (de_var (j := 2) (fun _ => rfl) (fun _ => .inr (.inl rfl))) de_int (fun _ _ => rfl))) da_nil)) (fun _ => rfl) (fun _ => .inl rfl))
    (dss_cons (ds_for (di_range1 (fun _ => rfl) m_range de_int) (dg_name (j := 4) (fun _ => rfl) (fun _ => .inl rfl) (fun _ => .inl rfl)) gp_name (npl rfl) (dss_cons (ds_set (j := 5) (fun _ => rfl) (fun _ => .inl rfl) (np rfl) (de_tupleOf (fun _ => rfl) m_tuple (DE.db (de_sorted (fun _ => rfl) m_sorted (DE.db (de_ix (de_var (j := 3) (fun _ => rfl) (fun _ => .inl rfl)) (de_callOwn (j := 1) G__law_take (Nat.le_of_ble_eq_true rfl) (fun _ => rfl) E__law_take.g E__law_take.F.kp E__law_take.b rfl (List.mem_singleton.mpr rfl) (fun _ => rfl) (fun _ => .inr (.inl rfl)) (da_cons (de_len (fun _ => rfl) m_len (db_var (j := 3) (fun _ => rfl) (fun _ => .inl rfl))) da_nil)) (fun _ _ => rfl)))))) (fun _ => rfl) (fun _ => .inl rfl))
    (dss_cons (ds_set (j := 6) (fun _ => rfl) (fun _ => .inl rfl) (np rfl) (de_tupleOf (fun _ => rfl) m_tuple (DE.db (de_lc (own := [(("place" : Str), 10)]) (di_range1 (fun _ => rfl) m_range (de_ix (de_var (j := 2) (fun _ => rfl) (fun _ => .inr (.inl rfl))) de_int (fun _ _ => rfl))) (dg_name (j := 10) (fun _ => rfl) (fun _ => .inl rfl) (fun _ => .inr rfl)) (dts_one (dt_eq (de_callOwn (j := 1) G__law_take (Nat.le_of_ble_eq_true rfl) (fun _ => rfl) E__law_take.g E__law_take.F.kp E__law_take.b rfl (List.mem_singleton.mpr rfl) (fun _ => rfl) (fun _ => .inr (.inl rfl)) (da_cons de_int da_nil)) de_int)) (de_var (j := 10) (fun _ => rfl) (fun _ => .inl rfl)) (fun _ => blk_ok rfl) (pil rfl)))) (fun _ => rfl) (fun _ => .inl rfl))
    (dss_cons (ds_if (DW.dt (dw_or (dt_notB (de_call G_is_parting (Nat.le_of_ble_eq_true rfl) (fun _ => rfl) E_is_parting.g E_is_parting.F.kp E_is_parting.b rfl (da_cons (de_var (j := 2) (fun _ => rfl) (fun _ => .inr (.inl rfl))) (da_cons (de_var (j := 5) (fun _ => rfl) (fun _ => .inl rfl)) da_nil))) de_bl) (dw_or1 (dt_ne (de_call G_between (Nat.le_of_ble_eq_true rfl) (fun _ => rfl) E_between.g E_between.F.kp E_between.b rfl (da_cons (de_var (j := 2) (fun _ => rfl) (fun _ => .inr (.inl rfl))) (da_cons (de_var (j := 5) (fun _ => rfl) (fun _ => .inl rfl)) da_nil))) (de_call G__law_between (Nat.le_of_ble_eq_true rfl) (fun _ => rfl) E__law_between.g E__law_between.F.kp E__law_between.b rfl (da_cons (de_var (j := 2) (fun _ => rfl) (fun _ => .inr (.inl rfl))) (da_cons (de_var (j := 5) (fun _ => rfl) (fun _ => .inl rfl)) da_nil))))))) (dss_one (ds_ret de_bl)) dss_nil)
    (dss_cons (ds_if (dt_ne (de_call G_inside (Nat.le_of_ble_eq_true rfl) (fun _ => rfl) E_inside.g E_inside.F.kp E_inside.b rfl (da_cons (de_var (j := 2) (fun _ => rfl) (fun _ => .inr (.inl rfl))) (da_cons (de_var (j := 6) (fun _ => rfl) (fun _ => .inl rfl)) da_nil))) (de_call G__law_inside (Nat.le_of_ble_eq_true rfl) (fun _ => rfl) E__law_inside.g E__law_inside.F.kp E__law_inside.b rfl (da_cons (de_var (j := 2) (fun _ => rfl) (fun _ => .inr (.inl rfl))) (da_cons (de_var (j := 6) (fun _ => rfl) (fun _ => .inl rfl)) da_nil)))) (dss_one (ds_ret de_bl)) dss_nil)
    (dss_cons (ds_setO (j := 7) (fun _ => rfl) (fun _ => .inl rfl) (np rfl) (do_listOf (fun _ => rfl) m_list (de_call G_between (Nat.le_of_ble_eq_true rfl) (fun _ => rfl) E_between.g E_between.F.kp E_between.b rfl (da_cons (de_var (j := 2) (fun _ => rfl) (fun _ => .inr (.inl rfl))) (da_cons (de_var (j := 5) (fun _ => rfl) (fun _ => .inl rfl)) da_nil)))) (fun _ => rfl) (fun _ => .inl rfl))
    (dss_cons (ds_for (di_tup (de_var (j := 5) (fun _ => rfl) (fun _ => .inl rfl))) (dg_name (j := 8) (fun _ => rfl) (fun _ => .inl rfl) (fun _ => .inl rfl)) gp_name (npl rfl) (dss_one (ds_extend (j := 7) (fun _ => rfl) (fun _ => .inl rfl) (de_listOf (fun _ => rfl) m_list (DE.db (de_call G_inside (Nat.le_of_ble_eq_true rfl) (fun _ => rfl) E_inside.g E_inside.F.kp E_inside.b rfl (da_cons (de_var (j := 2) (fun _ => rfl) (fun _ => .inr (.inl rfl))) (da_cons (de_var (j := 8) (fun _ => rfl) (fun _ => .inl rfl)) da_nil))))))))
    (dss_cons (ds_if (dt_ne (de_sorted (fun _ => rfl) m_sorted (db_var (j := 7) (fun _ => rfl) (fun _ => .inl rfl))) (de_listRg1 (fun _ => rfl) m_list (fun _ => rfl) m_range (de_len (fun _ => rfl) m_len (DE.db (de_ix (de_var (j := 2) (fun _ => rfl) (fun _ => .inr (.inl rfl))) de_int (fun _ _ => rfl)))))) (dss_one (ds_ret de_bl)) dss_nil)
    (dss_cons (ds_set (j := 9) (fun _ => rfl) (fun _ => .inr rfl) (np rfl) (de_callOwn (j := 1) G__law_near (Nat.le_of_ble_eq_true rfl) (fun _ => rfl) E__law_near.g E__law_near.F.kp E__law_near.b rfl (List.mem_singleton.mpr rfl) (fun _ => rfl) (fun _ => .inr (.inl rfl)) (da_cons (de_var (j := 2) (fun _ => rfl) (fun _ => .inr (.inl rfl))) (da_cons (de_var (j := 5) (fun _ => rfl) (fun _ => .inl rfl)) da_nil))) (fun _ => rfl) (fun _ => .inl rfl))
    (dss_one (ds_if (DW.dt (dw_or (dt_notB (de_call G_is_parting (Nat.le_of_ble_eq_true rfl) (fun _ => rfl) E_is_parting.g E_is_parting.F.kp E_is_parting.b rfl (da_cons (de_var (j := 2) (fun _ => rfl) (fun _ => .inr (.inl rfl))) (da_cons (de_var (j := 9) (fun _ => rfl) (fun _ => .inr (.inl rfl))) da_nil))) de_bl) (dw_or1 (dt_ne (de_lam (k := 6) E__law_name sc__law_name (fun _ => rfl) rfl (.inl rfl) H__law_name (fun i cdv => gives_try (hk := Nat.le_of_ble_eq_true rfl) (hcm := trivial) (nd := sc__law_name.nd) H__law_name (hs__law_name m_isinstance m_len m_ValueError X__law_name) rfl (by decide) rfl rfl (by decide) i) (fun _ => rfl) TB (fun _ => rfl) (Nat.le_of_ble_eq_true rfl) (fun _ => LamX.lamS_by rfl) (fun _ => rfl) (fun _ _ _ _ _ => rfl) fun EX => (de_call G_between (Nat.le_of_ble_eq_true rfl) (fun _ => rfl) E_between.g E_between.F.kp E_between.b rfl (da_cons (de_var (j := 2) (fun _ => rfl) (fun _ => .inr (.inr rfl))) (da_cons (de_var (j := 9) (fun _ => rfl) (fun _ => .inr (.inr rfl))) da_nil)))) de_str)))) (dss_one (ds_ret de_bl)) dss_nil)))))))))))
    (dss_cons (ds_if (dt_ne (de_call G_between (Nat.le_of_ble_eq_true rfl) (fun _ => rfl) E_between.g E_between.F.kp E_between.b rfl (da_cons (de_var (j := 2) (fun _ => rfl) (fun _ => .inr (.inl rfl))) (da_cons (de_call G_parts_by (Nat.le_of_ble_eq_true rfl) (fun _ => rfl) E_parts_by.g E_parts_by.F.kp E_parts_by.b rfl (da_cons (de_var (j := 2) (fun _ => rfl) (fun _ => .inr (.inl rfl))) (da_cons (de_tupRg1 (fun _ => rfl) m_tuple (fun _ => rfl) m_range (de_len (fun _ => rfl) m_len (DE.db (de_ix (de_var (j := 2) (fun _ => rfl) (fun _ => .inr (.inl rfl))) de_int (fun _ _ => rfl))))) da_nil))) da_nil))) (de_tup da_nil)) (dss_one (ds_ret de_bl)) dss_nil)
    (dss_cons (ds_for (di_tup (de_tup (da_cons (de_tup (da_cons (de_ix (de_var (j := 2) (fun _ => rfl) (fun _ => .inr (.inl rfl))) de_int (fun _ _ => rfl)) da_nil)) (da_cons (de_tup (da_cons de_int (da_cons de_int da_nil))) (da_cons (de_lst (da_cons de_int da_nil)) (da_cons de_non (da_cons (de_tup (da_cons (de_neg (DE.db de_int)) da_nil)) (da_cons (de_tup (da_cons de_bl da_nil)) da_nil)))))))) (dg_name (j := 9) (fun _ => rfl) (fun _ => .inr rfl) (fun _ => .inl rfl)) gp_name (npl rfl) (dss_one (ds_if (dt_ne (de_lam (k := 6) E__law_name sc__law_name (fun _ => rfl) rfl (.inl rfl) H__law_name (fun i cdv => gives_try (hk := Nat.le_of_ble_eq_true rfl) (hcm := trivial) (nd := sc__law_name.nd) H__law_name (hs__law_name m_isinstance m_len m_ValueError X__law_name) rfl (by decide) rfl rfl (by decide) i) (fun _ => rfl) TB (fun _ => rfl) (Nat.le_of_ble_eq_true rfl) (fun _ => LamX.lamS_by rfl) (fun _ => rfl) (fun _ _ _ _ _ => rfl) fun EX => (de_call G_inside (Nat.le_of_ble_eq_true rfl) (fun _ => rfl) E_inside.g E_inside.F.kp E_inside.b rfl (da_cons (de_var (j := 2) (fun _ => rfl) (fun _ => .inr (.inr rfl))) (da_cons (de_var (j := 9) (fun _ => rfl) (fun _ => .inr (.inr rfl))) da_nil)))) de_str) (dss_one (ds_ret de_bl)) dss_nil)))
    (dss_one (ds_ret de_bl)))))))))) lt
end
end ZZ

/-! G1: webs, heads, ranks -/
namespace ZZ
open PySem PySem.Spec PyProof.Rows L2 Ob
abbrev lotD (l : List Nat) : PyData := .tuple (nL l)
abbrev tieD (p : Nat × Nat) : PyData := .tuple [.int p.1, .int p.2]
abbrev webD (n : Nat) (ts : List (Nat × Nat)) : PyData := .tuple [.int n, .tuple (ts.map tieD)]
structure OkWeb (n : Nat) (ts : List (Nat × Nat)) : Prop where
  n1 : 1 ≤ n
  n2 : n ≤ 12
  t : ts.length ≤ 40
  e : ∀ p ∈ ts, p.1 < p.2 ∧ p.2 < n
structure OkLot (ts : List (Nat × Nat)) (l : List Nat) : Prop where
  r : l.Pairwise (· < ·)
  m : ∀ i ∈ l, i < ts.length
theorem ix0 {a b : PyData} : sIx (.tuple [a, b]) (.int 0) = .ok a := rfl
theorem ix1 {a b : PyData} : sIx (.tuple [a, b]) (.int 1) = .ok b := rfl
def merge (a b : Nat) (hs : List Nat) : List Nat := hs.map fun h => if h = a ∨ h = b then min a b else h
theorem merge_self (a : Nat) (hs : List Nat) : merge a a hs = hs := by
  unfold merge
  conv => rhs; rw [← List.map_id hs]
  refine List.map_congr_left fun h _ => ?_
  split
  · rename_i q; simp; omega
  · rfl
def stepH (ts : List (Nat × Nat)) (hs : List Nat) (i : Nat) : List Nat := merge (hs.getD (ts.getD i (0, 0)).1 0) (hs.getD (ts.getD i (0, 0)).2 0) hs
def heads (n : Nat) (ts : List (Nat × Nat)) (l : List Nat) : List Nat := l.foldl (stepH ts) (List.range n)
theorem stepH_len {ts : List (Nat × Nat)} {hs : List Nat} {i : Nat} : (stepH ts hs i).length = hs.length := by unfold stepH merge; simp
theorem foldH_len {ts : List (Nat × Nat)} : ∀ {l hs : List Nat}, (l.foldl (stepH ts) hs).length = hs.length
  | [], _ => rfl
  | i :: l, hs => by rw [List.foldl_cons, foldH_len, stepH_len]
theorem heads_len {n : Nat} {ts : List (Nat × Nat)} {l : List Nat} : (heads n ts l).length = n := by unfold heads; rw [foldH_len, List.length_range]
theorem tie_lt {n : Nat} {ts : List (Nat × Nat)} (w : OkWeb n ts) {i : Nat} (hi : i < ts.length) : (ts.getD i (0, 0)).1 < n ∧ (ts.getD i (0, 0)).2 < n := by
  have := w.e (ts.getD i (0, 0)) (by rw [List.getD_eq_getElem?_getD, List.getElem?_eq_getElem hi]; exact List.getElem_mem hi)
  omega
theorem ok_lim {n : Nat} {ts : List (Nat × Nat)} (w : OkWeb n ts) : n ≤ 1000000 := Nat.le_trans w.n2 (by decide)
def vals (hs : List Nat) : List Int := dsort (hs.map fun h : Nat => (h : Int))
def partOf (n : Nat) (hs : List Nat) (k : Int) : List Nat := (List.range n).filter fun p => decide (((hs.getD p 0 : Nat) : Int) = k)
def partsD (n : Nat) (hs : List Nat) : PyData := .tuple ((vals hs).map fun k => .tuple (nL (partOf n hs k)))
theorem sor_nL {hs : List Nat} (h : hs.length < 64) : sSorSet (.list (nL hs)) = .ok (.list ((vals hs).map .int)) := by
  unfold sSorSet
  simp only [intsOf_nL]
  rw [if_pos (by simpa using h)]
  rfl
theorem len_nL {hs : List Nat} (h : hs.length ≤ 4000) : sLenSet (.list (nL hs)) = .ok (.int (vals hs).length) := by
  unfold sLenSet
  simp only [intsOf_nL]
  rw [if_pos (by simpa using h)]
  rfl
def rankN (n : Nat) (ts : List (Nat × Nat)) (l : List Nat) : Int := n - ((vals (heads n ts l)).length : Nat)
def takeV (ds : List Int) (m : Int) : Int := match ds.getLast? with
  | some d => d % m
  | none => 0
theorem takeV_ge {ds : List Int} {m : Int} (h : 0 < m) : 0 ≤ takeV ds m ∧ takeV ds m < m := by
  unfold takeV
  split
  · exact ⟨Int.emod_nonneg _ (by omega), Int.emod_lt_of_pos _ h⟩
  · exact ⟨Int.le_refl _, h⟩
theorem ix_iL' {ns : List Int} {k : Nat} (h : k < ns.length) : ∃ z : Int, sIx (.list (iL ns)) (.int (k : Int)) = .ok (.int z) := by
  refine ⟨ns[k], ?_⟩
  show (match atI (iL ns) (k : Int) with | some g => Res.ok g | none => Res.err) = _
  rw [atI_nat' (l := iL ns) (i := k) (by simpa using h)]
  simp
theorem ix_iL {ns : List Int} {i : Int} (h0 : 0 ≤ i) (h1 : i < ns.length) : ∃ z : Int, sIx (.list (iL ns)) (.int i) = .ok (.int z) := by
  obtain ⟨k, rfl⟩ := Int.eq_ofNat_of_zero_le h0
  exact ix_iL' (by omega)
theorem cMul_r {a b : Int} (h : -(2 ^ 64) < b ∧ b < 2 ^ 64) : cMul a b = true := by
  unfold cMul
  simp only [Bool.or_eq_true, Bool.and_eq_true, decide_eq_true_eq]
  exact .inr h
theorem sMul_i {a b : Int} (h : -(2 ^ 64) < b ∧ b < 2 ^ 64) : sI2c cMul (fun i j => .int (i * j)) (.int a) (.int b) = .ok (.int (a * b)) := by
  unfold sI2c
  simp only [cMul_r h, if_true]
theorem sMod_i {a b : Int} (h : 0 < b) : sI2c cMod (fun i j => .int (i % j)) (.int a) (.int b) = .ok (.int (a % b)) := by
  unfold sI2c cMod
  simp only [h, decide_true, if_true]
theorem sFDiv_i {a b : Int} (h : 0 < b ∧ b < 1073741824) : sI2c cDiv (fun i j => .int (i / j)) (.int a) (.int b) = .ok (.int (a / b)) := by
  unfold sI2c cDiv
  simp only [h.1, h.2, decide_true, Bool.and_self, if_true]
theorem sAdd_i (a b : Int) : sAdd (.int a) (.int b) = .ok (.int (a + b)) := nr rfl
theorem sInt_i (a : Int) : sInt (.int a) = .ok (.int a) := nr rfl
theorem tru_iL (ns : List Int) : oTru (.list (iL ns)) = .ok (!ns.isEmpty) := by
  show Res.ok (!(iL ns).isEmpty) = _
  cases ns <;> rfl
theorem sLen_iL (ns : List Int) : sLen (.list (iL ns)) = .ok (.int (ns.length : Nat)) := by
  show Res.ok (PyData.int ((iL ns).length : Nat)) = _
  simp
def Cn (es : List (Nat × Nat)) (u v : Nat) : Prop := ∀ f : Nat → Nat, (∀ p ∈ es, f p.1 = f p.2) → f u = f v
theorem Cn.mono {es es' : List (Nat × Nat)} {u v : Nat} (h : Cn es u v) (s : ∀ p ∈ es, p ∈ es') : Cn es' u v := fun f hf => h f fun p hp => hf p (s p hp)
structure Hd (n : Nat) (es : List (Nat × Nat)) (hs : List Nat) : Prop where
  len : hs.length = n
  lt : ∀ p ∈ es, p.1 < n ∧ p.2 < n
  cn : ∀ u v, u < n → v < n → (hs.getD u 0 = hs.getD v 0 ↔ Cn es u v)
def phi (a b h : Nat) : Nat := if h = a ∨ h = b then min a b else h
theorem merge_at {a b u : Nat} {hs : List Nat} (h : u < hs.length) : (merge a b hs).getD u 0 = phi a b (hs.getD u 0) := by
  unfold merge phi
  simp [List.getD_eq_getElem?_getD, List.getElem?_eq_getElem h]
theorem Hd.step {n : Nat} {es : List (Nat × Nat)} {hs : List Nat} {p : Nat × Nat} (k : Hd n es hs) (h1 : p.1 < n) (h2 : p.2 < n) : Hd n (es ++ [p]) (merge (hs.getD p.1 0) (hs.getD p.2 0) hs) := by
  have hl := k.len
  refine ⟨by unfold merge; simpa using hl, fun q hq => ?_, fun u v hu hv => ?_⟩
  · rcases List.mem_append.mp hq with hq | hq
    · exact k.lt q hq
    · rw [List.mem_singleton.mp hq]; exact ⟨h1, h2⟩
  · rw [merge_at (by omega), merge_at (by omega)]
    constructor
    · intro e f hf
      have ih : ∀ x y, x < n → y < n → hs.getD x 0 = hs.getD y 0 → f x = f y := fun x y hx hy e => (k.cn x y hx hy).mp e f fun q hq => hf q (List.mem_append_left _ hq)
      have fp : f p.1 = f p.2 := hf p (List.mem_append_right _ List.mem_cons_self)
      have fu : hs.getD u 0 = hs.getD p.1 0 ∨ hs.getD u 0 = hs.getD p.2 0 → f u = f p.1 := fun z => z.elim (fun z => ih _ _ hu h1 z) fun z => (ih _ _ hu h2 z).trans fp.symm
      have fv : hs.getD v 0 = hs.getD p.1 0 ∨ hs.getD v 0 = hs.getD p.2 0 → f v = f p.1 := fun z => z.elim (fun z => ih _ _ hv h1 z) fun z => (ih _ _ hv h2 z).trans fp.symm
      unfold phi at e
      by_cases qu : hs.getD u 0 = hs.getD p.1 0 ∨ hs.getD u 0 = hs.getD p.2 0
      · by_cases qv : hs.getD v 0 = hs.getD p.1 0 ∨ hs.getD v 0 = hs.getD p.2 0
        · rw [fu qu, fv qv]
        · rw [if_pos qu, if_neg qv] at e
          exact absurd (by omega) qv
      · by_cases qv : hs.getD v 0 = hs.getD p.1 0 ∨ hs.getD v 0 = hs.getD p.2 0
        · rw [if_neg qu, if_pos qv] at e
          exact absurd (by omega) qu
        · rw [if_neg qu, if_neg qv] at e
          exact ih _ _ hu hv e
    · intro c
      refine c (fun x => phi (hs.getD p.1 0) (hs.getD p.2 0) (hs.getD x 0)) fun q hq => ?_
      rcases List.mem_append.mp hq with hq | hq
      · obtain ⟨q1, q2⟩ := k.lt q hq
        rw [(k.cn q.1 q.2 q1 q2).mpr fun f hf => hf q hq]
      · rw [List.mem_singleton.mp hq]
        unfold phi
        rw [if_pos (.inl rfl), if_pos (.inr rfl)]
def edges (ts : List (Nat × Nat)) (l : List Nat) : List (Nat × Nat) := l.map fun i => ts.getD i (0, 0)
theorem Hd.fold {n : Nat} {ts : List (Nat × Nat)} (w : OkWeb n ts) : ∀ (l : List Nat) {es : List (Nat × Nat)} {hs : List Nat}, Hd n es hs → (∀ i ∈ l, i < ts.length) → Hd n (es ++ edges ts l) (l.foldl (stepH ts) hs)
  | [], es, hs, k, _ => by
    show Hd n (es ++ []) hs
    rw [List.append_nil]
    exact k
  | i :: l, es, hs, k, h => by
    obtain ⟨t1, t2⟩ := tie_lt w (h i List.mem_cons_self)
    have k2 := Hd.fold w l (k.step t1 t2) fun j hj => h j (List.mem_cons_of_mem _ hj)
    rw [List.append_assoc] at k2
    exact k2
theorem Hd.heads {n : Nat} {ts : List (Nat × Nat)} {l : List Nat} (w : OkWeb n ts) (h : ∀ i ∈ l, i < ts.length) : Hd n (edges ts l) (heads n ts l) := by
  have k0 : Hd n [] (List.range n) := by
    refine ⟨by simp, (fun p hp => by cases hp), fun u v hu hv => ?_⟩
    have e : ∀ u, u < n → (List.range n).getD u 0 = u := fun u hu => by simp [List.getD_eq_getElem?_getD, List.getElem?_range hu]
    rw [e u hu, e v hv]
    exact ⟨fun e f _ => by rw [e], fun c => c id fun p hp => by cases hp⟩
  exact k0.fold w l h
theorem sub_len : ∀ {l m : List Int}, l.Nodup → (∀ x ∈ l, x ∈ m) → l.length ≤ m.length
  | [], m, _, _ => by simp
  | x :: l, m, h, s => by
    obtain ⟨h1, h2⟩ := List.nodup_cons.mp h
    have hx := s x List.mem_cons_self
    have := sub_len (m := m.erase x) h2 fun y hy => (List.mem_erase_of_ne (fun e => by subst e; exact h1 hy)).mpr (s y (List.mem_cons_of_mem _ hy))
    rw [List.length_erase_of_mem hx] at this
    have : 0 < m.length := List.length_pos_of_mem hx
    simp
    omega
theorem vals_nodup (hs : List Nat) : (vals hs).Nodup := (dsort_lt _).imp fun h => by omega
theorem mem_vals {hs : List Nat} {k : Int} : k ∈ vals hs ↔ ∃ u, u < hs.length ∧ k = ((hs.getD u 0 : Nat) : Int) := by
  unfold vals
  rw [dsort_mem, List.mem_map]
  constructor
  · rintro ⟨h, hh, rfl⟩
    obtain ⟨u, hu, e⟩ := List.mem_iff_getElem.mp hh
    exact ⟨u, hu, by simp [List.getD_eq_getElem?_getD, List.getElem?_eq_getElem hu, e]⟩
  · rintro ⟨u, hu, rfl⟩
    exact ⟨hs[u], List.getElem_mem hu, by simp [List.getD_eq_getElem?_getD, List.getElem?_eq_getElem hu]⟩
theorem cnt_le {hs hs' : List Nat} (hl : hs.length = hs'.length) (h : ∀ u v, u < hs.length → v < hs.length → hs'.getD u 0 = hs'.getD v 0 → hs.getD u 0 = hs.getD v 0) : (vals hs).length ≤ (vals hs').length := by
  have : ∀ k ∈ vals hs, k ∈ (vals hs').map fun k' => ((hs.getD ((List.range hs.length).findIdx fun u => decide (((hs'.getD u 0 : Nat) : Int) = k')) 0 : Nat) : Int) := fun k hk => by
    obtain ⟨u, hu, rfl⟩ := mem_vals.mp hk
    refine List.mem_map.mpr ⟨((hs'.getD u 0 : Nat) : Int), mem_vals.mpr ⟨u, by omega, rfl⟩, ?_⟩
    have hx : ∃ x ∈ List.range hs.length, (fun v => decide (((hs'.getD v 0 : Nat) : Int) = ((hs'.getD u 0 : Nat) : Int))) x = true := ⟨u, by simpa using hu, by simp⟩
    have h1 := List.findIdx_lt_length_of_exists hx
    have h2 := List.findIdx_getElem (w := h1)
    rw [List.length_range] at h1
    simp only [List.getElem_range, decide_eq_true_eq] at h2
    have h3 := h _ u h1 hu (by omega)
    rw [h3]
  have := sub_len (vals_nodup hs) this
  rwa [List.length_map] at this
def R (n : Nat) (ts : List (Nat × Nat)) (l : List Nat) : Nat := (vals (heads n ts l)).length
theorem R_le {n : Nat} {ts : List (Nat × Nat)} (w : OkWeb n ts) {l l' : List Nat} (h : ∀ i ∈ l, i < ts.length) (h' : ∀ i ∈ l', i < ts.length) (s : ∀ i ∈ l', i ∈ l) : R n ts l ≤ R n ts l' := by
  have k := Hd.heads w h
  have k' := Hd.heads w h'
  refine cnt_le (by rw [k.len, k'.len]) fun u v hu hv e => ?_
  rw [k.len] at hu hv
  refine (k.cn u v hu hv).mpr (((k'.cn u v hu hv).mp e).mono fun p hp => ?_)
  obtain ⟨i, hi, rfl⟩ := List.mem_map.mp hp
  exact List.mem_map.mpr ⟨i, s i hi, rfl⟩
theorem R_set {n : Nat} {ts : List (Nat × Nat)} (w : OkWeb n ts) {l l' : List Nat} (h : ∀ i ∈ l, i < ts.length) (h' : ∀ i ∈ l', i < ts.length) (s : ∀ i, i ∈ l ↔ i ∈ l') : rankN n ts l = rankN n ts l' := by
  have a := R_le w h h' fun i hi => (s i).mpr hi
  have b := R_le w h' h fun i hi => (s i).mp hi
  unfold R at a b
  unfold rankN
  omega
def dl (n : Nat) (ts : List (Nat × Nat)) (l : List Nat) (t : Nat) : Int := if (heads n ts l).getD (ts.getD t (0, 0)).1 0 = (heads n ts l).getD (ts.getD t (0, 0)).2 0 then 0 else 1
theorem cnt_merge {hs : List Nat} {u v : Nat} (hu : u < hs.length) (hv : v < hs.length) (hne : hs.getD u 0 ≠ hs.getD v 0) : (vals (merge (hs.getD u 0) (hs.getD v 0) hs)).length + 1 = (vals hs).length := by
  generalize ha : hs.getD u 0 = a at *
  generalize hb : hs.getD v 0 = b at *
  have hM : ((max a b : Nat) : Int) ∈ vals hs := by
    by_cases q : a ≤ b
    · exact mem_vals.mpr ⟨v, hv, by rw [hb]; omega⟩
    · exact mem_vals.mpr ⟨u, hu, by rw [ha]; omega⟩
  have e : vals (merge a b hs) = (vals hs).filter fun k => k != ((max a b : Nat) : Int) := by
    refine rise_uniq (dsort_lt _) ((dsort_lt _).filter _) fun k => ?_
    rw [List.mem_filter]
    have hml : (merge a b hs).length = hs.length := by unfold merge; simp
    constructor
    · intro h
      obtain ⟨x, hx, rfl⟩ := mem_vals.mp h
      rw [hml] at hx
      rw [merge_at hx]
      unfold phi
      split
      · refine ⟨?_, by simp only [bne_iff_ne, ne_eq]; omega⟩
        by_cases q : a ≤ b
        · exact mem_vals.mpr ⟨u, hu, by rw [ha]; omega⟩
        · exact mem_vals.mpr ⟨v, hv, by rw [hb]; omega⟩
      · exact ⟨mem_vals.mpr ⟨x, hx, rfl⟩, by simp only [bne_iff_ne, ne_eq]; omega⟩
    · rintro ⟨h, hk⟩
      obtain ⟨x, hx, rfl⟩ := mem_vals.mp h
      have hk : ¬ ((hs.getD x 0 : Nat) : Int) = ((max a b : Nat) : Int) := by simpa using hk
      refine mem_vals.mpr ⟨x, by rw [hml]; exact hx, ?_⟩
      rw [merge_at hx]
      unfold phi
      split <;> omega
  rw [e]
  have e2 := List.Nodup.erase_eq_filter (vals_nodup hs) ((max a b : Nat) : Int)
  rw [← e2, List.length_erase_of_mem hM]
  have := List.length_pos_of_mem hM
  omega
theorem rank_snoc {n : Nat} {ts : List (Nat × Nat)} (w : OkWeb n ts) {l : List Nat} {t : Nat} (ht : t < ts.length) : rankN n ts (l ++ [t]) = rankN n ts l + dl n ts l t := by
  obtain ⟨t1, t2⟩ := tie_lt w ht
  have e : heads n ts (l ++ [t]) = merge ((heads n ts l).getD (ts.getD t (0, 0)).1 0) ((heads n ts l).getD (ts.getD t (0, 0)).2 0) (heads n ts l) := by
    unfold heads
    rw [List.foldl_append]
    rfl
  unfold rankN dl
  rw [e]
  split
  · rename_i q
    rw [q, merge_self]
    omega
  · rename_i q
    have := cnt_merge (hs := heads n ts l) (by rw [heads_len]; exact t1) (by rw [heads_len]; exact t2) q
    omega
theorem dl_mono {n : Nat} {ts : List (Nat × Nat)} (w : OkWeb n ts) {l l' : List Nat} {t : Nat} (ht : t < ts.length) (h : ∀ i ∈ l, i < ts.length) (h' : ∀ i ∈ l', i < ts.length) (s : ∀ i ∈ l, i ∈ l') : dl n ts l' t ≤ dl n ts l t := by
  obtain ⟨t1, t2⟩ := tie_lt w ht
  have k := Hd.heads w h
  have k' := Hd.heads w h'
  unfold dl
  by_cases q : (heads n ts l).getD (ts.getD t (0, 0)).1 0 = (heads n ts l).getD (ts.getD t (0, 0)).2 0
  · have := (k'.cn _ _ t1 t2).mpr (((k.cn _ _ t1 t2).mp q).mono fun p hp => by
      obtain ⟨i, hi, rfl⟩ := List.mem_map.mp hp
      exact List.mem_map.mpr ⟨i, s i hi, rfl⟩)
    rw [if_pos this, if_pos q]
    exact Int.le_refl _
  · rw [if_neg q]
    split <;> omega
theorem dl_01 {n : Nat} {ts : List (Nat × Nat)} {l : List Nat} {t : Nat} : dl n ts l t = 0 ∨ dl n ts l t = 1 := by
  unfold dl
  split
  · exact .inl rfl
  · exact .inr rfl
theorem rank_nil {n : Nat} {ts : List (Nat × Nat)} : rankN n ts [] = 0 := by
  have e : vals (heads n ts []) = (List.range n).map fun h : Nat => (h : Int) := by
    refine rise_uniq (dsort_lt _) ?_ fun k => dsort_mem
    rw [List.pairwise_map]
    exact List.pairwise_lt_range.imp fun h => by omega
  unfold rankN
  rw [e]
  simp
def insNat (x : Nat) : List Nat → List Nat
  | [] => [x]
  | y :: ys => if y < x then y :: insNat x ys else x :: y :: ys
def srt : List Nat → List Nat
  | [] => []
  | x :: xs => insNat x (srt xs)
theorem plt_nat (y x : Nat) : plt (.int y) (.int x) = decide (y < x) := by
  unfold plt
  show (cmpB (decide ((y : Int) < x)) (decide ((x : Int) < y)) == .lt) = _
  by_cases z : y < x
  · have z' : (y : Int) < x := by omega
    simp [cmpB, z, z']
  · have z' : ¬ (y : Int) < x := by omega
    simp only [cmpB, z, z', decide_false, Bool.false_eq_true, if_false]
    split <;> rfl
theorem insP_nL (x : Nat) : ∀ l : List Nat, insP (.int x) (nL l) = nL (insNat x l)
  | [] => rfl
  | y :: ys => by
    show (if plt (.int y) (.int x) = true then PyData.int y :: insP (.int x) (nL ys) else .int x :: .int y :: nL ys) = _
    rw [plt_nat, insP_nL x ys]
    show _ = nL (if y < x then y :: insNat x ys else x :: y :: ys)
    by_cases q : y < x
    · rw [if_pos (by simpa using q), if_pos q]
      rfl
    · rw [if_neg (by simpa using q), if_neg q]
      rfl
theorem psort_nL : ∀ l : List Nat, psort (nL l) = nL (srt l)
  | [] => rfl
  | x :: xs => by
    show insP (.int x) (psort (nL xs)) = _
    rw [psort_nL xs, insP_nL]
    rfl
theorem mem_ins {x k : Nat} : ∀ {l : List Nat}, k ∈ insNat x l ↔ k = x ∨ k ∈ l
  | [] => by simp [insNat]
  | y :: ys => by
    unfold insNat
    split
    · rw [List.mem_cons, mem_ins (l := ys), List.mem_cons]
      constructor
      · rintro (h | h | h) <;> simp [h]
      · rintro (h | h | h) <;> simp [h]
    · simp
theorem mem_srt {k : Nat} : ∀ {l : List Nat}, k ∈ srt l ↔ k ∈ l
  | [] => by simp [srt]
  | x :: xs => by
    show k ∈ insNat x (srt xs) ↔ _
    rw [mem_ins, mem_srt (l := xs), List.mem_cons]
theorem ins_lt {x : Nat} : ∀ {l : List Nat}, l.Pairwise (· < ·) → x ∉ l → (insNat x l).Pairwise (· < ·)
  | [], _, _ => List.pairwise_singleton _ _
  | y :: ys, h, hx => by
    obtain ⟨h1, h2⟩ := List.pairwise_cons.mp h
    simp only [List.mem_cons, not_or] at hx
    unfold insNat
    split
    · rename_i q
      refine List.pairwise_cons.mpr ⟨fun z hz => ?_, ins_lt h2 hx.2⟩
      rcases mem_ins.mp hz with e | hz
      · omega
      · exact h1 z hz
    · rename_i q
      refine List.pairwise_cons.mpr ⟨fun z hz => ?_, h⟩
      rcases List.mem_cons.mp hz with e | hz
      · omega
      · have := h1 z hz; omega
theorem srt_lt : ∀ {l : List Nat}, l.Nodup → (srt l).Pairwise (· < ·)
  | [], _ => .nil
  | x :: xs, h => by
    obtain ⟨h1, h2⟩ := List.nodup_cons.mp h
    exact ins_lt (srt_lt h2) (by rw [mem_srt]; exact h1)
theorem okS_nL (l : List Nat) : okS (nL l) = true := by
  unfold okS
  rw [List.all_eq_true]
  intro d hd
  obtain ⟨i, _, rfl⟩ := List.mem_map.mp hd
  simp only [Bool.and_eq_true, decide_eq_true_eq, List.all_eq_true]
  refine ⟨⟨rfl, by simp [PyData.depth]⟩, fun e he => ?_⟩
  obtain ⟨j, _, rfl⟩ := List.mem_map.mp he
  rfl
theorem sSorted_lot (l : List Nat) : sSorted (lotD l) = .ok (.list (nL (srt l))) := by
  show (if okS (nL l) = true then Res.ok (PyData.list (psort (nL l))) else Res.err) = _
  rw [if_pos (okS_nL l), psort_nL]
def dsn (l : List Nat) : List Nat := (vals l).map Int.toNat
theorem nL_dsn (l : List Nat) : nL (dsn l) = (vals l).map .int := by
  unfold nL dsn
  rw [List.map_map]
  refine List.map_congr_left fun k hk => ?_
  obtain ⟨u, _, rfl⟩ := mem_vals.mp hk
  simp
theorem sSorSet_lot {l : List Nat} (h : l.length < 64) : sSorSet (lotD l) = .ok (.list (nL (dsn l))) := by
  rw [nL_dsn]
  exact sor_nL h
theorem mem_dsn {l : List Nat} {i : Nat} : i ∈ dsn l ↔ i ∈ l := by
  unfold dsn vals
  rw [List.mem_map]
  constructor
  · rintro ⟨k, hk, rfl⟩
    obtain ⟨j, hj, rfl⟩ := List.mem_map.mp (dsort_mem.mp hk)
    simpa using hj
  · intro h
    exact ⟨(i : Int), dsort_mem.mpr (List.mem_map.mpr ⟨i, h, rfl⟩), by simp⟩
theorem dsn_lt (l : List Nat) : (dsn l).Pairwise (· < ·) := by
  unfold dsn
  rw [List.pairwise_map]
  refine List.Pairwise.imp_of_mem (fun {a b} ha hb h => ?_) (dsort_lt (l.map fun h : Nat => (h : Int)))
  obtain ⟨u, _, rfl⟩ := mem_vals.mp (show a ∈ vals l from ha)
  obtain ⟨v, _, rfl⟩ := mem_vals.mp (show b ∈ vals l from hb)
  omega
theorem eqv_lot (a b : List Nat) : PyData.eqv (lotD a) (lotD b) = decide (a = b) := eqvAll_nL a b
theorem keyL_nL : ∀ l : List Nat, keyL (nL l) = some (l.map fun i : Nat => .inl (i : Int))
  | [] => rfl
  | x :: l => by
    show (match keyV (.int x), keyL (nL l) with | some k, some ks => some (k :: ks) | _, _ => none) = _
    rw [keyL_nL l]
    rfl
section
variable {n : Nat} {ts : List (Nat × Nat)}
theorem nL_snoc (l : List Nat) (k : Nat) : nL (l ++ [k]) = nL l ++ [.int k] := by simp [nL]
theorem canLay_parts {hs : List Nat} : ∀ ks : List Int, PyData.canLayAll0 (ks.map fun k => PyData.tuple (nL (partOf n hs k))) = true
  | [] => rfl
  | k :: ks => by
    show ((PyData.tuple (nL (partOf n hs k))).canLay0 && PyData.canLayAll0 (ks.map fun k => PyData.tuple (nL (partOf n hs k)))) = true
    rw [canLay_parts ks, show (PyData.tuple (nL (partOf n hs k))).canLay0 = true from canLay_nL _]
    rfl
theorem depth_parts {hs : List Nat} : ∀ ks : List Int, PyData.depthAll (ks.map fun k => PyData.tuple (nL (partOf n hs k))) ≤ 2
  | [] => by simp [PyData.depthAll]
  | k :: ks => by
    have h1 := depth_parts (hs := hs) ks
    have h2 := depth_nL (partOf n hs k)
    show max (PyData.depthAll (nL (partOf n hs k)) + 1) (PyData.depthAll (ks.map fun k => PyData.tuple (nL (partOf n hs k)))) ≤ 2
    omega
theorem eqv_parts {hs : List Nat} : ∀ ks : List Int, PyData.eqvAll (ks.map fun k => PyData.tuple (nL (partOf n hs k))) (ks.map fun k => PyData.tuple (nL (partOf n hs k))) = true
  | [] => rfl
  | k :: ks => by
    show (PyData.eqvAll (nL (partOf n hs k)) (nL (partOf n hs k)) && PyData.eqvAll (ks.map fun k => PyData.tuple (nL (partOf n hs k))) (ks.map fun k => PyData.tuple (nL (partOf n hs k)))) = true
    rw [eqv_parts ks, eqvAll_nL]
    simp
theorem sNe_parts (hs : List Nat) : sNe (partsD n hs) (partsD n hs) = .ok (.bool false) := by
  have sh : SeqAt.shaped (partsD n hs) = true := by
    unfold SeqAt.shaped
    rw [Bool.and_eq_true, decide_eq_true_eq]
    refine ⟨canLay_parts _, ?_⟩
    have := depth_parts (n := n) (hs := hs) (vals hs)
    show PyData.depthAll _ + 1 ≤ 64
    omega
  unfold sNe
  rw [if_pos (by rw [sh]; rfl), show PyData.eqv (partsD n hs) (partsD n hs) = true from eqv_parts _]
  rfl
theorem sNe_same (a : Int) : sNe (.int a) (.int a) = .ok (.bool false) := by
  unfold sNe
  rw [if_pos (by simp [SeqAt.shaped, PyData.canLay0, PyData.depth]), show PyData.eqv (.int a) (.int a) = true by show (a == a) = true; simp]
  rfl
theorem sLen_parts (hs : List Nat) : sLen (partsD n hs) = .ok (.int (vals hs).length) := by
  show Res.ok (PyData.int (((vals hs).map fun k => PyData.tuple (nL (partOf n hs k))).length : Nat)) = _
  rw [List.length_map]
theorem sNotIn_lot (t : Nat) (l : List Nat) : sNotIn (.int t) (lotD l) = .ok (.bool (!decide (t ∈ l))) := by
  have e : dIn (.int t) (lotD l) = some (decide (t ∈ l)) := by
    show (if (SeqAt.shaped (.int t) && PyData.canLayAll0 (nL l)) = true then some ((nL l).any fun z => PyData.eqv z (.int t)) else none) = _
    rw [if_pos (by rw [canLay_nL]; simp [SeqAt.shaped, PyData.canLay0, PyData.depth])]
    unfold nL
    rw [List.any_map, Option.some.injEq, Bool.eq_iff_iff]
    simp only [List.any_eq_true, Function.comp, eqv_nat, decide_eq_true_eq]
    exact ⟨fun ⟨x, hx, e⟩ => e ▸ hx, fun h => ⟨t, h, rfl⟩⟩
  unfold sNotIn
  rw [e]
theorem sNotIn_01 {g : Int} (h : g = 0 ∨ g = 1) : sNotIn (.int g) (.tuple [.int 0, .int 1]) = .ok (.bool false) := by
  rcases h with rfl | rfl <;> rfl
theorem sAdd_lot {l : List Nat} {o : Nat} (h : l.length + 1 ≤ 1000000) : sAdd (lotD l) (.tuple [.int (o : Int)]) = .ok (lotD (l ++ [o])) := by
  show (if (nL l).length + 1 ≤ lim then Res.ok (PyData.tuple (nL l ++ [.int (o : Int)])) else Res.err) = _
  rw [if_pos (by unfold lim; simpa using h), ← nL_snoc]
theorem rise_len {l : List Nat} {m : Nat} (h : l.Pairwise (· < ·)) (hm : ∀ i ∈ l, i < m) : l.length ≤ m := by
  have := sub_len (l := l.map fun i : Nat => (i : Int)) (m := (List.range m).map fun i : Nat => (i : Int)) (List.pairwise_map.mpr (h.imp fun h => by omega)) fun x hx => by
    obtain ⟨i, hi, rfl⟩ := List.mem_map.mp hx
    exact List.mem_map.mpr ⟨i, by simpa using hm i hi, rfl⟩
  simpa using this
theorem rank_le_len (w : OkWeb n ts) : ∀ l : List Nat, (∀ i ∈ l, i < ts.length) → rankN n ts l ≤ l.length := by
  intro l
  induction hk : l.length generalizing l with
  | zero =>
    intro _
    have : l = [] := List.length_eq_zero_iff.mp hk
    subst this
    rw [rank_nil]
    exact Int.le_refl _
  | succ k ih =>
    intro h
    rcases List.eq_nil_or_concat l with rfl | ⟨l', t, rfl⟩
    · simp at hk
    · have hk : l'.length = k := by simpa using hk
      have h' : ∀ i ∈ l' ++ [t], i < ts.length := by simpa using h
      have := ih l' hk fun i hi => h' i (List.mem_append_left _ hi)
      have r := rank_snoc w (l := l') (h' t (by simp))
      have d := dl_01 (n := n) (ts := ts) (l := l') (t := t)
      have e : rankN n ts (l'.concat t) = rankN n ts (l' ++ [t]) := by rw [List.concat_eq_append]
      omega
theorem rank_mono (w : OkWeb n ts) {l l' : List Nat} (h : ∀ i ∈ l, i < ts.length) (s : ∀ i ∈ l', i ∈ l) : rankN n ts l' ≤ rankN n ts l := by
  have := R_le w h (fun i hi => h i (s i hi)) s
  unfold R at this
  unfold rankN
  omega
theorem forest_cut (w : OkWeb n ts) {a b : List Nat} {x : Nat} (h : ∀ i ∈ a ++ x :: b, i < ts.length) (f : rankN n ts (a ++ x :: b) = (a ++ x :: b).length) : rankN n ts (a ++ b) = (a ++ b).length := by
  have hx := h x (by simp)
  have hab : ∀ i ∈ a ++ b, i < ts.length := fun i hi => h i (by
    rcases List.mem_append.mp hi with z | z
    · exact List.mem_append_left _ z
    · exact List.mem_append_right _ (List.mem_cons_of_mem _ z))
  have e := R_set w (l := a ++ x :: b) (l' := (a ++ b) ++ [x]) h (fun i hi => (List.mem_append.mp hi).elim (hab i) fun z => by rw [List.mem_singleton.mp z]; exact hx) fun i => by
    simp only [List.mem_append, List.mem_cons, List.mem_singleton, List.not_mem_nil, or_false]
    constructor
    · rintro (z | z | z) <;> simp [z]
    · rintro ((z | z) | z) <;> simp [z]
  have r := rank_snoc w (l := a ++ b) hx
  have d := dl_01 (n := n) (ts := ts) (l := a ++ b) (t := x)
  have le := rank_le_len w (a ++ b) hab
  simp only [List.length_append, List.length_cons] at f le ⊢
  omega
theorem basis (w : OkWeb n ts) : ∀ l : List Nat, OkLot ts l → ∃ f, OkLot ts f ∧ (∀ i ∈ f, i ∈ l) ∧ rankN n ts f = f.length ∧ rankN n ts f = rankN n ts l := by
  intro l
  induction hk : l.length generalizing l with
  | zero =>
    intro o
    have : l = [] := List.length_eq_zero_iff.mp hk
    subst this
    exact ⟨[], o, fun i hi => hi, by rw [rank_nil]; rfl, rfl⟩
  | succ k ih =>
    intro o
    rcases List.eq_nil_or_concat l with rfl | ⟨l', t, rfl⟩
    · simp at hk
    · have hk : l'.length = k := by simpa using hk
      rw [List.concat_eq_append] at o ⊢
      obtain ⟨p1, _, p2⟩ := List.pairwise_append.mp o.r
      have ht := o.m t (by simp)
      have o' : OkLot ts l' := ⟨p1, fun i hi => o.m i (List.mem_append_left _ hi)⟩
      obtain ⟨f, fo, fs, f1, f2⟩ := ih l' hk o'
      have r := rank_snoc w (l := l') ht
      have r' := rank_snoc w (l := f) ht
      have m := dl_mono w ht fo.m o'.m fs
      have d := dl_01 (n := n) (ts := ts) (l := l') (t := t)
      have d' := dl_01 (n := n) (ts := ts) (l := f) (t := t)
      by_cases q : dl n ts l' t = 0
      · exact ⟨f, fo, fun i hi => List.mem_append_left _ (fs i hi), f1, by omega⟩
      · refine ⟨f ++ [t], ⟨List.pairwise_append.mpr ⟨fo.r, List.pairwise_singleton _ _, fun a ha b hb => p2 a (fs a ha) b hb⟩, fun i hi => (List.mem_append.mp hi).elim (fo.m i) fun z => by rw [List.mem_singleton.mp z]; exact ht⟩, fun i hi => ?_, ?_, by omega⟩
        · rcases List.mem_append.mp hi with z | z
          · exact List.mem_append_left _ (fs i z)
          · exact List.mem_append_right _ z
        · rw [List.length_append, List.length_singleton]
          push_cast
          omega
def isF (n : Nat) (ts : List (Nat × Nat)) (l : List Nat) : Bool := decide (rankN n ts l = l.length)
theorem sLen_lot (l : List Nat) : sLen (lotD l) = .ok (.int (l.length : Nat)) := by
  show Res.ok (PyData.int ((nL l).length : Nat)) = _
  rw [List.length_map]
def isT (n : Nat) (ts : List (Nat × Nat)) (l : List Nat) : Bool := isF n ts l && decide ((l.length : Int) = n - 1)
end
def dbl (X : List (List Nat)) (k : Nat) : List (List Nat) := X ++ X.map (· ++ [k])
def subs (ks : List Nat) : List (List Nat) := ks.foldl dbl [[]]
theorem dbl_len (X : List (List Nat)) (k : Nat) : (dbl X k).length = 2 * X.length := by unfold dbl; simp; omega
theorem cmpbL_nL : ∀ a b : List Nat, cmpbL (nL a) (nL b) = true
  | [], _ => rfl
  | _ :: _, [] => rfl
  | x :: a, y :: b => by
    show (cmpb (.int x) (.int y) && cmpbL (nL a) (nL b)) = true
    rw [cmpbL_nL a b]
    rfl
theorem okS_lots (X : List (List Nat)) : okS (X.map lotD) = true := by
  unfold okS
  rw [List.all_eq_true]
  intro d hd
  obtain ⟨l, _, rfl⟩ := List.mem_map.mp hd
  have h1 : (lotD l).canLay0 = true := canLay_nL l
  have h2 : (lotD l).depth ≤ 60 := by
    have := depth_nL l
    show PyData.depthAll (nL l) + 1 ≤ 60
    omega
  simp only [Bool.and_eq_true, decide_eq_true_eq, List.all_eq_true]
  refine ⟨⟨h1, h2⟩, fun e he => ?_⟩
  obtain ⟨l', _, rfl⟩ := List.mem_map.mp he
  exact cmpbL_nL l l'
def unI : PyData → Nat
  | .int i => i.toNat
  | _ => 0
def unlot : PyData → List Nat
  | .tuple ds => ds.map unI
  | _ => []
theorem unlot_lot (l : List Nat) : unlot (lotD l) = l := by
  show (nL l).map unI = l
  unfold nL
  rw [List.map_map]
  conv => rhs; rw [← List.map_id l]
  exact List.map_congr_left fun x _ => by simp [unI]
theorem subs_succ (m : Nat) : subs (List.range (m + 1)) = dbl (subs (List.range m)) m := by
  unfold subs
  rw [List.range_succ, List.foldl_append]
  rfl
theorem mem_subs : ∀ (m : Nat) (l : List Nat), l ∈ subs (List.range m) ↔ l.Pairwise (· < ·) ∧ ∀ i ∈ l, i < m
  | 0, l => by
    show l ∈ [[]] ↔ _
    rw [List.mem_singleton]
    constructor
    · rintro rfl; exact ⟨.nil, fun i h => by cases h⟩
    · rintro ⟨_, h⟩
      cases l with
      | nil => rfl
      | cons x r => have := h x List.mem_cons_self; omega
  | m + 1, l => by
    rw [subs_succ]
    unfold dbl
    rw [List.mem_append, List.mem_map, mem_subs m l]
    constructor
    · rintro (⟨h1, h2⟩ | ⟨l', h', rfl⟩)
      · exact ⟨h1, fun i hi => by have := h2 i hi; omega⟩
      · obtain ⟨h1, h2⟩ := (mem_subs m l').mp h'
        refine ⟨List.pairwise_append.mpr ⟨h1, List.pairwise_singleton _ _, fun a ha b hb => ?_⟩, fun i hi => ?_⟩
        · rw [List.mem_singleton.mp hb]; exact h2 a ha
        · rcases List.mem_append.mp hi with hi | hi
          · have := h2 i hi; omega
          · rw [List.mem_singleton.mp hi]; omega
    · rintro ⟨h1, h2⟩
      rcases List.eq_nil_or_concat l with rfl | ⟨l', x, rfl⟩
      · exact .inl ⟨h1, fun i h => by cases h⟩
      · have hx := h2 x (by simp)
        obtain ⟨p1, _, p2⟩ := List.pairwise_append.mp (by simpa using h1 : (l' ++ [x]).Pairwise (· < ·))
        by_cases q : x = m
        · subst q
          exact .inr ⟨l', (mem_subs x l').mpr ⟨p1, fun i hi => p2 i hi x (by simp)⟩, by simp⟩
        · refine .inl ⟨h1, fun i hi => ?_⟩
          have hi : i ∈ l' ++ [x] := by simpa using hi
          rcases List.mem_append.mp hi with hi | hi
          · have := p2 i hi x (by simp); omega
          · have := List.mem_singleton.mp hi; omega
theorem subs_len : ∀ m : Nat, (subs (List.range m)).length = 2 ^ m
  | 0 => rfl
  | m + 1 => by rw [subs_succ, dbl_len, subs_len m, Nat.pow_succ, Nat.mul_comm]
theorem canLay_lots : ∀ X : List (List Nat), PyData.canLayAll0 (X.map lotD) = true
  | [] => rfl
  | l :: X => by
    show ((lotD l).canLay0 && PyData.canLayAll0 (X.map lotD)) = true
    rw [canLay_lots X, show (lotD l).canLay0 = true from canLay_nL l]
    rfl
theorem sh_lot (l : List Nat) : SeqAt.shaped (lotD l) = true := by
  unfold SeqAt.shaped
  rw [Bool.and_eq_true, decide_eq_true_eq]
  have := depth_nL l
  refine ⟨canLay_nL l, ?_⟩
  show PyData.depthAll (nL l) + 1 ≤ 64
  omega
theorem sIn_lots (l : List Nat) (X : List (List Nat)) : sIn (lotD l) (.list (X.map lotD)) = .ok (.bool (decide (l ∈ X))) := by
  have e : dIn (lotD l) (.list (X.map lotD)) = some (decide (l ∈ X)) := by
    show (if (SeqAt.shaped (lotD l) && PyData.canLayAll0 (X.map lotD)) = true then some ((X.map lotD).any fun z => PyData.eqv z (lotD l)) else none) = _
    rw [if_pos (by rw [sh_lot, canLay_lots]; rfl), List.any_map, Option.some.injEq, Bool.eq_iff_iff]
    simp only [List.any_eq_true, Function.comp, eqv_lot, decide_eq_true_eq]
    exact ⟨fun ⟨x, hx, e⟩ => e ▸ hx, fun h => ⟨l, h, rfl⟩⟩
  unfold sIn
  rw [e]
theorem sIn_lot (t : Nat) (l : List Nat) : sIn (.int t) (lotD l) = .ok (.bool (decide (t ∈ l))) := by
  have e : dIn (.int t) (lotD l) = some (decide (t ∈ l)) := by
    show (if (SeqAt.shaped (.int t) && PyData.canLayAll0 (nL l)) = true then some ((nL l).any fun z => PyData.eqv z (.int t)) else none) = _
    rw [if_pos (by rw [canLay_nL]; simp [SeqAt.shaped, PyData.canLay0, PyData.depth])]
    unfold nL
    rw [List.any_map, Option.some.injEq, Bool.eq_iff_iff]
    simp only [List.any_eq_true, Function.comp, eqv_nat, decide_eq_true_eq]
    exact ⟨fun ⟨x, hx, e⟩ => e ▸ hx, fun h => ⟨t, h, rfl⟩⟩
  unfold sIn
  rw [e]
theorem sNe_bool (a : Bool) : sNe (.bool a) (.bool a) = .ok (.bool false) := by cases a <;> rfl
theorem sNotB_same (a : Bool) : sNotB (.bool a) (.bool a) = .ok (.bool false) := by cases a <;> rfl
theorem cut_to {l : List Nat} {k : Nat} (h : k ≤ l.length) : ZZ.cut (nL l) none (some (k : Int)) = nL (l.take k) := by
  unfold ZZ.cut
  rw [HT.sIx_none, HT.sIx_nat, List.length_map, Nat.min_eq_left h]
  simp [nL, List.map_take]
theorem cut_from {l : List Nat} {k : Nat} (h : k ≤ l.length) : ZZ.cut (nL l) (some (k : Int)) none = nL (l.drop k) := by
  unfold ZZ.cut
  rw [HT.sIx_none, HT.sIx_nat, List.length_map, Nat.min_eq_left h, List.take_of_length_le (by simp)]
  simp [nL, List.map_drop]
theorem fold_max : ∀ (r : List Int) (x m : Int), (x = m ∨ m ∈ r) → x ≤ m → (∀ y ∈ r, y ≤ m) → r.foldl (fun a b => if a < b then b else a) x = m
  | [], x, m, h, _, _ => by
    rcases h with h | h
    · exact h
    · cases h
  | y :: r, x, m, h, hx, hr => by
    rw [List.foldl_cons]
    have hy := hr y List.mem_cons_self
    refine fold_max r _ m ?_ (by split <;> assumption) fun z hz => hr z (List.mem_cons_of_mem _ hz)
    rcases h with h | h
    · left
      split <;> omega
    · rcases List.mem_cons.mp h with h | h
      · left
        split <;> omega
      · exact .inr h
theorem sMax_of {xs : List Int} {m : Int} (h : m ∈ xs) (hx : ∀ x ∈ xs, x ≤ m) : sMax (.list (xs.map .int)) = .ok (.int m) := by
  unfold sMax
  simp only [intsOf_map]
  cases xs with
  | nil => cases h
  | cons x r =>
    have : maxI (x :: r) = some m := by
      show some (r.foldl (fun a b => if a < b then b else a) x) = some m
      rw [fold_max r x m ((List.mem_cons.mp h).imp Eq.symm id) (hx x List.mem_cons_self) fun y hy => hx y (List.mem_cons_of_mem _ hy)]
    show (match (some (x :: r)).bind maxI with | some b => Res.ok (PyData.int b) | none => Res.err) = _
    rw [Option.bind_some, this]
end ZZ

/-! S0: how the functions without slots compute -/
namespace ZZ
open PySem PySem.Spec PyProof.Rows L2 Ob
section
variable {α β : Type} {a b c d e : PyData} {x y z : Res PyData} {s : PyData → PyData → Res PyData} {u : PyData → Res PyData} {cc : Str} {as : List PyData}
@[simp] theorem pBin_ok : pBin s (.ok a) (.ok b) = s a b := nr rfl
@[simp] theorem pBin_x1 : pBin s (.exc cc as) y = .exc cc as := nr rfl
@[simp] theorem pBin_x2 : pBin s (.ok a) (.exc cc as) = .exc cc as := nr rfl
@[simp] theorem pUn_ok : pUn u (.ok a) = u a := nr rfl
@[simp] theorem pUn_x : pUn u (.exc cc as) = .exc cc as := nr rfl
@[simp] theorem pTest_ok (t : Bool) : pTest (.ok (.bool t)) = .ok t := nr rfl
@[simp] theorem pTru_ok : pTru (.ok a) = oTru a := nr rfl
@[simp] theorem pTest_x : pTest (.exc cc as) = .exc cc as := nr rfl
@[simp] theorem pTru_x : pTru (.exc cc as) = .exc cc as := nr rfl
@[simp] theorem oTru_bool (t : Bool) : oTru (.bool t) = .ok t := nr rfl
@[simp] theorem pAndT_f (y : Res Bool) : pAndT (.ok false) y = .ok false := nr rfl
@[simp] theorem pAndT_t (y : Res Bool) : pAndT (.ok true) y = y := nr rfl
@[simp] theorem pAndT_ok (t r : Bool) : pAndT (.ok t) (.ok r) = .ok (t && r) := by cases t <;> rfl
@[simp] theorem pOrT_f (y : Res Bool) : pOrT (.ok false) y = y := nr rfl
@[simp] theorem pOrT_t (y : Res Bool) : pOrT (.ok true) y = .ok true := nr rfl
@[simp] theorem pOrT_ok (t r : Bool) : pOrT (.ok t) (.ok r) = .ok (t || r) := by cases t <;> rfl
@[simp] theorem pNotT_ok (t : Bool) : pNotT (.ok t) = .ok (!t) := nr rfl
@[simp] theorem pAnd_f : pAnd (.ok (.bool false)) y = .ok (.bool false) := nr rfl
@[simp] theorem pAnd_t : pAnd (.ok (.bool true)) y = y := nr rfl
@[simp] theorem pAnd_ok (t r : Bool) : pAnd (.ok (.bool t)) (.ok (.bool r)) = .ok (.bool (t && r)) := by cases t <;> rfl
@[simp] theorem pOr_f : pOr (.ok (.bool false)) y = y := nr rfl
@[simp] theorem pOr_t : pOr (.ok (.bool true)) y = .ok (.bool true) := nr rfl
@[simp] theorem pOr_ok (t r : Bool) : pOr (.ok (.bool t)) (.ok (.bool r)) = .ok (.bool (t || r)) := by cases t <;> rfl
@[simp] theorem pNot_ok (t : Bool) : pNot (.ok (.bool t)) = .ok (.bool (!t)) := nr rfl
@[simp] theorem pIf_t (x y : Res α) : pIf (.ok true) x y = x := nr rfl
@[simp] theorem pIf_f (x y : Res α) : pIf (.ok false) x y = y := nr rfl
theorem pIf_ok (t : Bool) (x y : Res α) : pIf (.ok t) x y = if t = true then x else y := nr rfl
@[simp] theorem pChain_ok {s1 s2 : PyData → PyData → Res PyData} : pChain s1 s2 (.ok a) (.ok b) (.ok c) = s1 a b >>= fun g => match g with
  | .bool true => s2 b c
  | .bool false => .ok (.bool false)
  | _ => .err := nr rfl
@[simp] theorem pC1_ok (f : PyData → Res α) : pC1 f (.ok a) = f a := nr rfl
@[simp] theorem pC2_ok (f : PyData → PyData → Res α) : pC2 f (.ok a) (.ok b) = f a b := nr rfl
@[simp] theorem pC3_ok (f : PyData → PyData → PyData → Res α) : pC3 f (.ok a) (.ok b) (.ok c) = f a b c := nr rfl
@[simp] theorem pC4_ok (f : PyData → PyData → PyData → PyData → Res α) : pC4 f (.ok a) (.ok b) (.ok c) (.ok d) = f a b c d := nr rfl
@[simp] theorem pC5_ok (f : PyData → PyData → PyData → PyData → PyData → Res α) : pC5 f (.ok a) (.ok b) (.ok c) (.ok d) (.ok e) = f a b c d e := nr rfl
@[simp] theorem pC1_x (f : PyData → Res α) : pC1 f (.exc cc as) = .exc cc as := nr rfl
@[simp] theorem pNil_e : pNil = .ok [] := nr rfl
@[simp] theorem pCons_ok (l : List PyData) : pCons (.ok a) (.ok l) = .ok (a :: l) := nr rfl
theorem pTup_ok (l : List PyData) (h : l.length ≤ 1000000) : pTup (.ok l) = .ok (.tuple l) := by
  show (if l.length ≤ lim then Res.ok (PyData.tuple l) else .err) = _
  rw [if_pos (show l.length ≤ lim from h)]
theorem pLst_ok (l : List PyData) (h : l.length ≤ 1000000) : pLst (.ok l) = .ok (.list l) := by
  show (if l.length ≤ lim then Res.ok (PyData.list l) else .err) = _
  rw [if_pos (show l.length ≤ lim from h)]
@[simp] theorem pTup0 : pTup (.ok []) = .ok (.tuple []) := pTup_ok _ (by simp)
@[simp] theorem pTup1 : pTup (.ok [a]) = .ok (.tuple [a]) := pTup_ok _ (by simp)
@[simp] theorem pTup2 : pTup (.ok [a, b]) = .ok (.tuple [a, b]) := pTup_ok _ (by simp)
@[simp] theorem pTup3 : pTup (.ok [a, b, c]) = .ok (.tuple [a, b, c]) := pTup_ok _ (by simp)
@[simp] theorem pTup4 : pTup (.ok [a, b, c, d]) = .ok (.tuple [a, b, c, d]) := pTup_ok _ (by simp)
@[simp] theorem pLst0 : pLst (.ok []) = .ok (.list []) := pLst_ok _ (by simp)
@[simp] theorem pLst1 : pLst (.ok [a]) = .ok (.list [a]) := pLst_ok _ (by simp)
@[simp] theorem pLst2 : pLst (.ok [a, b]) = .ok (.list [a, b]) := pLst_ok _ (by simp)
@[simp] theorem pPk_l (l : List PyData) : pPk (.list l) = .ok (.list l) := nr rfl
@[simp] theorem pIxOwn_ok (l : List PyData) : pIxOwn (.list l) (.ok a) = sIx (.list l) a := nr rfl
@[simp] theorem pNo_e : pNo = .ok none := nr rfl
@[simp] theorem pIt_ok (i : Int) : pIt (.ok (.int i)) = .ok (some i) := nr rfl
@[simp] theorem pSl_ok (l h : Option Int) : pSl (.ok a) (.ok l) (.ok h) = sSl a l h := nr rfl
@[simp] theorem qLst_ok (l : List PyData) : qLst (.ok (.list l)) = .ok l := nr rfl
@[simp] theorem qTpl_ok (l : List PyData) : qTpl (.ok (.tuple l)) = .ok l := nr rfl
@[simp] theorem qZip_ok : qZip (.ok a) (.ok b) = zipD a b := nr rfl
@[simp] theorem qEnL_ok (l : List PyData) : qEnL (.ok (.list l)) = .ok (enumD l) := nr rfl
@[simp] theorem qEnT_ok (l : List PyData) : qEnT (.ok (.tuple l)) = .ok (enumD l) := nr rfl
theorem qR1_ok (n : Nat) (h : n ≤ 1000000) : qR1 (.ok (.int (n : Int))) = .ok (nL (List.range n)) := by
  unfold qR1
  rw [ok_bind]
  dsimp only
  rw [if_pos (okRg_nat h), rgD_nat]
@[simp] theorem pRg_ok (l : List PyData) : pRg (.ok l) = .ok (.list l) := nr rfl
@[simp] theorem pRgT_ok (l : List PyData) : pRgT (.ok l) = .ok (.tuple l) := nr rfl
@[simp] theorem lcY_ok : lcY (.ok a) = .ok (some a) := nr rfl
@[simp] theorem lcT_ok (t : Bool) : lcT (.ok t) (.ok a) = .ok (if t = true then some a else none) := by cases t <;> rfl
@[simp] theorem lcT_f : lcT (.ok false) x = .ok none := nr rfl
@[simp] theorem lcT_t : lcT (.ok true) x = lcY x := nr rfl
@[simp] theorem pThen_ok (a : α) (k : Res β) : pThen (.ok a) k = k := nr rfl
@[simp] theorem pThen_x (k : Res β) : pThen (.exc cc as : Res α) k = .exc cc as := nr rfl
@[simp] theorem un2_ok (k : PyData → PyData → Res α) : un2 (.tuple [a, b]) k = k a b := nr rfl
@[simp] theorem un3_ok (k : PyData → PyData → PyData → Res α) : un3 (.tuple [a, b, c]) k = k a b c := nr rfl
@[simp] theorem pPar_ok (k : PyData → PyData → Res α) : pPar (.ok a) (.ok b) k = k a b := nr rfl
@[simp] theorem pBind2_ok (t : PyData × PyData) (k : PyData → PyData → Res α) : pBind2 (.ok t) k = k t.1 t.2 := nr rfl
@[simp] theorem pIfE_t (p : PyData) (k l : PyData → Res α) : pIfE (.ok (true, p)) k l = k p := nr rfl
@[simp] theorem pIfE_f (p : PyData) (k l : PyData → Res α) : pIfE (.ok (false, p)) k l = l p := nr rfl
theorem pApp_ok (l : List PyData) (k : PyData → Res α) (h : l.length < 1000000) : pApp (.list l) (.ok a) k = k (.list (l ++ [a])) := by
  show (if l.length < lim then k (.list (l ++ [a])) else .err) = _
  rw [if_pos (show l.length < lim from h)]
theorem pExt_ok (l m : List PyData) (k : PyData → Res α) (h : l.length + m.length ≤ 1000000) : pExt (.list l) (.ok (.list m)) k = k (.list (l ++ m)) := by
  show (if l.length + m.length ≤ lim then k (.list (l ++ m)) else .err) = _
  rw [if_pos (show l.length + m.length ≤ lim from h)]
@[simp] theorem pIndex_ok (l : List PyData) : pIndex (.ok (.list l)) (.ok a) = sIndex l a := nr rfl
/-! effects -/
@[simp] theorem eP_ok (v : α) (p : PyData) : eP (.ok v) p = .ok (v, p) := nr rfl
theorem eBin_e (x y : SX PyData) (p : PyData) : eBin s x y p = x p >>= fun a => y a.2 >>= fun b => s a.1 b.1 >>= fun g => .ok (g, b.2) := nr rfl
theorem eUn_e (f : α → Res β) (x : SX α) (p : PyData) : eUn f x p = x p >>= fun a => f a.1 >>= fun g => .ok (g, a.2) := nr rfl
theorem eIf_e (c : SX Bool) (x y : SX α) (p : PyData) : eIf c x y p = c p >>= fun b => if b.1 = true then x b.2 else y b.2 := nr rfl
theorem eNil_e (p : PyData) : eNil p = .ok ([], p) := nr rfl
theorem eCons_e (x : SX PyData) (r : SX (List PyData)) (p : PyData) : eCons x r p = x p >>= fun a => r a.2 >>= fun l => .ok (a.1 :: l.1, l.2) := nr rfl
theorem eCall_e (pf : PyData → List PyData → Res (PyData × PyData)) (l : SX (List PyData)) (p : PyData) : eCall pf l p = l p >>= fun t => pf t.2 t.1 := nr rfl
theorem elcY_e (x : SX PyData) (p : PyData) : elcY x p = x p >>= fun y => .ok (some y.1, y.2) := nr rfl
theorem elcT_e (t : SX Bool) (x : SX PyData) (p : PyData) : elcT t x p = t p >>= fun b => if b.1 = true then x b.2 >>= fun y => .ok (some y.1, y.2) else .ok (none, b.2) := nr rfl
theorem eLc_e (xs : SX (List PyData)) (f : PyData → SX (Option PyData)) (p : PyData) : eLc xs f p = xs p >>= fun l => elcM f l.1 l.2 >>= fun r => .ok (.list r.1, r.2) := nr rfl
@[simp] theorem fTest_b (t : Bool) : fTest (.bool t) = .ok t := nr rfl
@[simp] theorem l1_e (f : PyData → Res α) : l1 f [a] = f a := nr rfl
@[simp] theorem l2_e (f : PyData → PyData → Res α) : l2 f [a, b] = f a b := nr rfl
@[simp] theorem l3_e (f : PyData → PyData → PyData → Res α) : l3 f [a, b, c] = f a b c := nr rfl
@[simp] theorem l4_e (f : PyData → PyData → PyData → PyData → Res α) : l4 f [a, b, c, d] = f a b c d := nr rfl
end
/-! ### operators on data -/
section
variable {a b c d : PyData}
@[simp] theorem sSub_i (a b : Int) : sSub (.int a) (.int b) = .ok (.int (a - b)) := nr rfl
@[simp] theorem sAdd_ii (a b : Int) : sAdd (.int a) (.int b) = .ok (.int (a + b)) := nr rfl
@[simp] theorem sLt_i (a b : Int) : sLt (.int a) (.int b) = .ok (.bool (decide (a < b))) := nr rfl
@[simp] theorem sLe_i (a b : Int) : sLe (.int a) (.int b) = .ok (.bool (decide (a ≤ b))) := nr rfl
@[simp] theorem sGt_i (a b : Int) : sGt (.int a) (.int b) = .ok (.bool (decide (b < a))) := nr rfl
@[simp] theorem sGe_i (a b : Int) : sGe (.int a) (.int b) = .ok (.bool (decide (b ≤ a))) := nr rfl
@[simp] theorem sMin2_n (a b : Nat) : sMin2 (.int a) (.int b) = .ok (.int ((min a b : Nat) : Int)) := by
  show Res.ok (PyData.int (if (b : Int) < a then (b : Int) else a)) = _
  rw [min_nat]
@[simp] theorem sMax2_n (a b : Nat) : sMax2 (.int a) (.int b) = .ok (.int ((max a b : Nat) : Int)) := by
  show Res.ok (PyData.int (if (b : Int) > a then (b : Int) else a)) = _
  rw [max_nat]
@[simp] theorem sEq_n (a b : Nat) : sEq (.int a) (.int b) = .ok (.bool (decide (a = b))) := sEq_nat a b
@[simp] theorem sNe_n (a b : Nat) : sNe (.int a) (.int b) = .ok (.bool (!decide (a = b))) := sNe_nat a b
@[simp] theorem sLen_l (l : List PyData) : sLen (.list l) = .ok (.int (l.length : Nat)) := nr rfl
@[simp] theorem sLen_t (l : List PyData) : sLen (.tuple l) = .ok (.int (l.length : Nat)) := nr rfl
@[simp] theorem sTuple_l (l : List PyData) : sTuple (.list l) = .ok (.tuple l) := nr rfl
@[simp] theorem sTuple_t (l : List PyData) : sTuple (.tuple l) = .ok (.tuple l) := nr rfl
@[simp] theorem sList_l (l : List PyData) : sList (.list l) = .ok (.list l) := nr rfl
@[simp] theorem sList_t (l : List PyData) : sList (.tuple l) = .ok (.list l) := nr rfl
@[simp] theorem sNeg_i (a : Int) : sNeg (.int a) = .ok (.int (-a)) := nr rfl
@[simp] theorem sInt_i' (a : Int) : sInt (.int a) = .ok (.int a) := nr rfl
@[simp] theorem sIx2_0 : sIx (.tuple [a, b]) (.int 0) = .ok a := nr rfl
@[simp] theorem sIx2_1 : sIx (.tuple [a, b]) (.int 1) = .ok b := nr rfl
@[simp] theorem sIx3_0 : sIx (.tuple [a, b, c]) (.int 0) = .ok a := nr rfl
@[simp] theorem sIx3_1 : sIx (.tuple [a, b, c]) (.int 1) = .ok b := nr rfl
@[simp] theorem sIx3_2 : sIx (.tuple [a, b, c]) (.int 2) = .ok c := nr rfl
@[simp] theorem oTru_list (l : List PyData) : oTru (.list l) = .ok (!l.isEmpty) := nr rfl
@[simp] theorem oTru_tuple (l : List PyData) : oTru (.tuple l) = .ok (!l.isEmpty) := nr rfl
theorem sAll_bools (l : List Bool) : sAll (.list (l.map .bool)) = .ok (.bool (l.all id)) := by
  unfold sAll
  simp only [boolsOf_map]
theorem sAny_bools (l : List Bool) : sAny (.list (l.map .bool)) = .ok (.bool (l.any id)) := by
  unfold sAny
  simp only [boolsOf_map]
end
/-! ### comprehensions, loops over mapped lists -/
section
variable {α σ R Ω : Type} {c : α → PyData}
theorem lcM_map {f : PyData → Res (Option PyData)} {F : α → PyData} : ∀ {l : List α}, (∀ x ∈ l, f (c x) = .ok (some (F x))) → lcM f (l.map c) = .ok (l.map F)
  | [], _ => rfl
  | x :: l, h => by
    rw [List.map_cons]
    unfold lcM
    rw [h x List.mem_cons_self, noX_ok, ok_bind, lcM_map fun y hy => h y (List.mem_cons_of_mem _ hy), ok_bind]
    rfl
theorem lcM_filter {f : PyData → Res (Option PyData)} {p : α → Bool} {F : α → PyData} : ∀ {l : List α}, (∀ x ∈ l, f (c x) = .ok (if p x = true then some (F x) else none)) → lcM f (l.map c) = .ok ((l.filter p).map F)
  | [], _ => rfl
  | x :: l, h => by
    rw [List.map_cons]
    unfold lcM
    rw [h x List.mem_cons_self, noX_ok, ok_bind, lcM_filter fun y hy => h y (List.mem_cons_of_mem _ hy), ok_bind]
    by_cases q : p x = true
    · rw [if_pos q, List.filter_cons_of_pos q]; rfl
    · rw [if_neg q, List.filter_cons_of_neg q]; rfl
theorem lcM_id {f : PyData → Res (Option PyData)} {l : List PyData} {F : PyData → PyData} (h : ∀ x ∈ l, f x = .ok (some (F x))) : lcM f l = .ok (l.map F) := by
  have := lcM_map (c := id) (f := f) (F := F) (l := l) h
  rwa [List.map_id] at this
theorem pLc_map {f : PyData → Res (Option PyData)} {F : α → PyData} {l : List α} (h : ∀ x ∈ l, f (c x) = .ok (some (F x))) : pLc (.ok (l.map c)) f = .ok (.list (l.map F)) := by
  unfold pLc
  rw [ok_bind, lcM_map h, ok_bind]
theorem pLc_filter {f : PyData → Res (Option PyData)} {p : α → Bool} {F : α → PyData} {l : List α} (h : ∀ x ∈ l, f (c x) = .ok (if p x = true then some (F x) else none)) : pLc (.ok (l.map c)) f = .ok (.list ((l.filter p).map F)) := by
  unfold pLc
  rw [ok_bind, lcM_filter h, ok_bind]
theorem pAll_map {f : PyData → Res (Option PyData)} {p : α → Bool} {l : List α} (h : ∀ x ∈ l, f (c x) = .ok (some (.bool (p x)))) : pUn sAll (pLc (.ok (l.map c)) f) = .ok (.bool (l.all p)) := by
  rw [pLc_map (F := fun x => .bool (p x)) h, pUn_ok]
  have := sAll_bools (l.map p)
  rw [List.map_map] at this
  rw [show (fun x => PyData.bool (p x)) = PyData.bool ∘ p from rfl, this]
  simp
theorem pAny_map {f : PyData → Res (Option PyData)} {p : α → Bool} {l : List α} (h : ∀ x ∈ l, f (c x) = .ok (some (.bool (p x)))) : pUn sAny (pLc (.ok (l.map c)) f) = .ok (.bool (l.any p)) := by
  rw [pLc_map (F := fun x => .bool (p x)) h, pUn_ok]
  have := sAny_bools (l.map p)
  rw [List.map_map] at this
  rw [show (fun x => PyData.bool (p x)) = PyData.bool ∘ p from rfl, this]
  simp
/-- a loop that goes through, its state told by a value of one's own type -/
theorem pLoop_map {S : Type} {enc : σ → S} {f : S → PyData → Res (Lp S R)} {step : σ → α → σ} {I : σ → Prop} : ∀ {l : List α} {s : σ}, I s → (∀ s x, I s → x ∈ l → f (enc s) (c x) = .ok (.nx (enc (step s x))) ∧ I (step s x)) →
    pLoop f (l.map c) (enc s) = .ok (.nx (enc (l.foldl step s))) ∧ I (l.foldl step s)
  | [], s, i, _ => ⟨rfl, i⟩
  | x :: l, s, i, h => by
    obtain ⟨h1, h2⟩ := h s x i List.mem_cons_self
    rw [List.map_cons]
    unfold pLoop
    rw [h1, ok_bind]
    exact pLoop_map h2 fun s y i hy => h s y i (List.mem_cons_of_mem _ hy)
/-- .. whatever it does, what holds stays -/
theorem pLoop_inv {S : Type} {f : S → PyData → Res (Lp S R)} {I : S → Prop} : ∀ {l : List PyData} {s : S}, I s → (∀ s x, I s → x ∈ l → ∃ s', f s x = .ok (.nx s') ∧ I s') →
    ∃ s', pLoop f l s = .ok (.nx s') ∧ I s'
  | [], s, i, _ => ⟨s, rfl, i⟩
  | x :: l, s, i, h => by
    obtain ⟨s1, h1, h2⟩ := h s x i List.mem_cons_self
    unfold pLoop
    rw [h1, ok_bind]
    exact pLoop_inv h2 fun s y i hy => h s y i (List.mem_cons_of_mem _ hy)
theorem pLoop_nx {S : Type} {f : S → PyData → Res (Lp S R)} {d : PyData} {l : List PyData} {s s' : S} (h : f s d = .ok (.nx s')) : pLoop f (d :: l) s = pLoop f l s' := by
  show (f s d >>= fun r => _) = _
  rw [h, ok_bind]
theorem pLoop_rt {S : Type} {f : S → PyData → Res (Lp S R)} {d : PyData} {l : List PyData} {s : S} {r : R} (h : f s d = .ok (.rt r)) : pLoop f (d :: l) s = .ok (.rt r) := by
  show (f s d >>= fun r => _) = _
  rw [h, ok_bind]
theorem pFor_ok {S : Type} {l : List PyData} {s0 s1 : S} {f : S → PyData → Res (Lp S R)} {k : S → Res Ω} {ret : R → Ω} (h : pLoop f l s0 = .ok (.nx s1)) : pFor (.ok l) s0 f k ret = k s1 := by
  unfold pFor
  rw [ok_bind, h, ok_bind]
  rfl
theorem pFor_rt {S : Type} {l : List PyData} {s0 : S} {r : R} {f : S → PyData → Res (Lp S R)} {k : S → Res Ω} {ret : R → Ω} (h : pLoop f l s0 = .ok (.rt r)) : pFor (.ok l) s0 f k ret = .ok (ret r) := by
  unfold pFor
  rw [ok_bind, h, ok_bind]
  rfl
end
theorem law_y {f : FM} {x : Res PyData} {d : PyData} (h : Rf x (res f [d])) (e : x = .ok (.bool true)) : ∃ outs, f [.val d] = .ok (.val (.bool true), outs) := by
  have h := h.eq e
  unfold res at h
  rw [show [d].map Slot.val = [.val d] from rfl] at h
  cases q : f [.val d] with
  | ok t =>
    obtain ⟨s, o⟩ := t
    rw [q, ok_bind] at h
    have h : slotV s = .ok (.bool true) := h
    cases s with
    | val v => injection h with h; subst h; exact ⟨o, rfl⟩
    | own v => cases v <;> cases h
    | _ => cases h
  | exc c as => rw [q] at h; cases h
  | err => rw [q] at h; cases h
end ZZ

/-! G2: webs without ties, with ties made fast -/
namespace ZZ
open PySem PySem.Spec PyProof.Rows L2 Ob
def ixOf (l : List Nat) (h : Nat) : Nat := l.findIdx (· == h)
theorem ixOf_lt {l : List Nat} {h : Nat} (m : h ∈ l) : ixOf l h < l.length := List.findIdx_lt_length_of_exists ⟨h, m, by simp⟩
theorem ixOf_get {l : List Nat} {h : Nat} (m : h ∈ l) : l.getD (ixOf l h) 0 = h := by
  have hl := ixOf_lt m
  rw [List.getD_eq_getElem?_getD, List.getElem?_eq_getElem hl]
  have := List.findIdx_getElem (p := (· == h)) (xs := l) (w := hl)
  unfold ixOf
  simpa using this
theorem ixOf_inj {l : List Nat} {a b : Nat} (ha : a ∈ l) (hb : b ∈ l) : ixOf l a = ixOf l b ↔ a = b := ⟨fun e => by rw [← ixOf_get ha, e, ixOf_get hb], fun e => by rw [e]⟩
theorem findIdx_nL (h : Nat) : ∀ l : List Nat, h ∈ l → (nL l).findIdx? (fun z => PyData.eqv z (.int h)) = some (ixOf l h)
  | [], m => by cases m
  | x :: l, m => by
    show ((PyData.int x :: nL l).findIdx? fun z => PyData.eqv z (.int h)) = some ((x :: l).findIdx (· == h))
    rw [List.findIdx?_cons, List.findIdx_cons, eqv_nat]
    by_cases q : x = h
    · simp [q]
    · have m2 : h ∈ l := (List.mem_cons.mp m).resolve_left (fun e => q e.symm)
      have ih := findIdx_nL h l m2
      have e1 : (x == h) = false := by simpa using q
      rw [decide_eq_false q, e1]
      simp only [Bool.false_eq_true, if_false, cond_false]
      rw [ih]
      rfl
def plc (hs : List Nat) : List Nat := hs.map fun h => ixOf (dsn hs) h
theorem plc_len (hs : List Nat) : (plc hs).length = hs.length := by simp [plc]
theorem plc_at {hs : List Nat} {u : Nat} (h : u < hs.length) : (plc hs).getD u 0 = ixOf (dsn hs) (hs.getD u 0) := by
  unfold plc
  simp [List.getD_eq_getElem?_getD, List.getElem?_eq_getElem h]
theorem getD_mem {hs : List Nat} {u : Nat} (h : u < hs.length) : hs.getD u 0 ∈ hs := by
  rw [List.getD_eq_getElem?_getD, List.getElem?_eq_getElem h]
  exact List.getElem_mem h
theorem plc_lt {hs : List Nat} {u : Nat} (h : u < hs.length) : (plc hs).getD u 0 < (dsn hs).length := by
  rw [plc_at h]
  exact ixOf_lt (mem_dsn.mpr (getD_mem h))
theorem plc_eq {hs : List Nat} {u v : Nat} (h : u < hs.length) (k : v < hs.length) : (plc hs).getD u 0 = (plc hs).getD v 0 ↔ hs.getD u 0 = hs.getD v 0 := by
  rw [plc_at h, plc_at k]
  exact ixOf_inj (mem_dsn.mpr (getD_mem h)) (mem_dsn.mpr (getD_mem k))
theorem dsn_len (hs : List Nat) : (dsn hs).length = (vals hs).length := by simp [dsn]
theorem vals_le (hs : List Nat) : (vals hs).length ≤ hs.length := by
  have := sub_len (l := vals hs) (m := hs.map fun h : Nat => (h : Int)) (vals_nodup hs) fun x hx => by
    obtain ⟨u, hu, rfl⟩ := mem_vals.mp hx
    exact List.mem_map.mpr ⟨_, getD_mem hu, rfl⟩
  simpa using this
/-- the web fast by a lot -/
def fP (n : Nat) (ts : List (Nat × Nat)) (l : List Nat) : List Nat := plc (heads n ts l)
def fN (n : Nat) (ts : List (Nat × Nat)) (l : List Nat) : Nat := (dsn (heads n ts l)).length
def fPt (n : Nat) (ts : List (Nat × Nat)) (l : List Nat) (t : Nat) : Nat × Nat := ((fP n ts l).getD (ts.getD t (0, 0)).1 0, (fP n ts l).getD (ts.getD t (0, 0)).2 0)
def fQ (n : Nat) (ts : List (Nat × Nat)) (l : List Nat) (t : Nat) : Bool := !decide (t ∈ l) && !decide ((fPt n ts l t).1 = (fPt n ts l t).2)
def fK (n : Nat) (ts : List (Nat × Nat)) (l : List Nat) : List Nat := (List.range ts.length).filter (fQ n ts l)
def fT (n : Nat) (ts : List (Nat × Nat)) (l : List Nat) (t : Nat) : Nat × Nat := (min (fPt n ts l t).1 (fPt n ts l t).2, max (fPt n ts l t).1 (fPt n ts l t).2)
def fTs (n : Nat) (ts : List (Nat × Nat)) (l : List Nat) : List (Nat × Nat) := (fK n ts l).map (fT n ts l)
section
variable {n : Nat} {ts : List (Nat × Nat)} {l : List Nat}
theorem fN_le : fN n ts l ≤ n := by
  unfold fN
  rw [dsn_len]
  have := vals_le (heads n ts l)
  rw [heads_len] at this
  exact this
theorem fN_pos (w : OkWeb n ts) : 1 ≤ fN n ts l := by
  have := plc_lt (hs := heads n ts l) (u := 0) (by rw [heads_len]; have := w.n1; omega)
  unfold fN
  omega
theorem fPt_lt (w : OkWeb n ts) {t : Nat} (ht : t < ts.length) : (fPt n ts l t).1 < fN n ts l ∧ (fPt n ts l t).2 < fN n ts l := by
  obtain ⟨h1, h2⟩ := tie_lt w ht
  exact ⟨plc_lt (by rw [heads_len]; exact h1), plc_lt (by rw [heads_len]; exact h2)⟩
theorem mem_fK {t : Nat} : t ∈ fK n ts l ↔ t < ts.length ∧ t ∉ l ∧ (fPt n ts l t).1 ≠ (fPt n ts l t).2 := by
  unfold fK fQ
  simp
theorem fK_len : (fK n ts l).length ≤ ts.length := by
  have := List.length_filter_le (fQ n ts l) (List.range ts.length)
  simpa [fK] using this
theorem fWeb (w : OkWeb n ts) : OkWeb (fN n ts l) (fTs n ts l) where
  n1 := fN_pos w
  n2 := Nat.le_trans fN_le w.n2
  t := by
    unfold fTs
    rw [List.length_map]
    exact Nat.le_trans fK_len w.t
  e := fun p hp => by
    unfold fTs at hp
    obtain ⟨t, ht, rfl⟩ := List.mem_map.mp hp
    obtain ⟨h1, h2, h3⟩ := mem_fK.mp ht
    obtain ⟨h4, h5⟩ := fPt_lt (l := l) w h1
    unfold fT
    constructor
    · show min _ _ < max _ _; omega
    · show max _ _ < _; omega
theorem getD_map' {α β : Type} (L : List α) (f : α → β) (i : Nat) (z : α) (y : β) (h : i < L.length) : (L.map f).getD i y = f (L.getD i z) := by
  simp [List.getD_eq_getElem?_getD, List.getElem?_eq_getElem h]
theorem fTs_at {i : Nat} (h : i < (fK n ts l).length) : (fTs n ts l).getD i (0, 0) = fT n ts l ((fK n ts l).getD i 0) := getD_map' _ _ _ _ _ h
/-- heads of both: the same as heads of the web fast, by ties of both -/
theorem fast_cn (w : OkWeb n ts) {some both : List Nat} (hl : ∀ i ∈ l, i < ts.length) (hs : ∀ i ∈ some, i < (fTs n ts l).length) (hb : ∀ i, i ∈ both ↔ i ∈ l ∨ ∃ a ∈ some, i = (fK n ts l).getD a 0) {u v : Nat} (hu : u < n) (hv : v < n) :
    Cn (edges (fTs n ts l) some) ((fP n ts l).getD u 0) ((fP n ts l).getD v 0) ↔ Cn (edges ts both) u v := by
  have H := Hd.heads w hl
  have kl : ∀ i ∈ some, i < (fK n ts l).length := fun i hi => by have := hs i hi; unfold fTs at this; simpa using this
  have P : ∀ x y, x < n → y < n → ((fP n ts l).getD x 0 = (fP n ts l).getD y 0 ↔ Cn (edges ts l) x y) := fun x y hx hy => by
    unfold fP
    rw [plc_eq (by rw [heads_len]; exact hx) (by rw [heads_len]; exact hy)]
    exact H.cn x y hx hy
  constructor
  · intro c f hf
    -- f factors over the new places
    let g : Nat → Nat := fun k => f (((List.range n).find? fun x => (fP n ts l).getD x 0 == k).getD 0)
    have hg : ∀ x, x < n → g ((fP n ts l).getD x 0) = f x := fun x hx => by
      show f _ = f x
      cases e : (List.range n).find? fun y => (fP n ts l).getD y 0 == (fP n ts l).getD x 0 with
      | none =>
        have := List.find?_eq_none.mp e x (by simpa using hx)
        simp at this
      | some y =>
        have h1 := List.find?_some e
        have h2 := List.mem_of_find?_eq_some e
        have h1 : (fP n ts l).getD y 0 = (fP n ts l).getD x 0 := by simpa using h1
        have h2 : y < n := by simpa using h2
        exact (P y x h2 hx).mp h1 f fun p hp => by
          obtain ⟨i, hi, rfl⟩ := List.mem_map.mp hp
          exact hf _ (List.mem_map.mpr ⟨i, (hb i).mpr (.inl hi), rfl⟩)
    have := c g fun p hp => by
      obtain ⟨a, ha, rfl⟩ := List.mem_map.mp hp
      have hk := kl a ha
      rw [fTs_at hk]
      have hm := List.getElem_mem hk
      have e : (fK n ts l).getD a 0 = (fK n ts l)[a] := by simp [List.getD_eq_getElem?_getD, List.getElem?_eq_getElem hk]
      rw [← e] at hm
      obtain ⟨h1, h2, h3⟩ := mem_fK.mp hm
      obtain ⟨t1, t2⟩ := tie_lt w h1
      have q : g (fPt n ts l ((fK n ts l).getD a 0)).1 = g (fPt n ts l ((fK n ts l).getD a 0)).2 := by
        unfold fPt
        rw [hg _ t1, hg _ t2]
        exact hf _ (List.mem_map.mpr ⟨_, (hb _).mpr (.inr ⟨a, ha, rfl⟩), rfl⟩)
      unfold fT
      show g (min _ _) = g (max _ _)
      rcases Nat.le_total (fPt n ts l ((fK n ts l).getD a 0)).1 (fPt n ts l ((fK n ts l).getD a 0)).2 with z | z
      · rw [Nat.min_eq_left z, Nat.max_eq_right z]; exact q
      · rw [Nat.min_eq_right z, Nat.max_eq_left z]; exact q.symm
    rw [hg u hu, hg v hv] at this
    exact this
  · intro c g hg
    refine c (fun x => g ((fP n ts l).getD x 0)) fun p hp => ?_
    obtain ⟨i, hi, rfl⟩ := List.mem_map.mp hp
    rcases (hb i).mp hi with h | ⟨a, ha, rfl⟩
    · obtain ⟨t1, t2⟩ := tie_lt w (hl i h)
      show g _ = g _
      rw [(P _ _ t1 t2).mpr fun f hf => hf _ (List.mem_map.mpr ⟨i, h, rfl⟩)]
    · have hk := kl a ha
      have := hg _ (List.mem_map.mpr ⟨a, ha, rfl⟩)
      rw [fTs_at hk] at this
      unfold fT fPt at this
      have this : g (min _ _) = g (max _ _) := this
      show g _ = g _
      rcases Nat.le_total ((fP n ts l).getD (ts.getD ((fK n ts l).getD a 0) (0, 0)).1 0) ((fP n ts l).getD (ts.getD ((fK n ts l).getD a 0) (0, 0)).2 0) with z | z
      · rw [Nat.min_eq_left z, Nat.max_eq_right z] at this; exact this
      · rw [Nat.min_eq_right z, Nat.max_eq_left z] at this; exact this.symm
/-- as many unlike heads, if one goes onto the other -/
theorem vals_onto {hs hs' : List Nat} {φ : Nat → Nat} (h1 : ∀ u, u < hs.length → φ u < hs'.length) (h2 : ∀ k, k < hs'.length → ∃ u, u < hs.length ∧ φ u = k) (h3 : ∀ u v, u < hs.length → v < hs.length → (hs.getD u 0 = hs.getD v 0 ↔ hs'.getD (φ u) 0 = hs'.getD (φ v) 0)) : (vals hs).length = (vals hs').length := by
  let m := (List.range hs.length).map fun u => hs'.getD (φ u) 0
  have ml : m.length = hs.length := by simp [m]
  have ma : ∀ u, u < hs.length → m.getD u 0 = hs'.getD (φ u) 0 := fun u hu => by
    simp [m, List.getD_eq_getElem?_getD, List.getElem?_range hu]
  have e1 : (vals hs).length = (vals m).length := by
    refine Nat.le_antisymm (cnt_le ml.symm fun u v hu hv e => ?_) (cnt_le ml fun u v hu hv e => ?_)
    · rw [ma u hu, ma v hv] at e; exact (h3 u v hu hv).mpr e
    · rw [ml] at hu hv; rw [ma u hu, ma v hv]; exact (h3 u v hu hv).mp e
  have e2 : vals m = vals hs' := rise_uniq (dsort_lt _) (dsort_lt _) fun k => by
    show k ∈ vals m ↔ k ∈ vals hs'
    rw [mem_vals, mem_vals]
    constructor
    · rintro ⟨u, hu, rfl⟩
      rw [ml] at hu
      exact ⟨φ u, h1 u hu, by rw [ma u hu]⟩
    · rintro ⟨k, hk, rfl⟩
      obtain ⟨u, hu, rfl⟩ := h2 k hk
      exact ⟨u, by rw [ml]; exact hu, by rw [ma u hu]⟩
  rw [e1, e2]
theorem fP_onto (w : OkWeb n ts) {k : Nat} (hk : k < fN n ts l) : ∃ u, u < n ∧ (fP n ts l).getD u 0 = k := by
  have hm := List.getElem_mem hk
  obtain ⟨u, hu, e⟩ := List.getElem_of_mem (mem_dsn.mp hm)
  have hu' : u < n := by rw [heads_len] at hu; exact hu
  refine ⟨u, hu', ?_⟩
  unfold fP
  rw [plc_at hu]
  have e2 : (heads n ts l).getD u 0 = (dsn (heads n ts l))[k] := by rw [← e]; simp [List.getD_eq_getElem?_getD, List.getElem?_eq_getElem hu]
  rw [e2]
  have := ixOf_get hm
  have hlt := ixOf_lt hm
  have nd : (dsn (heads n ts l)).Nodup := (dsn_lt _).imp fun h => by omega
  rw [List.getD_eq_getElem?_getD, List.getElem?_eq_getElem hlt] at this
  exact (List.getElem_inj nd).mp this
theorem fast_rank (w : OkWeb n ts) {some both : List Nat} (hl : ∀ i ∈ l, i < ts.length) (hs : ∀ i ∈ some, i < (fTs n ts l).length) (hb2 : ∀ i ∈ both, i < ts.length) (hb : ∀ i, i ∈ both ↔ i ∈ l ∨ ∃ a ∈ some, i = (fK n ts l).getD a 0) :
    rankN (fN n ts l) (fTs n ts l) some = rankN n ts both - rankN n ts l := by
  have H1 := Hd.heads w hb2
  have H2 := Hd.heads (fWeb (l := l) w) hs
  have e : (vals (heads n ts both)).length = (vals (heads (fN n ts l) (fTs n ts l) some)).length := by
    refine vals_onto (φ := fun u => (fP n ts l).getD u 0) (fun u hu => ?_) (fun k hk => ?_) fun u v hu hv => ?_
    · rw [heads_len] at hu ⊢
      exact plc_lt (by rw [heads_len]; exact hu)
    · rw [heads_len] at hk ⊢
      exact fP_onto w hk
    · rw [heads_len] at hu hv
      exact (H1.cn u v hu hv).trans ((fast_cn w hl hs hb hu hv).symm.trans (H2.cn _ _ (plc_lt (by rw [heads_len]; exact hu)) (plc_lt (by rw [heads_len]; exact hv))).symm)
  unfold rankN
  rw [e]
  have : fN n ts l = (vals (heads n ts l)).length := dsn_len _
  omega
end
/-! ### parts taken out -/
theorem filter_ix {α : Type} (L : List α) (z : α) (p : α → Bool) : ((List.range L.length).filter fun i => p (L.getD i z)).map (fun i => L.getD i z) = L.filter p := by
  have e : L = (List.range L.length).map fun i => L.getD i z := by
    refine List.ext_getElem (by simp) fun i h1 h2 => ?_
    simp [List.getD_eq_getElem?_getD, List.getElem?_eq_getElem h1]
  conv => rhs; rw [e, List.filter_map]
  rfl
def stepE (hs : List Nat) (p : Nat × Nat) : List Nat := merge (hs.getD p.1 0) (hs.getD p.2 0) hs
theorem heads_E (n : Nat) (ts : List (Nat × Nat)) (l : List Nat) : heads n ts l = (edges ts l).foldl stepE (List.range n) := by
  unfold heads edges
  rw [List.foldl_map]
  rfl
end ZZ

set_option maxHeartbeats 8000000
namespace ZZ
open PySem PySem.Spec PyProof.Rows L2 Ob
def py_is_int (x_thing : PyData) : Res (PyData) := (pAnd (pUn (sIsT "int") (.ok x_thing)) (pNot (pUn (sIsT "bool") (.ok x_thing))))
def py_is_within (x_thing x_low x_high : PyData) : Res (PyData) := (pAnd (pC1 py_is_int (.ok x_thing)) (pChain sLe sLe (.ok x_low) (.ok x_thing) (.ok x_high)))
def py_is_sized (x_thing x_least x_most : PyData) : Res (PyData) := (pAnd (pUn (sIsT "tuple") (.ok x_thing)) (pChain sLe sLe (.ok x_least) (pUn sLen (.ok x_thing)) (.ok x_most)))
def py_is_rising (x_some : PyData) : Res (PyData) := (pUn sAll (pLc (qZip (.ok x_some) (pSl (.ok x_some) (pIt (.ok (.int 1))) pNo)) fun d1 => (un2 d1 fun x_one x_other => (lcY (pBin sLt (.ok x_one) (.ok x_other))))))
def py_is_lot (x_thing x_many : PyData) : Res (PyData) := (pIf (pOrT (pNotT (pTru (pUn (sIsT "tuple") (.ok x_thing)))) (pNotT (pTru (pUn sAll (pLc (qTpl (.ok x_thing)) fun x_one => (lcY (pC3 py_is_within (.ok x_one) (.ok (.int 0)) (pBin sSub (.ok x_many) (.ok (.int 1)))))))))) (.ok (.bool false)) (pC1 py_is_rising (.ok x_thing)))
def py_is_pair_of (x_many x_thing : PyData) : Res (PyData) := (pIf (pOrT (pNotT (pTru (pC3 py_is_sized (.ok x_thing) (.ok (.int 2)) (.ok (.int 2))))) (pOrT (pNotT (pTru (pC3 py_is_within (pBin sIx (.ok x_thing) (.ok (.int 0))) (.ok (.int 0)) (pBin sSub (.ok x_many) (.ok (.int 1)))))) (pNotT (pTru (pC3 py_is_within (pBin sIx (.ok x_thing) (.ok (.int 1))) (.ok (.int 0)) (pBin sSub (.ok x_many) (.ok (.int 1)))))))) (.ok (.bool false)) (pBin sLt (pBin sIx (.ok x_thing) (.ok (.int 0))) (pBin sIx (.ok x_thing) (.ok (.int 1)))))
def py_is_web (x_thing : PyData) : Res (PyData) := (pIf (pOrT (pNotT (pTru (pC3 py_is_sized (.ok x_thing) (.ok (.int 2)) (.ok (.int 2))))) (pOrT (pNotT (pTru (pC3 py_is_within (pBin sIx (.ok x_thing) (.ok (.int 0))) (.ok (.int 1)) (.ok (.int 12))))) (pNotT (pTru (pC3 py_is_sized (pBin sIx (.ok x_thing) (.ok (.int 1))) (.ok (.int 0)) (.ok (.int 40))))))) (.ok (.bool false)) (pUn sAll (pLc (qTpl (pBin sIx (.ok x_thing) (.ok (.int 1)))) fun x_one => (lcY (pC2 py_is_pair_of (pBin sIx (.ok x_thing) (.ok (.int 0))) (.ok x_one))))))
def py_check_web (x_web : PyData) : Res (PyData) := (pIf (pNotT (pTru (pC1 py_is_web (.ok x_web)))) (.exc "NoWeb" []) (.ok .none))
def py_raw_is_lot (x_web x_thing : PyData) : Res (PyData) := (pC2 py_is_lot (.ok x_thing) (pUn sLen (pBin sIx (.ok x_web) (.ok (.int 1)))))
def py_check_lot (x_web x_lot : PyData) : Res (PyData) := (pThen (pC1 py_check_web (.ok x_web)) (pIf (pNotT (pTru (pC2 py_raw_is_lot (.ok x_web) (.ok x_lot)))) (.exc "NoLot" []) (.ok .none)))
def py_raw_heads_b1 (x_web x_heads x_tie : PyData) : Res (Lp (PyData) (PyData)) := ((pTup (pCons (pBin sIx (.ok x_heads) (pBin sIx (pBin sIx (pBin sIx (.ok x_web) (.ok (.int 1))) (.ok x_tie)) (.ok (.int 0)))) (pCons (pBin sIx (.ok x_heads) (pBin sIx (pBin sIx (pBin sIx (.ok x_web) (.ok (.int 1))) (.ok x_tie)) (.ok (.int 1)))) pNil))) >>= fun z2 => (un2 z2 fun x_one x_other => (pIf (pTest (pBin sNe (.ok x_one) (.ok x_other))) ((pLc (qLst (.ok x_heads)) fun x_head => (lcY (pIf (pTest (pBin sIn (.ok x_head) (pTup (pCons (.ok x_one) (pCons (.ok x_other) pNil))))) (pBin sMin2 (.ok x_one) (.ok x_other)) (.ok x_head)))) >>= fun x_heads => (.ok (.nx x_heads))) (.ok (.nx x_heads)))))
def py_raw_heads (x_web x_lot : PyData) : Res (PyData) := ((pRg (qR1 (pBin sIx (.ok x_web) (.ok (.int 0))))) >>= fun x_heads => (pFor (qTpl (.ok x_lot)) x_heads (fun s1 d => py_raw_heads_b1 x_web s1 d) (fun s1 => (.ok s1)) (fun r => r)))
def py_raw_parts (x_web x_lot : PyData) : Res (PyData) := ((pC2 py_raw_heads (.ok x_web) (.ok x_lot)) >>= fun x_heads => (pUn sTuple (pLc (qLst (pUn sSorSet (.ok x_heads))) fun x_head => (lcY (pUn sTuple (pLc (qR1 (pBin sIx (.ok x_web) (.ok (.int 0)))) fun x_place => (lcT (pTest (pBin sEq (pBin sIx (.ok x_heads) (.ok x_place)) (.ok x_head))) (.ok x_place))))))))
def py_parts_by (x_web x_lot : PyData) : Res (PyData) := (pThen (pC2 py_check_lot (.ok x_web) (.ok x_lot)) (pC2 py_raw_parts (.ok x_web) (.ok x_lot)))
def py_raw_rank (x_web x_lot : PyData) : Res (PyData) := (pBin sSub (pBin sIx (.ok x_web) (.ok (.int 0))) (pUn sLenSet (pC2 py_raw_heads (.ok x_web) (.ok x_lot))))
def py_rank_by (x_web x_lot : PyData) : Res (PyData) := (pThen (pC2 py_check_lot (.ok x_web) (.ok x_lot)) (pC2 py_raw_rank (.ok x_web) (.ok x_lot)))
def py_raw_is_forest (x_web x_thing : PyData) : Res (PyData) := (pAnd (pC2 py_raw_is_lot (.ok x_web) (.ok x_thing)) (pBin sEq (pC2 py_raw_rank (.ok x_web) (.ok x_thing)) (pUn sLen (.ok x_thing))))
def py_is_forest (x_web x_thing : PyData) : Res (PyData) := (pThen (pC1 py_check_web (.ok x_web)) (pC2 py_raw_is_forest (.ok x_web) (.ok x_thing)))
def py_raw_is_tree (x_web x_thing : PyData) : Res (PyData) := (pAnd (pC2 py_raw_is_forest (.ok x_web) (.ok x_thing)) (pBin sEq (pUn sLen (.ok x_thing)) (pBin sSub (pBin sIx (.ok x_web) (.ok (.int 0))) (.ok (.int 1)))))
def py_is_tree (x_web x_thing : PyData) : Res (PyData) := (pThen (pC1 py_check_web (.ok x_web)) (pC2 py_raw_is_tree (.ok x_web) (.ok x_thing)))
def py_raw_without (x_web x_lot : PyData) : Res (PyData) := ((pUn sTuple (pLc (qR1 (pUn sLen (pBin sIx (.ok x_web) (.ok (.int 1))))) fun x_tie => (lcT (pTest (pBin sNotIn (.ok x_tie) (.ok x_lot))) (.ok x_tie)))) >>= fun x_kept => (pTup (pCons (pTup (pCons (pBin sIx (.ok x_web) (.ok (.int 0))) (pCons (pUn sTuple (pLc (qTpl (.ok x_kept)) fun x_tie => (lcY (pBin sIx (pBin sIx (.ok x_web) (.ok (.int 1))) (.ok x_tie))))) pNil))) (pCons (.ok x_kept) pNil))))
def py_without (x_web x_lot : PyData) : Res (PyData) := (pThen (pC2 py_check_lot (.ok x_web) (.ok x_lot)) (pC2 py_raw_without (.ok x_web) (.ok x_lot)))
def py_raw_fast (x_web x_lot : PyData) : Res (PyData) := ((pC2 py_raw_heads (.ok x_web) (.ok x_lot)) >>= fun x_heads => ((pUn sSorSet (.ok x_heads)) >>= fun x_order => ((pUn sTuple (pLc (qLst (.ok x_heads)) fun x_head => (lcY (pIndex (.ok x_order) (.ok x_head))))) >>= fun x_places => ((pLc (qR1 (pUn sLen (pBin sIx (.ok x_web) (.ok (.int 1))))) fun x_tie => (lcT (pAndT (pTest (pBin sNotIn (.ok x_tie) (.ok x_lot))) (pTest (pBin sNe (pBin sIx (.ok x_places) (pBin sIx (pBin sIx (pBin sIx (.ok x_web) (.ok (.int 1))) (.ok x_tie)) (.ok (.int 0)))) (pBin sIx (.ok x_places) (pBin sIx (pBin sIx (pBin sIx (.ok x_web) (.ok (.int 1))) (.ok x_tie)) (.ok (.int 1))))))) (.ok x_tie))) >>= fun x_kept => ((pLc (qLst (.ok x_kept)) fun x_tie => (lcY (pUn sTuple (pUn sSorted (pLst (pCons (pBin sIx (.ok x_places) (pBin sIx (pBin sIx (pBin sIx (.ok x_web) (.ok (.int 1))) (.ok x_tie)) (.ok (.int 0)))) (pCons (pBin sIx (.ok x_places) (pBin sIx (pBin sIx (pBin sIx (.ok x_web) (.ok (.int 1))) (.ok x_tie)) (.ok (.int 1)))) pNil))))))) >>= fun x_ties => (pTup (pCons (pTup (pCons (pUn sLen (.ok x_order)) (pCons (pUn sTuple (.ok x_ties)) pNil))) (pCons (.ok x_places) (pCons (pUn sTuple (.ok x_kept)) pNil)))))))))
def py_fast (x_web x_lot : PyData) : Res (PyData) := (pThen (pC2 py_check_lot (.ok x_web) (.ok x_lot)) (pC2 py_raw_fast (.ok x_web) (.ok x_lot)))
def py_raw_inside (x_web x_places : PyData) : Res (PyData) := (pUn sTuple (pLc (qEnT (pBin sIx (.ok x_web) (.ok (.int 1)))) fun d1 => (un2 d1 fun x_tie z2 => (un2 z2 fun x_i x_j => (lcT (pAndT (pTest (pBin sIn (.ok x_i) (.ok x_places))) (pTest (pBin sIn (.ok x_j) (.ok x_places)))) (.ok x_tie))))))
def py_inside (x_web x_places : PyData) : Res (PyData) := (pThen (pC1 py_check_web (.ok x_web)) (pIf (pNotT (pTru (pC2 py_is_lot (.ok x_places) (pBin sIx (.ok x_web) (.ok (.int 0)))))) (.exc "NoPlaces" []) (pC2 py_raw_inside (.ok x_web) (.ok x_places))))
def py_raw_is_parting_b1 (x_met x_lot : PyData) : Res (Lp (PyData) (PyData)) := (pExt x_met (pUn sList (.ok x_lot)) fun x_met => (.ok (.nx x_met)))
def py_raw_is_parting (x_web x_thing : PyData) : Res (PyData) := (pIf (pOrT (pNotT (pTru (pUn (sIsT "tuple") (.ok x_thing)))) (pNotT (pTru (pUn sAll (pLc (qTpl (.ok x_thing)) fun x_lot => (lcY (pAnd (pC2 py_is_lot (.ok x_lot) (pBin sIx (.ok x_web) (.ok (.int 0)))) (pBin sGt (pUn sLen (.ok x_lot)) (.ok (.int 0)))))))))) (.ok (.bool false)) ((pLst pNil) >>= fun x_met => (pFor (qTpl (.ok x_thing)) x_met (fun s1 d => py_raw_is_parting_b1 s1 d) (fun s1 => (pAnd (pBin sEq (pUn sSorted (pPk s1)) (pRg (qR1 (pBin sIx (.ok x_web) (.ok (.int 0)))))) (pBin sEq (pUn sList (.ok x_thing)) (pUn sSorted (.ok x_thing))))) (fun r => r))))
def py_is_parting (x_web x_thing : PyData) : Res (PyData) := (pThen (pC1 py_check_web (.ok x_web)) (pC2 py_raw_is_parting (.ok x_web) (.ok x_thing)))
def py_raw_between_b1 (x_owners d1 : PyData) : Res (Lp (PyData) (PyData)) := (un2 d1 fun x_at x_lot => (pUpdK x_owners (pDc (qTpl (.ok x_lot)) fun x_place => (lcY (dcP (.ok x_place) (.ok x_at)))) fun x_owners => (.ok (.nx x_owners))))
def py_raw_between (x_web x_parting : PyData) : Res (PyData) := ((.ok (.dict [])) >>= fun x_owners => (pFor (qEnT (.ok x_parting)) x_owners (fun s1 d => py_raw_between_b1 s1 d) (fun s1 => (pUn sTuple (pLc (qEnT (pBin sIx (.ok x_web) (.ok (.int 1)))) fun d2 => (un2 d2 fun x_tie z3 => (un2 z3 fun x_i x_j => (lcT (pTest (pBin sNe ((.ok x_i) >>= fDGetK s1) ((.ok x_j) >>= fDGetK s1))) (.ok x_tie))))))) (fun r => r)))
def py_between (x_web x_parting : PyData) : Res (PyData) := (pThen (pC1 py_check_web (.ok x_web)) (pIf (pNotT (pTru (pC2 py_raw_is_parting (.ok x_web) (.ok x_parting)))) (.exc "NoParting" []) (pC2 py_raw_between (.ok x_web) (.ok x_parting))))
end ZZ

/-! S1: what the functions of basics and webs tell -/
namespace ZZ
open PySem PySem.Spec PyProof.Rows L2 Ob
def noD : PyData → Prop
  | .dict _ => False
  | _ => True
def isI : PyData → Bool
  | .int _ => true
  | _ => false
def isW (a b : Int) : PyData → Bool
  | .int i => decide (a ≤ i) && decide (i ≤ b)
  | _ => false
@[simp] theorem v_is_int {d : PyData} (h : noD d) : py_is_int d = .ok (.bool (isI d)) := by
  unfold py_is_int
  cases d <;> first | exact h.elim | rfl
theorem v_is_within {d : PyData} (h : noD d) (a b : Int) : py_is_within d (.int a) (.int b) = .ok (.bool (isW a b d)) := by
  unfold py_is_within
  simp only [pC1_ok, v_is_int h]
  cases d <;> first | exact h.elim | (simp [isI, isW]; done) | skip
  rename_i i
  simp only [isI, isW, pAnd_t, pChain_ok, sLe_i, ok_bind]
  by_cases q : a ≤ i <;> simp [q]
def szB (a b : Int) : PyData → Bool
  | .tuple ds => decide (a ≤ ds.length) && decide ((ds.length : Int) ≤ b)
  | _ => false
theorem v_is_sized {d : PyData} (h : noD d) (a b : Int) : py_is_sized d (.int a) (.int b) = .ok (.bool (szB a b d)) := by
  unfold py_is_sized
  cases d <;> first | exact h.elim | (simp [szB, sIsT, isTy]; done) | skip
  rename_i ds
  simp only [szB, sIsT, isTy, pUn_ok, pAnd_t, pChain_ok, sLe_i, ok_bind, sLen_t, decide_true]
  by_cases q : a ≤ ds.length <;> simp [q]
def risB (l : List Int) : Bool := (l.zip (l.drop 1)).all fun p => decide (p.1 < p.2)
theorem risB_iff : ∀ l : List Int, risB l = true ↔ l.Pairwise (· < ·)
  | [] => by simp [risB]
  | [x] => by simp [risB]
  | x :: y :: l => by
    have ih := risB_iff (y :: l)
    unfold risB at ih ⊢
    simp only [List.drop_succ_cons, List.drop_zero, List.zip_cons_cons, List.all_cons, Bool.and_eq_true, decide_eq_true_eq] at ih ⊢
    rw [List.pairwise_cons]
    constructor
    · rintro ⟨h1, h2⟩
      have h3 := ih.mp h2
      refine ⟨fun z hz => ?_, h3⟩
      rcases List.mem_cons.mp hz with e | e
      · rw [e]; exact h1
      · have := (List.pairwise_cons.mp h3).1 z e; omega
    · rintro ⟨h1, h2⟩
      exact ⟨h1 y List.mem_cons_self, ih.mpr h2⟩
theorem cut1 {α : Type} (l : List α) : ZZ.cut l (some 1) none = l.drop 1 := cut_one l
theorem zip_iL (l m : List Int) : zipD (.tuple (iL l)) (.tuple (iL m)) = .ok ((l.zip m).map fun p => .tuple [.int p.1, .int p.2]) := by
  show Res.ok (List.zipWith (fun x y => PyData.tuple [x, y]) (iL l) (iL m)) = _
  congr 1
  induction l generalizing m with
  | nil => rfl
  | cons x l ih =>
    cases m with
    | nil => rfl
    | cons y m => simp [ih]
theorem v_is_rising (l : List Int) : py_is_rising (.tuple (iL l)) = .ok (.bool (risB l)) := by
  unfold py_is_rising
  have e : sSl (.tuple (iL l)) (some 1) none = .ok (.tuple (iL (l.drop 1))) := by
    show Res.ok (PyData.tuple (ZZ.cut (iL l) (some 1) none)) = _
    rw [cut1]
    simp only [iL, List.map_drop]
  simp only [pIt_ok, pNo_e, pSl_ok, e, qZip_ok, zip_iL]
  exact pAll_map fun p _ => by simp
def lotB (m : Nat) : PyData → Bool
  | .tuple ds => ds.all (isW 0 ((m : Int) - 1)) && risB ((intsOf ds).getD [])
  | _ => false
theorem isW_int {a b : Int} : ∀ {ds : List PyData}, ds.all (isW a b) = true → ∃ l : List Int, ds = iL l ∧ ∀ i ∈ l, a ≤ i ∧ i ≤ b
  | [], _ => ⟨[], rfl, by simp⟩
  | d :: ds, h => by
    simp only [List.all_cons, Bool.and_eq_true] at h
    obtain ⟨l, e, q⟩ := isW_int h.2
    cases d with
    | int i =>
      refine ⟨i :: l, by rw [e]; rfl, fun j hj => ?_⟩
      rcases List.mem_cons.mp hj with e | e
      · have := h.1; simp [isW] at this; rw [e]; exact this
      · exact q j e
    | _ => simp [isW] at h
theorem intsOf_iL (l : List Int) : intsOf (iL l) = some l := intsOf_map l
def noDs (ds : List PyData) : Prop := ∀ d ∈ ds, noD d
def noD2 : PyData → Prop
  | .tuple ds => noDs ds
  | .dict _ => False
  | _ => True
theorem noD2.d {d : PyData} (h : noD2 d) : noD d := by cases d <;> first | exact h | trivial
theorem v_is_lot {d : PyData} (h : noD2 d) (m : Nat) : py_is_lot d (.int m) = .ok (.bool (lotB m d)) := by
  unfold py_is_lot
  cases d <;> first | exact h.elim | (simp [lotB, sIsT, isTy]; done) | skip
  rename_i ds
  have h : noDs ds := h
  have e1 : pUn sAll (pLc (.ok (ds.map id)) fun x_one => lcY (pC3 py_is_within (.ok x_one) (.ok (.int 0)) (pBin sSub (.ok (.int m)) (.ok (.int 1))))) = .ok (.bool (ds.all (isW 0 ((m : Int) - 1)))) :=
    pAll_map fun d hd => by simp [v_is_within (h d hd)]
  rw [List.map_id] at e1
  simp only [pUn_ok, sIsT, isTy, pTru_ok, oTru_bool, decide_true, pNotT_ok, Bool.not_true, pOrT_f, qTpl_ok, e1, pC1_ok, lotB]
  by_cases q : ds.all (isW 0 ((m : Int) - 1)) = true
  · obtain ⟨l, rfl, _⟩ := isW_int q
    rw [q]
    simp only [Bool.not_true, pIf_f, v_is_rising, intsOf_iL, Option.getD_some, Bool.true_and]
  · rw [Bool.not_eq_true] at q
    rw [q]
    rfl
theorem lotB_iff {m : Nat} {d : PyData} : lotB m d = true ↔ ∃ l : List Nat, d = lotD l ∧ l.Pairwise (· < ·) ∧ ∀ i ∈ l, i < m := by
  constructor
  · intro h
    cases d <;> first | (simp [lotB] at h; done) | skip
    rename_i ds
    simp only [lotB, Bool.and_eq_true] at h
    obtain ⟨l, rfl, q⟩ := isW_int h.1
    have h2 := h.2
    rw [intsOf_iL, Option.getD_some, risB_iff] at h2
    refine ⟨l.map Int.toNat, ?_, ?_, ?_⟩
    · show PyData.tuple (iL l) = PyData.tuple (nL (l.map Int.toNat))
      congr 1
      simp only [iL, nL, List.map_map]
      refine List.map_congr_left fun i hi => ?_
      have := q i hi
      show PyData.int i = .int ((i.toNat : Nat) : Int)
      rw [Int.toNat_of_nonneg this.1]
    · rw [List.pairwise_map]
      refine h2.imp_of_mem fun ha hb hab => ?_
      have := q _ ha; have := q _ hb
      omega
    · intro i hi
      obtain ⟨j, hj, rfl⟩ := List.mem_map.mp hi
      have := q j hj
      omega
  · rintro ⟨l, rfl, h1, h2⟩
    have e : nL l = iL (l.map fun i : Nat => (i : Int)) := by simp only [iL, nL, List.map_map]; rfl
    simp only [lotB, Bool.and_eq_true]
    constructor
    · rw [List.all_eq_true]
      intro d hd
      obtain ⟨i, hi, rfl⟩ := List.mem_map.mp hd
      have := h2 i hi
      simp [isW]
      omega
    · rw [e, intsOf_iL, Option.getD_some, risB_iff, List.pairwise_map]
      exact h1.imp fun h => by omega
theorem lotB_lot {m : Nat} {l : List Nat} (h1 : l.Pairwise (· < ·)) (h2 : ∀ i ∈ l, i < m) : lotB m (lotD l) = true := lotB_iff.mpr ⟨l, rfl, h1, h2⟩
theorem noDs_nL (l : List Nat) : noDs (nL l) := fun d hd => by
  obtain ⟨i, _, rfl⟩ := List.mem_map.mp hd
  trivial
theorem noD2_lot (l : List Nat) : noD2 (lotD l) := noDs_nL l

/-! ### webs -/
def pairB (n : Nat) : PyData → Bool
  | .tuple [.int a, .int b] => isW 0 ((n : Int) - 1) (.int a) && isW 0 ((n : Int) - 1) (.int b) && decide (a < b)
  | _ => false
theorem isW_n {a b : Int} {d : PyData} (h : isW a b d = true) : ∃ i, d = .int i ∧ a ≤ i ∧ i ≤ b := by
  cases d <;> first | (simp [isW] at h; done) | skip
  rename_i i
  simp [isW] at h
  exact ⟨i, rfl, h⟩
theorem v_is_pair_of {d : PyData} (h : noD2 d) (n : Nat) : py_is_pair_of (.int n) d = .ok (.bool (pairB n d)) := by
  unfold py_is_pair_of
  have hs := v_is_sized h.d 2 2
  simp only [pC3_ok, hs, pTru_ok, oTru_bool, pNotT_ok]
  by_cases q : szB 2 2 d = true
  · cases d <;> first | (simp [szB] at q; done) | skip
    rename_i ds
    have ql : ds.length = 2 := by simp [szB] at q; omega
    match ds, ql, h with
    | [a, b], _, h =>
      have ha : noD a := h a (by simp)
      have hb : noD b := h b (by simp)
      rw [q]
      simp only [Bool.not_true, pOrT_f, pBin_ok, sIx2_0, sIx2_1, sSub_i, pC3_ok, v_is_within ha, v_is_within hb, pTru_ok, oTru_bool, pNotT_ok, pOrT_ok]
      by_cases qa : isW 0 ((n : Int) - 1) a = true
      · by_cases qb : isW 0 ((n : Int) - 1) b = true
        · rw [qa, qb]
          obtain ⟨i, rfl, _⟩ := isW_n qa
          obtain ⟨j, rfl, _⟩ := isW_n qb
          simp only [Bool.not_true, Bool.or_false, pIf_f, sLt_i, pairB, qa, qb, Bool.and_true, Bool.true_and]
        · rw [Bool.not_eq_true] at qb
          rw [qb]
          simp only [Bool.not_false, Bool.or_true, pIf_t]
          cases b <;> cases a <;> simp_all [pairB]
      · rw [Bool.not_eq_true] at qa
        rw [qa]
        simp only [Bool.not_false, Bool.true_or, pIf_t]
        cases a <;> cases b <;> simp_all [pairB]
  · rw [Bool.not_eq_true] at q
    rw [q]
    simp only [Bool.not_false, pOrT_t, pIf_t]
    unfold pairB
    split
    · simp [szB] at q
    · rfl
def noD4 : PyData → Prop
  | .tuple ds => ∀ d ∈ ds, match d with | .tuple es => ∀ e ∈ es, noD2 e | .dict _ => False | _ => True
  | .dict _ => False
  | _ => True
theorem noD4.d {d : PyData} (h : noD4 d) : noD d := by cases d <;> first | exact h | trivial
def webB : PyData → Bool
  | .tuple [.int n, .tuple ts] => isW 1 12 (.int n) && szB 0 40 (.tuple ts) && ts.all (pairB n.toNat)
  | _ => false
theorem v_is_web {d : PyData} (h : noD4 d) : py_is_web d = .ok (.bool (webB d)) := by
  unfold py_is_web
  have hs := v_is_sized h.d 2 2
  simp only [pC3_ok, hs, pTru_ok, oTru_bool, pNotT_ok]
  by_cases q : szB 2 2 d = true
  · cases d <;> first | (simp [szB] at q; done) | skip
    rename_i ds
    have ql : ds.length = 2 := by simp [szB] at q; omega
    match ds, ql, h with
    | [a, b], _, h =>
      have ha : noD a := by have := h a (by simp); cases a <;> first | exact this | trivial
      have hb : noD b := by have := h b (by simp); cases b <;> first | exact this | trivial
      rw [q]
      simp only [Bool.not_true, pOrT_f, pBin_ok, sIx2_0, sIx2_1, pC3_ok, v_is_within ha, v_is_sized hb, pTru_ok, oTru_bool, pNotT_ok, pOrT_ok]
      by_cases qa : isW 1 12 a = true
      · by_cases qb : szB 0 40 b = true
        · rw [qa, qb]
          obtain ⟨i, rfl, i1, i2⟩ := isW_n qa
          obtain ⟨ts, rfl⟩ : ∃ ts, b = .tuple ts := by cases b <;> first | exact ⟨_, rfl⟩ | (simp [szB] at qb)
          have ht : ∀ e ∈ ts, noD2 e := h (.tuple ts) (by simp)
          have ei : (PyData.int i) = .int ((i.toNat : Nat) : Int) := by rw [Int.toNat_of_nonneg (by omega)]
          have e1 : pUn sAll (pLc (.ok (ts.map id)) fun x_one => lcY (pC2 py_is_pair_of (.ok (.int i)) (.ok x_one))) = .ok (.bool (ts.all (pairB i.toNat))) :=
            pAll_map fun d hd => by rw [ei]; simp only [pC2_ok, id_eq, v_is_pair_of (ht d hd), lcY_ok]
          rw [List.map_id] at e1
          simp only [Bool.not_true, Bool.or_false, pIf_f, qTpl_ok, e1, webB, qa, qb, Bool.true_and]
        · rw [Bool.not_eq_true] at qb
          rw [qb]
          simp only [Bool.not_false, Bool.or_true, pIf_t]
          unfold webB
          split
          · rename_i e; cases e; rw [qb]; simp
          · rfl
      · rw [Bool.not_eq_true] at qa
        rw [qa]
        simp only [Bool.not_false, Bool.true_or, pIf_t]
        unfold webB
        split
        · rename_i e; cases e; rw [qa]; simp
        · rfl
  · rw [Bool.not_eq_true] at q
    rw [q]
    simp only [Bool.not_false, pOrT_t, pIf_t]
    unfold webB
    split
    · simp [szB] at q
    · rfl
theorem webB_ok {n : Nat} {ts : List (Nat × Nat)} (w : OkWeb n ts) : webB (webD n ts) = true := by
  have h1 := w.n1; have h2 := w.n2; have h3 := w.t
  simp only [webB, isW, szB, List.length_map, Bool.and_eq_true, decide_eq_true_eq, List.all_eq_true]
  refine ⟨⟨⟨by omega, by omega⟩, by omega, by omega⟩, fun d hd => ?_⟩
  obtain ⟨p, hp, rfl⟩ := List.mem_map.mp hd
  have := w.e p hp
  simp [pairB, isW]
  omega
theorem noD4_web (n : Nat) (ts : List (Nat × Nat)) : noD4 (webD n ts) := by
  intro d hd
  rcases List.mem_cons.mp hd with e | e
  · subst e; trivial
  · rw [List.mem_singleton.mp e]
    intro e he
    obtain ⟨p, _, rfl⟩ := List.mem_map.mp he
    intro x hx
    rcases List.mem_cons.mp hx with e | e
    · subst e; trivial
    · rw [List.mem_singleton.mp e]; trivial
section
variable {n : Nat} {ts : List (Nat × Nat)} {l : List Nat}
theorem v_is_web_ok (w : OkWeb n ts) : py_is_web (webD n ts) = .ok (.bool true) := by rw [v_is_web (noD4_web n ts), webB_ok w]
@[simp] theorem v_check_web (w : OkWeb n ts) : py_check_web (webD n ts) = .ok .none := by simp [py_check_web, v_is_web_ok w]
theorem v_check_web_no {d : PyData} (h : noD4 d) (hb : webB d = false) : py_check_web d = .exc "NoWeb" [] := by simp [py_check_web, v_is_web h, hb]
theorem v_raw_is_lot {d : PyData} (h : noD2 d) : py_raw_is_lot (webD n ts) d = .ok (.bool (lotB ts.length d)) := by simp [py_raw_is_lot, v_is_lot h]
theorem OkLot.b (o : OkLot ts l) : lotB ts.length (lotD l) = true := lotB_lot o.r o.m
theorem v_raw_is_lot_ok (o : OkLot ts l) : py_raw_is_lot (webD n ts) (lotD l) = .ok (.bool true) := by rw [v_raw_is_lot (noD2_lot l), o.b]
@[simp] theorem v_check_lot (w : OkWeb n ts) (o : OkLot ts l) : py_check_lot (webD n ts) (lotD l) = .ok .none := by simp [py_check_lot, v_check_web w, v_raw_is_lot_ok o]
theorem v_check_lot_no {d : PyData} (w : OkWeb n ts) (h : noD2 d) (hb : lotB ts.length d = false) : py_check_lot (webD n ts) d = .exc "NoLot" [] := by simp [py_check_lot, v_check_web w, v_raw_is_lot h, hb]
/-! heads -/
theorem ix_tie {i : Nat} (h : i < ts.length) : sIx (.tuple (ts.map tieD)) (.int (i : Int)) = .ok (tieD (ts.getD i (0, 0))) := ixT_map h
theorem relabel {hs : List Nat} {a b : Nat} {f : PyData → Res (Option PyData)} (h : ∀ x ∈ hs, f (.int (x : Nat)) = .ok (some (.int ((if x = a ∨ x = b then min a b else x : Nat) : Int)))) : pLc (.ok (nL hs)) f = .ok (.list (nL (merge a b hs))) := by
  rw [pLc_map (c := fun i : Nat => PyData.int (i : Int)) h]
  simp only [nL, merge, List.map_map]
  rfl
theorem v_raw_heads_b1 (w : OkWeb n ts) {hs : List Nat} {i : Nat} (hl : hs.length = n) (hi : i < ts.length) : py_raw_heads_b1 (webD n ts) (.list (nL hs)) (.int (i : Int)) = .ok (.nx (.list (nL (stepH ts hs i)))) := by
  obtain ⟨t1, t2⟩ := tie_lt w hi
  have e1 := ix_nL (l := hs) (k := (ts.getD i (0, 0)).1) (by omega)
  have e2 := ix_nL (l := hs) (k := (ts.getD i (0, 0)).2) (by omega)
  unfold py_raw_heads_b1
  simp only [pBin_ok, sIx2_1, ix_tie hi, sIx2_0, e1, e2, pNil_e, pCons_ok, pTup2, ok_bind, un2_ok, sNe_n, pTest_ok, qLst_ok]
  by_cases q : hs.getD (ts.getD i (0, 0)).1 0 = hs.getD (ts.getD i (0, 0)).2 0
  · rw [decide_eq_true q]
    simp only [Bool.not_true, pIf_f]
    unfold stepH
    rw [q, merge_self]
  · rw [decide_eq_false q]
    simp only [Bool.not_false, pIf_t]
    rw [relabel (hs := hs) (a := hs.getD (ts.getD i (0, 0)).1 0) (b := hs.getD (ts.getD i (0, 0)).2 0)]
    · rfl
    · intro x _
      simp only [sIn_nat, pTest_ok, sMin2_n, pIf_ok]
      by_cases q : x = hs.getD (ts.getD i (0, 0)).1 0 ∨ x = hs.getD (ts.getD i (0, 0)).2 0
      · rw [if_pos (decide_eq_true q), if_pos q]; rfl
      · rw [if_neg (by rw [decide_eq_false q]; simp), if_neg q]; rfl
theorem v_raw_heads (w : OkWeb n ts) (hm : ∀ i ∈ l, i < ts.length) : py_raw_heads (webD n ts) (lotD l) = .ok (.list (nL (heads n ts l))) := by
  unfold py_raw_heads
  simp only [pBin_ok, sIx2_0, qR1_ok n (ok_lim w), pRg_ok, ok_bind, qTpl_ok]
  have := pLoop_map (c := fun i : Nat => PyData.int (i : Int)) (enc := fun hs : List Nat => PyData.list (nL hs)) (f := fun s1 d => py_raw_heads_b1 (webD n ts) s1 d) (step := stepH ts) (I := fun hs => hs.length = n) (l := l) (s := List.range n) (List.length_range) fun hs i hl hi => ⟨v_raw_heads_b1 w hl (hm i hi), by rw [stepH_len]; exact hl⟩
  rw [pFor_ok this.1]
  rfl
theorem sorH (w : OkWeb n ts) : sSorSet (.list (nL (heads n ts l))) = .ok (.list ((vals (heads n ts l)).map .int)) := sor_nL (by rw [heads_len]; have := w.n2; omega)
theorem v_raw_parts (w : OkWeb n ts) (hm : ∀ i ∈ l, i < ts.length) : py_raw_parts (webD n ts) (lotD l) = .ok (partsD n (heads n ts l)) := by
  unfold py_raw_parts
  simp only [pC2_ok, v_raw_heads w hm, ok_bind, pUn_ok, sorH w, qLst_ok, pBin_ok, sIx2_0, qR1_ok n (ok_lim w)]
  rw [pLc_map (c := PyData.int) (F := fun k => .tuple (nL (partOf n (heads n ts l) k))) fun k _ => ?_]
  · simp only [pUn_ok, sTuple_l]
    rfl
  · rw [pLc_filter (c := fun i : Nat => PyData.int (i : Int)) (p := fun p => decide ((((heads n ts l).getD p 0 : Nat) : Int) = k)) (F := fun i : Nat => PyData.int (i : Int)) fun p hp => ?_]
    · simp only [pUn_ok, sTuple_l, lcY_ok]
      rfl
    · have e := ix_nL (l := heads n ts l) (k := p) (by rw [heads_len]; simpa using hp)
      simp only [pBin_ok, e, sEq_int, pTest_ok, lcT_ok]
theorem v_parts_by (w : OkWeb n ts) (o : OkLot ts l) : py_parts_by (webD n ts) (lotD l) = .ok (partsD n (heads n ts l)) := by simp [py_parts_by, v_check_lot w o, v_raw_parts w o.m]
theorem v_raw_rank (w : OkWeb n ts) (hm : ∀ i ∈ l, i < ts.length) : py_raw_rank (webD n ts) (lotD l) = .ok (.int (rankN n ts l)) := by
  have e : sLenSet (.list (nL (heads n ts l))) = .ok (.int (vals (heads n ts l)).length) := len_nL (by rw [heads_len]; have := w.n2; omega)
  simp [py_raw_rank, v_raw_heads w hm, e, rankN]
theorem v_rank_by (w : OkWeb n ts) (o : OkLot ts l) : py_rank_by (webD n ts) (lotD l) = .ok (.int (rankN n ts l)) := by simp [py_rank_by, v_check_lot w o, v_raw_rank w o.m]
theorem v_raw_is_forest (w : OkWeb n ts) (o : OkLot ts l) : py_raw_is_forest (webD n ts) (lotD l) = .ok (.bool (isF n ts l)) := by
  simp [py_raw_is_forest, v_raw_is_lot_ok o, v_raw_rank w o.m, sEq_int, isF]
theorem v_raw_is_forest_no {d : PyData} (h : noD2 d) (hb : lotB ts.length d = false) : py_raw_is_forest (webD n ts) d = .ok (.bool false) := by
  simp [py_raw_is_forest, v_raw_is_lot h, hb]
theorem v_is_forest (w : OkWeb n ts) (o : OkLot ts l) : py_is_forest (webD n ts) (lotD l) = .ok (.bool (isF n ts l)) := by simp [py_is_forest, v_check_web w, v_raw_is_forest w o]
end
end ZZ

/-! S2: without, fast; things that can be likened -/
namespace ZZ
open PySem PySem.Spec PyProof.Rows L2 Ob
/-! ### likened -/
def Sh (k : Nat) (d : PyData) : Prop := d.canLay0 = true ∧ d.depth ≤ k
theorem Sh.sh {d : PyData} (h : Sh 64 d) : SeqAt.shaped d = true := by
  unfold SeqAt.shaped
  rw [h.1, decide_eq_true h.2]
  rfl
theorem Sh.up {k m : Nat} {d : PyData} (h : Sh k d) (q : k ≤ m) : Sh m d := ⟨h.1, Nat.le_trans h.2 q⟩
theorem sh_int (i : Int) : Sh 0 (.int i) := ⟨by simp [PyData.canLay0], by simp [PyData.depth]⟩
theorem sh_bool (i : Bool) : Sh 0 (.bool i) := ⟨by simp [PyData.canLay0], by simp [PyData.depth]⟩
theorem sh_all {k : Nat} : ∀ {ds : List PyData}, (∀ d ∈ ds, Sh k d) → PyData.canLayAll0 ds = true ∧ PyData.depthAll ds ≤ k
  | [], _ => ⟨rfl, by simp [PyData.depthAll]⟩
  | d :: ds, h => by
    obtain ⟨h1, h2⟩ := sh_all fun e he => h e (List.mem_cons_of_mem _ he)
    obtain ⟨h3, h4⟩ := h d List.mem_cons_self
    constructor
    · show (d.canLay0 && PyData.canLayAll0 ds) = true
      rw [h1, h3]; rfl
    · show max d.depth (PyData.depthAll ds) ≤ k
      omega
theorem sh_tup {k : Nat} {ds : List PyData} (h : ∀ d ∈ ds, Sh k d) : Sh (k + 1) (.tuple ds) := ⟨(sh_all h).1, by show PyData.depthAll ds + 1 ≤ k + 1; have := (sh_all h).2; omega⟩
theorem sh_lst {k : Nat} {ds : List PyData} (h : ∀ d ∈ ds, Sh k d) : Sh (k + 1) (.list ds) := ⟨(sh_all h).1, by show PyData.depthAll ds + 1 ≤ k + 1; have := (sh_all h).2; omega⟩
theorem sh_t1 {k : Nat} {a : PyData} (h : Sh k a) : Sh (k + 1) (.tuple [a]) := sh_tup fun d hd => by rw [List.mem_singleton.mp hd]; exact h
theorem sh_t2 {k : Nat} {a b : PyData} (h : Sh k a) (h2 : Sh k b) : Sh (k + 1) (.tuple [a, b]) := sh_tup fun d hd => by
  simp at hd
  rcases hd with rfl | rfl <;> assumption
theorem sh_t3 {k : Nat} {a b c : PyData} (h : Sh k a) (h2 : Sh k b) (h3 : Sh k c) : Sh (k + 1) (.tuple [a, b, c]) := sh_tup fun d hd => by
  simp at hd
  rcases hd with rfl | rfl | rfl <;> assumption
theorem Sh_lot (l : List Nat) : Sh 1 (lotD l) := sh_tup fun d hd => by
  obtain ⟨i, _, rfl⟩ := List.mem_map.mp hd
  exact sh_int _
theorem Sh_web (n : Nat) (ts : List (Nat × Nat)) : Sh 3 (webD n ts) := sh_t2 ((sh_int _).up (by omega)) (sh_tup fun d hd => by
  obtain ⟨p, _, rfl⟩ := List.mem_map.mp hd
  exact sh_t2 (sh_int _) (sh_int _))
theorem sNe_eq {d : PyData} (h : Sh 64 d) : sNe d d = .ok (.bool false) := by
  unfold sNe
  rw [if_pos (by rw [h.sh]; rfl), SeqAt.eqv_refl _ h.1]
  rfl
theorem sEq_eq {d : PyData} (h : Sh 64 d) : sEq d d = .ok (.bool true) := by
  unfold sEq
  rw [if_pos (by rw [h.sh]; rfl), SeqAt.eqv_refl _ h.1]
/-! ### without -/
def wK (ts : List (Nat × Nat)) (l : List Nat) : List Nat := (List.range ts.length).filter fun t => !decide (t ∈ l)
def wTs (ts : List (Nat × Nat)) (l : List Nat) : List (Nat × Nat) := (wK ts l).map fun t => ts.getD t (0, 0)
section
variable {n : Nat} {ts : List (Nat × Nat)} {l : List Nat}
theorem mem_wK {t : Nat} : t ∈ wK ts l ↔ t < ts.length ∧ t ∉ l := by simp [wK]
theorem wK_len : (wK ts l).length ≤ ts.length := by
  have := List.length_filter_le (fun t => !decide (t ∈ l)) (List.range ts.length)
  simpa [wK] using this
theorem wK_lt : (wK ts l).Pairwise (· < ·) := List.Pairwise.filter _ (List.pairwise_lt_range)
theorem wWeb (w : OkWeb n ts) : OkWeb n (wTs ts l) where
  n1 := w.n1
  n2 := w.n2
  t := by
    unfold wTs
    rw [List.length_map]
    exact Nat.le_trans wK_len w.t
  e := fun p hp => by
    obtain ⟨t, ht, rfl⟩ := List.mem_map.mp hp
    obtain ⟨h1, _⟩ := mem_wK.mp ht
    rw [List.getD_eq_getElem?_getD, List.getElem?_eq_getElem h1]
    exact w.e _ (List.getElem_mem h1)
theorem v_raw_without (w : OkWeb n ts) : py_raw_without (webD n ts) (lotD l) = .ok (.tuple [webD n (wTs ts l), lotD (wK ts l)]) := by
  unfold py_raw_without
  have hm : ts.length ≤ 1000000 := Nat.le_trans w.t (by decide)
  simp only [pBin_ok, sIx2_1, pUn_ok, sLen_t, List.length_map, qR1_ok ts.length hm]
  rw [pLc_filter (c := fun i : Nat => PyData.int (i : Int)) (p := fun t => !decide (t ∈ l)) (F := fun i : Nat => PyData.int (i : Int)) fun t ht => ?_]
  · rw [show ((List.range ts.length).filter fun t => !decide (t ∈ l)) = wK ts l from rfl]
    simp only [pUn_ok, sTuple_l, ok_bind, qTpl_ok]
    rw [pLc_map (c := fun i : Nat => PyData.int (i : Int)) (F := fun t => tieD (ts.getD t (0, 0))) fun t ht => ?_]
    · simp only [pUn_ok, sTuple_l, pNil_e, pCons_ok, pTup2, sIx2_0]
      unfold wTs webD lotD nL
      rw [List.map_map]
      rfl
    · rw [ix_tie (mem_wK.mp ht).1, lcY_ok]
  · rw [sNotIn_lot, pTest_ok, lcT_ok]
theorem v_without (w : OkWeb n ts) (o : OkLot ts l) : py_without (webD n ts) (lotD l) = .ok (.tuple [webD n (wTs ts l), lotD (wK ts l)]) := by
  unfold py_without
  rw [pC2_ok, v_check_lot w o, pThen_ok, pC2_ok, v_raw_without w]
/-! ### fast -/
theorem srt2 (a b : Nat) : srt [a, b] = [min a b, max a b] := by
  show insNat a (insNat b []) = _
  show insNat a [b] = _
  unfold insNat
  split
  · rw [Nat.min_eq_right (by omega), Nat.max_eq_left (by omega)]; rfl
  · rw [Nat.min_eq_left (by omega), Nat.max_eq_right (by omega)]
theorem sSorted_2 (a b : Nat) : sSorted (.list [.int (a : Int), .int (b : Int)]) = .ok (.list [.int ((min a b : Nat) : Int), .int ((max a b : Nat) : Int)]) := by
  have := sSorted_lot [a, b]
  rw [srt2] at this
  exact this
theorem sIndex_nL {L : List Nat} {h : Nat} (m : h ∈ L) : sIndex (nL L) (.int (h : Int)) = .ok (.int (ixOf L h : Nat)) := by
  unfold sIndex
  have s1 : Sh 1 (.list (nL L)) := sh_lst fun d hd => by
    obtain ⟨i, _, rfl⟩ := List.mem_map.mp hd
    exact sh_int _
  rw [if_pos (by rw [(s1.up (by omega)).sh, ((sh_int _).up (by omega)).sh]; rfl), findIdx_nL h L m]
theorem fP_len : (fP n ts l).length = n := by unfold fP; rw [plc_len, heads_len]
theorem ix_fP {i : Nat} (h : i < n) : sIx (lotD (fP n ts l)) (.int (i : Int)) = .ok (.int (((fP n ts l).getD i 0 : Nat) : Int)) := ixT_nL (by rw [fP_len]; exact h)
theorem v_raw_fast (w : OkWeb n ts) (hl : ∀ i ∈ l, i < ts.length) : py_raw_fast (webD n ts) (lotD l) = .ok (.tuple [webD (fN n ts l) (fTs n ts l), lotD (fP n ts l), lotD (fK n ts l)]) := by
  unfold py_raw_fast
  have hm : ts.length ≤ 1000000 := Nat.le_trans w.t (by decide)
  have so := sorH (l := l) w
  rw [← nL_dsn] at so
  rw [pC2_ok, v_raw_heads w hl, ok_bind, pUn_ok, so, ok_bind, qLst_ok]
  rw [pLc_map (c := fun i : Nat => PyData.int (i : Int)) (F := fun h => .int ((ixOf (dsn (heads n ts l)) h : Nat) : Int)) fun h hh => by
    rw [pIndex_ok, sIndex_nL (mem_dsn.mpr hh), lcY_ok]]
  have e1 : ((heads n ts l).map fun h => PyData.int ((ixOf (dsn (heads n ts l)) h : Nat) : Int)) = nL (fP n ts l) := by
    unfold fP plc nL
    rw [List.map_map]
    rfl
  rw [e1]
  simp only [pUn_ok, sTuple_l, ok_bind, pBin_ok, sIx2_1, sLen_t, List.length_map, qR1_ok ts.length hm]
  rw [pLc_filter (c := fun i : Nat => PyData.int (i : Int)) (p := fQ n ts l) (F := fun i : Nat => PyData.int (i : Int)) fun t ht => ?_]
  · rw [show ((List.range ts.length).filter (fQ n ts l)) = fK n ts l from rfl]
    simp only [ok_bind, qLst_ok]
    rw [pLc_map (c := fun i : Nat => PyData.int (i : Int)) (F := fun t => tieD (fT n ts l t)) fun t ht => ?_]
    · simp only [ok_bind, pUn_ok, sLen_l, sTuple_l, pNil_e, pCons_ok, pTup2, pTup3]
      unfold fTs webD lotD nL fN
      rw [List.map_map, List.length_map]
      rfl
    · obtain ⟨t1, t2⟩ := tie_lt w (mem_fK.mp ht).1
      rw [ix_tie (mem_fK.mp ht).1]
      simp only [pBin_ok, sIx2_0, sIx2_1, tieD]
      have e1 := ix_fP (ts := ts) (l := l) t1
      have e2 := ix_fP (ts := ts) (l := l) t2
      unfold lotD at e1 e2
      rw [e1, e2]
      simp only [pNil_e, pCons_ok, pLst2, pUn_ok, sSorted_2, sTuple_l, lcY_ok]
      rfl
  · have ht : t < ts.length := by simpa using ht
    obtain ⟨t1, t2⟩ := tie_lt w ht
    rw [ix_tie ht]
    simp only [pBin_ok, sIx2_0, sIx2_1, tieD]
    have e1 := ix_fP (ts := ts) (l := l) t1
    have e2 := ix_fP (ts := ts) (l := l) t2
    unfold lotD at e1 e2
    have e3 := sNotIn_lot t l
    unfold lotD at e3
    rw [e1, e2, e3, pBin_ok, sNe_n]
    simp only [pTest_ok, pAndT_ok, lcT_ok]
    rfl
theorem v_fast (w : OkWeb n ts) (o : OkLot ts l) : py_fast (webD n ts) (lotD l) = .ok (.tuple [webD (fN n ts l) (fTs n ts l), lotD (fP n ts l), lotD (fK n ts l)]) := by
  unfold py_fast
  rw [pC2_ok, v_check_lot w o, pThen_ok, pC2_ok, v_raw_fast w o.m]
/-! ### both -/
theorem filter_map_ix {α β : Type} (L : List α) (z : α) (p : α → Bool) (g : α → β) : ((List.range L.length).filter fun i => p (L.getD i z)).map (fun i => g (L.getD i z)) = (L.filter p).map g := by
  rw [← filter_ix L z p, List.map_map]
  rfl
end
end ZZ

set_option maxHeartbeats 8000000
namespace ZZ
open PySem PySem.Spec PyProof.Rows L2 Ob
def py__law_draws_b3 (x_script x_row x_seed x_k : PyData) : Res (Lp (PyData × PyData) (PyData)) := ((.ok x_k) >>= fun x_cell => (pIf (pTru (.ok x_script)) ((pBin sMod (pUn sInt (pBin sIx (.ok x_script) (pBin sMod (pBin sAdd (.ok x_k) (.ok (.int 1))) (pUn sLen (.ok x_script))))) (.ok (.int 2147483647))) >>= fun x_cell => ((pBin sMod (pUn sInt (pBin sAdd (pBin sAdd (pBin sAdd (pBin sMul (.ok x_seed) (.ok (.int 48271))) (.ok x_cell)) (pBin sMul (.ok x_k) (.ok (.int 69621)))) (.ok (.int 13)))) (.ok (.int 2147483647))) >>= fun x_seed => (pApp x_row (pBin sMod (pBin sFDiv (pBin sMod (pUn sInt (pBin sAdd (pBin sMul (.ok x_seed) (.ok (.int 16807))) (.ok (.int 54321)))) (.ok (.int 2147483647))) (.ok (.int 7))) (.ok (.int 1009))) fun x_row => (.ok (.nx (x_row, x_seed)))))) ((pBin sMod (pUn sInt (pBin sAdd (pBin sAdd (pBin sAdd (pBin sMul (.ok x_seed) (.ok (.int 48271))) (.ok x_cell)) (pBin sMul (.ok x_k) (.ok (.int 69621)))) (.ok (.int 13)))) (.ok (.int 2147483647))) >>= fun x_seed => (pApp x_row (pBin sMod (pBin sFDiv (pBin sMod (pUn sInt (pBin sAdd (pBin sMul (.ok x_seed) (.ok (.int 16807))) (.ok (.int 54321)))) (.ok (.int 2147483647))) (.ok (.int 7))) (.ok (.int 1009))) fun x_row => (.ok (.nx (x_row, x_seed)))))))
def py__law_draws_j2 (x_script x_many x_row x_big : PyData) : Res (PyData) := ((.ok (.int 815)) >>= fun x_seed => (pFor (qR1 (pBin sSub (.ok x_many) (pUn sLen (pPk x_row)))) (x_row, x_seed) (fun s3 d => py__law_draws_b3 x_script s3.1 s3.2 d) (fun s3 => (.ok s3.1)) (fun r => r)))
def py__law_draws_b4 (x_row x_big x_k : PyData) : Res (Lp (PyData × PyData) (PyData)) := (pIf (pTest (pBin sGt (.ok x_big) (.ok (.int 0)))) (pApp x_row (pBin sMod (pUn sInt (.ok x_big)) (.ok (.int 1009))) fun x_row => ((pBin sFDiv (.ok x_big) (.ok (.int 1009))) >>= fun x_big => (.ok (.nx (x_row, x_big))))) (.ok (.nx (x_row, x_big))))
def py__law_draws_j1 (x_script x_many x_row x_big : PyData) : Res (PyData) := (pIf (pTest (pBin sGe (.ok x_big) (.ok (.int 1000000000000000000)))) (pFor (qR1 (.ok x_many)) (x_row, x_big) (fun s4 d => py__law_draws_b4 s4.1 s4.2 d) (fun s4 => (py__law_draws_j2 x_script x_many s4.1 s4.2)) (fun r => r)) (py__law_draws_j2 x_script x_many x_row x_big))
def py__law_draws (x_script x_many : PyData) : Res (PyData) := ((pLst pNil) >>= fun x_row => ((pIf (pTru (.ok x_script)) (pBin sIx (.ok x_script) (.ok (.int 0))) (.ok (.int 0))) >>= fun x_big => (pIf (pTest (pBin sLt (.ok x_big) (.ok (.int 0)))) ((pUn sNeg (.ok x_big)) >>= fun x_big => (py__law_draws_j1 x_script x_many x_row x_big)) (py__law_draws_j1 x_script x_many x_row x_big))))
def pv__law_draws (x_script x_many : PyData) : Res PyData := py__law_draws x_script x_many >>= pPk
def py__law_take (x_draws x_many : PyData) : Res (PyData × PyData) := (pIf (pNotT (pTru (pPk x_draws))) ((.ok (.int 0)) >>= fun v => .ok (v, x_draws)) (pBind2 ((eBin sMod (eUn sInt ePop) (eP (.ok x_many))) x_draws) fun v x_draws => .ok (v, x_draws)))
def py__law_web_b1 (x_many x_draws x_out x_turn : PyData) : Res (Lp (PyData × PyData) (PyData × PyData)) := (ePar (eCall (fun d => l1 (py__law_take d)) (eCons (eP (.ok x_many)) eNil)) (eCall (fun d => l1 (py__law_take d)) (eCons (eP (pBin sSub (.ok x_many) (.ok (.int 1)))) eNil)) x_draws fun n_i n_j x_draws => ((pIf (pTest (pBin sGe (.ok n_j) (.ok n_i))) (pBin sAdd (.ok n_j) (.ok (.int 1))) (.ok n_j)) >>= fun x_j => (pApp x_out (pTup (pCons (pBin sMin2 (.ok n_i) (.ok x_j)) (pCons (pBin sMax2 (.ok n_i) (.ok x_j)) pNil))) fun x_out => (.ok (.nx (x_draws, x_out))))))
def py__law_web (x_draws x_least x_most x_ties : PyData) : Res (PyData × PyData) := (pBind2 ((eBin sAdd (eP (.ok x_least)) (eCall (fun d => l1 (py__law_take d)) (eCons (eP (pBin sAdd (pBin sSub (.ok x_most) (.ok x_least)) (.ok (.int 1)))) eNil))) x_draws) fun x_many x_draws => ((pLst pNil) >>= fun x_out => (pForE ((eUn fR1 (eIf (eP (pTest (pBin sGt (.ok x_many) (.ok (.int 1))))) (eCall (fun d => l1 (py__law_take d)) (eCons (eP (pBin sAdd (.ok x_ties) (.ok (.int 1)))) eNil)) (eP (.ok (.int 0))))) x_draws) (fun x_draws => (x_draws, x_out)) (fun s1 d => py__law_web_b1 x_many s1.1 s1.2 d) (fun s1 => ((pTup (pCons (.ok x_many) (pCons (pUn sTuple (pPk s1.2)) pNil))) >>= fun v => .ok (v, s1.1))) (fun r => r))))
def py__law_parts_b1 (x_web x_label x_number : PyData) : Res (Lp (PyData) (PyData)) := ((pBin sIx (pBin sIx (.ok x_web) (.ok (.int 1))) (.ok x_number)) >>= fun z2 => (un2 z2 fun x_i x_j => ((pTup (pCons (pBin sIx (.ok x_label) (.ok x_i)) (pCons (pBin sIx (.ok x_label) (.ok x_j)) pNil))) >>= fun z3 => (un2 z3 fun x_one x_other => ((pLc (qLst (.ok x_label)) fun x_here => (lcY (pIf (pTest (pBin sIn (.ok x_here) (pTup (pCons (.ok x_one) (pCons (.ok x_other) pNil))))) (pBin sMin2 (.ok x_one) (.ok x_other)) (.ok x_here)))) >>= fun x_label => (.ok (.nx x_label)))))))
def py__law_parts (x_web x_lot : PyData) : Res (PyData) := ((pRg (qR1 (pBin sIx (.ok x_web) (.ok (.int 0))))) >>= fun x_label => (pFor (qTpl (.ok x_lot)) x_label (fun s1 d => py__law_parts_b1 x_web s1 d) (fun s1 => (pUn sTuple (pLc (qLst (pUn sSorSet (.ok s1))) fun x_name => (lcY (pUn sTuple (pLc (qR1 (pBin sIx (.ok x_web) (.ok (.int 0)))) fun x_at => (lcT (pTest (pBin sEq (pBin sIx (.ok s1) (.ok x_at)) (.ok x_name))) (.ok x_at)))))))) (fun r => r)))
def py__law_lots_b1 (x_out x_one : PyData) : Res (Lp (PyData) (PyData)) := ((pBin sAdd (.ok x_out) (pLc (qLst (.ok x_out)) fun x_lot => (lcY (pBin sAdd (.ok x_lot) (pTup (pCons (.ok x_one) pNil)))))) >>= fun x_out => (.ok (.nx x_out)))
def py__law_lots (x_some : PyData) : Res (PyData) := ((pLst (pCons (pTup pNil) pNil)) >>= fun x_out => (pFor (qLst (.ok x_some)) x_out (fun s1 d => py__law_lots_b1 s1 d) (fun s1 => (pUn sSorted (.ok s1))) (fun r => r)))
def py_law_b1 (x_web x_rank x_lot : PyData) : Res (Lp (PyData) (PyData)) := ((pC2 py__law_parts (.ok x_web) (.ok x_lot)) >>= fun x_due => ((pC2 py_rank_by (.ok x_web) (.ok x_lot)) >>= fun v => (.ok x_lot) >>= fun u => fDPutT x_rank u v >>= fun x_rank => (pIf (pOrT (pTest (pBin sNe (pC2 py_parts_by (.ok x_web) (.ok x_lot)) (.ok x_due))) (pTest (pBin sNe ((.ok x_lot) >>= fDGetT x_rank) (pBin sSub (pBin sIx (.ok x_web) (.ok (.int 0))) (pUn sLen (.ok x_due)))))) ((.ok (.bool false)) >>= fun v => .ok (Lp.rt v)) (.ok (.nx x_rank)))))
def py_law_b4 (x_rank x_lot x_more x_other : PyData) : Res (Lp (Unit) (PyData)) := ((pUn sTuple (pUn sSorSet (pBin sAdd (.ok x_more) (pTup (pCons (.ok x_other) pNil))))) >>= fun x_wide => ((pUn sTuple (pUn sSorSet (pBin sAdd (.ok x_lot) (pTup (pCons (.ok x_other) pNil))))) >>= fun x_less => ((pBin sSub ((.ok x_more) >>= fDGetT x_rank) ((.ok x_lot) >>= fDGetT x_rank)) >>= fun x_grown => (pIf (pTest (pBin sGt (pBin sSub ((.ok x_wide) >>= fDGetT x_rank) ((.ok x_less) >>= fDGetT x_rank)) (.ok x_grown))) ((.ok (.bool false)) >>= fun v => .ok (Lp.rt v)) (.ok (.nx ()))))))
def py_law_b3 (x_every x_rank x_lot x_tie : PyData) : Res (Lp (Unit) (PyData)) := (pIf (pTest (pBin sNotIn (.ok x_tie) (.ok x_lot))) ((pUn sTuple (pUn sSorted (pBin sAdd (.ok x_lot) (pTup (pCons (.ok x_tie) pNil))))) >>= fun x_more => (pIf (pOrT (pTest (pBin sNotIn (pBin sSub ((.ok x_more) >>= fDGetT x_rank) ((.ok x_lot) >>= fDGetT x_rank)) (pTup (pCons (.ok (.int 0)) (pCons (.ok (.int 1)) pNil))))) (pTest (pBin sGt (pBin sSub ((.ok x_more) >>= fDGetT x_rank) ((.ok x_lot) >>= fDGetT x_rank)) ((pTup (pCons (.ok x_tie) pNil)) >>= fDGetT x_rank)))) ((.ok (.bool false)) >>= fun v => .ok (Lp.rt v)) (pFor (qLst (.ok x_every)) () (fun s4 d => py_law_b4 x_rank x_lot x_more d) (fun s4 => (.ok (.nx ()))) (fun r => Lp.rt r)))) (.ok (.nx ())))
def py_law_b2 (x_every x_rank x_lot : PyData) : Res (Lp (Unit) (PyData)) := (pFor (qLst (.ok x_every)) () (fun s3 d => py_law_b3 x_every x_rank x_lot d) (fun s3 => (.ok (.nx ()))) (fun r => Lp.rt r))
def py_law (x_script : PyData) : Res (PyData) := ((pC2 py__law_draws (.ok x_script) (.ok (.int 160))) >>= fun x_draws => (pBind2 ((eCall (fun d => l3 (py__law_web d)) (eCons (eP (.ok (.int 1))) (eCons (eP (.ok (.int 6))) (eCons (eP (.ok (.int 7))) eNil)))) x_draws) fun x_web x_draws => ((pRg (qR1 (pUn sLen (pBin sIx (.ok x_web) (.ok (.int 1)))))) >>= fun x_every => ((.ok (.tuple [.dict []])) >>= fun x_rank => (pFor (qLst (pC1 py__law_lots (.ok x_every))) x_rank (fun s1 d => py_law_b1 x_web s1 d) (fun s1 => (pFor (qLst (pC1 py__law_lots (.ok x_every))) () (fun s2 d => py_law_b2 x_every s1 d) (fun s2 => (.ok (.bool true))) (fun r => r))) (fun r => r))))))
end ZZ

set_option maxHeartbeats 8000000
namespace ZZ
open PySem PySem.Spec PyProof.Rows L2 Ob
def py__law_draws_v2_b3 (x_script x_row x_seed x_k : PyData) : Res (Lp (PyData × PyData) (PyData)) := ((.ok x_k) >>= fun x_cell => (pIf (pTru (.ok x_script)) ((pBin sMod (pUn sInt (pBin sIx (.ok x_script) (pBin sMod (pBin sAdd (.ok x_k) (.ok (.int 1))) (pUn sLen (.ok x_script))))) (.ok (.int 2147483647))) >>= fun x_cell => ((pBin sMod (pUn sInt (pBin sAdd (pBin sAdd (pBin sAdd (pBin sMul (.ok x_seed) (.ok (.int 48271))) (.ok x_cell)) (pBin sMul (.ok x_k) (.ok (.int 69621)))) (.ok (.int 13)))) (.ok (.int 2147483647))) >>= fun x_seed => (pApp x_row (pBin sMod (pBin sFDiv (pBin sMod (pUn sInt (pBin sAdd (pBin sMul (.ok x_seed) (.ok (.int 16807))) (.ok (.int 54321)))) (.ok (.int 2147483647))) (.ok (.int 7))) (.ok (.int 1009))) fun x_row => (.ok (.nx (x_row, x_seed)))))) ((pBin sMod (pUn sInt (pBin sAdd (pBin sAdd (pBin sAdd (pBin sMul (.ok x_seed) (.ok (.int 48271))) (.ok x_cell)) (pBin sMul (.ok x_k) (.ok (.int 69621)))) (.ok (.int 13)))) (.ok (.int 2147483647))) >>= fun x_seed => (pApp x_row (pBin sMod (pBin sFDiv (pBin sMod (pUn sInt (pBin sAdd (pBin sMul (.ok x_seed) (.ok (.int 16807))) (.ok (.int 54321)))) (.ok (.int 2147483647))) (.ok (.int 7))) (.ok (.int 1009))) fun x_row => (.ok (.nx (x_row, x_seed)))))))
def py__law_draws_v2_j2 (x_script x_many x_row x_big : PyData) : Res (PyData) := ((.ok (.int 817)) >>= fun x_seed => (pFor (qR1 (pBin sSub (.ok x_many) (pUn sLen (pPk x_row)))) (x_row, x_seed) (fun s3 d => py__law_draws_v2_b3 x_script s3.1 s3.2 d) (fun s3 => (.ok s3.1)) (fun r => r)))
def py__law_draws_v2_b4 (x_row x_big x_k : PyData) : Res (Lp (PyData × PyData) (PyData)) := (pIf (pTest (pBin sGt (.ok x_big) (.ok (.int 0)))) (pApp x_row (pBin sMod (pUn sInt (.ok x_big)) (.ok (.int 1009))) fun x_row => ((pBin sFDiv (.ok x_big) (.ok (.int 1009))) >>= fun x_big => (.ok (.nx (x_row, x_big))))) (.ok (.nx (x_row, x_big))))
def py__law_draws_v2_j1 (x_script x_many x_row x_big : PyData) : Res (PyData) := (pIf (pTest (pBin sGe (.ok x_big) (.ok (.int 1000000000000000000)))) (pFor (qR1 (.ok x_many)) (x_row, x_big) (fun s4 d => py__law_draws_v2_b4 s4.1 s4.2 d) (fun s4 => (py__law_draws_v2_j2 x_script x_many s4.1 s4.2)) (fun r => r)) (py__law_draws_v2_j2 x_script x_many x_row x_big))
def py__law_draws_v2 (x_script x_many : PyData) : Res (PyData) := ((pLst pNil) >>= fun x_row => ((pIf (pTru (.ok x_script)) (pBin sIx (.ok x_script) (.ok (.int 0))) (.ok (.int 0))) >>= fun x_big => (pIf (pTest (pBin sLt (.ok x_big) (.ok (.int 0)))) ((pUn sNeg (.ok x_big)) >>= fun x_big => (py__law_draws_v2_j1 x_script x_many x_row x_big)) (py__law_draws_v2_j1 x_script x_many x_row x_big))))
def pv__law_draws_v2 (x_script x_many : PyData) : Res PyData := py__law_draws_v2 x_script x_many >>= pPk
def py__law_rank (x_web x_lot : PyData) : Res (PyData) := (pBin sSub (pBin sIx (.ok x_web) (.ok (.int 0))) (pUn sLen (pC2 py__law_parts (.ok x_web) (.ok x_lot))))
def py_law_v2_b2 (x_web x_lot x_at : PyData) : Res (Lp (Unit) (PyData)) := (pIf (pTest (pBin sNotB (pC2 py_is_forest (.ok x_web) (pBin sAdd (pSl (.ok x_lot) pNo (pIt (.ok x_at))) (pSl (.ok x_lot) (pIt (pBin sAdd (.ok x_at) (.ok (.int 1)))) pNo))) (.ok (.bool true)))) ((.ok (.bool false)) >>= fun v => .ok (Lp.rt v)) (.ok (.nx ())))
def py_law_v2_b1 (x_web x_forests x_lot : PyData) : Res (Lp (Unit) (PyData)) := ((pBin sIn (.ok x_lot) (.ok x_forests)) >>= fun x_is_one => (pIf (pOrT (pTest (pBin sNe (pC2 py_is_forest (.ok x_web) (.ok x_lot)) (.ok x_is_one))) (pTest (pBin sNe (pC2 py_is_tree (.ok x_web) (.ok x_lot)) (pAnd (.ok x_is_one) (pBin sEq (pUn sLen (.ok x_lot)) (pBin sSub (pBin sIx (.ok x_web) (.ok (.int 0))) (.ok (.int 1)))))))) ((.ok (.bool false)) >>= fun v => .ok (Lp.rt v)) (pFor (qR1 (pIf (pTru (.ok x_is_one)) (pUn sLen (.ok x_lot)) (.ok (.int 0)))) () (fun s2 d => py_law_v2_b2 x_web x_lot d) (fun s2 => (.ok (.nx ()))) (fun r => Lp.rt r))))
def py_law_v2_b3 (x_web x_thing : PyData) : Res (Lp (Unit) (PyData)) := (pIf (pOrT (pTest (pBin sNotB (pC2 py_is_forest (.ok x_web) (.ok x_thing)) (.ok (.bool false)))) (pTest (pBin sNotB (pC2 py_is_tree (.ok x_web) (.ok x_thing)) (.ok (.bool false))))) ((.ok (.bool false)) >>= fun v => .ok (Lp.rt v)) (.ok (.nx ())))
def py_law_v2 (x_script : PyData) : Res (PyData) := ((pC2 py__law_draws_v2 (.ok x_script) (.ok (.int 160))) >>= fun x_draws => (pBind2 ((eCall (fun d => l3 (py__law_web d)) (eCons (eP (.ok (.int 1))) (eCons (eP (.ok (.int 6))) (eCons (eP (.ok (.int 7))) eNil)))) x_draws) fun x_web x_draws => ((pC1 py__law_lots (pRg (qR1 (pUn sLen (pBin sIx (.ok x_web) (.ok (.int 1))))))) >>= fun x_lots => ((pLc (qLst (.ok x_lots)) fun x_lot => (lcT (pTest (pBin sEq (pC2 py__law_rank (.ok x_web) (.ok x_lot)) (pUn sLen (.ok x_lot)))) (.ok x_lot))) >>= fun x_forests => (pFor (qLst (.ok x_lots)) () (fun s1 d => py_law_v2_b1 x_web x_forests d) (fun s1 => (pBind2 ((eBin sIx (eP (.ok x_lots)) (eCall (fun d => l1 (py__law_take d)) (eCons (eP (pUn sLen (.ok x_lots))) eNil))) x_draws) fun x_lot x_draws => (pIf (pTest (pBin sNe (pUn sMax (pLc (qLst (.ok x_forests)) fun x_one => (lcT (pTru (pUn sAll (pLc (qTpl (.ok x_one)) fun x_it => (lcY (pBin sIn (.ok x_it) (.ok x_lot)))))) (pUn sLen (.ok x_one))))) (pC2 py_rank_by (.ok x_web) (.ok x_lot)))) (.ok (.bool false)) (pFor (qTpl (pTup (pCons (.ok .none) (pCons (pUn sList (.ok x_lot)) (pCons (pBin sAdd (.ok x_lot) (pTup (pCons (pUn sLen (pBin sIx (.ok x_web) (.ok (.int 1)))) pNil))) (pCons (pBin sAdd (pBin sAdd (.ok x_lot) (pSl (.ok x_lot) (pIt (pUn sNeg (.ok (.int 1)))) pNo)) (pTup (pCons (pUn sNeg (.ok (.int 1))) pNil))) (pCons (pTup (pCons (.ok (.bool true)) pNil)) (pCons (pTup (pCons (.ok (.str "0")) pNil)) (pCons (.ok (.int 0)) (pCons (pTup (pCons (pTup (pCons (.ok (.int 0)) pNil)) pNil)) pNil)))))))))) () (fun s3 d => py_law_v2_b3 x_web d) (fun s3 => (.ok (.bool true))) (fun r => r))))) (fun r => r))))))
end ZZ

/-! SL1: what the helpers of the laws tell: draws taken, a drawn web, parts, rank, lots -/
namespace ZZ
open PySem PySem.Spec PyProof.Rows L2 Ob
abbrev DD (ds : List Int) : PyData := .list (iL ds)
theorem v_take (ds : List Int) {m : Nat} (h : 0 < m) : ∃ (v : Nat) (ds' : List Int), py__law_take (DD ds) (.int (m : Int)) = .ok (.int (v : Int), DD ds') ∧ v < m := by
  unfold py__law_take
  rcases List.eq_nil_or_concat ds with rfl | ⟨l, x, rfl⟩
  · exact ⟨0, [], rfl, h⟩
  · rw [List.concat_eq_append]
    have e1 : oTru (DD (l ++ [x])) = .ok true := by
      show Res.ok (!(iL (l ++ [x])).isEmpty) = _
      simp [iL]
    have e2 : ePop (DD (l ++ [x])) = .ok (.int x, DD l) := by
      have h1 : (iL (l ++ [x])) = iL l ++ [.int x] := by simp [iL]
      show (match (iL (l ++ [x]))[(iL (l ++ [x])).length - 1]? with | some y => Res.ok (y, PyData.list (iL (l ++ [x])).dropLast) | none => .err) = _
      rw [h1]
      simp
    have hm : (0 : Int) < (m : Int) := by omega
    have h1 := Int.emod_nonneg x (show (m : Int) ≠ 0 by omega)
    have h2 := Int.emod_lt_of_pos x hm
    refine ⟨(x % (m : Int)).toNat, l, ?_, by omega⟩
    have e3 : ((x % (m : Int)).toNat : Int) = x % (m : Int) := Int.toNat_of_nonneg h1
    rw [pPk_l, pTru_ok, e1, pNotT_ok, Bool.not_true, pIf_f, eBin_e, eUn_e, e2, ok_bind]
    simp only [sInt_i', ok_bind, eP_ok, sMod_i hm, pBind2_ok, e3]
theorem v_takeC (ds : List Int) {m : Int} (h : 0 < m) : ∃ (v : Nat) (ds' : List Int), eCall (fun d => l1 (py__law_take d)) (eCons (eP (.ok (.int m))) eNil) (DD ds) = .ok (.int (v : Int), DD ds') ∧ (v : Int) < m := by
  obtain ⟨k, rfl⟩ := Int.eq_ofNat_of_zero_le (show 0 ≤ m by omega)
  obtain ⟨v, ds', e, q⟩ := v_take ds (m := k) (by omega)
  refine ⟨v, ds', ?_, by omega⟩
  rw [eCall_e, eCons_e, eP_ok, ok_bind, eNil_e, ok_bind, ok_bind]
  exact e
def TieOk (n : Nat) (ts : List (Nat × Nat)) : Prop := ∀ p ∈ ts, p.1 < p.2 ∧ p.2 < n
theorem v_web_b1 {n : Nat} (hn : 2 ≤ n) {ts : List (Nat × Nat)} (ht : TieOk n ts) (hl : ts.length < 1000) (ds : List Int) (d : PyData) : ∃ (p : Nat × Nat) (ds' : List Int), py__law_web_b1 (.int (n : Int)) (DD ds) (.list (ts.map tieD)) d = .ok (.nx (DD ds', .list ((ts ++ [p]).map tieD))) ∧ TieOk n (ts ++ [p]) := by
  unfold py__law_web_b1 ePar
  obtain ⟨i, d1, e1, q1⟩ := v_takeC ds (m := (n : Int)) (by omega)
  obtain ⟨j, d2, e2, q2⟩ := v_takeC d1 (m := (n : Int) - 1) (by omega)
  have c1 : pBin sSub (.ok (.int (n : Int))) (.ok (.int 1)) = .ok (.int ((n : Int) - 1)) := by simp
  rw [e1, ok_bind, c1, e2, ok_bind]
  have key : ∀ k : Nat, k ≠ i → k < n → ∃ (p : Nat × Nat), (pApp (.list (ts.map tieD)) (pTup (pCons (pBin sMin2 (.ok (.int (i : Int))) (.ok (.int (k : Int)))) (pCons (pBin sMax2 (.ok (.int (i : Int))) (.ok (.int (k : Int)))) pNil))) fun x_out => (Res.ok (Lp.nx (R := PyData × PyData) (DD d2, x_out)))) = .ok (.nx (DD d2, .list ((ts ++ [p]).map tieD))) ∧ TieOk n (ts ++ [p]) := fun k hk hk2 => by
    refine ⟨(min i k, max i k), ?_, ?_⟩
    · simp only [pBin_ok, sMin2_n, sMax2_n, pNil_e, pCons_ok, pTup2]
      rw [pApp_ok _ _ (by simp; omega)]
      simp
    · intro p hp
      rcases List.mem_append.mp hp with h | h
      · exact ht p h
      · rw [List.mem_singleton.mp h]
        constructor
        · show min i k < max i k; omega
        · show max i k < n; omega
  by_cases q : i ≤ j
  · obtain ⟨p, h1, h2⟩ := key (j + 1) (by omega) (by omega)
    refine ⟨p, d2, ?_, h2⟩
    have c : pIf (pTest (pBin sGe (.ok (.int (j : Int))) (.ok (.int (i : Int))))) (pBin sAdd (.ok (.int (j : Int))) (.ok (.int 1))) (.ok (.int (j : Int))) = .ok (.int ((j + 1 : Nat) : Int)) := by
      have : (i : Int) ≤ j := by omega
      simp [this]
    dsimp only
    rw [c, ok_bind]
    exact h1
  · obtain ⟨p, h1, h2⟩ := key j (by omega) (by omega)
    refine ⟨p, d2, ?_, h2⟩
    have c : pIf (pTest (pBin sGe (.ok (.int (j : Int))) (.ok (.int (i : Int))))) (pBin sAdd (.ok (.int (j : Int))) (.ok (.int 1))) (.ok (.int (j : Int))) = .ok (.int (j : Int)) := by
      have : ¬ (i : Int) ≤ j := by omega
      simp [this]
    dsimp only
    rw [c, ok_bind]
    exact h1
theorem v_web_l {n : Nat} (hn : 2 ≤ n) : ∀ (ks : List PyData) (ts : List (Nat × Nat)) (ds : List Int), TieOk n ts → ts.length + ks.length ≤ 1000 → ∃ (ts' : List (Nat × Nat)) (ds' : List Int), pLoop (fun s1 d => py__law_web_b1 (.int (n : Int)) s1.1 s1.2 d) ks (DD ds, .list (ts.map tieD)) = .ok (.nx (DD ds', .list (ts'.map tieD))) ∧ TieOk n ts' ∧ ts'.length = ts.length + ks.length
  | [], ts, ds, h, _ => ⟨ts, ds, rfl, h, rfl⟩
  | k :: ks, ts, ds, h, hl => by
    have hl : ts.length + (ks.length + 1) ≤ 1000 := hl
    obtain ⟨p, d1, e1, h1⟩ := v_web_b1 hn h (by omega) ds k
    obtain ⟨t2, d2, e2, h2, h3⟩ := v_web_l hn ks (ts ++ [p]) d1 h1 (by simp; omega)
    refine ⟨t2, d2, ?_, h2, by simp at h3 ⊢; omega⟩
    show (py__law_web_b1 (.int (n : Int)) (DD ds) (.list (ts.map tieD)) k >>= fun l => _) = _
    rw [e1, ok_bind]
    exact e2
theorem v_web (ds : List Int) {a b t : Nat} (h1 : 1 ≤ a) (h2 : a ≤ b) (h3 : t ≤ 999) : ∃ (n : Nat) (ts : List (Nat × Nat)) (ds' : List Int), py__law_web (DD ds) (.int (a : Int)) (.int (b : Int)) (.int (t : Int)) = .ok (webD n ts, DD ds') ∧ TieOk n ts ∧ a ≤ n ∧ n ≤ b ∧ ts.length ≤ t := by
  unfold py__law_web
  obtain ⟨i, d1, e1, q1⟩ := v_takeC ds (m := (b : Int) - a + 1) (by omega)
  have c1 : pBin sAdd (pBin sSub (.ok (.int (b : Int))) (.ok (.int (a : Int)))) (.ok (.int 1)) = .ok (.int ((b : Int) - a + 1)) := by simp
  have c2 : sAdd (.int (a : Int)) (.int (i : Int)) = .ok (.int ((a + i : Nat) : Int)) := by simp
  rw [c1, eBin_e, eP_ok, ok_bind, e1, ok_bind]
  dsimp only
  rw [c2, ok_bind, pBind2_ok, pNil_e, pLst0, ok_bind]
  dsimp only
  have fin : ∀ (ts : List (Nat × Nat)) (d2 : List Int), ((pTup (pCons (.ok (.int ((a + i : Nat) : Int))) (pCons (pUn sTuple (pPk (.list (ts.map tieD)))) (.ok [])))) >>= fun v => Res.ok (v, DD d2)) = .ok (webD (a + i) ts, DD d2) := fun ts d2 => by simp
  by_cases q : 1 < a + i
  · obtain ⟨m, d2, e2, q2⟩ := v_takeC d1 (m := (t : Int) + 1) (by omega)
    have c3 : pBin sAdd (.ok (.int (t : Int))) (.ok (.int 1)) = .ok (.int ((t : Int) + 1)) := by simp
    have c4 : pTest (pBin sGt (.ok (.int ((a + i : Nat) : Int))) (.ok (.int 1))) = .ok true := by
      have : (1 : Int) < ((a + i : Nat) : Int) := by omega
      simp only [pBin_ok, sGt_i, pTest_ok, this, decide_true]
    have c5 : fR1 (.int (m : Int)) = .ok (nL (List.range m)) := by
      show (if okRg 0 (m : Int) = true then Res.ok (rgD 0 (m : Int)) else Res.err) = _
      rw [if_pos (okRg_nat (show m ≤ 1000000 by omega)), rgD_nat]
    obtain ⟨ts, d3, e3, h4, h5⟩ := v_web_l (n := a + i) (by omega) (nL (List.range m)) [] d2 (fun p hp => by cases hp) (by simp; omega)
    refine ⟨a + i, ts, d3, ?_, h4, by omega, by omega, by simp at h5; omega⟩
    unfold pForE
    rw [eUn_e, eIf_e, c4, eP_ok, ok_bind]
    dsimp only
    rw [if_pos rfl, c3, e2, ok_bind]
    dsimp only
    rw [c5, ok_bind, ok_bind]
    dsimp only
    rw [List.map_nil] at e3
    rw [e3, ok_bind]
    exact fin ts d3
  · have c4 : pTest (pBin sGt (.ok (.int ((a + i : Nat) : Int))) (.ok (.int 1))) = .ok false := by
      have : ¬ (1 : Int) < ((a + i : Nat) : Int) := by omega
      simp only [pBin_ok, sGt_i, pTest_ok, this, decide_false]
    have c5 : fR1 (.int 0) = .ok [] := by
      rfl
    refine ⟨a + i, [], d1, ?_, ⟨fun p hp => (nomatch hp), by omega, by omega, Nat.zero_le t⟩⟩
    unfold pForE
    rw [eUn_e, eIf_e, c4, eP_ok, ok_bind]
    dsimp only
    rw [if_neg (by simp), eP_ok, ok_bind]
    dsimp only
    rw [c5, ok_bind, ok_bind]
    exact fin [] d1
theorem OkWeb.of {n : Nat} {ts : List (Nat × Nat)} (h1 : 1 ≤ n) (h2 : n ≤ 12) (h3 : ts.length ≤ 40) (h : TieOk n ts) : OkWeb n ts := ⟨h1, h2, h3, h⟩
section
variable {n : Nat} {ts : List (Nat × Nat)} {l : List Nat}
theorem v_law_parts_b1 (w : OkWeb n ts) {hs : List Nat} {i : Nat} (hl : hs.length = n) (hi : i < ts.length) : py__law_parts_b1 (webD n ts) (.list (nL hs)) (.int (i : Int)) = .ok (.nx (.list (nL (stepH ts hs i)))) := by
  obtain ⟨t1, t2⟩ := tie_lt w hi
  have e1 := ix_nL (l := hs) (k := (ts.getD i (0, 0)).1) (by omega)
  have e2 := ix_nL (l := hs) (k := (ts.getD i (0, 0)).2) (by omega)
  unfold py__law_parts_b1
  simp only [pBin_ok, sIx2_1, ix_tie hi, e1, e2, pNil_e, pCons_ok, pTup2, ok_bind, un2_ok, qLst_ok]
  rw [relabel (hs := hs) (a := hs.getD (ts.getD i (0, 0)).1 0) (b := hs.getD (ts.getD i (0, 0)).2 0)]
  · rfl
  · intro x _
    simp only [sIn_nat, pTest_ok, sMin2_n, pIf_ok]
    by_cases q : x = hs.getD (ts.getD i (0, 0)).1 0 ∨ x = hs.getD (ts.getD i (0, 0)).2 0
    · rw [if_pos (decide_eq_true q), if_pos q]; rfl
    · rw [if_neg (by rw [decide_eq_false q]; simp), if_neg q]; rfl
theorem v_law_parts (w : OkWeb n ts) (hm : ∀ i ∈ l, i < ts.length) : py__law_parts (webD n ts) (lotD l) = .ok (partsD n (heads n ts l)) := by
  unfold py__law_parts
  simp only [pBin_ok, sIx2_0, qR1_ok n (ok_lim w), pRg_ok, ok_bind, qTpl_ok]
  have := pLoop_map (c := fun i : Nat => PyData.int (i : Int)) (enc := fun hs : List Nat => PyData.list (nL hs)) (f := fun s1 d => py__law_parts_b1 (webD n ts) s1 d) (step := stepH ts) (I := fun hs => hs.length = n) (l := l) (s := List.range n) (List.length_range) fun hs i hl hi => ⟨v_law_parts_b1 w hl (hm i hi), by rw [stepH_len]; exact hl⟩
  rw [pFor_ok this.1, show l.foldl (stepH ts) (List.range n) = heads n ts l from rfl]
  simp only [pUn_ok, sorH w, qLst_ok]
  rw [pLc_map (c := PyData.int) (F := fun k => .tuple (nL (partOf n (heads n ts l) k))) fun k _ => ?_]
  · simp only [pUn_ok, sTuple_l]
    rfl
  · rw [pLc_filter (c := fun i : Nat => PyData.int (i : Int)) (p := fun p => decide ((((heads n ts l).getD p 0 : Nat) : Int) = k)) (F := fun i : Nat => PyData.int (i : Int)) fun p hp => ?_]
    · simp only [pUn_ok, sTuple_l, lcY_ok]
      rfl
    · have e := ix_nL (l := heads n ts l) (k := p) (by rw [heads_len]; simpa using hp)
      simp only [pBin_ok, e, sEq_int, pTest_ok, lcT_ok]
theorem v_law_rank (w : OkWeb n ts) (hm : ∀ i ∈ l, i < ts.length) : py__law_rank (webD n ts) (lotD l) = .ok (.int (rankN n ts l)) := by
  unfold py__law_rank
  simp only [pBin_ok, sIx2_0, pC2_ok, v_law_parts w hm, pUn_ok, sLen_parts, sSub_i]
  rfl
end
theorem v_lots_b1 {X : List (List Nat)} {k : Nat} (hb : ∀ l ∈ X, l.length ≤ 1000) (h : X.length ≤ 100000) : py__law_lots_b1 (.list (X.map lotD)) (.int (k : Int)) = .ok (.nx (.list ((dbl X k).map lotD))) := by
  unfold py__law_lots_b1
  rw [qLst_ok, pLc_map (c := lotD) (F := fun l => lotD (l ++ [k])) fun l hl => ?_]
  · have c2 : sAdd (.list (X.map lotD)) (.list (X.map fun l => lotD (l ++ [k]))) = .ok (.list ((dbl X k).map lotD)) := by
      show (if (X.map lotD).length + (X.map fun l => lotD (l ++ [k])).length ≤ lim then Res.ok (PyData.list (X.map lotD ++ X.map fun l => lotD (l ++ [k]))) else Res.err) = _
      rw [if_pos (by simp [lim]; omega)]
      unfold dbl
      rw [List.map_append, List.map_map]
      rfl
    rw [pBin_ok, c2, ok_bind]
  · have := hb l hl
    simp only [pNil_e, pCons_ok, pTup1, pBin_ok, sAdd_lot (o := k) (show l.length + 1 ≤ 1000000 by omega), lcY_ok]
theorem v_lots_l : ∀ (ks : List Nat) (X : List (List Nat)) (b : Nat), (∀ l ∈ X, l.length ≤ b) → b + ks.length ≤ 1000 → X.length * 2 ^ ks.length ≤ 100000 → pLoop (fun s1 d => py__law_lots_b1 s1 d) (nL ks) (.list (X.map lotD)) = .ok (.nx (.list ((ks.foldl dbl X).map lotD)))
  | [], X, b, _, _, _ => rfl
  | k :: ks, X, b, hb, h1, h2 => by
    have h1 : b + (ks.length + 1) ≤ 1000 := h1
    have h2 : X.length * 2 ^ (ks.length + 1) ≤ 100000 := h2
    have p1 : 1 ≤ 2 ^ ks.length := Nat.one_le_two_pow
    have e : X.length * 2 ^ (ks.length + 1) = 2 * X.length * 2 ^ ks.length := by rw [Nat.pow_succ, Nat.mul_comm (2 ^ ks.length) 2, ← Nat.mul_assoc, Nat.mul_comm X.length 2]
    have p2 : 2 * X.length * 1 ≤ 2 * X.length * 2 ^ ks.length := Nat.mul_le_mul_left _ p1
    show (py__law_lots_b1 (.list (X.map lotD)) (.int (k : Int)) >>= fun l => _) = _
    rw [v_lots_b1 (fun l hl => by have := hb l hl; omega) (by omega), ok_bind]
    refine v_lots_l ks (dbl X k) (b + 1) (fun l hl => ?_) (by omega) (by rw [dbl_len]; omega)
    unfold dbl at hl
    rcases List.mem_append.mp hl with h | h
    · have := hb l h; omega
    · obtain ⟨m, hm, rfl⟩ := List.mem_map.mp h
      have := hb m hm
      simp; omega
theorem sSorted_lots (X : List (List Nat)) : ∃ Y : List (List Nat), sSorted (.list (X.map lotD)) = .ok (.list (Y.map lotD)) ∧ Y.Perm X := by
  refine ⟨(psort (X.map lotD)).map unlot, ?_, ?_⟩
  · have e1 : ((psort (X.map lotD)).map unlot).map lotD = psort (X.map lotD) := by
      rw [List.map_map]
      conv => rhs; rw [← List.map_id (psort (X.map lotD))]
      refine List.map_congr_left fun d hd => ?_
      obtain ⟨l, _, rfl⟩ := List.mem_map.mp ((psort_perm _).mem_iff.mp hd)
      show lotD (unlot (lotD l)) = lotD l
      rw [unlot_lot]
    rw [e1]
    show (if okS (X.map lotD) = true then Res.ok (PyData.list (psort (X.map lotD))) else Res.err) = _
    rw [if_pos (okS_lots _)]
  · have := (psort_perm (X.map lotD)).map unlot
    refine this.trans ?_
    rw [List.map_map]
    conv => rhs; rw [← List.map_id X]
    exact List.Perm.of_eq (List.map_congr_left fun l _ => unlot_lot l)
theorem v_lots {ks : List Nat} (h : ks.length ≤ 15) : ∃ ls : List (List Nat), py__law_lots (.list (nL ks)) = .ok (.list (ls.map lotD)) ∧ ls.Perm (subs ks) := by
  have hp : 2 ^ ks.length ≤ 32768 := by
    have := Nat.pow_le_pow_right (n := 2) (by omega) h
    simpa using this
  obtain ⟨Y, e1, e2⟩ := sSorted_lots (subs ks)
  refine ⟨Y, ?_, e2⟩
  unfold py__law_lots
  have e := v_lots_l ks [[]] 0 (fun l hl => by rw [List.mem_singleton.mp hl]; simp) (by omega) (by simp; omega)
  simp only [pNil_e, pTup0, pCons_ok, pLst1, ok_bind, qLst_ok]
  rw [show ([PyData.tuple []] : List PyData) = [[]].map lotD from rfl, pFor_ok e]
  rw [pUn_ok]
  exact e1
end ZZ

/-! SL2: things picked by draws; places of a list that lie in another -/
namespace ZZ
open PySem PySem.Spec PyProof.Rows L2 Ob
theorem elcM_cons (f : PyData → SX (Option PyData)) (x : PyData) (xs : List PyData) (d : PyData) : elcM f (x :: xs) d = noX (f x d) >>= fun o => elcM f xs o.2 >>= fun r => .ok (o.1.toList ++ r.1, r.2) := nr rfl
/-- things picked by draws: some sublist -/
theorem pick_M {α : Type} {c : α → PyData} {m : Int} (h : 0 < m) (g : PyData) (hg : ∀ v : Nat, ∃ b : Bool, sEq (.int (v : Int)) g = .ok (.bool b)) : ∀ (L : List α) (ds : List Int), ∃ (K : List α) (ds' : List Int), elcM (fun x_n dd => (elcT (eUn fTest (eBin sEq (eCall (fun d => l1 (py__law_take d)) (eCons (eP (.ok (.int m))) eNil)) (eP (.ok g)))) (eP (.ok x_n)) dd)) (L.map c) (DD ds) = .ok (K.map c, DD ds') ∧ K.Sublist L
  | [], ds => ⟨[], ds, rfl, .slnil⟩
  | x :: L, ds => by
    obtain ⟨v, d1, e1, _⟩ := v_takeC ds h
    obtain ⟨K, d2, e2, s2⟩ := pick_M (c := c) h g hg L d1
    obtain ⟨b, eb⟩ := hg v
    have e3 : elcT (eUn fTest (eBin sEq (eCall (fun d => l1 (py__law_take d)) (eCons (eP (.ok (.int m))) eNil)) (eP (.ok g)))) (eP (.ok (c x))) (DD ds) = .ok (if b = true then some (c x) else none, DD d1) := by
      rw [elcT_e, eUn_e, eBin_e, e1, ok_bind, eP_ok, ok_bind]
      dsimp only
      rw [eb, ok_bind, ok_bind]
      dsimp only
      rw [fTest_b, ok_bind, ok_bind]
      dsimp only
      cases b <;> rfl
    rw [List.map_cons, elcM_cons, e3, noX_ok, ok_bind]
    dsimp only
    rw [e2, ok_bind]
    cases b with
    | true => exact ⟨x :: K, d2, rfl, .cons₂ _ s2⟩
    | false => exact ⟨K, d2, rfl, .cons _ s2⟩
theorem pick_T {α : Type} (c : α → PyData) {m k : Int} (h : 0 < m) (L : List α) (ds : List Int) {xs : Res (List PyData)} (hx : xs = .ok (L.map c)) : ∃ (K : List α) (ds' : List Int), eUn sTuple (eLc (eP xs) fun x_n dd => (elcT (eUn fTest (eBin sEq (eCall (fun d => l1 (py__law_take d)) (eCons (eP (.ok (.int m))) eNil)) (eP (.ok (.int k))))) (eP (.ok x_n)) dd)) (DD ds) = .ok (.tuple (K.map c), DD ds') ∧ K.Sublist L := by
  obtain ⟨K, d1, e, s⟩ := pick_M (c := c) h (.int k) (fun v => ⟨_, sEq_int v k⟩) L ds
  refine ⟨K, d1, ?_, s⟩
  rw [eUn_e, eLc_e, hx, eP_ok, ok_bind]
  dsimp only
  rw [e, ok_bind, ok_bind]
  rfl
/-- the places of a list at which things of another lie -/
def ixIn (K c : List Nat) : List Nat := (List.range K.length).filter fun i => decide (K.getD i 0 ∈ c)
theorem mem_ixIn {K c : List Nat} {i : Nat} : i ∈ ixIn K c ↔ i < K.length ∧ K.getD i 0 ∈ c := by simp [ixIn]
theorem ixIn_lt (K c : List Nat) : (ixIn K c).Pairwise (· < ·) := List.Pairwise.filter _ List.pairwise_lt_range
theorem ixIn_map {β : Type} (K c : List Nat) (g : Nat → β) : (ixIn K c).map (fun i => g (K.getD i 0)) = (K.filter fun x => decide (x ∈ c)).map g := filter_map_ix K 0 (fun x => decide (x ∈ c)) g
theorem enumD_nL (K : List Nat) : enumD (nL K) = (List.range K.length).map fun i : Nat => PyData.tuple [.int (i : Int), .int ((K.getD i 0 : Nat) : Int)] := by
  unfold enumD nL
  refine List.ext_getElem (by simp) fun i h1 h2 => ?_
  have hi : i < K.length := by simpa using h2
  simp [List.getD_eq_getElem?_getD, List.getElem?_eq_getElem hi]
section
variable {n : Nat} {ts : List (Nat × Nat)} {l c : List Nat}
theorem wTs_len : (wTs ts c).length = (wK ts c).length := by simp [wTs]
theorem wTs_at {i : Nat} (h : i < (wK ts c).length) : (wTs ts c).getD i (0, 0) = ts.getD ((wK ts c).getD i 0) (0, 0) := getD_map' _ _ _ _ _ h
theorem rise_filter {l : List Nat} {m : Nat} (h : l.Pairwise (· < ·)) (hm : ∀ i ∈ l, i < m) : (List.range m).filter (fun i => decide (i ∈ l)) = l := by
  have ext : ∀ {a b : List Nat}, a.Pairwise (· < ·) → b.Pairwise (· < ·) → (∀ k, k ∈ a ↔ k ∈ b) → a = b := fun {a b} ha hb hk => by
    have := rise_uniq (a := a.map fun i : Nat => (i : Int)) (b := b.map fun i : Nat => (i : Int)) (by rw [List.pairwise_map]; exact ha.imp fun h => by omega) (by rw [List.pairwise_map]; exact hb.imp fun h => by omega) fun k => by
      simp only [List.mem_map]
      exact ⟨fun ⟨i, hi, e⟩ => ⟨i, (hk i).mp hi, e⟩, fun ⟨i, hi, e⟩ => ⟨i, (hk i).mpr hi, e⟩⟩
    have f : ∀ x : List Nat, (x.map fun i : Nat => (i : Int)).map Int.toNat = x := fun x => by
      rw [List.map_map]
      conv => rhs; rw [← List.map_id x]
      rfl
    rw [← f a, ← f b, this]
  exact ext (List.Pairwise.filter _ List.pairwise_lt_range) h fun k => by
    simp only [List.mem_filter, List.mem_range, decide_eq_true_eq]
    exact ⟨fun h => h.2, fun h => ⟨hm k h, h⟩⟩
/-- the places at which a lot lies, once others are taken out -/
theorem wedges (o : OkLot ts l) (hd : ∀ i ∈ l, i ∉ c) : edges (wTs ts c) (ixIn (wK ts c) l) = edges ts l := by
  have e : edges (wTs ts c) (ixIn (wK ts c) l) = (ixIn (wK ts c) l).map fun i => ts.getD ((wK ts c).getD i 0) (0, 0) := by
    unfold edges
    refine List.map_congr_left fun i hi => ?_
    exact wTs_at (mem_ixIn.mp hi).1
  rw [e, ixIn_map (wK ts c) l (fun t => ts.getD t (0, 0))]
  have e2 : (wK ts c).filter (fun x => decide (x ∈ l)) = l := by
    unfold wK
    rw [List.filter_filter]
    have : ∀ x, (decide (x ∈ l) && !decide (x ∈ c)) = decide (x ∈ l) := fun x => by
      by_cases q : x ∈ l
      · simp [q, hd x q]
      · simp [q]
    simp only [this]
    exact rise_filter o.r o.m
  rw [e2]
  rfl
theorem wheads (o : OkLot ts l) (hd : ∀ i ∈ l, i ∉ c) : heads n (wTs ts c) (ixIn (wK ts c) l) = heads n ts l := by
  rw [heads_E, heads_E, wedges o hd]
theorem wfT (o : OkLot ts l) (hd : ∀ i ∈ l, i ∉ c) {i : Nat} (h : i < (wK ts c).length) : fT n (wTs ts c) (ixIn (wK ts c) l) i = fT n ts l ((wK ts c).getD i 0) := by
  unfold fT fPt fP
  rw [wheads o hd, wTs_at h]
theorem wfQ (o : OkLot ts l) (hd : ∀ i ∈ l, i ∉ c) {i : Nat} (h : i < (wK ts c).length) : fQ n (wTs ts c) (ixIn (wK ts c) l) i = fQ n ts l ((wK ts c).getD i 0) := by
  unfold fQ fPt fP
  rw [wheads o hd, wTs_at h]
  have : decide (i ∈ ixIn (wK ts c) l) = decide ((wK ts c).getD i 0 ∈ l) := by
    rw [Bool.eq_iff_iff, decide_eq_true_eq, decide_eq_true_eq, mem_ixIn]
    exact ⟨fun h => h.2, fun q => ⟨h, q⟩⟩
  rw [this]
theorem fw_ts (o : OkLot ts l) (hd : ∀ i ∈ l, i ∉ c) : fTs n (wTs ts c) (ixIn (wK ts c) l) = wTs (fTs n ts l) (ixIn (fK n ts l) c) := by
  have e1 : fTs n (wTs ts c) (ixIn (wK ts c) l) = ((List.range ts.length).filter fun t => fQ n ts l t && !decide (t ∈ c)).map (fT n ts l) := by
    have a : fTs n (wTs ts c) (ixIn (wK ts c) l) = (((List.range (wK ts c).length).filter fun i => fQ n ts l ((wK ts c).getD i 0))).map fun i => fT n ts l ((wK ts c).getD i 0) := by
      unfold fTs fK
      rw [wTs_len]
      have : (List.range (wK ts c).length).filter (fQ n (wTs ts c) (ixIn (wK ts c) l)) = (List.range (wK ts c).length).filter fun i => fQ n ts l ((wK ts c).getD i 0) :=
        List.filter_congr fun i hi => wfQ o hd (by simpa using hi)
      rw [this]
      exact List.map_congr_left fun i hi => wfT o hd (by simpa using (List.mem_filter.mp hi).1)
    rw [a, filter_map_ix (wK ts c) 0 (fQ n ts l) (fT n ts l)]
    unfold wK
    rw [List.filter_filter]
  have e2 : wTs (fTs n ts l) (ixIn (fK n ts l) c) = ((List.range ts.length).filter fun t => !decide (t ∈ c) && fQ n ts l t).map (fT n ts l) := by
    have b : wTs (fTs n ts l) (ixIn (fK n ts l) c) = (((List.range (fK n ts l).length).filter fun i => !decide ((fK n ts l).getD i 0 ∈ c))).map fun i => fT n ts l ((fK n ts l).getD i 0) := by
      unfold wTs wK
      rw [show (fTs n ts l).length = (fK n ts l).length by simp [fTs]]
      have : (List.range (fK n ts l).length).filter (fun t => !decide (t ∈ ixIn (fK n ts l) c)) = (List.range (fK n ts l).length).filter fun i => !decide ((fK n ts l).getD i 0 ∈ c) :=
        List.filter_congr fun i hi => by
          have hi : i < (fK n ts l).length := by simpa using hi
          have : decide (i ∈ ixIn (fK n ts l) c) = decide ((fK n ts l).getD i 0 ∈ c) := by
            rw [Bool.eq_iff_iff, decide_eq_true_eq, decide_eq_true_eq, mem_ixIn]
            exact ⟨fun h => h.2, fun q => ⟨hi, q⟩⟩
          rw [this]
      rw [this]
      exact List.map_congr_left fun i hi => fTs_at (by simpa using (List.mem_filter.mp hi).1)
    rw [b, filter_map_ix (fK n ts l) 0 (fun t => !decide (t ∈ c)) (fT n ts l)]
    unfold fK
    rw [List.filter_filter]
  rw [e1, e2]
  congr 1
  exact List.filter_congr fun i _ => Bool.and_comm _ _
theorem fw_n (o : OkLot ts l) (hd : ∀ i ∈ l, i ∉ c) : fN n (wTs ts c) (ixIn (wK ts c) l) = fN n ts l := by
  unfold fN
  rw [wheads o hd]
end
end ZZ

/-! G3: dicts with keys of ints; partings (lots that take up each place once) -/
namespace ZZ
open PySem PySem.Spec PyProof.Rows L2 Ob
/-! ### dicts -/
def IK (kvs : List (PyData × PyData)) : Prop := ∀ q ∈ kvs, ∃ i : Int, q.1 = .int i
theorem eqv_int (a b : Int) : PyData.eqv (.int a) (.int b) = decide (a = b) := by
  by_cases h : a = b
  · subst h; simp [PyData.eqv]
  · simp [PyData.eqv, h]
section
variable {kvs ls : List (PyData × PyData)} {v : PyData}
theorem IK.tl {q : PyData × PyData} (h : IK (q :: kvs)) : IK kvs := fun p hp => h p (List.mem_cons_of_mem _ hp)
theorem IK.put (h : IK kvs) (k : Int) : IK (dput kvs (.int k) v) := fun q hq => by
  unfold dput at hq
  split at hq
  · obtain ⟨p, hp, rfl⟩ := List.mem_map.mp hq
    obtain ⟨i, e⟩ := h p hp
    split <;> exact ⟨i, e⟩
  · rcases List.mem_append.mp hq with z | z
    · exact h q z
    · rw [List.mem_singleton.mp z]; exact ⟨k, rfl⟩
theorem dget_cons {i : Int} {w : PyData} (k : Int) : dget ((.int i, w) :: kvs) (.int k) = if i = k then some w else dget kvs (.int k) := by
  unfold dget
  rw [List.find?_cons]
  dsimp only
  rw [eqv_int]
  by_cases h : i = k
  · simp [h]
  · simp [h]
theorem dget_map (k k' : Int) : ∀ {kvs : List (PyData × PyData)}, IK kvs → dget (kvs.map fun q => if PyData.eqv q.1 (.int k) then (q.1, v) else q) (.int k') = if k' = k then (dget kvs (.int k)).map fun _ => v else dget kvs (.int k')
  | [], _ => by simp [dget]
  | (q1, q2) :: kvs, h => by
    obtain ⟨i, e⟩ := h _ List.mem_cons_self
    have e : q1 = .int i := e
    subst e
    have ih := dget_map k k' h.tl
    rw [List.map_cons]
    dsimp only
    rw [eqv_int]
    by_cases h1 : i = k
    · rw [decide_eq_true h1]
      simp only [if_true]
      rw [dget_cons, dget_cons, dget_cons, ih]
      by_cases h2 : k' = k
      · rw [if_pos (show i = k' by omega), if_pos h2, if_pos h1]; rfl
      · rw [if_neg (show ¬ i = k' by omega), if_neg h2, if_neg (show ¬ i = k' by omega), if_neg h2]
    · rw [decide_eq_false h1]
      simp only [Bool.false_eq_true, if_false]
      rw [dget_cons, dget_cons, dget_cons, ih]
      by_cases h2 : k' = k
      · rw [if_neg (show ¬ i = k' by omega), if_pos h2, if_pos h2, if_neg h1]
      · rw [if_neg h2, if_neg h2]
theorem dget_app (k k' : Int) : ∀ {kvs : List (PyData × PyData)}, IK kvs → dget kvs (.int k) = none → dget (kvs ++ [(.int k, v)]) (.int k') = if k' = k then some v else dget kvs (.int k')
  | [], _, _ => by
    show dget [(.int k, v)] _ = _
    rw [dget_cons]
    by_cases h : k' = k
    · rw [if_pos h.symm, if_pos h]
    · rw [if_neg (fun z => h z.symm), if_neg h]
  | (q1, q2) :: kvs, h, hn => by
    obtain ⟨i, e⟩ := h _ List.mem_cons_self
    have e : q1 = .int i := e
    subst e
    rw [dget_cons] at hn
    have h1 : ¬ i = k := fun z => by rw [if_pos z] at hn; cases hn
    rw [if_neg h1] at hn
    rw [List.cons_append, dget_cons, dget_cons, dget_app k k' h.tl hn]
    by_cases h2 : k' = k
    · rw [if_neg (show ¬ i = k' by omega), if_pos h2, if_pos h2]
    · rw [if_neg h2, if_neg h2]
theorem any_get (k : Int) : ∀ {kvs : List (PyData × PyData)}, IK kvs → kvs.any (fun q => PyData.eqv q.1 (.int k)) = (dget kvs (.int k)).isSome
  | [], _ => rfl
  | (q1, q2) :: kvs, h => by
    obtain ⟨i, e⟩ := h _ List.mem_cons_self
    have e : q1 = .int i := e
    subst e
    rw [List.any_cons, any_get k h.tl, dget_cons]
    dsimp only
    rw [eqv_int]
    by_cases h1 : i = k
    · rw [decide_eq_true h1, if_pos h1]; rfl
    · rw [decide_eq_false h1, if_neg h1]; rfl
theorem dget_put (h : IK kvs) (k k' : Int) : dget (dput kvs (.int k) v) (.int k') = if k' = k then some v else dget kvs (.int k') := by
  unfold dput
  rw [any_get k h]
  cases q : dget kvs (.int k) with
  | none =>
    rw [if_neg (by simp)]
    exact dget_app k k' h q
  | some g =>
    rw [if_pos (by simp), dget_map k k' h, q]
    rfl
theorem dput_len (k : PyData) : (dput kvs k v).length ≤ kvs.length + 1 := by
  unfold dput
  split
  · rw [List.length_map]; omega
  · simp
theorem merge_len : ∀ {ls kvs : List (PyData × PyData)}, (mergeD kvs ls).length ≤ kvs.length + ls.length
  | [], kvs => Nat.le_refl _
  | q :: ls, kvs => by
    have h1 := dput_len (kvs := kvs) (v := q.2) q.1
    have h2 := merge_len (ls := ls) (kvs := dput kvs q.1 q.2)
    show (mergeD (dput kvs q.1 q.2) ls).length ≤ kvs.length + (ls.length + 1)
    omega
theorem IK.merge : ∀ {ls kvs : List (PyData × PyData)}, IK kvs → IK ls → IK (mergeD kvs ls)
  | [], kvs, h, _ => h
  | (q1, q2) :: ls, kvs, h, h2 => by
    obtain ⟨i, e⟩ := h2 _ List.mem_cons_self
    have e : q1 = .int i := e
    subst e
    show IK (mergeD (dput kvs (.int i) q2) ls)
    exact IK.merge (h.put i) h2.tl
theorem dget_merge (k : Int) : ∀ {ls kvs : List (PyData × PyData)}, IK kvs → IK ls → (∀ q ∈ ls, q.2 = v) → dget (mergeD kvs ls) (.int k) = if (dget ls (.int k)).isSome = true then some v else dget kvs (.int k)
  | [], kvs, h, _, _ => rfl
  | (q1, q2) :: ls, kvs, h, h2, h3 => by
    obtain ⟨i, e⟩ := h2 _ List.mem_cons_self
    have e : q1 = .int i := e
    subst e
    have e2 : v = q2 := (h3 (.int i, q2) List.mem_cons_self).symm
    subst e2
    show dget (mergeD (dput kvs (.int i) v) ls) _ = _
    rw [dget_merge k (h.put i) h2.tl fun q hq => h3 q (List.mem_cons_of_mem _ hq), dget_put h, dget_cons]
    by_cases z : i = k
    · rw [if_pos z, if_pos z.symm]; simp
    · rw [if_neg z, if_neg (show ¬ k = i from fun y => z y.symm)]
end
/-! ### partings -/
structure OkP (n : Nat) (P : List (List Nat)) : Prop where
  lot : ∀ l ∈ P, l ≠ [] ∧ l.Pairwise (· < ·) ∧ ∀ i ∈ l, i < n
  hd : P.Pairwise fun a b => a.headD 0 < b.headD 0
  pm : P.flatten.Perm (List.range n)
section
variable {n : Nat} {P : List (List Nat)} {ts : List (Nat × Nat)}
theorem OkP.dis (o : OkP n P) : P.Pairwise fun a b => ∀ x ∈ a, ∀ y ∈ b, x ≠ y := (List.pairwise_flatten.mp (o.pm.nodup_iff.mpr List.nodup_range)).2
theorem OkP.at (o : OkP n P) {i : Nat} (h : i < n) : ∃ a, a < P.length ∧ i ∈ P.getD a [] := by
  obtain ⟨l, hl, hi⟩ := List.mem_flatten.mp (o.pm.mem_iff.mpr (List.mem_range.mpr h))
  obtain ⟨a, ha, e⟩ := List.getElem_of_mem hl
  exact ⟨a, ha, by rw [List.getD_eq_getElem?_getD, List.getElem?_eq_getElem ha, Option.getD_some, e]; exact hi⟩
theorem getD_memA {α : Type} {l : List α} {a : Nat} {z : α} (h : a < l.length) : l.getD a z ∈ l := by
  rw [List.getD_eq_getElem?_getD, List.getElem?_eq_getElem h]; exact List.getElem_mem h
theorem OkP.one (o : OkP n P) {a b i : Nat} (ha : a < P.length) (hb : b < P.length) (h1 : i ∈ P.getD a []) (h2 : i ∈ P.getD b []) : a = b := by
  have d := o.dis
  rw [List.pairwise_iff_getElem] at d
  rw [List.getD_eq_getElem?_getD, List.getElem?_eq_getElem ha] at h1
  rw [List.getD_eq_getElem?_getD, List.getElem?_eq_getElem hb] at h2
  rcases Nat.lt_trichotomy a b with h | h | h
  · exact absurd rfl (d a b ha hb h i h1 i h2)
  · exact h
  · exact absurd rfl (d b a hb ha h i h2 i h1)
/-- the lot that a place lies in -/
def own (P : List (List Nat)) (i : Nat) : Nat := P.findIdx fun l => decide (i ∈ l)
theorem own_of (o : OkP n P) {a i : Nat} (ha : a < P.length) (h : i ∈ P.getD a []) : own P i = a := by
  have hm : ∃ l ∈ P, decide (i ∈ l) = true := ⟨_, getD_memA ha, by simpa using h⟩
  have hl : P.findIdx (fun l => decide (i ∈ l)) < P.length := List.findIdx_lt_length_of_exists hm
  have hg := List.findIdx_getElem (w := hl)
  refine o.one hl ha ?_ h
  show i ∈ P.getD (P.findIdx fun l => decide (i ∈ l)) []
  rw [List.getD_eq_getElem?_getD, List.getElem?_eq_getElem hl]
  simpa using hg
theorem own_lt (o : OkP n P) {i : Nat} (h : i < n) : own P i < P.length ∧ i ∈ P.getD (own P i) [] := by
  obtain ⟨a, ha, hi⟩ := o.at h
  rw [own_of o ha hi]
  exact ⟨ha, hi⟩
def btw (P : List (List Nat)) (ts : List (Nat × Nat)) : List Nat := (List.range ts.length).filter fun t => !decide (own P (ts.getD t (0, 0)).1 = own P (ts.getD t (0, 0)).2)
def ins (ts : List (Nat × Nat)) (l : List Nat) : List Nat := (List.range ts.length).filter fun t => decide ((ts.getD t (0, 0)).1 ∈ l) && decide ((ts.getD t (0, 0)).2 ∈ l)
theorem mem_btw {t : Nat} : t ∈ btw P ts ↔ t < ts.length ∧ own P (ts.getD t (0, 0)).1 ≠ own P (ts.getD t (0, 0)).2 := by simp [btw]
theorem mem_insd {t : Nat} {l : List Nat} : t ∈ ins ts l ↔ t < ts.length ∧ (ts.getD t (0, 0)).1 ∈ l ∧ (ts.getD t (0, 0)).2 ∈ l := by simp [ins]
theorem srt_range {l : List Nat} {m : Nat} (hn : l.Nodup) (hm : ∀ i, i ∈ l ↔ i < m) : srt l = List.range m := by
  have h := rise_filter (srt_lt hn) (m := m) fun i hi => (hm i).mp (mem_srt.mp hi)
  rw [← h]
  refine List.filter_eq_self.mpr fun i hi => ?_
  exact decide_eq_true (mem_srt.mpr ((hm i).mpr (List.mem_range.mp hi)))
/-- each tie is inside one lot or between -/
theorem whole_range (o : OkP n P) (w : OkWeb n ts) : srt (btw P ts ++ (P.map (ins ts)).flatten) = List.range ts.length := by
  refine srt_range ?_ fun t => ?_
  · refine List.nodup_append.mpr ⟨List.Pairwise.filter _ List.nodup_range, ?_, ?_⟩
    · refine List.pairwise_flatten.mpr ⟨fun l hl => ?_, ?_⟩
      · obtain ⟨a, _, rfl⟩ := List.mem_map.mp hl
        exact List.Pairwise.filter _ List.nodup_range
      · rw [List.pairwise_map]
        refine o.dis.imp fun h x hx y hy e => ?_
        subst e
        exact h _ (mem_insd.mp hx).2.1 _ (mem_insd.mp hy).2.1 rfl
    · intro x hx y hy e
      subst e
      obtain ⟨l, hl, h⟩ := List.mem_flatten.mp hy
      obtain ⟨a, ha, rfl⟩ := List.mem_map.mp hl
      obtain ⟨k, hk, e⟩ := List.getElem_of_mem ha
      have e : P.getD k [] = a := by rw [List.getD_eq_getElem?_getD, List.getElem?_eq_getElem hk]; exact e
      have h := mem_insd.mp h
      refine (mem_btw.mp hx).2 ?_
      rw [own_of o hk (by rw [e]; exact h.2.1), own_of o hk (by rw [e]; exact h.2.2)]
  · rw [List.mem_append]
    constructor
    · rintro (h | h)
      · exact (mem_btw.mp h).1
      · obtain ⟨l, hl, h⟩ := List.mem_flatten.mp h
        obtain ⟨a, ha, rfl⟩ := List.mem_map.mp hl
        exact (mem_insd.mp h).1
    · intro h
      obtain ⟨h1, h2⟩ := tie_lt w h
      by_cases q : own P (ts.getD t (0, 0)).1 = own P (ts.getD t (0, 0)).2
      · refine .inr (List.mem_flatten.mpr ⟨_, List.mem_map.mpr ⟨P.getD (own P (ts.getD t (0, 0)).1) [], getD_memA (own_lt o h1).1, rfl⟩, mem_insd.mpr ⟨h, (own_lt o h1).2, ?_⟩⟩)
        rw [q]
        exact (own_lt o h2).2
      · exact .inl (mem_btw.mpr ⟨h, q⟩)
theorem OkP.len (o : OkP n P) : P.length ≤ n := by
  have h := o.pm.length_eq
  rw [List.length_range] at h
  rw [← h, List.length_flatten]
  have : ∀ Q : List (List Nat), (∀ l ∈ Q, l ≠ []) → Q.length ≤ (Q.map List.length).sum := by
    intro Q
    induction Q with
    | nil => intro _; simp
    | cons a Q ih =>
      intro hq
      have h1 := ih fun l hl => hq l (List.mem_cons_of_mem _ hl)
      have h2 : 0 < a.length := List.length_pos_iff.mpr (hq a List.mem_cons_self)
      simp only [List.length_cons, List.map_cons, List.sum_cons]
      omega
  exact this P fun l hl => (o.lot l hl).1
end
end ZZ

/-! S3: inside, between, is_parting -/
namespace ZZ
open PySem PySem.Spec PyProof.Rows L2 Ob
theorem pLoop_from {S R : Type} {f : S → PyData → Res (Lp S R)} {I : Nat → S → Prop} {c : Nat → PyData} : ∀ (k a : Nat) (s : S), I a s → (∀ b s, a ≤ b → b < a + k → I b s → ∃ s', f s (c b) = .ok (.nx s') ∧ I (b + 1) s') →
    ∃ s', pLoop f ((List.range' a k).map c) s = .ok (.nx s') ∧ I (a + k) s'
  | 0, a, s, i, _ => ⟨s, rfl, i⟩
  | k + 1, a, s, i, h => by
    obtain ⟨s1, e, i1⟩ := h a s (Nat.le_refl _) (by omega) i
    obtain ⟨s2, e2, i2⟩ := pLoop_from k (a + 1) s1 i1 fun b s h1 h2 => h b s (by omega) (by omega)
    refine ⟨s2, ?_, by rw [show a + (k + 1) = a + 1 + k by omega]; exact i2⟩
    rw [List.range'_succ, List.map_cons]
    exact (pLoop_nx e).trans e2
theorem pLoop_idx {S R : Type} {f : S → PyData → Res (Lp S R)} {I : Nat → S → Prop} {c : Nat → PyData} {m : Nat} {s : S} (i : I 0 s) (h : ∀ b s, b < m → I b s → ∃ s', f s (c b) = .ok (.nx s') ∧ I (b + 1) s') :
    ∃ s', pLoop f ((List.range m).map c) s = .ok (.nx s') ∧ I m s' := by
  obtain ⟨s', e, j⟩ := pLoop_from m 0 s i fun b s _ h2 => h b s (by omega)
  rw [Nat.zero_add] at j
  rw [← List.range_eq_range'] at e
  exact ⟨s', e, j⟩
theorem enumD_map {α : Type} (c : α → PyData) (l : List α) (z : α) : enumD (l.map c) = (List.range l.length).map fun i : Nat => PyData.tuple [.int (i : Int), c (l.getD i z)] := by
  unfold enumD
  refine List.ext_getElem (by simp) fun i h1 h2 => ?_
  have hi : i < l.length := by simpa using h2
  simp [List.getD_eq_getElem?_getD, List.getElem?_eq_getElem hi]
section
variable {n : Nat} {ts : List (Nat × Nat)} {l : List Nat} {P : List (List Nat)}
theorem v_raw_inside (l : List Nat) : py_raw_inside (webD n ts) (lotD l) = .ok (lotD (ins ts l)) := by
  unfold py_raw_inside
  rw [pBin_ok, sIx2_1, qEnT_ok, enumD_map tieD ts (0, 0)]
  rw [pLc_filter (p := fun t => decide ((ts.getD t (0, 0)).1 ∈ l) && decide ((ts.getD t (0, 0)).2 ∈ l)) (F := fun t : Nat => .int (t : Int)) fun t _ => by
    rw [un2_ok, un2_ok, pBin_ok, pBin_ok, sIn_lot, sIn_lot, pTest_ok, pTest_ok, pAndT_ok, lcT_ok]]
  rw [pUn_ok, sTuple_l]
  rfl
theorem v_inside (w : OkWeb n ts) (h1 : l.Pairwise (· < ·)) (h2 : ∀ i ∈ l, i < n) : py_inside (webD n ts) (lotD l) = .ok (lotD (ins ts l)) := by
  unfold py_inside
  rw [pC1_ok, v_check_web w, pThen_ok, pBin_ok, sIx2_0, pC2_ok, v_is_lot (noD2_lot l), lotB_lot h1 h2, pTru_ok, oTru_bool, pNotT_ok, Bool.not_true, pIf_f, pC2_ok, v_raw_inside]
theorem v_inside_no (w : OkWeb n ts) {d : PyData} (h : noD2 d) (hb : lotB n d = false) : py_inside (webD n ts) d = .exc "NoPlaces" [] := by
  unfold py_inside
  rw [pC1_ok, v_check_web w, pThen_ok, pBin_ok, sIx2_0, pC2_ok, v_is_lot h, hb, pTru_ok, oTru_bool, pNotT_ok, Bool.not_false, pIf_t]
/-! ### is_parting -/
def posB : PyData → Bool
  | .tuple (_ :: _) => true
  | _ => false
def lotB1 (n : Nat) (d : PyData) : Bool := lotB n d && posB d
theorem lotB1_iff {m : Nat} {d : PyData} : lotB1 m d = true ↔ ∃ l : List Nat, d = lotD l ∧ l ≠ [] ∧ l.Pairwise (· < ·) ∧ ∀ i ∈ l, i < m := by
  unfold lotB1
  rw [Bool.and_eq_true, lotB_iff]
  constructor
  · rintro ⟨⟨l, rfl, h1, h2⟩, h3⟩
    exact ⟨l, rfl, fun z => by subst z; simp [posB, nL] at h3, h1, h2⟩
  · rintro ⟨l, rfl, h0, h1, h2⟩
    refine ⟨⟨l, rfl, h1, h2⟩, ?_⟩
    cases l with
    | nil => exact absurd rfl h0
    | cons a l => rfl
theorem all_lots {ds : List PyData} (hd : ∀ d ∈ ds, noD2 d) : pUn sAll (pLc (.ok ds) fun x_lot => lcY (pAnd (pC2 py_is_lot (.ok x_lot) (pBin sIx (.ok (webD n ts)) (.ok (.int 0)))) (pBin sGt (pUn sLen (.ok x_lot)) (.ok (.int 0))))) = .ok (.bool (ds.all (lotB1 n))) := by
  have := pAll_map (c := id) (l := ds) (p := lotB1 n) (f := fun x_lot => lcY (pAnd (pC2 py_is_lot (.ok x_lot) (pBin sIx (.ok (webD n ts)) (.ok (.int 0)))) (pBin sGt (pUn sLen (.ok x_lot)) (.ok (.int 0))))) fun d hm => by
    rw [id, pBin_ok, sIx2_0, pC2_ok, v_is_lot (hd d hm)]
    unfold lotB1
    cases q : lotB n d with
    | false => rw [pAnd_f, lcY_ok, Bool.false_and]
    | true =>
      obtain ⟨l, rfl, _, _⟩ := lotB_iff.mp q
      rw [pAnd_t, pUn_ok, sLen_lot, pBin_ok, sGt_i, lcY_ok, Bool.true_and]
      cases l with
      | nil => rfl
      | cons a l =>
        show Res.ok (some (PyData.bool (decide ((0 : Int) < ((l.length + 1 : Nat) : Int))))) = Res.ok (some (.bool true))
        rw [decide_eq_true (by omega)]
  rwa [List.map_id] at this
theorem v_no_tuple {d : PyData} (h : noD d) (ht : ∀ ds, d ≠ .tuple ds) : py_raw_is_parting (webD n ts) d = .ok (.bool false) := by
  unfold py_raw_is_parting
  have : sIsT "tuple" d = .ok (.bool false) := by
    cases d <;> first | exact h.elim | rfl | exact absurd rfl (ht _)
  rw [pUn_ok, this, pTru_ok, oTru_bool, pNotT_ok, Bool.not_false, pOrT_t, pIf_t]
theorem v_no_lots {ds : List PyData} (hd : ∀ d ∈ ds, noD2 d) (h : ds.all (lotB1 n) = false) : py_raw_is_parting (webD n ts) (.tuple ds) = .ok (.bool false) := by
  unfold py_raw_is_parting
  have : sIsT "tuple" (.tuple ds) = .ok (.bool true) := rfl
  rw [pUn_ok, this, pTru_ok, oTru_bool, pNotT_ok, Bool.not_true, pOrT_f, qTpl_ok, all_lots hd, h, pTru_ok, oTru_bool, pNotT_ok, Bool.not_false, pIf_t]
theorem eqvAll_lots : ∀ P Q : List (List Nat), PyData.eqvAll (P.map lotD) (Q.map lotD) = decide (P = Q)
  | [], [] => rfl
  | [], _ :: _ => rfl
  | _ :: _, [] => rfl
  | p :: P, q :: Q => by
    show (PyData.eqv (lotD p) (lotD q) && PyData.eqvAll (P.map lotD) (Q.map lotD)) = _
    rw [eqv_lot, eqvAll_lots P Q]
    by_cases h1 : p = q <;> by_cases h2 : P = Q <;> simp [h1, h2]
theorem sh_nL (l : List Nat) : Sh 1 (.list (nL l)) := sh_lst fun d hd => by
  obtain ⟨i, _, rfl⟩ := List.mem_map.mp hd
  exact sh_int _
theorem sh_lots (P : List (List Nat)) : Sh 2 (.list (P.map lotD)) := sh_lst fun d hd => by
  obtain ⟨l, _, rfl⟩ := List.mem_map.mp hd
  exact Sh_lot l
theorem sEq_nL (a b : List Nat) : sEq (.list (nL a)) (.list (nL b)) = .ok (.bool (decide (a = b))) := by
  unfold sEq
  rw [if_pos (by rw [((sh_nL a).up (by decide)).sh, ((sh_nL b).up (by decide)).sh]; rfl)]
  show Res.ok (PyData.bool (PyData.eqvAll (nL a) (nL b))) = _
  rw [eqvAll_nL]
theorem sEq_lots (a b : List (List Nat)) : sEq (.list (a.map lotD)) (.list (b.map lotD)) = .ok (.bool (decide (a = b))) := by
  unfold sEq
  rw [if_pos (by rw [((sh_lots a).up (by decide)).sh, ((sh_lots b).up (by decide)).sh]; rfl)]
  show Res.ok (PyData.bool (PyData.eqvAll (a.map lotD) (b.map lotD))) = _
  rw [eqvAll_lots]
theorem plt_lot {a b : Nat} {l m : List Nat} (h : a ≠ b) : plt (lotD (a :: l)) (lotD (b :: m)) = decide (a < b) := by
  have e1 : plt (lotD (a :: l)) (lotD (b :: m)) = (pcmpL (.int a :: nL l) (.int b :: nL m) == .lt) := rfl
  rw [e1, pcmpL_cons rfl, eqv_int, if_neg (by simp; omega), plt_nat]
def psl (P : List (List Nat)) : List (List Nat) := (psort (P.map lotD)).map unlot
theorem psl_eq (P : List (List Nat)) : (psl P).map lotD = psort (P.map lotD) := by
  unfold psl
  rw [List.map_map]
  conv => rhs; rw [← List.map_id (psort (P.map lotD))]
  refine List.map_congr_left fun d hd => ?_
  obtain ⟨l, _, rfl⟩ := List.mem_map.mp ((psort_perm _).mem_iff.mp hd)
  show lotD (unlot (lotD l)) = lotD l
  rw [unlot_lot]
theorem sSorted_lotsT (P : List (List Nat)) : sSorted (.tuple (P.map lotD)) = .ok (.list ((psl P).map lotD)) := by
  rw [psl_eq]
  show (if okS (P.map lotD) = true then Res.ok (PyData.list (psort (P.map lotD))) else Res.err) = _
  rw [if_pos (okS_lots _)]
theorem sSorted_nL (l : List Nat) : sSorted (.list (nL l)) = .ok (.list (nL (srt l))) := by
  rw [← psort_nL]
  show (if okS (nL l) = true then Res.ok (PyData.list (psort (nL l))) else Res.err) = _
  rw [if_pos (okS_nL _)]
theorem psort_self : ∀ {l : List PyData}, l.Pairwise (fun a b => plt b a = false) → psort l = l
  | [], _ => rfl
  | x :: l, h => by
    obtain ⟨h1, h2⟩ := List.pairwise_cons.mp h
    show insP x (psort l) = _
    rw [psort_self h2]
    cases l with
    | nil => rfl
    | cons y l =>
      unfold insP
      rw [if_neg (by rw [h1 y List.mem_cons_self]; simp)]
theorem map_lotD_inj {P Q : List (List Nat)} (h : P.map lotD = Q.map lotD) : P = Q := by
  have := congrArg (List.map unlot) h
  rw [List.map_map, List.map_map] at this
  have f : ∀ X : List (List Nat), X.map (unlot ∘ lotD) = X := fun X => by
    conv => rhs; rw [← List.map_id X]
    exact List.map_congr_left fun l _ => unlot_lot l
  rwa [f, f] at this
theorem hd_plt {a b : List Nat} (ha : a ≠ []) (hb : b ≠ []) (h : a.headD 0 < b.headD 0) : plt (lotD a) (lotD b) = true ∧ plt (lotD b) (lotD a) = false := by
  cases a with
  | nil => exact absurd rfl ha
  | cons x a =>
    cases b with
    | nil => exact absurd rfl hb
    | cons y b =>
      have h : x < y := h
      rw [plt_lot (by omega), plt_lot (by omega)]
      exact ⟨decide_eq_true h, decide_eq_false (by omega)⟩
theorem psl_self (h : ∀ l ∈ P, l ≠ []) (hd : P.Pairwise fun a b => a.headD 0 < b.headD 0) : psl P = P := by
  refine map_lotD_inj ?_
  rw [psl_eq]
  refine psort_self ?_
  rw [List.pairwise_map]
  exact hd.imp_of_mem fun ha hb hab => (hd_plt (h _ ha) (h _ hb) hab).2
theorem psl_rev {a b : List Nat} (h : ∀ l ∈ a :: b :: P, l ≠ []) (hd : (a :: b :: P).Pairwise fun a b => a.headD 0 < b.headD 0) : psl (a :: b :: P).reverse ≠ (a :: b :: P).reverse := fun e => by
  have e := congrArg (List.map lotD) e
  rw [psl_eq] at e
  have s := psort_srtd ((a :: b :: P).reverse.map lotD)
  rw [e] at s
  have s : List.Pairwise (fun x y => plt y x = false) ((a :: b :: P).reverse.map lotD) := s
  rw [List.pairwise_map, List.pairwise_reverse] at s
  have s1 := (List.pairwise_cons.mp s).1 b List.mem_cons_self
  have s2 := (List.pairwise_cons.mp hd).1 b List.mem_cons_self
  rw [(hd_plt (h a List.mem_cons_self) (h b (by simp)) s2).1] at s1
  cases s1
theorem met_loop : ∀ (P : List (List Nat)) (l : List Nat), l.length + P.flatten.length ≤ 1000000 → pLoop (fun s1 d => py_raw_is_parting_b1 s1 d) (P.map lotD) (.list (nL l)) = .ok (.nx (.list (nL (l ++ P.flatten))))
  | [], l, _ => by simp [pLoop]
  | p :: P, l, h => by
    rw [List.flatten_cons, List.length_append] at h
    have e : py_raw_is_parting_b1 (.list (nL l)) (lotD p) = .ok (.nx (.list (nL (l ++ p)))) := by
      unfold py_raw_is_parting_b1
      rw [pUn_ok, sList_t, pExt_ok _ _ _ (by simp [nL]; omega)]
      rw [show nL (l ++ p) = nL l ++ nL p by simp [nL]]
    rw [List.map_cons]
    refine (pLoop_nx e).trans ?_
    rw [met_loop P (l ++ p) (by rw [List.length_append]; omega), List.flatten_cons, List.append_assoc]
theorem v_lots_all (w : OkWeb n ts) (h : ∀ l ∈ P, l ≠ [] ∧ l.Pairwise (· < ·) ∧ ∀ i ∈ l, i < n) (hl : P.flatten.length ≤ 1000000) : py_raw_is_parting (webD n ts) (.tuple (P.map lotD)) = .ok (.bool (decide (srt P.flatten = List.range n) && decide (P = psl P))) := by
  unfold py_raw_is_parting
  have e0 : sIsT "tuple" (.tuple (P.map lotD)) = .ok (.bool true) := rfl
  have e1 : (P.map lotD).all (lotB1 n) = true := by
    rw [List.all_eq_true]
    intro d hd
    obtain ⟨l, hm, rfl⟩ := List.mem_map.mp hd
    exact lotB1_iff.mpr ⟨l, rfl, h l hm⟩
  have e2 : ∀ d ∈ P.map lotD, noD2 d := fun d hd => by
    obtain ⟨l, _, rfl⟩ := List.mem_map.mp hd
    exact noD2_lot l
  have e3 : pLoop (fun s1 d => py_raw_is_parting_b1 s1 d) (P.map lotD) (.list []) = .ok (.nx (.list (nL P.flatten))) := by
    have := met_loop P [] (by simpa using hl)
    rwa [List.nil_append] at this
  rw [pUn_ok, e0, pTru_ok, oTru_bool, pNotT_ok, Bool.not_true, pOrT_f, qTpl_ok, all_lots e2, e1, pTru_ok, oTru_bool, pNotT_ok, Bool.not_true, pIf_f, pNil_e, pLst0, ok_bind]
  rw [pFor_ok e3]
  rw [pPk_l, pUn_ok, sSorted_nL, pBin_ok, sIx2_0, qR1_ok n (ok_lim w), pRg_ok, pBin_ok, sEq_nL, pUn_ok, sList_t, pUn_ok, sSorted_lotsT, pBin_ok, sEq_lots, pAnd_ok]
end
end ZZ

/-! S4: between -/
namespace ZZ
open PySem PySem.Spec PyProof.Rows L2 Ob
section
variable {n : Nat} {ts : List (Nat × Nat)} {l : List Nat} {P : List (List Nat)} {v : PyData}
theorem dc_lot {f : PyData → Res (Option PyData)} (hf : ∀ i : Nat, f (.int i) = .ok (some (.tuple [.int i, v]))) : ∀ (l : List Nat) (acc : List (PyData × PyData)), IK acc → (∀ q ∈ acc, q.2 = v) →
    ∃ D, dcM f (nL l) acc = .ok D ∧ IK D ∧ (∀ q ∈ D, q.2 = v) ∧ D.length ≤ acc.length + l.length ∧ ∀ i : Nat, (dget D (.int i)).isSome = (decide (i ∈ l) || (dget acc (.int i)).isSome)
  | [], acc, h, hv => ⟨acc, rfl, h, hv, by simp, fun i => by simp⟩
  | k :: l, acc, h, hv => by
    obtain ⟨D, e, h1, h2, h3, h4⟩ := dc_lot hf l (dput acc (.int k) v) (h.put k) fun q hq => by
      unfold dput at hq
      split at hq
      · obtain ⟨p, hp, rfl⟩ := List.mem_map.mp hq
        split
        · rfl
        · exact hv p hp
      · rcases List.mem_append.mp hq with z | z
        · exact hv q z
        · rw [List.mem_singleton.mp z]
    refine ⟨D, ?_, h1, h2, ?_, fun i => ?_⟩
    · show (noX (f (.int k)) >>= _) = _
      rw [hf k, noX_ok, ok_bind]
      exact e
    · have := dput_len (kvs := acc) (v := v) (.int k)
      simp only [List.length_cons]
      omega
    · rw [h4, dget_put h]
      by_cases z : (i : Int) = k
      · rw [if_pos z]
        have : i = k := by omega
        simp [this]
      · rw [if_neg z]
        have : i ≠ k := by omega
        simp [this]
/-- what a dict of lots' places tells, a lots in -/
structure Owns (n : Nat) (P : List (List Nat)) (a : Nat) (kvs : List (PyData × PyData)) : Prop where
  ik : IK kvs
  len : kvs.length ≤ a * n
  get : ∀ i : Nat, i < n → dget kvs (.int i) = if own P i < a then some (.int (own P i : Nat)) else none
theorem Owns.step (o : OkP n P) {a : Nat} (ha : a < P.length) {kvs kvs' : List (PyData × PyData)} (h : Owns n P a kvs) (h1 : IK kvs') (h2 : kvs'.length ≤ kvs.length + (P.getD a []).length) (h3 : ∀ i : Nat, dget kvs' (.int i) = if i ∈ P.getD a [] then some (.int (a : Nat)) else dget kvs (.int i)) : Owns n P (a + 1) kvs' where
  ik := h1
  len := by
    have := h.len
    have r := o.lot _ (getD_memA (z := []) ha)
    have := rise_len r.2.1 r.2.2
    have : (a + 1) * n = a * n + n := Nat.succ_mul a n
    omega
  get := fun i hi => by
    rw [h3, h.get i hi]
    by_cases q : i ∈ P.getD a []
    · have := own_of o ha q
      rw [if_pos q, if_pos (by omega), this]
    · have hne : own P i ≠ a := fun z => q (by rw [← z]; exact (own_lt o hi).2)
      rw [if_neg q]
      by_cases z : own P i < a
      · rw [if_pos z, if_pos (by omega)]
      · rw [if_neg z, if_neg (by omega)]
theorem small (o : OkP n P) (hn : n ≤ 12) {a : Nat} (ha : a ≤ P.length) {kvs : List (PyData × PyData)} (h : Owns n P a kvs) : kvs.length ≤ 144 := by
  have h1 := h.len
  have h2 := o.len
  have h3 : a * n ≤ 12 * 12 := Nat.mul_le_mul (by omega) hn
  omega
theorem lot_small (o : OkP n P) (hn : n ≤ 12) {a : Nat} (ha : a < P.length) : (P.getD a []).length ≤ 12 := by
  have r := o.lot _ (getD_memA (z := []) ha)
  have := rise_len r.2.1 r.2.2
  omega
theorem v_between_b1 (o : OkP n P) (hn : n ≤ 12) {a : Nat} (ha : a < P.length) {kvs : List (PyData × PyData)} (h : Owns n P a kvs) : ∃ kvs', py_raw_between_b1 (.dict kvs) (.tuple [.int (a : Int), lotD (P.getD a [])]) = .ok (.nx (.dict kvs')) ∧ Owns n P (a + 1) kvs' := by
  obtain ⟨D, e, h1, h2, h3, h4⟩ := dc_lot (v := .int (a : Nat)) (f := fun x_place => lcY (dcP (.ok x_place) (.ok (.int (a : Nat))))) (fun i => rfl) (P.getD a []) [] (fun _ z => nomatch z) fun _ z => nomatch z
  refine ⟨mergeD kvs D, ?_, h.step o ha (h.ik.merge h1) ?_ fun i => ?_⟩
  · unfold py_raw_between_b1
    have e2 : pDc (.ok (nL (P.getD a []))) (fun x_place => lcY (dcP (.ok x_place) (.ok (.int (a : Nat))))) = .ok (.dict D) := by
      unfold pDc
      rw [ok_bind, e, ok_bind]
    rw [un2_ok, qTpl_ok, e2]
    show (fDUpdK (.dict kvs) (.dict D) >>= _) = _
    have l1 := small o hn (Nat.le_of_lt ha) h
    have l2 := lot_small o hn ha
    have h3 : D.length ≤ 0 + (P.getD a []).length := h3
    have : fDUpdK (.dict kvs) (.dict D) = .ok (.dict (mergeD kvs D)) := if_pos (show kvs.length + D.length ≤ 1000000 by omega)
    rw [this, ok_bind]
  · have := merge_len (ls := D) (kvs := kvs)
    have h3 : D.length ≤ 0 + (P.getD a []).length := h3
    omega
  · rw [dget_merge (v := .int (a : Nat)) (i : Int) h.ik h1 h2, h4]
    by_cases q : i ∈ P.getD a []
    · rw [if_pos q, if_pos (by rw [decide_eq_true q]; rfl)]
    · rw [if_neg q, if_neg (by rw [decide_eq_false q]; exact fun z => nomatch z)]
theorem get_own (o : OkP n P) {kvs : List (PyData × PyData)} (h : Owns n P P.length kvs) {i : Nat} (hi : i < n) : fDGetK (.dict kvs) (.int i) = .ok (.int (own P i : Nat)) := by
  have e := h.get i hi
  rw [if_pos (own_lt o hi).1] at e
  unfold fDGetK
  dsimp only
  rw [e]
  rfl
theorem in_own (o : OkP n P) {kvs : List (PyData × PyData)} (h : Owns n P P.length kvs) {i : Nat} (hi : i < n) : fDInK false (.dict kvs) (.int i) = .ok (.bool true) := by
  have e := h.get i hi
  rw [if_pos (own_lt o hi).1] at e
  unfold fDInK
  dsimp only
  rw [e]
  rfl
theorem owns0 : Owns n P 0 [] := ⟨(fun _ z => nomatch z), by simp, fun i _ => by simp [dget]⟩
theorem v_raw_between (w : OkWeb n ts) (o : OkP n P) : py_raw_between (webD n ts) (.tuple (P.map lotD)) = .ok (lotD (btw P ts)) := by
  unfold py_raw_between
  obtain ⟨s', e, kvs, rfl, h⟩ := pLoop_idx (R := PyData) (f := fun s1 d => py_raw_between_b1 s1 d) (I := fun a s => ∃ kvs, s = .dict kvs ∧ Owns n P a kvs) (c := fun a : Nat => .tuple [.int (a : Int), lotD (P.getD a [])]) (m := P.length) (s := .dict []) ⟨_, rfl, owns0⟩ fun a s ha ⟨kvs, hs, h⟩ => by
    subst hs
    obtain ⟨kvs', e, h'⟩ := v_between_b1 o w.n2 ha h
    exact ⟨_, e, kvs', rfl, h'⟩
  rw [ok_bind, qEnT_ok, enumD_map lotD P []]
  rw [pFor_ok e]
  rw [pBin_ok, sIx2_1, qEnT_ok, enumD_map tieD ts (0, 0)]
  rw [pLc_filter (p := fun t => !decide (own P (ts.getD t (0, 0)).1 = own P (ts.getD t (0, 0)).2)) (F := fun t : Nat => .int (t : Int)) fun t ht => by
    have ht : t < ts.length := by simpa using ht
    obtain ⟨h1, h2⟩ := tie_lt w ht
    rw [un2_ok, un2_ok, ok_bind, ok_bind, get_own o h h1, get_own o h h2, pBin_ok, sNe_n, pTest_ok, lcT_ok]]
  rw [pUn_ok, sTuple_l]
  rfl
theorem v_is_part (w : OkWeb n ts) (o : OkP n P) : py_raw_is_parting (webD n ts) (.tuple (P.map lotD)) = .ok (.bool true) := by
  have hl : P.flatten.length = n := by rw [o.pm.length_eq, List.length_range]
  rw [v_lots_all w o.lot (by rw [hl]; exact ok_lim w)]
  rw [srt_range (o.pm.nodup_iff.mpr List.nodup_range) fun i => by rw [o.pm.mem_iff, List.mem_range]]
  rw [psl_self (fun l hl => (o.lot l hl).1) o.hd]
  simp
theorem v_is_parting (w : OkWeb n ts) {d : PyData} : py_is_parting (webD n ts) d = py_raw_is_parting (webD n ts) d := by
  unfold py_is_parting
  rw [pC1_ok, v_check_web w, pThen_ok, pC2_ok]
theorem v_between (w : OkWeb n ts) (o : OkP n P) : py_between (webD n ts) (.tuple (P.map lotD)) = .ok (lotD (btw P ts)) := by
  unfold py_between
  rw [pC1_ok, v_check_web w, pThen_ok, pC2_ok, v_is_part w o, pTru_ok, oTru_bool, pNotT_ok, Bool.not_true, pIf_f, pC2_ok, v_raw_between w o]
theorem v_between_no (w : OkWeb n ts) {d : PyData} (h : py_raw_is_parting (webD n ts) d = .ok (.bool false)) : py_between (webD n ts) d = .exc "NoParting" [] := by
  unfold py_between
  rw [pC1_ok, v_check_web w, pThen_ok, pC2_ok, h, pTru_ok, oTru_bool, pNotT_ok, Bool.not_false, pIf_t]
end
end ZZ

set_option maxHeartbeats 8000000
namespace ZZ
open PySem PySem.Spec PyProof.Rows L2 Ob
def py__law_draws_v5_b3 (x_script x_row x_seed x_k : PyData) : Res (Lp (PyData × PyData) (PyData)) := ((.ok x_k) >>= fun x_cell => (pIf (pTru (.ok x_script)) ((pBin sMod (pUn sInt (pBin sIx (.ok x_script) (pBin sMod (pBin sAdd (.ok x_k) (.ok (.int 1))) (pUn sLen (.ok x_script))))) (.ok (.int 2147483647))) >>= fun x_cell => ((pBin sMod (pUn sInt (pBin sAdd (pBin sAdd (pBin sAdd (pBin sMul (.ok x_seed) (.ok (.int 48271))) (.ok x_cell)) (pBin sMul (.ok x_k) (.ok (.int 69621)))) (.ok (.int 13)))) (.ok (.int 2147483647))) >>= fun x_seed => (pApp x_row (pBin sMod (pBin sFDiv (pBin sMod (pUn sInt (pBin sAdd (pBin sMul (.ok x_seed) (.ok (.int 16807))) (.ok (.int 54321)))) (.ok (.int 2147483647))) (.ok (.int 7))) (.ok (.int 1009))) fun x_row => (.ok (.nx (x_row, x_seed)))))) ((pBin sMod (pUn sInt (pBin sAdd (pBin sAdd (pBin sAdd (pBin sMul (.ok x_seed) (.ok (.int 48271))) (.ok x_cell)) (pBin sMul (.ok x_k) (.ok (.int 69621)))) (.ok (.int 13)))) (.ok (.int 2147483647))) >>= fun x_seed => (pApp x_row (pBin sMod (pBin sFDiv (pBin sMod (pUn sInt (pBin sAdd (pBin sMul (.ok x_seed) (.ok (.int 16807))) (.ok (.int 54321)))) (.ok (.int 2147483647))) (.ok (.int 7))) (.ok (.int 1009))) fun x_row => (.ok (.nx (x_row, x_seed)))))))
def py__law_draws_v5_j2 (x_script x_many x_row x_big : PyData) : Res (PyData) := ((.ok (.int 825)) >>= fun x_seed => (pFor (qR1 (pBin sSub (.ok x_many) (pUn sLen (pPk x_row)))) (x_row, x_seed) (fun s3 d => py__law_draws_v5_b3 x_script s3.1 s3.2 d) (fun s3 => (.ok s3.1)) (fun r => r)))
def py__law_draws_v5_b4 (x_row x_big x_k : PyData) : Res (Lp (PyData × PyData) (PyData)) := (pIf (pTest (pBin sGt (.ok x_big) (.ok (.int 0)))) (pApp x_row (pBin sMod (pUn sInt (.ok x_big)) (.ok (.int 1009))) fun x_row => ((pBin sFDiv (.ok x_big) (.ok (.int 1009))) >>= fun x_big => (.ok (.nx (x_row, x_big))))) (.ok (.nx (x_row, x_big))))
def py__law_draws_v5_j1 (x_script x_many x_row x_big : PyData) : Res (PyData) := (pIf (pTest (pBin sGe (.ok x_big) (.ok (.int 1000000000000000000)))) (pFor (qR1 (.ok x_many)) (x_row, x_big) (fun s4 d => py__law_draws_v5_b4 s4.1 s4.2 d) (fun s4 => (py__law_draws_v5_j2 x_script x_many s4.1 s4.2)) (fun r => r)) (py__law_draws_v5_j2 x_script x_many x_row x_big))
def py__law_draws_v5 (x_script x_many : PyData) : Res (PyData) := ((pLst pNil) >>= fun x_row => ((pIf (pTru (.ok x_script)) (pBin sIx (.ok x_script) (.ok (.int 0))) (.ok (.int 0))) >>= fun x_big => (pIf (pTest (pBin sLt (.ok x_big) (.ok (.int 0)))) ((pUn sNeg (.ok x_big)) >>= fun x_big => (py__law_draws_v5_j1 x_script x_many x_row x_big)) (py__law_draws_v5_j1 x_script x_many x_row x_big))))
def pv__law_draws_v5 (x_script x_many : PyData) : Res PyData := py__law_draws_v5 x_script x_many >>= pPk
def py__law_partings_b3 (x_one x_row x_later x_at : PyData) : Res (Lp (PyData) (PyData)) := (pApp x_later (pBin sAdd (pBin sAdd (pSl (.ok x_row) pNo (pIt (.ok x_at))) (pTup (pCons (pBin sAdd (pBin sIx (.ok x_row) (.ok x_at)) (pTup (pCons (.ok x_one) pNil))) pNil))) (pSl (.ok x_row) (pIt (pBin sAdd (.ok x_at) (.ok (.int 1)))) pNo)) fun x_later => (.ok (.nx x_later)))
def py__law_partings_b2 (x_one x_later x_row : PyData) : Res (Lp (PyData) (PyData)) := (pApp x_later (pBin sAdd (.ok x_row) (pTup (pCons (pTup (pCons (.ok x_one) pNil)) pNil))) fun x_later => (pFor (qR1 (pUn sLen (.ok x_row))) x_later (fun s3 d => py__law_partings_b3 x_one x_row s3 d) (fun s3 => (.ok (.nx s3))) (fun r => Lp.rt r)))
def py__law_partings_b1 (x_out x_one : PyData) : Res (Lp (PyData) (PyData)) := ((pLst pNil) >>= fun x_later => (pFor (qLst (.ok x_out)) x_later (fun s2 d => py__law_partings_b2 x_one s2 d) (fun s2 => (pGive s2 fun x_out => (.ok (.nx x_out)))) (fun r => Lp.rt r)))
def py__law_partings (x_some : PyData) : Res (PyData) := ((pLst (pCons (pTup pNil) pNil)) >>= fun x_out => (pFor (qLst (.ok x_some)) x_out (fun s1 d => py__law_partings_b1 s1 d) (fun s1 => (pUn sSorted (.ok s1))) (fun r => r)))
def py__law_between_b2 (x_at x_where x_place : PyData) : Res (Lp (PyData) (PyData)) := ((.ok x_at) >>= fun v => (.ok x_place) >>= fun u => fDPutK x_where u v >>= fun x_where => (.ok (.nx x_where)))
def py__law_between_b1 (x_parting x_where x_at : PyData) : Res (Lp (PyData) (PyData)) := (pFor (qTpl (pBin sIx (.ok x_parting) (.ok x_at))) x_where (fun s2 d => py__law_between_b2 x_at s2 d) (fun s2 => (.ok (.nx s2))) (fun r => Lp.rt r))
def py__law_between (x_web x_parting : PyData) : Res (PyData) := ((.ok (.dict [])) >>= fun x_where => (pFor (qR1 (pUn sLen (.ok x_parting))) x_where (fun s1 d => py__law_between_b1 x_parting s1 d) (fun s1 => ((pLc (qR1 (pUn sLen (pBin sIx (.ok x_web) (.ok (.int 1))))) fun x_n => (lcT (pAndT (pTest ((pBin sIx (pBin sIx (pBin sIx (.ok x_web) (.ok (.int 1))) (.ok x_n)) (.ok (.int 0))) >>= fDInK false s1)) (pTest ((pBin sIx (pBin sIx (pBin sIx (.ok x_web) (.ok (.int 1))) (.ok x_n)) (.ok (.int 1))) >>= fDInK false s1))) (.ok x_n))) >>= fun x_some => (pUn sTuple (pLc (qLst (.ok x_some)) fun x_n => (lcT (pTest (pBin sNe ((pBin sIx (pBin sIx (pBin sIx (.ok x_web) (.ok (.int 1))) (.ok x_n)) (.ok (.int 0))) >>= fDGetK s1) ((pBin sIx (pBin sIx (pBin sIx (.ok x_web) (.ok (.int 1))) (.ok x_n)) (.ok (.int 1))) >>= fDGetK s1))) (.ok x_n)))))) (fun r => r)))
def py__law_inside (x_web x_places : PyData) : Res (PyData) := (pUn sTuple (pLc (qR1 (pUn sLen (pBin sIx (.ok x_web) (.ok (.int 1))))) fun x_n => (lcT (pAndT (pTest (pBin sIn (pBin sIx (pBin sIx (pBin sIx (.ok x_web) (.ok (.int 1))) (.ok x_n)) (.ok (.int 0))) (.ok x_places))) (pTest (pBin sIn (pBin sIx (pBin sIx (pBin sIx (.ok x_web) (.ok (.int 1))) (.ok x_n)) (.ok (.int 1))) (.ok x_places)))) (.ok x_n))))
def py__law_near (x_draws x_web x_parting : PyData) : Res (PyData × PyData) := ((pBin sIx (.ok x_web) (.ok (.int 0))) >>= fun x_many => ((pLst (pCons (.ok .none) (pCons (pTup pNil) (pCons (pUn sList (.ok x_parting)) (pCons (pBin sAdd (.ok x_parting) (pTup (pCons (pTup pNil) pNil))) (pCons (pBin sAdd (.ok x_parting) (pTup (pCons (pTup (pCons (.ok x_many) pNil)) pNil))) (pCons (pBin sAdd (.ok x_parting) (pTup (pCons (pTup (pCons (.ok (.int 0)) pNil)) pNil))) (pCons (pSl (.ok x_parting) (pIt (.ok (.int 1))) pNo) (pCons (pBin sRepT (pTup (pCons (pRgT (qR1 (.ok x_many))) pNil)) (.ok (.int 2))) pNil))))))))) >>= fun x_some => (((pLst (pCons (pUn sTuple (pLc (qTpl (.ok x_parting)) fun x_lot => (lcY (pUn sList (.ok x_lot))))) (pCons (pBin sAdd (pTup (pCons (pTup (pCons (.ok (.int 0)) (pCons (.ok (.int 0)) pNil))) pNil)) (pSl (.ok x_parting) (pIt (.ok (.int 1))) pNo)) (pCons (pTup (pCons (pBin sAdd (pUn sRevT (pRgT (qR1 (.ok x_many)))) (pTup (pCons (.ok (.int 0)) pNil))) pNil)) (pCons (pBin sAdd (pTup (pCons (pTup (pCons (.ok (.bool true)) pNil)) pNil)) (.ok x_parting)) pNil))))) >>= fAddOwn x_some) >>= fun x_some => (pIf (pTest (pBin sGt (pUn sLen (.ok x_parting)) (.ok (.int 1)))) (pApp x_some (pUn sRevT (.ok x_parting)) fun x_some => (pBind2 ((eUn (fIxOwn x_some) (eCall (fun d => l1 (py__law_take d)) (eCons (eP (pUn sLen (pPk x_some))) eNil))) x_draws) fun v x_draws => .ok (v, x_draws))) (pBind2 ((eUn (fIxOwn x_some) (eCall (fun d => l1 (py__law_take d)) (eCons (eP (pUn sLen (pPk x_some))) eNil))) x_draws) fun v x_draws => .ok (v, x_draws))))))
def py_law_v6_b2 (x_web x_whole x_lot : PyData) : Res (Lp (PyData) (PyData)) := (pExt x_whole (pUn sList (pC2 py_inside (.ok x_web) (.ok x_lot))) fun x_whole => (.ok (.nx x_whole)))
def py_law_v6_b1 (x_web x_every x_draws x_turn : PyData) : Res (Lp (PyData) (PyData)) := (pBind2 ((eUn sTuple (eUn sSorted (eBin sIx (eP (.ok x_every)) (eCall (fun d => l1 (py__law_take d)) (eCons (eP (pUn sLen (.ok x_every))) eNil))))) x_draws) fun x_parting x_draws => (pBind2 ((eUn sTuple (eLc (eP (qR1 (pBin sIx (.ok x_web) (.ok (.int 0))))) fun x_place dd => (elcT (eUn fTest (eBin sEq (eCall (fun d => l1 (py__law_take d)) (eCons (eP (.ok (.int 2))) eNil)) (eP (.ok (.int 0))))) (eP (.ok x_place)) dd))) x_draws) fun x_places x_draws => (pIf (pOrT (pTest (pBin sNotB (pC2 py_is_parting (.ok x_web) (.ok x_parting)) (.ok (.bool true)))) (pTest (pBin sNe (pC2 py_between (.ok x_web) (.ok x_parting)) (pC2 py__law_between (.ok x_web) (.ok x_parting))))) ((.ok (.bool false)) >>= fun v => .ok (Lp.rt v)) (pIf (pTest (pBin sNe (pC2 py_inside (.ok x_web) (.ok x_places)) (pC2 py__law_inside (.ok x_web) (.ok x_places)))) ((.ok (.bool false)) >>= fun v => .ok (Lp.rt v)) ((pUn sList (pC2 py_between (.ok x_web) (.ok x_parting))) >>= fun x_whole => (pFor (qTpl (.ok x_parting)) x_whole (fun s2 d => py_law_v6_b2 x_web s2 d) (fun s2 => (pIf (pTest (pBin sNe (pUn sSorted (pPk s2)) (pRg (qR1 (pUn sLen (pBin sIx (.ok x_web) (.ok (.int 1)))))))) ((.ok (.bool false)) >>= fun v => .ok (Lp.rt v)) (pBind2 ((eCall (fun d => l2 (py__law_near d)) (eCons (eP (.ok x_web)) (eCons (eP (.ok x_parting)) eNil))) x_draws) fun x_bad x_draws => (pIf (pOrT (pTest (pBin sNotB (pC2 py_is_parting (.ok x_web) (.ok x_bad)) (.ok (.bool false)))) (pTest (pBin sNe (pLam cl_k07 "none" hd_k07_law_name (pC2 py_between (.ok x_web) (.ok x_bad))) (.ok (.str "NoParting"))))) ((.ok (.bool false)) >>= fun v => .ok (Lp.rt v)) (.ok (.nx x_draws)))))) (fun r => Lp.rt r)))))))
def py_law_v6_b3 (x_web x_bad : PyData) : Res (Lp (Unit) (PyData)) := (pIf (pTest (pBin sNe (pLam cl_k07 "none" hd_k07_law_name (pC2 py_inside (.ok x_web) (.ok x_bad))) (.ok (.str "NoPlaces")))) ((.ok (.bool false)) >>= fun v => .ok (Lp.rt v)) (.ok (.nx ())))
def py_law_v6 (x_script : PyData) : Res (PyData) := ((pC2 py__law_draws_v5 (.ok x_script) (.ok (.int 200))) >>= fun x_draws => (pBind2 ((eCall (fun d => l3 (py__law_web d)) (eCons (eP (.ok (.int 1))) (eCons (eP (.ok (.int 6))) (eCons (eP (.ok (.int 9))) eNil)))) x_draws) fun x_web x_draws => ((pC1 py__law_partings (pRg (qR1 (pBin sIx (.ok x_web) (.ok (.int 0)))))) >>= fun x_every => (pFor (qR1 (.ok (.int 4))) x_draws (fun s1 d => py_law_v6_b1 x_web x_every s1 d) (fun s1 => (pIf (pTest (pBin sNe (pC2 py_between (.ok x_web) (pC2 py_parts_by (.ok x_web) (pRgT (qR1 (pUn sLen (pBin sIx (.ok x_web) (.ok (.int 1)))))))) (pTup pNil))) (.ok (.bool false)) (pFor (qTpl (pTup (pCons (pTup (pCons (pBin sIx (.ok x_web) (.ok (.int 0))) pNil)) (pCons (pTup (pCons (.ok (.int 0)) (pCons (.ok (.int 0)) pNil))) (pCons (pLst (pCons (.ok (.int 0)) pNil)) (pCons (.ok .none) (pCons (pTup (pCons (pUn sNeg (.ok (.int 1))) pNil)) (pCons (pTup (pCons (.ok (.bool true)) pNil)) pNil)))))))) () (fun s3 d => py_law_v6_b3 x_web d) (fun s3 => (.ok (.bool true))) (fun r => r)))) (fun r => r)))))
end ZZ

/-! SL3: the laws' partings, between, inside -/
namespace ZZ
open PySem PySem.Spec PyProof.Rows L2 Ob
theorem sAdd_tt {a b : List PyData} (h : a.length + b.length ≤ 1000000) : sAdd (.tuple a) (.tuple b) = .ok (.tuple (a ++ b)) := by
  show (if a.length + b.length ≤ lim then Res.ok (PyData.tuple (a ++ b)) else Res.err) = _
  rw [if_pos (show a.length + b.length ≤ lim from h)]
theorem sSl_to {a : List PyData} {k : Nat} (h : k ≤ a.length) : sSl (.tuple a) none (some (k : Int)) = .ok (.tuple (a.take k)) := by
  show Res.ok (PyData.tuple (ZZ.cut a none (some (k : Int)))) = _
  unfold ZZ.cut
  rw [HT.sIx_none, HT.sIx_nat, Nat.min_eq_left h]
  simp
theorem sSl_from {a : List PyData} {k : Nat} (h : k ≤ a.length) : sSl (.tuple a) (some (k : Int)) none = .ok (.tuple (a.drop k)) := by
  show Res.ok (PyData.tuple (ZZ.cut a (some (k : Int)) none)) = _
  unfold ZZ.cut
  rw [HT.sIx_none, HT.sIx_nat, Nat.min_eq_left h, List.take_of_length_le (by simp)]
abbrev partD (P : List (List Nat)) : PyData := .tuple (P.map lotD)
def addAt (Q : List (List Nat)) (k a : Nat) : List (List Nat) := Q.take a ++ ([Q.getD a [] ++ [k]] ++ Q.drop (a + 1))
def grow (k : Nat) (Q : List (List Nat)) : List (List (List Nat)) := (Q ++ [[k]]) :: (List.range Q.length).map (addAt Q k)
def nexts (X : List (List (List Nat))) (k : Nat) : List (List (List Nat)) := X.flatMap (grow k)
def allP (n : Nat) : List (List (List Nat)) := (List.range n).foldl nexts [[]]
theorem allP_succ (n : Nat) : allP (n + 1) = nexts (allP n) n := by
  unfold allP
  rw [List.range_succ, List.foldl_append]
  rfl
section
variable {n k : Nat} {Q : List (List Nat)}
theorem flat_at {a : Nat} (h : a < Q.length) : (addAt Q k a).flatten.Perm (Q.flatten ++ [k]) := by
  unfold addAt
  have e : Q.flatten = (Q.take a).flatten ++ (Q.getD a [] ++ (Q.drop (a + 1)).flatten) := by
    conv => lhs; rw [← List.take_append_drop a Q, List.drop_eq_getElem_cons h]
    rw [List.flatten_append, List.flatten_cons, List.getD_eq_getElem?_getD, List.getElem?_eq_getElem h]
    rfl
  rw [e, List.flatten_append, List.flatten_append, List.append_assoc, List.append_assoc]
  refine List.Perm.append_left _ ?_
  simp only [List.flatten_cons, List.flatten_nil, List.append_nil, List.append_assoc]
  refine List.Perm.append_left _ ?_
  exact List.perm_append_comm
theorem OkP.new (o : OkP n Q) : OkP (n + 1) (Q ++ [[n]]) where
  lot := fun l hl => by
    rcases List.mem_append.mp hl with h | h
    · obtain ⟨h1, h2, h3⟩ := o.lot l h
      exact ⟨h1, h2, fun i hi => Nat.lt_succ_of_lt (h3 i hi)⟩
    · rw [List.mem_singleton.mp h]
      exact ⟨by simp, by simp, fun i hi => by rw [List.mem_singleton.mp hi]; omega⟩
  hd := by
    refine List.pairwise_append.mpr ⟨o.hd, by simp, fun a ha b hb => ?_⟩
    rw [List.mem_singleton.mp hb]
    obtain ⟨h1, _, h3⟩ := o.lot a ha
    cases a with
    | nil => exact absurd rfl h1
    | cons x a => exact h3 x List.mem_cons_self
  pm := by
    rw [List.flatten_append, List.range_succ]
    exact o.pm.append (.refl _)
theorem OkP.add (o : OkP n Q) {a : Nat} (h : a < Q.length) : OkP (n + 1) (addAt Q n a) where
  lot := fun l hl => by
    unfold addAt at hl
    rcases List.mem_append.mp hl with z | z
    · obtain ⟨h1, h2, h3⟩ := o.lot l (List.mem_of_mem_take z)
      exact ⟨h1, h2, fun i hi => Nat.lt_succ_of_lt (h3 i hi)⟩
    · rcases List.mem_append.mp z with z | z
      · rw [List.mem_singleton.mp z]
        obtain ⟨h1, h2, h3⟩ := o.lot _ (getD_memA (z := []) h)
        refine ⟨by simp, List.pairwise_append.mpr ⟨h2, by simp, fun x hx y hy => ?_⟩, fun i hi => ?_⟩
        · rw [List.mem_singleton.mp hy]; exact h3 x hx
        · rcases List.mem_append.mp hi with z | z
          · exact Nat.lt_succ_of_lt (h3 i z)
          · rw [List.mem_singleton.mp z]; omega
      · obtain ⟨h1, h2, h3⟩ := o.lot l (List.mem_of_mem_drop z)
        exact ⟨h1, h2, fun i hi => Nat.lt_succ_of_lt (h3 i hi)⟩
  hd := by
    have e : (addAt Q n a).map (fun l => l.headD 0) = Q.map fun l => l.headD 0 := by
      unfold addAt
      have : (Q.getD a [] ++ [n]).headD 0 = (Q.getD a []).headD 0 := by
        have h1 := (o.lot _ (getD_memA (z := []) h)).1
        cases q : Q.getD a [] with
        | nil => exact absurd q h1
        | cons x l => rfl
      rw [List.map_append, List.map_append, List.map_cons, List.map_nil, this]
      conv => rhs; rw [← List.take_append_drop a Q, List.drop_eq_getElem_cons h, List.map_append, List.map_cons]
      rw [List.getD_eq_getElem?_getD, List.getElem?_eq_getElem h]
      rfl
    have := o.hd
    rw [← List.pairwise_map (f := fun l : List Nat => l.headD 0) (R := (· < ·))] at this ⊢
    rw [e]
    exact this
  pm := by
    rw [List.range_succ]
    exact (flat_at h).trans (o.pm.append (.refl _))
theorem allP_ok : ∀ n, ∀ Q ∈ allP n, OkP n Q
  | 0, Q, h => by
    have h : Q ∈ [[]] := h
    rw [List.mem_singleton.mp h]
    exact ⟨fun _ z => (nomatch z), .nil, .refl _⟩
  | n + 1, Q, h => by
    rw [allP_succ] at h
    obtain ⟨Q', h1, h2⟩ := List.mem_flatMap.mp h
    have o := allP_ok n Q' h1
    rcases List.mem_cons.mp h2 with e | e
    · rw [e]; exact o.new
    · obtain ⟨a, ha, rfl⟩ := List.mem_map.mp e
      exact o.add (List.mem_range.mp ha)
theorem grow_len : (grow k Q).length = Q.length + 1 := by simp [grow]
theorem nexts_len {X : List (List (List Nat))} {b : Nat} (h : ∀ Q ∈ X, Q.length ≤ b) : (nexts X k).length ≤ X.length * (b + 1) := by
  induction X with
  | nil => simp [nexts]
  | cons Q X ih =>
    have h1 := ih fun Q hQ => h Q (List.mem_cons_of_mem _ hQ)
    have h2 := h Q List.mem_cons_self
    show ((Q :: X).flatMap (grow k)).length ≤ _
    rw [List.flatMap_cons, List.length_append, grow_len, List.length_cons, Nat.succ_mul]
    have h1 : (X.flatMap (grow k)).length ≤ X.length * (b + 1) := h1
    omega
theorem allP_len : ∀ n, n ≤ 6 → (allP n).length ≤ 7 ^ n
  | 0, _ => by simp [allP]
  | n + 1, h => by
    have h1 := allP_len n (by omega)
    rw [allP_succ]
    have h2 := nexts_len (X := allP n) (k := n) (b := 6) fun Q hQ => by
      have := (allP_ok n Q hQ).len
      omega
    rw [Nat.pow_succ]
    have := Nat.mul_le_mul_right 7 h1
    omega
theorem allP_ne : ∀ n, allP n ≠ []
  | 0 => by simp [allP]
  | n + 1 => by
    rw [allP_succ]
    intro h
    have h1 := allP_ne n
    cases q : allP n with
    | nil => exact h1 q
    | cons Q X =>
      rw [q] at h
      unfold nexts at h
      rw [List.flatMap_cons] at h
      cases h
/-! ### the walk of _law_partings -/
theorem lp_b3 {L : List (List (List Nat))} {a : Nat} (ha : a < Q.length) (hq : Q.length ≤ 1000) (hb : (Q.getD a []).length ≤ 1000) (hL : L.length < 1000000) : py__law_partings_b3 (.int (k : Int)) (partD Q) (.list (L.map partD)) (.int (a : Int)) = .ok (.nx (.list ((L ++ [addAt Q k a]).map partD))) := by
  unfold py__law_partings_b3
  have hl : (Q.map lotD).length = Q.length := List.length_map ..
  rw [pIt_ok, pNo_e, pSl_ok, sSl_to (by omega), pBin_ok, ixT_map (z := []) ha, pNil_e, pCons_ok, pTup1, pBin_ok, sAdd_lot (by omega), pCons_ok, pTup1, pBin_ok, sAdd_tt (by rw [List.length_take]; simp; omega), pBin_ok, sAdd_ii]
  rw [show ((a : Int) + 1) = ((a + 1 : Nat) : Int) by omega, pIt_ok, pSl_ok, sSl_from (by omega), pBin_ok, sAdd_tt (by simp; omega), pApp_ok _ _ (by simpa using hL)]
  congr 3
  rw [List.map_append]
  congr 1
  simp only [List.map_cons, List.map_nil, addAt, List.append_assoc]
  show _ = [PyData.tuple ((Q.take a ++ ([Q.getD a [] ++ [k]] ++ Q.drop (a + 1))).map lotD)]
  rw [List.map_append, List.map_append, List.map_take, List.map_drop]
  rfl
theorem lp_b2 {L : List (List (List Nat))} (hq : Q.length ≤ 1000) (hb : ∀ l ∈ Q, l.length ≤ 1000) (hL : L.length + Q.length + 1 ≤ 1000000) : py__law_partings_b2 (.int (k : Int)) (.list (L.map partD)) (partD Q) = .ok (.nx (.list ((L ++ grow k Q).map partD))) := by
  unfold py__law_partings_b2
  obtain ⟨s', e, hs⟩ := pLoop_idx (R := PyData) (f := fun s3 d => py__law_partings_b3 (.int (k : Int)) (partD Q) s3 d) (I := fun a s => s = .list (((L ++ [Q ++ [[k]]]) ++ (List.range a).map (addAt Q k)).map partD)) (c := fun a : Nat => .int (a : Int)) (m := Q.length) (s := .list ((L ++ [Q ++ [[k]]]).map partD)) (by simp) fun a s ha hs => by
    subst hs
    refine ⟨_, lp_b3 ha hq (hb _ (getD_memA ha)) (by simp; omega), ?_⟩
    simp only [List.range_succ, List.map_append, List.append_assoc, List.map_cons, List.map_nil]
  subst hs
  rw [pNil_e, pCons_ok, pTup1, pCons_ok, pTup1, pBin_ok, sAdd_tt (by simp; omega), pApp_ok _ _ (by simp; omega)]
  rw [pUn_ok, sLen_t, List.length_map, qR1_ok _ (by omega)]
  have e0 : (L.map partD ++ [PyData.tuple (Q.map lotD ++ [.tuple [.int (k : Int)]])]) = (L ++ [Q ++ [[k]]]).map partD := by
    rw [List.map_append, List.map_cons, List.map_nil]
    congr 2
    show _ = PyData.tuple ((Q ++ [[k]]).map lotD)
    rw [List.map_append]
    rfl
  rw [e0, pFor_ok e]
  congr 4
  rw [List.append_assoc]
  rfl
theorem lp_row : ∀ (X L : List (List (List Nat))), (∀ Q ∈ X, Q.length ≤ 1000 ∧ ∀ l ∈ Q, l.length ≤ 1000) → L.length + (nexts X k).length ≤ 1000000 → pLoop (fun s2 d => py__law_partings_b2 (.int (k : Int)) s2 d) (X.map partD) (.list (L.map partD)) = .ok (.nx (.list ((L ++ nexts X k).map partD)))
  | [], L, _, _ => by simp [pLoop, nexts]
  | Q :: X, L, h, hl => by
    obtain ⟨h1, h2⟩ := h Q List.mem_cons_self
    have e : nexts (Q :: X) k = grow k Q ++ nexts X k := by unfold nexts; rw [List.flatMap_cons]
    rw [e, List.length_append, grow_len] at hl
    rw [List.map_cons]
    refine (pLoop_nx (lp_b2 h1 h2 (by omega))).trans ?_
    rw [lp_row X (L ++ grow k Q) (fun Q hQ => h Q (List.mem_cons_of_mem _ hQ)) (by rw [List.length_append, grow_len]; omega), e, List.append_assoc]
theorem lp_all : ∀ n, n ≤ 6 → pLoop (fun s1 d => py__law_partings_b1 s1 d) (nL (List.range n)) (.list ([[]].map partD)) = .ok (.nx (.list ((allP n).map partD))) := fun n hn => by
  obtain ⟨s', e, hs⟩ := pLoop_idx (R := PyData) (f := fun s1 d => py__law_partings_b1 s1 d) (I := fun a s => s = .list ((allP a).map partD)) (c := fun a : Nat => .int (a : Int)) (m := n) (s := .list ([[]].map partD)) rfl fun a s ha hs => by
    subst hs
    refine ⟨_, ?_, rfl⟩
    unfold py__law_partings_b1
    have hl := allP_len (a + 1) (by omega)
    have : 7 ^ (a + 1) ≤ 7 ^ 6 := Nat.pow_le_pow_right (by decide) (by omega)
    have e := lp_row (k := a) (allP a) [] (fun Q hQ => by
      have o := allP_ok a Q hQ
      refine ⟨by have := o.len; omega, fun l hl => ?_⟩
      have r := o.lot l hl
      have := rise_len r.2.1 r.2.2
      omega) (by rw [← allP_succ]; simp; omega)
    rw [pNil_e, pLst0, ok_bind, qLst_ok]
    have e : pLoop (fun s2 d => py__law_partings_b2 (.int (a : Int)) s2 d) ((allP a).map partD) (.list []) = _ := e
    rw [pFor_ok e, List.nil_append, ← allP_succ]
    rfl
  subst hs
  exact e
end
theorem canLay_part (Q : List (List Nat)) : (partD Q).canLay0 = true ∧ (partD Q).depth ≤ 60 := by
  have h : Sh 2 (partD Q) := sh_tup fun d hd => by
    obtain ⟨l, _, rfl⟩ := List.mem_map.mp hd
    exact Sh_lot l
  exact ⟨h.1, Nat.le_trans h.2 (by decide)⟩
theorem cmpbL_lots : ∀ P Q : List (List Nat), cmpbL (P.map lotD) (Q.map lotD) = true
  | [], _ => rfl
  | _ :: _, [] => rfl
  | p :: P, q :: Q => by
    show (cmpbL (nL p) (nL q) && cmpbL (P.map lotD) (Q.map lotD)) = true
    rw [cmpbL_nL, cmpbL_lots P Q]
    rfl
theorem okS_parts (X : List (List (List Nat))) : okS (X.map partD) = true := by
  unfold okS
  rw [List.all_eq_true]
  intro d hd
  obtain ⟨l, _, rfl⟩ := List.mem_map.mp hd
  obtain ⟨h1, h2⟩ := canLay_part l
  simp only [Bool.and_eq_true, decide_eq_true_eq, List.all_eq_true]
  refine ⟨⟨h1, h2⟩, fun e he => ?_⟩
  obtain ⟨l', _, rfl⟩ := List.mem_map.mp he
  exact cmpbL_lots l l'
/-- the law's partings: some list of partings, not empty -/
theorem v_partings {n : Nat} (hn : n ≤ 6) : ∃ Y : List (List (List Nat)), py__law_partings (.list (nL (List.range n))) = .ok (.list (Y.map partD)) ∧ Y ≠ [] ∧ (∀ Q ∈ Y, OkP n Q) ∧ ∀ Q ∈ allP n, Q ∈ Y := by
  have pm := psort_perm ((allP n).map partD)
  have hex : ∀ L : List PyData, (∀ d ∈ L, ∃ Q ∈ allP n, d = partD Q) → ∃ Y : List (List (List Nat)), L = Y.map partD ∧ ∀ Q ∈ Y, Q ∈ allP n := by
    intro L
    induction L with
    | nil => exact fun _ => ⟨[], rfl, fun _ z => nomatch z⟩
    | cons d L ih =>
      intro h
      obtain ⟨Q, hQ, rfl⟩ := h d List.mem_cons_self
      obtain ⟨Y, e, hY⟩ := ih fun d hd => h d (List.mem_cons_of_mem _ hd)
      refine ⟨Q :: Y, by rw [e]; rfl, fun R hR => ?_⟩
      rcases List.mem_cons.mp hR with z | z
      · rw [z]; exact hQ
      · exact hY R z
  obtain ⟨Y, e, hY⟩ := hex (psort ((allP n).map partD)) fun d hd => by
    obtain ⟨Q, hQ, rfl⟩ := List.mem_map.mp (pm.mem_iff.mp hd)
    exact ⟨Q, hQ, rfl⟩
  refine ⟨Y, ?_, ?_, fun Q hQ => allP_ok n Q (hY Q hQ), fun Q hQ => ?_⟩
  · unfold py__law_partings
    rw [pNil_e, pTup0, pCons_ok, pLst1, ok_bind, qLst_ok]
    have e1 : pLoop (fun s1 d => py__law_partings_b1 s1 d) (nL (List.range n)) (.list [.tuple []]) = _ := lp_all n hn
    rw [pFor_ok e1, pUn_ok, ← e]
    show (if okS ((allP n).map partD) = true then Res.ok (PyData.list (psort ((allP n).map partD))) else Res.err) = _
    rw [if_pos (okS_parts _)]
  · intro z
    subst z
    rw [e] at pm
    have := pm.length_eq
    simp at this
    exact allP_ne n (List.eq_nil_of_length_eq_zero this.symm)
  · have := pm.mem_iff.mpr (List.mem_map.mpr ⟨Q, hQ, rfl⟩)
    rw [e] at this
    obtain ⟨R, hR, z⟩ := List.mem_map.mp this
    injection z with z
    rw [← map_lotD_inj z]
    exact hR
end ZZ

/-! SL4: the law's between, inside; near things -/
namespace ZZ
open PySem PySem.Spec PyProof.Rows L2 Ob
section
variable {n : Nat} {ts : List (Nat × Nat)} {l : List Nat} {P : List (List Nat)} {v : PyData}
theorem put_lot (a : Nat) : ∀ (l : List Nat) (kvs : List (PyData × PyData)), IK kvs → kvs.length + l.length ≤ 1000 →
    ∃ kvs', pLoop (fun s2 d => py__law_between_b2 (.int (a : Int)) s2 d) (nL l) (.dict kvs) = .ok (.nx (.dict kvs')) ∧ IK kvs' ∧ kvs'.length ≤ kvs.length + l.length ∧ ∀ i : Nat, dget kvs' (.int i) = if i ∈ l then some (.int (a : Int)) else dget kvs (.int i)
  | [], kvs, h, _ => ⟨kvs, rfl, h, by simp, fun i => by simp⟩
  | k :: l, kvs, h, hl => by
    rw [List.length_cons] at hl
    have hp := dput_len (kvs := kvs) (v := .int (a : Int)) (.int (k : Int))
    obtain ⟨kvs', e, h1, h2, h3⟩ := put_lot a l (dput kvs (.int (k : Int)) (.int (a : Int))) (h.put k) (by omega)
    have e1 : py__law_between_b2 (.int (a : Int)) (.dict kvs) (.int (k : Int)) = .ok (.nx (.dict (dput kvs (.int (k : Int)) (.int (a : Int))))) := by
      unfold py__law_between_b2
      rw [ok_bind, ok_bind]
      have : fDPutK (.dict kvs) (.int (k : Int)) (.int (a : Int)) = .ok (.dict (dput kvs (.int (k : Int)) (.int (a : Int)))) := if_pos (show kvs.length < 1000000 by omega)
      rw [this, ok_bind]
    refine ⟨kvs', (pLoop_nx e1).trans e, h1, by rw [List.length_cons]; omega, fun i => ?_⟩
    rw [h3, dget_put h]
    by_cases z : i = k
    · subst z
      rw [if_pos rfl, if_pos List.mem_cons_self]
      split <;> rfl
    · rw [if_neg (show ¬ (i : Int) = k by omega)]
      by_cases q : i ∈ l
      · rw [if_pos q, if_pos (List.mem_cons_of_mem _ q)]
      · rw [if_neg q, if_neg (by simp [z, q])]
theorem v_law_between_b1 (o : OkP n P) (hn : n ≤ 12) {a : Nat} (ha : a < P.length) {kvs : List (PyData × PyData)} (h : Owns n P a kvs) : ∃ kvs', py__law_between_b1 (partD P) (.dict kvs) (.int (a : Int)) = .ok (.nx (.dict kvs')) ∧ Owns n P (a + 1) kvs' := by
  have l1 := small o hn (Nat.le_of_lt ha) h
  have l2 := lot_small o hn ha
  obtain ⟨kvs', e, h1, h2, h3⟩ := put_lot a (P.getD a []) kvs h.ik (by omega)
  refine ⟨kvs', ?_, h.step o ha h1 h2 h3⟩
  unfold py__law_between_b1
  rw [pBin_ok, ixT_map (z := []) ha, qTpl_ok, pFor_ok e]
theorem tie_at {t : Nat} (ht : t < ts.length) : sIx (.tuple (ts.map tieD)) (.int (t : Int)) = .ok (tieD (ts.getD t (0, 0))) := ixT_map ht
theorem v_law_between (w : OkWeb n ts) (o : OkP n P) : py__law_between (webD n ts) (partD P) = .ok (lotD (btw P ts)) := by
  unfold py__law_between
  obtain ⟨s', e, kvs, rfl, h⟩ := pLoop_idx (R := PyData) (f := fun s1 d => py__law_between_b1 (partD P) s1 d) (I := fun a s => ∃ kvs, s = .dict kvs ∧ Owns n P a kvs) (c := fun a : Nat => .int (a : Int)) (m := P.length) (s := .dict []) ⟨_, rfl, owns0⟩ fun a s ha ⟨kvs, hs, h⟩ => by
    subst hs
    obtain ⟨kvs', e, h'⟩ := v_law_between_b1 o w.n2 ha h
    exact ⟨_, e, kvs', rfl, h'⟩
  have hP : P.length ≤ 1000000 := by have := o.len; have := w.n2; omega
  rw [ok_bind, pUn_ok, sLen_t, List.length_map, qR1_ok _ hP]
  have e : pLoop (fun s1 d => py__law_between_b1 (partD P) s1 d) (nL (List.range P.length)) (.dict []) = _ := e
  rw [pFor_ok e]
  have ht2 : ts.length ≤ 1000000 := Nat.le_trans w.t (by decide)
  rw [pBin_ok, sIx2_1, pUn_ok, sLen_t, List.length_map, qR1_ok _ ht2]
  have e1 := pLc_filter (c := fun t : Nat => PyData.int (t : Int)) (l := List.range ts.length) (p := fun _ => true) (F := fun t : Nat => PyData.int (t : Int)) (f := fun x_n => (lcT (pAndT (pTest ((pBin sIx (pBin sIx (.ok (.tuple (ts.map tieD))) (.ok x_n)) (.ok (.int 0))) >>= fDInK false (.dict kvs))) (pTest ((pBin sIx (pBin sIx (.ok (.tuple (ts.map tieD))) (.ok x_n)) (.ok (.int 1))) >>= fDInK false (.dict kvs)))) (.ok x_n))) fun t ht => by
    have ht : t < ts.length := by simpa using ht
    obtain ⟨h1, h2⟩ := tie_lt w ht
    rw [pBin_ok, tie_at ht, pBin_ok, pBin_ok, sIx2_0, sIx2_1, ok_bind, ok_bind, in_own o h h1, in_own o h h2, pTest_ok, pAndT_t, lcT_ok]
  have e1 : pLc (.ok (nL (List.range ts.length))) _ = _ := e1
  rw [e1, ok_bind, qLst_ok, List.filter_eq_self.mpr fun _ _ => rfl]
  rw [pLc_filter (p := fun t => !decide (own P (ts.getD t (0, 0)).1 = own P (ts.getD t (0, 0)).2)) (F := fun t : Nat => .int (t : Int)) fun t ht => by
    have ht : t < ts.length := by simpa using ht
    obtain ⟨h1, h2⟩ := tie_lt w ht
    rw [pBin_ok, tie_at ht, pBin_ok, pBin_ok, sIx2_0, sIx2_1, ok_bind, ok_bind, get_own o h h1, get_own o h h2, pBin_ok, sNe_n, pTest_ok, lcT_ok]]
  rw [pUn_ok, sTuple_l]
  rfl
theorem v_law_inside (w : OkWeb n ts) (l : List Nat) : py__law_inside (webD n ts) (lotD l) = .ok (lotD (ins ts l)) := by
  unfold py__law_inside
  have ht2 : ts.length ≤ 1000000 := Nat.le_trans w.t (by decide)
  rw [pBin_ok, sIx2_1, pUn_ok, sLen_t, List.length_map, qR1_ok _ ht2]
  have e1 := pLc_filter (c := fun t : Nat => PyData.int (t : Int)) (l := List.range ts.length) (p := fun t => decide ((ts.getD t (0, 0)).1 ∈ l) && decide ((ts.getD t (0, 0)).2 ∈ l)) (F := fun t : Nat => PyData.int (t : Int)) (f := fun x_n => (lcT (pAndT (pTest (pBin sIn (pBin sIx (pBin sIx (.ok (.tuple (ts.map tieD))) (.ok x_n)) (.ok (.int 0))) (.ok (lotD l)))) (pTest (pBin sIn (pBin sIx (pBin sIx (.ok (.tuple (ts.map tieD))) (.ok x_n)) (.ok (.int 1))) (.ok (lotD l))))) (.ok x_n))) fun t ht => by
    have ht : t < ts.length := by simpa using ht
    rw [pBin_ok, tie_at ht, pBin_ok, pBin_ok, sIx2_0, sIx2_1, pBin_ok, pBin_ok, sIn_lot, sIn_lot, pTest_ok, pTest_ok, pAndT_ok, lcT_ok]
  have e1 : pLc (.ok (nL (List.range ts.length))) _ = _ := e1
  rw [e1, pUn_ok, sTuple_l]
  rfl
/-! ### near things -/
theorem srt_len (l : List Nat) : (srt l).length = l.length := by
  have h := (psort_perm (nL l)).length_eq
  rw [psort_nL] at h
  simpa [nL] using h
theorem not_len (w : OkWeb n ts) (h : ∀ l ∈ P, l ≠ [] ∧ l.Pairwise (· < ·) ∧ ∀ i ∈ l, i < n) (hl : P.flatten.length ≤ 1000000) (hne : P.flatten.length ≠ n) : py_raw_is_parting (webD n ts) (.tuple (P.map lotD)) = .ok (.bool false) := by
  rw [v_lots_all w h hl]
  rw [decide_eq_false (fun e => hne (by
    have := congrArg List.length e
    rwa [srt_len, List.length_range] at this))]
  rfl
theorem not_lot {a b : List PyData} {x : PyData} (h : lotB1 n x = false) (ha : ∀ d ∈ a ++ x :: b, noD2 d) : py_raw_is_parting (webD n ts) (.tuple (a ++ x :: b)) = .ok (.bool false) := v_no_lots ha (by rw [List.all_append, List.all_cons, h]; simp)
theorem noD2_lots : ∀ d ∈ P.map lotD, noD2 d := fun d hd => by
  obtain ⟨l, _, rfl⟩ := List.mem_map.mp hd
  exact noD2_lot l
def nearL (n : Nat) (P : List (List Nat)) : List PyData := [.none, .tuple [], .list (P.map lotD), .tuple (P.map lotD ++ [.tuple []]), .tuple (P.map lotD ++ [.tuple [.int n]]), .tuple (P.map lotD ++ [.tuple [.int 0]]), .tuple ((P.map lotD).drop 1), .tuple [lotD (List.range n), lotD (List.range n)]]
  ++ [.tuple (P.map fun l => .list (nL l)), .tuple (.tuple [.int 0, .int 0] :: (P.map lotD).drop 1), .tuple [lotD ((List.range n).reverse ++ [0])], .tuple (.tuple [.bool true] :: P.map lotD)]
theorem noD2_s {a : PyData} (h : noD a) : noD2 (.tuple [a]) := fun d hd => by rw [List.mem_singleton.mp hd]; exact h
theorem noD2_app1 {x : PyData} (h : noD2 x) : ∀ d ∈ P.map lotD ++ [x], noD2 d := fun d hd => by
  rcases List.mem_append.mp hd with z | z
  · exact noD2_lots d z
  · rw [List.mem_singleton.mp z]; exact h
theorem OkP.ne (o : OkP n P) (hn : 1 ≤ n) : P ≠ [] := fun z => by
  subst z
  have := o.pm.length_eq
  simp at this
  omega
theorem OkP.fl (o : OkP n P) : P.flatten.length = n := by rw [o.pm.length_eq, List.length_range]
theorem near_no (w : OkWeb n ts) (o : OkP n P) : ∀ d ∈ nearL n P, py_raw_is_parting (webD n ts) d = .ok (.bool false) := by
  intro d hd
  have n1 := w.n1
  have n2 := w.n2
  have fl := o.fl
  unfold nearL at hd
  simp only [List.mem_append, List.mem_cons, List.not_mem_nil, or_false] at hd
  rcases hd with (h | h | h | h | h | h | h | h) | (h | h | h | h) <;> subst h
  · exact v_no_tuple trivial fun _ z => nomatch z
  · exact not_len (P := []) w (fun _ z => nomatch z) (by simp) (by simp; omega)
  · exact v_no_tuple trivial fun _ z => nomatch z
  · exact not_lot rfl (noD2_app1 (fun _ z => nomatch z))
  · refine not_lot ?_ (noD2_app1 (noD2_s trivial))
    simp [lotB1, lotB, isW]
    omega
  · have := not_len (P := P ++ [[0]]) w (fun l hl => ?_) (by simp [fl]; omega) (by simp [fl])
    · rw [List.map_append] at this
      exact this
    · rcases List.mem_append.mp hl with z | z
      · exact o.lot l z
      · rw [List.mem_singleton.mp z]
        exact ⟨by simp, by simp, fun i hi => by rw [List.mem_singleton.mp hi]; omega⟩
  · rw [← List.map_drop]
    cases P with
    | nil => exact absurd rfl (o.ne n1)
    | cons p P =>
      have hp := List.length_pos_iff.mpr (o.lot p List.mem_cons_self).1
      rw [List.flatten_cons, List.length_append] at fl
      exact not_len (P := P) w (fun l hl => o.lot l (List.mem_cons_of_mem _ hl)) (by omega) (by omega)
  · refine not_len (P := [List.range n, List.range n]) w (fun l hl => ?_) (by simp; omega) (by simp; omega)
    have : l = List.range n := by simpa using hl
    subst this
    exact ⟨by simp; omega, List.pairwise_lt_range, fun i hi => List.mem_range.mp hi⟩
  · cases P with
    | nil => exact absurd rfl (o.ne n1)
    | cons p P =>
      refine not_lot (a := []) rfl fun d hd => ?_
      have hd : d ∈ (p :: P).map fun l => PyData.list (nL l) := hd
      obtain ⟨l, _, rfl⟩ := List.mem_map.mp hd
      trivial
  · refine not_lot (a := []) ?_ fun d hd => ?_
    · simp [lotB1, lotB, risB, intsOf]
    · rcases List.mem_cons.mp hd with z | z
      · subst z
        intro e he
        have : e = .int 0 := by simpa using he
        subst this
        trivial
      · exact noD2_lots d (List.mem_of_mem_drop z)
  · refine not_lot (a := []) (b := []) ?_ fun d hd => ?_
    · cases q : lotB1 n (lotD ((List.range n).reverse ++ [0])) with
      | false => rfl
      | true =>
        obtain ⟨l, e, _, h1, _⟩ := lotB1_iff.mp q
        have e := congrArg unlot e
        rw [unlot_lot, unlot_lot] at e
        subst e
        have := (List.pairwise_append.mp h1).2.2 0 (by simp; omega) 0 (by simp)
        omega
    · have : d = lotD ((List.range n).reverse ++ [0]) := by simpa using hd
      subst this
      exact noD2_lot _
  · refine not_lot (a := []) ?_ fun d hd => ?_
    · simp [lotB1, lotB, isW]
    · rcases List.mem_cons.mp hd with z | z
      · subst z; exact noD2_s trivial
      · exact noD2_lots d z
theorem rev_no (w : OkWeb n ts) (o : OkP n P) (h : 1 < P.length) : py_raw_is_parting (webD n ts) (.tuple (P.map lotD).reverse) = .ok (.bool false) := by
  have n2 := w.n2
  rw [← List.map_reverse, v_lots_all w (fun l hl => o.lot l (List.mem_reverse.mp hl)) (by
    have := o.fl
    rw [List.length_flatten] at this ⊢
    rw [List.map_reverse, List.sum_reverse]
    omega)]
  match P, h, o with
  | a :: b :: P, _, o =>
    rw [decide_eq_false (p := (a :: b :: P).reverse = psl (a :: b :: P).reverse) fun e => psl_rev (fun l hl => (o.lot l hl).1) o.hd e.symm]
    simp
end
end ZZ

/-! the draws of a law -/
namespace ZZ
open PySem PySem.Spec PyProof.Rows L2 Ob
theorem sd__law_draws_v5_b4 (ds : List Int) (big : Int) (d : PyData) (h : ds.length < 1000000) : ∃ (ds' : List Int) (b' : Int), py__law_draws_v5_b4 (.list (iL ds)) (.int big) d = .ok (.nx (.list (iL ds'), .int b')) ∧ ds'.length ≤ ds.length + 1 := by
  unfold py__law_draws_v5_b4
  by_cases q : 0 < big
  · refine ⟨ds ++ [big % 1009], big / 1009, ?_, by simp⟩
    simp only [pBin_ok, sGt_i, pTest_ok, q, decide_true, pIf_t, pUn_ok, sInt_i', sMod_i (show (0 : Int) < 1009 by omega), pApp_ok (iL ds) _ (show (iL ds).length < 1000000 by simpa using h), sFDiv_i (show (0 : Int) < 1009 ∧ (1009 : Int) < 1073741824 by omega), ok_bind]
    simp [iL]
  · exact ⟨ds, big, by simp only [pBin_ok, sGt_i, pTest_ok, q, decide_false, pIf_f], by omega⟩
theorem sd__law_draws_v5_b3 (ns ds : List Int) (seed : Int) (k : Nat) (h : ds.length < 1000000) : ∃ (z s : Int), py__law_draws_v5_b3 (.list (iL ns)) (.list (iL ds)) (.int seed) (.int (k : Int)) = .ok (.nx (.list (iL (ds ++ [z])), .int s)) := by
  have c1 : -(2 ^ 64 : Int) < 48271 ∧ (48271 : Int) < 2 ^ 64 := by omega
  have c2 : -(2 ^ 64 : Int) < 69621 ∧ (69621 : Int) < 2 ^ 64 := by omega
  have c3 : -(2 ^ 64 : Int) < 16807 ∧ (16807 : Int) < 2 ^ 64 := by omega
  have m1 : (0 : Int) < 2147483647 := by omega
  have m2 : (0 : Int) < 1009 := by omega
  have m3 : (0 : Int) < 7 ∧ (7 : Int) < 1073741824 := by omega
  have hl : (iL ds).length < 1000000 := by simpa using h
  have fin : ∀ cell : Int, ∃ z s : Int, ((pBin sMod (pUn sInt (pBin sAdd (pBin sAdd (pBin sAdd (pBin sMul (.ok (.int seed)) (.ok (.int 48271))) (.ok (.int cell))) (pBin sMul (.ok (.int (k : Int))) (.ok (.int 69621)))) (.ok (.int 13)))) (.ok (.int 2147483647))) >>= fun x_seed => (pApp (.list (iL ds)) (pBin sMod (pBin sFDiv (pBin sMod (pUn sInt (pBin sAdd (pBin sMul (.ok x_seed) (.ok (.int 16807))) (.ok (.int 54321)))) (.ok (.int 2147483647))) (.ok (.int 7))) (.ok (.int 1009))) fun x_row => (Res.ok (Lp.nx (R := PyData) (x_row, x_seed))))) = .ok (.nx (.list (iL (ds ++ [z])), .int s)) := fun cell => by
    simp only [pBin_ok, pUn_ok, sMul_i c1, sMul_i c2, sMul_i c3, sAdd_ii, sInt_i', sMod_i m1, sMod_i m2, sFDiv_i m3, ok_bind, pApp_ok (iL ds) _ hl]
    exact ⟨_, _, by rw [show ∀ z : Int, iL (ds ++ [z]) = iL ds ++ [.int z] from fun z => by simp [iL]]⟩
  unfold py__law_draws_v5_b3
  cases ns with
  | nil =>
    obtain ⟨z, s, e⟩ := fin k
    exact ⟨z, s, by simpa [iL] using e⟩
  | cons n0 nr0 =>
    have m4 : (0 : Int) < ((n0 :: nr0).length : Nat) := by simp
    obtain ⟨z, ez⟩ := ix_iL (ns := n0 :: nr0) (i := ((k : Int) + 1) % ((n0 :: nr0).length : Nat)) (Int.emod_nonneg _ (by omega)) (Int.emod_lt_of_pos _ m4)
    have t : oTru (.list (iL (n0 :: nr0))) = .ok true := nr rfl
    have sl := sLen_iL (n0 :: nr0)
    have sm := sMod_i (a := (k : Int) + 1) m4
    generalize (n0 :: nr0) = N at *
    obtain ⟨z', s, e⟩ := fin (z % 2147483647)
    refine ⟨z', s, ?_⟩
    simp only [ok_bind, pTru_ok, t, pIf_t, pBin_ok, sAdd_ii, pUn_ok, sl, sm, ez, sInt_i', sMod_i m1]
    simp only [pBin_ok, pUn_ok, sAdd_ii] at e
    exact e
theorem sd__law_draws_v5_l3 (ns : List Int) : ∀ (ks : List Nat) (ds : List Int) (seed : Int), ds.length + ks.length ≤ 1000000 → ∃ (ds' : List Int) (s' : Int), pLoop (fun (s3 : PyData × PyData) d => py__law_draws_v5_b3 (.list (iL ns)) s3.1 s3.2 d) (nL ks) (.list (iL ds), .int seed) = .ok (.nx (.list (iL ds'), .int s'))
  | [], ds, seed, _ => ⟨ds, seed, rfl⟩
  | k :: ks, ds, seed, h => by
    have h : ds.length + (ks.length + 1) ≤ 1000000 := h
    obtain ⟨z, s, e⟩ := sd__law_draws_v5_b3 ns ds seed k (by omega)
    obtain ⟨ds', s', e2⟩ := sd__law_draws_v5_l3 ns ks (ds ++ [z]) s (by simp; omega)
    refine ⟨ds', s', ?_⟩
    show (py__law_draws_v5_b3 (.list (iL ns)) (.list (iL ds)) (.int seed) (.int (k : Int)) >>= fun l => _) = _
    rw [e, ok_bind]
    exact e2
theorem sd__law_draws_v5_l4 : ∀ (ks : List PyData) (ds : List Int) (big : Int), ds.length + ks.length ≤ 1000000 → ∃ (ds' : List Int) (b' : Int), pLoop (fun (s4 : PyData × PyData) d => py__law_draws_v5_b4 s4.1 s4.2 d) ks (.list (iL ds), .int big) = .ok (.nx (.list (iL ds'), .int b')) ∧ ds'.length ≤ ds.length + ks.length
  | [], ds, big, _ => ⟨ds, big, rfl, by simp⟩
  | k :: ks, ds, big, h => by
    have h : ds.length + (ks.length + 1) ≤ 1000000 := h
    obtain ⟨d1, b1, e, q⟩ := sd__law_draws_v5_b4 ds big k (by omega)
    obtain ⟨d2, b2, e2, q2⟩ := sd__law_draws_v5_l4 ks d1 b1 (by omega)
    refine ⟨d2, b2, ?_, by simp; omega⟩
    show (py__law_draws_v5_b4 (.list (iL ds)) (.int big) k >>= fun l => _) = _
    rw [e, ok_bind]
    exact e2
theorem sd__law_draws_v5_j2 (ns ds : List Int) (M : Nat) (big : Int) (h : ds.length ≤ M) (hM : M ≤ 100000) : ∃ ds' : List Int, py__law_draws_v5_j2 (.list (iL ns)) (.int (M : Int)) (.list (iL ds)) (.int big) = .ok (.list (iL ds')) := by
  unfold py__law_draws_v5_j2
  have sl := sLen_iL ds
  have e1 : (M : Int) - (ds.length : Nat) = ((M - ds.length : Nat) : Int) := by omega
  simp only [ok_bind, pPk_l, pUn_ok, sl, pBin_ok, sSub_i, e1, qR1_ok (M - ds.length) (show M - ds.length ≤ 1000000 by omega)]
  obtain ⟨ds', s', e⟩ := sd__law_draws_v5_l3 ns (List.range (M - ds.length)) ds _ (by simp; omega)
  rw [pFor_ok e]
  exact ⟨ds', rfl⟩
theorem sd__law_draws_v5_f (ns : List Int) (M : Nat) (big : Int) (hM : M ≤ 100000) : ∃ ds' : List Int, (pFor (.ok (nL (List.range M))) (.list (iL []), .int big) (fun s4 d => py__law_draws_v5_b4 s4.1 s4.2 d) (fun s4 => (py__law_draws_v5_j2 (.list (iL ns)) (.int (M : Int)) s4.1 s4.2)) (fun r => r)) = .ok (.list (iL ds')) := by
  obtain ⟨d1, b1, e, q1⟩ := sd__law_draws_v5_l4 (nL (List.range M)) [] big (by simp; omega)
  obtain ⟨ds', h⟩ := sd__law_draws_v5_j2 ns d1 M b1 (by simpa using q1) hM
  refine ⟨ds', ?_⟩
  rw [pFor_ok e]
  exact h
theorem sd__law_draws_v5_j1 (ns : List Int) (M : Nat) (big : Int) (hM : M ≤ 100000) : ∃ ds' : List Int, py__law_draws_v5_j1 (.list (iL ns)) (.int (M : Int)) (.list (iL [])) (.int big) = .ok (.list (iL ds')) := by
  unfold py__law_draws_v5_j1
  rw [pBin_ok, sGe_i, pTest_ok]
  have hM' : M ≤ 1000000 := by omega
  have f := sd__law_draws_v5_f ns M big hM
  have g := sd__law_draws_v5_j2 ns [] M big (by simp) hM
  rw [qR1_ok M hM']
  generalize decide ((1000000000000000000 : Int) ≤ big) = q
  cases q with
  | true => rw [pIf_t]; exact f
  | false => rw [pIf_f]; exact g
theorem sd__law_draws_v5 (ns : List Int) (M : Nat) (hM : M ≤ 100000) : ∃ ds : List Int, py__law_draws_v5 (.list (iL ns)) (.int (M : Int)) = .ok (.list (iL ds)) := by
  unfold py__law_draws_v5
  have big : ∃ b : Int, pIf (pTru (.ok (.list (iL ns)))) (pBin sIx (.ok (.list (iL ns))) (.ok (.int 0))) (.ok (.int 0)) = .ok (.int b) := by
    cases ns with
    | nil => exact ⟨0, rfl⟩
    | cons n0 r =>
      have t : oTru (.list (iL (n0 :: r))) = .ok true := nr rfl
      obtain ⟨z, ez⟩ := ix_iL (ns := n0 :: r) (i := 0) (by omega) (by simp)
      exact ⟨z, by simp only [pTru_ok, t, pIf_t, pBin_ok, ez]⟩
  obtain ⟨b, e⟩ := big
  rw [pNil_e, pLst0, ok_bind, e, ok_bind]
  simp only [pBin_ok, sLt_i, pTest_ok]
  by_cases q : b < 0
  · rw [decide_eq_true q, pIf_t, pUn_ok, sNeg_i, ok_bind]
    exact sd__law_draws_v5_j1 ns M (-b) hM
  · rw [decide_eq_false q, pIf_f]
    exact sd__law_draws_v5_j1 ns M b hM
end ZZ

/-! K07_M: the law of ties inside and between -/
namespace ZZ
open PySem PySem.Spec PyProof.Rows L2 Ob
section
variable {n : Nat} {ts : List (Nat × Nat)} {l : List Nat} {P : List (List Nat)}
theorem pick_own {L : List PyData} (h : 0 < L.length) (ds : List Int) : ∃ v d', (pBind2 ((eUn (fIxOwn (.list L)) (eCall (fun d => l1 (py__law_take d)) (eCons (eP (pUn sLen (pPk (.list L)))) eNil))) (DD ds)) fun v x_draws => (.ok (v, x_draws) : Res (PyData × PyData))) = .ok (v, DD d') ∧ v ∈ L := by
  obtain ⟨v, d1, e1, q1⟩ := v_takeC ds (m := (L.length : Int)) (by omega)
  have hv : v < L.length := by omega
  have hx : sIx (.list L) (.int (v : Int)) = .ok (L.getD v .none) := by
    have := ixT_map (c := id) (l := L) (z := .none) hv
    rw [List.map_id] at this
    exact this
  refine ⟨L.getD v .none, d1, ?_, getD_memA hv⟩
  rw [pPk_l, pUn_ok, sLen_l, eUn_e, e1, ok_bind]
  show ((sIx (.list L) (.int (v : Int)) >>= fun g => Res.ok (g, DD d1)) |> fun x => pBind2 x _) = _
  rw [hx]
  rfl
theorem rep2 (x : PyData) : sRepT (.tuple [x]) (.int 2) = .ok (.tuple [x, x]) := by
  show (if [x] ≠ [] ∧ (2 : Int) ≤ 2 ∧ (2 : Int) ≤ 1000 ∧ [x].length ≤ 1000 then Res.ok (PyData.tuple (List.replicate (2 : Int).toNat [x]).flatten) else Res.err) = _
  rw [if_pos ⟨by simp, by decide, by decide, by simp⟩]
  rfl
theorem v_near (w : OkWeb n ts) (o : OkP n P) (ds : List Int) : ∃ bad d', py__law_near (DD ds) (webD n ts) (partD P) = .ok (bad, DD d') ∧ py_raw_is_parting (webD n ts) bad = .ok (.bool false) := by
  have hP : P.length ≤ 12 := by have := o.len; have := w.n2; omega
  have hA : ∀ x : PyData, sAdd (partD P) (.tuple [x]) = .ok (.tuple (P.map lotD ++ [x])) := fun x => sAdd_tt (by simp; omega)
  have hS : sSl (partD P) (some 1) none = .ok (.tuple ((P.map lotD).drop 1)) := by
    show Res.ok (PyData.tuple (ZZ.cut (P.map lotD) (some 1) none)) = _
    rw [cut1]
  have hB : ∀ x : PyData, sAdd (.tuple [x]) (.tuple ((P.map lotD).drop 1)) = .ok (.tuple (x :: (P.map lotD).drop 1)) := fun x => sAdd_tt (by simp; omega)
  have hC : ∀ x : PyData, sAdd (.tuple [x]) (partD P) = .ok (.tuple (x :: P.map lotD)) := fun x => sAdd_tt (by simp; omega)
  have hR : sRevT (.tuple (nL (List.range n))) = .ok (lotD (List.range n).reverse) := by
    show Res.ok (PyData.tuple (nL (List.range n)).reverse) = _
    rw [show (nL (List.range n)).reverse = nL (List.range n).reverse by unfold nL; rw [List.map_reverse]]
  have hD : sAdd (lotD (List.range n).reverse) (.tuple [.int 0]) = .ok (lotD ((List.range n).reverse ++ [0])) := sAdd_lot (by have := w.n2; simp; omega)
  have hL : pLc (.ok (P.map lotD)) (fun x_lot => (lcY (sList x_lot))) = .ok (.list (P.map fun l => .list (nL l))) := pLc_map (c := lotD) (F := fun l => .list (nL l)) fun l _ => by rw [sList_t, lcY_ok]
  have key : ∀ L : List PyData, 0 < L.length → (∀ d ∈ L, py_raw_is_parting (webD n ts) d = .ok (.bool false)) → ∃ bad d', (pBind2 ((eUn (fIxOwn (.list L)) (eCall (fun d => l1 (py__law_take d)) (eCons (eP (pUn sLen (pPk (.list L)))) eNil))) (DD ds)) fun v x_draws => (.ok (v, x_draws) : Res (PyData × PyData))) = .ok (bad, DD d') ∧ py_raw_is_parting (webD n ts) bad = .ok (.bool false) := fun L h1 h2 => by
    obtain ⟨v, d', e, hv⟩ := pick_own h1 ds
    exact ⟨v, d', e, h2 v hv⟩
  have hadd : ∀ a b : List PyData, a.length + b.length ≤ 100 → fAddOwn (.list a) (.list b) = .ok (.list (a ++ b)) := fun a b h => if_pos (show a.length + b.length ≤ 1000000 by omega)
  unfold py__law_near
  rw [pBin_ok, sIx2_0, ok_bind]
  simp only [pNil_e, pCons_ok, pTup0, pTup1, pTup2, pUn_ok, pBin_ok, sList_t, hA, pIt_ok, pNo_e, pSl_ok, hS, qR1_ok n (ok_lim w), pRgT_ok, rep2, qTpl_ok, hL, sTuple_l, hB, hC, hR, hD]
  rw [pLst_ok _ (by simp), ok_bind, pLst_ok _ (by simp), ok_bind, hadd _ _ (by simp), ok_bind]
  rw [sLen_t, List.length_map, pBin_ok, sGt_i, pTest_ok]
  have hn : ∀ d ∈ nearL n P, py_raw_is_parting (webD n ts) d = .ok (.bool false) := near_no w o
  by_cases q : 1 < P.length
  · rw [decide_eq_true (show (1 : Int) < (P.length : Nat) by omega), pIf_t]
    have hr : sRevT (partD P) = .ok (.tuple (P.map lotD).reverse) := rfl
    rw [hr, pApp_ok _ _ (by simp)]
    refine key _ (by simp) fun d hd => ?_
    rcases List.mem_append.mp hd with z | z
    · exact hn d z
    · rw [List.mem_singleton.mp z]; exact rev_no w o q
  · rw [decide_eq_false (show ¬ (1 : Int) < (P.length : Nat) by omega), pIf_f]
    exact key _ (by simp) fun d hd => hn d hd
theorem lam_NoParting : pLam cl_k07 "none" hd_k07_law_name (.exc "NoParting" []) = .ok (.str "NoParting") := by rfl
theorem lam_NoPlaces : pLam cl_k07 "none" hd_k07_law_name (.exc "NoPlaces" []) = .ok (.str "NoPlaces") := by rfl
theorem Sh_str {s : Str} (h : PyData.strOk s = true) : Sh 0 (.str s) := ⟨by simp [PyData.canLay0, h], by simp [PyData.depth]⟩
theorem ins_len (l : List Nat) : (ins ts l).length ≤ ts.length := by
  have := List.length_filter_le (fun t => decide ((ts.getD t (0, 0)).1 ∈ l) && decide ((ts.getD t (0, 0)).2 ∈ l)) (List.range ts.length)
  simpa [ins] using this
theorem btw_len : (btw P ts).length ≤ ts.length := by
  have := List.length_filter_le (fun t => !decide (own P (ts.getD t (0, 0)).1 = own P (ts.getD t (0, 0)).2)) (List.range ts.length)
  simpa [btw] using this
theorem whole_loop (w : OkWeb n ts) : ∀ (P : List (List Nat)) (l : List Nat), (∀ p ∈ P, p.Pairwise (· < ·) ∧ ∀ i ∈ p, i < n) → l.length + P.length * 40 ≤ 100000 → pLoop (fun s2 d => py_law_v6_b2 (webD n ts) s2 d) (P.map lotD) (.list (nL l)) = .ok (.nx (.list (nL (l ++ (P.map (ins ts)).flatten))))
  | [], l, _, _ => by simp [pLoop]
  | p :: P, l, h, hl => by
    rw [List.length_cons] at hl
    obtain ⟨h1, h2⟩ := h p List.mem_cons_self
    have hi := ins_len (ts := ts) p
    have := w.t
    have e : py_law_v6_b2 (webD n ts) (.list (nL l)) (lotD p) = .ok (.nx (.list (nL (l ++ ins ts p)))) := by
      unfold py_law_v6_b2
      rw [pC2_ok, v_inside w h1 h2, pUn_ok, sList_t, pExt_ok _ _ _ (by simp [nL]; omega)]
      rw [show nL (l ++ ins ts p) = nL l ++ nL (ins ts p) by simp [nL]]
    rw [List.map_cons]
    refine (pLoop_nx e).trans ?_
    rw [whole_loop w P (l ++ ins ts p) (fun p hp => h p (List.mem_cons_of_mem _ hp)) (by rw [List.length_append]; omega), List.map_cons, List.flatten_cons, List.append_assoc]
theorem v_b1 (w : OkWeb n ts) {Y : List (List (List Nat))} (hY : ∀ Q ∈ Y, OkP n Q) (hne : Y ≠ []) (ds : List Int) (t : PyData) : ∃ d', py_law_v6_b1 (webD n ts) (.list (Y.map partD)) (DD ds) t = .ok (.nx (DD d')) := by
  have hl : 0 < Y.length := List.length_pos_iff.mpr hne
  obtain ⟨v, d1, e1, q1⟩ := v_takeC ds (m := (Y.length : Int)) (by omega)
  have hv : v < Y.length := by omega
  have o := hY _ (getD_memA (z := []) hv)
  generalize hQ : Y.getD v [] = P at o
  have hx : sIx (.list (Y.map partD)) (.int (v : Int)) = .ok (partD P) := by
    rw [← hQ]
    exact ixT_map (c := partD) hv
  have hs : sSorted (partD P) = .ok (.list (P.map lotD)) := by rw [sSorted_lotsT, psl_self (fun l hl => (o.lot l hl).1) o.hd]
  have e2 : (eUn sTuple (eUn sSorted (eBin sIx (eP (.ok (.list (Y.map partD)))) (eCall (fun d => l1 (py__law_take d)) (eCons (eP (pUn sLen (.ok (.list (Y.map partD))))) eNil))))) (DD ds) = .ok (partD P, DD d1) := by
    rw [pUn_ok, sLen_l, List.length_map, eUn_e, eUn_e, eBin_e, eP_ok, ok_bind, e1, ok_bind]
    dsimp only
    rw [hx, ok_bind, ok_bind]
    dsimp only
    rw [hs, ok_bind, ok_bind]
    rfl
  obtain ⟨K, d2, e3, sK⟩ := pick_T (fun i : Nat => PyData.int (i : Int)) (m := 2) (k := 0) (by decide) (List.range n) d1 (xs := qR1 (pBin sIx (.ok (webD n ts)) (.ok (.int 0)))) (by rw [pBin_ok, sIx2_0, qR1_ok n (ok_lim w)])
  have hK1 : K.Pairwise (· < ·) := List.pairwise_lt_range.sublist sK
  have hK2 : ∀ i ∈ K, i < n := fun i hi => List.mem_range.mp (sK.subset hi)
  obtain ⟨bad, d3, e4, hb⟩ := v_near w o d2
  have e4 : (eCall (fun d => l2 (py__law_near d)) (eCons (eP (.ok (webD n ts))) (eCons (eP (.ok (partD P))) eNil))) (DD d2) = .ok (bad, DD d3) := e4
  have sp : sNe (.str "NoParting") (.str "NoParting") = .ok (.bool false) := sNe_eq ((Sh_str (by decide +kernel)).up (by decide))
  have n2 := w.n2
  have ol := o.len
  have bl := btw_len (P := P) (ts := ts)
  have wt := w.t
  have ew := whole_loop w P (btw P ts) (fun p hp => (o.lot p hp).2) (by omega)
  refine ⟨d3, ?_⟩
  unfold py_law_v6_b1
  rw [e2, pBind2_ok]
  dsimp only
  rw [e3, pBind2_ok]
  dsimp only
  have hKd : PyData.tuple (K.map fun i : Nat => PyData.int (i : Int)) = lotD K := rfl
  rw [hKd, pC2_ok, v_is_parting w, v_is_part w o, pBin_ok, sNotB_same, pTest_ok, pOrT_f, pC2_ok, v_between w o, pC2_ok, v_law_between w o, pBin_ok, sNe_eq ((Sh_lot _).up (by decide)), pTest_ok, pIf_f]
  rw [pC2_ok, v_inside w hK1 hK2, pC2_ok, v_law_inside w, pBin_ok, sNe_eq ((Sh_lot _).up (by decide)), pTest_ok, pIf_f]
  rw [pUn_ok, sList_t, ok_bind, qTpl_ok, pFor_ok ew]
  rw [pPk_l, pUn_ok, sSorted_nL, whole_range o w, pBin_ok, sIx2_1, pUn_ok, sLen_t, List.length_map, qR1_ok _ (by omega), pRg_ok, pBin_ok, sNe_eq ((sh_nL _).up (by decide)), pTest_ok, pIf_f]
  rw [e4, pBind2_ok]
  dsimp only
  rw [pC2_ok, v_is_parting w, hb, pBin_ok, sNotB_same, pTest_ok, pOrT_f, pC2_ok, v_between_no w hb, lam_NoParting, pBin_ok, sp, pTest_ok, pIf_f]
theorem v_b3 (w : OkWeb n ts) {d : PyData} (h : noD2 d) (hb : lotB n d = false) : py_law_v6_b3 (webD n ts) d = .ok (.nx ()) := by
  have ss : sNe (.str "NoPlaces") (.str "NoPlaces") = .ok (.bool false) := sNe_eq ((Sh_str (by decide +kernel)).up (by decide))
  unfold py_law_v6_b3
  rw [pC2_ok, v_inside_no w h hb, lam_NoPlaces, pBin_ok, ss, pTest_ok, pIf_f]
/-! ### the parts that ties join are a parting -/
structure Lo (hs : List Nat) : Prop where
  le : ∀ u, u < hs.length → hs.getD u 0 ≤ u
  id : ∀ u, u < hs.length → hs.getD (hs.getD u 0) 0 = hs.getD u 0
theorem Lo.merge {hs : List Nat} (k : Lo hs) {x y : Nat} (hx : x < hs.length) (hy : y < hs.length) : Lo (ZZ.merge (hs.getD x 0) (hs.getD y 0) hs) := by
  have hl : (ZZ.merge (hs.getD x 0) (hs.getD y 0) hs).length = hs.length := by unfold ZZ.merge; simp
  have ix := k.id x hx
  have iy := k.id y hy
  have lx := k.le x hx
  have ly := k.le y hy
  refine ⟨fun u hu => ?_, fun u hu => ?_⟩
  · rw [hl] at hu
    rw [merge_at hu]
    have := k.le u hu
    unfold phi
    split <;> omega
  · rw [hl] at hu
    have lu := k.le u hu
    have iu := k.id u hu
    rw [merge_at hu]
    have hp : phi (hs.getD x 0) (hs.getD y 0) (hs.getD u 0) < hs.length := by
      unfold phi
      split <;> omega
    rw [merge_at hp]
    generalize hs.getD x 0 = a at *
    generalize hs.getD y 0 = b at *
    generalize hs.getD u 0 = c at *
    unfold phi
    by_cases q : c = a ∨ c = b
    · rw [if_pos q]
      by_cases z : a ≤ b
      · rw [Nat.min_eq_left z, ix, if_pos (.inl rfl)]
      · rw [Nat.min_eq_right (by omega), iy, if_pos (.inr rfl)]
    · rw [if_neg q, iu, if_neg q]
theorem Lo.fold (w : OkWeb n ts) : ∀ (l : List Nat) {hs : List Nat}, hs.length = n → Lo hs → (∀ i ∈ l, i < ts.length) → Lo (l.foldl (stepH ts) hs)
  | [], hs, _, k, _ => k
  | i :: l, hs, hl, k, h => by
    obtain ⟨h1, h2⟩ := tie_lt w (h i List.mem_cons_self)
    exact Lo.fold w l (hs := stepH ts hs i) (by rw [stepH_len, hl]) (k.merge (by omega) (by omega)) fun j hj => h j (List.mem_cons_of_mem _ hj)
theorem heads_lo (w : OkWeb n ts) (h : ∀ i ∈ l, i < ts.length) : Lo (heads n ts l) := by
  have e : ∀ u, u < n → (List.range n).getD u 0 = u := fun u hu => by simp [List.getD_eq_getElem?_getD, List.getElem?_range hu]
  refine Lo.fold w l List.length_range ⟨fun u hu => ?_, fun u hu => ?_⟩ h
  · rw [List.length_range] at hu
    rw [e u hu]
    exact Nat.le_refl _
  · rw [List.length_range] at hu
    rw [e u hu, e u hu]
theorem mem_part {hs : List Nat} {k : Int} {i : Nat} : i ∈ partOf n hs k ↔ i < n ∧ ((hs.getD i 0 : Nat) : Int) = k := by simp [partOf]
theorem head_least : ∀ {l : List Nat} {a : Nat}, l.Pairwise (· < ·) → a ∈ l → (∀ i ∈ l, a ≤ i) → l.headD 0 = a
  | x :: l, a, h, ha, hm => by
    have h1 := hm x List.mem_cons_self
    rcases List.mem_cons.mp ha with e | e
    · exact e.symm
    · have := (List.pairwise_cons.mp h).1 a e
      omega
theorem perm_range {l : List Nat} {m : Nat} (hn : l.Nodup) (hm : ∀ i, i ∈ l ↔ i < m) : l.Perm (List.range m) := by
  have h := (psort_perm (nL l)).map unI
  rw [psort_nL, srt_range hn hm] at h
  have f : ∀ x : List Nat, (nL x).map unI = x := fun x => by
    have := unlot_lot x
    exact this
  rw [f, f] at h
  exact h.symm
def partsP (n : Nat) (hs : List Nat) : List (List Nat) := (vals hs).map (partOf n hs)
theorem partsD_eq (hs : List Nat) : partsD n hs = partD (partsP n hs) := by
  unfold partsP partsD
  rw [partD, List.map_map]
  rfl
theorem part_head {hs : List Nat} (hl : hs.length = n) (k : Lo hs) {u : Nat} (hu : u < n) : (partOf n hs ((hs.getD u 0 : Nat) : Int)).headD 0 = hs.getD u 0 := by
  refine head_least (List.Pairwise.filter _ List.pairwise_lt_range) (mem_part.mpr ⟨?_, ?_⟩) fun i hi => ?_
  · have := k.le u (by omega)
    omega
  · rw [k.id u (by omega)]
  · obtain ⟨h1, h2⟩ := mem_part.mp hi
    have := k.le i (by omega)
    omega
theorem parts_ok {hs : List Nat} (hl : hs.length = n) (k : Lo hs) : OkP n (partsP n hs) where
  lot := fun p hp => by
    obtain ⟨v, hv, rfl⟩ := List.mem_map.mp hp
    obtain ⟨u, hu, rfl⟩ := mem_vals.mp hv
    refine ⟨fun z => ?_, List.Pairwise.filter _ List.pairwise_lt_range, fun i hi => (mem_part.mp hi).1⟩
    have : u ∈ partOf n hs ((hs.getD u 0 : Nat) : Int) := mem_part.mpr ⟨by omega, rfl⟩
    rw [z] at this
    cases this
  hd := by
    unfold partsP
    rw [List.pairwise_map]
    refine (dsort_lt _ : (vals hs).Pairwise (· < ·)).imp_of_mem fun ha hb hab => ?_
    obtain ⟨u, hu, rfl⟩ := mem_vals.mp ha
    obtain ⟨v, hv, rfl⟩ := mem_vals.mp hb
    rw [part_head hl k (by omega), part_head hl k (by omega)]
    omega
  pm := by
    refine perm_range ?_ fun i => ?_
    · refine List.pairwise_flatten.mpr ⟨fun p hp => ?_, ?_⟩
      · obtain ⟨v, hv, rfl⟩ := List.mem_map.mp hp
        exact List.Pairwise.filter _ List.nodup_range
      · unfold partsP
        rw [List.pairwise_map]
        refine (vals_nodup hs).imp fun hab x hx y hy e => ?_
        subst e
        exact hab ((mem_part.mp hx).2.symm.trans (mem_part.mp hy).2)
    · constructor
      · intro h
        obtain ⟨p, hp, h⟩ := List.mem_flatten.mp h
        obtain ⟨v, hv, rfl⟩ := List.mem_map.mp hp
        exact (mem_part.mp h).1
      · intro h
        exact List.mem_flatten.mpr ⟨_, List.mem_map.mpr ⟨((hs.getD i 0 : Nat) : Int), mem_vals.mpr ⟨i, by omega, rfl⟩, rfl⟩, mem_part.mpr ⟨h, rfl⟩⟩
theorem own_same (o : OkP n P) {u v : Nat} (hu : u < n) (h : ∀ p ∈ P, u ∈ p → v ∈ p) : own P u = own P v := by
  obtain ⟨h1, h2⟩ := own_lt o hu
  exact (own_of o h1 (h _ (getD_memA h1) h2)).symm
theorem btw_none (w : OkWeb n ts) : btw (partsP n (heads n ts (List.range ts.length))) ts = [] := by
  refine List.filter_eq_nil_iff.mpr fun t ht => ?_
  have ht : t < ts.length := by simpa using ht
  have hm : ∀ i ∈ List.range ts.length, i < ts.length := fun i hi => List.mem_range.mp hi
  obtain ⟨h1, h2⟩ := tie_lt w ht
  have hd := Hd.heads (n := n) (ts := ts) (l := List.range ts.length) w hm
  have e : (heads n ts (List.range ts.length)).getD (ts.getD t (0, 0)).1 0 = (heads n ts (List.range ts.length)).getD (ts.getD t (0, 0)).2 0 := (hd.cn _ _ h1 h2).mpr fun f hf => hf (ts.getD t (0, 0)) (List.mem_map.mpr ⟨t, List.mem_range.mpr ht, rfl⟩)
  have := own_same (parts_ok heads_len (heads_lo w hm)) h1 (v := (ts.getD t (0, 0)).2) fun p hp hu => by
    obtain ⟨v, hv, rfl⟩ := List.mem_map.mp hp
    exact mem_part.mpr ⟨h2, by rw [← e]; exact (mem_part.mp hu).2⟩
  rw [this]
  simp
theorem v_parts0 (w : OkWeb n ts) : (pC2 py_between (.ok (webD n ts)) (pC2 py_parts_by (.ok (webD n ts)) (pRgT (qR1 (pUn sLen (pBin sIx (.ok (webD n ts)) (.ok (.int 1)))))))) = .ok (.tuple []) := by
  have wt := w.t
  have hm : ∀ i ∈ List.range ts.length, i < ts.length := fun i hi => List.mem_range.mp hi
  have e := v_parts_by w (l := List.range ts.length) ⟨List.pairwise_lt_range, hm⟩
  rw [pBin_ok, sIx2_1, pUn_ok, sLen_t, List.length_map, qR1_ok _ (by omega), pRgT_ok, pC2_ok, e, partsD_eq, pC2_ok, v_between w (parts_ok heads_len (heads_lo w hm)), btw_none w]
  rfl
end
theorem v_law_ok (ns : List Int) : py_law_v6 (.list (iL ns)) = .ok (.bool true) := by
  unfold py_law_v6
  obtain ⟨ds, e0⟩ := sd__law_draws_v5 ns 200 (by decide)
  obtain ⟨n, ts, d1, e1, ht, h1, h2, h3⟩ := v_web ds (a := 1) (b := 6) (t := 9) (by decide) (by decide) (by decide)
  have w : OkWeb n ts := .of (by omega) (by omega) (by omega) ht
  have e0 : py__law_draws_v5 (.list (iL ns)) (.int 200) = .ok (DD ds) := e0
  have e2 : eCall (fun d => l3 (py__law_web d)) (eCons (eP (.ok (.int 1))) (eCons (eP (.ok (.int 6))) (eCons (eP (.ok (.int 9))) eNil))) (DD ds) = .ok (webD n ts, DD d1) := e1
  rw [pC2_ok, e0, ok_bind, e2, pBind2_ok]
  dsimp only
  obtain ⟨Y, e3, hne, hY, _⟩ := v_partings (n := n) h2
  obtain ⟨s', l2, _⟩ := pLoop_inv (R := PyData) (f := fun s1 d => py_law_v6_b1 (webD n ts) (.list (Y.map partD)) s1 d) (I := fun s => ∃ ds, s = DD ds) (l := nL (List.range 4)) (s := DD d1) ⟨d1, rfl⟩ (fun s x ⟨ds, h⟩ _ => by
    subst h
    obtain ⟨ds', e⟩ := v_b1 w hY hne ds x
    exact ⟨_, e, ds', rfl⟩)
  have r4 : qR1 (.ok (.int 4)) = .ok (nL (List.range 4)) := qR1_ok 4 (by decide)
  rw [pBin_ok, sIx2_0, qR1_ok n (ok_lim w), pRg_ok, pC1_ok, e3, ok_bind, r4, pFor_ok l2, v_parts0 w]
  have z0 : sNe (.tuple []) (.tuple []) = .ok (.bool false) := sNe_eq ((Sh_lot []).up (by decide))
  rw [pNil_e, pTup0, pBin_ok, z0, pTest_ok, pIf_f]
  have nl1 : ∀ a : PyData, noD a → noD2 (.tuple [a]) := fun a h d hd => by rw [List.mem_singleton.mp hd]; exact h
  have l3 : pLoop (fun s3 d => py_law_v6_b3 (webD n ts) d) [.tuple [.int n], .tuple [.int 0, .int 0], .list [.int 0], .none, .tuple [.int (-1)], .tuple [.bool true]] () = .ok (.nx ()) := by
    refine ((pLoop_nx (v_b3 (d := .tuple [.int n]) w (nl1 _ trivial) ?_)).trans ((pLoop_nx (v_b3 (d := .tuple [.int 0, .int 0]) w ?_ ?_)).trans ((pLoop_nx (v_b3 (d := .list [.int 0]) w trivial rfl)).trans ((pLoop_nx (v_b3 (d := .none) w trivial rfl)).trans ((pLoop_nx (v_b3 (d := .tuple [.int (-1)]) w (nl1 _ trivial) ?_)).trans ((pLoop_nx (v_b3 (d := .tuple [.bool true]) w (nl1 _ trivial) ?_)).trans rfl))))))
    · simp [lotB, isW]
      omega
    · intro d hd
      have : d = .int 0 := by simpa using hd
      subst this
      trivial
    · simp [lotB, risB, intsOf]
    · simp [lotB, isW]
    · simp [lotB, isW]
  simp only [pCons_ok, pTup1, pTup2, pLst1, pUn_ok, sNeg_i]
  rw [pTup_ok _ (by simp), qTpl_ok, pFor_ok l3]
end ZZ

set_option maxHeartbeats 8000000
namespace ZZ
open PySem PySem.Spec PyProof.Rows L2 Ob
theorem y_is_int (x_thing : PyData) : Rf (py_is_int x_thing) (res fm_is_int [x_thing]) := by
  unfold py_is_int fm_is_int
  refine fn_val ?_
  unfold bd_is_int
  exact (bj_last (bj_ret1 (xp_and (xp_un (xp_pkV rfl)) (xp_not (xp_un (xp_pkV rfl)))) fun v ρ s => vq_val v ρ))
theorem y_is_within (x_thing x_low x_high : PyData) : Rf (py_is_within x_thing x_low x_high) (res fm_is_within [x_thing, x_low, x_high]) := by
  unfold py_is_within fm_is_within
  refine fn_val ?_
  unfold bd_is_within
  exact (bj_last (bj_ret1 (xp_and (XP.to (xp_call (l1_ok y_is_int) (xp_cons (xp_var rfl) xp_nil)) c1_eq) (xp_chain (xp_var rfl) (xp_var rfl) (xp_var rfl))) fun v ρ s => vq_val v ρ))
theorem y_is_sized (x_thing x_least x_most : PyData) : Rf (py_is_sized x_thing x_least x_most) (res fm_is_sized [x_thing, x_least, x_most]) := by
  unfold py_is_sized fm_is_sized
  refine fn_val ?_
  unfold bd_is_sized
  exact (bj_last (bj_ret1 (xp_and (xp_un (xp_pkV rfl)) (xp_chain (xp_var rfl) (xp_un (xp_pkV rfl)) (xp_var rfl))) fun v ρ s => vq_val v ρ))
theorem y_is_rising (x_some : PyData) : Rf (py_is_rising x_some) (res fm_is_rising [x_some]) := by
  unfold py_is_rising fm_is_rising
  refine fn_val ?_
  unfold bd_is_rising
  exact (bj_last (bj_ret1 (xp_un (xp_lc (xi_zip (xp_var rfl) (xp_sl (xp_var rfl) (xo_it xp_con) xo_no)) (no_own1 rfl (no_own1 rfl no_own0)) fun d1 => (gt_tup2 fun x_one x_other => (gt_name (gt_name (gt_elt (xp_bin (xp_var rfl) (xp_var rfl)) (.same (.any (.any .nil))))))))) fun v ρ s => vq_val v ρ))
theorem y_is_lot (x_thing x_many : PyData) : Rf (py_is_lot x_thing x_many) (res fm_is_lot [x_thing, x_many]) := by
  unfold py_is_lot fm_is_lot
  refine fn_val ?_
  unfold bd_is_lot
  exact (bj_if (xp_orT (xp_notT (xp_tru (xp_un (xp_pkV rfl)))) (xp_notT (xp_tru (xp_un (xp_lc (xi_tpl (xp_var rfl)) (no_own1 rfl no_own0) fun x_one => (gt_name (gt_elt (XP.to (xp_call (l3_ok y_is_within) (xp_cons (xp_var rfl) (xp_cons xp_con (xp_cons (xp_bin (xp_var rfl) xp_con) xp_nil)))) c3_eq) (.same (.same (.any .nil)))))))))) (bj_ret1 xp_con fun v ρ s => vq_val v ρ) (bj_skip (bj_last (bj_ret1 (XP.to (xp_call (l1_ok y_is_rising) (xp_cons (xp_var rfl) xp_nil)) c1_eq) fun v ρ s => vq_val v ρ))))
theorem y_is_pair_of (x_many x_thing : PyData) : Rf (py_is_pair_of x_many x_thing) (res fm_is_pair_of [x_many, x_thing]) := by
  unfold py_is_pair_of fm_is_pair_of
  refine fn_val ?_
  unfold bd_is_pair_of
  exact (bj_if (xp_orT (xp_notT (xp_tru (XP.to (xp_call (l3_ok y_is_sized) (xp_cons (xp_var rfl) (xp_cons xp_con (xp_cons xp_con xp_nil)))) c3_eq))) (xp_orT (xp_notT (xp_tru (XP.to (xp_call (l3_ok y_is_within) (xp_cons (xp_bin (xp_var rfl) xp_con) (xp_cons xp_con (xp_cons (xp_bin (xp_var rfl) xp_con) xp_nil)))) c3_eq))) (xp_notT (xp_tru (XP.to (xp_call (l3_ok y_is_within) (xp_cons (xp_bin (xp_var rfl) xp_con) (xp_cons xp_con (xp_cons (xp_bin (xp_var rfl) xp_con) xp_nil)))) c3_eq))))) (bj_ret1 xp_con fun v ρ s => vq_val v ρ) (bj_skip (bj_last (bj_ret1 (xp_bin (xp_bin (xp_var rfl) xp_con) (xp_bin (xp_var rfl) xp_con)) fun v ρ s => vq_val v ρ))))
theorem y_is_web (x_thing : PyData) : Rf (py_is_web x_thing) (res fm_is_web [x_thing]) := by
  unfold py_is_web fm_is_web
  refine fn_val ?_
  unfold bd_is_web
  exact (bj_if (xp_orT (xp_notT (xp_tru (XP.to (xp_call (l3_ok y_is_sized) (xp_cons (xp_var rfl) (xp_cons xp_con (xp_cons xp_con xp_nil)))) c3_eq))) (xp_orT (xp_notT (xp_tru (XP.to (xp_call (l3_ok y_is_within) (xp_cons (xp_bin (xp_var rfl) xp_con) (xp_cons xp_con (xp_cons xp_con xp_nil)))) c3_eq))) (xp_notT (xp_tru (XP.to (xp_call (l3_ok y_is_sized) (xp_cons (xp_bin (xp_var rfl) xp_con) (xp_cons xp_con (xp_cons xp_con xp_nil)))) c3_eq))))) (bj_ret1 xp_con fun v ρ s => vq_val v ρ) (bj_skip (bj_last (bj_ret1 (xp_un (xp_lc (xi_tpl (xp_bin (xp_var rfl) xp_con)) (no_own1 rfl no_own0) fun x_one => (gt_name (gt_elt (XP.to (xp_call (l2_ok y_is_pair_of) (xp_cons (xp_bin (xp_var rfl) xp_con) (xp_cons (xp_var rfl) xp_nil))) c2_eq) (.same (.any .nil)))))) fun v ρ s => vq_val v ρ))))
theorem y_check_web (x_web : PyData) : Rf (py_check_web x_web) (res fm_check_web [x_web]) := by
  unfold py_check_web fm_check_web
  refine fn_val ?_
  unfold bd_check_web
  exact (bj_last (bj_if (xp_notT (xp_tru (XP.to (xp_call (l1_ok y_is_web) (xp_cons (xp_var rfl) xp_nil)) c1_eq))) (bj_raise fun _ => rfl) (bj_skip (bj_end fun ρ s => vq_nx ρ))))
theorem y_raw_is_lot (x_web x_thing : PyData) : Rf (py_raw_is_lot x_web x_thing) (res fm_raw_is_lot [x_web, x_thing]) := by
  unfold py_raw_is_lot fm_raw_is_lot
  refine fn_val ?_
  unfold bd_raw_is_lot
  exact (bj_last (bj_ret1 (XP.to (xp_call (l2_ok y_is_lot) (xp_cons (xp_var rfl) (xp_cons (xp_un (xp_bin (xp_var rfl) xp_con)) xp_nil))) c2_eq) fun v ρ s => vq_val v ρ))
theorem y_check_lot (x_web x_lot : PyData) : Rf (py_check_lot x_web x_lot) (res fm_check_lot [x_web, x_lot]) := by
  unfold py_check_lot fm_check_lot
  refine fn_val ?_
  unfold bd_check_lot
  exact (bj_expr (XP.to (xp_call (l1_ok y_check_web) (xp_cons (xp_var rfl) xp_nil)) c1_eq) (bj_last (bj_if (xp_notT (xp_tru (XP.to (xp_call (l2_ok y_raw_is_lot) (xp_cons (xp_var rfl) (xp_cons (xp_var rfl) xp_nil))) c2_eq))) (bj_raise fun _ => rfl) (bj_skip (bj_end fun ρ s => vq_nx ρ)))))
theorem y_raw_heads_b1 (x_web x_lot x_heads x_tie : PyData) : GJ [.is (.val x_web), .is (.val x_lot), .is (.val x_heads), .nown, .nown, .nown, .nown] (fun ρ => (gmName 3) x_tie ρ >>= (mSeq (mAsg (gmTup (gmCons (gmName 4) (gmCons (gmName 5) (gmNil)))) (mTup (mCons (mBin sIx (mVar 2) (mBin sIx (mBin sIx (mBin sIx (mVar 0) (mCon (.int 1))) (mVar 3)) (mCon (.int 0)))) (mCons (mBin sIx (mVar 2) (mBin sIx (mBin sIx (mBin sIx (mVar 0) (mCon (.int 1))) (mVar 3)) (mCon (.int 1)))) (mNil))))) (mIfS (mTest (mBin sNe (mVar 4) (mVar 5))) (mSet 2 (mLc (iLst (mVar 2)) [6] (gmName 6) (tmYes) (mIf (mTest (mBin sIn (mVar 6) (mTup (mCons (mVar 4) (mCons (mVar 5) (mNil)))))) (mBin sMin2 (mVar 4) (mVar 5)) (mVar 6)))) (mSkip)))) (py_raw_heads_b1 x_web x_heads x_tie) (LpR (S := PyData) (fun s1 : PyData => ([.is (.val x_web), .is (.val x_lot), .is (.val s1), .nown, .nown, .nown, .nown] : Cx1)) VR) := by
  unfold py_raw_heads_b1
  exact (gt_name (bj_asg (xp_tup (xp_cons (xp_bin (xp_var rfl) (xp_bin (xp_bin (xp_bin (xp_var rfl) xp_con) (xp_var rfl)) xp_con)) (xp_cons (xp_bin (xp_var rfl) (xp_bin (xp_bin (xp_bin (xp_var rfl) xp_con) (xp_var rfl)) xp_con)) xp_nil))) fun z2 => (gt_tup2 fun x_one x_other => (gt_name (gt_name (gj_eq (Γ' := [.is (.val x_web), .is (.val x_lot), .is (.val x_heads), .is (.val x_tie), .is (.val x_one), .is (.val x_other), .nown]) rfl (bj_last (bj_if (xp_test (xp_bin (xp_var rfl) (xp_var rfl))) (bj_set (xp_lc (xi_lst (xp_var rfl)) (no_own1 rfl no_own0) fun x_head => (gt_name (gt_elt (xp_if (xp_test (xp_bin (xp_var rfl) (xp_tup (xp_cons (xp_var rfl) (xp_cons (xp_var rfl) xp_nil))))) (xp_bin (xp_var rfl) (xp_var rfl)) (xp_var rfl)) (.same (.same (.same (.same (.same (.same (.any .nil)))))))))) fun x_heads => (gj_eq (Γ' := [.is (.val x_web), .is (.val x_lot), .is (.val x_heads), .is (.val x_tie), .is (.val x_one), .is (.val x_other), .nown]) rfl (bj_next (.same (.same (.same (.nown (.nown (.nown (.same .nil)))))))))) (bj_skip (bj_next (.same (.same (.same (.nown (.nown (.nown (.same .nil)))))))))))))))))
theorem y_raw_heads (x_web x_lot : PyData) : Rf (py_raw_heads x_web x_lot) (res fm_raw_heads [x_web, x_lot]) := by
  unfold py_raw_heads fm_raw_heads
  refine fn_val ?_
  unfold bd_raw_heads
  exact (bj_set (xp_rg (xi_r1 (xp_bin (xp_var rfl) xp_con))) fun x_heads => (gj_eq (Γ' := [.is (.val x_web), .is (.val x_lot), .is (.val x_heads), .nown, .nown, .nown, .nown]) rfl (bj_for (S := PyData) (L := (fun s1 : PyData => ([.is (.val x_web), .is (.val x_lot), .is (.val s1), .nown, .nown, .nown, .nown] : Cx1))) (Q := VR) (xi_tpl (xp_var rfl)) (.same (.same (.same (.same (.same (.same (.same .nil))))))) (fun s1 d => y_raw_heads_b1 x_web x_lot s1 d) (fun s1 => (bj_last (bj_ret1 (xp_var rfl) fun v ρ s => vq_val v ρ))) (fun _ _ h => vq_r h))))
theorem y_raw_parts (x_web x_lot : PyData) : Rf (py_raw_parts x_web x_lot) (res fm_raw_parts [x_web, x_lot]) := by
  unfold py_raw_parts fm_raw_parts
  refine fn_val ?_
  unfold bd_raw_parts
  exact (bj_set (XP.to (xp_call (l2_ok y_raw_heads) (xp_cons (xp_var rfl) (xp_cons (xp_var rfl) xp_nil))) c2_eq) fun x_heads => (gj_eq (Γ' := [.is (.val x_web), .is (.val x_lot), .is (.val x_heads), .nown, .nown]) rfl (bj_last (bj_ret1 (xp_un (xp_lc (xi_lst (xp_un (xp_pkV rfl))) (no_own1 rfl no_own0) fun x_head => (gt_name (gt_elt (xp_un (xp_lc (xi_r1 (xp_bin (xp_var rfl) xp_con)) (no_own1 rfl no_own0) fun x_place => (gt_name (gt_test (xp_test (xp_bin (xp_bin (xp_var rfl) (xp_var rfl)) (xp_var rfl))) (xp_var rfl) (.same (.same (.same (.same (.any .nil))))))))) (.same (.same (.same (.any (.same .nil))))))))) fun v ρ s => vq_val v ρ))))
theorem y_parts_by (x_web x_lot : PyData) : Rf (py_parts_by x_web x_lot) (res fm_parts_by [x_web, x_lot]) := by
  unfold py_parts_by fm_parts_by
  refine fn_val ?_
  unfold bd_parts_by
  exact (bj_expr (XP.to (xp_call (l2_ok y_check_lot) (xp_cons (xp_var rfl) (xp_cons (xp_var rfl) xp_nil))) c2_eq) (bj_last (bj_ret1 (XP.to (xp_call (l2_ok y_raw_parts) (xp_cons (xp_var rfl) (xp_cons (xp_var rfl) xp_nil))) c2_eq) fun v ρ s => vq_val v ρ)))
theorem y_raw_inside (x_web x_places : PyData) : Rf (py_raw_inside x_web x_places) (res fm_raw_inside [x_web, x_places]) := by
  unfold py_raw_inside fm_raw_inside
  refine fn_val ?_
  unfold bd_raw_inside
  exact (bj_last (bj_ret1 (xp_un (xp_lc (xi_enT (xp_bin (xp_var rfl) xp_con)) (no_own1 rfl (no_own1 rfl (no_own1 rfl no_own0))) fun d1 => (gt_tup2 fun x_tie z2 => (gt_name (gt_tup2 fun x_i x_j => (gt_name (gt_name (gt_test (xp_andT (xp_test (xp_bin (xp_var rfl) (xp_var rfl))) (xp_test (xp_bin (xp_var rfl) (xp_var rfl)))) (xp_var rfl) (.same (.same (.any (.any (.any .nil))))))))))))) fun v ρ s => vq_val v ρ))
theorem y_inside (x_web x_places : PyData) : Rf (py_inside x_web x_places) (res fm_inside [x_web, x_places]) := by
  unfold py_inside fm_inside
  refine fn_val ?_
  unfold bd_inside
  exact (bj_expr (XP.to (xp_call (l1_ok y_check_web) (xp_cons (xp_var rfl) xp_nil)) c1_eq) (bj_if (xp_notT (xp_tru (XP.to (xp_call (l2_ok y_is_lot) (xp_cons (xp_var rfl) (xp_cons (xp_bin (xp_var rfl) xp_con) xp_nil))) c2_eq))) (bj_raise fun _ => rfl) (bj_skip (bj_last (bj_ret1 (XP.to (xp_call (l2_ok y_raw_inside) (xp_cons (xp_var rfl) (xp_cons (xp_var rfl) xp_nil))) c2_eq) fun v ρ s => vq_val v ρ)))))
theorem y_raw_is_parting_b1 (x_web x_thing x_met x_lot : PyData) : GJ [.is (.val x_web), .is (.val x_thing), .is (.own x_met), .nown] (fun ρ => (gmName 3) x_lot ρ >>= (mExtend 2 (mUn sList (mPk 3)))) (py_raw_is_parting_b1 x_met x_lot) (LpR (S := PyData) (fun s1 : PyData => ([.is (.val x_web), .is (.val x_thing), .is (.own s1), .nown] : Cx1)) VR) := by
  unfold py_raw_is_parting_b1
  exact (gt_name (bj_last (bj_ext rfl (xp_un (xp_pkV rfl)) fun x_met => (gj_eq (Γ' := [.is (.val x_web), .is (.val x_thing), .is (.own x_met), .is (.val x_lot)]) rfl (bj_next (.same (.same (.same (.nown .nil)))))))))
theorem y_raw_is_parting (x_web x_thing : PyData) : Rf (py_raw_is_parting x_web x_thing) (res fm_raw_is_parting [x_web, x_thing]) := by
  unfold py_raw_is_parting fm_raw_is_parting
  refine fn_val ?_
  unfold bd_raw_is_parting
  exact (bj_if (xp_orT (xp_notT (xp_tru (xp_un (xp_pkV rfl)))) (xp_notT (xp_tru (xp_un (xp_lc (xi_tpl (xp_var rfl)) (no_own1 rfl no_own0) fun x_lot => (gt_name (gt_elt (xp_and (XP.to (xp_call (l2_ok y_is_lot) (xp_cons (xp_var rfl) (xp_cons (xp_bin (xp_var rfl) xp_con) xp_nil))) c2_eq) (xp_bin (xp_un (xp_pkV rfl)) xp_con)) (.same (.same (.same (.any .nil))))))))))) (bj_ret1 xp_con fun v ρ s => vq_val v ρ) (bj_skip (bj_setO (xp_lst xp_nil) fun x_met => (gj_eq (Γ' := [.is (.val x_web), .is (.val x_thing), .is (.own x_met), .nown]) rfl (bj_for (S := PyData) (L := (fun s1 : PyData => ([.is (.val x_web), .is (.val x_thing), .is (.own s1), .nown] : Cx1))) (Q := VR) (xi_tpl (xp_var rfl)) (.same (.same (.same (.same .nil)))) (fun s1 d => y_raw_is_parting_b1 x_web x_thing s1 d) (fun s1 => (bj_last (bj_ret1 (xp_and (xp_bin (xp_un (xp_pkO rfl)) (xp_rg (xi_r1 (xp_bin (xp_var rfl) xp_con)))) (xp_bin (xp_un (xp_pkV rfl)) (xp_un (xp_pkV rfl)))) fun v ρ s => vq_val v ρ))) (fun _ _ h => vq_r h))))))
theorem y_is_parting (x_web x_thing : PyData) : Rf (py_is_parting x_web x_thing) (res fm_is_parting [x_web, x_thing]) := by
  unfold py_is_parting fm_is_parting
  refine fn_val ?_
  unfold bd_is_parting
  exact (bj_expr (XP.to (xp_call (l1_ok y_check_web) (xp_cons (xp_var rfl) xp_nil)) c1_eq) (bj_last (bj_ret1 (XP.to (xp_call (l2_ok y_raw_is_parting) (xp_cons (xp_var rfl) (xp_cons (xp_var rfl) xp_nil))) c2_eq) fun v ρ s => vq_val v ρ)))
theorem y_raw_between_b1 (x_web x_parting x_owners d1 : PyData) : GJ [.is (.val x_web), .is (.val x_parting), .is (.own x_owners), .nown, .nown, .nown, .nown, .nown, .nown] (fun ρ => (gmTup (gmCons (gmName 3) (gmCons (gmName 4) (gmNil)))) d1 ρ >>= (mUpdK 2 (mDc (iTpl (mVar 4)) [5] (gmName 5) (tmYes) (mVar 5) (mVar 3)))) (py_raw_between_b1 x_owners d1) (LpR (S := PyData) (fun s1 : PyData => ([.is (.val x_web), .is (.val x_parting), .is (.own s1), .nown, .nown, .nown, .nown, .nown, .nown] : Cx1)) VR) := by
  unfold py_raw_between_b1
  exact (gt_tup2 fun x_at x_lot => (gt_name (gt_name (bj_last (bj_updK rfl (xp_dc (xi_tpl (xp_var rfl)) (no_own1 rfl no_own0) fun x_place => (gt_name (gt_eltD (xp_var rfl) (xp_var rfl) (.same (.same (.same (.same (.same (.any (.same (.same (.same .nil)))))))))))) fun x_owners => (gj_eq (Γ' := [.is (.val x_web), .is (.val x_parting), .is (.own x_owners), .is (.val x_at), .is (.val x_lot), .nown, .nown, .nown, .nown]) rfl (bj_next (.same (.same (.same (.nown (.nown (.same (.same (.same (.same .nil))))))))))))))))
theorem y_raw_between (x_web x_parting : PyData) : Rf (py_raw_between x_web x_parting) (res fm_raw_between [x_web, x_parting]) := by
  unfold py_raw_between fm_raw_between
  refine fn_val ?_
  unfold bd_raw_between
  exact (bj_setO xp_dnewK fun x_owners => (gj_eq (Γ' := [.is (.val x_web), .is (.val x_parting), .is (.own x_owners), .nown, .nown, .nown, .nown, .nown, .nown]) rfl (bj_for (S := PyData) (L := (fun s1 : PyData => ([.is (.val x_web), .is (.val x_parting), .is (.own s1), .nown, .nown, .nown, .nown, .nown, .nown] : Cx1))) (Q := VR) (xi_enT (xp_var rfl)) (.same (.same (.same (.same (.same (.same (.same (.same (.same .nil))))))))) (fun s1 d => y_raw_between_b1 x_web x_parting s1 d) (fun s1 => (bj_last (bj_ret1 (xp_un (xp_lc (xi_enT (xp_bin (xp_var rfl) xp_con)) (no_own1 rfl (no_own1 rfl (no_own1 rfl no_own0))) fun d2 => (gt_tup2 fun x_tie z3 => (gt_name (gt_tup2 fun x_i x_j => (gt_name (gt_name (gt_test (xp_test (xp_bin (xp_dgetK rfl (xp_var rfl)) (xp_dgetK rfl (xp_var rfl)))) (xp_var rfl) (.same (.same (.same (.same (.same (.same (.any (.any (.any .nil))))))))))))))))) fun v ρ s => vq_val v ρ))) (fun _ _ h => vq_r h))))
theorem y_between (x_web x_parting : PyData) : Rf (py_between x_web x_parting) (res fm_between [x_web, x_parting]) := by
  unfold py_between fm_between
  refine fn_val ?_
  unfold bd_between
  exact (bj_expr (XP.to (xp_call (l1_ok y_check_web) (xp_cons (xp_var rfl) xp_nil)) c1_eq) (bj_if (xp_notT (xp_tru (XP.to (xp_call (l2_ok y_raw_is_parting) (xp_cons (xp_var rfl) (xp_cons (xp_var rfl) xp_nil))) c2_eq))) (bj_raise fun _ => rfl) (bj_skip (bj_last (bj_ret1 (XP.to (xp_call (l2_ok y_raw_between) (xp_cons (xp_var rfl) (xp_cons (xp_var rfl) xp_nil))) c2_eq) fun v ρ s => vq_val v ρ)))))
theorem y__law_draws_b3 (x_script x_many x_big x_row x_seed x_k : PyData) : GJ [.is (.val x_script), .is (.val x_many), .is (.own x_row), .is (.val x_big), .nown, .is (.val x_seed), .nown] (fun ρ => (gmName 4) x_k ρ >>= (mSeq (mSet 6 (mVar 4)) (mSeq (mIfS (mTru (mPk 0)) (mSet 6 (mBin sMod (mUn sInt (mBin sIx (mVar 0) (mBin sMod (mBin sAdd (mVar 4) (mCon (.int 1))) (mUn sLen (mPk 0))))) (mCon (.int 2147483647)))) (mSkip)) (mSeq (mSet 5 (mBin sMod (mUn sInt (mBin sAdd (mBin sAdd (mBin sAdd (mBin sMul (mVar 5) (mCon (.int 48271))) (mVar 6)) (mBin sMul (mVar 4) (mCon (.int 69621)))) (mCon (.int 13)))) (mCon (.int 2147483647)))) (mAppend 2 (mBin sMod (mBin sFDiv (mBin sMod (mUn sInt (mBin sAdd (mBin sMul (mVar 5) (mCon (.int 16807))) (mCon (.int 54321)))) (mCon (.int 2147483647))) (mCon (.int 7))) (mCon (.int 1009)))))))) (py__law_draws_v5_b3 x_script x_row x_seed x_k) (LpR (S := PyData × PyData) (fun s3 : PyData × PyData => ([.is (.val x_script), .is (.val x_many), .is (.own s3.1), .is (.val x_big), .nown, .is (.val s3.2), .nown] : Cx1)) OQ) := by
  unfold py__law_draws_v5_b3
  exact (gt_name (bj_set (xp_var rfl) fun x_cell => (gj_eq (Γ' := [.is (.val x_script), .is (.val x_many), .is (.own x_row), .is (.val x_big), .is (.val x_k), .is (.val x_seed), .is (.val x_cell)]) rfl (bj_if (xp_tru (xp_pkV rfl)) (bj_set (xp_bin (xp_un (xp_bin (xp_var rfl) (xp_bin (xp_bin (xp_var rfl) xp_con) (xp_un (xp_pkV rfl))))) xp_con) fun x_cell => (gj_eq (Γ' := [.is (.val x_script), .is (.val x_many), .is (.own x_row), .is (.val x_big), .is (.val x_k), .is (.val x_seed), .is (.val x_cell)]) rfl (bj_set (xp_bin (xp_un (xp_bin (xp_bin (xp_bin (xp_bin (xp_var rfl) xp_con) (xp_var rfl)) (xp_bin (xp_var rfl) xp_con)) xp_con)) xp_con) fun x_seed => (gj_eq (Γ' := [.is (.val x_script), .is (.val x_many), .is (.own x_row), .is (.val x_big), .is (.val x_k), .is (.val x_seed), .is (.val x_cell)]) rfl (bj_last (bj_app rfl (xp_bin (xp_bin (xp_bin (xp_un (xp_bin (xp_bin (xp_var rfl) xp_con) xp_con)) xp_con) xp_con) xp_con) fun x_row => (gj_eq (Γ' := [.is (.val x_script), .is (.val x_many), .is (.own x_row), .is (.val x_big), .is (.val x_k), .is (.val x_seed), .is (.val x_cell)]) rfl (bj_next (.same (.same (.same (.same (.nown (.same (.nown .nil))))))))))))))) (bj_skip (bj_set (xp_bin (xp_un (xp_bin (xp_bin (xp_bin (xp_bin (xp_var rfl) xp_con) (xp_var rfl)) (xp_bin (xp_var rfl) xp_con)) xp_con)) xp_con) fun x_seed => (gj_eq (Γ' := [.is (.val x_script), .is (.val x_many), .is (.own x_row), .is (.val x_big), .is (.val x_k), .is (.val x_seed), .is (.val x_cell)]) rfl (bj_last (bj_app rfl (xp_bin (xp_bin (xp_bin (xp_un (xp_bin (xp_bin (xp_var rfl) xp_con) xp_con)) xp_con) xp_con) xp_con) fun x_row => (gj_eq (Γ' := [.is (.val x_script), .is (.val x_many), .is (.own x_row), .is (.val x_big), .is (.val x_k), .is (.val x_seed), .is (.val x_cell)]) rfl (bj_next (.same (.same (.same (.same (.nown (.same (.nown .nil))))))))))))))))))
theorem y__law_draws_j2 (x_script x_many x_row x_big : PyData) : GJ [.is (.val x_script), .is (.val x_many), .is (.own x_row), .is (.val x_big), .nown, .nown, .nown] (mSeq (mSet 5 (mCon (.int 825))) (mSeq (mFor (iR1 (mBin sSub (mVar 1) (mUn sLen (mPk 2)))) (gmName 4) (mSeq (mSet 6 (mVar 4)) (mSeq (mIfS (mTru (mPk 0)) (mSet 6 (mBin sMod (mUn sInt (mBin sIx (mVar 0) (mBin sMod (mBin sAdd (mVar 4) (mCon (.int 1))) (mUn sLen (mPk 0))))) (mCon (.int 2147483647)))) (mSkip)) (mSeq (mSet 5 (mBin sMod (mUn sInt (mBin sAdd (mBin sAdd (mBin sAdd (mBin sMul (mVar 5) (mCon (.int 48271))) (mVar 6)) (mBin sMul (mVar 4) (mCon (.int 69621)))) (mCon (.int 13)))) (mCon (.int 2147483647)))) (mAppend 2 (mBin sMod (mBin sFDiv (mBin sMod (mUn sInt (mBin sAdd (mBin sMul (mVar 5) (mCon (.int 16807))) (mCon (.int 54321)))) (mCon (.int 2147483647))) (mCon (.int 7))) (mCon (.int 1009)))))))) (mRetOwn 2))) (py__law_draws_v5_j2 x_script x_many x_row x_big) OQ := by
  unfold py__law_draws_v5_j2
  exact (bj_set xp_con fun x_seed => (gj_eq (Γ' := [.is (.val x_script), .is (.val x_many), .is (.own x_row), .is (.val x_big), .nown, .is (.val x_seed), .nown]) rfl (bj_for (S := PyData × PyData) (L := (fun s3 : PyData × PyData => ([.is (.val x_script), .is (.val x_many), .is (.own s3.1), .is (.val x_big), .nown, .is (.val s3.2), .nown] : Cx1))) (Q := OQ) (xi_r1 (xp_bin (xp_var rfl) (xp_un (xp_pkO rfl)))) (.same (.same (.same (.same (.same (.same (.same .nil))))))) (fun s3 d => y__law_draws_b3 x_script x_many x_big s3.1 s3.2 d) (fun s3 => (bj_last (bj_retO (ret := fun v => v) rfl fun v ρ s => rfl))) (fun _ _ h => h))))
theorem y__law_draws_b4 (x_script x_many x_row x_big x_k : PyData) : GJ [.is (.val x_script), .is (.val x_many), .is (.own x_row), .is (.val x_big), .nown, .nown, .nown] (fun ρ => (gmName 4) x_k ρ >>= (mIfS (mTest (mBin sGt (mVar 3) (mCon (.int 0)))) (mSeq (mAppend 2 (mBin sMod (mUn sInt (mPk 3)) (mCon (.int 1009)))) (mSet 3 (mBin sFDiv (mVar 3) (mCon (.int 1009))))) (mSkip))) (py__law_draws_v5_b4 x_row x_big x_k) (LpR (S := PyData × PyData) (fun s4 : PyData × PyData => ([.is (.val x_script), .is (.val x_many), .is (.own s4.1), .is (.val s4.2), .nown, .nown, .nown] : Cx1)) OQ) := by
  unfold py__law_draws_v5_b4
  exact (gt_name (bj_last (bj_if (xp_test (xp_bin (xp_var rfl) xp_con)) (bj_assoc (bj_app rfl (xp_bin (xp_un (xp_pkV rfl)) xp_con) fun x_row => (gj_eq (Γ' := [.is (.val x_script), .is (.val x_many), .is (.own x_row), .is (.val x_big), .is (.val x_k), .nown, .nown]) rfl (bj_set (xp_bin (xp_var rfl) xp_con) fun x_big => (gj_eq (Γ' := [.is (.val x_script), .is (.val x_many), .is (.own x_row), .is (.val x_big), .is (.val x_k), .nown, .nown]) rfl (bj_next (.same (.same (.same (.same (.nown (.same (.same .nil))))))))))))) (bj_skip (bj_next (.same (.same (.same (.same (.nown (.same (.same .nil))))))))))))
theorem y__law_draws_j1 (x_script x_many x_row x_big : PyData) : GJ [.is (.val x_script), .is (.val x_many), .is (.own x_row), .is (.val x_big), .nown, .nown, .nown] (mSeq (mIfS (mTest (mBin sGe (mVar 3) (mCon (.int 1000000000000000000)))) (mFor (iR1 (mVar 1)) (gmName 4) (mIfS (mTest (mBin sGt (mVar 3) (mCon (.int 0)))) (mSeq (mAppend 2 (mBin sMod (mUn sInt (mPk 3)) (mCon (.int 1009)))) (mSet 3 (mBin sFDiv (mVar 3) (mCon (.int 1009))))) (mSkip))) (mSkip)) (mSeq (mSet 5 (mCon (.int 825))) (mSeq (mFor (iR1 (mBin sSub (mVar 1) (mUn sLen (mPk 2)))) (gmName 4) (mSeq (mSet 6 (mVar 4)) (mSeq (mIfS (mTru (mPk 0)) (mSet 6 (mBin sMod (mUn sInt (mBin sIx (mVar 0) (mBin sMod (mBin sAdd (mVar 4) (mCon (.int 1))) (mUn sLen (mPk 0))))) (mCon (.int 2147483647)))) (mSkip)) (mSeq (mSet 5 (mBin sMod (mUn sInt (mBin sAdd (mBin sAdd (mBin sAdd (mBin sMul (mVar 5) (mCon (.int 48271))) (mVar 6)) (mBin sMul (mVar 4) (mCon (.int 69621)))) (mCon (.int 13)))) (mCon (.int 2147483647)))) (mAppend 2 (mBin sMod (mBin sFDiv (mBin sMod (mUn sInt (mBin sAdd (mBin sMul (mVar 5) (mCon (.int 16807))) (mCon (.int 54321)))) (mCon (.int 2147483647))) (mCon (.int 7))) (mCon (.int 1009)))))))) (mRetOwn 2)))) (py__law_draws_v5_j1 x_script x_many x_row x_big) OQ := by
  unfold py__law_draws_v5_j1
  exact (bj_if (xp_test (xp_bin (xp_var rfl) xp_con)) (bj_for (S := PyData × PyData) (L := (fun s4 : PyData × PyData => ([.is (.val x_script), .is (.val x_many), .is (.own s4.1), .is (.val s4.2), .nown, .nown, .nown] : Cx1))) (Q := OQ) (xi_r1 (xp_var rfl)) (.same (.same (.same (.same (.same (.same (.same .nil))))))) (fun s4 d => y__law_draws_b4 x_script x_many s4.1 s4.2 d) (fun s4 => (bj_weak (.same (.same (.same (.same (.same (.same (.same .nil))))))) (y__law_draws_j2 x_script x_many s4.1 s4.2))) (fun _ _ h => h)) (bj_skip (bj_weak (.same (.same (.same (.same (.same (.same (.same .nil))))))) (y__law_draws_j2 x_script x_many x_row x_big))))
theorem yo__law_draws (x_script x_many : PyData) : Rf (py__law_draws_v5 x_script x_many) (resO fm__law_draws [x_script, x_many]) := by
  unfold py__law_draws_v5 fm__law_draws
  refine fn_own ?_
  unfold bd__law_draws
  exact (bj_setO (xp_lst xp_nil) fun x_row => (gj_eq (Γ' := [.is (.val x_script), .is (.val x_many), .is (.own x_row), .nown, .nown, .nown, .nown]) rfl (bj_set (xp_if (xp_tru (xp_pkV rfl)) (xp_bin (xp_var rfl) xp_con) xp_con) fun x_big => (gj_eq (Γ' := [.is (.val x_script), .is (.val x_many), .is (.own x_row), .is (.val x_big), .nown, .nown, .nown]) rfl (bj_if (xp_test (xp_bin (xp_var rfl) xp_con)) (bj_set (xp_un (xp_pkV rfl)) fun x_big => (gj_eq (Γ' := [.is (.val x_script), .is (.val x_many), .is (.own x_row), .is (.val x_big), .nown, .nown, .nown]) rfl (bj_weak (.same (.same (.same (.same (.same (.same (.same .nil))))))) (y__law_draws_j1 x_script x_many x_row x_big)))) (bj_skip (bj_weak (.same (.same (.same (.same (.same (.same (.same .nil))))))) (y__law_draws_j1 x_script x_many x_row x_big))))))))
theorem yv__law_draws (x_script x_many : PyData) : Rf (pv__law_draws_v5 x_script x_many) (res fm__law_draws [x_script, x_many]) := by
  unfold pv__law_draws_v5 py__law_draws_v5 fm__law_draws
  refine fn_ownV ?_
  unfold bd__law_draws
  exact (bj_setO (xp_lst xp_nil) fun x_row => (gj_eq (Γ' := [.is (.val x_script), .is (.val x_many), .is (.own x_row), .nown, .nown, .nown, .nown]) rfl (bj_set (xp_if (xp_tru (xp_pkV rfl)) (xp_bin (xp_var rfl) xp_con) xp_con) fun x_big => (gj_eq (Γ' := [.is (.val x_script), .is (.val x_many), .is (.own x_row), .is (.val x_big), .nown, .nown, .nown]) rfl (bj_if (xp_test (xp_bin (xp_var rfl) xp_con)) (bj_set (xp_un (xp_pkV rfl)) fun x_big => (gj_eq (Γ' := [.is (.val x_script), .is (.val x_many), .is (.own x_row), .is (.val x_big), .nown, .nown, .nown]) rfl (bj_weak (.same (.same (.same (.same (.same (.same (.same .nil))))))) (y__law_draws_j1 x_script x_many x_row x_big)))) (bj_skip (bj_weak (.same (.same (.same (.same (.same (.same (.same .nil))))))) (y__law_draws_j1 x_script x_many x_row x_big))))))))
theorem y__law_take (x_draws x_many : PyData) : Rf (py__law_take x_draws x_many) (resW fm__law_take x_draws [x_many]) := by
  unfold py__law_take fm__law_take
  refine fn_w (n := 1) ?_
  unfold bd__law_take
  exact (bj_if (xp_notT (xp_tru (xp_pkO rfl))) (bj_ret (ret := fun v => (v, x_draws)) xp_con fun v ρ s => wq_val s rfl) (bj_skip (bj_last (bj_retE (j := 0) (ret := fun v x_draws => (v, x_draws)) rfl (xe_bin (xe_un (xe_pop (Nat.le_of_ble_eq_true rfl))) (xe_p fun _ => (xp_var rfl))) fun v x_draws ρ s => wq_val s rfl))))
theorem y__law_web_b1 (x_least x_most x_ties x_many x_draws x_out x_turn : PyData) : GJ [.is (.own x_draws), .is (.val x_least), .is (.val x_most), .is (.val x_ties), .is (.val x_many), .is (.own x_out), .nown, .nown, .nown] (fun ρ => (gmName 6) x_turn ρ >>= (mSeq (mPar 7 8 (mCons (mCallOwn fm__law_take 0 (mCons (mVar 4) (mNil))) (mCons (mCallOwn fm__law_take 0 (mCons (mBin sSub (mVar 4) (mCon (.int 1))) (mNil))) (mNil)))) (mSeq (mSet 8 (mIf (mTest (mBin sGe (mVar 8) (mVar 7))) (mBin sAdd (mVar 8) (mCon (.int 1))) (mVar 8))) (mAppend 5 (mTup (mCons (mBin sMin2 (mVar 7) (mVar 8)) (mCons (mBin sMax2 (mVar 7) (mVar 8)) (mNil)))))))) (py__law_web_b1 x_many x_draws x_out x_turn) (LpR (S := PyData × PyData) (fun s1 : PyData × PyData => ([.is (.own s1.1), .is (.val x_least), .is (.val x_most), .is (.val x_ties), .is (.val x_many), .is (.own s1.2), .nown, .nown, .nown] : Cx1)) WR) := by
  unfold py__law_web_b1
  exact (gt_name (bj_parE (l := 0) rfl (xe_callOwn (fun d => l1_ok (y__law_take d)) (Nat.le_of_ble_eq_true rfl) (xe_cons (xe_p fun _ => (xp_var rfl)) xe_nil)) (xe_callOwn (fun d => l1_ok (y__law_take d)) (Nat.le_of_ble_eq_true rfl) (xe_cons (xe_p fun _ => (xp_bin (xp_var rfl) xp_con)) xe_nil)) fun n_i n_j x_draws => (gj_eq (Γ' := [.is (.own x_draws), .is (.val x_least), .is (.val x_most), .is (.val x_ties), .is (.val x_many), .is (.own x_out), .is (.val x_turn), .is (.val n_i), .is (.val n_j)]) rfl (bj_set (xp_if (xp_test (xp_bin (xp_var rfl) (xp_var rfl))) (xp_bin (xp_var rfl) xp_con) (xp_var rfl)) fun x_j => (gj_eq (Γ' := [.is (.own x_draws), .is (.val x_least), .is (.val x_most), .is (.val x_ties), .is (.val x_many), .is (.own x_out), .is (.val x_turn), .is (.val n_i), .is (.val x_j)]) rfl (bj_last (bj_app rfl (xp_tup (xp_cons (xp_bin (xp_var rfl) (xp_var rfl)) (xp_cons (xp_bin (xp_var rfl) (xp_var rfl)) xp_nil))) fun x_out => (gj_eq (Γ' := [.is (.own x_draws), .is (.val x_least), .is (.val x_most), .is (.val x_ties), .is (.val x_many), .is (.own x_out), .is (.val x_turn), .is (.val n_i), .is (.val x_j)]) rfl (bj_next (.same (.same (.same (.same (.same (.same (.nown (.nown (.nown .nil))))))))))))))))))
theorem y__law_web (x_draws x_least x_most x_ties : PyData) : Rf (py__law_web x_draws x_least x_most x_ties) (resW fm__law_web x_draws [x_least, x_most, x_ties]) := by
  unfold py__law_web fm__law_web
  refine fn_w (n := 8) ?_
  unfold bd__law_web
  exact (bj_setE (j := 0) rfl (xe_bin (xe_p fun _ => (xp_var rfl)) (xe_callOwn (fun d => l1_ok (y__law_take d)) (Nat.le_of_ble_eq_true rfl) (xe_cons (xe_p fun _ => (xp_bin (xp_bin (xp_var rfl) (xp_var rfl)) xp_con)) xe_nil))) fun x_many x_draws => (gj_eq (Γ' := [.is (.own x_draws), .is (.val x_least), .is (.val x_most), .is (.val x_ties), .is (.val x_many), .nown, .nown, .nown, .nown]) rfl (bj_setO (xp_lst xp_nil) fun x_out => (gj_eq (Γ' := [.is (.own x_draws), .is (.val x_least), .is (.val x_most), .is (.val x_ties), .is (.val x_many), .is (.own x_out), .nown, .nown, .nown]) rfl (bj_forE (j := 0) (S := PyData × PyData) (L := (fun s1 : PyData × PyData => ([.is (.own s1.1), .is (.val x_least), .is (.val x_most), .is (.val x_ties), .is (.val x_many), .is (.own s1.2), .nown, .nown, .nown] : Cx1))) (Q := WR) rfl (xe_r1 (xe_if (xe_p fun _ => (xp_test (xp_bin (xp_var rfl) xp_con))) (xe_callOwn (fun d => l1_ok (y__law_take d)) (Nat.le_of_ble_eq_true rfl) (xe_cons (xe_p fun _ => (xp_bin (xp_var rfl) xp_con)) xe_nil)) (xe_p fun _ => xp_con))) (fun x_draws => (.same (.same (.same (.same (.same (.same (.same (.same (.same .nil)))))))))) (fun s1 d => y__law_web_b1 x_least x_most x_ties x_many s1.1 s1.2 d) (fun s1 => (bj_last (bj_ret (ret := fun v => (v, s1.1)) (xp_tup (xp_cons (xp_var rfl) (xp_cons (xp_un (xp_pkO rfl)) xp_nil))) fun v ρ s => wq_val s rfl))) (fun _ _ h => wq_r h))))))
theorem y__law_partings_b3 (x_some x_out x_one x_row x_later x_at : PyData) : GJ [.is (.val x_some), .is (.val x_out), .is (.val x_one), .is (.own x_later), .is (.val x_row), .nown] (fun ρ => (gmName 5) x_at ρ >>= (mAppend 3 (mBin sAdd (mBin sAdd (mSl (mVar 4) (oNo) (oIt (mVar 5))) (mTup (mCons (mBin sAdd (mBin sIx (mVar 4) (mVar 5)) (mTup (mCons (mVar 2) (mNil)))) (mNil)))) (mSl (mVar 4) (oIt (mBin sAdd (mVar 5) (mCon (.int 1)))) (oNo))))) (py__law_partings_b3 x_one x_row x_later x_at) (LpR (S := PyData) (fun s3 : PyData => ([.is (.val x_some), .is (.val x_out), .is (.val x_one), .is (.own s3), .is (.val x_row), .nown] : Cx1)) VR) := by
  unfold py__law_partings_b3
  exact (gt_name (bj_last (bj_app rfl (xp_bin (xp_bin (xp_sl (xp_var rfl) xo_no (xo_it (xp_var rfl))) (xp_tup (xp_cons (xp_bin (xp_bin (xp_var rfl) (xp_var rfl)) (xp_tup (xp_cons (xp_var rfl) xp_nil))) xp_nil))) (xp_sl (xp_var rfl) (xo_it (xp_bin (xp_var rfl) xp_con)) xo_no)) fun x_later => (gj_eq (Γ' := [.is (.val x_some), .is (.val x_out), .is (.val x_one), .is (.own x_later), .is (.val x_row), .is (.val x_at)]) rfl (bj_next (.same (.same (.same (.same (.same (.nown .nil)))))))))))
theorem y__law_partings_b2 (x_some x_out x_one x_later x_row : PyData) : GJ [.is (.val x_some), .is (.val x_out), .is (.val x_one), .is (.own x_later), .nown, .nown] (fun ρ => (gmName 4) x_row ρ >>= (mSeq (mAppend 3 (mBin sAdd (mVar 4) (mTup (mCons (mTup (mCons (mVar 2) (mNil))) (mNil))))) (mFor (iR1 (mUn sLen (mPk 4))) (gmName 5) (mAppend 3 (mBin sAdd (mBin sAdd (mSl (mVar 4) (oNo) (oIt (mVar 5))) (mTup (mCons (mBin sAdd (mBin sIx (mVar 4) (mVar 5)) (mTup (mCons (mVar 2) (mNil)))) (mNil)))) (mSl (mVar 4) (oIt (mBin sAdd (mVar 5) (mCon (.int 1)))) (oNo))))))) (py__law_partings_b2 x_one x_later x_row) (LpR (S := PyData) (fun s2 : PyData => ([.is (.val x_some), .is (.val x_out), .is (.val x_one), .is (.own s2), .nown, .nown] : Cx1)) VR) := by
  unfold py__law_partings_b2
  exact (gt_name (bj_app rfl (xp_bin (xp_var rfl) (xp_tup (xp_cons (xp_tup (xp_cons (xp_var rfl) xp_nil)) xp_nil))) fun x_later => (gj_eq (Γ' := [.is (.val x_some), .is (.val x_out), .is (.val x_one), .is (.own x_later), .is (.val x_row), .nown]) rfl (bj_last (bj_for (S := PyData) (L := (fun s3 : PyData => ([.is (.val x_some), .is (.val x_out), .is (.val x_one), .is (.own s3), .is (.val x_row), .nown] : Cx1))) (Q := VR) (xi_r1 (xp_un (xp_pkV rfl))) (.same (.same (.same (.same (.same (.same .nil)))))) (fun s3 d => y__law_partings_b3 x_some x_out x_one x_row s3 d) (fun s3 => (bj_next (.same (.same (.same (.same (.nown (.same .nil)))))))) (fun _ _ h => ⟨h, vr_rt h⟩))))))
theorem y__law_partings_b1 (x_some x_out x_one : PyData) : GJ [.is (.val x_some), .is (.val x_out), .nown, .any, .nown, .nown] (fun ρ => (gmName 2) x_one ρ >>= (mSeq (mSetO 3 (mLst (mNil))) (mSeq (mFor (iLst (mVar 1)) (gmName 4) (mSeq (mAppend 3 (mBin sAdd (mVar 4) (mTup (mCons (mTup (mCons (mVar 2) (mNil))) (mNil))))) (mFor (iR1 (mUn sLen (mPk 4))) (gmName 5) (mAppend 3 (mBin sAdd (mBin sAdd (mSl (mVar 4) (oNo) (oIt (mVar 5))) (mTup (mCons (mBin sAdd (mBin sIx (mVar 4) (mVar 5)) (mTup (mCons (mVar 2) (mNil)))) (mNil)))) (mSl (mVar 4) (oIt (mBin sAdd (mVar 5) (mCon (.int 1)))) (oNo))))))) (mGive 1 3)))) (py__law_partings_b1 x_out x_one) (LpR (S := PyData) (fun s1 : PyData => ([.is (.val x_some), .is (.val s1), .nown, .any, .nown, .nown] : Cx1)) VR) := by
  unfold py__law_partings_b1
  exact (gt_name (bj_setO (xp_lst xp_nil) fun x_later => (gj_eq (Γ' := [.is (.val x_some), .is (.val x_out), .is (.val x_one), .is (.own x_later), .nown, .nown]) rfl (bj_for (S := PyData) (L := (fun s2 : PyData => ([.is (.val x_some), .is (.val x_out), .is (.val x_one), .is (.own s2), .nown, .nown] : Cx1))) (Q := VR) (xi_lst (xp_var rfl)) (.same (.same (.same (.same (.same (.same .nil)))))) (fun s2 d => y__law_partings_b2 x_some x_out x_one s2 d) (fun s2 => (bj_last (bj_give rfl fun x_out => (gj_eq (Γ' := [.is (.val x_some), .is (.val x_out), .is (.val x_one), .is (.val x_out), .nown, .nown]) rfl (bj_next (.same (.same (.nown (.any (.same (.same .nil))))))))))) (fun _ _ h => ⟨h, vr_rt h⟩)))))
theorem y__law_partings (x_some : PyData) : Rf (py__law_partings x_some) (res fm__law_partings [x_some]) := by
  unfold py__law_partings fm__law_partings
  refine fn_val ?_
  unfold bd__law_partings
  exact (bj_set (xp_lst (xp_cons (xp_tup xp_nil) xp_nil)) fun x_out => (gj_eq (Γ' := [.is (.val x_some), .is (.val x_out), .nown, .nown, .nown, .nown]) rfl (bj_for (S := PyData) (L := (fun s1 : PyData => ([.is (.val x_some), .is (.val s1), .nown, .any, .nown, .nown] : Cx1))) (Q := VR) (xi_lst (xp_var rfl)) (.same (.same (.same (.any (.same (.same .nil)))))) (fun s1 d => y__law_partings_b1 x_some s1 d) (fun s1 => (bj_last (bj_ret1 (xp_un (xp_pkV rfl)) fun v ρ s => vq_val v ρ))) (fun _ _ h => vq_r h))))
theorem y__law_between_b2 (x_web x_parting x_at x_where x_place : PyData) : GJ [.is (.val x_web), .is (.val x_parting), .is (.own x_where), .is (.val x_at), .nown, .nown, .nown] (fun ρ => (gmName 4) x_place ρ >>= (mDPutK 2 (mVar 4) (mVar 3))) (py__law_between_b2 x_at x_where x_place) (LpR (S := PyData) (fun s2 : PyData => ([.is (.val x_web), .is (.val x_parting), .is (.own s2), .is (.val x_at), .nown, .nown, .nown] : Cx1)) VR) := by
  unfold py__law_between_b2
  exact (gt_name (bj_last (bj_dputK rfl (xp_var rfl) (xp_var rfl) fun x_where => (gj_eq (Γ' := [.is (.val x_web), .is (.val x_parting), .is (.own x_where), .is (.val x_at), .is (.val x_place), .nown, .nown]) rfl (bj_next (.same (.same (.same (.same (.nown (.same (.same .nil))))))))))))
theorem y__law_between_b1 (x_web x_parting x_where x_at : PyData) : GJ [.is (.val x_web), .is (.val x_parting), .is (.own x_where), .nown, .nown, .nown, .nown] (fun ρ => (gmName 3) x_at ρ >>= (mFor (iTpl (mBin sIx (mVar 1) (mVar 3))) (gmName 4) (mDPutK 2 (mVar 4) (mVar 3)))) (py__law_between_b1 x_parting x_where x_at) (LpR (S := PyData) (fun s1 : PyData => ([.is (.val x_web), .is (.val x_parting), .is (.own s1), .nown, .nown, .nown, .nown] : Cx1)) VR) := by
  unfold py__law_between_b1
  exact (gt_name (bj_last (bj_for (S := PyData) (L := (fun s2 : PyData => ([.is (.val x_web), .is (.val x_parting), .is (.own s2), .is (.val x_at), .nown, .nown, .nown] : Cx1))) (Q := VR) (xi_tpl (xp_bin (xp_var rfl) (xp_var rfl))) (.same (.same (.same (.same (.same (.same (.same .nil))))))) (fun s2 d => y__law_between_b2 x_web x_parting x_at s2 d) (fun s2 => (bj_next (.same (.same (.same (.nown (.same (.same (.same .nil))))))))) (fun _ _ h => ⟨h, vr_rt h⟩))))
theorem y__law_between (x_web x_parting : PyData) : Rf (py__law_between x_web x_parting) (res fm__law_between [x_web, x_parting]) := by
  unfold py__law_between fm__law_between
  refine fn_val ?_
  unfold bd__law_between
  exact (bj_setO xp_dnewK fun x_where => (gj_eq (Γ' := [.is (.val x_web), .is (.val x_parting), .is (.own x_where), .nown, .nown, .nown, .nown]) rfl (bj_for (S := PyData) (L := (fun s1 : PyData => ([.is (.val x_web), .is (.val x_parting), .is (.own s1), .nown, .nown, .nown, .nown] : Cx1))) (Q := VR) (xi_r1 (xp_un (xp_pkV rfl))) (.same (.same (.same (.same (.same (.same (.same .nil))))))) (fun s1 d => y__law_between_b1 x_web x_parting s1 d) (fun s1 => (bj_set (xp_lc (xi_r1 (xp_un (xp_bin (xp_var rfl) xp_con))) (no_own1 rfl no_own0) fun x_n => (gt_name (gt_test (xp_andT (xp_test (xp_dinK rfl (xp_bin (xp_bin (xp_bin (xp_var rfl) xp_con) (xp_var rfl)) xp_con))) (xp_test (xp_dinK rfl (xp_bin (xp_bin (xp_bin (xp_var rfl) xp_con) (xp_var rfl)) xp_con)))) (xp_var rfl) (.same (.same (.same (.same (.same (.same (.any .nil)))))))))) fun x_some => (gj_eq (Γ' := [.is (.val x_web), .is (.val x_parting), .is (.own s1), .nown, .nown, .is (.val x_some), .nown]) rfl (bj_last (bj_ret1 (xp_un (xp_lc (xi_lst (xp_var rfl)) (no_own1 rfl no_own0) fun x_n => (gt_name (gt_test (xp_test (xp_bin (xp_dgetK rfl (xp_bin (xp_bin (xp_bin (xp_var rfl) xp_con) (xp_var rfl)) xp_con)) (xp_dgetK rfl (xp_bin (xp_bin (xp_bin (xp_var rfl) xp_con) (xp_var rfl)) xp_con)))) (xp_var rfl) (.same (.same (.same (.same (.same (.same (.any .nil))))))))))) fun v ρ s => vq_val v ρ))))) (fun _ _ h => vq_r h))))
theorem y__law_inside (x_web x_places : PyData) : Rf (py__law_inside x_web x_places) (res fm__law_inside [x_web, x_places]) := by
  unfold py__law_inside fm__law_inside
  refine fn_val ?_
  unfold bd__law_inside
  exact (bj_last (bj_ret1 (xp_un (xp_lc (xi_r1 (xp_un (xp_bin (xp_var rfl) xp_con))) (no_own1 rfl no_own0) fun x_n => (gt_name (gt_test (xp_andT (xp_test (xp_bin (xp_bin (xp_bin (xp_bin (xp_var rfl) xp_con) (xp_var rfl)) xp_con) (xp_var rfl))) (xp_test (xp_bin (xp_bin (xp_bin (xp_bin (xp_var rfl) xp_con) (xp_var rfl)) xp_con) (xp_var rfl)))) (xp_var rfl) (.same (.same (.any .nil))))))) fun v ρ s => vq_val v ρ))
theorem y_hk07_law_name_j2 (a : Addr) (c : Str) (x_names : PyData) : GJ [.nown, .is (.raw (.ref a)), .is (.own x_names)] (mSeq (mIfS (mTru (mIsE 1 a (isx_k07 c "NoWeb"))) (mAppend 2 (mCon (.str "NoWeb"))) (mSkip)) (mRet (mIf (tmAnd (mTest (mBin sEq (mUn sLen (mPk 2)) (mCon (.int 1)))) (mTru (mIsE 1 a (isx_k07 c "ValueError")))) (mIxOwn 2 (mCon (.int 0))) (mCon (.str "strange"))))) (py_hk07_law_name_j2 c x_names) VQ := by
  unfold py_hk07_law_name_j2
  exact (bj_if (xp_tru (xp_isE rfl)) (bj_app rfl xp_con fun x_names => (gj_eq (Γ' := [.nown, .is (.raw (.ref a)), .is (.own x_names)]) rfl (bj_last (bj_ret1 (xp_if (xp_andT (xp_test (xp_bin (xp_un (xp_pkO rfl)) xp_con)) (xp_tru (xp_isE rfl))) (xp_ixOwn rfl xp_con) xp_con) fun v ρ s => vq_val v ρ)))) (bj_skip (bj_last (bj_ret1 (xp_if (xp_andT (xp_test (xp_bin (xp_un (xp_pkO rfl)) xp_con)) (xp_tru (xp_isE rfl))) (xp_ixOwn rfl xp_con) xp_con) fun v ρ s => vq_val v ρ))))
theorem y_hk07_law_name_j1 (a : Addr) (c : Str) (x_names : PyData) : GJ [.nown, .is (.raw (.ref a)), .is (.own x_names)] (mSeq (mIfS (mTru (mIsE 1 a (isx_k07 c "NoPlaces"))) (mAppend 2 (mCon (.str "NoPlaces"))) (mSkip)) (mSeq (mIfS (mTru (mIsE 1 a (isx_k07 c "NoWeb"))) (mAppend 2 (mCon (.str "NoWeb"))) (mSkip)) (mRet (mIf (tmAnd (mTest (mBin sEq (mUn sLen (mPk 2)) (mCon (.int 1)))) (mTru (mIsE 1 a (isx_k07 c "ValueError")))) (mIxOwn 2 (mCon (.int 0))) (mCon (.str "strange")))))) (py_hk07_law_name_j1 c x_names) VQ := by
  unfold py_hk07_law_name_j1
  exact (bj_if (xp_tru (xp_isE rfl)) (bj_app rfl xp_con fun x_names => (gj_eq (Γ' := [.nown, .is (.raw (.ref a)), .is (.own x_names)]) rfl (bj_weak (.same (.same (.same .nil))) (y_hk07_law_name_j2 a c x_names)))) (bj_skip (bj_weak (.same (.same (.same .nil))) (y_hk07_law_name_j2 a c x_names))))
theorem yh__law_name (a : Addr) (c : Str) : GJ [.nown, .is (.raw (.ref a)), .nown] (ms__law_name a c) (hd_k07_law_name c) VQ := by
  unfold hd_k07_law_name ms__law_name
  exact (bj_setO (xp_lst xp_nil) fun x_names => (gj_eq (Γ' := [.nown, .is (.raw (.ref a)), .is (.own x_names)]) rfl (bj_if (xp_tru (xp_isE rfl)) (bj_app rfl xp_con fun x_names => (gj_eq (Γ' := [.nown, .is (.raw (.ref a)), .is (.own x_names)]) rfl (bj_weak (.same (.same (.same .nil))) (y_hk07_law_name_j1 a c x_names)))) (bj_skip (bj_weak (.same (.same (.same .nil))) (y_hk07_law_name_j1 a c x_names))))))
theorem hd_str_k07_law_name : ∀ c ∈ cl_k07, ∃ s, hd_k07_law_name c = .ok (.str s) := fun c hc => by
  simp only [cl_k07, List.mem_cons, List.mem_nil_iff, or_false] at hc
  rcases hc with rfl | rfl | rfl | rfl <;> exact ⟨_, rfl⟩
theorem res__law_name : ∀ c ∈ cl_k07, ∀ a : Addr, ∃ g w ρ', ms__law_name a c ((List.replicate 3 none).set 1 (some (.raw (.ref a)))) = .ok (.rt (.val g), ρ') ∧ hd_k07_law_name c = .ok g ∧ atomV g = some w := fun c hc a => by
  obtain ⟨s, e⟩ := hd_str_k07_law_name c hc
  exact hd_res (N := ["ask", "error", "names"]) (by decide) (yh__law_name a c) e rfl (fun z => nomatch z)
theorem y__law_near (x_draws x_web x_parting : PyData) : Rf (py__law_near x_draws x_web x_parting) (resW fm__law_near x_draws [x_web, x_parting]) := by
  unfold py__law_near fm__law_near
  refine fn_w (n := 5) ?_
  unfold bd__law_near
  exact (bj_set (xp_bin (xp_var rfl) xp_con) fun x_many => (gj_eq (Γ' := [.is (.own x_draws), .is (.val x_web), .is (.val x_parting), .is (.val x_many), .nown, .nown]) rfl (bj_setO (xp_lst (xp_cons xp_con (xp_cons (xp_tup xp_nil) (xp_cons (xp_un (xp_pkV rfl)) (xp_cons (xp_bin (xp_var rfl) (xp_tup (xp_cons (xp_tup xp_nil) xp_nil))) (xp_cons (xp_bin (xp_var rfl) (xp_tup (xp_cons (xp_tup (xp_cons (xp_var rfl) xp_nil)) xp_nil))) (xp_cons (xp_bin (xp_var rfl) (xp_tup (xp_cons (xp_tup (xp_cons xp_con xp_nil)) xp_nil))) (xp_cons (xp_sl (xp_var rfl) (xo_it xp_con) xo_no) (xp_cons (xp_bin (xp_tup (xp_cons (xp_rgT (xi_r1 (xp_var rfl))) xp_nil)) xp_con) xp_nil))))))))) fun x_some => (gj_eq (Γ' := [.is (.own x_draws), .is (.val x_web), .is (.val x_parting), .is (.val x_many), .is (.own x_some), .nown]) rfl (bj_setO (xp_addOwn rfl (xp_lst (xp_cons (xp_un (xp_lc (xi_tpl (xp_var rfl)) (no_own1 rfl no_own0) fun x_lot => (gt_name (gt_elt (xp_un (xp_pkV rfl)) (.same (.same (.same (.same (.same (.any .nil)))))))))) (xp_cons (xp_bin (xp_tup (xp_cons (xp_tup (xp_cons xp_con (xp_cons xp_con xp_nil))) xp_nil)) (xp_sl (xp_var rfl) (xo_it xp_con) xo_no)) (xp_cons (xp_tup (xp_cons (xp_bin (xp_un (xp_rgT (xi_r1 (xp_var rfl)))) (xp_tup (xp_cons xp_con xp_nil))) xp_nil)) (xp_cons (xp_bin (xp_tup (xp_cons (xp_tup (xp_cons xp_con xp_nil)) xp_nil)) (xp_var rfl)) xp_nil)))))) fun x_some => (gj_eq (Γ' := [.is (.own x_draws), .is (.val x_web), .is (.val x_parting), .is (.val x_many), .is (.own x_some), .nown]) rfl (bj_if (xp_test (xp_bin (xp_un (xp_pkV rfl)) xp_con)) (bj_app rfl (xp_un (xp_var rfl)) fun x_some => (gj_eq (Γ' := [.is (.own x_draws), .is (.val x_web), .is (.val x_parting), .is (.val x_many), .is (.own x_some), .nown]) rfl (bj_last (bj_retE (j := 0) (ret := fun v x_draws => (v, x_draws)) rfl (xe_ixOwn (by decide) rfl (xe_callOwn (fun d => l1_ok (y__law_take d)) (Nat.le_of_ble_eq_true rfl) (xe_cons (xe_p fun _ => (xp_un (xp_pkO rfl))) xe_nil))) fun v x_draws ρ s => wq_val s rfl)))) (bj_skip (bj_last (bj_retE (j := 0) (ret := fun v x_draws => (v, x_draws)) rfl (xe_ixOwn (by decide) rfl (xe_callOwn (fun d => l1_ok (y__law_take d)) (Nat.le_of_ble_eq_true rfl) (xe_cons (xe_p fun _ => (xp_un (xp_pkO rfl))) xe_nil))) fun v x_draws ρ s => wq_val s rfl))))))))))
theorem y_law_b2 (tP : Addr) (x_script x_draws x_web x_every x_turn x_parting x_places x_whole x_lot : PyData) : GJ [.is (.val x_script), .is (.own x_draws), .is (.val x_web), .is (.val x_every), .is (.val x_turn), .is (.val x_parting), .is (.val x_places), .is (.own x_whole), .nown, .nown, .nown, .is (.own (.tuple [.str "law.<locals>.<lambda>", .int (tP : Int)]))] (fun ρ => (gmName 8) x_lot ρ >>= (mExtend 7 (mUn sList (mCall fm_inside (mCons (mVar 2) (mCons (mVar 8) (mNil))))))) (py_law_v6_b2 x_web x_whole x_lot) (LpR (S := PyData) (fun s2 : PyData => ([.is (.val x_script), .is (.own x_draws), .is (.val x_web), .is (.val x_every), .is (.val x_turn), .is (.val x_parting), .is (.val x_places), .is (.own s2), .nown, .nown, .nown, .is (.own (.tuple [.str "law.<locals>.<lambda>", .int (tP : Int)]))] : Cx1)) VR) := by
  unfold py_law_v6_b2
  exact (gt_name (bj_last (bj_ext rfl (xp_un (XP.to (xp_call (l2_ok y_inside) (xp_cons (xp_var rfl) (xp_cons (xp_var rfl) xp_nil))) c2_eq)) fun x_whole => (gj_eq (Γ' := [.is (.val x_script), .is (.own x_draws), .is (.val x_web), .is (.val x_every), .is (.val x_turn), .is (.val x_parting), .is (.val x_places), .is (.own x_whole), .is (.val x_lot), .nown, .nown, .is (.own (.tuple [.str "law.<locals>.<lambda>", .int (tP : Int)]))]) rfl (bj_next (.same (.same (.same (.same (.same (.same (.same (.same (.nown (.same (.same (.same .nil)))))))))))))))))
theorem y_law_b1 (tP : Addr) (x_script x_web x_every x_draws x_turn : PyData) : GJ [.is (.val x_script), .is (.own x_draws), .is (.val x_web), .is (.val x_every), .nown, .nown, .nown, .any, .nown, .nown, .nown, .is (.own (.tuple [.str "law.<locals>.<lambda>", .int (tP : Int)]))] (fun ρ => (gmName 4) x_turn ρ >>= (mSeq (mSet 5 (mUn sTuple (mUn sSorted (mBin sIx (mVar 3) (mCallOwn fm__law_take 1 (mCons (mUn sLen (mPk 3)) (mNil))))))) (mSeq (mSet 6 (mUn sTuple (mLc (iR1 (mBin sIx (mVar 2) (mCon (.int 0)))) [10] (gmName 10) (mTest (mBin sEq (mCallOwn fm__law_take 1 (mCons (mCon (.int 2)) (mNil))) (mCon (.int 0)))) (mVar 10)))) (mSeq (mIfS (tmOr (mTest (mBin sNotB (mCall fm_is_parting (mCons (mVar 2) (mCons (mVar 5) (mNil)))) (mCon (.bool true)))) (mTest (mBin sNe (mCall fm_between (mCons (mVar 2) (mCons (mVar 5) (mNil)))) (mCall fm__law_between (mCons (mVar 2) (mCons (mVar 5) (mNil))))))) (mRet (mCon (.bool false))) (mSkip)) (mSeq (mIfS (mTest (mBin sNe (mCall fm_inside (mCons (mVar 2) (mCons (mVar 6) (mNil)))) (mCall fm__law_inside (mCons (mVar 2) (mCons (mVar 6) (mNil)))))) (mRet (mCon (.bool false))) (mSkip)) (mSeq (mSetO 7 (mUn sList (mCall fm_between (mCons (mVar 2) (mCons (mVar 5) (mNil)))))) (mSeq (mFor (iTpl (mVar 5)) (gmName 8) (mExtend 7 (mUn sList (mCall fm_inside (mCons (mVar 2) (mCons (mVar 8) (mNil))))))) (mSeq (mIfS (mTest (mBin sNe (mUn sSorted (mPk 7)) (mRg (iR1 (mUn sLen (mBin sIx (mVar 2) (mCon (.int 1)))))))) (mRet (mCon (.bool false))) (mSkip)) (mSeq (mSet 9 (mCallOwn fm__law_near 1 (mCons (mVar 2) (mCons (mVar 5) (mNil))))) (mIfS (tmOr (mTest (mBin sNotB (mCall fm_is_parting (mCons (mVar 2) (mCons (mVar 9) (mNil)))) (mCon (.bool false)))) (mTest (mBin sNe (mLam 11 tP "law.<locals>.<lambda>" cl_k07 "none" hd_k07_law_name (mCall fm_between (mCons (mVar 2) (mCons (mVar 9) (mNil))))) (mCon (.str "NoParting"))))) (mRet (mCon (.bool false))) (mSkip))))))))))) (py_law_v6_b1 x_web x_every x_draws x_turn) (LpR (S := PyData) (fun s1 : PyData => ([.is (.val x_script), .is (.own s1), .is (.val x_web), .is (.val x_every), .nown, .nown, .nown, .any, .nown, .nown, .nown, .is (.own (.tuple [.str "law.<locals>.<lambda>", .int (tP : Int)]))] : Cx1)) VR) := by
  unfold py_law_v6_b1
  exact (gt_name (bj_setE (j := 1) rfl (xe_un (xe_un (xe_bin (xe_p fun _ => (xp_var rfl)) (xe_callOwn (fun d => l1_ok (y__law_take d)) (Nat.le_of_ble_eq_true rfl) (xe_cons (xe_p fun _ => (xp_un (xp_pkV rfl))) xe_nil))))) fun x_parting x_draws => (gj_eq (Γ' := [.is (.val x_script), .is (.own x_draws), .is (.val x_web), .is (.val x_every), .is (.val x_turn), .is (.val x_parting), .nown, .any, .nown, .nown, .nown, .is (.own (.tuple [.str "law.<locals>.<lambda>", .int (tP : Int)]))]) rfl (bj_setE (j := 1) rfl (xe_un (xe_lc (j := 1) (xe_p fun _ => (xi_r1 (xp_bin (xp_var rfl) xp_con))) (fun _ => (no_own1 rfl no_own0)) (by decide) fun x_place dd => (gt_name (ge_test (j := 1) rfl (xe_test (xe_bin (xe_callOwn (fun d => l1_ok (y__law_take d)) (Nat.le_of_ble_eq_true rfl) (xe_cons (xe_p fun _ => xp_con) xe_nil)) (xe_p fun _ => xp_con))) (xe_p fun _ => (xp_var rfl)) fun _ => (.same (.same (.same (.same (.same (.same (.same (.same (.same (.same (.any (.same .nil)))))))))))))))) fun x_places x_draws => (gj_eq (Γ' := [.is (.val x_script), .is (.own x_draws), .is (.val x_web), .is (.val x_every), .is (.val x_turn), .is (.val x_parting), .is (.val x_places), .any, .nown, .nown, .nown, .is (.own (.tuple [.str "law.<locals>.<lambda>", .int (tP : Int)]))]) rfl (bj_if (xp_orT (xp_test (xp_bin (XP.to (xp_call (l2_ok y_is_parting) (xp_cons (xp_var rfl) (xp_cons (xp_var rfl) xp_nil))) c2_eq) xp_con)) (xp_test (xp_bin (XP.to (xp_call (l2_ok y_between) (xp_cons (xp_var rfl) (xp_cons (xp_var rfl) xp_nil))) c2_eq) (XP.to (xp_call (l2_ok y__law_between) (xp_cons (xp_var rfl) (xp_cons (xp_var rfl) xp_nil))) c2_eq)))) (bj_ret (ret := fun v => (Lp.rt v)) xp_con fun v ρ s => vr_valL v ρ) (bj_skip (bj_if (xp_test (xp_bin (XP.to (xp_call (l2_ok y_inside) (xp_cons (xp_var rfl) (xp_cons (xp_var rfl) xp_nil))) c2_eq) (XP.to (xp_call (l2_ok y__law_inside) (xp_cons (xp_var rfl) (xp_cons (xp_var rfl) xp_nil))) c2_eq))) (bj_ret (ret := fun v => (Lp.rt v)) xp_con fun v ρ s => vr_valL v ρ) (bj_skip (bj_setO (xp_un (XP.to (xp_call (l2_ok y_between) (xp_cons (xp_var rfl) (xp_cons (xp_var rfl) xp_nil))) c2_eq)) fun x_whole => (gj_eq (Γ' := [.is (.val x_script), .is (.own x_draws), .is (.val x_web), .is (.val x_every), .is (.val x_turn), .is (.val x_parting), .is (.val x_places), .is (.own x_whole), .nown, .nown, .nown, .is (.own (.tuple [.str "law.<locals>.<lambda>", .int (tP : Int)]))]) rfl (bj_for (S := PyData) (L := (fun s2 : PyData => ([.is (.val x_script), .is (.own x_draws), .is (.val x_web), .is (.val x_every), .is (.val x_turn), .is (.val x_parting), .is (.val x_places), .is (.own s2), .nown, .nown, .nown, .is (.own (.tuple [.str "law.<locals>.<lambda>", .int (tP : Int)]))] : Cx1))) (Q := VR) (xi_tpl (xp_var rfl)) (.same (.same (.same (.same (.same (.same (.same (.same (.same (.same (.same (.same .nil)))))))))))) (fun s2 d => y_law_b2 tP x_script x_draws x_web x_every x_turn x_parting x_places s2 d) (fun s2 => (bj_if (xp_test (xp_bin (xp_un (xp_pkO rfl)) (xp_rg (xi_r1 (xp_un (xp_bin (xp_var rfl) xp_con)))))) (bj_ret (ret := fun v => (Lp.rt v)) xp_con fun v ρ s => vr_valL v ρ) (bj_skip (bj_setE (j := 1) rfl (xe_callOwn (fun d => l2_ok (y__law_near d)) (Nat.le_of_ble_eq_true rfl) (xe_cons (xe_p fun _ => (xp_var rfl)) (xe_cons (xe_p fun _ => (xp_var rfl)) xe_nil))) fun x_bad x_draws => (gj_eq (Γ' := [.is (.val x_script), .is (.own x_draws), .is (.val x_web), .is (.val x_every), .is (.val x_turn), .is (.val x_parting), .is (.val x_places), .is (.own s2), .nown, .is (.val x_bad), .nown, .is (.own (.tuple [.str "law.<locals>.<lambda>", .int (tP : Int)]))]) rfl (bj_last (bj_if (xp_orT (xp_test (xp_bin (XP.to (xp_call (l2_ok y_is_parting) (xp_cons (xp_var rfl) (xp_cons (xp_var rfl) xp_nil))) c2_eq) xp_con)) (xp_test (xp_bin (xp_lam rfl (XP.to (xp_call (l2_ok y_between) (xp_cons (xp_var rfl) (xp_cons (xp_var rfl) xp_nil))) c2_eq)) xp_con))) (bj_ret (ret := fun v => (Lp.rt v)) xp_con fun v ρ s => vr_valL v ρ) (bj_skip (bj_next (.same (.same (.same (.same (.nown (.nown (.nown (.any (.same (.nown (.same (.same .nil))))))))))))))))))))) (fun _ _ h => ⟨h, vr_rt h⟩)))))))))))))
theorem y_law_b3 (tP : Addr) (x_script x_draws x_web x_every x_bad : PyData) : GJ [.is (.val x_script), .is (.own x_draws), .is (.val x_web), .is (.val x_every), .nown, .nown, .nown, .any, .nown, .nown, .nown, .is (.own (.tuple [.str "law.<locals>.<lambda>", .int (tP : Int)]))] (fun ρ => (gmName 9) x_bad ρ >>= (mIfS (mTest (mBin sNe (mLam 11 tP "law.<locals>.<lambda>" cl_k07 "none" hd_k07_law_name (mCall fm_inside (mCons (mVar 2) (mCons (mVar 9) (mNil))))) (mCon (.str "NoPlaces")))) (mRet (mCon (.bool false))) (mSkip))) (py_law_v6_b3 x_web x_bad) (LpR (S := Unit) (fun s3 : Unit => ([.is (.val x_script), .is (.own x_draws), .is (.val x_web), .is (.val x_every), .nown, .nown, .nown, .any, .nown, .nown, .nown, .is (.own (.tuple [.str "law.<locals>.<lambda>", .int (tP : Int)]))] : Cx1)) VR) := by
  unfold py_law_v6_b3
  exact (gt_name (bj_last (bj_if (xp_test (xp_bin (xp_lam rfl (XP.to (xp_call (l2_ok y_inside) (xp_cons (xp_var rfl) (xp_cons (xp_var rfl) xp_nil))) c2_eq)) xp_con)) (bj_ret (ret := fun v => (Lp.rt v)) xp_con fun v ρ s => vr_valL v ρ) (bj_skip (bj_next (.same (.same (.same (.same (.same (.same (.same (.same (.same (.nown (.same (.same .nil)))))))))))))))))
theorem y_law (tP : Addr) (x_script : PyData) : GJ [.is (.val x_script), .nown, .nown, .nown, .nown, .nown, .nown, .nown, .nown, .nown, .nown, .is (.own (.tuple [.str "law.<locals>.<lambda>", .int (tP : Int)]))] (bd_law tP ) (py_law_v6 x_script) VQ := by
  unfold py_law_v6 bd_law
  exact (bj_setO (XP.to (xp_callO (l2_ok yo__law_draws) (xp_cons (xp_var rfl) (xp_cons xp_con xp_nil))) c2_eq) fun x_draws => (gj_eq (Γ' := [.is (.val x_script), .is (.own x_draws), .nown, .nown, .nown, .nown, .nown, .nown, .nown, .nown, .nown, .is (.own (.tuple [.str "law.<locals>.<lambda>", .int (tP : Int)]))]) rfl (bj_setE (j := 1) rfl (xe_callOwn (fun d => l3_ok (y__law_web d)) (Nat.le_of_ble_eq_true rfl) (xe_cons (xe_p fun _ => xp_con) (xe_cons (xe_p fun _ => xp_con) (xe_cons (xe_p fun _ => xp_con) xe_nil)))) fun x_web x_draws => (gj_eq (Γ' := [.is (.val x_script), .is (.own x_draws), .is (.val x_web), .nown, .nown, .nown, .nown, .nown, .nown, .nown, .nown, .is (.own (.tuple [.str "law.<locals>.<lambda>", .int (tP : Int)]))]) rfl (bj_set (XP.to (xp_call (l1_ok y__law_partings) (xp_cons (xp_rg (xi_r1 (xp_bin (xp_var rfl) xp_con))) xp_nil)) c1_eq) fun x_every => (gj_eq (Γ' := [.is (.val x_script), .is (.own x_draws), .is (.val x_web), .is (.val x_every), .nown, .nown, .nown, .nown, .nown, .nown, .nown, .is (.own (.tuple [.str "law.<locals>.<lambda>", .int (tP : Int)]))]) rfl (bj_for (S := PyData) (L := (fun s1 : PyData => ([.is (.val x_script), .is (.own s1), .is (.val x_web), .is (.val x_every), .nown, .nown, .nown, .any, .nown, .nown, .nown, .is (.own (.tuple [.str "law.<locals>.<lambda>", .int (tP : Int)]))] : Cx1))) (Q := VR) (xi_r1 xp_con) (.same (.same (.same (.same (.same (.same (.same (.any (.same (.same (.same (.same .nil)))))))))))) (fun s1 d => y_law_b1 tP x_script x_web x_every s1 d) (fun s1 => (bj_if (xp_test (xp_bin (XP.to (xp_call (l2_ok y_between) (xp_cons (xp_var rfl) (xp_cons (XP.to (xp_call (l2_ok y_parts_by) (xp_cons (xp_var rfl) (xp_cons (xp_rgT (xi_r1 (xp_un (xp_bin (xp_var rfl) xp_con)))) xp_nil))) c2_eq) xp_nil))) c2_eq) (xp_tup xp_nil))) (bj_ret1 xp_con fun v ρ s => vq_val v ρ) (bj_skip (bj_for (S := Unit) (L := (fun s3 : Unit => ([.is (.val x_script), .is (.own s1), .is (.val x_web), .is (.val x_every), .nown, .nown, .nown, .any, .nown, .nown, .nown, .is (.own (.tuple [.str "law.<locals>.<lambda>", .int (tP : Int)]))] : Cx1))) (Q := VR) (xi_tpl (xp_tup (xp_cons (xp_tup (xp_cons (xp_bin (xp_var rfl) xp_con) xp_nil)) (xp_cons (xp_tup (xp_cons xp_con (xp_cons xp_con xp_nil))) (xp_cons (xp_lst (xp_cons xp_con xp_nil)) (xp_cons xp_con (xp_cons (xp_tup (xp_cons (xp_un xp_con) xp_nil)) (xp_cons (xp_tup (xp_cons xp_con xp_nil)) xp_nil)))))))) (.same (.same (.same (.same (.same (.same (.same (.same (.same (.same (.same (.same .nil)))))))))))) (fun s3 d => y_law_b3 tP x_script s1 x_web x_every d) (fun s3 => (bj_last (bj_ret1 xp_con fun v ρ s => vq_val v ρ))) (fun _ _ h => vq_r h))))) (fun _ _ h => vq_r h))))))))
end ZZ

namespace ZZ
open PySem PySem.Spec PyProof.Rows L2 Ob
theorem law_true (tP : Addr) : ∀ ns : List Int, ns.length ≤ 63 → ∃ ρ', bd_law tP (startT 12 11 tP "law.<locals>.<lambda>" ns) = .ok (.rt (.val (.bool true)), ρ') := fun ns _ => law_yT (y_law tP (.list (ns.map .int))) (v_law_ok ns)
end ZZ

namespace ZZ
open PySem PySem.Spec PyProof.Rows L2 Ob
theorem all_mk {P : Program} {w : World} {K : PySem.W.Frag} {h : Heap} {mg : Str → Option Value} {fa : Addr} (X : K.In h) (G : h.Ns mainGlobals mg) (hfa : mg "law" = some (.ref fa))
    {od0 an0 : Option Addr} {sl0 : Array (Option Value)} {oc0 kV0 dc0 pm0 cd0 ct0 : Value} {f0 : Addr}
    (a0 : PySem.W.nsIn K mainGlobals "is_int" = some (some (.ref f0))) (l0 : K.lookup f0 = some ⟨oc0, od0, .func (PySem.W.fnOf "is_int" "is_int" (defArgs s_is_int) (defBody s_is_int) (defScope s_is_int) .none kV0 dc0 pm0 an0 cd0 ct0), sl0⟩) (c0 : PySem.W.codeIn K cd0 "is_int" = true) (k0 : PySem.W.keepIn K (.ref f0) = true)
    {od1 an1 : Option Addr} {sl1 : Array (Option Value)} {oc1 kV1 dc1 pm1 cd1 ct1 : Value} {f1 : Addr}
    (a1 : PySem.W.nsIn K mainGlobals "is_within" = some (some (.ref f1))) (l1 : K.lookup f1 = some ⟨oc1, od1, .func (PySem.W.fnOf "is_within" "is_within" (defArgs s_is_within) (defBody s_is_within) (defScope s_is_within) .none kV1 dc1 pm1 an1 cd1 ct1), sl1⟩) (c1 : PySem.W.codeIn K cd1 "is_within" = true) (k1 : PySem.W.keepIn K (.ref f1) = true)
    {od2 an2 : Option Addr} {sl2 : Array (Option Value)} {oc2 kV2 dc2 pm2 cd2 ct2 : Value} {f2 : Addr}
    (a2 : PySem.W.nsIn K mainGlobals "is_sized" = some (some (.ref f2))) (l2 : K.lookup f2 = some ⟨oc2, od2, .func (PySem.W.fnOf "is_sized" "is_sized" (defArgs s_is_sized) (defBody s_is_sized) (defScope s_is_sized) .none kV2 dc2 pm2 an2 cd2 ct2), sl2⟩) (c2 : PySem.W.codeIn K cd2 "is_sized" = true) (k2 : PySem.W.keepIn K (.ref f2) = true)
    {od3 an3 : Option Addr} {sl3 : Array (Option Value)} {oc3 kV3 dc3 pm3 cd3 ct3 : Value} {f3 : Addr}
    (a3 : PySem.W.nsIn K mainGlobals "is_rising" = some (some (.ref f3))) (l3 : K.lookup f3 = some ⟨oc3, od3, .func (PySem.W.fnOf "is_rising" "is_rising" (defArgs s_is_rising) (defBody s_is_rising) (defScope s_is_rising) .none kV3 dc3 pm3 an3 cd3 ct3), sl3⟩) (c3 : PySem.W.codeIn K cd3 "is_rising" = true) (k3 : PySem.W.keepIn K (.ref f3) = true)
    {od4 an4 : Option Addr} {sl4 : Array (Option Value)} {oc4 kV4 dc4 pm4 cd4 ct4 : Value} {f4 : Addr}
    (a4 : PySem.W.nsIn K mainGlobals "is_lot" = some (some (.ref f4))) (l4 : K.lookup f4 = some ⟨oc4, od4, .func (PySem.W.fnOf "is_lot" "is_lot" (defArgs s_is_lot) (defBody s_is_lot) (defScope s_is_lot) .none kV4 dc4 pm4 an4 cd4 ct4), sl4⟩) (c4 : PySem.W.codeIn K cd4 "is_lot" = true) (k4 : PySem.W.keepIn K (.ref f4) = true)
    {od5 an5 : Option Addr} {sl5 : Array (Option Value)} {oc5 kV5 dc5 pm5 cd5 ct5 : Value} {f5 : Addr}
    (a5 : PySem.W.nsIn K mainGlobals "is_pair_of" = some (some (.ref f5))) (l5 : K.lookup f5 = some ⟨oc5, od5, .func (PySem.W.fnOf "is_pair_of" "is_pair_of" (defArgs s_is_pair_of) (defBody s_is_pair_of) (defScope s_is_pair_of) .none kV5 dc5 pm5 an5 cd5 ct5), sl5⟩) (c5 : PySem.W.codeIn K cd5 "is_pair_of" = true) (k5 : PySem.W.keepIn K (.ref f5) = true)
    {od6 an6 : Option Addr} {sl6 : Array (Option Value)} {oc6 kV6 dc6 pm6 cd6 ct6 : Value} {f6 : Addr}
    (a6 : PySem.W.nsIn K mainGlobals "is_web" = some (some (.ref f6))) (l6 : K.lookup f6 = some ⟨oc6, od6, .func (PySem.W.fnOf "is_web" "is_web" (defArgs s_is_web) (defBody s_is_web) (defScope s_is_web) .none kV6 dc6 pm6 an6 cd6 ct6), sl6⟩) (c6 : PySem.W.codeIn K cd6 "is_web" = true) (k6 : PySem.W.keepIn K (.ref f6) = true)
    {od7 an7 : Option Addr} {sl7 : Array (Option Value)} {oc7 kV7 dc7 pm7 cd7 ct7 : Value} {f7 : Addr}
    (a7 : PySem.W.nsIn K mainGlobals "check_web" = some (some (.ref f7))) (l7 : K.lookup f7 = some ⟨oc7, od7, .func (PySem.W.fnOf "check_web" "check_web" (defArgs s_check_web) (defBody s_check_web) (defScope s_check_web) .none kV7 dc7 pm7 an7 cd7 ct7), sl7⟩) (c7 : PySem.W.codeIn K cd7 "check_web" = true) (k7 : PySem.W.keepIn K (.ref f7) = true)
    {od8 an8 : Option Addr} {sl8 : Array (Option Value)} {oc8 kV8 dc8 pm8 cd8 ct8 : Value} {f8 : Addr}
    (a8 : PySem.W.nsIn K mainGlobals "raw_is_lot" = some (some (.ref f8))) (l8 : K.lookup f8 = some ⟨oc8, od8, .func (PySem.W.fnOf "raw_is_lot" "raw_is_lot" (defArgs s_raw_is_lot) (defBody s_raw_is_lot) (defScope s_raw_is_lot) .none kV8 dc8 pm8 an8 cd8 ct8), sl8⟩) (c8 : PySem.W.codeIn K cd8 "raw_is_lot" = true) (k8 : PySem.W.keepIn K (.ref f8) = true)
    {od9 an9 : Option Addr} {sl9 : Array (Option Value)} {oc9 kV9 dc9 pm9 cd9 ct9 : Value} {f9 : Addr}
    (a9 : PySem.W.nsIn K mainGlobals "check_lot" = some (some (.ref f9))) (l9 : K.lookup f9 = some ⟨oc9, od9, .func (PySem.W.fnOf "check_lot" "check_lot" (defArgs s_check_lot) (defBody s_check_lot) (defScope s_check_lot) .none kV9 dc9 pm9 an9 cd9 ct9), sl9⟩) (c9 : PySem.W.codeIn K cd9 "check_lot" = true) (k9 : PySem.W.keepIn K (.ref f9) = true)
    {od10 an10 : Option Addr} {sl10 : Array (Option Value)} {oc10 kV10 dc10 pm10 cd10 ct10 : Value} {f10 : Addr}
    (a10 : PySem.W.nsIn K mainGlobals "raw_heads" = some (some (.ref f10))) (l10 : K.lookup f10 = some ⟨oc10, od10, .func (PySem.W.fnOf "raw_heads" "raw_heads" (defArgs s_raw_heads) (defBody s_raw_heads) (defScope s_raw_heads) .none kV10 dc10 pm10 an10 cd10 ct10), sl10⟩) (c10 : PySem.W.codeIn K cd10 "raw_heads" = true) (k10 : PySem.W.keepIn K (.ref f10) = true)
    {od11 an11 : Option Addr} {sl11 : Array (Option Value)} {oc11 kV11 dc11 pm11 cd11 ct11 : Value} {f11 : Addr}
    (a11 : PySem.W.nsIn K mainGlobals "raw_parts" = some (some (.ref f11))) (l11 : K.lookup f11 = some ⟨oc11, od11, .func (PySem.W.fnOf "raw_parts" "raw_parts" (defArgs s_raw_parts) (defBody s_raw_parts) (defScope s_raw_parts) .none kV11 dc11 pm11 an11 cd11 ct11), sl11⟩) (c11 : PySem.W.codeIn K cd11 "raw_parts" = true) (k11 : PySem.W.keepIn K (.ref f11) = true)
    {od12 an12 : Option Addr} {sl12 : Array (Option Value)} {oc12 kV12 dc12 pm12 cd12 ct12 : Value} {f12 : Addr}
    (a12 : PySem.W.nsIn K mainGlobals "parts_by" = some (some (.ref f12))) (l12 : K.lookup f12 = some ⟨oc12, od12, .func (PySem.W.fnOf "parts_by" "parts_by" (defArgs s_parts_by) (defBody s_parts_by) (defScope s_parts_by) .none kV12 dc12 pm12 an12 cd12 ct12), sl12⟩) (c12 : PySem.W.codeIn K cd12 "parts_by" = true) (k12 : PySem.W.keepIn K (.ref f12) = true)
    {od13 an13 : Option Addr} {sl13 : Array (Option Value)} {oc13 kV13 dc13 pm13 cd13 ct13 : Value} {f13 : Addr}
    (a13 : PySem.W.nsIn K mainGlobals "raw_inside" = some (some (.ref f13))) (l13 : K.lookup f13 = some ⟨oc13, od13, .func (PySem.W.fnOf "raw_inside" "raw_inside" (defArgs s_raw_inside) (defBody s_raw_inside) (defScope s_raw_inside) .none kV13 dc13 pm13 an13 cd13 ct13), sl13⟩) (c13 : PySem.W.codeIn K cd13 "raw_inside" = true) (k13 : PySem.W.keepIn K (.ref f13) = true)
    {od14 an14 : Option Addr} {sl14 : Array (Option Value)} {oc14 kV14 dc14 pm14 cd14 ct14 : Value} {f14 : Addr}
    (a14 : PySem.W.nsIn K mainGlobals "inside" = some (some (.ref f14))) (l14 : K.lookup f14 = some ⟨oc14, od14, .func (PySem.W.fnOf "inside" "inside" (defArgs s_inside) (defBody s_inside) (defScope s_inside) .none kV14 dc14 pm14 an14 cd14 ct14), sl14⟩) (c14 : PySem.W.codeIn K cd14 "inside" = true) (k14 : PySem.W.keepIn K (.ref f14) = true)
    {od15 an15 : Option Addr} {sl15 : Array (Option Value)} {oc15 kV15 dc15 pm15 cd15 ct15 : Value} {f15 : Addr}
    (a15 : PySem.W.nsIn K mainGlobals "raw_is_parting" = some (some (.ref f15))) (l15 : K.lookup f15 = some ⟨oc15, od15, .func (PySem.W.fnOf "raw_is_parting" "raw_is_parting" (defArgs s_raw_is_parting) (defBody s_raw_is_parting) (defScope s_raw_is_parting) .none kV15 dc15 pm15 an15 cd15 ct15), sl15⟩) (c15 : PySem.W.codeIn K cd15 "raw_is_parting" = true) (k15 : PySem.W.keepIn K (.ref f15) = true)
    {od16 an16 : Option Addr} {sl16 : Array (Option Value)} {oc16 kV16 dc16 pm16 cd16 ct16 : Value} {f16 : Addr}
    (a16 : PySem.W.nsIn K mainGlobals "is_parting" = some (some (.ref f16))) (l16 : K.lookup f16 = some ⟨oc16, od16, .func (PySem.W.fnOf "is_parting" "is_parting" (defArgs s_is_parting) (defBody s_is_parting) (defScope s_is_parting) .none kV16 dc16 pm16 an16 cd16 ct16), sl16⟩) (c16 : PySem.W.codeIn K cd16 "is_parting" = true) (k16 : PySem.W.keepIn K (.ref f16) = true)
    {od17 an17 : Option Addr} {sl17 : Array (Option Value)} {oc17 kV17 dc17 pm17 cd17 ct17 : Value} {f17 : Addr}
    (a17 : PySem.W.nsIn K mainGlobals "raw_between" = some (some (.ref f17))) (l17 : K.lookup f17 = some ⟨oc17, od17, .func (PySem.W.fnOf "raw_between" "raw_between" (defArgs s_raw_between) (defBody s_raw_between) (defScope s_raw_between) .none kV17 dc17 pm17 an17 cd17 ct17), sl17⟩) (c17 : PySem.W.codeIn K cd17 "raw_between" = true) (k17 : PySem.W.keepIn K (.ref f17) = true)
    {od18 an18 : Option Addr} {sl18 : Array (Option Value)} {oc18 kV18 dc18 pm18 cd18 ct18 : Value} {f18 : Addr}
    (a18 : PySem.W.nsIn K mainGlobals "between" = some (some (.ref f18))) (l18 : K.lookup f18 = some ⟨oc18, od18, .func (PySem.W.fnOf "between" "between" (defArgs s_between) (defBody s_between) (defScope s_between) .none kV18 dc18 pm18 an18 cd18 ct18), sl18⟩) (c18 : PySem.W.codeIn K cd18 "between" = true) (k18 : PySem.W.keepIn K (.ref f18) = true)
    {od19 an19 : Option Addr} {sl19 : Array (Option Value)} {oc19 kV19 dc19 pm19 cd19 ct19 : Value} {f19 : Addr}
    (a19 : PySem.W.nsIn K mainGlobals "_law_draws" = some (some (.ref f19))) (l19 : K.lookup f19 = some ⟨oc19, od19, .func (PySem.W.fnOf "_law_draws" "_law_draws" (defArgs s__law_draws) (defBody s__law_draws) (defScope s__law_draws) .none kV19 dc19 pm19 an19 cd19 ct19), sl19⟩) (c19 : PySem.W.codeIn K cd19 "_law_draws" = true) (k19 : PySem.W.keepIn K (.ref f19) = true)
    {od20 an20 : Option Addr} {sl20 : Array (Option Value)} {oc20 kV20 dc20 pm20 cd20 ct20 : Value} {f20 : Addr}
    (a20 : PySem.W.nsIn K mainGlobals "_law_take" = some (some (.ref f20))) (l20 : K.lookup f20 = some ⟨oc20, od20, .func (PySem.W.fnOf "_law_take" "_law_take" (defArgs s__law_take) (defBody s__law_take) (defScope s__law_take) .none kV20 dc20 pm20 an20 cd20 ct20), sl20⟩) (c20 : PySem.W.codeIn K cd20 "_law_take" = true) (k20 : PySem.W.keepIn K (.ref f20) = true)
    {od21 an21 : Option Addr} {sl21 : Array (Option Value)} {oc21 kV21 dc21 pm21 cd21 ct21 : Value} {f21 : Addr}
    (a21 : PySem.W.nsIn K mainGlobals "_law_web" = some (some (.ref f21))) (l21 : K.lookup f21 = some ⟨oc21, od21, .func (PySem.W.fnOf "_law_web" "_law_web" (defArgs s__law_web) (defBody s__law_web) (defScope s__law_web) .none kV21 dc21 pm21 an21 cd21 ct21), sl21⟩) (c21 : PySem.W.codeIn K cd21 "_law_web" = true) (k21 : PySem.W.keepIn K (.ref f21) = true)
    {od22 an22 : Option Addr} {sl22 : Array (Option Value)} {oc22 kV22 dc22 pm22 cd22 ct22 : Value} {f22 : Addr}
    (a22 : PySem.W.nsIn K mainGlobals "_law_partings" = some (some (.ref f22))) (l22 : K.lookup f22 = some ⟨oc22, od22, .func (PySem.W.fnOf "_law_partings" "_law_partings" (defArgs s__law_partings) (defBody s__law_partings) (defScope s__law_partings) .none kV22 dc22 pm22 an22 cd22 ct22), sl22⟩) (c22 : PySem.W.codeIn K cd22 "_law_partings" = true) (k22 : PySem.W.keepIn K (.ref f22) = true)
    {od23 an23 : Option Addr} {sl23 : Array (Option Value)} {oc23 kV23 dc23 pm23 cd23 ct23 : Value} {f23 : Addr}
    (a23 : PySem.W.nsIn K mainGlobals "_law_between" = some (some (.ref f23))) (l23 : K.lookup f23 = some ⟨oc23, od23, .func (PySem.W.fnOf "_law_between" "_law_between" (defArgs s__law_between) (defBody s__law_between) (defScope s__law_between) .none kV23 dc23 pm23 an23 cd23 ct23), sl23⟩) (c23 : PySem.W.codeIn K cd23 "_law_between" = true) (k23 : PySem.W.keepIn K (.ref f23) = true)
    {od24 an24 : Option Addr} {sl24 : Array (Option Value)} {oc24 kV24 dc24 pm24 cd24 ct24 : Value} {f24 : Addr}
    (a24 : PySem.W.nsIn K mainGlobals "_law_inside" = some (some (.ref f24))) (l24 : K.lookup f24 = some ⟨oc24, od24, .func (PySem.W.fnOf "_law_inside" "_law_inside" (defArgs s__law_inside) (defBody s__law_inside) (defScope s__law_inside) .none kV24 dc24 pm24 an24 cd24 ct24), sl24⟩) (c24 : PySem.W.codeIn K cd24 "_law_inside" = true) (k24 : PySem.W.keepIn K (.ref f24) = true)
    {od25 an25 : Option Addr} {sl25 : Array (Option Value)} {oc25 kV25 dc25 pm25 cd25 ct25 : Value} {f25 : Addr}
    (a25 : PySem.W.nsIn K mainGlobals "_law_name" = some (some (.ref f25))) (l25 : K.lookup f25 = some ⟨oc25, od25, .func (PySem.W.fnOf "_law_name" "_law_name" (defArgs s__law_name) (defBody s__law_name) (defScope s__law_name) .none kV25 dc25 pm25 an25 cd25 ct25), sl25⟩) (c25 : PySem.W.codeIn K cd25 "_law_name" = true) (k25 : PySem.W.keepIn K (.ref f25) = true)
    {od26 an26 : Option Addr} {sl26 : Array (Option Value)} {oc26 kV26 dc26 pm26 cd26 ct26 : Value} {f26 : Addr}
    (a26 : PySem.W.nsIn K mainGlobals "_law_near" = some (some (.ref f26))) (l26 : K.lookup f26 = some ⟨oc26, od26, .func (PySem.W.fnOf "_law_near" "_law_near" (defArgs s__law_near) (defBody s__law_near) (defScope s__law_near) .none kV26 dc26 pm26 an26 cd26 ct26), sl26⟩) (c26 : PySem.W.codeIn K cd26 "_law_near" = true) (k26 : PySem.W.keepIn K (.ref f26) = true)
    {od27 an27 : Option Addr} {sl27 : Array (Option Value)} {oc27 kV27 dc27 pm27 cd27 ct27 : Value} {f27 : Addr}
    (a27 : PySem.W.nsIn K mainGlobals "law" = some (some (.ref f27))) (l27 : K.lookup f27 = some ⟨oc27, od27, .func (PySem.W.fnOf "law" "law" (defArgs s_law) (defBody s_law) (defScope s_law) .none kV27 dc27 pm27 an27 cd27 ct27), sl27⟩) (c27 : PySem.W.codeIn K cd27 "law" = true) (k27 : PySem.W.keepIn K (.ref f27) = true)
    (z_isinstance : PySem.W.nsIn K mainGlobals "isinstance" = some none)
    (z_int : PySem.W.nsIn K mainGlobals "int" = some none)
    (z_bool : PySem.W.nsIn K mainGlobals "bool" = some none)
    (z_tuple : PySem.W.nsIn K mainGlobals "tuple" = some none)
    (z_len : PySem.W.nsIn K mainGlobals "len" = some none)
    (z_zip : PySem.W.nsIn K mainGlobals "zip" = some none)
    (z_all : PySem.W.nsIn K mainGlobals "all" = some none)
    (z_list : PySem.W.nsIn K mainGlobals "list" = some none)
    (z_range : PySem.W.nsIn K mainGlobals "range" = some none)
    (z_min : PySem.W.nsIn K mainGlobals "min" = some none)
    (z_sorted : PySem.W.nsIn K mainGlobals "sorted" = some none)
    (z_set : PySem.W.nsIn K mainGlobals "set" = some none)
    (z_enumerate : PySem.W.nsIn K mainGlobals "enumerate" = some none)
    (z_max : PySem.W.nsIn K mainGlobals "max" = some none)
    (z_ValueError : PySem.W.nsIn K mainGlobals "ValueError" = some none)
    {t_MOST_PLACES : Tok} (y_MOST_PLACES : PySem.W.nsIn K mainGlobals "MOST_PLACES" = some (some (.int 12 t_MOST_PLACES)))
    {t_MOST_TIES : Tok} (y_MOST_TIES : PySem.W.nsIn K mainGlobals "MOST_TIES" = some (some (.int 40 t_MOST_TIES)))
    {e_NoWeb : Addr} (g_NoWeb : PySem.W.nsIn K mainGlobals "NoWeb" = some (some (.ref e_NoWeb))) (x_NoWeb : PySem.W.excIn K e_NoWeb veB "ValueError.__new__" = true) (k_NoWeb : PySem.W.keepIn K (.ref e_NoWeb) = true) (b_NoWeb : PySem.W.subIn K (.ref e_NoWeb) (.type "BaseException") = some true) (t_NoWeb : PySem.W.typeIn K (.ref e_NoWeb) = some (.type "type"))
    {e_NoLot : Addr} (g_NoLot : PySem.W.nsIn K mainGlobals "NoLot" = some (some (.ref e_NoLot))) (x_NoLot : PySem.W.excIn K e_NoLot veB "ValueError.__new__" = true) (k_NoLot : PySem.W.keepIn K (.ref e_NoLot) = true) (b_NoLot : PySem.W.subIn K (.ref e_NoLot) (.type "BaseException") = some true) (t_NoLot : PySem.W.typeIn K (.ref e_NoLot) = some (.type "type"))
    {e_NoPlaces : Addr} (g_NoPlaces : PySem.W.nsIn K mainGlobals "NoPlaces" = some (some (.ref e_NoPlaces))) (x_NoPlaces : PySem.W.excIn K e_NoPlaces veB "ValueError.__new__" = true) (k_NoPlaces : PySem.W.keepIn K (.ref e_NoPlaces) = true) (b_NoPlaces : PySem.W.subIn K (.ref e_NoPlaces) (.type "BaseException") = some true) (t_NoPlaces : PySem.W.typeIn K (.ref e_NoPlaces) = some (.type "type"))
    {e_NoParting : Addr} (g_NoParting : PySem.W.nsIn K mainGlobals "NoParting" = some (some (.ref e_NoParting))) (x_NoParting : PySem.W.excIn K e_NoParting veB "ValueError.__new__" = true) (k_NoParting : PySem.W.keepIn K (.ref e_NoParting) = true) (b_NoParting : PySem.W.subIn K (.ref e_NoParting) (.type "BaseException") = some true) (t_NoParting : PySem.W.typeIn K (.ref e_NoParting) = some (.type "type"))
    (tt : tabOK K "law" = true)
    {e_TreeError : Addr} (g_TreeError : PySem.W.nsIn K mainGlobals "TreeError" = some (some (.ref e_TreeError)))
    (s1 : PySem.W.specialIn K (.builtin "object.__class__") "__get__" = some (some (.builtin "getset_descriptor.__get__"))) (s2 : PySem.W.takesIn K (.builtin "object.__class__") = some true)
    (h1_NoWeb : PySem.W.findIn K (.ref e_NoWeb) "__getattribute__" = some (some (.builtin "BaseException.__getattribute__"))) (h2_NoWeb : PySem.W.findIn K (.ref e_NoWeb) "__getattr__" = some none) (h3_NoWeb : PySem.W.hasDictIn K e_NoWeb = true) (h4_NoWeb : PySem.W.findIn K (.ref e_NoWeb) "__class__" = some (some (.builtin "object.__class__"))) (h5_NoWeb : PySem.W.mroIn K e_NoWeb (.type "object") = some true) (h6_NoWeb : PySem.W.kitOne K (.ref e_NoWeb) (.type "ValueError") = some true)
    (h1_NoLot : PySem.W.findIn K (.ref e_NoLot) "__getattribute__" = some (some (.builtin "BaseException.__getattribute__"))) (h2_NoLot : PySem.W.findIn K (.ref e_NoLot) "__getattr__" = some none) (h3_NoLot : PySem.W.hasDictIn K e_NoLot = true) (h4_NoLot : PySem.W.findIn K (.ref e_NoLot) "__class__" = some (some (.builtin "object.__class__"))) (h5_NoLot : PySem.W.mroIn K e_NoLot (.type "object") = some true) (h6_NoLot : PySem.W.kitOne K (.ref e_NoLot) (.type "ValueError") = some true)
    (h1_NoPlaces : PySem.W.findIn K (.ref e_NoPlaces) "__getattribute__" = some (some (.builtin "BaseException.__getattribute__"))) (h2_NoPlaces : PySem.W.findIn K (.ref e_NoPlaces) "__getattr__" = some none) (h3_NoPlaces : PySem.W.hasDictIn K e_NoPlaces = true) (h4_NoPlaces : PySem.W.findIn K (.ref e_NoPlaces) "__class__" = some (some (.builtin "object.__class__"))) (h5_NoPlaces : PySem.W.mroIn K e_NoPlaces (.type "object") = some true) (h6_NoPlaces : PySem.W.kitOne K (.ref e_NoPlaces) (.type "ValueError") = some true)
    (h1_NoParting : PySem.W.findIn K (.ref e_NoParting) "__getattribute__" = some (some (.builtin "BaseException.__getattribute__"))) (h2_NoParting : PySem.W.findIn K (.ref e_NoParting) "__getattr__" = some none) (h3_NoParting : PySem.W.hasDictIn K e_NoParting = true) (h4_NoParting : PySem.W.findIn K (.ref e_NoParting) "__class__" = some (some (.builtin "object.__class__"))) (h5_NoParting : PySem.W.mroIn K e_NoParting (.type "object") = some true) (h6_NoParting : PySem.W.kitOne K (.ref e_NoParting) (.type "ValueError") = some true)
    (t_law_name_NoWeb : PySem.W.exmOne K (.ref e_NoWeb) (.ref e_TreeError) = some true)
    (q_law_name_NoWeb_NoParting : PySem.W.kitOne K (.ref e_NoWeb) (.ref e_NoParting) = some false)
    (q_law_name_NoWeb_NoPlaces : PySem.W.kitOne K (.ref e_NoWeb) (.ref e_NoPlaces) = some false)
    (q_law_name_NoWeb_NoWeb : PySem.W.kitOne K (.ref e_NoWeb) (.ref e_NoWeb) = some true)
    (t_law_name_NoLot : PySem.W.exmOne K (.ref e_NoLot) (.ref e_TreeError) = some true)
    (q_law_name_NoLot_NoParting : PySem.W.kitOne K (.ref e_NoLot) (.ref e_NoParting) = some false)
    (q_law_name_NoLot_NoPlaces : PySem.W.kitOne K (.ref e_NoLot) (.ref e_NoPlaces) = some false)
    (q_law_name_NoLot_NoWeb : PySem.W.kitOne K (.ref e_NoLot) (.ref e_NoWeb) = some false)
    (t_law_name_NoPlaces : PySem.W.exmOne K (.ref e_NoPlaces) (.ref e_TreeError) = some true)
    (q_law_name_NoPlaces_NoParting : PySem.W.kitOne K (.ref e_NoPlaces) (.ref e_NoParting) = some false)
    (q_law_name_NoPlaces_NoPlaces : PySem.W.kitOne K (.ref e_NoPlaces) (.ref e_NoPlaces) = some true)
    (q_law_name_NoPlaces_NoWeb : PySem.W.kitOne K (.ref e_NoPlaces) (.ref e_NoWeb) = some false)
    (t_law_name_NoParting : PySem.W.exmOne K (.ref e_NoParting) (.ref e_TreeError) = some true)
    (q_law_name_NoParting_NoParting : PySem.W.kitOne K (.ref e_NoParting) (.ref e_NoParting) = some true)
    (q_law_name_NoParting_NoPlaces : PySem.W.kitOne K (.ref e_NoParting) (.ref e_NoPlaces) = some false)
    (q_law_name_NoParting_NoWeb : PySem.W.kitOne K (.ref e_NoParting) (.ref e_NoWeb) = some false) :
    ∃ (fd : FuncData) (c P' : Addr), PySem.W.tabIn K "law" = some (c, P') ∧ K.lookup P' = none ∧ (∀ (s : Shared) (v : Value), BindsTo s fd ⟨[v], []⟩ [("script", v)]) ∧ ∀ base : Heap, K.In base → base.Ns mainGlobals mg → LamX.TabB base mg c P' → FnOk P w K mg base (L2.CX P w) 9 fa fd ["script"] (spLawT 63 P') := by
  have e := hfa.symm.trans (PySem.W.mg_of X G a27)
  cases e
  have F0 := fun_mk (st := s_is_int) l0 c0 k0
  have E0 : FnE K mg "is_int" s_is_int ["thing"] f0 _ := ⟨F0, PySem.W.mg_of X G a0, F0.binds (ps := ["thing"]) fun _ _ _ _ _ _ us hl => match us, hl with | [_], _ => rfl⟩
  have F1 := fun_mk (st := s_is_within) l1 c1 k1
  have E1 : FnE K mg "is_within" s_is_within ["thing", "low", "high"] f1 _ := ⟨F1, PySem.W.mg_of X G a1, F1.binds (ps := ["thing", "low", "high"]) fun _ _ _ _ _ _ us hl => match us, hl with | [_, _, _], _ => rfl⟩
  have F2 := fun_mk (st := s_is_sized) l2 c2 k2
  have E2 : FnE K mg "is_sized" s_is_sized ["thing", "least", "most"] f2 _ := ⟨F2, PySem.W.mg_of X G a2, F2.binds (ps := ["thing", "least", "most"]) fun _ _ _ _ _ _ us hl => match us, hl with | [_, _, _], _ => rfl⟩
  have F3 := fun_mk (st := s_is_rising) l3 c3 k3
  have E3 : FnE K mg "is_rising" s_is_rising ["some"] f3 _ := ⟨F3, PySem.W.mg_of X G a3, F3.binds (ps := ["some"]) fun _ _ _ _ _ _ us hl => match us, hl with | [_], _ => rfl⟩
  have F4 := fun_mk (st := s_is_lot) l4 c4 k4
  have E4 : FnE K mg "is_lot" s_is_lot ["thing", "many"] f4 _ := ⟨F4, PySem.W.mg_of X G a4, F4.binds (ps := ["thing", "many"]) fun _ _ _ _ _ _ us hl => match us, hl with | [_, _], _ => rfl⟩
  have F5 := fun_mk (st := s_is_pair_of) l5 c5 k5
  have E5 : FnE K mg "is_pair_of" s_is_pair_of ["many", "thing"] f5 _ := ⟨F5, PySem.W.mg_of X G a5, F5.binds (ps := ["many", "thing"]) fun _ _ _ _ _ _ us hl => match us, hl with | [_, _], _ => rfl⟩
  have F6 := fun_mk (st := s_is_web) l6 c6 k6
  have E6 : FnE K mg "is_web" s_is_web ["thing"] f6 _ := ⟨F6, PySem.W.mg_of X G a6, F6.binds (ps := ["thing"]) fun _ _ _ _ _ _ us hl => match us, hl with | [_], _ => rfl⟩
  have F7 := fun_mk (st := s_check_web) l7 c7 k7
  have E7 : FnE K mg "check_web" s_check_web ["web"] f7 _ := ⟨F7, PySem.W.mg_of X G a7, F7.binds (ps := ["web"]) fun _ _ _ _ _ _ us hl => match us, hl with | [_], _ => rfl⟩
  have F8 := fun_mk (st := s_raw_is_lot) l8 c8 k8
  have E8 : FnE K mg "raw_is_lot" s_raw_is_lot ["web", "thing"] f8 _ := ⟨F8, PySem.W.mg_of X G a8, F8.binds (ps := ["web", "thing"]) fun _ _ _ _ _ _ us hl => match us, hl with | [_, _], _ => rfl⟩
  have F9 := fun_mk (st := s_check_lot) l9 c9 k9
  have E9 : FnE K mg "check_lot" s_check_lot ["web", "lot"] f9 _ := ⟨F9, PySem.W.mg_of X G a9, F9.binds (ps := ["web", "lot"]) fun _ _ _ _ _ _ us hl => match us, hl with | [_, _], _ => rfl⟩
  have F10 := fun_mk (st := s_raw_heads) l10 c10 k10
  have E10 : FnE K mg "raw_heads" s_raw_heads ["web", "lot"] f10 _ := ⟨F10, PySem.W.mg_of X G a10, F10.binds (ps := ["web", "lot"]) fun _ _ _ _ _ _ us hl => match us, hl with | [_, _], _ => rfl⟩
  have F11 := fun_mk (st := s_raw_parts) l11 c11 k11
  have E11 : FnE K mg "raw_parts" s_raw_parts ["web", "lot"] f11 _ := ⟨F11, PySem.W.mg_of X G a11, F11.binds (ps := ["web", "lot"]) fun _ _ _ _ _ _ us hl => match us, hl with | [_, _], _ => rfl⟩
  have F12 := fun_mk (st := s_parts_by) l12 c12 k12
  have E12 : FnE K mg "parts_by" s_parts_by ["web", "lot"] f12 _ := ⟨F12, PySem.W.mg_of X G a12, F12.binds (ps := ["web", "lot"]) fun _ _ _ _ _ _ us hl => match us, hl with | [_, _], _ => rfl⟩
  have F13 := fun_mk (st := s_raw_inside) l13 c13 k13
  have E13 : FnE K mg "raw_inside" s_raw_inside ["web", "places"] f13 _ := ⟨F13, PySem.W.mg_of X G a13, F13.binds (ps := ["web", "places"]) fun _ _ _ _ _ _ us hl => match us, hl with | [_, _], _ => rfl⟩
  have F14 := fun_mk (st := s_inside) l14 c14 k14
  have E14 : FnE K mg "inside" s_inside ["web", "places"] f14 _ := ⟨F14, PySem.W.mg_of X G a14, F14.binds (ps := ["web", "places"]) fun _ _ _ _ _ _ us hl => match us, hl with | [_, _], _ => rfl⟩
  have F15 := fun_mk (st := s_raw_is_parting) l15 c15 k15
  have E15 : FnE K mg "raw_is_parting" s_raw_is_parting ["web", "thing"] f15 _ := ⟨F15, PySem.W.mg_of X G a15, F15.binds (ps := ["web", "thing"]) fun _ _ _ _ _ _ us hl => match us, hl with | [_, _], _ => rfl⟩
  have F16 := fun_mk (st := s_is_parting) l16 c16 k16
  have E16 : FnE K mg "is_parting" s_is_parting ["web", "thing"] f16 _ := ⟨F16, PySem.W.mg_of X G a16, F16.binds (ps := ["web", "thing"]) fun _ _ _ _ _ _ us hl => match us, hl with | [_, _], _ => rfl⟩
  have F17 := fun_mk (st := s_raw_between) l17 c17 k17
  have E17 : FnE K mg "raw_between" s_raw_between ["web", "parting"] f17 _ := ⟨F17, PySem.W.mg_of X G a17, F17.binds (ps := ["web", "parting"]) fun _ _ _ _ _ _ us hl => match us, hl with | [_, _], _ => rfl⟩
  have F18 := fun_mk (st := s_between) l18 c18 k18
  have E18 : FnE K mg "between" s_between ["web", "parting"] f18 _ := ⟨F18, PySem.W.mg_of X G a18, F18.binds (ps := ["web", "parting"]) fun _ _ _ _ _ _ us hl => match us, hl with | [_, _], _ => rfl⟩
  have F19 := fun_mk (st := s__law_draws) l19 c19 k19
  have E19 : FnE K mg "_law_draws" s__law_draws ["script", "many"] f19 _ := ⟨F19, PySem.W.mg_of X G a19, F19.binds (ps := ["script", "many"]) fun _ _ _ _ _ _ us hl => match us, hl with | [_, _], _ => rfl⟩
  have F20 := fun_mk (st := s__law_take) l20 c20 k20
  have E20 : FnE K mg "_law_take" s__law_take ["draws", "many"] f20 _ := ⟨F20, PySem.W.mg_of X G a20, F20.binds (ps := ["draws", "many"]) fun _ _ _ _ _ _ us hl => match us, hl with | [_, _], _ => rfl⟩
  have F21 := fun_mk (st := s__law_web) l21 c21 k21
  have E21 : FnE K mg "_law_web" s__law_web ["draws", "least", "most", "ties"] f21 _ := ⟨F21, PySem.W.mg_of X G a21, F21.binds (ps := ["draws", "least", "most", "ties"]) fun _ _ _ _ _ _ us hl => match us, hl with | [_, _, _, _], _ => rfl⟩
  have F22 := fun_mk (st := s__law_partings) l22 c22 k22
  have E22 : FnE K mg "_law_partings" s__law_partings ["some"] f22 _ := ⟨F22, PySem.W.mg_of X G a22, F22.binds (ps := ["some"]) fun _ _ _ _ _ _ us hl => match us, hl with | [_], _ => rfl⟩
  have F23 := fun_mk (st := s__law_between) l23 c23 k23
  have E23 : FnE K mg "_law_between" s__law_between ["web", "parting"] f23 _ := ⟨F23, PySem.W.mg_of X G a23, F23.binds (ps := ["web", "parting"]) fun _ _ _ _ _ _ us hl => match us, hl with | [_, _], _ => rfl⟩
  have F24 := fun_mk (st := s__law_inside) l24 c24 k24
  have E24 : FnE K mg "_law_inside" s__law_inside ["web", "places"] f24 _ := ⟨F24, PySem.W.mg_of X G a24, F24.binds (ps := ["web", "places"]) fun _ _ _ _ _ _ us hl => match us, hl with | [_, _], _ => rfl⟩
  have F25 := fun_mk (st := s__law_name) l25 c25 k25
  have E25 : FnE K mg "_law_name" s__law_name ["ask"] f25 _ := ⟨F25, PySem.W.mg_of X G a25, F25.binds (ps := ["ask"]) fun _ _ _ _ _ _ us hl => match us, hl with | [_], _ => rfl⟩
  have F26 := fun_mk (st := s__law_near) l26 c26 k26
  have E26 : FnE K mg "_law_near" s__law_near ["draws", "web", "parting"] f26 _ := ⟨F26, PySem.W.mg_of X G a26, F26.binds (ps := ["draws", "web", "parting"]) fun _ _ _ _ _ _ us hl => match us, hl with | [_, _, _], _ => rfl⟩
  have F27 := fun_mk (st := s_law) l27 c27 k27
  obtain ⟨cT, pT, tt, tn⟩ := tab_ok tt
  have H_law_name : Hand K mg "TreeError" cl_k07 ["ask", "error", "names"] 1 ms__law_name hd_k07_law_name := ⟨res__law_name, ⟨_, PySem.W.mg_of X G g_TreeError⟩, fun c hc => by
    simp only [cl_k07, List.mem_cons, List.not_mem_nil, or_false] at hc
    rcases hc with rfl | rfl | rfl | rfl
    · exact ⟨_, _, PySem.W.mg_of X G g_NoWeb, ⟨h1_NoWeb, h2_NoWeb, b_NoWeb, h3_NoWeb, h4_NoWeb, s1, s2, h5_NoWeb⟩, PySem.W.mg_of X G g_TreeError, t_law_name_NoWeb⟩
    · exact ⟨_, _, PySem.W.mg_of X G g_NoLot, ⟨h1_NoLot, h2_NoLot, b_NoLot, h3_NoLot, h4_NoLot, s1, s2, h5_NoLot⟩, PySem.W.mg_of X G g_TreeError, t_law_name_NoLot⟩
    · exact ⟨_, _, PySem.W.mg_of X G g_NoPlaces, ⟨h1_NoPlaces, h2_NoPlaces, b_NoPlaces, h3_NoPlaces, h4_NoPlaces, s1, s2, h5_NoPlaces⟩, PySem.W.mg_of X G g_TreeError, t_law_name_NoPlaces⟩
    · exact ⟨_, _, PySem.W.mg_of X G g_NoParting, ⟨h1_NoParting, h2_NoParting, b_NoParting, h3_NoParting, h4_NoParting, s1, s2, h5_NoParting⟩, PySem.W.mg_of X G g_TreeError, t_law_name_NoParting⟩⟩
  have X_law_name : HandX K mg cl_k07 xl_k07 isx_k07 := ⟨fun c hc D hD x hx => by
    simp only [cl_k07, List.mem_cons, List.not_mem_nil, or_false] at hc
    simp only [xl_k07, List.mem_cons, List.not_mem_nil, or_false] at hx
    rcases hc with rfl | rfl | rfl | rfl
    · have e := hD.symm.trans (PySem.W.mg_of X G g_NoWeb)
      cases e
      rcases hx with rfl | rfl | rfl
      · exact ⟨_, PySem.W.mg_of X G g_NoParting, q_law_name_NoWeb_NoParting⟩
      · exact ⟨_, PySem.W.mg_of X G g_NoPlaces, q_law_name_NoWeb_NoPlaces⟩
      · exact ⟨_, PySem.W.mg_of X G g_NoWeb, q_law_name_NoWeb_NoWeb⟩
    · have e := hD.symm.trans (PySem.W.mg_of X G g_NoLot)
      cases e
      rcases hx with rfl | rfl | rfl
      · exact ⟨_, PySem.W.mg_of X G g_NoParting, q_law_name_NoLot_NoParting⟩
      · exact ⟨_, PySem.W.mg_of X G g_NoPlaces, q_law_name_NoLot_NoPlaces⟩
      · exact ⟨_, PySem.W.mg_of X G g_NoWeb, q_law_name_NoLot_NoWeb⟩
    · have e := hD.symm.trans (PySem.W.mg_of X G g_NoPlaces)
      cases e
      rcases hx with rfl | rfl | rfl
      · exact ⟨_, PySem.W.mg_of X G g_NoParting, q_law_name_NoPlaces_NoParting⟩
      · exact ⟨_, PySem.W.mg_of X G g_NoPlaces, q_law_name_NoPlaces_NoPlaces⟩
      · exact ⟨_, PySem.W.mg_of X G g_NoWeb, q_law_name_NoPlaces_NoWeb⟩
    · have e := hD.symm.trans (PySem.W.mg_of X G g_NoParting)
      cases e
      rcases hx with rfl | rfl | rfl
      · exact ⟨_, PySem.W.mg_of X G g_NoParting, q_law_name_NoParting_NoParting⟩
      · exact ⟨_, PySem.W.mg_of X G g_NoPlaces, q_law_name_NoParting_NoPlaces⟩
      · exact ⟨_, PySem.W.mg_of X G g_NoWeb, q_law_name_NoParting_NoWeb⟩, fun c hc D hD => by
    simp only [cl_k07, List.mem_cons, List.not_mem_nil, or_false] at hc
    rcases hc with rfl | rfl | rfl | rfl
    · have e := hD.symm.trans (PySem.W.mg_of X G g_NoWeb)
      cases e
      exact h6_NoWeb
    · have e := hD.symm.trans (PySem.W.mg_of X G g_NoLot)
      cases e
      exact h6_NoLot
    · have e := hD.symm.trans (PySem.W.mg_of X G g_NoPlaces)
      cases e
      exact h6_NoPlaces
    · have e := hD.symm.trans (PySem.W.mg_of X G g_NoParting)
      cases e
      exact h6_NoParting⟩
  refine ⟨PySem.W.fnOf "law" "law" (defArgs s_law) (defBody s_law) (defScope s_law) .none kV27 dc27 pm27 an27 cd27 ct27, cT, pT, tt, tn, fun s v => .of_eq rfl, fun base _ _ TB => ?_⟩
  have G0 := ok_is_int (P := P) (w := w) (base := base) F0 (PySem.W.mg_none_of X G z_isinstance) (PySem.W.mg_none_of X G z_int) (PySem.W.mg_none_of X G z_bool)
  have G1 := ok_is_within (P := P) (w := w) (base := base) F1 E0 G0
  have G2 := ok_is_sized (P := P) (w := w) (base := base) F2 (PySem.W.mg_none_of X G z_isinstance) (PySem.W.mg_none_of X G z_tuple) (PySem.W.mg_none_of X G z_len)
  have G3 := ok_is_rising (P := P) (w := w) (base := base) F3 (PySem.W.mg_none_of X G z_zip) (PySem.W.mg_none_of X G z_all)
  have G4 := ok_is_lot (P := P) (w := w) (base := base) F4 (PySem.W.mg_none_of X G z_isinstance) (PySem.W.mg_none_of X G z_tuple) (PySem.W.mg_none_of X G z_all) E3 G3 E1 G1
  have G5 := ok_is_pair_of (P := P) (w := w) (base := base) F5 E2 G2 E1 G1
  have G6 := ok_is_web (P := P) (w := w) (base := base) F6 (PySem.W.mg_none_of X G z_all) (PySem.W.mg_of X G y_MOST_PLACES) (PySem.W.mg_of X G y_MOST_TIES) E2 G2 E1 G1 E5 G5
  have G7 := ok_check_web (P := P) (w := w) (base := base) F7 ⟨PySem.W.mg_of X G g_NoWeb, x_NoWeb, k_NoWeb, b_NoWeb, t_NoWeb⟩ E6 G6
  have G8 := ok_raw_is_lot (P := P) (w := w) (base := base) F8 (PySem.W.mg_none_of X G z_len) E4 G4
  have G9 := ok_check_lot (P := P) (w := w) (base := base) F9 ⟨PySem.W.mg_of X G g_NoLot, x_NoLot, k_NoLot, b_NoLot, t_NoLot⟩ E7 G7 E8 G8
  have G10 := ok_raw_heads (P := P) (w := w) (base := base) F10 (PySem.W.mg_none_of X G z_list) (PySem.W.mg_none_of X G z_range) (PySem.W.mg_none_of X G z_min)
  have G11 := ok_raw_parts (P := P) (w := w) (base := base) F11 (PySem.W.mg_none_of X G z_sorted) (PySem.W.mg_none_of X G z_set) (PySem.W.mg_none_of X G z_range) (PySem.W.mg_none_of X G z_tuple) E10 G10
  have G12 := ok_parts_by (P := P) (w := w) (base := base) F12 E9 G9 E11 G11
  have G13 := ok_raw_inside (P := P) (w := w) (base := base) F13 (PySem.W.mg_none_of X G z_enumerate) (PySem.W.mg_none_of X G z_tuple)
  have G14 := ok_inside (P := P) (w := w) (base := base) F14 ⟨PySem.W.mg_of X G g_NoPlaces, x_NoPlaces, k_NoPlaces, b_NoPlaces, t_NoPlaces⟩ E7 G7 E13 G13 E4 G4
  have G15 := ok_raw_is_parting (P := P) (w := w) (base := base) F15 (PySem.W.mg_none_of X G z_isinstance) (PySem.W.mg_none_of X G z_tuple) (PySem.W.mg_none_of X G z_len) (PySem.W.mg_none_of X G z_all) (PySem.W.mg_none_of X G z_list) (PySem.W.mg_none_of X G z_sorted) (PySem.W.mg_none_of X G z_range) E4 G4
  have G16 := ok_is_parting (P := P) (w := w) (base := base) F16 E7 G7 E15 G15
  have G17 := ok_raw_between (P := P) (w := w) (base := base) F17 (PySem.W.mg_none_of X G z_enumerate) (PySem.W.mg_none_of X G z_tuple)
  have G18 := ok_between (P := P) (w := w) (base := base) F18 ⟨PySem.W.mg_of X G g_NoParting, x_NoParting, k_NoParting, b_NoParting, t_NoParting⟩ E7 G7 E17 G17 E15 G15
  have G19 := ok__law_draws (P := P) (w := w) (base := base) F19 (PySem.W.mg_none_of X G z_range) (PySem.W.mg_none_of X G z_int) (PySem.W.mg_none_of X G z_len)
  have G20 := ok__law_take (P := P) (w := w) (base := base) F20 (PySem.W.mg_none_of X G z_int)
  have G21 := ok__law_web (P := P) (w := w) (base := base) F21 (PySem.W.mg_none_of X G z_range) (PySem.W.mg_none_of X G z_max) (PySem.W.mg_none_of X G z_min) (PySem.W.mg_none_of X G z_tuple) E20 G20
  have G22 := ok__law_partings (P := P) (w := w) (base := base) F22 (PySem.W.mg_none_of X G z_len) (PySem.W.mg_none_of X G z_range) (PySem.W.mg_none_of X G z_sorted)
  have G23 := ok__law_between (P := P) (w := w) (base := base) F23 (PySem.W.mg_none_of X G z_len) (PySem.W.mg_none_of X G z_range) (PySem.W.mg_none_of X G z_tuple)
  have G24 := ok__law_inside (P := P) (w := w) (base := base) F24 (PySem.W.mg_none_of X G z_len) (PySem.W.mg_none_of X G z_range) (PySem.W.mg_none_of X G z_tuple)
  have G26 := ok__law_near (P := P) (w := w) (base := base) F26 (PySem.W.mg_none_of X G z_tuple) (PySem.W.mg_none_of X G z_range) (PySem.W.mg_none_of X G z_list) (PySem.W.mg_none_of X G z_len) E20 G20
  have G27 := ok_law (P := P) (w := w) (base := base) F27 (code_of_tab a27 l27 tt) TB (PySem.W.mg_none_of X G z_list) (PySem.W.mg_none_of X G z_range) (PySem.W.mg_none_of X G z_len) (PySem.W.mg_none_of X G z_sorted) (PySem.W.mg_none_of X G z_tuple) (PySem.W.mg_none_of X G z_isinstance) (PySem.W.mg_none_of X G z_ValueError) E19 G19 E21 G21 E22 G22 E26 G26 E18 G18 E14 G14 E24 G24 E12 G12 E25 H_law_name X_law_name E16 G16 E23 G23 E20 G20 (law_true pT)
  exact G27
end ZZ
open PySem PySem.W PyProof.Rows
set_option maxHeartbeats 0 in
theorem PySem.Challenge.cw_treesapartways_k07_whole_ties_inside_and_holds : PySem.Challenge.rw_treesapartways_k07_whole_ties_inside_and.Holds := by
  w_on; o_law; k_head; (case hw => w_witness2)
  k_fill
  refine ZZ.walk_tab (l := PySem.Challenge.rw_treesapartways_k07_whole_ties_inside_and) (n := 63) (k := 9) (x := "script") rfl (by decide) rfl ⟨rfl, by decide, by decide⟩ (fun w h Y => by first | exact PySem.W.km_in_of Y | exact PySem.W.kIn_of Y) rfl (fun w => by first | rfl | kernel_rfl) ?F
  case F =>
    intro w mg fa h KX G hmg
    refine' ZZ.all_mk KX G hmg ?a0 ?l0 ?c0 ?k0 ?a1 ?l1 ?c1 ?k1 ?a2 ?l2 ?c2 ?k2 ?a3 ?l3 ?c3 ?k3 ?a4 ?l4 ?c4 ?k4 ?a5 ?l5 ?c5 ?k5 ?a6 ?l6 ?c6 ?k6 ?a7 ?l7 ?c7 ?k7 ?a8 ?l8 ?c8 ?k8 ?a9 ?l9 ?c9 ?k9 ?a10 ?l10 ?c10 ?k10 ?a11 ?l11 ?c11 ?k11 ?a12 ?l12 ?c12 ?k12 ?a13 ?l13 ?c13 ?k13 ?a14 ?l14 ?c14 ?k14 ?a15 ?l15 ?c15 ?k15 ?a16 ?l16 ?c16 ?k16 ?a17 ?l17 ?c17 ?k17 ?a18 ?l18 ?c18 ?k18 ?a19 ?l19 ?c19 ?k19 ?a20 ?l20 ?c20 ?k20 ?a21 ?l21 ?c21 ?k21 ?a22 ?l22 ?c22 ?k22 ?a23 ?l23 ?c23 ?k23 ?a24 ?l24 ?c24 ?k24 ?a25 ?l25 ?c25 ?k25 ?a26 ?l26 ?c26 ?k26 ?a27 ?l27 ?c27 ?k27 ?z_isinstance ?z_int ?z_bool ?z_tuple ?z_len ?z_zip ?z_all ?z_list ?z_range ?z_min ?z_sorted ?z_set ?z_enumerate ?z_max ?z_ValueError ?y_MOST_PLACES ?y_MOST_TIES ?g_NoWeb ?x_NoWeb ?k_NoWeb ?b_NoWeb ?t_NoWeb ?g_NoLot ?x_NoLot ?k_NoLot ?b_NoLot ?t_NoLot ?g_NoPlaces ?x_NoPlaces ?k_NoPlaces ?b_NoPlaces ?t_NoPlaces ?g_NoParting ?x_NoParting ?k_NoParting ?b_NoParting ?t_NoParting ?tt ?g_TreeError ?s1 ?s2 ?h1_NoWeb ?h2_NoWeb ?h3_NoWeb ?h4_NoWeb ?h5_NoWeb ?h6_NoWeb ?h1_NoLot ?h2_NoLot ?h3_NoLot ?h4_NoLot ?h5_NoLot ?h6_NoLot ?h1_NoPlaces ?h2_NoPlaces ?h3_NoPlaces ?h4_NoPlaces ?h5_NoPlaces ?h6_NoPlaces ?h1_NoParting ?h2_NoParting ?h3_NoParting ?h4_NoParting ?h5_NoParting ?h6_NoParting ?t_law_name_NoWeb ?q_law_name_NoWeb_NoParting ?q_law_name_NoWeb_NoPlaces ?q_law_name_NoWeb_NoWeb ?t_law_name_NoLot ?q_law_name_NoLot_NoParting ?q_law_name_NoLot_NoPlaces ?q_law_name_NoLot_NoWeb ?t_law_name_NoPlaces ?q_law_name_NoPlaces_NoParting ?q_law_name_NoPlaces_NoPlaces ?q_law_name_NoPlaces_NoWeb ?t_law_name_NoParting ?q_law_name_NoParting_NoParting ?q_law_name_NoParting_NoPlaces ?q_law_name_NoParting_NoWeb
    (case a0 => k_is); (case l0 => k_is); (case c0 => k_is); (case k0 => k_is); (case a1 => k_is); (case l1 => k_is); (case c1 => k_is); (case k1 => k_is); (case a2 => k_is); (case l2 => k_is); (case c2 => k_is); (case k2 => k_is); (case a3 => k_is); (case l3 => k_is); (case c3 => k_is); (case k3 => k_is); (case a4 => k_is); (case l4 => k_is); (case c4 => k_is); (case k4 => k_is); (case a5 => k_is); (case l5 => k_is); (case c5 => k_is); (case k5 => k_is); (case a6 => k_is); (case l6 => k_is); (case c6 => k_is); (case k6 => k_is); (case a7 => k_is); (case l7 => k_is); (case c7 => k_is); (case k7 => k_is); (case a8 => k_is); (case l8 => k_is); (case c8 => k_is); (case k8 => k_is); (case a9 => k_is); (case l9 => k_is); (case c9 => k_is); (case k9 => k_is); (case a10 => k_is); (case l10 => k_is); (case c10 => k_is); (case k10 => k_is); (case a11 => k_is); (case l11 => k_is); (case c11 => k_is); (case k11 => k_is); (case a12 => k_is); (case l12 => k_is); (case c12 => k_is); (case k12 => k_is); (case a13 => k_is); (case l13 => k_is); (case c13 => k_is); (case k13 => k_is); (case a14 => k_is); (case l14 => k_is); (case c14 => k_is); (case k14 => k_is); (case a15 => k_is); (case l15 => k_is); (case c15 => k_is); (case k15 => k_is); (case a16 => k_is); (case l16 => k_is); (case c16 => k_is); (case k16 => k_is); (case a17 => k_is); (case l17 => k_is); (case c17 => k_is); (case k17 => k_is); (case a18 => k_is); (case l18 => k_is); (case c18 => k_is); (case k18 => k_is); (case a19 => k_is); (case l19 => k_is); (case c19 => k_is); (case k19 => k_is); (case a20 => k_is); (case l20 => k_is); (case c20 => k_is); (case k20 => k_is); (case a21 => k_is); (case l21 => k_is); (case c21 => k_is); (case k21 => k_is); (case a22 => k_is); (case l22 => k_is); (case c22 => k_is); (case k22 => k_is); (case a23 => k_is); (case l23 => k_is); (case c23 => k_is); (case k23 => k_is); (case a24 => k_is); (case l24 => k_is); (case c24 => k_is); (case k24 => k_is); (case a25 => k_is); (case l25 => k_is); (case c25 => k_is); (case k25 => k_is); (case a26 => k_is); (case l26 => k_is); (case c26 => k_is); (case k26 => k_is); (case a27 => k_is); (case l27 => k_is); (case c27 => k_is); (case k27 => k_is); (case z_isinstance => k_is); (case z_int => k_is); (case z_bool => k_is); (case z_tuple => k_is); (case z_len => k_is); (case z_zip => k_is); (case z_all => k_is); (case z_list => k_is); (case z_range => k_is); (case z_min => k_is); (case z_sorted => k_is); (case z_set => k_is); (case z_enumerate => k_is); (case z_max => k_is); (case z_ValueError => k_is); (case y_MOST_PLACES => k_is); (case y_MOST_TIES => k_is); (case g_NoWeb => k_is); (case x_NoWeb => k_exc); (case k_NoWeb => k_is); (case b_NoWeb => k_is); (case t_NoWeb => k_is); (case g_NoLot => k_is); (case x_NoLot => k_exc); (case k_NoLot => k_is); (case b_NoLot => k_is); (case t_NoLot => k_is); (case g_NoPlaces => k_is); (case x_NoPlaces => k_exc); (case k_NoPlaces => k_is); (case b_NoPlaces => k_is); (case t_NoPlaces => k_is); (case g_NoParting => k_is); (case x_NoParting => k_exc); (case k_NoParting => k_is); (case b_NoParting => k_is); (case t_NoParting => k_is); (case tt => kernel_rfl); (case g_TreeError => k_is); (case s1 => k_is); (case s2 => k_is); (case h1_NoWeb => k_is); (case h2_NoWeb => k_is); (case h3_NoWeb => k_is); (case h4_NoWeb => k_is); (case h5_NoWeb => k_is); (case h6_NoWeb => kernel_rfl); (case h1_NoLot => k_is); (case h2_NoLot => k_is); (case h3_NoLot => k_is); (case h4_NoLot => k_is); (case h5_NoLot => k_is); (case h6_NoLot => kernel_rfl); (case h1_NoPlaces => k_is); (case h2_NoPlaces => k_is); (case h3_NoPlaces => k_is); (case h4_NoPlaces => k_is); (case h5_NoPlaces => k_is); (case h6_NoPlaces => kernel_rfl); (case h1_NoParting => k_is); (case h2_NoParting => k_is); (case h3_NoParting => k_is); (case h4_NoParting => k_is); (case h5_NoParting => k_is); (case h6_NoParting => kernel_rfl); (case t_law_name_NoWeb => kernel_rfl); (case q_law_name_NoWeb_NoParting => kernel_rfl); (case q_law_name_NoWeb_NoPlaces => kernel_rfl); (case q_law_name_NoWeb_NoWeb => kernel_rfl); (case t_law_name_NoLot => kernel_rfl); (case q_law_name_NoLot_NoParting => kernel_rfl); (case q_law_name_NoLot_NoPlaces => kernel_rfl); (case q_law_name_NoLot_NoWeb => kernel_rfl); (case t_law_name_NoPlaces => kernel_rfl); (case q_law_name_NoPlaces_NoParting => kernel_rfl); (case q_law_name_NoPlaces_NoPlaces => kernel_rfl); (case q_law_name_NoPlaces_NoWeb => kernel_rfl); (case t_law_name_NoParting => kernel_rfl); (case q_law_name_NoParting_NoParting => kernel_rfl); (case q_law_name_NoParting_NoPlaces => kernel_rfl); (case q_law_name_NoParting_NoWeb => kernel_rfl)

