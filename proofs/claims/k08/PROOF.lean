import PyProof.Rows.All
import Wide.All
import OpenK.AllK
import Wide.FinOn
import HandS.ForMost
import HandS.Exc
import HandS.Lambda
import HandS.Wide
import HandS.Star
import HandS.Style
import HandS.TupAny
import HandS.Text
import PyProof.P3Eq
import HandS.CallSlots
import HandS.WordsExc
import HandS.ForExc
import HandS.Comp
import HandS.Iter
import HandS.Zip
import HandS.IsInst
import HandS.Conv
import HandS.SortInts
import KE.DatumOrd
import KE.KTupSum
import HandS.ExcValue
import HandS.ExcOwn
import PyProof.ReprRoads
import PyProof.Rows.SetFrom
import HandS.Strs
import KE.KExcSuper
import KE.KSuper
import KE.KExcIs
import HandS.ExcField
import HandS.EndTab
import HandS.Codes
import PyProof.ReprLen
import PyProof.Rows.ReprOcc
import PySem.Challenge.RW_whatequationssay_k08_whole_tables_as_tex
set_option Elab.async false
set_option linter.all false
set_option maxRecDepth 100000
set_option maxHeartbeats 1000000
/-! DL: a layer of deep values over HandS. -/
namespace DL
open PySem PySem.Spec L2

/-- deep values -/
inductive D where
  | non | bl (b : Bool) | int (i : Int) | str (x : Str)
  | tup (xs : List D) | lst (xs : List D)
  | err (c : Str) (v : D)
  | dct (kvs : List (D × D))
  | kl (xs : List D)
  | obj (c : Str) (fs : List (Str × D))

/-- an exception object at a of the class at C, its own dict at d -/
def ErrO (a C d : Addr) : HO := .ext fun h => ∃ oe vs, h.get? a = some oe ∧ oe.cls = .ref C ∧ oe.dict = some d ∧ oe.data = .fields vs

abbrev Mg := Str → Option Value
abbrev AS := Addr → Prop

/-- a list that may be one of the module's own objects -/
def KlT (K : PySem.W.Frag) (H : Hp) (W : AS) (a : Addr) (vs : List V) : Prop := (Rd H a (.lst vs) ∧ ¬ W a) ∨ (∀ H', SqL K H' a vs)
mutual
/-- v stands for d in H; no list of d is one of W's -/
inductive Rp (K : PySem.W.Frag) (mg : Mg) (H : Hp) (W : AS) : V → D → Prop
  | non : Rp K mg H W .non .non
  | bl (b : Bool) : Rp K mg H W (.bl b) (.bl b)
  | int (i : Int) : Rp K mg H W (.int i) (.int i)
  | str (x : Str) : Rp K mg H W (.str x) (.str x)
  | tup {a : Addr} {vs : List V} {ds : List D} : SqT K H a vs → vs.length ≤ sizeLine → RpL K mg H W vs ds → Rp K mg H W (.ref a) (.tup ds)
  | lst {a : Addr} {vs : List V} {ds : List D} : Rd H a (.lst vs) → vs.length ≤ sizeLine → ¬ W a → RpL K mg H W vs ds → Rp K mg H W (.ref a) (.lst ds)
  | kl {a : Addr} {vs : List V} {ds : List D} : KlT K H W a vs → vs.length ≤ sizeLine → RpL K mg H W vs ds → Rp K mg H W (.ref a) (.kl ds)
  | err {a C d : Addr} {c : Str} {v : V} {x : D} : mg c = some (.ref C) → H a = some (ErrO a C d) → H d = some (.xd [("value", v)]) → Rp K mg H W v x → Rp K mg H W (.ref a) (.err c x)
inductive RpL (K : PySem.W.Frag) (mg : Mg) (H : Hp) (W : AS) : List V → List D → Prop
  | nil : RpL K mg H W [] []
  | cons {v : V} {vs : List V} {d : D} {ds : List D} : Rp K mg H W v d → RpL K mg H W vs ds → RpL K mg H W (v :: vs) (d :: ds)
end

/-- the defs that make lambdas -/
def lamNames : List String := ["_law_is_read", "_law_right"]
/-- their tables of code objects, with the lambdas' names -/
def tabOf (o : Obj) : Option (Addr × Str) := match o.data with
  | .fields vs => match (vs[1]? : Option Value), (vs[11]? : Option Value) with
    | some (.str q _), some (.ref P) => if lamNames.any (fun n => (n : Str) == q) = true then some (P, q ++ ".<locals>." ++ "<lambda>") else none
    | _, _ => none
  | _ => none
def tabsOf (K : PySem.W.Frag) : List (Addr × Str) := K.filterMap fun p => tabOf p.2
def isTbl : HO → Bool
  | .tbl _ => true
  | _ => false
/-- all but O's objects and the tables stay -/
structure Evo (O : AS) (H H' : Hp) : Prop where
  k : ∀ b o, H b = some o → ¬ O b → isTbl o = false → H' b = some o
  t : ∀ b ps, H b = some (.tbl ps) → ∃ qs, H' b = some (.tbl qs)
/-- W's addresses are lists -/
def Wf (H : Hp) (W : AS) : Prop := ∀ a, W a → ∃ xs, H a = some (.lst xs)

section
variable {K : PySem.W.Frag} {mg : Mg} {H H' H'' : Hp} {W W' O : AS}
theorem Evo.refl : Evo O H H := ⟨fun _ _ h _ _ => h, fun _ ps h => ⟨ps, h⟩⟩
theorem Evo.trans (a : Evo O H H') (b : Evo O H' H'') : Evo O H H'' := ⟨fun c o h n z => b.k c o (a.k c o h n z) n z, fun c ps h => by
  obtain ⟨qs, e⟩ := a.t c ps h
  exact b.t c qs e⟩
theorem Evo.all (h : ∀ b o, H b = some o → H' b = some o) : Evo O H H' := ⟨fun b o e _ _ => h b o e, fun b ps e => ⟨ps, h b _ e⟩⟩
theorem Evo.upd {p : Addr} {o : HO} (h : H p = none) : Evo O H (upd H p o) := Evo.all fun b u e => by
  rw [upd_ne (ne_of_none e h)]; exact e
theorem Evo.write {p : Addr} {us : List V} {o : HO} (h : O p) (hp : H p = some (.lst us)) : Evo O H (L2.upd H p o) := ⟨fun b u e n _ => by
  rw [upd_ne (fun z => n (by rw [z]; exact h))]; exact e, fun b ps e => ⟨ps, by
    rw [upd_ne (fun z => by rw [z, hp] at e; cases e)]; exact e⟩⟩
/-- O's are lists: none of them a table -/
theorem Evo.but (h : ∀ b o, H b = some o → ¬ O b → H' b = some o) (w : ∀ a, O a → ∃ xs, H a = some (.lst xs)) : Evo O H H' := ⟨fun b o e n _ => h b o e n, fun b ps e => ⟨ps, h b _ e fun z => by
  obtain ⟨xs, q⟩ := w b z
  rw [e] at q; cases q⟩⟩
theorem Evo.mono {O' : AS} (h : Evo O H H') (s : ∀ a, O a → O' a) : Evo O' H H' := ⟨fun b o e n z => h.k b o e (fun q => n (s b q)) z, h.t⟩
theorem tabs_write {T : List (Addr × Str)} {p : Addr} {us : List V} {vs : List V} (t : LamX.Tabs T H) (hp : H p = some (.lst us)) : LamX.Tabs T (L2.upd H p (.lst vs)) := fun q hq => by
  obtain ⟨ps, h1, h2, h3⟩ := t q hq
  have ne : ∀ {b : Addr} {o : HO}, H b = some o → (∀ xs, o ≠ .lst xs) → b ≠ p := fun {b o} e n z => by
    rw [z, hp] at e
    exact n us (Option.some.inj e).symm
  refine ⟨ps, by rw [upd_ne (ne h1 fun xs z => by cases z)]; exact h1, h2, fun pos cv hc => ?_⟩
  obtain ⟨c, e1, e2⟩ := h3 pos cv hc
  refine ⟨c, e1, ?_⟩
  rw [upd_ne (ne e2 fun xs z => by unfold LamX.CodeO at z; cases z)]
  exact e2

theorem SqT.evo {a : Addr} {vs : List V} (h : SqT K H a vs) (e : Evo O H H') (ow : ∀ a, O a → ∃ xs, H a = some (.lst xs)) : SqT K H' a vs := by
  rcases h with (h | ⟨o, h⟩) | h
  · exact .inl (.inl (e.k _ _ h (fun z => by obtain ⟨xs, q⟩ := ow _ z; rw [h] at q; cases q) rfl))
  · exact .inl (.inr ⟨o, e.k _ _ h (fun z => by obtain ⟨xs, q⟩ := ow _ z; rw [h] at q; cases q) rfl⟩)
  · exact .inr h
theorem Rd.evo {a : Addr} {vs : List V} (h : Rd H a (.lst vs)) (e : Evo O H H') (n : ¬ O a) : Rd H' a (.lst vs) := by
  rcases h with h | ⟨o, h⟩
  · exact .inl (e.k _ _ h n rfl)
  · exact .inr ⟨o, e.k _ _ h n rfl⟩
theorem KlT.sql {a : Addr} {vs : List V} (h : KlT K H W a vs) : SqL K H a vs := h.elim (fun z => .inl z.1) fun z => z H
theorem KlT.of {a : Addr} {vs : List V} (h : SqL K H a vs) (n : ∀ a, ¬ W a) : KlT K H W a vs := h.elim (fun z => .inl ⟨z, n a⟩) fun z => .inr fun H' => .inr z
theorem KlT.evo {a : Addr} {vs : List V} (h : KlT K H W a vs) (e : Evo O H H') (s : ∀ a, O a → W a) : KlT K H' W a vs := h.elim (fun z => .inl ⟨Rd.evo z.1 e fun q => z.2 (s _ q), z.2⟩) .inr
theorem KlT.sub {a : Addr} {vs : List V} (h : KlT K H W a vs) (s : ∀ a, W' a → W a) : KlT K H W' a vs := h.imp (fun z => ⟨z.1, fun q => z.2 (s _ q)⟩) id
theorem KlT.grow {a : Addr} {vs : List V} (h : KlT K H W a vs) (s : ∀ a, W' a → W a ∨ H a = none) : KlT K H W' a vs := h.imp (fun z => ⟨z.1, fun q => (s _ q).elim z.2 fun e => by
  rcases z.1 with h | ⟨o, h⟩ <;> rw [e] at h <;> cases h⟩) id

mutual
theorem Rp.evo (e : Evo O H H') (ow : ∀ a, O a → ∃ xs, H a = some (.lst xs)) (s : ∀ a, O a → W a) : ∀ {v : V} {d : D}, Rp K mg H W v d → Rp K mg H' W v d
  | _, _, .non => .non
  | _, _, .bl b => .bl b
  | _, _, .int i => .int i
  | _, _, .str x => .str x
  | _, _, .tup h z r => .tup (SqT.evo h e ow) z (RpL.evo e ow s r)
  | _, _, .lst h z n r => .lst (Rd.evo h e fun q => n (s _ q)) z n (RpL.evo e ow s r)
  | _, _, .kl h z r => .kl (h.evo e s) z (RpL.evo e ow s r)
  | _, _, .err m h h2 r => .err m (e.k _ _ h (fun z => by obtain ⟨xs, q⟩ := ow _ z; rw [h] at q; cases q) rfl) (e.k _ _ h2 (fun z => by obtain ⟨xs, q⟩ := ow _ z; rw [h2] at q; cases q) rfl) (Rp.evo e ow s r)
theorem RpL.evo (e : Evo O H H') (ow : ∀ a, O a → ∃ xs, H a = some (.lst xs)) (s : ∀ a, O a → W a) : ∀ {vs : List V} {ds : List D}, RpL K mg H W vs ds → RpL K mg H' W vs ds
  | _, _, .nil => .nil
  | _, _, .cons h t => .cons (Rp.evo e ow s h) (RpL.evo e ow s t)
end
mutual
theorem Rp.sub (s : ∀ a, W' a → W a) : ∀ {v : V} {d : D}, Rp K mg H W v d → Rp K mg H W' v d
  | _, _, .non => .non
  | _, _, .bl b => .bl b
  | _, _, .int i => .int i
  | _, _, .str x => .str x
  | _, _, .tup h z r => .tup h z (RpL.sub s r)
  | _, _, .lst h z n r => .lst h z (fun q => n (s _ q)) (RpL.sub s r)
  | _, _, .kl h z r => .kl (h.sub s) z (RpL.sub s r)
  | _, _, .err m h h2 r => .err m h h2 (Rp.sub s r)
theorem RpL.sub (s : ∀ a, W' a → W a) : ∀ {vs : List V} {ds : List D}, RpL K mg H W vs ds → RpL K mg H W' vs ds
  | _, _, .nil => .nil
  | _, _, .cons h t => .cons (Rp.sub s h) (RpL.sub s t)
end
theorem RpL.length : ∀ {vs : List V} {ds : List D}, RpL K mg H W vs ds → vs.length = ds.length
  | _, _, .nil => rfl
  | _, _, .cons _ t => congrArg Nat.succ (RpL.length t)
theorem RpL.get : ∀ {vs : List V} {ds : List D} {i : Nat} {d : D}, RpL K mg H W vs ds → ds[i]? = some d → ∃ v, vs[i]? = some v ∧ Rp K mg H W v d
  | _, _, _, _, .nil, e => by simp at e
  | _, _, 0, _, .cons h _, e => by simp at e; subst e; exact ⟨_, rfl, h⟩
  | _, _, i + 1, _, .cons _ t, e => by
    obtain ⟨v, h1, h2⟩ := RpL.get (i := i) t (by simpa using e)
    exact ⟨v, by simpa using h1, h2⟩
theorem RpL.getV : ∀ {vs : List V} {ds : List D} {i : Nat} {v : V}, RpL K mg H W vs ds → vs[i]? = some v → ∃ d, ds[i]? = some d ∧ Rp K mg H W v d
  | _, _, _, _, .nil, e => by simp at e
  | _, _, 0, _, .cons h _, e => by simp at e; subst e; exact ⟨_, rfl, h⟩
  | _, _, i + 1, _, .cons _ t, e => by
    obtain ⟨v, h1, h2⟩ := RpL.getV (i := i) t (by simpa using e)
    exact ⟨v, by simpa using h1, h2⟩
theorem RpL.append : ∀ {vs ws : List V} {ds es : List D}, RpL K mg H W vs ds → RpL K mg H W ws es → RpL K mg H W (vs ++ ws) (ds ++ es)
  | _, _, _, _, .nil, r => r
  | _, _, _, _, .cons h t, r => .cons h (RpL.append t r)
theorem RpL.take : ∀ {vs : List V} {ds : List D} (n : Nat), RpL K mg H W vs ds → RpL K mg H W (vs.take n) (ds.take n)
  | _, _, 0, _ => .nil
  | _, _, n + 1, .nil => .nil
  | _, _, n + 1, .cons h t => .cons h (RpL.take n t)
theorem RpL.drop : ∀ {vs : List V} {ds : List D} (n : Nat), RpL K mg H W vs ds → RpL K mg H W (vs.drop n) (ds.drop n)
  | _, _, 0, h => h
  | _, _, n + 1, .nil => .nil
  | _, _, n + 1, .cons h t => RpL.drop n t
theorem RpL.set {v : V} {d : D} (r : Rp K mg H W v d) : ∀ {vs : List V} {ds : List D} (n : Nat), RpL K mg H W vs ds → RpL K mg H W (vs.set n v) (ds.set n d)
  | _, _, _, .nil => .nil
  | _, _, 0, .cons h t => .cons r t
  | _, _, n + 1, .cons h t => .cons h (RpL.set r n t)
theorem RpL.reverse : ∀ {vs : List V} {ds : List D}, RpL K mg H W vs ds → RpL K mg H W vs.reverse ds.reverse
  | _, _, .nil => .nil
  | _, _, .cons h t => by
    rw [List.reverse_cons, List.reverse_cons]
    exact RpL.append (RpL.reverse t) (.cons h .nil)
theorem RpL.ints : ∀ {vs : List V} {ns : List Int}, RpL K mg H W vs (ns.map D.int) → vs = ns.map V.int
  | [], [], _ => rfl
  | v :: vs, n :: ns, h => by
    rw [List.map_cons] at h
    cases h with
    | cons h1 h2 => cases h1; rw [List.map_cons, RpL.ints h2]
  | _ :: _, [], h => by rw [List.map_nil] at h; cases h
  | [], _ :: _, h => by rw [List.map_cons] at h; cases h
theorem RpL.of_ints : ∀ (ns : List Int), RpL K mg H W (ns.map V.int) (ns.map D.int)
  | [] => .nil
  | n :: ns => .cons (.int n) (RpL.of_ints ns)
theorem RpL.strs : ∀ {vs : List V} {ns : List Str}, RpL K mg H W vs (ns.map D.str) → vs = ns.map V.str
  | [], [], _ => rfl
  | v :: vs, n :: ns, h => by
    rw [List.map_cons] at h
    cases h with
    | cons h1 h2 => cases h1; rw [List.map_cons, RpL.strs h2]
  | _ :: _, [], h => by rw [List.map_nil] at h; cases h
  | [], _ :: _, h => by rw [List.map_cons] at h; cases h
theorem RpL.of_strs : ∀ (ns : List Str), RpL K mg H W (ns.map V.str) (ns.map D.str)
  | [] => .nil
  | n :: ns => .cons (.str n) (RpL.of_strs ns)
theorem RpL.bls : ∀ {vs : List V} {ns : List Bool}, RpL K mg H W vs (ns.map D.bl) → vs = ns.map V.bl
  | [], [], _ => rfl
  | v :: vs, n :: ns, h => by
    rw [List.map_cons] at h
    cases h with
    | cons h1 h2 => cases h1; rw [List.map_cons, RpL.bls h2]
  | _ :: _, [], h => by rw [List.map_nil] at h; cases h
  | [], _ :: _, h => by rw [List.map_cons] at h; cases h
end

/-! ### environments -/
/-- a slot: no claim, a value, a list of the def's own -/
inductive Sl where
  | no | val (d : D) | own (xs : List D)
abbrev En := List Sl

/-- the set of the callers' lists and of the def's own -/
abbrev U (C O : AS) : AS := fun a => C a ∨ O a

structure EnvOk (K : PySem.W.Frag) (mg : Mg) (C O : AS) (ad : Nat → Addr) (io : List Nat) (H : Hp) (σ : St) (ρ : En) : Prop where
  len : σ.length = ρ.length
  wf : Wf H (U C O)
  dj : ∀ a, C a → ¬ O a
  val : ∀ (i : Nat) (d : D), ρ[i]? = some (Sl.val d) → ∃ v, σ[i]? = some (some v) ∧ Rp K mg H (U C O) v d
  own : ∀ (i : Nat) (xs : List D), ρ[i]? = some (Sl.own xs) → ∃ (a : Addr) (vs : List V), σ[i]? = some (some (V.ref a)) ∧ O a ∧ H a = some (HO.lst vs) ∧ vs.length ≤ sizeLine ∧ RpL K mg H (U C O) vs xs
  ne : ∀ (i j : Nat) (xs ys : List D) (a : Addr), ρ[i]? = some (Sl.own xs) → ρ[j]? = some (Sl.own ys) → σ[i]? = some (some (V.ref a)) → σ[j]? = some (some (V.ref a)) → i = j
  ios : ∀ (i : Nat), i ∈ io → σ[i]? = some (some (V.ref (ad i))) ∧ ∃ xs : List D, ρ[i]? = some (Sl.own xs)
  tb : LamX.Tabs (tabsOf K) H

/-- results -/
inductive R (α : Type) where
  | ok (a : α) (ρ : En) | exc (c : Str) (d : D) (ρ : En) | bad
def R.bind {α β : Type} (r : R α) (f : α → En → R β) : R β := match r with
  | .ok a ρ => f a ρ
  | .exc c d ρ => .exc c d ρ
  | .bad => .bad
abbrev ME := En → R D
abbrev MA := En → R (List D)

/-- the error d's own dict dx holds the value -/
def ErrAt (K : PySem.W.Frag) (mg : Mg) (H : Hp) (W : AS) (c : Str) (d : D) (cls : Value) (dx : Option Addr) : Prop :=
  ∃ C x v, mg c = some (.ref C) ∧ cls = .ref C ∧ dx = some x ∧ H x = some (.xd [("value", v)]) ∧ Rp K mg H W v d

/-- what is wanted behind an expression -/
def Post {α β : Type} (Rel : Hp → AS → β → α → Prop) (K : PySem.W.Frag) (mg : Mg) (Ex : WX) (C O : AS) (ad : Nat → Addr) (io : List Nat) (σ : St) (H : Hp) (r : R α) (Q : β → Hp → Prop) : Prop :=
  match r with
  | .ok d ρ' => ∀ v H', Evo O H H' → EnvOk K mg C O ad io H' σ ρ' → Rel H' (U C O) v d → Q v H'
  | .exc c d ρ' => ∀ H' cls dx, Evo O H H' → EnvOk K mg C O ad io H' σ ρ' → ErrAt K mg H' (U C O) c d cls dx → Ex cls dx σ H'
  | .bad => False

/-- an expression's meaning -/
structure DE (X : Cx) (Ex : WX) (e : Expr) (m : ME) : Prop where
  run : ∃ t, PE X e t ∧ ∀ (C O : AS) (ad : Nat → Addr) (io : List Nat) (H : Hp) (σ : St) (ρ : En) (Q : VK), EnvOk X.K X.mg C O ad io H σ ρ →
    Post (Rp X.K X.mg) X.K X.mg Ex C O ad io σ H (m ρ) Q → t σ H Q
structure DA (X : Cx) (Ex : WX) (es : List Expr) (m : MA) : Prop where
  run : ∃ t, PA X es t ∧ ∀ (C O : AS) (ad : Nat → Addr) (io : List Nat) (H : Hp) (σ : St) (ρ : En) (Q : List V → Hp → Prop), EnvOk X.K X.mg C O ad io H σ ρ →
    Post (RpL X.K X.mg) X.K X.mg Ex C O ad io σ H (m ρ) Q → t σ H Q

section
variable {K : PySem.W.Frag} {mg : Mg} {C O : AS} {ad : Nat → Addr} {io : List Nat} {H H' : Hp} {σ : St} {ρ ρ' : En}
theorem EnvOk.ow (e : EnvOk K mg C O ad io H σ ρ) : ∀ a, O a → ∃ xs, H a = some (.lst xs) := fun a h => e.wf a (.inr h)
theorem EnvOk.rp (e : EnvOk K mg C O ad io H σ ρ) (ev : Evo O H H') {v : V} {d : D} (r : Rp K mg H (U C O) v d) : Rp K mg H' (U C O) v d := r.evo ev e.ow fun _ h => .inr h
theorem EnvOk.rpL (e : EnvOk K mg C O ad io H σ ρ) (ev : Evo O H H') {v : List V} {d : List D} (r : RpL K mg H (U C O) v d) : RpL K mg H' (U C O) v d := r.evo ev e.ow fun _ h => .inr h
/-- nothing of the own lists has changed -/
theorem EnvOk.same (e : EnvOk K mg C O ad io H σ ρ) (ev : ∀ b o, H b = some o → H' b = some o) : EnvOk K mg C O ad io H' σ ρ := by
  have ev' : Evo O H H' := Evo.all ev
  refine ⟨e.len, fun a h => ?_, e.dj, fun i d h => ?_, fun i xs h => ?_, e.ne, e.ios, e.tb.ext ev⟩
  · obtain ⟨xs, q⟩ := e.wf a h
    exact ⟨xs, ev _ _ q⟩
  · obtain ⟨v, h1, h2⟩ := e.val i d h
    exact ⟨v, h1, e.rp ev' h2⟩
  · obtain ⟨a, vs, h1, h2, h3, h4, h5⟩ := e.own i xs h
    exact ⟨a, vs, h1, h2, ev _ _ h3, h4, e.rpL ev' h5⟩
/-- .. but tables -/
theorem EnvOk.evo0 (e : EnvOk K mg C O ad io H σ ρ) (ev : Evo (fun _ => False) H H') (tb : LamX.Tabs (tabsOf K) H') : EnvOk K mg C O ad io H' σ ρ := by
  have ev' : Evo O H H' := ev.mono fun _ z => z.elim
  refine ⟨e.len, fun a h => ?_, e.dj, fun i d h => ?_, fun i xs h => ?_, e.ne, e.ios, tb⟩
  · obtain ⟨xs, q⟩ := e.wf a h
    exact ⟨xs, ev.k _ _ q (fun z => z) rfl⟩
  · obtain ⟨v, h1, h2⟩ := e.val i d h
    exact ⟨v, h1, e.rp ev' h2⟩
  · obtain ⟨a, vs, h1, h2, h3, h4, h5⟩ := e.own i xs h
    exact ⟨a, vs, h1, h2, ev.k _ _ h3 (fun z => z) rfl, h4, e.rpL ev' h5⟩
theorem EnvOk.upd (e : EnvOk K mg C O ad io H σ ρ) {p : Addr} {o : HO} (h : H p = none) : EnvOk K mg C O ad io (upd H p o) σ ρ :=
  e.same fun b u q => by rw [upd_ne (ne_of_none q h)]; exact q
theorem EnvOk.fresh (e : EnvOk K mg C O ad io H σ ρ) {p : Addr} (h : H p = none) : ¬ U C O p := fun z => by
  obtain ⟨xs, q⟩ := e.wf p z
  rw [h] at q; cases q
end

/-! ### names, constants -/
section
variable {X : Cx} {Ex : WX}
def mVar (i : Nat) : ME := fun ρ => match ρ[i]? with
  | some (.val d) => .ok d ρ
  | _ => .bad
theorem de_var {i : Nat} {x : Str} {pos : Pos} (hN : X.N[i]? = some x) (hv : Vis X.env.scope x) (hd : (x == ("__debug__" : Str)) = false := by decide) (hcd : (x == ("__classdict__" : Str)) = false := by decide) : DE X Ex (.Name x pos) (mVar i) := by
  refine ⟨_, pe_var hN hv hd hcd, fun C O ad io H σ ρ Q e h => ?_⟩
  unfold mVar at h
  cases q : ρ[i]? with
  | none => rw [q] at h; exact h.elim
  | some s =>
    rw [q] at h
    cases s with
    | no => exact h.elim
    | own xs => exact h.elim
    | val d =>
      obtain ⟨v, h1, h2⟩ := e.val i d q
      exact ⟨v, h1, h v H Evo.refl e h2⟩
def mC (d : D) : ME := fun ρ => .ok d ρ
theorem de_int {i j pos} : DE X Ex (.Constant (.int i) j pos) (mC (.int i)) := ⟨_, pe_int, fun C O ad io H σ ρ Q e h => h _ H Evo.refl e (.int i)⟩
theorem de_bl {b j pos} : DE X Ex (.Constant (.bool b) j pos) (mC (.bl b)) := ⟨_, pe_bl, fun C O ad io H σ ρ Q e h => h _ H Evo.refl e (.bl b)⟩
theorem de_non {j pos} : DE X Ex (.Constant .none j pos) (mC .non) := ⟨_, pe_non, fun C O ad io H σ ρ Q e h => h _ H Evo.refl e .non⟩
theorem de_str {x j pos} : DE X Ex (.Constant (.str x) j pos) (mC (.str x)) := ⟨_, pe_str, fun C O ad io H σ ρ Q e h => h _ H Evo.refl e (.str x)⟩
/-- a constant of the module: its value stands in the written part -/
theorem de_glob {x : Str} {v : V} {u : Value} {d : D} {pos : Pos} (hg : Gl X x) (hm : X.mg x = some u) (r : RelV v u) (hr : ∀ H W, Rp X.K X.mg H W v d) (hd : (x == ("__debug__" : Str)) = false := by decide) : DE X Ex (.Name x pos) (mC d) :=
  ⟨_, pe_glob hg hm r hd, fun C O ad io H σ ρ Q e h => h _ H Evo.refl e (hr H _)⟩


/-! ### two parts in a row -/
theorem Post.bind {α β γ δ : Type} {Ra : Hp → AS → β → α → Prop} {Rb : Hp → AS → δ → γ → Prop} {K : PySem.W.Frag} {mg : Mg} {C O : AS} {ad : Nat → Addr} {io : List Nat} {σ : St} {H : Hp} {r : R α} {f : α → En → R γ} {Q : δ → Hp → Prop} {Q1 : β → Hp → Prop}
    (h : Post Rb K mg Ex C O ad io σ H (r.bind f) Q)
    (k : ∀ d ρ' v H', r = .ok d ρ' → Evo O H H' → EnvOk K mg C O ad io H' σ ρ' → Ra H' (U C O) v d → Post Rb K mg Ex C O ad io σ H' (f d ρ') Q → Q1 v H') : Post Ra K mg Ex C O ad io σ H r Q1 := by
  cases r with
  | bad => exact h
  | exc c d ρ' => exact h
  | ok d ρ' =>
    intro v H' ev en rl
    refine k d ρ' v H' rfl ev en rl ?_
    have h' : Post Rb K mg Ex C O ad io σ H (f d ρ') Q := h
    unfold Post at h' ⊢
    cases q : f d ρ' with
    | bad => rw [q] at h'; exact h'
    | exc c x ρ2 => rw [q] at h'; exact fun H2 cls dx ev2 en2 er => h' H2 cls dx (ev.trans ev2) en2 er
    | ok x ρ2 => rw [q] at h'; exact fun w H2 ev2 en2 rl2 => h' w H2 (ev.trans ev2) en2 rl2

end
end DL
set_option Elab.async false
set_option linter.all false
set_option maxRecDepth 100000
set_option maxHeartbeats 1000000
namespace DL
open PySem PySem.Spec L2

/-! ### operands: a value, or an own list by its slot, read when it is used -/
inductive Opd where
  | v (d : D) | o (i : Nat)
def Opd.get (ρ : En) : Opd → Option D
  | .v d => some d
  | .o i => match ρ[i]? with
    | some (.own xs) => some (.lst xs)
    | _ => none
/-- as Rp, or an own list -/
inductive RpB (K : PySem.W.Frag) (mg : Mg) (H : Hp) (W : AS) : V → D → Prop
  | of {v : V} {d : D} : Rp K mg H W v d → RpB K mg H W v d
  | own {a : Addr} {vs : List V} {xs : List D} : H a = some (.lst vs) → vs.length ≤ sizeLine → RpL K mg H W vs xs → RpB K mg H W (.ref a) (.lst xs)
abbrev MX := En → R Opd
def RpO (K : PySem.W.Frag) (mg : Mg) (σ : St) : Hp → AS → V → Opd → Prop := fun H W v o => match o with
  | .v d => Rp K mg H W v d
  | .o i => σ[i]? = some (some v)
structure DX (X : Cx) (Ex : WX) (e : Expr) (m : MX) : Prop where
  run : ∃ t, PE X e t ∧ ∀ (C O : AS) (ad : Nat → Addr) (io : List Nat) (H : Hp) (σ : St) (ρ : En) (Q : VK), EnvOk X.K X.mg C O ad io H σ ρ →
    Post (RpO X.K X.mg σ) X.K X.mg Ex C O ad io σ H (m ρ) Q → t σ H Q
def mV (m : ME) : MX := fun ρ => (m ρ).bind fun d ρ => .ok (.v d) ρ
def mO (i : Nat) : MX := fun ρ => .ok (.o i) ρ

section
variable {K : PySem.W.Frag} {mg : Mg} {C O : AS} {ad : Nat → Addr} {io : List Nat} {H H' : Hp} {σ : St} {ρ ρ' : En} {W : AS} {v : V}
theorem RpO.evo (e : EnvOk K mg C O ad io H σ ρ) (ev : Evo O H H') {o : Opd} (r : RpO K mg σ H (U C O) v o) : RpO K mg σ H' (U C O) v o := by
  cases o with
  | v d => exact e.rp ev r
  | o i => exact r
theorem RpO.get (e : EnvOk K mg C O ad io H σ ρ) {o : Opd} {d : D} (r : RpO K mg σ H (U C O) v o) (g : o.get ρ = some d) : RpB K mg H (U C O) v d := by
  cases o with
  | v x =>
    have e1 : x = d := Option.some.inj g
    subst e1
    exact .of r
  | o i =>
    simp only [Opd.get] at g
    cases q : ρ[i]? with
    | none => rw [q] at g; cases g
    | some s =>
      rw [q] at g
      cases s with
      | no => cases g
      | val _ => cases g
      | own xs =>
        cases g
        obtain ⟨a, vs, h1, _, h3, h4, h5⟩ := e.own i xs q
        have r' : σ[i]? = some (some v) := r
        rw [h1] at r'
        cases r'
        exact .own h3 h4 h5
theorem RpB.non (r : RpB K mg H W v .non) : v = .non := by
  cases r with
  | of h => cases h; rfl
theorem RpB.bl {b : Bool} (r : RpB K mg H W v (.bl b)) : v = .bl b := by
  cases r with
  | of h => cases h; rfl
theorem RpB.int {i : Int} (r : RpB K mg H W v (.int i)) : v = .int i := by
  cases r with
  | of h => cases h; rfl
theorem RpB.str {x : Str} (r : RpB K mg H W v (.str x)) : v = .str x := by
  cases r with
  | of h => cases h; rfl
theorem RpB.tup {ds : List D} (r : RpB K mg H W v (.tup ds)) : ∃ (a : Addr) (vs : List V), v = .ref a ∧ SqT K H a vs ∧ vs.length ≤ sizeLine ∧ RpL K mg H W vs ds := by
  cases r with
  | of h => cases h with | tup h1 h2 h3 => exact ⟨_, _, rfl, h1, h2, h3⟩
theorem RpB.lst {ds : List D} (r : RpB K mg H W v (.lst ds)) : ∃ (a : Addr) (vs : List V), v = .ref a ∧ Rd H a (.lst vs) ∧ vs.length ≤ sizeLine ∧ RpL K mg H W vs ds := by
  cases r with
  | of h => cases h with | lst h1 h2 _ h3 => exact ⟨_, _, rfl, h1, h2, h3⟩
  | own h1 h2 h3 => exact ⟨_, _, rfl, .inl h1, h2, h3⟩
theorem RpB.kl {ds : List D} (r : RpB K mg H W v (.kl ds)) : ∃ (a : Addr) (vs : List V), v = .ref a ∧ SqL K H a vs ∧ vs.length ≤ sizeLine ∧ RpL K mg H W vs ds := by
  cases r with
  | of h => cases h with | kl h1 h2 h3 => exact ⟨_, _, rfl, h1.sql, h2, h3⟩
/-- a value without lists -/
def D.imm : D → Bool
  | .non | .bl _ | .int _ | .str _ => true
  | _ => false
theorem RpB.imm {d : D} (r : RpB K mg H W v d) (h : d.imm = true) {W' : AS} : Rp K mg H W' v d := by
  cases r with
  | of q => cases q <;> first | exact .non | exact .bl _ | exact .int _ | exact .str _ | (simp [D.imm] at h)
  | own _ _ _ => simp [D.imm] at h
end

section
variable {X : Cx} {Ex : WX}
theorem dx_v {e : Expr} {m : ME} (h : DE X Ex e m) : DX X Ex e (mV m) := by
  obtain ⟨t, p, r⟩ := h.run
  refine ⟨t, p, fun C O ad io H σ ρ Q en q => r C O ad io H σ ρ Q en ?_⟩
  unfold Post mV at q
  unfold Post
  cases z : m ρ with
  | bad => rw [z] at q; exact q
  | exc c d ρ' => rw [z] at q; exact q
  | ok d ρ' => rw [z] at q; exact q
theorem dx_o {i : Nat} {x : Str} {pos : Pos} (hN : X.N[i]? = some x) (hv : Vis X.env.scope x) (hl : True) (hd : (x == ("__debug__" : Str)) = false := by decide) (hcd : (x == ("__classdict__" : Str)) = false := by decide) :
    DX X Ex (.Name x pos) (fun ρ => match ρ[i]? with | some (.own _) => .ok (.o i) ρ | _ => .bad) := by
  refine ⟨_, pe_var hN hv hd hcd, fun C O ad io H σ ρ Q e h => ?_⟩
  cases q : ρ[i]? with
  | none => rw [q] at h; exact h.elim
  | some s =>
    rw [q] at h
    cases s with
    | no => exact h.elim
    | val d => exact h.elim
    | own xs =>
      obtain ⟨a, vs, h1, h2, h3, h4, h5⟩ := e.own i xs q
      exact ⟨.ref a, h1, h (.ref a) H Evo.refl e h1⟩

/-! ### operators -/
structure DOp (X : Cx) (r : R2) (f : D → D → Option D) : Prop where
  run : ∀ (C O : AS) (ad : Nat → Addr) (io : List Nat) (H : Hp) (σ : St) (ρ : En) (x y : V) (a b d : D) (Q : VK), EnvOk X.K X.mg C O ad io H σ ρ → RpB X.K X.mg H (U C O) x a → RpB X.K X.mg H (U C O) y b → f a b = some d →
    (∀ v H', Evo O H H' → EnvOk X.K X.mg C O ad io H' σ ρ → Rp X.K X.mg H' (U C O) v d → Q v H') → r x y H Q
def bin2 (f : D → D → Option D) (o1 o2 : Opd) (ρ : En) : R D := match o1.get ρ, o2.get ρ with
  | some a, some b => match f a b with
    | some d => .ok d ρ
    | none => .bad
  | _, _ => .bad
def mBin (f : D → D → Option D) (ma mb : MX) : ME := fun ρ => (ma ρ).bind fun a ρ1 => (mb ρ1).bind fun b ρ2 => bin2 f a b ρ2
theorem bin2_run {r : R2} {f : D → D → Option D} (o : DOp X r f) {C O : AS} {ad : Nat → Addr} {io : List Nat} {H : Hp} {σ : St} {ρ : En} {x y : V} {o1 o2 : Opd} {Q : VK} (en : EnvOk X.K X.mg C O ad io H σ ρ)
    (r1 : RpO X.K X.mg σ H (U C O) x o1) (r2 : RpO X.K X.mg σ H (U C O) y o2) (h : Post (Rp X.K X.mg) X.K X.mg Ex C O ad io σ H (bin2 f o1 o2 ρ) Q) : r x y H Q := by
  unfold bin2 at h
  cases g1 : o1.get ρ with
  | none => rw [g1] at h; exact h.elim
  | some a =>
    cases g2 : o2.get ρ with
    | none => rw [g1, g2] at h; exact h.elim
    | some b =>
      rw [g1, g2] at h
      cases q : f a b with
      | none => simp only [q] at h; exact h.elim
      | some d =>
        simp only [q] at h
        exact o.run C O ad io H σ ρ x y a b d Q en (RpO.get en r1 g1) (RpO.get en r2 g2) q h
theorem de_tOp {a b e : Expr} {ma mb : MX} {r : R2} {f : D → D → Option D} (pe : ∀ {ta tb : TE}, PE X a ta → PE X b tb → PE X e (tOp r ta tb)) (o : DOp X r f) (ha : DX X Ex a ma) (hb : DX X Ex b mb) : DE X Ex e (mBin f ma mb) := by
  obtain ⟨ta, pa, ra⟩ := ha.run
  obtain ⟨tb, pb, rb⟩ := hb.run
  refine ⟨_, pe pa pb, fun C O ad io H σ ρ Q en h => ?_⟩
  refine ra C O ad io H σ ρ _ en (Post.bind h fun d ρ1 v H1 _ ev1 en1 r1 h1 => ?_)
  refine rb C O ad io H1 σ ρ1 _ en1 (Post.bind h1 fun d2 ρ2 v2 H2 _ ev2 en2 r2 h2 => ?_)
  exact bin2_run o en2 (RpO.evo en1 ev2 r1) r2 h2
theorem de_op {a b : Expr} {pos : Pos} {op : Operator} {ma mb : MX} {r : R2} {f : D → D → Option D} (ho : OpR X (binaryOp op) r) (o : DOp X r f) (ha : DX X Ex a ma) (hb : DX X Ex b mb) : DE X Ex (.BinOp a op b pos) (mBin f ma mb) :=
  de_tOp (fun pa pb => pe_op ho pa pb) o ha hb
theorem de_cmp {a b : Expr} {pos : Pos} {op : CmpOp} {ma mb : MX} {r : R2} {f : D → D → Option D} (ho : OpR X (compareOp op) r) (o : DOp X r f) (hm : behindInMarks op b = false) (ha : DX X Ex a ma) (hb : DX X Ex b mb) : DE X Ex (.Compare a [op] [b] pos) (mBin f ma mb) :=
  de_tOp (fun pa pb => pe_cmpR ho pa pb hm) o ha hb

/-- ints in, an answer without objects -/
theorem do_int {C0 : Int → Int → Prop} {g : Int → Int → V} {gd : Int → Int → D} [∀ i j, Decidable (C0 i j)] (hg : ∀ K mg H W i j, Rp K mg H W (g i j) (gd i j)) : DOp X (rI C0 g) (fun a b => match a, b with
    | .int i, .int j => if C0 i j then some (gd i j) else none
    | _, _ => none) := ⟨fun C O ad io H σ ρ x y a b d Q en ra rb hf k => by
  cases a <;> cases b <;> simp at hf
  obtain ⟨c, rfl⟩ := hf
  exact ⟨_, _, ra.int, rb.int, c, k _ H Evo.refl en (hg _ _ _ _ _ _)⟩⟩
theorem do_int0 {g : Int → Int → V} {gd : Int → Int → D} (hg : ∀ K mg H W i j, Rp K mg H W (g i j) (gd i j)) : DOp X (rI0 g) (fun a b => match a, b with
    | .int i, .int j => some (gd i j)
    | _, _ => none) := ⟨fun C O ad io H σ ρ x y a b d Q en ra rb hf k => by
  cases a <;> cases b <;> simp at hf
  subst hf
  exact ⟨_, _, ra.int, rb.int, k _ H Evo.refl en (hg _ _ _ _ _ _)⟩⟩
def iAdd : D → D → Option D := fun a b => match a, b with
  | .int i, .int j => some (.int (i + j))
  | _, _ => none
theorem do_add : DOp X (rI0 fun i j => .int (i + j)) iAdd := do_int0 fun _ _ _ _ _ _ => .int _
end
end DL
set_option Elab.async false
set_option linter.all false
set_option maxRecDepth 100000
set_option maxHeartbeats 1000000
namespace DL
open PySem PySem.Spec L2

/-! ### data -/
mutual
def D.py : D → Option PyData
  | .non => some .none
  | .bl b => some (.bool b)
  | .int i => some (.int i)
  | .str x => some (.str x)
  | .tup xs => (pyAll xs).map .tuple
  | .lst xs => (pyAll xs).map .list
  | .err _ _ => none
  | .dct _ => none
  | .kl _ => none
  | .obj _ _ => none
def pyAll : List D → Option (List PyData)
  | [] => some []
  | x :: xs => match x.py, pyAll xs with
    | some p, some ps => some (p :: ps)
    | _, _ => none
end
section
variable {X : Cx} {pins : List (Addr × Obj)} {σ : L2.St} {H : Hp} {s : Shared} {mg : Mg} {W : AS} {K : PySem.W.Frag}
mutual
theorem Rp.dp : ∀ {v : V} {d : D} {p : PyData}, Rp K mg H W v d → d.py = some p → Dp K H v p
  | _, _, _, .non, h => by simp [D.py] at h; subst h; exact .non
  | _, _, _, .bl b, h => by simp [D.py] at h; subst h; exact .bl _
  | _, _, _, .int b, h => by simp [D.py] at h; subst h; exact .int _
  | _, _, _, .str b, h => by simp [D.py] at h; subst h; exact .str _
  | _, .tup ds, _, .tup h1 _ r, h => by
    cases q : pyAll ds with
    | none => simp [D.py, q] at h
    | some ps =>
      simp [D.py, q] at h
      subst h
      exact .tup h1 (RpL.dp r q)
  | _, .lst ds, _, .lst h1 _ _ r, h => by
    cases q : pyAll ds with
    | none => simp [D.py, q] at h
    | some ps =>
      simp [D.py, q] at h
      subst h
      exact .lst (.inl h1) (RpL.dp r q)
  | _, _, _, .kl _ _ _, h => by simp [D.py] at h
  | _, _, _, .err _ _ _ _, h => by simp [D.py] at h
theorem RpL.dp : ∀ {v : List V} {d : List D} {p : List PyData}, RpL K mg H W v d → pyAll d = some p → DpAll K H v p
  | _, _, _, .nil, h => by simp [pyAll] at h; subst h; exact .nil
  | _, d :: ds, _, .cons h1 h2, h => by
    cases q : d.py with
    | none => simp [pyAll, q] at h
    | some p =>
      cases q2 : pyAll ds with
      | none => simp [pyAll, q, q2] at h
      | some ps =>
        simp [pyAll, q, q2] at h
        subst h
        exact .cons (Rp.dp h1 q) (RpL.dp h2 q2)
end
theorem RpB.dp {v : V} {d : D} {p : PyData} (r : RpB K mg H W v d) (h : d.py = some p) : Dp K H v p := by
  cases r with
  | of q => exact q.dp h
  | own h1 h2 h3 =>
    rename_i a vs xs
    cases q : pyAll xs with
    | none => simp [D.py, q] at h
    | some ps =>
      simp [D.py, q] at h
      subst h
      exact .lst (.inl (.inl h1)) (RpL.dp h3 q)
end

/-- data with texts that are right, not too deep -/
def goodP (p : PyData) : Bool := p.canLay0 && decide (p.depth ≤ 64)
def flatD : D → Bool
  | .non | .bl _ | .int _ | .str _ => true
  | _ => false
/-- == of flat values -/
def eqFl : D → D → Bool
  | .non, .non => true
  | .bl a, .bl b => a == b
  | .bl a, .int b => (if a then 1 else 0) == b
  | .int a, .bl b => a == (if b then 1 else 0)
  | .int a, .int b => a == b
  | .str a, .str b => a == b
  | _, _ => false
/-- == -/
def eqD (a b : D) : Option Bool :=
  if flatD a && flatD b then some (eqFl a b) else match a.py, b.py with
    | some p, some q => if goodP p && goodP q then some (PyData.eqv p q) else none
    | _, _ => none
section
variable {X : Cx} {Ex : WX} {pins : List (Addr × Obj)} {σ : L2.St} {H : Hp} {s : Shared} {mg : Mg} {W : AS}
theorem RpB.flat {K : PySem.W.Frag} {v : V} {d : D} (r : RpB K mg H W v d) (h : flatD d = true) : flatV v = true := by
  cases d <;> simp [flatD] at h
  · rw [r.non]; rfl
  · rw [r.bl]; rfl
  · rw [r.int]; rfl
  · rw [r.str]; rfl
theorem eqFl_V {K : PySem.W.Frag} {x y : V} {a b : D} (rx : RpB K mg H W x a) (ry : RpB K mg H W y b) (ha : flatD a = true) (hb : flatD b = true) : eqV x y = eqFl a b := by
  cases a <;> simp [flatD] at ha <;> cases b <;> simp [flatD] at hb <;>
    first
      | (rw [rx.non]) | (rw [rx.bl]) | (rw [rx.int]) | (rw [rx.str])
  all_goals first
      | (rw [ry.non]; rfl) | (rw [ry.bl]; rfl) | (rw [ry.int]; rfl) | (rw [ry.str]; rfl)
/-- == within a container -/
theorem eqAt_D {x y : V} {a b : D} {k : Bool} {u v : Value} {A : Around} (I : Inv X pins σ H s) (rx : RpB X.K mg H W x a) (ry : RpB X.K mg H W y b) (hx : RelV x u) (hy : RelV y v) (hu : A.units + 64 < cLine) (h : eqD a b = some k) : SeqAt.EqAt A s u v k := by
  unfold eqD at h
  split at h
  · rename_i hf
    rw [Bool.and_eq_true] at hf
    cases h
    rw [← eqFl_V rx ry hf.1 hf.2]
    exact eqAt_V hx hy (rx.flat hf.1) (ry.flat hf.2)
  · split at h
    · rename_i p q e1 e2
      split at h
      · rename_i hg
        rw [Bool.and_eq_true] at hg
        cases h
        unfold goodP at hg
        rw [Bool.and_eq_true, Bool.and_eq_true] at hg
        obtain ⟨⟨c1, d1⟩, c2, d2⟩ := hg
        obtain ⟨as, r1⟩ := Dp.reads I p x u (rx.dp e1) hx
        obtain ⟨bs, r2⟩ := Dp.reads I q y v (ry.dp e2) hy
        refine SeqAt.eqAt_reads p q A s u v as bs r1 r2 c1 c2 ?_
        have := of_decide_eq_true d1
        have h2 : min p.depth q.depth ≤ p.depth := Nat.min_le_left _ _
        omega
      · cases h
    · cases h
end

section
variable {X : Cx} {Ex : WX}
/-- a comparison by D's function -/
def rD (K : PySem.W.Frag) (mg : Mg) (f : D → D → Option Bool) : R2 := fun x y H Q => ∃ (W : AS) (a b : D) (k : Bool), RpB K mg H W x a ∧ RpB K mg H W y b ∧ f a b = some k ∧ Q (.bl k) H
def cmpD (f : D → D → Option Bool) (a b : D) : Option D := (f a b).map .bl
theorem do_rD {f : D → D → Option Bool} : DOp X (rD X.K X.mg f) (cmpD f) := ⟨fun C O ad io H σ ρ x y a b d Q en ra rb hf k => by
  unfold cmpD at hf
  cases q : f a b with
  | none => rw [q] at hf; cases hf
  | some c =>
    rw [q] at hf
    cases hf
    exact ⟨_, a, b, c, ra, rb, q, k _ H Evo.refl en (.bl _)⟩⟩

def strD : D → Bool
  | .str _ => true
  | _ => false
theorem py_flat {d : D} (h : flatD d = true) : ∃ p, d.py = some p := by
  cases d <;> simp [flatD] at h <;> exact ⟨_, rfl⟩
theorem eqv_flat {a b : D} {p q : PyData} (ha : flatD a = true) (hb : flatD b = true) (h1 : a.py = some p) (h2 : b.py = some q) (s1 : strD a = false ∨ strD b = false) : PyData.eqv p q = eqFl a b := by
  cases a <;> simp [flatD] at ha <;> cases b <;> simp [flatD] at hb <;> simp [D.py] at h1 h2 <;> subst h1 <;> subst h2 <;> first | rfl | (simp [PyData.eqv, eqFl]) | (simp [strD] at s1)
theorem good_flat {a : D} {p : PyData} (ha : flatD a = true) (h1 : a.py = some p) (s1 : strD a = false) : p.canLay0 = true ∧ p.depth = 0 := by
  cases a <;> simp [flatD] at ha <;> simp [D.py] at h1 <;> subst h1 <;> first | (exfalso; simp [strD] at s1; done) | exact ⟨by simp [PyData.canLay0], by simp [PyData.depth]⟩
theorem scal_flat {K : PySem.W.Frag} {mg : Mg} {H : Hp} {W : AS} {x y : V} {a b : D} (rx : RpB K mg H W x a) (ry : RpB K mg H W y b) (ha : flatD a = true) (hb : flatD b = true) (hs : strD a = true ∨ strD b = true) : scal x y = true ∧ decide (x = y) = eqFl a b := by
  cases a <;> simp [flatD] at ha <;> cases b <;> simp [flatD] at hb <;> simp [strD] at hs <;>
    first
      | (have e1 := rx.non; subst e1) | (have e1 := rx.bl; subst e1) | (have e1 := rx.int; subst e1) | (have e1 := rx.str; subst e1)
  all_goals first
      | (have e2 := ry.non; subst e2) | (have e2 := ry.bl; subst e2) | (have e2 := ry.int; subst e2) | (have e2 := ry.str; subst e2)
  all_goals first | (refine ⟨rfl, ?_⟩; simp [eqFl]; done) | (refine ⟨rfl, ?_⟩; exact dec_str)
theorem op_eqR (hu : X.A.units + 64 < cLine) : OpR X (compareOp .Eq) (rD X.K X.mg eqD) := by
  intro pins s σ H x y v u Q I rx ry h
  obtain ⟨W, a, b, k, ra, rb, hk, q⟩ := h
  unfold eqD at hk
  split at hk
  · rename_i hf
    rw [Bool.and_eq_true] at hf
    cases hk
    by_cases hs : strD a = true ∨ strD b = true
    · obtain ⟨h1, h2⟩ := scal_flat ra rb hf.1 hf.2 hs
      refine op_eq pins s σ H x y v u Q I rx ry ⟨h1, ?_⟩
      rw [h2]
      exact q
    · have hs1 : strD a = false := by
        cases z : strD a with
        | false => rfl
        | true => exact absurd (.inl z) hs
      have hs2 : strD b = false := by
        cases z : strD b with
        | false => rfl
        | true => exact absurd (.inr z) hs
      obtain ⟨p, e1⟩ := py_flat hf.1
      obtain ⟨p2, e2⟩ := py_flat hf.2
      obtain ⟨c1, d1⟩ := good_flat hf.1 e1 hs1
      obtain ⟨c2, d2⟩ := good_flat hf.2 e2 hs2
      obtain ⟨as, r1⟩ := Dp.reads I p x v (ra.dp e1) rx
      obtain ⟨bs, r2⟩ := Dp.reads I p2 y u (rb.dp e2) ry
      refine SeqAt.compareEq_reads r1 r2 c1 c2 (by rw [d1]; omega) ⟨.bl _, H, I, rfl, ?_⟩
      rw [eqv_flat hf.1 hf.2 e1 e2 (.inl hs1)]
      exact q
  · split at hk
    · rename_i p p2 e1 e2
      split at hk
      · rename_i hg
        rw [Bool.and_eq_true] at hg
        cases hk
        unfold goodP at hg
        rw [Bool.and_eq_true, Bool.and_eq_true] at hg
        obtain ⟨⟨c1, d1⟩, c2, d2⟩ := hg
        obtain ⟨as, r1⟩ := Dp.reads I p x v (ra.dp e1) rx
        obtain ⟨bs, r2⟩ := Dp.reads I p2 y u (rb.dp e2) ry
        refine SeqAt.compareEq_reads r1 r2 c1 c2 ?_ ⟨.bl _, H, I, rfl, q⟩
        have := of_decide_eq_true d1
        have h2 : min p.depth p2.depth ≤ p.depth := Nat.min_le_left _ _
        omega
      · cases hk
    · cases hk
def neD (a b : D) : Option Bool := (eqD a b).map (!·)
theorem op_neR (hu : X.A.units + 64 < cLine) : OpR X (compareOp .NotEq) (rD X.K X.mg neD) := by
  intro pins s σ H x y v u Q I rx ry h
  obtain ⟨W, a, b, k', ra, rb, hk', q⟩ := h
  unfold neD at hk'
  obtain ⟨k, hk, rfl⟩ : ∃ k, eqD a b = some k ∧ (!k) = k' := by
    cases z : eqD a b with
    | none => rw [z] at hk'; cases hk'
    | some k => rw [z] at hk'; exact ⟨k, rfl, Option.some.inj hk'⟩
  unfold eqD at hk
  split at hk
  · rename_i hf
    rw [Bool.and_eq_true] at hf
    cases hk
    by_cases hs : strD a = true ∨ strD b = true
    · obtain ⟨h1, h2⟩ := scal_flat ra rb hf.1 hf.2 hs
      refine op_ne pins s σ H x y v u Q I rx ry ⟨h1, ?_⟩
      rw [h2]
      exact q
    · have hs1 : strD a = false := by
        cases z : strD a with
        | false => rfl
        | true => exact absurd (.inl z) hs
      have hs2 : strD b = false := by
        cases z : strD b with
        | false => rfl
        | true => exact absurd (.inr z) hs
      obtain ⟨p, e1⟩ := py_flat hf.1
      obtain ⟨p2, e2⟩ := py_flat hf.2
      obtain ⟨c1, d1⟩ := good_flat hf.1 e1 hs1
      obtain ⟨c2, d2⟩ := good_flat hf.2 e2 hs2
      obtain ⟨as, r1⟩ := Dp.reads I p x v (ra.dp e1) rx
      obtain ⟨bs, r2⟩ := Dp.reads I p2 y u (rb.dp e2) ry
      refine SeqAt.compareNe_reads r1 r2 c1 c2 (by rw [d1]; omega) ⟨.bl _, H, I, rfl, ?_⟩
      rw [eqv_flat hf.1 hf.2 e1 e2 (.inl hs1)]
      exact q
  · split at hk
    · rename_i p p2 e1 e2
      split at hk
      · rename_i hg
        rw [Bool.and_eq_true] at hg
        cases hk
        unfold goodP at hg
        rw [Bool.and_eq_true, Bool.and_eq_true] at hg
        obtain ⟨⟨c1, d1⟩, c2, d2⟩ := hg
        obtain ⟨as, r1⟩ := Dp.reads I p x v (ra.dp e1) rx
        obtain ⟨bs, r2⟩ := Dp.reads I p2 y u (rb.dp e2) ry
        refine SeqAt.compareNe_reads r1 r2 c1 c2 ?_ ⟨.bl _, H, I, rfl, q⟩
        have := of_decide_eq_true d1
        have h2 : min p.depth p2.depth ≤ p.depth := Nat.min_le_left _ _
        omega
      · cases hk
    · cases hk

/-! ### in -/
def inL (x : D) : List D → Option Bool
  | [] => some false
  | d :: ds => match eqD d x, inL x ds with
    | some a, some b => some (a || b)
    | _, _ => none
theorem inL_all {x : D} : ∀ {ds : List D} {k : Bool}, inL x ds = some k → ∀ d ∈ ds, ∃ j, eqD d x = some j
  | [], _, _, _, hd => nomatch hd
  | d :: ds, k, h, e, he => by
    unfold inL at h
    cases q1 : eqD d x with
    | none => rw [q1] at h; cases h
    | some a =>
      cases q2 : inL x ds with
      | none => rw [q1, q2] at h; cases h
      | some b =>
        rcases List.mem_cons.mp he with rfl | he
        · exact ⟨a, q1⟩
        · exact inL_all q2 e he
theorem inL_true {x : D} : ∀ {ds : List D} {k : Bool}, inL x ds = some k → (k = true ↔ ∃ d ∈ ds, eqD d x = some true)
  | [], k, h => by
    simp [inL] at h
    subst h
    simp
  | d :: ds, k, h => by
    unfold inL at h
    cases q1 : eqD d x with
    | none => rw [q1] at h; cases h
    | some a =>
      cases q2 : inL x ds with
      | none => rw [q1, q2] at h; cases h
      | some b =>
        rw [q1, q2] at h
        cases h
        have ih := inL_true q2
        simp only [Bool.or_eq_true, ih, List.mem_cons]
        constructor
        · rintro (h | ⟨e, h1, h2⟩)
          · exact ⟨d, .inl rfl, by rw [q1, h]⟩
          · exact ⟨e, .inr h1, h2⟩
        · rintro ⟨e, rfl | h1, h2⟩
          · rw [q1] at h2
            exact .inl (Option.some.inj h2)
          · exact .inr ⟨e, h1, h2⟩
def inD (a b : D) : Option Bool := match a, b with
  | .str x, .str y => match x.cps.toList with
    | [c] => some (decide (c ∈ y.cps.toList))
    | _ => none
  | a, .tup ds => inL a ds
  | a, .lst ds => inL a ds
  | _, _ => none
/-- which of the items is an equal one -/
noncomputable def hitV (x : D) (its : List Value) (ds : List D) (y : Value) : Bool := @decide (∃ (i : Nat) (d : D), its[i]? = some y ∧ ds[i]? = some d ∧ eqD d x = some true) (Classical.propDecidable _)
theorem hit_eqAt {pins : List (Addr × Obj)} {σ : L2.St} {H : Hp} {s : Shared} {W : AS} {A : Around} (I : Inv X pins σ H s) {x : V} {a : D} {v : Value} {vs : List V} {ds : List D} {its : List Value} {k : Bool} (hu : A.units + 64 < cLine) (rx : RelV x v) (ra : RpB X.K X.mg H W x a)
    (rv : Vals vs its) (rd : RpL X.K X.mg H W vs ds) (h : inL a ds = some k) : ∀ y ∈ its, SeqAt.EqAt A s y v (hitV a its ds y) := by
  intro y hy
  obtain ⟨i, hi, e⟩ := List.getElem_of_mem hy
  have key : ∀ j d, its[j]? = some y → ds[j]? = some d → ∀ b, eqD d a = some b → SeqAt.EqAt A s y v b := fun j d h1 h2 b hb => by
    obtain ⟨z, hz, rz⟩ := rd.get h2
    obtain ⟨u, hu', ru⟩ := rv.get hz
    rw [h1] at hu'
    cases hu'
    exact eqAt_D I (.of rz) ra ru rx hu hb
  have hi' : its[i]? = some y := by rw [List.getElem?_eq_getElem hi, e]
  have hl : i < ds.length := by rw [← rd.length, rv.length]; exact hi
  obtain ⟨b, hb⟩ := inL_all h ds[i] (List.getElem_mem hl)
  by_cases c : ∃ (i : Nat) (d : D), its[i]? = some y ∧ ds[i]? = some d ∧ eqD d a = some true
  · have e2 : hitV a its ds y = true := @decide_eq_true _ (Classical.propDecidable _) c
    rw [e2]
    obtain ⟨j, d, h1, h2, h3⟩ := c
    exact key j d h1 h2 true h3
  · have e2 : hitV a its ds y = false := @decide_eq_false _ (Classical.propDecidable _) c
    rw [e2]
    have hd := List.getElem?_eq_getElem hl
    cases b with
    | true => exact absurd ⟨i, _, hi', hd, hb⟩ c
    | false => exact key i _ hi' hd false hb
theorem hit_any {vs : List V} {ds : List D} {its : List Value} {K : PySem.W.Frag} {mg : Mg} {H : Hp} {W : AS} {a : D} {k : Bool} (rv : Vals vs its) (rd : RpL K mg H W vs ds) (h : inL a ds = some k) : its.toArray.any (hitV a its ds) = k := by
  have e : its.toArray.any (hitV a its ds) = its.any (hitV a its ds) := by simp
  rw [e, Bool.eq_iff_iff, inL_true h, List.any_eq_true]
  constructor
  · rintro ⟨y, hy, hh⟩
    obtain ⟨i, d, h1, h2, h3⟩ := @of_decide_eq_true _ (Classical.propDecidable _) hh
    exact ⟨d, List.mem_of_getElem? h2, h3⟩
  · rintro ⟨d, hd, hh⟩
    obtain ⟨i, hi, e⟩ := List.getElem_of_mem hd
    have hl : i < its.length := by rw [← rv.length, rd.length]; exact hi
    exact ⟨its[i], List.getElem_mem hl, @decide_eq_true _ (Classical.propDecidable _) ⟨i, d, List.getElem?_eq_getElem hl, by rw [List.getElem?_eq_getElem hi, e], hh⟩⟩
theorem op_inR (hu : X.A.units + 65 < cLine) : OpR X (compareOp .In) (rD X.K X.mg inD) := by
  intro pins s σ H x y v u Q I rx ry h
  obtain ⟨W, a, b, k, ra, rb, hk, q⟩ := h
  have hu1 : X.A.in1.units + 64 < cLine := by show X.A.units + 1 + 64 < cLine; omega
  unfold inD at hk
  split at hk
  · rename_i z1 z2
    have e1 := ra.str
    have e2 := rb.str
    subst e1; subst e2
    split at hk
    · rename_i c hc
      cases hk
      obtain ⟨⟨l⟩⟩ := z1
      have hc' : l = [c] := by simpa using hc
      subst hc'
      exact op_in_sign pins s σ H _ _ _ u Q I rx ry ⟨c, z2, rfl, rfl, q⟩
    · cases hk
  · rename_i _ _ ds
    obtain ⟨p, vs, rfl, hs, hz, rl⟩ := rb.tup
    cases ry
    obtain ⟨its, r, pl, _⟩ := I.tuple hs
    refine SeqAt.in_tupleAt (hitV a its ds) pl (fun w hw => hit_eqAt I hu1 rx ra r rl hk w (by simpa using hw)) ⟨.bl _, H, I, rfl, ?_⟩
    rw [hit_any r rl hk]
    exact q
  · rename_i _ _ ds
    obtain ⟨p, vs, rfl, hs, hz, rl⟩ := rb.lst
    cases ry
    obtain ⟨its, r, pl, _⟩ := I.list (.inl hs)
    refine SeqAt.in_listAt (hitV a its ds) pl.isList (fun w hw => hit_eqAt I hu1 rx ra r rl hk w (by simpa using hw)) ⟨.bl _, H, I, rfl, ?_⟩
    rw [hit_any r rl hk]
    exact q
  · cases hk
def notInD (a b : D) : Option Bool := (inD a b).map (!·)
theorem op_notInR (hu : X.A.units + 65 < cLine) : OpR X (compareOp .NotIn) (rD X.K X.mg notInD) := by
  intro pins s σ H x y v u Q I rx ry h
  obtain ⟨W, a, b, k', ra, rb, hk', q⟩ := h
  have hu1 : X.A.in1.units + 64 < cLine := by show X.A.units + 1 + 64 < cLine; omega
  unfold notInD at hk'
  obtain ⟨k, hk, rfl⟩ : ∃ k, inD a b = some k ∧ (!k) = k' := by
    cases z : inD a b with
    | none => rw [z] at hk'; cases hk'
    | some k => rw [z] at hk'; exact ⟨k, rfl, Option.some.inj hk'⟩
  unfold inD at hk
  split at hk
  · rename_i z1 z2
    have e1 := ra.str
    have e2 := rb.str
    subst e1; subst e2
    split at hk
    · rename_i c hc
      cases hk
      obtain ⟨⟨l⟩⟩ := z1
      have hc' : l = [c] := by simpa using hc
      subst hc'
      exact op_notIn_sign pins s σ H _ _ _ u Q I rx ry ⟨c, z2, rfl, rfl, q⟩
    · cases hk
  · rename_i _ _ ds
    obtain ⟨p, vs, rfl, hs, hz, rl⟩ := rb.tup
    cases ry
    obtain ⟨its, r, pl, _⟩ := I.tuple hs
    refine SeqAt.notIn_tupleAt (hitV a its ds) pl (fun w hw => hit_eqAt I hu1 rx ra r rl hk w (by simpa using hw)) ⟨.bl _, H, I, rfl, ?_⟩
    rw [hit_any r rl hk]
    exact q
  · rename_i _ _ ds
    obtain ⟨p, vs, rfl, hs, hz, rl⟩ := rb.lst
    cases ry
    obtain ⟨its, r, pl, _⟩ := I.list (.inl hs)
    refine SeqAt.notIn_listAt (hitV a its ds) pl.isList (fun w hw => hit_eqAt I hu1 rx ra r rl hk w (by simpa using hw)) ⟨.bl _, H, I, rfl, ?_⟩
    rw [hit_any r rl hk]
    exact q
  · cases hk
end
end DL
set_option Elab.async false
set_option linter.all false
set_option maxRecDepth 100000
set_option maxHeartbeats 1000000
namespace DL
open PySem PySem.Spec L2

section
variable {X : Cx} {Ex : WX} {pos : Pos}
/-! ### arithmetic -/
def iSub : D → D → Option D := fun a b => match a, b with
  | .int i, .int j => some (.int (i - j))
  | _, _ => none
theorem do_sub : DOp X (rI0 fun i j => .int (i - j)) iSub := do_int0 fun _ _ _ _ _ _ => .int _
instance (i j : Int) : Decidable (CMulW i j) := by unfold CMulW; infer_instance
instance (i j : Int) : Decidable (CDivW i j) := by unfold CDivW; infer_instance
def iMul : D → D → Option D := fun a b => match a, b with
  | .int i, .int j => if CMulW i j then some (.int (i * j)) else none
  | _, _ => none
theorem do_mul : DOp X (rI CMulW fun i j => .int (i * j)) iMul := do_int fun _ _ _ _ _ _ => .int _
def iDiv : D → D → Option D := fun a b => match a, b with
  | .int i, .int j => if CDivW i j then some (.int (i / j)) else none
  | _, _ => none
theorem do_div : DOp X (rI CDivW fun i j => .int (i / j)) iDiv := do_int fun _ _ _ _ _ _ => .int _
def iMod : D → D → Option D := fun a b => match a, b with
  | .int i, .int j => if 0 < j then some (.int (i % j)) else none
  | _, _ => none
theorem do_mod : DOp X (rI (fun _ j => 0 < j) fun i j => .int (i % j)) iMod := do_int (C0 := fun _ j => 0 < j) fun _ _ _ _ _ _ => .int _
/-- a power of any size that fits -/
def CPowW (i j : Int) : Prop := 0 ≤ j ∧ (Builtin.Int.intBits i : Int) * j ≤ 2 ^ 27
instance (i j : Int) : Decidable (CPowW i j) := by unfold CPowW; infer_instance
theorem op_powW : OpR X (binaryOp .Pow) (rI CPowW fun i j => .int (i ^ j.toNat)) := opI fun _ _ _ _ _ _ _ hc q => PyProof.Rows.pow_int hc.1 hc.2 q
def iPow : D → D → Option D := fun a b => match a, b with
  | .int i, .int j => if CPowW i j then some (.int (i ^ j.toNat)) else none
  | _, _ => none
theorem do_pow : DOp X (rI CPowW fun i j => .int (i ^ j.toNat)) iPow := do_int fun _ _ _ _ _ _ => .int _
def iLt : D → D → Option D := fun a b => match a, b with
  | .int i, .int j => some (.bl (decide (i < j)))
  | _, _ => none
theorem do_lt : DOp X (rI0 fun i j => .bl (decide (i < j))) iLt := do_int0 fun _ _ _ _ _ _ => .bl _
def iLe : D → D → Option D := fun a b => match a, b with
  | .int i, .int j => some (.bl (decide (i ≤ j)))
  | _, _ => none
theorem do_le : DOp X (rI0 fun i j => .bl (decide (i ≤ j))) iLe := do_int0 fun _ _ _ _ _ _ => .bl _
def iGt : D → D → Option D := fun a b => match a, b with
  | .int i, .int j => some (.bl (decide (j < i)))
  | _, _ => none
theorem do_gt : DOp X (rI0 fun i j => .bl (decide (j < i))) iGt := do_int0 fun _ _ _ _ _ _ => .bl _
def iGe : D → D → Option D := fun a b => match a, b with
  | .int i, .int j => some (.bl (decide (j ≤ i)))
  | _, _ => none
theorem do_ge : DOp X (rI0 fun i j => .bl (decide (j ≤ i))) iGe := do_int0 fun _ _ _ _ _ _ => .bl _

/-! ### + of any kind -/
/-- the sum of two: ints, texts, tuples, lists -/
def addD : D → D → Option D := fun a b => match a, b with
  | .int i, .int j => some (.int (i + j))
  | .str x, .str y => if x.length + y.length ≤ sizeLine then some (.str (x ++ y)) else none
  | .tup xs, .tup ys => if xs.length + ys.length ≤ sizeLine then some (.tup (xs ++ ys)) else none
  | .lst xs, .lst ys => if xs.length + ys.length ≤ sizeLine then some (.lst (xs ++ ys)) else none
  | _, _ => none
/-- two lists that are read -/
def rCatR : R2 := fun x y H Q => ∃ l b xs zs, x = .ref l ∧ y = .ref b ∧ Rd H l (.lst xs) ∧ Rd H b (.lst zs) ∧ xs.length + zs.length ≤ sizeLine ∧ ∀ p, H p = none → Q (.ref p) (L2.upd H p (.lst (xs ++ zs)))
theorem op_catR : OpR X (binaryOp .Add) rCatR := by
  intro pins s σ H x y v u Q I rx ry h
  obtain ⟨l, b, xs, zs, rfl, rfl, h1, h2, hz, q⟩ := h
  cases rx
  cases ry
  obtain ⟨z, its, n, r, e⟩ := h1.ok I.hok
  obtain ⟨z2, its2, n2, r2, e2⟩ := h2.ok I.hok
  refine PySem.P.add_list e e2 ?_ (by rw [List.size_toArray, List.size_toArray, ← r.length, ← r2.length]; exact hz)
  have ea : its.toArray ++ its2.toArray = (its ++ its2).toArray := by simp
  rw [ea]
  exact ⟨.ref _, _, I.lnew (t' := s.toks) (r.append r2) (by rw [List.length_append]; exact hz), rfl, q _ I.fresh⟩
def rAddD (K : PySem.W.Frag) : R2 := fun x y H Q => (rI0 fun i j => .int (i + j)) x y H Q ∨ (∃ i j, x = .str i ∧ y = .str j ∧ i.length + j.length ≤ sizeLine ∧ Q (.str (i ++ j)) H) ∨ rCatA K x y H Q ∨ rCatR x y H Q
theorem op_addD : OpR X (binaryOp .Add) (rAddD X.K) := OpR.or op_add (OpR.or op_add_str (OpR.or op_catA op_catR))
theorem do_addD : DOp X (rAddD X.K) addD := ⟨fun C O ad io H σ ρ x y a b d Q en ra rb hf k => by
  unfold addD at hf
  split at hf
  · cases hf
    exact .inl ⟨_, _, ra.int, rb.int, k _ H Evo.refl en (.int _)⟩
  · split at hf
    · rename_i hz
      cases hf
      exact .inr (.inl ⟨_, _, ra.str, rb.str, hz, k _ H Evo.refl en (.str _)⟩)
    · cases hf
  · split at hf
    · rename_i xs ys hz
      cases hf
      obtain ⟨p, vs, rfl, h1, h2, h3⟩ := ra.tup
      obtain ⟨q, ws, rfl, h4, h5, h6⟩ := rb.tup
      have hz' : vs.length + ws.length ≤ sizeLine := by rw [h3.length, h6.length]; exact hz
      refine .inr (.inr (.inl ⟨p, q, vs, ws, rfl, rfl, h1, h4, hz', fun e => ?_, fun _ e => ?_, fun _ _ n hn => ?_⟩))
      · subst e
        have ex : xs = [] := by cases h3; rfl
        subst ex
        exact k _ H Evo.refl en (.tup h4 h5 h6)
      · subst e
        have ex : ys = [] := by cases h6; rfl
        subst ex
        rw [List.append_nil] at k
        exact k _ H Evo.refl en (.tup h1 h2 h3)
      · have ev : Evo O H (L2.upd H n (.tup (vs ++ ws))) := Evo.upd hn
        exact k _ _ ev (en.upd hn) (.tup (.inl (.inl upd_same)) (by rw [List.length_append]; exact hz') ((en.rpL ev h3).append (en.rpL ev h6)))
    · cases hf
  · split at hf
    · rename_i xs ys hz
      cases hf
      obtain ⟨p, vs, rfl, h1, h2, h3⟩ := ra.lst
      obtain ⟨q, ws, rfl, h4, h5, h6⟩ := rb.lst
      have hz' : vs.length + ws.length ≤ sizeLine := by rw [h3.length, h6.length]; exact hz
      refine .inr (.inr (.inr ⟨p, q, vs, ws, rfl, rfl, h1, h4, hz', fun n hn => ?_⟩))
      have ev : Evo O H (L2.upd H n (.lst (vs ++ ws))) := Evo.upd hn
      exact k _ _ ev (en.upd hn) (.lst (.inl upd_same) (by rw [List.length_append]; exact hz') (en.fresh hn) ((en.rpL ev h3).append (en.rpL ev h6)))
    · cases hf
  · cases hf⟩

/-! ### is None -/
def isNonD : D → Bool
  | .non => true
  | _ => false
theorem RpB.isNon {K : PySem.W.Frag} {mg : Mg} {H : Hp} {W : AS} {v : V} {d : D} (r : RpB K mg H W v d) : decide (v = .non) = isNonD d := by
  cases d with
  | non => rw [r.non]; rfl
  | bl b => rw [r.bl]; rfl
  | int b => rw [r.int]; rfl
  | str b => rw [r.str]; rfl
  | tup ds => obtain ⟨a, vs, rfl, _⟩ := r.tup; rfl
  | lst ds => obtain ⟨a, vs, rfl, _⟩ := r.lst; rfl
  | kl ds => obtain ⟨a, vs, rfl, _⟩ := r.kl; rfl
  | err c x => cases r with | of h => cases h; rfl
  | dct kvs => cases r with | of h => cases h
  | obj c fs => cases r with | of h => cases h
def isN : D → D → Option D := fun a b => match b with
  | .non => some (.bl (isNonD a))
  | _ => none
def notN : D → D → Option D := fun a b => match b with
  | .non => some (.bl (!isNonD a))
  | _ => none
theorem do_isN : DOp X (fun x y H Q => y = .non ∧ Q (.bl (decide (x = .non))) H) isN := ⟨fun C O ad io H σ ρ x y a b d Q en ra rb hf k => by
  unfold isN at hf
  split at hf
  · cases hf
    refine ⟨rb.non, ?_⟩
    rw [ra.isNon]
    exact k _ H Evo.refl en (.bl _)
  · cases hf⟩
theorem do_notN : DOp X (fun x y H Q => y = .non ∧ Q (.bl (!decide (x = .non))) H) notN := ⟨fun C O ad io H σ ρ x y a b d Q en ra rb hf k => by
  unfold notN at hf
  split at hf
  · cases hf
    refine ⟨rb.non, ?_⟩
    rw [ra.isNon]
    exact k _ H Evo.refl en (.bl _)
  · cases hf⟩

/-! ### one-place -/
def mUn (f : D → Option D) (ma : ME) : ME := fun ρ => (ma ρ).bind fun a ρ1 => match f a with
  | some d => .ok d ρ1
  | none => .bad
def iNeg : D → Option D
  | .int i => some (.int (-i))
  | _ => none
theorem de_neg {a : Expr} {ma : ME} (ha : DE X Ex a ma) : DE X Ex (.UnaryOp .USub a pos) (mUn iNeg ma) := by
  obtain ⟨ta, pa, ra⟩ := ha.run
  refine ⟨_, pe_un un_neg pa, fun C O ad io H σ ρ Q en h => ?_⟩
  refine ra C O ad io H σ ρ _ en (Post.bind h fun d ρ1 v H1 _ ev1 en1 r1 h1 => ?_)
  cases d <;> simp only [iNeg] at h1 <;> first | exact h1.elim | skip
  cases r1
  exact ⟨_, rfl, h1 _ H1 Evo.refl en1 (.int _)⟩
/-- not, of a truth value -/
def iNot : D → Option D
  | .bl i => some (.bl (!i))
  | _ => none
theorem de_not {a : Expr} {ma : ME} (ha : DE X Ex a ma) : DE X Ex (.UnaryOp .Not a pos) (mUn iNot ma) := by
  obtain ⟨ta, pa, ra⟩ := ha.run
  refine ⟨_, pe_not pa, fun C O ad io H σ ρ Q en h => ?_⟩
  refine ra C O ad io H σ ρ _ en (Post.bind h fun d ρ1 v H1 _ ev1 en1 r1 h1 => ?_)
  cases d <;> simp only [iNot] at h1 <;> first | exact h1.elim | skip
  cases r1
  exact ⟨_, rfl, h1 _ H1 Evo.refl en1 (.bl _)⟩

/-! ### and, or as values -/
def mAnd (ma mb : ME) : ME := fun ρ => (ma ρ).bind fun a ρ1 => match a with
  | .bl true => mb ρ1
  | .bl false => .ok (.bl false) ρ1
  | _ => .bad
def mOr (ma mb : ME) : ME := fun ρ => (ma ρ).bind fun a ρ1 => match a with
  | .bl true => .ok (.bl true) ρ1
  | .bl false => mb ρ1
  | _ => .bad
theorem de_one {op : BoolOp} {a : Expr} {ma : ME} (ha : DE X Ex a ma) : DE X Ex (.BoolOp op [a] pos) ma := by
  obtain ⟨ta, pa, ra⟩ := ha.run
  exact ⟨_, pe_one pa, ra⟩
theorem de_and {a b : Expr} {rest : List Expr} {ma mb : ME} (ha : DE X Ex a ma) (hb : DE X Ex (.BoolOp .And (b :: rest) pos) mb) : DE X Ex (.BoolOp .And (a :: b :: rest) pos) (mAnd ma mb) := by
  obtain ⟨ta, pa, ra⟩ := ha.run
  obtain ⟨tb, pb, rb⟩ := hb.run
  refine ⟨_, pe_and pa pb, fun C O ad io H σ ρ Q en h => ?_⟩
  refine ra C O ad io H σ ρ _ en (Post.bind h fun d ρ1 v H1 _ ev1 en1 r1 h1 => ?_)
  cases d with
  | bl c =>
    cases r1
    cases c with
    | true => exact ⟨true, rfl, iteT (rb C O ad io H1 σ ρ1 Q en1 h1)⟩
    | false => exact ⟨false, rfl, iteF (h1 _ H1 Evo.refl en1 (.bl _))⟩
  | _ => exact h1.elim
theorem de_or {a b : Expr} {rest : List Expr} {ma mb : ME} (ha : DE X Ex a ma) (hb : DE X Ex (.BoolOp .Or (b :: rest) pos) mb) : DE X Ex (.BoolOp .Or (a :: b :: rest) pos) (mOr ma mb) := by
  obtain ⟨ta, pa, ra⟩ := ha.run
  obtain ⟨tb, pb, rb⟩ := hb.run
  refine ⟨_, pe_or pa pb, fun C O ad io H σ ρ Q en h => ?_⟩
  refine ra C O ad io H σ ρ _ en (Post.bind h fun d ρ1 v H1 _ ev1 en1 r1 h1 => ?_)
  cases d with
  | bl c =>
    cases r1
    cases c with
    | true => exact ⟨true, rfl, iteT (h1 _ H1 Evo.refl en1 (.bl _))⟩
    | false => exact ⟨false, rfl, iteF (rb C O ad io H1 σ ρ1 Q en1 h1)⟩
  | _ => exact h1.elim

/-! ### tests -/
abbrev MT := En → R Bool
def RB : Hp → AS → Bool → Bool → Prop := fun _ _ a b => a = b
structure DT (X : Cx) (Ex : WX) (e : Expr) (m : MT) : Prop where
  run : ∃ t, PT X e t ∧ ∀ (C O : AS) (ad : Nat → Addr) (io : List Nat) (H : Hp) (σ : St) (ρ : En) (Q : Bool → Hp → Prop), EnvOk X.K X.mg C O ad io H σ ρ →
    Post RB X.K X.mg Ex C O ad io σ H (m ρ) Q → t σ H Q
/-- within and, or -/
structure DW (X : Cx) (Ex : WX) (e : Expr) (m : MT) : Prop where
  run : ∃ t, PW X e t ∧ ∀ (C O : AS) (ad : Nat → Addr) (io : List Nat) (H : Hp) (σ : St) (ρ : En) (Q : Bool → Hp → Prop), EnvOk X.K X.mg C O ad io H σ ρ →
    Post RB X.K X.mg Ex C O ad io σ H (m ρ) Q → t σ H Q
theorem DW.dt {e : Expr} {m : MT} (h : DW X Ex e m) : DT X Ex e m := by
  obtain ⟨t, p, r⟩ := h.run
  exact ⟨t, p.pt, r⟩
def asB (r : R D) : R Bool := r.bind fun d ρ => match d with
  | .bl b => .ok b ρ
  | _ => .bad
def mT (m : ME) : MT := fun ρ => asB (m ρ)
theorem asB_run {C O : AS} {ad : Nat → Addr} {io : List Nat} {H : Hp} {σ : St} {r : R D} {Q : Bool → Hp → Prop} (h : Post RB X.K X.mg Ex C O ad io σ H (asB r) Q) : Post (Rp X.K X.mg) X.K X.mg Ex C O ad io σ H r (fun v H' => ∃ k, v = .bl k ∧ Q k H') := by
  unfold asB at h
  refine Post.bind h fun d ρ1 v H1 _ ev1 en1 r1 h1 => ?_
  cases d with
  | bl b => cases r1; exact ⟨b, rfl, h1 b H1 Evo.refl en1 rfl⟩
  | _ => exact h1.elim
/-- a test by its value -/
theorem dt_val {e : Expr} {m : ME} (h : DE X Ex e m) (he : ∀ whole, isTrue e X.env whole = (do let v ← whole; standAt e.pos; holding [v] (truthy v)) := by intro _; rfl) : DT X Ex e (mT m) := by
  obtain ⟨t, p, r⟩ := h.run
  exact ⟨_, pt_val p he, fun C O ad io H σ ρ Q en h => r C O ad io H σ ρ _ en (asB_run h)⟩
theorem dt_cmp {a b : Expr} {op : CmpOp} {ma mb : MX} {r : R2} {f : D → D → Option D} (ho : OpR X (compareOp op) r) (o : DOp X r f) (hm : behindInMarks op b = false) (ha : DX X Ex a ma) (hb : DX X Ex b mb) : DT X Ex (.Compare a [op] [b] pos) (mT (mBin f ma mb)) := by
  obtain ⟨ta, pa, ra⟩ := ha.run
  obtain ⟨tb, pb, rb⟩ := hb.run
  refine ⟨_, pt_cmpR ho pa pb hm, fun C O ad io H σ ρ Q en h => ?_⟩
  have h := asB_run h
  refine ra C O ad io H σ ρ _ en (Post.bind h fun d ρ1 v H1 _ ev1 en1 r1 h1 => ?_)
  refine rb C O ad io H1 σ ρ1 _ en1 (Post.bind h1 fun d2 ρ2 v2 H2 _ ev2 en2 r2 h2 => ?_)
  exact bin2_run (Q := fun v H' => ∃ k, v = .bl k ∧ Q k H') o en2 (RpO.evo en1 ev2 r1) r2 h2
def mAndT (ma mb : MT) : MT := fun ρ => (ma ρ).bind fun a ρ1 => match a with
  | true => mb ρ1
  | false => .ok false ρ1
def mOrT (ma mb : MT) : MT := fun ρ => (ma ρ).bind fun a ρ1 => match a with
  | true => .ok true ρ1
  | false => mb ρ1
def mNotT (ma : MT) : MT := fun ρ => (ma ρ).bind fun a ρ1 => .ok (!a) ρ1
theorem dt_not {a : Expr} {ma : MT} (ha : DT X Ex a ma) : DT X Ex (.UnaryOp .Not a pos) (mNotT ma) := by
  obtain ⟨ta, pa, ra⟩ := ha.run
  refine ⟨_, pt_not pa, fun C O ad io H σ ρ Q en h => ?_⟩
  refine ra C O ad io H σ ρ _ en (Post.bind h fun d ρ1 v H1 _ ev1 en1 r1 h1 => ?_)
  cases r1
  exact h1 _ H1 Evo.refl en1 rfl
theorem dw_and1 {a : Expr} {ma : MT} (ha : DT X Ex a ma) : DW X Ex (.BoolOp .And [a] pos) ma := by
  obtain ⟨ta, pa, ra⟩ := ha.run
  exact ⟨_, pw_and1 pa, ra⟩
theorem dw_or1 {a : Expr} {ma : MT} (ha : DT X Ex a ma) : DW X Ex (.BoolOp .Or [a] pos) ma := by
  obtain ⟨ta, pa, ra⟩ := ha.run
  exact ⟨_, pw_or1 pa, ra⟩
theorem dw_and {a b : Expr} {rest : List Expr} {ma mb : MT} (ha : DT X Ex a ma) (hb : DW X Ex (.BoolOp .And (b :: rest) pos) mb) : DW X Ex (.BoolOp .And (a :: b :: rest) pos) (mAndT ma mb) := by
  obtain ⟨ta, pa, ra⟩ := ha.run
  obtain ⟨tb, pb, rb⟩ := hb.run
  refine ⟨_, pw_and pa pb, fun C O ad io H σ ρ Q en h => ?_⟩
  refine ra C O ad io H σ ρ _ en (Post.bind h fun d ρ1 v H1 _ ev1 en1 r1 h1 => ?_)
  cases r1
  cases d with
  | true => exact iteT (rb C O ad io H1 σ ρ1 Q en1 h1)
  | false => exact iteF (h1 _ H1 Evo.refl en1 rfl)
theorem dw_or {a b : Expr} {rest : List Expr} {ma mb : MT} (ha : DT X Ex a ma) (hb : DW X Ex (.BoolOp .Or (b :: rest) pos) mb) : DW X Ex (.BoolOp .Or (a :: b :: rest) pos) (mOrT ma mb) := by
  obtain ⟨ta, pa, ra⟩ := ha.run
  obtain ⟨tb, pb, rb⟩ := hb.run
  refine ⟨_, pw_or pa pb, fun C O ad io H σ ρ Q en h => ?_⟩
  refine ra C O ad io H σ ρ _ en (Post.bind h fun d ρ1 v H1 _ ev1 en1 r1 h1 => ?_)
  cases r1
  cases d with
  | true => exact iteT (h1 _ H1 Evo.refl en1 rfl)
  | false => exact iteF (rb C O ad io H1 σ ρ1 Q en1 h1)
def mIf (mc : MT) (ma mb : ME) : ME := fun ρ => (mc ρ).bind fun c ρ1 => match c with
  | true => ma ρ1
  | false => mb ρ1
theorem de_if {c a b : Expr} {mc : MT} {ma mb : ME} (hc : DT X Ex c mc) (ha : DE X Ex a ma) (hb : DE X Ex b mb) : DE X Ex (.IfExp c a b pos) (mIf mc ma mb) := by
  obtain ⟨tc, pc, rc⟩ := hc.run
  obtain ⟨ta, pa, ra⟩ := ha.run
  obtain ⟨tb, pb, rb⟩ := hb.run
  refine ⟨_, pe_ifExp pc pa pb, fun C O ad io H σ ρ Q en h => ?_⟩
  refine rc C O ad io H σ ρ _ en (Post.bind h fun d ρ1 v H1 _ ev1 en1 r1 h1 => ?_)
  cases r1
  cases d with
  | true => exact iteT (ra C O ad io H1 σ ρ1 Q en1 h1)
  | false => exact iteF (rb C O ad io H1 σ ρ1 Q en1 h1)

/-! ### a op b op' c -/
def mChain (f g : D → D → Option D) (ma mb mc : MX) : ME := fun ρ => (ma ρ).bind fun a ρ1 => (mb ρ1).bind fun b ρ2 => (bin2 f a b ρ2).bind fun k ρ3 => match k with
  | .bl true => (mc ρ3).bind fun c ρ4 => bin2 g b c ρ4
  | .bl false => .ok (.bl false) ρ3
  | _ => .bad
theorem chain_run {a b c : Expr} {ma mb mc : MX} {f g : D → D → Option D} {r r' : R2} {ta tb tc : TE} (of : DOp X r f) (og : DOp X r' g)
    (ra : ∀ (C O : AS) (ad : Nat → Addr) (io : List Nat) (H : Hp) (σ : St) (ρ : En) (Q : VK), EnvOk X.K X.mg C O ad io H σ ρ → Post (RpO X.K X.mg σ) X.K X.mg Ex C O ad io σ H (ma ρ) Q → ta σ H Q)
    (rb : ∀ (C O : AS) (ad : Nat → Addr) (io : List Nat) (H : Hp) (σ : St) (ρ : En) (Q : VK), EnvOk X.K X.mg C O ad io H σ ρ → Post (RpO X.K X.mg σ) X.K X.mg Ex C O ad io σ H (mb ρ) Q → tb σ H Q)
    (rc : ∀ (C O : AS) (ad : Nat → Addr) (io : List Nat) (H : Hp) (σ : St) (ρ : En) (Q : VK), EnvOk X.K X.mg C O ad io H σ ρ → Post (RpO X.K X.mg σ) X.K X.mg Ex C O ad io σ H (mc ρ) Q → tc σ H Q)
    {C O : AS} {ad : Nat → Addr} {io : List Nat} {H : Hp} {σ : St} {ρ : En} {Q : VK} (en : EnvOk X.K X.mg C O ad io H σ ρ) (h : Post (Rp X.K X.mg) X.K X.mg Ex C O ad io σ H (mChain f g ma mb mc ρ) Q) : tChain r r' ta tb tc σ H Q := by
  unfold mChain at h
  refine ra C O ad io H σ ρ _ en (Post.bind h fun d ρ1 v H1 _ ev1 en1 r1 h1 => ?_)
  refine rb C O ad io H1 σ ρ1 _ en1 (Post.bind h1 fun d2 ρ2 v2 H2 _ ev2 en2 r2 h2 => ?_)
  refine bin2_run (Ex := Ex) of en2 (RpO.evo en1 ev2 r1) r2 (Post.bind h2 fun k ρ3 z H3 _ ev3 en3 r3 h3 => ?_)
  cases k with
  | bl c =>
    cases r3
    cases c with
    | true =>
      refine ⟨true, rfl, iteT ?_⟩
      refine rc C O ad io H3 σ ρ3 _ en3 (Post.bind h3 fun d4 ρ4 v4 H4 _ ev4 en4 r4 h4 => ?_)
      exact bin2_run og en4 (RpO.evo en3 ev4 (RpO.evo en2 ev3 r2)) r4 h4
    | false => exact ⟨false, rfl, iteF (h3 _ H3 Evo.refl en3 (.bl _))⟩
  | _ => exact h3.elim
theorem de_chain {a b c : Expr} {op op' : CmpOp} {ma mb mc : MX} {r r' : R2} {f g : D → D → Option D} (ho : OpR X (compareOp op) r) (ho' : OpR X (compareOp op') r') (of : DOp X r f) (og : DOp X r' g) (ha : DX X Ex a ma) (hb : DX X Ex b mb) (hc : DX X Ex c mc)
    (hm : lastMarks [op, op'] [b, c] = false := by with_unfolding_all rfl) : DE X Ex (.Compare a [op, op'] [b, c] pos) (mChain f g ma mb mc) := by
  obtain ⟨ta, pa, ra⟩ := ha.run
  obtain ⟨tb, pb, rb⟩ := hb.run
  obtain ⟨tc, pc, rc⟩ := hc.run
  exact ⟨_, pe_chain ho ho' pa pb pc hm, fun C O ad io H σ ρ Q en h => chain_run (a := a) (b := b) (c := c) of og ra rb rc en h⟩
theorem dt_chain {a b c : Expr} {op op' : CmpOp} {ma mb mc : MX} {r r' : R2} {f g : D → D → Option D} (ho : OpR X (compareOp op) r) (ho' : OpR X (compareOp op') r') (of : DOp X r f) (og : DOp X r' g) (ha : DX X Ex a ma) (hb : DX X Ex b mb) (hc : DX X Ex c mc)
    (hm : lastMarks [op, op'] [b, c] = false := by with_unfolding_all rfl) : DT X Ex (.Compare a [op, op'] [b, c] pos) (mT (mChain f g ma mb mc)) := by
  obtain ⟨ta, pa, ra⟩ := ha.run
  obtain ⟨tb, pb, rb⟩ := hb.run
  obtain ⟨tc, pc, rc⟩ := hc.run
  exact ⟨_, pt_chain ho ho' pa pb pc hm, fun C O ad io H σ ρ Q en h => chain_run (a := a) (b := b) (c := c) of og ra rb rc en (asB_run h)⟩
end
end DL
set_option Elab.async false
set_option linter.all false
set_option maxRecDepth 100000
set_option maxHeartbeats 1000000
namespace DL
open PySem PySem.Spec L2

/-! ### a new list -/
abbrev Plus (C : AS) (p : Addr) : AS := fun b => C b ∨ b = p
section
variable {K : PySem.W.Frag} {mg : Mg} {H H' : Hp} {W : AS} {p : Addr}
mutual
theorem Rp.grow (hp : H p = none) : ∀ {v : V} {d : D}, Rp K mg H W v d → Rp K mg H (Plus W p) v d
  | _, _, .non => .non
  | _, _, .bl b => .bl b
  | _, _, .int i => .int i
  | _, _, .str x => .str x
  | _, _, .tup h z r => .tup h z (RpL.grow hp r)
  | _, _, .lst h z n r => .lst h z (fun q => q.elim n fun e => by
      subst e
      rcases h with h | ⟨o, h⟩ <;> rw [hp] at h <;> cases h) (RpL.grow hp r)
  | _, _, .kl h z r => .kl (h.grow fun a q => q.imp id fun e => by rw [e]; exact hp) z (RpL.grow hp r)
  | _, _, .err m h h2 r => .err m h h2 (Rp.grow hp r)
theorem RpL.grow (hp : H p = none) : ∀ {vs : List V} {ds : List D}, RpL K mg H W vs ds → RpL K mg H (Plus W p) vs ds
  | _, _, .nil => .nil
  | _, _, .cons h t => .cons (Rp.grow hp h) (RpL.grow hp t)
end
theorem rp_to {W W' : AS} {v : V} {d : D} (h : Rp K mg H W v d) (e : ∀ a, W' a ↔ W a) : Rp K mg H W' v d := h.sub fun a q => (e a).mp q
theorem rpL_to {W W' : AS} {v : List V} {d : List D} (h : RpL K mg H W v d) (e : ∀ a, W' a ↔ W a) : RpL K mg H W' v d := h.sub fun a q => (e a).mp q
theorem plusU {C O : AS} (a : Addr) : U (Plus C p) O a ↔ Plus (U C O) p a := by
  unfold U Plus
  constructor
  · rintro ((h | h) | h)
    · exact .inl (.inl h)
    · exact .inr h
    · exact .inl (.inr h)
  · rintro ((h | h) | h)
    · exact .inl (.inl h)
    · exact .inr h
    · exact .inl (.inr h)
theorem plusO {C O : AS} (a : Addr) : U C (Plus O p) a ↔ Plus (U C O) p a := by
  unfold U Plus
  constructor
  · rintro (h | h | h)
    · exact .inl (.inl h)
    · exact .inl (.inr h)
    · exact .inr h
  · rintro ((h | h) | h)
    · exact .inl h
    · exact .inr (.inl h)
    · exact .inr (.inr h)
variable {C O : AS} {ad : Nat → Addr} {io : List Nat} {σ : St} {ρ : En}
/-- all that the environment tells avoids a new list -/
theorem EnvOk.plus (e : EnvOk K mg C O ad io H σ ρ) {vs : List V} (hp : H p = none) : EnvOk K mg (Plus C p) O ad io (L2.upd H p (.lst vs)) σ ρ := by
  have e2 := e.upd (o := .lst vs) hp
  have ev : Evo O H (L2.upd H p (.lst vs)) := Evo.upd hp
  refine ⟨e2.len, fun a h => ?_, fun a h => ?_, fun i d h => ?_, fun i xs h => ?_, e2.ne, e2.ios, e2.tb⟩
  · rcases (plusU a).mp h with h | h
    · exact e2.wf a h
    · exact ⟨vs, by rw [h, upd_same]⟩
  · rcases h with h | h
    · exact e.dj a h
    · intro ho
      obtain ⟨xs, q⟩ := e.wf a (.inr ho)
      rw [h, hp] at q; cases q
  · obtain ⟨v, h1, h2⟩ := e.val i d h
    refine ⟨v, h1, rp_to ?_ plusU⟩
    exact (h2.grow hp).evo ev e.ow fun _ h => .inl (.inr h)
  · obtain ⟨a, us, h1, h2, h3, h4, h5⟩ := e.own i xs h
    refine ⟨a, us, h1, h2, ?_, h4, rpL_to ?_ plusU⟩
    · rw [upd_ne (ne_of_none h3 hp)]; exact h3
    · exact (h5.grow hp).evo ev e.ow fun _ h => .inl (.inr h)
theorem EnvOk.unplus (e : EnvOk K mg (Plus C p) O ad io H σ ρ) : EnvOk K mg C O ad io H σ ρ :=
  ⟨e.len, fun a h => e.wf a (h.imp .inl id), fun a h => e.dj a (.inl h), fun i d h => let ⟨v, h1, h2⟩ := e.val i d h; ⟨v, h1, h2.sub fun a q => q.imp .inl id⟩,
    fun i xs h => let ⟨a, us, h1, h2, h3, h4, h5⟩ := e.own i xs h; ⟨a, us, h1, h2, h3, h4, h5.sub fun a q => q.imp .inl id⟩, e.ne, e.ios, e.tb⟩
end

/-- v is a new list of xs at H' -/
def NewL (K : PySem.W.Frag) (mg : Mg) (C O : AS) (ad : Nat → Addr) (io : List Nat) (H H' : Hp) (σ : St) (ρ' : En) (v : V) (xs : List D) : Prop :=
  ∃ a vs, v = .ref a ∧ H a = none ∧ H' a = some (.lst vs) ∧ vs.length ≤ sizeLine ∧ EnvOk K mg (Plus C a) O ad io H' σ ρ' ∧ RpL K mg H' (U (Plus C a) O) vs xs
def PostF (K : PySem.W.Frag) (mg : Mg) (Ex : WX) (C O : AS) (ad : Nat → Addr) (io : List Nat) (σ : St) (H : Hp) (r : R (List D)) (Q : VK) : Prop :=
  match r with
  | .ok xs ρ' => ∀ v H', Evo O H H' → NewL K mg C O ad io H H' σ ρ' v xs → Q v H'
  | .exc c d ρ' => ∀ H' cls dx, Evo O H H' → EnvOk K mg C O ad io H' σ ρ' → ErrAt K mg H' (U C O) c d cls dx → Ex cls dx σ H'
  | .bad => False
abbrev MF := En → R (List D)
/-- an expression that makes a new list -/
structure DF (X : Cx) (Ex : WX) (e : Expr) (m : MF) : Prop where
  run : ∃ t, PE X e t ∧ ∀ (C O : AS) (ad : Nat → Addr) (io : List Nat) (H : Hp) (σ : St) (ρ : En) (Q : VK), EnvOk X.K X.mg C O ad io H σ ρ →
    PostF X.K X.mg Ex C O ad io σ H (m ρ) Q → t σ H Q
def mL (m : MF) : ME := fun ρ => (m ρ).bind fun xs ρ => .ok (.lst xs) ρ
theorem NewL.rp {K : PySem.W.Frag} {mg : Mg} {C O : AS} {ad : Nat → Addr} {io : List Nat} {H H' : Hp} {σ : St} {ρ' : En} {v : V} {xs : List D} (n : NewL K mg C O ad io H H' σ ρ' v xs) (w : Wf H (U C O)) : EnvOk K mg C O ad io H' σ ρ' ∧ Rp K mg H' (U C O) v (.lst xs) := by
  obtain ⟨a, vs, rfl, h0, h1, h2, h3, h4⟩ := n
  refine ⟨h3.unplus, .lst (.inl h1) h2 (fun z => ?_) (h4.sub fun a q => q.imp .inl id)⟩
  obtain ⟨us, q⟩ := w a z
  rw [h0] at q; cases q

section
variable {X : Cx} {Ex : WX} {pos : Pos}
theorem DF.de {e : Expr} {m : MF} (h : DF X Ex e m) : DE X Ex e (mL m) := by
  obtain ⟨t, p, r⟩ := h.run
  refine ⟨t, p, fun C O ad io H σ ρ Q en q => r C O ad io H σ ρ Q en ?_⟩
  unfold Post mL at q
  unfold PostF
  cases z : m ρ with
  | bad => rw [z] at q; exact q
  | exc c d ρ' => rw [z] at q; exact q
  | ok d ρ' =>
    rw [z] at q
    intro v H' ev n
    obtain ⟨h1, h2⟩ := n.rp en.wf
    exact q v H' ev h1 h2

/-! ### argument lists -/
inductive ROL (K : PySem.W.Frag) (mg : Mg) (σ : St) (H : Hp) (W : AS) : List V → List Opd → Prop
  | nil : ROL K mg σ H W [] []
  | cons {v : V} {o : Opd} {vs : List V} {os : List Opd} : RpO K mg σ H W v o → ROL K mg σ H W vs os → ROL K mg σ H W (v :: vs) (o :: os)
abbrev MA2 := En → R (List Opd)
structure DA2 (X : Cx) (Ex : WX) (es : List Expr) (m : MA2) : Prop where
  run : ∃ t, PA X es t ∧ ∀ (C O : AS) (ad : Nat → Addr) (io : List Nat) (H : Hp) (σ : St) (ρ : En) (Q : List V → Hp → Prop), EnvOk X.K X.mg C O ad io H σ ρ →
    Post (ROL X.K X.mg σ) X.K X.mg Ex C O ad io σ H (m ρ) Q → t σ H Q
def maNil : MA2 := fun ρ => .ok [] ρ
def maCons (m : MX) (r : MA2) : MA2 := fun ρ => (m ρ).bind fun o ρ1 => (r ρ1).bind fun os ρ2 => .ok (o :: os) ρ2
theorem da_nil : DA2 X Ex [] maNil := ⟨_, pa_nil, fun C O ad io H σ ρ Q en h => h [] H Evo.refl en .nil⟩
theorem da_cons {e : Expr} {es : List Expr} {m : MX} {r : MA2} (ha : DX X Ex e m) (hr : DA2 X Ex es r) (hs : starEach (e :: es) X.env = (false, eval e X.env) :: starEach es X.env := by rfl) : DA2 X Ex (e :: es) (maCons m r) := by
  obtain ⟨ta, pa, ra⟩ := ha.run
  obtain ⟨tb, pb, rb⟩ := hr.run
  refine ⟨_, pa_cons pa pb hs, fun C O ad io H σ ρ Q en h => ?_⟩
  refine ra C O ad io H σ ρ _ en (Post.bind h fun d ρ1 v H1 _ ev1 en1 r1 h1 => ?_)
  refine rb C O ad io H1 σ ρ1 _ en1 (Post.bind h1 fun d2 ρ2 v2 H2 _ ev2 en2 r2 h2 => ?_)
  exact h2 _ H2 Evo.refl en2 (.cons (RpO.evo en1 ev2 r1) r2)
/-- the items of what is starred -/
def itemsOf : D → Option (List D)
  | .lst xs => some xs
  | .tup xs => some xs
  | _ => none
def maStar (m : MX) (r : MA2) : MA2 := fun ρ => (m ρ).bind fun o ρ1 => match (o.get ρ1).bind itemsOf with
  | some xs => (r ρ1).bind fun os ρ2 => .ok (xs.map .v ++ os) ρ2
  | none => .bad
theorem ROL.vals {K : PySem.W.Frag} {mg : Mg} {σ : St} {H : Hp} {W : AS} : ∀ {vs : List V} {xs : List D}, RpL K mg H W vs xs → ROL K mg σ H W vs (xs.map .v)
  | _, _, .nil => .nil
  | _, _, .cons h t => .cons h (ROL.vals t)
theorem ROL.append {K : PySem.W.Frag} {mg : Mg} {σ : St} {H : Hp} {W : AS} : ∀ {vs ws : List V} {xs ys : List Opd}, ROL K mg σ H W vs xs → ROL K mg σ H W ws ys → ROL K mg σ H W (vs ++ ws) (xs ++ ys)
  | _, _, _, _, .nil, r => r
  | _, _, _, _, .cons h t, r => .cons h (ROL.append t r)
theorem ROL.evo {K : PySem.W.Frag} {mg : Mg} {C O : AS} {ad : Nat → Addr} {io : List Nat} {H H' : Hp} {σ : St} {ρ : En} (e : EnvOk K mg C O ad io H σ ρ) (ev : Evo O H H') : ∀ {vs : List V} {os : List Opd}, ROL K mg σ H (U C O) vs os → ROL K mg σ H' (U C O) vs os
  | _, _, .nil => .nil
  | _, _, .cons h t => .cons (RpO.evo e ev h) (ROL.evo e ev t)
theorem da_star {e : Expr} {es : List Expr} {m : MX} {r : MA2} {p : Pos} (ha : DX X Ex e m) (hr : DA2 X Ex es r) (hs : starEach (.Starred e p :: es) X.env = (true, eval e X.env) :: starEach es X.env := by rfl) : DA2 X Ex (.Starred e p :: es) (maStar m r) := by
  obtain ⟨ta, pa, ra⟩ := ha.run
  obtain ⟨tb, pb, rb⟩ := hr.run
  refine ⟨_, StX.pa_star pa pb hs, fun C O ad io H σ ρ Q en h => ?_⟩
  refine ra C O ad io H σ ρ _ en (Post.bind h fun d ρ1 v H1 _ ev1 en1 r1 h1 => ?_)
  cases g : d.get ρ1 with
  | none => rw [g] at h1; exact h1.elim
  | some x =>
    rw [g] at h1
    have rb1 := RpO.get en1 r1 g
    have fin : ∀ (a : Addr) (vs : List V) (xs : List D), v = .ref a → (SqT X.K H1 a vs ∨ SqL X.K H1 a vs) → RpL X.K X.mg H1 (U C O) vs xs → Post (ROL X.K X.mg σ) X.K X.mg Ex C O ad io σ H1 ((r ρ1).bind fun os ρ2 => .ok (xs.map .v ++ os) ρ2) Q →
        ∃ p ys, v = V.ref p ∧ (SqT X.K H1 p ys ∨ SqL X.K H1 p ys) ∧ tb σ H1 fun zs H2 => Q (ys ++ zs) H2 := fun a vs xs e hx rl hh => by
      refine ⟨a, vs, e, hx, rb C O ad io H1 σ ρ1 _ en1 (Post.bind hh fun d2 ρ2 v2 H2 _ ev2 en2 r2 h2 => ?_)⟩
      exact h2 _ H2 Evo.refl en2 ((ROL.vals (en1.rpL ev2 rl)).append r2)
    cases x with
    | lst xs =>
      obtain ⟨a, vs, e, h3, _, h4⟩ := rb1.lst
      exact fin a vs xs e (.inr (.inl h3)) h4 h1
    | tup xs =>
      obtain ⟨a, vs, e, h3, _, h4⟩ := rb1.tup
      exact fin a vs xs e (.inl h3) h4 h1
    | _ => exact h1.elim
/-- values alone -/
def valsO : List Opd → Option (List D)
  | [] => some []
  | .v d :: os => match valsO os with
    | some ds => some (d :: ds)
    | none => none
  | .o _ :: _ => none
theorem ROL.valsO {K : PySem.W.Frag} {mg : Mg} {σ : St} {H : Hp} {W : AS} : ∀ {vs : List V} {os : List Opd} {ds : List D}, ROL K mg σ H W vs os → DL.valsO os = some ds → RpL K mg H W vs ds
  | _, _, _, .nil, h => by simp [DL.valsO] at h; subst h; exact .nil
  | _, .v d :: os, ds, .cons h t, e => by
    cases q : DL.valsO os with
    | none => simp [DL.valsO, q] at e
    | some xs =>
      simp [DL.valsO, q] at e
      subst e
      exact .cons h (ROL.valsO t q)
  | _, .o i :: os, ds, .cons h t, e => by simp [DL.valsO] at e
/-- read when used -/
def getsO (ρ : En) : List Opd → Option (List D)
  | [] => some []
  | o :: os => match o.get ρ, getsO ρ os with
    | some d, some ds => some (d :: ds)
    | _, _ => none
inductive RpBL (K : PySem.W.Frag) (mg : Mg) (H : Hp) (W : AS) : List V → List D → Prop
  | nil : RpBL K mg H W [] []
  | cons {v : V} {d : D} {vs : List V} {ds : List D} : RpB K mg H W v d → RpBL K mg H W vs ds → RpBL K mg H W (v :: vs) (d :: ds)
theorem ROL.gets {K : PySem.W.Frag} {mg : Mg} {C O : AS} {ad : Nat → Addr} {io : List Nat} {H : Hp} {σ : St} {ρ : En} (e : EnvOk K mg C O ad io H σ ρ) : ∀ {vs : List V} {os : List Opd} {ds : List D}, ROL K mg σ H (U C O) vs os → getsO ρ os = some ds → RpBL K mg H (U C O) vs ds
  | _, _, _, .nil, h => by simp [getsO] at h; subst h; exact .nil
  | _, o :: os, ds, .cons h t, g => by
    cases q1 : o.get ρ with
    | none => simp [getsO, q1] at g
    | some d =>
      cases q2 : getsO ρ os with
      | none => simp [getsO, q1, q2] at g
      | some xs =>
        simp [getsO, q1, q2] at g
        subst g
        exact .cons (RpO.get e h q1) (ROL.gets e t q2)
theorem RpBL.one {K : PySem.W.Frag} {mg : Mg} {H : Hp} {W : AS} {vs : List V} {d : D} (r : RpBL K mg H W vs [d]) : ∃ v, vs = [v] ∧ RpB K mg H W v d := by
  cases r with
  | cons h t => cases t; exact ⟨_, rfl, h⟩
theorem RpBL.two {K : PySem.W.Frag} {mg : Mg} {H : Hp} {W : AS} {vs : List V} {d e : D} (r : RpBL K mg H W vs [d, e]) : ∃ v w, vs = [v, w] ∧ RpB K mg H W v d ∧ RpB K mg H W w e := by
  cases r with
  | cons h t =>
    obtain ⟨w, e, h2⟩ := t.one
    subst e
    exact ⟨_, _, rfl, h, h2⟩

/-! ### displays -/
def mTup (m : MA2) : ME := fun ρ => (m ρ).bind fun os ρ1 => match valsO os with
  | some ds => if ds.length ≤ sizeLine then .ok (.tup ds) ρ1 else .bad
  | none => .bad
theorem de_tup {es : List Expr} {m : MA2} {x1} (h : DA2 X Ex es m) : DE X Ex (.Tuple es x1 pos) (mTup m) := by
  obtain ⟨ta, pa, ra⟩ := h.run
  refine ⟨_, pe_tup pa, fun C O ad io H σ ρ Q en h => ?_⟩
  refine ra C O ad io H σ ρ _ en (Post.bind h fun os ρ1 vs H1 _ ev1 en1 r1 h1 => ?_)
  cases q : valsO os with
  | none => rw [q] at h1; exact h1.elim
  | some ds =>
    rw [q] at h1
    dsimp only at h1
    have rl := r1.valsO q
    split at h1
    · rename_i hz
      have hz' : vs.length ≤ sizeLine := by rw [rl.length]; exact hz
      refine ⟨hz', fun p hp => ?_⟩
      have ev : Evo O H1 (upd H1 p (.tup vs)) := Evo.upd hp
      exact h1 _ _ ev (en1.upd hp) (.tup (.inl (.inl upd_same)) hz' (en1.rpL ev rl))
    · exact h1.elim
def mLst (m : MA2) : MF := fun ρ => (m ρ).bind fun os ρ1 => match valsO os with
  | some ds => if ds.length ≤ sizeLine then .ok ds ρ1 else .bad
  | none => .bad
/-- a list is laid at a free place -/
theorem NewL.of {K : PySem.W.Frag} {mg : Mg} {C O : AS} {ad : Nat → Addr} {io : List Nat} {H H1 : Hp} {σ : St} {ρ : En} {p : Addr} {vs : List V} {ds : List D} (e0 : EnvOk K mg C O ad io H1 σ ρ) (rl : RpL K mg H1 (U C O) vs ds) (hz : vs.length ≤ sizeLine) (hp : H1 p = none) (h0 : H p = none) :
    NewL K mg C O ad io H (upd H1 p (.lst vs)) σ ρ (.ref p) ds :=
  ⟨p, vs, rfl, h0, upd_same, hz, e0.plus hp, rpL_to ((rl.grow hp).evo (Evo.upd hp) e0.ow fun _ h => .inl (.inr h)) plusU⟩
theorem Evo.free {O : AS} {H H' : Hp} (e : Evo O H H') (w : ∀ a, O a → ∃ xs, H' a = some (.lst xs)) {p : Addr} (h : H' p = none) : H p = none := by
  cases q : H p with
  | none => rfl
  | some o =>
    by_cases c : O p
    · obtain ⟨xs, z⟩ := w p c
      rw [h] at z; cases z
    · cases o with
      | tbl ps =>
        obtain ⟨qs, z⟩ := e.t p ps q
        rw [h] at z; cases z
      | _ => rw [e.k p _ q c rfl] at h; cases h
theorem df_lst {es : List Expr} {m : MA2} (h : DA2 X Ex es m) : DF X Ex (.List es pos) (mLst m) := by
  obtain ⟨ta, pa, ra⟩ := h.run
  refine ⟨_, pe_lst pa, fun C O ad io H σ ρ Q en h => ?_⟩
  refine ra C O ad io H σ ρ _ en ?_
  unfold mLst at h
  unfold Post
  cases z : m ρ with
  | bad => rw [z] at h; exact h
  | exc c d ρ' => rw [z] at h; exact h
  | ok os ρ1 =>
    rw [z] at h
    intro vs H1 ev1 en1 r1
    have h1 : PostF X.K X.mg Ex C O ad io σ H (match valsO os with
      | some ds => if ds.length ≤ sizeLine then .ok ds ρ1 else .bad
      | none => .bad) Q := h
    cases q : valsO os with
    | none => rw [q] at h1; exact h1.elim
    | some ds =>
      rw [q] at h1
      dsimp only at h1
      have rl := r1.valsO q
      split at h1
      · rename_i hz
        have hz' : vs.length ≤ sizeLine := by rw [rl.length]; exact hz
        exact ⟨hz', fun p hp => h1 _ _ (ev1.trans (Evo.upd hp)) (NewL.of en1 rl hz' hp (ev1.free en1.ow hp))⟩
      · exact h1.elim
theorem de_lst {es : List Expr} {m : MA2} (h : DA2 X Ex es m) : DE X Ex (.List es pos) (mL (mLst m)) := (df_lst h).de

/-! ### subscripts -/
def ixD : D → D → Option D := fun a b => match a, b with
  | .lst xs, .int i => atI xs i
  | .kl xs, .int i => atI xs i
  | .tup xs, .int i => atI xs i
  | .str z, .int i => if z.length ≤ sizeLine then (atI z.cps.toList i).map fun c => .str ⟨#[c]⟩ else none
  | _, _ => none
theorem atI_rp {K : PySem.W.Frag} {mg : Mg} {H : Hp} {W : AS} {vs : List V} {ds : List D} {i : Int} {d : D} (r : RpL K mg H W vs ds) (h : atI ds i = some d) : ∃ v, atI vs i = some v ∧ Rp K mg H W v d := by
  unfold atI at h ⊢
  rw [r.length]
  cases q : ixN ds.length i with
  | none => rw [q] at h; cases h
  | some j =>
    rw [q] at h
    exact r.get h
theorem do_ix : DOp X (rIx X.K) ixD := ⟨fun C O ad io H σ ρ x y a b d Q en ra rb hf k => by
  unfold ixD at hf
  split at hf
  · obtain ⟨p, vs, rfl, h1, h2, h3⟩ := ra.lst
    obtain ⟨v, e, r⟩ := atI_rp h3 hf
    exact .inl ⟨p, vs, _, v, rfl, rb.int, .inl h1, e, k v H Evo.refl en r⟩
  · obtain ⟨p, vs, rfl, h1, h2, h3⟩ := ra.kl
    obtain ⟨v, e, r⟩ := atI_rp h3 hf
    exact .inl ⟨p, vs, _, v, rfl, rb.int, h1, e, k v H Evo.refl en r⟩
  · obtain ⟨p, vs, rfl, h1, h2, h3⟩ := ra.tup
    obtain ⟨v, e, r⟩ := atI_rp h3 hf
    exact .inr (.inl ⟨p, vs, _, v, rfl, rb.int, h1, e, k v H Evo.refl en r⟩)
  · split at hf
    · rename_i z i hz
      cases q : atI z.cps.toList i with
      | none => rw [q] at hf; cases hf
      | some c =>
        rw [q] at hf
        cases hf
        exact .inr (.inr ⟨z, i, c, ra.str, rb.int, hz, q, k _ H Evo.refl en (.str _)⟩)
    · cases hf
  · cases hf⟩
theorem de_ix {a b : Expr} {ma mb : MX} (ha : DX X Ex a ma) (hb : DX X Ex b mb) (hs : PlainIx b := by exact fun _ _ => rfl) : DE X Ex (.Subscript a b pos) (mBin ixD ma mb) :=
  de_tOp (fun pa pb => pe_ix ix_seq pa pb hs) do_ix ha hb

/-! ### slices -/
structure DO (X : Cx) (Ex : WX) (e : Option Expr) (m : En → R (Option Int)) : Prop where
  run : ∃ t, PO X e t ∧ ∀ (C O : AS) (ad : Nat → Addr) (io : List Nat) (H : Hp) (σ : St) (ρ : En) (Q : Option Int → Hp → Prop), EnvOk X.K X.mg C O ad io H σ ρ →
    Post (fun _ _ a b => a = b) X.K X.mg Ex C O ad io σ H (m ρ) Q → t σ H Q
theorem do_none : DO X Ex none (fun ρ => .ok none ρ) := ⟨_, po_none, fun C O ad io H σ ρ Q en h => h none H Evo.refl en rfl⟩
def mPart (m : ME) : En → R (Option Int) := fun ρ => (m ρ).bind fun d ρ1 => match d with
  | .int i => .ok (some i) ρ1
  | _ => .bad
theorem do_some {e : Expr} {m : ME} (h : DE X Ex e m) : DO X Ex (some e) (mPart m) := by
  obtain ⟨ta, pa, ra⟩ := h.run
  refine ⟨_, po_some pa, fun C O ad io H σ ρ Q en h => ?_⟩
  refine ra C O ad io H σ ρ _ en (Post.bind h fun d ρ1 v H1 _ ev1 en1 r1 h1 => ?_)
  cases d with
  | int i => cases r1; exact ⟨i, rfl, h1 _ H1 Evo.refl en1 rfl⟩
  | _ => exact h1.elim
def cutL {α : Type} (xs : List α) (lo hi : Option Int) : List α := (xs.drop (HT.sIx xs.length 0 lo)).take (HT.sIx xs.length xs.length hi - HT.sIx xs.length 0 lo)
def slD (a : D) (lo hi : Option Int) : Option D := match a with
  | .lst xs => some (.lst (cutL xs lo hi))
  | .kl xs => some (.lst (cutL xs lo hi))
  | .tup xs => some (.tup (cutL xs lo hi))
  | .str z => if z.length ≤ sizeLine then some (.str (cutS z lo hi)) else none
  | _ => none
def rSlD (K : PySem.W.Frag) : V → Option Int → Option Int → Hp → VK → Prop := fun x lo hi H Q => rSlL K x lo hi H Q ∨ rSlA K x lo hi H Q ∨ rSlS x lo hi H Q
theorem sl_D : SlR X (rSlD X.K) := SlR.or sl_list (SlR.or sl_tupA sl_str)
theorem cut_rp {K : PySem.W.Frag} {mg : Mg} {H : Hp} {W : AS} {vs : List V} {ds : List D} (r : RpL K mg H W vs ds) (lo hi : Option Int) : RpL K mg H W (cutV vs lo hi) (cutL ds lo hi) := by
  unfold cutV cutL
  rw [r.length]
  exact (r.drop _).take _
def mSl (ma : MX) (ml mh : En → R (Option Int)) : ME := fun ρ => (ma ρ).bind fun a ρ1 => (ml ρ1).bind fun lo ρ2 => (mh ρ2).bind fun hi ρ3 => match (a.get ρ3).bind fun d => slD d lo hi with
  | some d => .ok d ρ3
  | none => .bad
theorem de_sl {e : Expr} {lo hi : Option Expr} {p2 : Pos} {ma : MX} {ml mh : En → R (Option Int)} (ha : DX X Ex e ma) (hl : DO X Ex lo ml) (hh : DO X Ex hi mh) : DE X Ex (.Subscript e (.Slice lo hi none p2) pos) (mSl ma ml mh) := by
  obtain ⟨ta, pa, ra⟩ := ha.run
  obtain ⟨tl, pl, rl⟩ := hl.run
  obtain ⟨th, ph, rh⟩ := hh.run
  refine ⟨_, pe_slice sl_D pa pl ph, fun C O ad io H σ ρ Q en h => ?_⟩
  refine ra C O ad io H σ ρ _ en (Post.bind h fun o ρ1 v H1 _ ev1 en1 r1 h1 => ?_)
  refine rl C O ad io H1 σ ρ1 _ en1 (Post.bind h1 fun lo' ρ2 l2 H2 _ ev2 en2 r2 h2 => ?_)
  cases r2
  refine rh C O ad io H2 σ ρ2 _ en2 (Post.bind h2 fun hi' ρ3 l3 H3 _ ev3 en3 r3 h3 => ?_)
  cases r3
  have r1' := RpO.evo en2 ev3 (RpO.evo en1 ev2 r1)
  cases g : o.get ρ3 with
  | none => rw [g] at h3; exact h3.elim
  | some d =>
    have rb := RpO.get en3 r1' g
    rw [g] at h3
    have h3 : Post (Rp X.K X.mg) X.K X.mg Ex C O ad io σ H3 (match slD d lo' hi' with
      | some d => .ok d ρ3
      | none => .bad) Q := h3
    cases d with
    | lst xs =>
      obtain ⟨a, vs, rfl, h4, h5, h6⟩ := rb.lst
      refine .inl ⟨a, vs, rfl, .inl h4, fun p hp => ?_⟩
      have ev : Evo O H3 (upd H3 p (.lst (cutV vs lo' hi'))) := Evo.upd hp
      exact h3 _ _ ev (en3.upd hp) (.lst (.inl upd_same) (Nat.le_trans (cutV_length _ _ _) h5) (en3.fresh hp) (en3.rpL ev (cut_rp h6 lo' hi')))
    | kl xs =>
      obtain ⟨a, vs, rfl, h4, h5, h6⟩ := rb.kl
      refine .inl ⟨a, vs, rfl, h4, fun p hp => ?_⟩
      have ev : Evo O H3 (upd H3 p (.lst (cutV vs lo' hi'))) := Evo.upd hp
      exact h3 _ _ ev (en3.upd hp) (.lst (.inl upd_same) (Nat.le_trans (cutV_length _ _ _) h5) (en3.fresh hp) (en3.rpL ev (cut_rp h6 lo' hi')))
    | tup xs =>
      obtain ⟨a, vs, rfl, h4, h5, h6⟩ := rb.tup
      refine .inr (.inl ⟨a, vs, rfl, h4, fun hw => ?_, fun hw p hp => ?_⟩)
      · refine h3 _ _ Evo.refl en3 (.tup h4 h5 ?_)
        have e : cutL xs lo' hi' = xs := by
          rw [h6.length] at hw
          unfold cutL
          rw [hw.1, hw.2]
          simp
        rw [e]
        exact h6
      · have ev : Evo O H3 (upd H3 p (.tup (cutV vs lo' hi'))) := Evo.upd hp
        exact h3 _ _ ev (en3.upd hp) (.tup (.inl (.inl upd_same)) (Nat.le_trans (cutV_length _ _ _) h5) (en3.rpL ev (cut_rp h6 lo' hi')))
    | str z =>
      by_cases hz : z.length ≤ sizeLine
      · rw [show slD (.str z) lo' hi' = some (.str (cutS z lo' hi')) by simp only [slD]; rw [if_pos hz]] at h3
        exact .inr (.inr ⟨z, rb.str, hz, h3 _ _ Evo.refl en3 (.str _)⟩)
      · rw [show slD (.str z) lo' hi' = none by simp only [slD]; rw [if_neg hz]] at h3
        exact h3.elim
    | _ => exact h3.elim
/-- xs[::-1] of a list -/
def mRev (ma : MX) : ME := fun ρ => (ma ρ).bind fun a ρ1 => match a.get ρ1 with
  | some (.lst xs) => .ok (.lst xs.reverse) ρ1
  | _ => .bad
theorem de_revL {e : Expr} {k : Nat} {p1 p2 p3 : Pos} {ma : MX} (ha : DX X Ex e ma) : DE X Ex (.Subscript e (.Slice none none (some (.UnaryOp .USub (.Constant (.int 1) k p1) p2)) p3) pos) (mRev ma) := by
  obtain ⟨ta, pa, ra⟩ := ha.run
  refine ⟨_, pe_revL pa, fun C O ad io H σ ρ Q en h => ?_⟩
  refine ra C O ad io H σ ρ _ en (Post.bind h fun o ρ1 v H1 _ ev1 en1 r1 h1 => ?_)
  cases g : o.get ρ1 with
  | none => rw [g] at h1; exact h1.elim
  | some d =>
    have rb := RpO.get en1 r1 g
    rw [g] at h1
    cases d with
    | lst xs =>
      obtain ⟨a, vs, rfl, h4, h5, h6⟩ := rb.lst
      refine ⟨a, vs, rfl, .inl h4, fun p hp => ?_⟩
      have ev : Evo O H1 (upd H1 p (.lst vs.reverse)) := Evo.upd hp
      exact h1 _ _ ev (en1.upd hp) (.lst (.inl upd_same) (by rw [List.length_reverse]; exact h5) (en1.fresh hp) (en1.rpL ev h6.reverse))
    | _ => exact h1.elim
end
end DL
set_option Elab.async false
set_option linter.all false
set_option maxRecDepth 100000
set_option maxHeartbeats 1000000
namespace DL
open PySem PySem.Spec L2
/-! ### defs that are called while no repr is under way -/
structure Rg (k : Nat) (A : Around) : Prop where
  rm : Room k A
  gs : A.guards = some []
theorem Rg.mono {j k : Nat} {A : Around} (r : Rg k A) (h : j ≤ k) : Rg j A := ⟨r.rm.mono h, r.gs⟩
structure FnG (P : Program) (w : World) (K : PySem.W.Frag) (mg : Mg) (base : Heap) (k : Nat) (f : Addr) (fd : FuncData) (ps : List Str) (sp : Sp) : Prop where
  len : ∀ vs H Q E, sp vs H Q E → vs.length = ps.length
  run : ∀ (A : Around) (outer : List Env) (s : Shared) (H : Hp) (args : Args) (us : List Value) (vs : List V) (Q : VK) (E : XK), Rg k A → Env0 P w K mg base A outer s H → BindsTo s fd args (ps.zip us) → Vals vs us → sp vs H Q E →
    codeAny (model P w) A (.call (.ref f) args) (CR (L2.CX P w) outer P w H s Q E) s
theorem FnG.mono {P : Program} {w : World} {K : PySem.W.Frag} {mg : Mg} {base : Heap} {j k : Nat} {f : Addr} {fd : FuncData} {ps : List Str} {sp : Sp} (F : FnG P w K mg base j f fd ps sp) (h : j ≤ k) : FnG P w K mg base k f fd ps sp :=
  ⟨F.len, fun A outer s H args us vs Q E hr => F.run A outer s H args us vs Q E (hr.mono h)⟩
section
variable {P : Program} {w : World} {K : PySem.W.Frag} {mg : Mg} {base : Heap}
theorem fnG_of {x qual : Str} {st : Stmt} {f : Addr} {fd : FuncData} {N ps : List Str} {k : Nat} {sp : Sp} (F : Fun K x qual st f fd) (S : FnScope N ps (defScope st)) (len : ∀ vs H Q E, sp vs H Q E → vs.length = ps.length)
    (hbody : ∀ (cdv : Value) (_ : fd.code = cdv) (A : Around) (outer : List Env) (s : Shared) (H : Hp) (vs : List V) (Q : VK) (E : XK), Rg k (A.deeper (PyProof.Rows.envOfC qual (defScope st) s.heap.objs.size f cdv)) → sp vs H Q E →
      ∃ t, PSs (cxOf (L2.CX P w) P w K mg base N qual (defScope st) f cdv A outer s H E) (defBody st) t ∧ t { nx := fun _ H' => Q .non H', rt := Q } (L2.start N vs) H) : FnG P w K mg base (k + 1) f fd ps sp := by
  obtain ⟨oc, od, kV, doc, pm, an, cdv, ct, osl, rfl, lk, hcd⟩ := F.ex
  constructor
  · exact len
  intro A outer s H args us vs Q E hr e0 hb r hsp
  have hl := len _ _ _ _ hsp
  have inK := e0.mod.kin.keeps fun b o e => (e0.bs b o e).1
  have nol := e0.mod.nolimit.keeps fun b o e => (e0.bs b o e).1
  have kinds : ∀ y ∈ ps.zip us, (defScope st).names.lookup y.1 = some .local ∨ ((defScope st).names.lookup y.1 = some .cell ∧ ((PySem.cellsFrom (s.heap.objs.size + 1) (defScope st).names []).lookup y.1).isSome = true) := by
    rintro ⟨n, v⟩ hy
    exact (S.par n (List.of_mem_zip hy).1).imp id fun q => ⟨q, PySem.W.cellsFrom_some _ _ _ (.inl q)⟩
  refine PySem.codeAny_call_function hr.rm.depth (inK _ _ lk) rfl S.co S.gen rfl (PySem.W.codeRec_of inK hcd) (hb _ _ _ _ (PySem.wpAny_newFunctionEnv_cells S.kind kinds fun env he s1 x => ?_))
  subst he
  refine ⟨nol.keeps x.toInCall.keep, PySem.codeAny_func ?_⟩
  obtain ⟨t, ht, hq⟩ := hbody cdv rfl A outer s H vs Q E ⟨hr.rm.deeper _, hr.gs⟩ hsp
  have I : Inv (cxOf (L2.CX P w) P w K mg base N qual (defScope st) f cdv A outer s H E) [] (L2.start N vs) H s1 := inv_start S hr.rm.hd e0 hl r x
  refine wpAny_mono (ht.run [] s1 (L2.start N vs) H _ I hq) ?_ fun e s' hs => hs
  intro fl s' hs
  cases fl with
  | ret u =>
    obtain ⟨v, σ', H', J, rv, q⟩ := hs
    exact ⟨v, H', J.os, J.bare, J.base, J.hok, rv, q⟩
  | next =>
    obtain ⟨σ', H', J, q⟩ := hs
    exact ⟨V.non, H', J.os, J.bare, J.base, J.hok, rfl, q⟩
  | brk =>
    obtain ⟨_, _, _, q⟩ := hs
    exact q.elim
  | cont =>
    obtain ⟨_, _, _, q⟩ := hs
    exact q.elim
variable {X : Cx} {k : Nat} {f : Addr} {fd : FuncData} {ps : List Str} {sp : Sp} {x : Str} {p pos : Pos} {e : Expr} {es : List Expr} {kws : List Keyword} {t : TA} {Ex : WX}
theorem runG {pins : List (Addr × Obj)} {σ : St} {H : Hp} {s : Shared} {Q : VK} {us : List Value} {vs : List V} {args : Args} (F : FnG X.prog X.w X.K X.mg X.base k f fd ps sp) (hr : Rg k X.A) (hb : us.length = ps.length → BindsTo s fd args (ps.zip us)) (tk : Takes X Ex)
    (I : Inv X pins σ H s) (r : Vals vs us) (h : sp vs H Q (WE Ex σ)) : wpAny (model X.prog X.w) X.A (call (.ref f) args.pos args.kw) (EP X pins σ Q) X.xe s := by
  have hl : us.length = ps.length := by rw [← r.length]; exact F.len _ _ _ _ h
  refine wpAny_call (codeAny_mono (F.run X.A X.stack s H args us vs Q (WE Ex σ) hr I.env0 (hb hl) r h) ?_)
  intro r s' hq
  cases r with
  | error e => exact passAt tk σ pins H s e s' I hq
  | ok fl =>
    cases fl with
    | ret u => exact I.after hq
    | next => exact False.elim hq
    | brk => exact False.elim hq
    | cont => exact False.elim hq
def tCG (sp : Sp) (Ex : WX) (t : TA) : TE := fun σ H Q => t σ H fun vs H1 => sp vs H1 Q (WE Ex σ)
theorem pe_callG (F : FnG X.prog X.w X.K X.mg X.base k f fd ps sp) (hr : Rg k X.A) (hg : Gl X x) (hm : X.mg x = some (.ref f)) (hk : PySem.W.keepIn X.K (.ref f) = true) (hb : Binds X.K fd ps []) (tk : Takes X Ex) (ha : PA X (e :: es) t)
    (hdb : (x == ("__debug__" : Str)) = false := by decide) (he : starEach (e :: es) X.env = (false, eval e X.env) :: starEach es X.env := by rfl) (hpl : (backTo pos (starEach es X.env)).any (·.1) = false := by rfl) : PE X (.Call (.Name x p) (e :: es) [] pos) (tCG sp Ex t) := by
  constructor
  intro pins s σ H Q I h
  refine wpAny_Call_Name_kw (ld_glob I hg hm ?_ hdb)
  refine PySem.W.callWith_K (h₀ := X.base) I.ok.mod.kin hk (thn (ha.run pos pins s σ H _ I h) ?_) he hpl
  rintro us s1 ⟨vs, H1, I1, r, q⟩
  refine ⟨I1.kIn, runG (args := ⟨us, []⟩) F hr (fun hl => ?_) tk I1 r q⟩
  have b := hb s1 us I1.kIn (by rw [List.append_nil]; exact hl)
  rw [List.append_nil] at b
  exact b
/-- all by keywords, in the parameters' order -/
theorem pe_callGK (F : FnG X.prog X.w X.K X.mg X.base k f fd ps sp) (hr : Rg k X.A) (hg : Gl X x) (hm : X.mg x = some (.ref f)) (hk : PySem.W.keepIn X.K (.ref f) = true) (hb : ∀ (s : Shared) (us : List Value), X.K.In s.heap → us.length = ps.length → BindsTo s fd ⟨[], ps.zip us⟩ (ps.zip us)) (tk : Takes X Ex) (hkw : PK X kws t)
    (hall : (backToKw pos (keywordEach kws X.env)).all (·.1.isSome) = true := by rfl) (hks : (backToKw pos (keywordEach kws X.env)).filterMap (·.1) = ps := by rfl) (hdb : (x == ("__debug__" : Str)) = false := by decide)
    (hpl : ((backTo pos (starEach [] X.env)).any (·.1) || (backToKw pos (keywordEach kws X.env)).any (·.1.isNone)) = false := by rfl) : PE X (.Call (.Name x p) [] kws pos) (tCG sp Ex t) := by
  constructor
  intro pins s σ H Q I h
  refine wpAny_Call_Name_kw (ld_glob I hg hm ?_ hdb)
  refine PySem.W.callWith_KW0 (h₀ := X.base) I.ok.mod.kin hk hall (thn (hkw.run pos pins s σ H _ I h) ?_) hpl
  rintro ws s1 ⟨vs, H1, I1, r, q⟩
  refine ⟨I1.kIn, ?_⟩
  rw [hks]
  exact runG (args := ⟨[], ps.zip ws⟩) F hr (fun hl => hb s1 ws I1.kIn hl) tk I1 r q
end
end DL
set_option Elab.async false
set_option linter.all false
set_option maxRecDepth 100000
set_option maxHeartbeats 1000000
namespace DL
open PySem PySem.Spec L2

/-! ### functions -/
inductive Out where
  | ok (r : D) (io : List (List D)) | exc (c : Str) (d : D) | bad
def ioSl : D → Sl
  | .lst xs => .own xs
  | _ => .no
def argEn (ios : List Nat) : Nat → List D → En
  | _, [] => []
  | k, d :: ds => (if k ∈ ios then ioSl d else .val d) :: argEn ios (k + 1) ds
abbrev Oio (ios : List Nat) (ad : Nat → Addr) : AS := fun a => ∃ i ∈ ios, a = ad i
/-- what avoids the answer too, where it is a new list -/
abbrev Wr (C : AS) (ios : List Nat) (ad : Nat → Addr) (fr : Bool) (v : V) : AS := fun a => U C (Oio ios ad) a ∨ (fr = true ∧ v = .ref a)
def IoOk (K : PySem.W.Frag) (mg : Mg) (W : AS) (ad : Nat → Addr) (H' : Hp) : List Nat → List (List D) → Prop
  | [], [] => True
  | i :: is, ys :: yss => (∃ vs, H' (ad i) = some (.lst vs) ∧ vs.length ≤ sizeLine ∧ RpL K mg H' W vs ys) ∧ IoOk K mg W ad H' is yss
  | _, _ => False
def RetOk (K : PySem.W.Frag) (mg : Mg) (W : AS) (fr : Bool) (H H' : Hp) (v : V) (r : D) : Prop :=
  if fr = true then ∃ a vs ys, v = .ref a ∧ r = .lst ys ∧ H a = none ∧ H' a = some (.lst vs) ∧ vs.length ≤ sizeLine ∧ RpL K mg H' W vs ys else Rp K mg H' W v r
/-- a def's promise: n parameters, those at ios are lists that it may change; fr: it hands back a new list -/
def spD (K : PySem.W.Frag) (mg : Mg) (n : Nat) (ios : List Nat) (fr : Bool) (F : List D → Out) : Sp := fun vs H Q E => ∃ (ds : List D) (C : AS) (ad : Nat → Addr), ds.length = n ∧
  EnvOk K mg C (Oio ios ad) ad ios H (vs.map some) (argEn ios 0 ds) ∧
  match F ds with
  | .ok r ys => ∀ v H', Evo (Oio ios ad) H H' → Wf H' (U C (Oio ios ad)) → LamX.Tabs (tabsOf K) H' → IoOk K mg (Wr C ios ad fr v) ad H' ios ys → RetOk K mg (Wr C ios ad fr v) fr H H' v r → Q v H'
  | .exc c d => ∀ H' cls dx, Evo (Oio ios ad) H H' → Wf H' (U C (Oio ios ad)) → LamX.Tabs (tabsOf K) H' → ErrAt K mg H' (U C (Oio ios ad)) c d cls dx → E cls dx H'
  | .bad => False
theorem argEn_length (ios : List Nat) : ∀ (k : Nat) (ds : List D), (argEn ios k ds).length = ds.length
  | _, [] => rfl
  | k, d :: ds => congrArg Nat.succ (argEn_length ios (k + 1) ds)
theorem spD_len {K : PySem.W.Frag} {mg : Mg} {n : Nat} {ios : List Nat} {fr : Bool} {F : List D → Out} {vs : List V} {H : Hp} {Q : VK} {E : XK} (h : spD K mg n ios fr F vs H Q E) : vs.length = n := by
  obtain ⟨ds, C, ad, hn, en, _⟩ := h
  have := en.len
  rw [List.length_map, argEn_length] at this
  omega
/-- a def of the program that keeps such a promise -/
structure FunD (P : Program) (w : World) (K : PySem.W.Frag) (mg : Mg) (base : Heap) (x : Str) (k : Nat) (ps : List Str) (ios : List Nat) (fr : Bool) (F : List D → Out) : Prop where
  ex : ∃ (f : Addr) (fd : FuncData), FnG P w K mg base k f fd ps (spD K mg ps.length ios fr F) ∧ Binds K fd ps [] ∧ mg x = some (.ref f) ∧ PySem.W.keepIn K (.ref f) = true ∧
    (∀ (s : Shared) (us : List Value), K.In s.heap → us.length = ps.length → BindsTo s fd ⟨[], ps.zip us⟩ (ps.zip us))
theorem FunD.mono {P : Program} {w : World} {K : PySem.W.Frag} {mg : Mg} {base : Heap} {x : Str} {j k : Nat} {ps : List Str} {ios : List Nat} {fr : Bool} {F : List D → Out} (G : FunD P w K mg base x j ps ios fr F) (h : j ≤ k) : FunD P w K mg base x k ps ios fr F := by
  obtain ⟨f, fd, h1, h2⟩ := G.ex
  exact ⟨f, fd, h1.mono h, h2⟩

/-- all parameters are values -/
theorem argEn_get {k : Nat} : ∀ {ds : List D} {i : Nat} {s : Sl}, (argEn [] k ds)[i]? = some s → ∃ d, s = .val d ∧ ds[i]? = some d
  | [], i, s, h => by simp [argEn] at h
  | d :: ds, 0, s, h => by
    simp [argEn] at h
    exact ⟨d, h.symm, rfl⟩
  | d :: ds, i + 1, s, h => by
    simp only [argEn, List.getElem?_cons_succ] at h
    obtain ⟨e, h1, h2⟩ := argEn_get h
    exact ⟨e, h1, by simpa using h2⟩
section
variable {K : PySem.W.Frag} {mg : Mg} {C O : AS} {H : Hp}
/-- the callee's environment where all is handed on by value -/
theorem en_vals {ad : Nat → Addr} {W : AS} {vs : List V} {ds : List D} (w : Wf H W) (tb : LamX.Tabs (tabsOf K) H) (r : RpL K mg H W vs ds) : EnvOk K mg W (Oio [] ad) ad [] H (vs.map some) (argEn [] 0 ds) := by
  have eU : ∀ a, U W (Oio [] ad) a ↔ W a := fun a => ⟨fun h => h.elim id fun ⟨i, hi, _⟩ => by simp at hi, .inl⟩
  refine ⟨by rw [List.length_map, argEn_length, r.length], fun a h => w a ((eU a).mp h), fun a _ ⟨i, hi, _⟩ => by simp at hi, fun i d h => ?_, fun i xs h => ?_, fun i j xs ys a h _ _ _ => ?_, fun i hi => by simp at hi, tb⟩
  · obtain ⟨e, h1, h2⟩ := argEn_get h
    cases h1
    obtain ⟨v, h3, h4⟩ := r.get h2
    exact ⟨v, by rw [List.getElem?_map, h3]; rfl, h4.sub fun a q => (eU a).mp q⟩
  · obtain ⟨e, h1, _⟩ := argEn_get h
    cases h1
  · obtain ⟨e, h1, _⟩ := argEn_get h
    cases h1
end

/-- behind a call: the callee has changed nothing of ours -/
theorem evo_nil {ad : Nat → Addr} {O : AS} {H H' : Hp} (e : Evo (Oio [] ad) H H') : Evo O H H' := e.mono fun _ ⟨i, hi, _⟩ => by simp at hi

section
variable {X : Cx} {Ex : WX} {pos p : Pos} {x : Str} {k n : Nat} {ps : List Str} {F : List D → Out}
def callV (F : List D → Out) (os : List Opd) (ρ : En) : R D := match valsO os with
  | some ds => match F ds with
    | .ok r _ => .ok r ρ
    | .exc c d => .exc c d ρ
    | .bad => .bad
  | none => .bad
def mCall (F : List D → Out) (ma : MA2) : ME := fun ρ => (ma ρ).bind (callV F)
/-- the reading of a call by values -/
theorem callV_run {C O : AS} {ad : Nat → Addr} {io : List Nat} {H : Hp} {σ : St} {ρ : En} {vs : List V} {os : List Opd} {Q : VK} (hn : os.length = n) (en : EnvOk X.K X.mg C O ad io H σ ρ) (r : ROL X.K X.mg σ H (U C O) vs os)
    (h : Post (Rp X.K X.mg) X.K X.mg Ex C O ad io σ H (callV F os ρ) Q) : spD X.K X.mg n [] false F vs H Q (WE Ex σ) := by
  unfold callV at h
  cases q : valsO os with
  | none => rw [q] at h; exact h.elim
  | some ds =>
    rw [q] at h
    dsimp only at h
    have rl := r.valsO q
    have hl : ds.length = n := by
      have : ∀ {os : List Opd} {ds : List D}, valsO os = some ds → ds.length = os.length := by
        intro os
        induction os with
        | nil => intro ds h; simp [valsO] at h; subst h; rfl
        | cons o os ih =>
          intro ds h
          cases o with
          | o i => simp [valsO] at h
          | v d =>
            cases z : valsO os with
            | none => simp [valsO, z] at h
            | some xs =>
              simp [valsO, z] at h
              subst h
              rw [List.length_cons, List.length_cons, ih z]
      rw [this q, hn]
    refine ⟨ds, U C O, ad, hl, en_vals en.wf en.tb rl, ?_⟩
    cases f : F ds with
    | bad => rw [f] at h; exact h.elim
    | exc c d =>
      rw [f] at h
      dsimp only at h ⊢
      intro H' cls dx ev w tb er
      have er' : ErrAt X.K X.mg H' (U C O) c d cls dx := by
        obtain ⟨C', x, v, h1, h2, h3, h4, h5⟩ := er
        exact ⟨C', x, v, h1, h2, h3, h4, h5.sub fun a q => .inl q⟩
      exact h H' cls dx (evo_nil ev) (en.evo0 (evo_nil ev) tb) er'
    | ok r ys =>
      rw [f] at h
      dsimp only at h ⊢
      intro v H' ev w tb hio hr
      simp only [RetOk, Bool.false_eq_true, if_false] at hr
      exact h v H' (evo_nil ev) (en.evo0 (evo_nil ev) tb) (hr.sub fun a q => .inl (.inl q))
theorem maCons_len : ∀ {os : List Opd} {n : Nat}, os.length = n → os.length = n := fun h => h
/-- f(e, ..), all by values -/
theorem de_call {e : Expr} {es : List Expr} {ma : MA2} (G : FunD X.prog X.w X.K X.mg X.base x k ps [] false F) (hr : Rg k X.A) (tk : Takes X Ex) (hg : Gl X x) (ha : DA2 X Ex (e :: es) ma) (hlen : ∀ ρ os ρ', ma ρ = .ok os ρ' → os.length = ps.length)
    (hdb : (x == ("__debug__" : Str)) = false := by decide) (he : starEach (e :: es) X.env = (false, eval e X.env) :: starEach es X.env := by rfl) (hpl : (backTo pos (starEach es X.env)).any (·.1) = false := by rfl) :
    DE X Ex (.Call (.Name x p) (e :: es) [] pos) (mCall F ma) := by
  obtain ⟨f, fd, FO, FB, Fm, Fk, Fkw⟩ := G.ex
  obtain ⟨ta, pa, ra⟩ := ha.run
  refine ⟨_, pe_callG FO hr hg Fm Fk FB tk pa hdb he hpl, fun C O ad io H σ ρ Q en h => ?_⟩
  refine ra C O ad io H σ ρ _ en (Post.bind h fun os ρ1 vs H1 eq ev1 en1 r1 h1 => ?_)
  exact callV_run (hlen _ _ _ eq) en1 r1 h1
/-- the values of keywords -/
structure DK (X : Cx) (Ex : WX) (kws : List Keyword) (m : MA2) : Prop where
  run : ∃ t, PK X kws t ∧ ∀ (C O : AS) (ad : Nat → Addr) (io : List Nat) (H : Hp) (σ : St) (ρ : En) (Q : List V → Hp → Prop), EnvOk X.K X.mg C O ad io H σ ρ →
    Post (ROL X.K X.mg σ) X.K X.mg Ex C O ad io σ H (m ρ) Q → t σ H Q
theorem dk_nil : DK X Ex [] maNil := ⟨_, pk_nil, fun C O ad io H σ ρ Q en h => h [] H Evo.refl en .nil⟩
theorem dk_cons {nm : Option Str} {e : Expr} {kpos : Pos} {kws : List Keyword} {m : MX} {r : MA2} (ha : DX X Ex e m) (hr : DK X Ex kws r) : DK X Ex (⟨nm, e, kpos⟩ :: kws) (maCons m r) := by
  obtain ⟨ta, pa, ra⟩ := ha.run
  obtain ⟨tb, pb, rb⟩ := hr.run
  refine ⟨_, pk_cons pa pb, fun C O ad io H σ ρ Q en h => ?_⟩
  refine ra C O ad io H σ ρ _ en (Post.bind h fun d ρ1 v H1 _ ev1 en1 r1 h1 => ?_)
  refine rb C O ad io H1 σ ρ1 _ en1 (Post.bind h1 fun d2 ρ2 v2 H2 _ ev2 en2 r2 h2 => ?_)
  exact h2 _ H2 Evo.refl en2 (.cons (RpO.evo en1 ev2 r1) r2)
/-- f(x = e, ..), all by values -/
theorem de_callK {kws : List Keyword} {ma : MA2} (G : FunD X.prog X.w X.K X.mg X.base x k ps [] false F) (hr : Rg k X.A) (tk : Takes X Ex) (hg : Gl X x) (ha : DK X Ex kws ma) (hlen : ∀ ρ os ρ', ma ρ = .ok os ρ' → os.length = ps.length)
    (hall : (backToKw pos (keywordEach kws X.env)).all (·.1.isSome) = true := by rfl) (hks : (backToKw pos (keywordEach kws X.env)).filterMap (·.1) = ps := by rfl) (hdb : (x == ("__debug__" : Str)) = false := by decide)
    (hpl : ((backTo pos (starEach [] X.env)).any (·.1) || (backToKw pos (keywordEach kws X.env)).any (·.1.isNone)) = false := by rfl) : DE X Ex (.Call (.Name x p) [] kws pos) (mCall F ma) := by
  obtain ⟨f, fd, FO, FB, Fm, Fk, Fkw⟩ := G.ex
  obtain ⟨ta, pa, ra⟩ := ha.run
  refine ⟨_, pe_callGK FO hr hg Fm Fk Fkw tk pa hall hks hdb hpl, fun C O ad io H σ ρ Q en h => ?_⟩
  refine ra C O ad io H σ ρ _ en (Post.bind h fun os ρ1 vs H1 eq ev1 en1 r1 h1 => ?_)
  exact callV_run (hlen _ _ _ eq) en1 r1 h1
theorem len_nil : ∀ ρ os ρ', maNil ρ = .ok os ρ' → os.length = 0 := fun ρ os ρ' h => by cases h; rfl
theorem len_cons {m : MX} {r : MA2} {n : Nat} (h : ∀ ρ os ρ', r ρ = .ok os ρ' → os.length = n) : ∀ ρ os ρ', maCons m r ρ = .ok os ρ' → os.length = n + 1 := fun ρ os ρ' e => by
  unfold maCons at e
  cases q : m ρ with
  | bad => rw [q] at e; cases e
  | exc c d ρ2 => rw [q] at e; cases e
  | ok o ρ1 =>
    rw [q] at e
    have e : ((r ρ1).bind fun os ρ2 => .ok (o :: os) ρ2) = R.ok os ρ' := e
    cases q2 : r ρ1 with
    | bad => rw [q2] at e; cases e
    | exc c d ρ2 => rw [q2] at e; cases e
    | ok os' ρ2 =>
      rw [q2] at e
      cases e
      rw [List.length_cons, h _ _ _ q2]
end
end DL
set_option Elab.async false
set_option linter.all false
set_option maxRecDepth 100000
set_option maxHeartbeats 1000000
namespace DL
open PySem PySem.Spec L2

/-! ### statements -/
inductive RS where
  | nx (ρ : En) | rt (d : D) (ρ : En) | ex (c : Str) (d : D) (ρ : En) | bk (ρ : En) | ct (ρ : En) | bad
abbrev MS := En → RS
/-- what a statement may have changed -/
structure StepS (O : AS) (H : Hp) (O' : AS) (H' : Hp) : Prop where
  ev : Evo O H H'
  fr : ∀ a, O' a → O a ∨ H a = none
  th : ∀ a, O a → H' a ≠ none
theorem StepS.keep {O O' : AS} {H H' : Hp} (s : StepS O H O' H') {a : Addr} (h : H a ≠ none) : H' a ≠ none := by
  by_cases c : O a
  · exact s.th a c
  · cases z : H a with
    | none => exact absurd z h
    | some o =>
      cases o with
      | tbl ps =>
        obtain ⟨qs, e⟩ := s.ev.t a ps z
        rw [e]; exact fun q => by cases q
      | _ => rw [s.ev.k a _ z c rfl]; exact fun q => by cases q
theorem StepS.trans {O O1 O2 : AS} {H H1 H2 : Hp} (a : StepS O H O1 H1) (b : StepS O1 H1 O2 H2) : StepS O H O2 H2 := by
  refine ⟨⟨fun c o h n y => ?_, fun c ps h => ?_⟩, fun c h => ?_, fun c h => b.keep (a.th c h)⟩
  · refine b.ev.k c o (a.ev.k c o h n y) (fun z => ?_) y
    rcases a.fr c z with q | q
    · exact n q
    · rw [h] at q; cases q
  · obtain ⟨qs, e⟩ := a.ev.t c ps h
    exact b.ev.t c qs e
  · rcases b.fr c h with q | q
    · exact a.fr c q
    · cases z : H c with
      | none => exact .inr rfl
      | some o => exact absurd q (a.keep (by rw [z]; exact fun q => by cases q))
/-- an answer: a value, or (fr) a new list -/
def RetS (fr : Bool) (K : PySem.W.Frag) (mg : Mg) (C O' : AS) (ad : Nat → Addr) (io : List Nat) (O : AS) (H H' : Hp) (v : V) (d : D) (ρ' : En) : Prop :=
  if fr = true then ∃ a vs ys σ', v = .ref a ∧ d = .lst ys ∧ H' a = some (.lst vs) ∧ vs.length ≤ sizeLine ∧ (H a = none ∨ (O a ∧ ∀ i ∈ io, ad i ≠ a)) ∧ EnvOk K mg (Plus C a) O' ad io H' σ' ρ' ∧ RpL K mg H' (U (Plus C a) O') vs ys
  else ∃ σ', EnvOk K mg C O' ad io H' σ' ρ' ∧ Rp K mg H' (U C O') v d
def PostS (fr : Bool) (K : PySem.W.Frag) (mg : Mg) (Ex : WX) (C O : AS) (ad : Nat → Addr) (io : List Nat) (H : Hp) (r : RS) (E : Ends) : Prop :=
  match r with
  | .nx ρ' => ∀ σ' H' O', StepS O H O' H' → EnvOk K mg C O' ad io H' σ' ρ' → E.nx σ' H'
  | .bk ρ' => ∀ σ' H' O', StepS O H O' H' → EnvOk K mg C O' ad io H' σ' ρ' → E.bk σ' H'
  | .ct ρ' => ∀ σ' H' O', StepS O H O' H' → EnvOk K mg C O' ad io H' σ' ρ' → E.ct σ' H'
  | .rt d ρ' => ∀ v H' O', StepS O H O' H' → RetS fr K mg C O' ad io O H H' v d ρ' → E.rt v H'
  | .ex c d ρ' => ∀ σ' H' O' cls dx, StepS O H O' H' → EnvOk K mg C O' ad io H' σ' ρ' → ErrAt K mg H' (U C O') c d cls dx → Ex cls dx σ' H'
  | .bad => False
structure DS (X : Cx) (Ex : WX) (io : List Nat) (fr : Bool) (st : Stmt) (m : MS) : Prop where
  run : ∃ t, PS X st t ∧ ∀ (C O : AS) (ad : Nat → Addr) (H : Hp) (σ : St) (ρ : En) (E : Ends), EnvOk X.K X.mg C O ad io H σ ρ → PostS fr X.K X.mg Ex C O ad io H (m ρ) E → t E σ H
structure DSs (X : Cx) (Ex : WX) (io : List Nat) (fr : Bool) (sts : List Stmt) (m : MS) : Prop where
  run : ∃ t, PSs X sts t ∧ ∀ (C O : AS) (ad : Nat → Addr) (H : Hp) (σ : St) (ρ : En) (E : Ends), EnvOk X.K X.mg C O ad io H σ ρ → PostS fr X.K X.mg Ex C O ad io H (m ρ) E → t E σ H
def RS.bind (r : RS) (f : MS) : RS := match r with
  | .nx ρ => f ρ
  | r => r
def R.thenS {α : Type} (r : R α) (f : α → En → RS) : RS := match r with
  | .ok a ρ => f a ρ
  | .exc c d ρ => .ex c d ρ
  | .bad => .bad

section
variable {X : Cx} {Ex : WX} {io : List Nat} {fr : Bool} {pos : Pos}
theorem own_there {K : PySem.W.Frag} {mg : Mg} {C O : AS} {ad : Nat → Addr} {io : List Nat} {H : Hp} {σ : St} {ρ : En} (e : EnvOk K mg C O ad io H σ ρ) : ∀ a, O a → H a ≠ none := fun a h z => by
  obtain ⟨xs, q⟩ := e.ow a h
  rw [z] at q; cases q
theorem StepS.refl {K : PySem.W.Frag} {mg : Mg} {C O : AS} {ad : Nat → Addr} {io : List Nat} {H : Hp} {σ : St} {ρ : En} (e : EnvOk K mg C O ad io H σ ρ) : StepS O H O H := ⟨Evo.refl, fun _ h => .inl h, own_there e⟩
theorem StepS.of {K : PySem.W.Frag} {mg : Mg} {C O : AS} {ad : Nat → Addr} {io : List Nat} {H H' : Hp} {σ : St} {ρ : En} (ev : Evo O H H') (e : EnvOk K mg C O ad io H' σ ρ) : StepS O H O H' := ⟨ev, fun _ h => .inl h, own_there e⟩
/-- what is wanted further on, told from here on -/
theorem RetS.back {K : PySem.W.Frag} {mg : Mg} {C O O1 O2 : AS} {ad : Nat → Addr} {H H1 H2 : Hp} {v : V} {d : D} {ρ' : En} (s : StepS O H O1 H1) (r : RetS fr K mg C O2 ad io O1 H1 H2 v d ρ') : RetS fr K mg C O2 ad io O H H2 v d ρ' := by
  unfold RetS at r ⊢
  split
  · rename_i h
    rw [if_pos h] at r
    obtain ⟨a, vs, ys, σ', r1, r2, r3, r4, r5, r6, r7⟩ := r
    refine ⟨a, vs, ys, σ', r1, r2, r3, r4, ?_, r6, r7⟩
    rcases r5 with q | ⟨q, q2⟩
    · cases z : H a with
      | none => exact .inl rfl
      | some o => exact absurd q (s.keep (by rw [z]; exact fun q => by cases q))
    · rcases s.fr a q with z | z
      · exact .inr ⟨z, q2⟩
      · exact .inl z
  · rename_i h
    rw [if_neg h] at r
    exact r
theorem PostS.back {K : PySem.W.Frag} {mg : Mg} {C O O1 : AS} {ad : Nat → Addr} {H H1 : Hp} {r : RS} {E : Ends} (s : StepS O H O1 H1) (h : PostS fr K mg Ex C O ad io H r E) : PostS fr K mg Ex C O1 ad io H1 r E := by
  cases r with
  | nx ρ' => exact fun σ' H' O' s2 e => h σ' H' O' (s.trans s2) e
  | bk ρ' => exact fun σ' H' O' s2 e => h σ' H' O' (s.trans s2) e
  | ct ρ' => exact fun σ' H' O' s2 e => h σ' H' O' (s.trans s2) e
  | rt d ρ' => exact fun v H' O' s2 e => h v H' O' (s.trans s2) (e.back s)
  | ex c d ρ' => exact fun σ' H' O' cls dx s2 e er => h σ' H' O' cls dx (s.trans s2) e er
  | bad => exact h
/-- an expression, then what is done with its value -/
theorem PostS.expr {α β : Type} {Ra : Hp → AS → β → α → Prop} {C O : AS} {ad : Nat → Addr} {H : Hp} {σ : St} {r : R α} {f : α → En → RS} {E : Ends} {Q : β → Hp → Prop} (h : PostS fr X.K X.mg Ex C O ad io H (r.thenS f) E)
    (k : ∀ d ρ' v H', Evo O H H' → EnvOk X.K X.mg C O ad io H' σ ρ' → Ra H' (U C O) v d → PostS fr X.K X.mg Ex C O ad io H' (f d ρ') E → Q v H') : Post Ra X.K X.mg Ex C O ad io σ H r Q := by
  cases r with
  | bad => exact h
  | exc c d ρ' => exact fun H' cls dx ev e er => h σ H' O cls dx (.of ev e) e er
  | ok d ρ' => exact fun v H' ev e rl => k d ρ' v H' ev e rl (PostS.back (StepS.of ev e) h)
theorem PostS.exprF {C O : AS} {ad : Nat → Addr} {H : Hp} {σ : St} {r : R (List D)} {f : List D → En → RS} {E : Ends} {Q : VK} (h : PostS fr X.K X.mg Ex C O ad io H (r.thenS f) E)
    (k : ∀ xs ρ' v H', Evo O H H' → NewL X.K X.mg C O ad io H H' σ ρ' v xs → PostS fr X.K X.mg Ex C O ad io H (f xs ρ') E → Q v H') : PostF X.K X.mg Ex C O ad io σ H r Q := by
  cases r with
  | bad => exact h
  | exc c d ρ' => exact fun H' cls dx ev e er => h σ H' O cls dx (.of ev e) e er
  | ok d ρ' => exact fun v H' ev n => k d ρ' v H' ev n h

/-! ### blocks -/
theorem dss_nil : DSs X Ex io fr [] .nx := ⟨_, pss_nil, fun C O ad H σ ρ E en h => h σ H O (.refl en) en⟩
def mSeq (m r : MS) : MS := fun ρ => (m ρ).bind r
theorem dss_one {st : Stmt} {m : MS} (h : DS X Ex io fr st m) : DSs X Ex io fr [st] m := by
  obtain ⟨t, p, r⟩ := h.run
  exact ⟨t, pss_one p, r⟩
theorem dss_cons {st : Stmt} {sts : List Stmt} {m r : MS} (h : DS X Ex io fr st m) (hr : DSs X Ex io fr sts r) : DSs X Ex io fr (st :: sts) (mSeq m r) := by
  obtain ⟨t, p, r1⟩ := h.run
  obtain ⟨u, q, r2⟩ := hr.run
  refine ⟨_, pss_cons p q, fun C O ad H σ ρ E en hh => ?_⟩
  refine r1 C O ad H σ ρ _ en ?_
  unfold mSeq at hh
  cases z : m ρ with
  | nx ρ' =>
    rw [z] at hh
    exact fun σ' H' O' s e => r2 C O' ad H' σ' ρ' E e (PostS.back s hh)
  | bk ρ' => rw [z] at hh; exact hh
  | ct ρ' => rw [z] at hh; exact hh
  | rt d ρ' => rw [z] at hh; exact hh
  | ex c d ρ' => rw [z] at hh; exact hh
  | bad => rw [z] at hh; exact hh

/-! ### simple statements -/
theorem ds_pass : DS X Ex io fr (.Pass pos) .nx := ⟨_, ps_pass, fun C O ad H σ ρ E en h => h σ H O (.refl en) en⟩
theorem ds_break : DS X Ex io fr (.Break pos) .bk := ⟨_, ps_break, fun C O ad H σ ρ E en h => h σ H O (.refl en) en⟩
theorem ds_continue : DS X Ex io fr (.Continue pos) .ct := ⟨_, ps_continue, fun C O ad H σ ρ E en h => h σ H O (.refl en) en⟩
def mDrop (m : ME) : MS := fun ρ => (m ρ).thenS fun _ ρ1 => .nx ρ1
theorem ds_expr {e : Expr} {m : ME} (he : DE X Ex e m) (hs : swapsWith e none pos.line X.env = pure false := by rfl) : DS X Ex io fr (.Expr e pos) (mDrop m) := by
  obtain ⟨t, p, r⟩ := he.run
  refine ⟨_, ps_expr p hs, fun C O ad H σ ρ E en h => ?_⟩
  refine r C O ad io H σ ρ _ en (PostS.expr (σ := σ) h fun d ρ1 v H1 ev1 en1 r1 h1 => ?_)
  exact h1 σ H1 O (.refl en1) en1
def mRet (m : ME) : MS := fun ρ => (m ρ).thenS fun d ρ1 => .rt d ρ1
theorem ds_ret {e : Expr} {m : ME} (he : DE X Ex e m) : DS X Ex io false (.Return (some e) pos) (mRet m) := by
  obtain ⟨t, p, r⟩ := he.run
  refine ⟨_, ps_ret p, fun C O ad H σ ρ E en h => ?_⟩
  refine r C O ad io H σ ρ _ en (PostS.expr (σ := σ) h fun d ρ1 v H1 ev1 en1 r1 h1 => ?_)
  refine h1 v H1 O (.refl en1) ?_
  unfold RetS
  rw [if_neg Bool.false_ne_true]
  exact ⟨σ, en1, r1⟩
def mRetF (m : MF) : MS := fun ρ => (m ρ).thenS fun d ρ1 => .rt (.lst d) ρ1
theorem ds_retF {e : Expr} {m : MF} (he : DF X Ex e m) : DS X Ex io true (.Return (some e) pos) (mRetF m) := by
  obtain ⟨t, p, r⟩ := he.run
  refine ⟨_, ps_ret p, fun C O ad H σ ρ E en h => ?_⟩
  refine r C O ad io H σ ρ _ en (PostS.exprF (σ := σ) h fun xs ρ1 v H1 ev1 n h1 => ?_)
  obtain ⟨a, vs, e1, e2, e3, e4, e5, e6⟩ := n
  refine h1 v H1 O (StepS.of ev1 e5.unplus) ?_
  unfold RetS
  rw [if_pos rfl]
  exact ⟨a, vs, xs, σ, e1, rfl, e3, e4, .inl e2, e5, e6⟩
theorem ds_retN : DS X Ex io false (.Return none pos) (fun ρ => .rt .non ρ) := ⟨_, ps_retN, fun C O ad H σ ρ E en h => h .non H O (.refl en) (by
  unfold RetS
  rw [if_neg Bool.false_ne_true]
  exact ⟨σ, en, .non⟩)⟩
def mIfS (c : MT) (a b : MS) : MS := fun ρ => (c ρ).thenS fun k ρ1 => match k with
  | true => a ρ1
  | false => b ρ1
theorem ds_if {c : Expr} {a b : List Stmt} {mc : MT} {ma mb : MS} (hc : DT X Ex c mc) (ha : DSs X Ex io fr a ma) (hb : DSs X Ex io fr b mb) : DS X Ex io fr (.If c a b pos) (mIfS mc ma mb) := by
  obtain ⟨tc, pc, rc⟩ := hc.run
  obtain ⟨ta, pa, ra⟩ := ha.run
  obtain ⟨tb, pb, rb⟩ := hb.run
  refine ⟨_, ps_if pc pa pb, fun C O ad H σ ρ E en h => ?_⟩
  refine rc C O ad io H σ ρ _ en (PostS.expr (σ := σ) h fun d ρ1 v H1 ev1 en1 r1 h1 => ?_)
  cases r1
  cases d with
  | true => exact iteT (ra C O ad H1 σ ρ1 E en1 h1)
  | false => exact iteF (rb C O ad H1 σ ρ1 E en1 h1)
end

/-! ### slots are written -/
section
variable {K : PySem.W.Frag} {mg : Mg} {C O : AS} {ad : Nat → Addr} {io : List Nat} {H : Hp} {σ : St} {ρ : En}
theorem set_some {α : Type} {l : List α} {i j : Nat} {x y : α} (h : (l.set i x)[j]? = some y) : (j = i ∧ y = x ∧ i < l.length) ∨ (j ≠ i ∧ l[j]? = some y) := by
  by_cases e : j = i
  · subst e
    by_cases hl : j < l.length
    · rw [List.getElem?_set_self hl] at h
      exact .inl ⟨rfl, (Option.some.inj h).symm, hl⟩
    · rw [List.getElem?_eq_none (by simpa using hl)] at h; cases h
  · rw [List.getElem?_set_ne (Ne.symm e)] at h
    exact .inr ⟨e, h⟩
theorem EnvOk.setVal (e : EnvOk K mg C O ad io H σ ρ) {i : Nat} {v : V} {d : D} (r : Rp K mg H (U C O) v d) (hi : i ∉ io) : EnvOk K mg C O ad io H (σ.set i (some v)) (ρ.set i (.val d)) := by
  refine ⟨by rw [List.length_set, List.length_set]; exact e.len, e.wf, e.dj, fun j x h => ?_, fun j xs h => ?_, fun j k xs ys a h1 h2 h3 h4 => ?_, fun j hj => ?_, e.tb⟩
  · rcases set_some h with ⟨rfl, h2, hl⟩ | ⟨ne, h2⟩
    · cases h2
      exact ⟨v, by rw [List.getElem?_set_self (by rw [e.len]; exact hl)], r⟩
    · obtain ⟨u, h3, h4⟩ := e.val j x h2
      exact ⟨u, by rw [List.getElem?_set_ne (Ne.symm ne)]; exact h3, h4⟩
  · rcases set_some h with ⟨rfl, h2, hl⟩ | ⟨ne, h2⟩
    · cases h2
    · obtain ⟨a, vs, h3, h4⟩ := e.own j xs h2
      exact ⟨a, vs, by rw [List.getElem?_set_ne (Ne.symm ne)]; exact h3, h4⟩
  · rcases set_some h1 with ⟨_, q, _⟩ | ⟨n1, h1⟩
    · cases q
    · rcases set_some h2 with ⟨_, q, _⟩ | ⟨n2, h2⟩
      · cases q
      · rw [List.getElem?_set_ne (Ne.symm n1)] at h3
        rw [List.getElem?_set_ne (Ne.symm n2)] at h4
        exact e.ne j k xs ys a h1 h2 h3 h4
  · have ne : j ≠ i := fun z => hi (z ▸ hj)
    obtain ⟨h1, xs, h2⟩ := e.ios j hj
    exact ⟨by rw [List.getElem?_set_ne (Ne.symm ne)]; exact h1, xs, by rw [List.getElem?_set_ne (Ne.symm ne)]; exact h2⟩
/-- a slot forgotten -/
theorem EnvOk.drop (e : EnvOk K mg C O ad io H σ ρ) {i : Nat} {x : Option V} (hi : i ∉ io) : EnvOk K mg C O ad io H (σ.set i x) (ρ.set i .no) := by
  refine ⟨by rw [List.length_set, List.length_set]; exact e.len, e.wf, e.dj, fun j x h => ?_, fun j xs h => ?_, fun j k xs ys a h1 h2 h3 h4 => ?_, fun j hj => ?_, e.tb⟩
  · rcases set_some h with ⟨rfl, h2, hl⟩ | ⟨ne, h2⟩
    · cases h2
    · obtain ⟨u, h3, h4⟩ := e.val j x h2
      exact ⟨u, by rw [List.getElem?_set_ne (Ne.symm ne)]; exact h3, h4⟩
  · rcases set_some h with ⟨rfl, h2, hl⟩ | ⟨ne, h2⟩
    · cases h2
    · obtain ⟨a, vs, h3, h4⟩ := e.own j xs h2
      exact ⟨a, vs, by rw [List.getElem?_set_ne (Ne.symm ne)]; exact h3, h4⟩
  · rcases set_some h1 with ⟨_, q, _⟩ | ⟨n1, h1⟩
    · cases q
    · rcases set_some h2 with ⟨_, q, _⟩ | ⟨n2, h2⟩
      · cases q
      · rw [List.getElem?_set_ne (Ne.symm n1)] at h3
        rw [List.getElem?_set_ne (Ne.symm n2)] at h4
        exact e.ne j k xs ys a h1 h2 h3 h4
  · have ne : j ≠ i := fun z => hi (z ▸ hj)
    obtain ⟨h1, xs, h2⟩ := e.ios j hj
    exact ⟨by rw [List.getElem?_set_ne (Ne.symm ne)]; exact h1, xs, by rw [List.getElem?_set_ne (Ne.symm ne)]; exact h2⟩
/-- a new list becomes the def's own -/
theorem EnvOk.setOwn {a : Addr} {vs : List V} {xs : List D} (e : EnvOk K mg (Plus C a) O ad io H σ ρ) (r : RpL K mg H (U (Plus C a) O) vs xs) (ha : H a = some (.lst vs)) (hz : vs.length ≤ sizeLine) (nC : ¬ C a) {i : Nat} (hi : i ∉ io) (hl : i < ρ.length) :
    EnvOk K mg C (Plus O a) ad io H (σ.set i (some (.ref a))) (ρ.set i (.own xs)) := by
  have eU : ∀ b, U C (Plus O a) b ↔ U (Plus C a) O b := fun b => (plusO b).trans (plusU b).symm
  have nO : ¬ O a := e.dj a (.inr rfl)
  refine ⟨by rw [List.length_set, List.length_set]; exact e.len, fun b h => e.wf b ((eU b).mp h), fun b h => ?_, fun j x h => ?_, fun j ys h => ?_, fun j k ys zs b h1 h2 h3 h4 => ?_, fun j hj => ?_, e.tb⟩
  · rintro (q | q)
    · exact e.dj b (.inl h) q
    · subst q; exact nC h
  · rcases set_some h with ⟨rfl, h2, hl⟩ | ⟨ne, h2⟩
    · cases h2
    · obtain ⟨u, h3, h4⟩ := e.val j x h2
      exact ⟨u, by rw [List.getElem?_set_ne (Ne.symm ne)]; exact h3, rp_to h4 eU⟩
  · rcases set_some h with ⟨rfl, h2, hl⟩ | ⟨ne, h2⟩
    · cases h2
      exact ⟨a, vs, by rw [List.getElem?_set_self (by rw [e.len]; exact hl)], .inr rfl, ha, hz, rpL_to r eU⟩
    · obtain ⟨b, us, h3, h4, h5, h6, h7⟩ := e.own j ys h2
      exact ⟨b, us, by rw [List.getElem?_set_ne (Ne.symm ne)]; exact h3, .inl h4, h5, h6, rpL_to h7 eU⟩
  · have self : ∀ {j ys}, (ρ.set i (Sl.own xs))[j]? = some (Sl.own ys) → (σ.set i (some (V.ref a)))[j]? = some (some (V.ref b)) → (j = i ∧ b = a) ∨ (j ≠ i ∧ ρ[j]? = some (Sl.own ys) ∧ σ[j]? = some (some (V.ref b)) ∧ b ≠ a) := fun {j ys} q1 q2 => by
      rcases set_some q1 with ⟨rfl, _, hl⟩ | ⟨ne, q1⟩
      · rw [List.getElem?_set_self (by rw [e.len]; exact hl)] at q2
        cases q2
        exact .inl ⟨rfl, rfl⟩
      · rw [List.getElem?_set_ne (Ne.symm ne)] at q2
        refine .inr ⟨ne, q1, q2, fun z => ?_⟩
        obtain ⟨b', us, h3, h4, _⟩ := e.own j ys q1
        rw [q2] at h3
        cases h3
        rw [z] at h4
        exact nO h4
    rcases self h1 h3 with ⟨rfl, e1⟩ | ⟨n1, p1, p2, p3⟩
    · rcases self h2 h4 with ⟨rfl, _⟩ | ⟨n2, _, _, p3⟩
      · rfl
      · exact absurd e1 p3
    · rcases self h2 h4 with ⟨rfl, e2⟩ | ⟨n2, q1, q2, _⟩
      · exact absurd e2 p3
      · exact e.ne j k ys zs b p1 q1 p2 q2
  · have ne : j ≠ i := fun z => hi (z ▸ hj)
    obtain ⟨h1, ys, h2⟩ := e.ios j hj
    exact ⟨by rw [List.getElem?_set_ne (Ne.symm ne)]; exact h1, ys, by rw [List.getElem?_set_ne (Ne.symm ne)]; exact h2⟩
/-- an own list's content is changed -/
theorem EnvOk.putOwn (e : EnvOk K mg C O ad io H σ ρ) {i : Nat} {a : Addr} {vs : List V} {xs xs0 : List D} (h0 : ρ[i]? = some (Sl.own xs0)) (hs : σ[i]? = some (some (V.ref a))) (r : RpL K mg H (U C O) vs xs) (hz : vs.length ≤ sizeLine) :
    EnvOk K mg C O ad io (L2.upd H a (.lst vs)) σ (ρ.set i (.own xs)) := by
  obtain ⟨a', vs0, q1, hO, q3, _, _⟩ := e.own i xs0 h0
  rw [hs] at q1
  cases q1
  have ev : Evo O H (L2.upd H a (.lst vs)) := Evo.write hO q3
  have hl : i < ρ.length := (List.getElem?_eq_some_iff.mp h0).1
  refine ⟨by rw [List.length_set]; exact e.len, fun b h => ?_, e.dj, fun j x h => ?_, fun j ys h => ?_, fun j k ys zs b h1 h2 h3 h4 => ?_, fun j hj => ?_, tabs_write e.tb q3⟩
  · by_cases c : b = a
    · exact ⟨vs, by rw [c, upd_same]⟩
    · obtain ⟨xs, q⟩ := e.wf b h
      exact ⟨xs, by rw [upd_ne c]; exact q⟩
  · rcases set_some h with ⟨rfl, h2, hl⟩ | ⟨ne, h2⟩
    · cases h2
    · obtain ⟨u, h3, h4⟩ := e.val j x h2
      exact ⟨u, h3, e.rp ev h4⟩
  · rcases set_some h with ⟨rfl, h2, hl⟩ | ⟨ne, h2⟩
    · cases h2
      exact ⟨a, vs, hs, hO, upd_same, hz, e.rpL ev r⟩
    · obtain ⟨b, us, h3, h4, h5, h6, h7⟩ := e.own j ys h2
      have nb : b ≠ a := fun z => by
        subst z
        exact ne (e.ne j i ys xs0 b h2 h0 h3 hs)
      exact ⟨b, us, h3, h4, by rw [upd_ne nb]; exact h5, h6, e.rpL ev h7⟩
  · have self : ∀ {j ys}, (ρ.set i (Sl.own xs))[j]? = some (Sl.own ys) → ∃ zs, ρ[j]? = some (Sl.own zs) := fun {j ys} q => by
      rcases set_some q with ⟨rfl, _, _⟩ | ⟨_, q⟩
      · exact ⟨xs0, h0⟩
      · exact ⟨ys, q⟩
    obtain ⟨y1, p1⟩ := self h1
    obtain ⟨y2, p2⟩ := self h2
    exact e.ne j k y1 y2 b p1 p2 h3 h4
  · obtain ⟨h1, ys, h2⟩ := e.ios j hj
    refine ⟨h1, ?_⟩
    by_cases c : i = j
    · subst c
      exact ⟨xs, by rw [List.getElem?_set_self hl]⟩
    · exact ⟨ys, by rw [List.getElem?_set_ne c]; exact h2⟩
/-- an own list is given out of hand: nobody changes it any more -/
theorem EnvOk.pub (e : EnvOk K mg C O ad io H σ ρ) {i : Nat} {a : Addr} {xs : List D} (h0 : ρ[i]? = some (Sl.own xs)) (hs : σ[i]? = some (some (V.ref a))) (hi : i ∉ io) :
    EnvOk K mg (Plus C a) (fun b => O b ∧ b ≠ a) ad io H σ (ρ.set i .no) ∧ O a ∧ ¬ C a ∧ ∃ vs, H a = some (.lst vs) ∧ vs.length ≤ sizeLine ∧ RpL K mg H (U (Plus C a) (fun b => O b ∧ b ≠ a)) vs xs := by
  obtain ⟨a', vs, q1, hO, q3, q4, q5⟩ := e.own i xs h0
  rw [hs] at q1
  cases q1
  have eU : ∀ b, U (Plus C a) (fun b => O b ∧ b ≠ a) b ↔ U C O b := fun b => by
    constructor
    · rintro ((h | h) | h)
      · exact .inl h
      · subst h; exact .inr hO
      · exact .inr h.1
    · rintro (h | h)
      · exact .inl (.inl h)
      · by_cases c : b = a
        · exact .inl (.inr c)
        · exact .inr ⟨h, c⟩
  refine ⟨⟨by rw [List.length_set]; exact e.len, fun b h => e.wf b ((eU b).mp h), fun b h => ?_, fun j x h => ?_, fun j ys h => ?_, fun j k ys zs b h1 h2 h3 h4 => ?_, fun j hj => ?_, e.tb⟩, hO, fun z => e.dj a z hO, vs, q3, q4, rpL_to q5 eU⟩
  · rintro ⟨q, n⟩
    rcases h with h | h
    · exact e.dj b h q
    · exact n h
  · rcases set_some h with ⟨rfl, h2, hl⟩ | ⟨ne, h2⟩
    · cases h2
    · obtain ⟨u, h3, h4⟩ := e.val j x h2
      exact ⟨u, h3, rp_to h4 eU⟩
  · rcases set_some h with ⟨rfl, h2, hl⟩ | ⟨ne, h2⟩
    · cases h2
    · obtain ⟨b, us, h3, h4, h5, h6, h7⟩ := e.own j ys h2
      have nb : b ≠ a := fun z => by
        subst z
        exact ne (e.ne j i ys xs b h2 h0 h3 hs)
      exact ⟨b, us, h3, ⟨h4, nb⟩, h5, h6, rpL_to h7 eU⟩
  · rcases set_some h1 with ⟨_, q, _⟩ | ⟨n1, h1⟩
    · cases q
    · rcases set_some h2 with ⟨_, q, _⟩ | ⟨n2, h2⟩
      · cases q
      · exact e.ne j k ys zs b h1 h2 h3 h4
  · have ne : j ≠ i := fun z => hi (z ▸ hj)
    obtain ⟨h1, ys, h2⟩ := e.ios j hj
    exact ⟨h1, ys, by rw [List.getElem?_set_ne (Ne.symm ne)]; exact h2⟩
end
end DL
set_option Elab.async false
set_option linter.all false
set_option maxRecDepth 100000
set_option maxHeartbeats 1000000
namespace DL
open PySem PySem.Spec L2

/-! ### transformers that hang on the meaning alone -/
def tDE (K : PySem.W.Frag) (mg : Mg) (Ex : WX) (m : ME) : TE := fun σ H Q => ∃ (C O : AS) (ad : Nat → Addr) (io : List Nat) (ρ : En), EnvOk K mg C O ad io H σ ρ ∧ Post (Rp K mg) K mg Ex C O ad io σ H (m ρ) Q
def tDT (K : PySem.W.Frag) (mg : Mg) (Ex : WX) (m : MT) : TT := fun σ H Q => ∃ (C O : AS) (ad : Nat → Addr) (io : List Nat) (ρ : En), EnvOk K mg C O ad io H σ ρ ∧ Post RB K mg Ex C O ad io σ H (m ρ) Q
section
variable {X : Cx} {Ex : WX} {pos : Pos}
theorem DE.pe {e : Expr} {m : ME} (h : DE X Ex e m) : PE X e (tDE X.K X.mg Ex m) := by
  obtain ⟨t, p, r⟩ := h.run
  refine ⟨fun pins s σ H Q I ⟨C, O, ad, io, ρ, en, q⟩ => p.run pins s σ H Q I (r C O ad io H σ ρ Q en q)⟩
theorem DT.pt {e : Expr} {m : MT} (h : DT X Ex e m) : PT X e (tDT X.K X.mg Ex m) := by
  obtain ⟨t, p, r⟩ := h.run
  refine ⟨fun pins s σ H Q I ⟨C, O, ad, io, ρ, en, q⟩ => p.run pins s σ H Q I (r C O ad io H σ ρ Q en q)⟩

/-! ### targets -/
abbrev MG := D → En → Option En
structure DG (X : Cx) (tg : Expr) (S : List Nat) (f : MG) : Prop where
  run : ∃ g, PG X tg g ∧ ∀ (C O : AS) (ad : Nat → Addr) (io : List Nat) (H : Hp) (σ : St) (ρ : En) (v : V) (d : D) (ρ' : En) (Q : St → Hp → Prop), (∀ i ∈ S, i ∉ io) → EnvOk X.K X.mg C O ad io H σ ρ → Rp X.K X.mg H (U C O) v d → f d ρ = some ρ' →
    (∀ σ', EnvOk X.K X.mg C O ad io H σ' ρ' → (σ'.length = σ.length ∧ ∀ j, j ∉ S → σ'[j]? = σ[j]?) → Q σ' H) → g v σ H Q
structure DGs (X : Cx) (tgs : List Expr) (S : List Nat) (f : List D → En → Option En) : Prop where
  run : ∃ g, PGs X tgs g ∧ ∀ (C O : AS) (ad : Nat → Addr) (io : List Nat) (H : Hp) (σ : St) (ρ : En) (v : List V) (d : List D) (ρ' : En) (Q : St → Hp → Prop), (∀ i ∈ S, i ∉ io) → EnvOk X.K X.mg C O ad io H σ ρ → RpL X.K X.mg H (U C O) v d → f d ρ = some ρ' →
    (∀ σ', EnvOk X.K X.mg C O ad io H σ' ρ' → (σ'.length = σ.length ∧ ∀ j, j ∉ S → σ'[j]? = σ[j]?) → Q σ' H) → g v σ H Q
def gN (i : Nat) : MG := fun d ρ => some (ρ.set i (.val d))
theorem dg_name {i : Nat} {x : Str} (hN : X.N.Nodup) (hi : X.N[i]? = some x) (hx : Loc X.env.scope x) (hf : X.fn x = true ∨ X.env.scope.names.lookup x = some .local := by first | exact .inl rfl | exact .inr rfl | assumption) : DG X (.Name x pos) [i] (gN i) := by
  refine ⟨_, pg_name hN hi hx hf, fun C O ad io H σ ρ v d ρ' Q hS en r e k => ?_⟩
  cases e
  exact k _ (en.setVal r (hS i (by simp))) ⟨List.length_set .., fun j hj => List.getElem?_set_ne fun z => hj (by simp [z])⟩
def gNs : List D → En → Option En := fun d ρ => match d with
  | [] => some ρ
  | _ => none
def gCs (f : MG) (g : List D → En → Option En) : List D → En → Option En := fun d ρ => match d with
  | [] => none
  | x :: xs => match f x ρ with
    | some ρ1 => g xs ρ1
    | none => none
theorem dgs_nil : DGs X [] [] gNs := by
  refine ⟨_, pgs_nil, fun C O ad io H σ ρ v d ρ' Q hS en r e k => ?_⟩
  cases d with
  | cons x xs => cases e
  | nil =>
    cases r
    cases e
    exact ⟨rfl, k σ en ⟨rfl, fun _ _ => rfl⟩⟩
theorem dgs_cons {e : Expr} {es : List Expr} {S T : List Nat} {f : MG} {g : List D → En → Option En} (h1 : DG X e S f) (h2 : DGs X es T g)
    (hs : (assignEach (e :: es) X.env).map (·.2) = assign e X.env :: (assignEach es X.env).map (·.2) := by rfl) : DGs X (e :: es) (S ++ T) (gCs f g) := by
  obtain ⟨t1, p1, r1⟩ := h1.run
  obtain ⟨t2, p2, r2⟩ := h2.run
  refine ⟨_, pgs_cons p1 p2 hs, fun C O ad io H σ ρ v d ρ' Q hS en r e k => ?_⟩
  cases r with
  | nil => cases e
  | cons ra rb =>
    unfold gCs at e
    dsimp only at e
    split at e
    · rename_i ρ1 e1
      refine ⟨_, _, rfl, r1 C O ad io H σ ρ _ _ ρ1 _ (fun i hi => hS i (List.mem_append_left _ hi)) en ra e1 fun σ1 en1 k1 => ?_⟩
      refine r2 C O ad io H σ1 ρ1 _ _ ρ' Q (fun i hi => hS i (List.mem_append_right _ hi)) en1 rb e fun σ2 en2 k2 => ?_
      exact k σ2 en2 ⟨k2.1.trans k1.1, fun j hj => (k2.2 j fun z => hj (List.mem_append_right _ z)).trans (k1.2 j fun z => hj (List.mem_append_left _ z))⟩
    · cases e
def gT (n : Nat) (g : List D → En → Option En) : MG := fun d ρ => match d with
  | .tup xs => if xs.length = n then g xs ρ else none
  | _ => none
theorem dg_tup {es : List Expr} {kk n : Nat} {S : List Nat} {g : List D → En → Option En} (hc : X.calm = true) (h : DGs X es S g) (hn : (assignEach es X.env).length = n := by rfl) (hst : (assignEach es X.env).findIdx? (·.1) = none := by rfl) : DG X (.Tuple es kk pos) S (gT n g) := by
  obtain ⟨t, p, r⟩ := h.run
  refine ⟨_, pg_tup hc p hn hst, fun C O ad io H σ ρ v d ρ' Q hS en rr e k => ?_⟩
  cases rr with
  | tup h1 h2 h3 =>
    unfold gT at e
    dsimp only at e
    split at e
    · rename_i hl
      exact ⟨_, _, rfl, h1, by rw [h3.length]; exact hl, r C O ad io H σ ρ _ _ ρ' Q hS en h3 e k⟩
    · cases e
  | _ => cases e
def gDG (K : PySem.W.Frag) (mg : Mg) (S : List Nat) (f : MG) : TG := fun v σ H Q => ∃ (C O : AS) (ad : Nat → Addr) (io : List Nat) (ρ : En) (d : D) (ρ' : En), (∀ i ∈ S, i ∉ io) ∧ EnvOk K mg C O ad io H σ ρ ∧ Rp K mg H (U C O) v d ∧ f d ρ = some ρ' ∧
  ∀ σ', EnvOk K mg C O ad io H σ' ρ' → (σ'.length = σ.length ∧ ∀ j, j ∉ S → σ'[j]? = σ[j]?) → Q σ' H
theorem DG.pg {tg : Expr} {S : List Nat} {f : MG} (h : DG X tg S f) : PG X tg (gDG X.K X.mg S f) := by
  obtain ⟨t, p, r⟩ := h.run
  exact ⟨fun pins s σ H v u Q I rv ⟨C, O, ad, io, ρ, d, ρ', hS, en, rr, e, k⟩ => p.run pins s σ H v u Q I rv (r C O ad io H σ ρ v d ρ' Q hS en rr e k)⟩

/-! ### what is walked -/
theorem Rp.growN {K : PySem.W.Frag} {mg : Mg} {H : Hp} {W W' : AS} {v : V} {d : D} (r : Rp K mg H W v d) (h : ∀ a, W' a → W a ∨ H a = none) : Rp K mg H W' v d := by
  have key : ∀ {a vs}, Rd H a (.lst vs) → ¬ W a → ¬ W' a := fun {a vs} h1 n q => by
    rcases h a q with z | z
    · exact n z
    · rcases h1 with h1 | ⟨o, h1⟩ <;> rw [z] at h1 <;> cases h1
  exact (go key).1 r
where
  go {K : PySem.W.Frag} {mg : Mg} {H : Hp} {W W' : AS} (key : ∀ {a vs}, Rd H a (.lst vs) → ¬ W a → ¬ W' a) : (∀ {v d}, Rp K mg H W v d → Rp K mg H W' v d) ∧ (∀ {vs ds}, RpL K mg H W vs ds → RpL K mg H W' vs ds) :=
    ⟨fun {v d} r => one key r, fun {vs ds} r => all key r⟩
  one {K : PySem.W.Frag} {mg : Mg} {H : Hp} {W W' : AS} (key : ∀ {a vs}, Rd H a (.lst vs) → ¬ W a → ¬ W' a) : ∀ {v d}, Rp K mg H W v d → Rp K mg H W' v d
    | _, _, .non => .non
    | _, _, .bl b => .bl b
    | _, _, .int i => .int i
    | _, _, .str x => .str x
    | _, _, .tup h z r => .tup h z (all key r)
    | _, _, .lst h z n r => .lst h z (key h n) (all key r)
    | _, _, .kl h z r => .kl (h.imp (fun q => ⟨q.1, key q.1 q.2⟩) id) z (all key r)
    | _, _, .err m h h2 r => .err m h h2 (one key r)
  all {K : PySem.W.Frag} {mg : Mg} {H : Hp} {W W' : AS} (key : ∀ {a vs}, Rd H a (.lst vs) → ¬ W a → ¬ W' a) : ∀ {vs ds}, RpL K mg H W vs ds → RpL K mg H W' vs ds
    | _, _, .nil => .nil
    | _, _, .cons h t => .cons (one key h) (all key t)
/-- later, over more own lists -/
theorem Rp.far {K : PySem.W.Frag} {mg : Mg} {H H' : Hp} {C O C' O' : AS} {v : V} {d : D} (r : Rp K mg H (U C O) v d) (ev : Evo O H H') (ow : ∀ b, O b → ∃ xs, H b = some (.lst xs)) (h : ∀ a, U C' O' a → U C O a ∨ H a = none) : Rp K mg H' (U C' O') v d :=
  ((r.growN (W' := fun a => U C O a ∨ U C' O' a) fun a q => q.elim .inl (h a)).evo ev ow fun _ q => .inl (.inr q)).sub fun _ q => .inr q
/-- J walks ds from H on, whatever is changed but what the environment tells -/
def Walks (K : PySem.W.Frag) (mg : Mg) (C O : AS) (H : Hp) (J : It) (ds : List D) : Prop := ds.length ≤ sizeLine ∧
  ∀ (C' O' : AS) (H' : Hp), Evo O H H' → (∀ a, U C' O' a → U C O a ∨ H a = none) → Wf H' (U C' O') → (∀ (i : Nat) (d : D), ds[i]? = some d → J.go i H' ∧ ∀ x H2, J.yld i H' x H2 → (∀ b o, H' b = some o → H2 b = some o) ∧ Rp K mg H2 (U C' O') x d) ∧ (∀ i, ds.length ≤ i → J.stop i H')
def PostI (K : PySem.W.Frag) (mg : Mg) (Ex : WX) (C O : AS) (ad : Nat → Addr) (io : List Nat) (σ : St) (H : Hp) (r : R (List D)) (R : It → Hp → Prop) : Prop :=
  match r with
  | .ok ds ρ' => ∀ J H', Evo O H H' → EnvOk K mg C O ad io H' σ ρ' → Walks K mg C O H' J ds → R J H'
  | .exc c d ρ' => ∀ H' cls dx, Evo O H H' → EnvOk K mg C O ad io H' σ ρ' → ErrAt K mg H' (U C O) c d cls dx → Ex cls dx σ H'
  | .bad => False
structure DI (X : Cx) (Ex : WX) (tg iter : Expr) (m : MF) : Prop where
  run : ∃ wi, PI X tg iter wi ∧ ∀ (C O : AS) (ad : Nat → Addr) (io : List Nat) (H : Hp) (σ : St) (ρ : En) (R : It → Hp → Prop), EnvOk X.K X.mg C O ad io H σ ρ → PostI X.K X.mg Ex C O ad io σ H (m ρ) R → wi σ H R
theorem PostI.bind {α β : Type} {Ra : Hp → AS → β → α → Prop} {C O : AS} {ad : Nat → Addr} {io : List Nat} {σ : St} {H : Hp} {r : R α} {f : α → En → R (List D)} {Q : It → Hp → Prop} {Q1 : β → Hp → Prop}
    (h : PostI X.K X.mg Ex C O ad io σ H (r.bind f) Q)
    (k : ∀ d ρ' v H', Evo O H H' → EnvOk X.K X.mg C O ad io H' σ ρ' → Ra H' (U C O) v d → PostI X.K X.mg Ex C O ad io σ H' (f d ρ') Q → Q1 v H') : Post Ra X.K X.mg Ex C O ad io σ H r Q1 := by
  cases r with
  | bad => exact h
  | exc c d ρ' => exact h
  | ok d ρ' =>
    intro v H' ev en rl
    refine k d ρ' v H' ev en rl ?_
    have h' : PostI X.K X.mg Ex C O ad io σ H (f d ρ') Q := h
    unfold PostI at h' ⊢
    cases q : f d ρ' with
    | bad => rw [q] at h'; exact h'
    | exc c x ρ2 => rw [q] at h'; exact fun H2 cls dx ev2 en2 er => h' H2 cls dx (ev.trans ev2) en2 er
    | ok x ρ2 => rw [q] at h'; exact fun J H2 ev2 en2 w => h' J H2 (ev.trans ev2) en2 w
/-- a list, a tuple -/
def mIter (m : ME) : MF := fun ρ => (m ρ).bind fun d ρ1 => match itemsOf d with
  | some xs => .ok xs ρ1
  | none => .bad
theorem walks_list {K : PySem.W.Frag} {mg : Mg} {C O : AS} {H : Hp} {a : Addr} {vs : List V} {ds : List D} (w : Wf H (U C O)) (h : Rd H a (.lst vs)) (n : ¬ U C O a) (hz : vs.length ≤ sizeLine) (r : RpL K mg H (U C O) vs ds) : Walks K mg C O H (Itl K a) ds := ⟨by rw [← r.length]; exact hz, fun C' O' H' ev hW w' => by
  have ow : ∀ b, O b → ∃ xs, H b = some (.lst xs) := fun b hb => w b (.inr hb)
  have h' : Rd H' a (.lst vs) := Rd.evo h ev fun z => n (.inr z)
  refine ⟨fun i d hd => ?_, fun i hi => ⟨vs, .inl h', by rw [r.length]; exact hi⟩⟩
  obtain ⟨v, hv, rv⟩ := r.get hd
  refine ⟨⟨vs, v, .inl h', hv⟩, fun x H2 ⟨e1, e2⟩ => ?_⟩
  subst e1
  have ex := e2 vs (.inl h')
  rw [hv] at ex
  cases ex
  exact ⟨fun _ _ q => q, rv.far ev ow hW⟩⟩
theorem walks_kl {K : PySem.W.Frag} {mg : Mg} {C O : AS} {H : Hp} {a : Addr} {vs : List V} {ds : List D} (w : Wf H (U C O)) (h : KlT K H (U C O) a vs) (hz : vs.length ≤ sizeLine) (r : RpL K mg H (U C O) vs ds) : Walks K mg C O H (Itl K a) ds := ⟨by rw [← r.length]; exact hz, fun C' O' H' ev hW w' => by
  have ow : ∀ b, O b → ∃ xs, H b = some (.lst xs) := fun b hb => w b (.inr hb)
  have h' : SqL K H' a vs := (h.evo ev fun _ q => .inr q).sql
  refine ⟨fun i d hd => ?_, fun i hi => ⟨vs, h', by rw [r.length]; exact hi⟩⟩
  obtain ⟨v, hv, rv⟩ := r.get hd
  refine ⟨⟨vs, v, h', hv⟩, fun x H2 ⟨e1, e2⟩ => ?_⟩
  subst e1
  have ex := e2 vs h'
  rw [hv] at ex
  cases ex
  exact ⟨fun _ _ q => q, rv.far ev ow hW⟩⟩
theorem walks_tup {K : PySem.W.Frag} {mg : Mg} {C O : AS} {H : Hp} {a : Addr} {vs : List V} {ds : List D} (w : Wf H (U C O)) (h : SqT K H a vs) (hz : vs.length ≤ sizeLine) (r : RpL K mg H (U C O) vs ds) : Walks K mg C O H (Itt K a) ds := ⟨by rw [← r.length]; exact hz, fun C' O' H' ev hW w' => by
  have ow : ∀ b, O b → ∃ xs, H b = some (.lst xs) := fun b hb => w b (.inr hb)
  have h' : SqT K H' a vs := SqT.evo h ev ow
  refine ⟨fun i d hd => ?_, fun i hi => ⟨vs, h', by rw [r.length]; exact hi⟩⟩
  obtain ⟨v, hv, rv⟩ := r.get hd
  refine ⟨⟨vs, v, h', hv⟩, fun x H2 ⟨e1, e2⟩ => ?_⟩
  subst e1
  have ex := e2 vs h'
  rw [hv] at ex
  cases ex
  exact ⟨fun _ _ q => q, rv.far ev ow hW⟩⟩
def strItems (x : Str) : List D := x.cps.toList.map fun c => .str ⟨#[c]⟩
theorem walks_str {K : PySem.W.Frag} {mg : Mg} {C O : AS} {H : Hp} {x : Str} (hz : (strItems x).length ≤ sizeLine) : Walks K mg C O H (Its x) (strItems x) := ⟨hz, fun C' O' H' ev hW w' => by
  refine ⟨fun i d hd => ?_, fun i hi => ?_⟩
  · unfold strItems at hd
    rw [List.getElem?_map] at hd
    cases q : x.cps.toList[i]? with
    | none => rw [q] at hd; cases hd
    | some c =>
      rw [q] at hd
      cases hd
      rw [Array.getElem?_toList] at q
      refine ⟨?_, fun y H2 ⟨e1, c', e2, e3⟩ => ?_⟩
      · exact (Array.getElem?_eq_some_iff.mp q).1
      · subst e1 e3
        rw [q] at e2
        cases e2
        exact ⟨fun _ _ q => q, .str _⟩
  · have : (strItems x).length = x.cps.size := by unfold strItems; rw [List.length_map, Array.length_toList]
    rw [this] at hi
    exact hi⟩
/-- what a for walks: a list, a tuple, a text -/
def iSeq (K : PySem.W.Frag) (tl : TE) : TI := fun σ H R => tl σ H fun x H1 => (∃ a, x = .ref a ∧ (∃ xs, SqL K H1 a xs) ∧ R (Itl K a) H1) ∨ (∃ a, x = .ref a ∧ (∃ xs, SqT K H1 a xs) ∧ R (Itt K a) H1) ∨ (∃ y, x = .str y ∧ R (Its y) H1)
theorem pi_seq {X : Cx} {tg l : Expr} {tl : TE} (hl : PE X l tl) : PI X tg l (iSeq X.K tl) := by
  constructor
  intro pins s σ H R I h
  refine thn (hl.run pins s σ H _ I h) ?_
  rintro v s1 ⟨x, H1, I1, r1, q1⟩
  rcases q1 with ⟨a, rfl, ⟨xs, hq⟩, q⟩ | ⟨a, rfl, ⟨xs, hq⟩, q⟩ | ⟨y, rfl, q⟩
  · cases r1
    obtain ⟨its, rv, p, hz⟩ := I1.list hq
    exact wpAny_pyIter_list p.isList (pi_one (tk := s1.toks) I1 _ (turn_list a _) ⟨_, Heap.get?_push_size _ rfl, rfl, rfl⟩ q)
  · cases r1
    obtain ⟨its, rv, p, hz⟩ := I1.tuple hq
    exact wpAny_pyIter_tuple (show s1.heap.IsTuple a its.toArray from p) (pi_one (tk := s1.toks) I1 _ (turn_tuple a _) ⟨_, Heap.get?_push_size _ rfl, rfl, rfl⟩ q)
  · obtain ⟨t, rfl⟩ := r1
    cases ha : y.cps.all (· < 128)
    · exact wpAny_pyIter_wide ha (pi_one (tk := s1.toks) I1 _ (turn_str _ y t "str_iterator" (.inr rfl)) ⟨_, Heap.get?_push_size _ rfl, rfl, rfl⟩ q)
    · exact wpAny_pyIter_ascii ha (pi_one (tk := s1.toks) I1 _ (turn_str _ y t "str_ascii_iterator" (.inl rfl)) ⟨_, Heap.get?_push_size _ rfl, rfl, rfl⟩ q)
def walkOf : D → Option (List D)
  | .lst xs => some xs
  | .tup xs => some xs
  | .kl xs => some xs
  | .str x => if (strItems x).length ≤ sizeLine then some (strItems x) else none
  | _ => none
def mSeqI (m : ME) : MF := fun ρ => (m ρ).bind fun d ρ1 => match walkOf d with
  | some xs => .ok xs ρ1
  | none => .bad
theorem di_seq {tg l : Expr} {m : ME} (h : DE X Ex l m) : DI X Ex tg l (mSeqI m) := by
  obtain ⟨t, p, r⟩ := h.run
  refine ⟨_, pi_seq p, fun C O ad io H σ ρ R en q => ?_⟩
  refine r C O ad io H σ ρ _ en (PostI.bind q fun d ρ1 v H1 ev1 en1 r1 h1 => ?_)
  cases d with
  | lst xs =>
    cases r1 with
    | lst q1 q2 q3 q4 => exact .inl ⟨_, rfl, ⟨_, .inl q1⟩, h1 _ H1 Evo.refl en1 (walks_list en1.wf q1 q3 q2 q4)⟩
  | kl xs =>
    cases r1 with
    | kl q1 q3 q4 => exact .inl ⟨_, rfl, ⟨_, q1.sql⟩, h1 _ H1 Evo.refl en1 (walks_kl en1.wf q1 q3 q4)⟩
  | tup xs =>
    cases r1 with
    | tup q1 q2 q3 => exact .inr (.inl ⟨_, rfl, ⟨_, q1⟩, h1 _ H1 Evo.refl en1 (walks_tup en1.wf q1 q2 q3)⟩)
  | str x =>
    cases r1
    by_cases hz : (strItems x).length ≤ sizeLine
    · simp only [walkOf, if_pos hz] at h1
      exact .inr (.inr ⟨x, rfl, h1 _ H1 Evo.refl en1 (walks_str hz)⟩)
    · simp only [walkOf, if_neg hz] at h1
      exact h1.elim
  | _ => exact h1.elim
end
end DL
set_option Elab.async false
set_option linter.all false
set_option maxRecDepth 100000
set_option maxHeartbeats 1000000
namespace DL
open PySem PySem.Spec L2

/-! ### list comprehensions of one clause -/
def wipeE (ρ : En) : List Nat → En
  | [] => ρ
  | v :: vs => (wipeE ρ vs).set v .no
/-- behind the block: its own names' slots as they were (a list of the def's own is lost) -/
def restE (ρ0 : En) : List Nat → En → En
  | [], ρ => ρ
  | v :: vs, ρ => (restE ρ0 vs ρ).set v (match ρ0[v]? with
    | some (.val d) => .val d
    | _ => .no)
def lcGo (f : MG) (S : List Nat) (mt : MT) (me : ME) : List D → List D → En → R (List D)
  | [], acc, ρ => .ok acc ρ
  | x :: xs, acc, ρ => match f x ρ with
    | none => .bad
    | some ρ1 => (mt ρ1).bind fun b ρ2 => match b with
      | true => (me ρ2).bind fun y ρ3 => lcGo f S mt me xs (acc ++ [y]) (wipeE ρ3 S)
      | false => lcGo f S mt me xs acc (wipeE ρ2 S)
def noExc {α : Type} : R α → R α
  | .exc _ _ _ => .bad
  | r => r
def notOwn : Option Sl → Bool
  | some (.own _) => false
  | _ => true
def clearS (ρ : En) (S : List Nat) : Bool := S.all fun i => notOwn ρ[i]?
def mLc (mi : MF) (f : MG) (S : List Nat) (mt : MT) (me : ME) : MF := fun ρ => (mi ρ).bind fun ds ρ1 => if clearS ρ1 S = true then ((noExc (lcGo f S mt me ds [] (wipeE ρ1 S))).bind fun ys ρ2 => .ok ys (restE ρ1 S ρ2)) else .bad
section
variable {K : PySem.W.Frag} {mg : Mg} {C O : AS} {ad : Nat → Addr} {io : List Nat} {H H' : Hp} {σ : St} {ρ ρ' : En}
theorem wipe_congr {σ σ' : St} : ∀ {S : List Nat}, σ.length = σ'.length → (∀ j, j ∉ S → σ[j]? = σ'[j]?) → wipe σ S = wipe σ' S := fun {S} hl h => by
  have key : ∀ (S : List Nat) (σ σ' : St), σ.length = σ'.length → ∀ j, (wipe σ S)[j]? = if j ∈ S then (if j < σ.length then some none else none) else σ[j]? := by
    intro S
    induction S with
    | nil => intro σ _ _ j; simp [wipe]
    | cons v vs ih =>
      intro σ σ' hl j
      unfold wipe
      by_cases e : j = v
      · subst e
        rw [if_pos (by simp)]
        by_cases hj : j < σ.length
        · rw [List.getElem?_set_self (by rw [wipe_length]; exact hj), if_pos hj]
        · rw [List.getElem?_eq_none (by rw [List.length_set, wipe_length]; omega), if_neg hj]
      · rw [List.getElem?_set_ne (Ne.symm e), ih σ σ' hl j]
        by_cases hm : j ∈ vs
        · rw [if_pos hm, if_pos (List.mem_cons_of_mem _ hm)]
        · rw [if_neg hm, if_neg (by simp [e, hm])]
  apply List.ext_getElem?
  intro j
  rw [key S σ σ' hl j, key S σ' σ hl.symm j]
  by_cases hm : j ∈ S
  · rw [if_pos hm, if_pos hm, hl]
  · rw [if_neg hm, if_neg hm]; exact h j hm
theorem wipe_wipe (σ : St) (S : List Nat) : wipe (wipe σ S) S = wipe σ S := by
  apply wipe_congr (wipe_length σ S)
  intro j hj
  induction S with
  | nil => rfl
  | cons v vs ih =>
    simp only [List.mem_cons, not_or] at hj
    unfold wipe
    rw [List.getElem?_set_ne (Ne.symm hj.1)]
    exact ih hj.2
theorem EnvOk.wipe (e : EnvOk K mg C O ad io H σ ρ) : ∀ {S : List Nat}, (∀ i ∈ S, i ∉ io) → EnvOk K mg C O ad io H (L2.wipe σ S) (wipeE ρ S)
  | [], _ => e
  | v :: vs, h => (EnvOk.wipe e (S := vs) fun i hi => h i (List.mem_cons_of_mem _ hi)).drop (h v List.mem_cons_self)
/-- a caller's list is written -/
theorem EnvOk.writeC (e : EnvOk K mg C O ad io H σ ρ) {p : Addr} {vs us : List V} (hC : C p) (h0 : H p = some (.lst us)) : EnvOk K mg C O ad io (L2.upd H p (.lst vs)) σ ρ := by
  have ev : Evo C H (L2.upd H p (.lst vs)) := Evo.write hC h0
  have ow : ∀ a, C a → ∃ xs, H a = some (.lst xs) := fun a h => e.wf a (.inl h)
  have s : ∀ a, C a → U C O a := fun a h => .inl h
  refine ⟨e.len, fun a h => ?_, e.dj, fun i d h => ?_, fun i xs h => ?_, e.ne, e.ios, tabs_write e.tb h0⟩
  · by_cases c : a = p
    · exact ⟨vs, by rw [c, upd_same]⟩
    · obtain ⟨xs, q⟩ := e.wf a h
      exact ⟨xs, by rw [upd_ne c]; exact q⟩
  · obtain ⟨v, h1, h2⟩ := e.val i d h
    exact ⟨v, h1, h2.evo ev ow s⟩
  · obtain ⟨a, us, h1, h2, h3, h4, h5⟩ := e.own i xs h
    exact ⟨a, us, h1, h2, ev.k a _ h3 (fun z => e.dj a z h2) rfl, h4, h5.evo ev ow s⟩
/-- slots as they were -/
theorem EnvOk.rest {σ0 : St} {ρ0 : En} (e0 : ∀ (i : Nat) (d : D), ρ0[i]? = some (Sl.val d) → ∃ v, σ0[i]? = some (some v) ∧ Rp K mg H (U C O) v d) (hl : σ0.length = ρ0.length) : ∀ {S : List Nat} {σ1 : St} {ρ1 : En}, (∀ i ∈ S, i ∉ io) → σ1.length = σ0.length → EnvOk K mg C O ad io H σ1 ρ1 → (∀ j, j ∉ S → σ1[j]? = σ0[j]?) →
    ∀ {T : List Nat}, (∀ j ∈ T, j ∈ S) → ∃ σ2, EnvOk K mg C O ad io H σ2 (restE ρ0 T ρ1) ∧ σ2.length = σ0.length ∧ (∀ j, j ∈ T → σ2[j]? = σ0[j]?) ∧ (∀ j, j ∉ S → σ2[j]? = σ0[j]?) := fun {S σ1 ρ1} hS hl1 e1 h1 {T} => by
  induction T with
  | nil => exact fun _ => ⟨σ1, e1, hl1, fun j hj => by simp at hj, h1⟩
  | cons v vs ih =>
    intro hT
    obtain ⟨σ2, e2, hl2, q1, q2⟩ := ih fun j hj => hT j (List.mem_cons_of_mem _ hj)
    have hv : v ∉ io := hS v (hT v List.mem_cons_self)
    have fin : ∀ (x : Option V), σ0[v]? = some x ∨ σ0.length ≤ v → (∀ j, j ∈ v :: vs → (σ2.set v x)[j]? = σ0[j]?) ∧ (∀ j, j ∉ S → (σ2.set v x)[j]? = σ0[j]?) := fun x hx => by
      refine ⟨fun j hj => ?_, fun j hj => ?_⟩
      · by_cases ej : j = v
        · subst ej
          rcases hx with hx | hx
          · have : j < σ0.length := (List.getElem?_eq_some_iff.mp hx).1
            rw [List.getElem?_set_self (by omega), hx]
          · rw [List.getElem?_eq_none (by rw [List.length_set]; omega), List.getElem?_eq_none hx]
        · rw [List.getElem?_set_ne (Ne.symm ej)]
          exact q1 j ((List.mem_cons.mp hj).resolve_left ej)
      · have ej : j ≠ v := fun z => hj (z ▸ hT v List.mem_cons_self)
        rw [List.getElem?_set_ne (Ne.symm ej)]
        exact q2 j hj
    have dflt : ∃ x, σ0[v]? = some x ∨ σ0.length ≤ v := by
      by_cases c : v < σ0.length
      · exact ⟨σ0[v], .inl (List.getElem?_eq_getElem c)⟩
      · exact ⟨none, .inr (by omega)⟩
    unfold restE
    split
    · rename_i d hd
      obtain ⟨w, z1, z2⟩ := e0 v d hd
      exact ⟨σ2.set v (some w), e2.setVal z2 hv, by rw [List.length_set]; exact hl2, fin _ (.inl z1)⟩
    · obtain ⟨x, hx⟩ := dflt
      exact ⟨σ2.set v x, e2.drop hv, by rw [List.length_set]; exact hl2, fin _ hx⟩
theorem EnvOk.back {σ0 : St} {ρ0 ρ2 : En} {S : List Nat} (hS : ∀ i ∈ S, i ∉ io) (e0 : ∀ (i : Nat) (d : D), ρ0[i]? = some (Sl.val d) → ∃ v, σ0[i]? = some (some v) ∧ Rp K mg H (U C O) v d) (hl : σ0.length = ρ0.length) (e : EnvOk K mg C O ad io H (L2.wipe σ0 S) ρ2) : EnvOk K mg C O ad io H σ0 (restE ρ0 S ρ2) := by
  have off : ∀ (S : List Nat) (j : Nat), j ∉ S → (L2.wipe σ0 S)[j]? = σ0[j]? := by
    intro S
    induction S with
    | nil => intro j _; rfl
    | cons v vs ih =>
      intro j hj
      simp only [List.mem_cons, not_or] at hj
      unfold L2.wipe
      rw [List.getElem?_set_ne (Ne.symm hj.1)]
      exact ih j hj.2
  obtain ⟨σ2, e2, hl2, q1, q2⟩ := EnvOk.rest e0 hl hS (wipe_length σ0 S) e (off S) (T := S) fun _ h => h
  have : σ2 = σ0 := by
    apply List.ext_getElem?
    intro j
    by_cases hj : j ∈ S
    · exact q1 j hj
    · exact q2 j hj
  rw [← this]
  exact e2
end

/-- tests of a clause -/
def NoX : WX := fun _ _ _ _ => False
structure DQ (X : Cx) (ifs : List Expr) (m : MT) : Prop where
  run : PTs X ifs (tDT X.K X.mg NoX m)
theorem dq_nil {X : Cx} : DQ X [] (fun ρ => .ok true ρ) := ⟨⟨fun pins s σ H Q I h => by
  obtain ⟨C, O, ad, io, ρ, en, q⟩ := h
  exact pts_nil.run pins s σ H Q I (q true H Evo.refl en rfl)⟩⟩
theorem dq_one {X : Cx} {c : Expr} {m : MT} (h : DT X NoX c m) : DQ X [c] m := ⟨pts_one h.pt⟩

section
variable {X : Cx} {Ex : WX} {pos : Pos}
theorem bind_ok {α β : Type} {r : R α} {f : α → En → R β} {b : β} {ρ : En} (h : r.bind f = .ok b ρ) : ∃ a ρ1, r = .ok a ρ1 ∧ f a ρ1 = .ok b ρ := by
  cases r with
  | ok a ρ1 => exact ⟨a, ρ1, rfl, h⟩
  | exc c d ρ1 => cases h
  | bad => cases h
/-- a comprehension -/
theorem df_lc {elt tg iter : Expr} {ifs : List Expr} {scope : Scope} {own : List (Str × Nat)} {mi : MF} {f : MG} {S : List Nat} {mt : MT} {me : ME} (hc : X.calm = true) (hN : X.N.Nodup) (hi : DI X Ex tg iter mi) (ok : BlkOk X.N X.env.scope scope own) (hSo : own.map (·.2) = S)
    (hg : ∀ (s : Shared) (H : Hp) (C : Addr) (cl : List (Str × Addr)) (fp : List Addr), DG (X.blk s H scope (compEnvC scope cl C X.env) fp) tg S f)
    (ht : ∀ (s : Shared) (H : Hp) (C : Addr) (cl : List (Str × Addr)) (fp : List Addr), DQ (X.blk s H scope (compEnvC scope cl C X.env) fp) ifs mt)
    (he : ∀ (s : Shared) (H : Hp) (C : Addr) (cl : List (Str × Addr)) (fp : List Addr), DE (X.blk s H scope (compEnvC scope cl C X.env) fp) NoX elt me)
    (hs : ∀ x, foldedSetIterable iter X.env x = pure x := by intro _; rfl) : DF X Ex (.ListComp elt [⟨tg, iter, ifs, 0⟩] scope pos) (mLc mi f S mt me) := by
  subst hSo
  obtain ⟨wi, pi, ri⟩ := hi.run
  refine ⟨_, pe_lc (g := gDG X.K X.mg (own.map (·.2)) f) (tt := tDT X.K X.mg NoX mt) (te := tDE X.K X.mg NoX me) hc hN pi ok (fun s H C cl fp => (hg s H C cl fp).pg) (fun s H C cl fp => (ht s H C cl fp).run) (fun s H C cl fp => (he s H C cl fp).pe) hs, fun C O ad io H σ ρ Q en h => ?_⟩
  exact lcR C O ad io H σ ρ Q en h ri
where
  lcR {own : List (Str × Nat)} {mi : MF} {f : MG} {mt : MT} {me : ME} {wi : TI} (C O : AS) (ad : Nat → Addr) (io : List Nat) (H : Hp) (σ : St) (ρ : En) (Q : VK) (en : EnvOk X.K X.mg C O ad io H σ ρ) (h : PostF X.K X.mg Ex C O ad io σ H (mLc mi f (own.map (·.2)) mt me ρ) Q)
    (ri : ∀ (C O : AS) (ad : Nat → Addr) (io : List Nat) (H : Hp) (σ : St) (ρ : En) (R : It → Hp → Prop), EnvOk X.K X.mg C O ad io H σ ρ → PostI X.K X.mg Ex C O ad io σ H (mi ρ) R → wi σ H R) :
    tLc wi (gDG X.K X.mg (own.map (·.2)) f) (tDT X.K X.mg NoX mt) (tDE X.K X.mg NoX me) (own.map (·.2)) σ H Q := by
    generalize own.map (·.2) = S at h ⊢
    refine ri C O ad io H σ ρ _ en ?_
    unfold mLc at h
    unfold PostI
    cases z : mi ρ with
    | bad => rw [z] at h; exact h
    | exc c d ρ' => rw [z] at h; exact h
    | ok ds ρ1 =>
      rw [z] at h
      intro J H1 ev1 en1 wk
      have h : PostF X.K X.mg Ex C O ad io σ H (if clearS ρ1 S = true then ((noExc (lcGo f S mt me ds [] (wipeE ρ1 S))).bind fun ys ρ2 => .ok ys (restE ρ1 S ρ2)) else .bad) Q := h
      split at h
      case isFalse => exact h.elim
      rename_i hcl
      have hS : ∀ i ∈ S, i ∉ io := fun i hi hio => by
        obtain ⟨_, xs, q⟩ := en1.ios i hio
        have := List.all_eq_true.mp hcl i hi
        rw [q] at this
        cases this
      cases lg : lcGo f S mt me ds [] (wipeE ρ1 S) with
      | bad => rw [lg] at h; exact h.elim
      | exc c d ρ' => rw [lg] at h; exact h.elim
      | ok ys ρ2 =>
        rw [lg] at h
        intro p hp
        have e1 := en1.plus (vs := []) hp
        have hpO : ¬ O p := e1.dj p (.inr rfl)
        have hpC : ¬ C p := fun q => by
          obtain ⟨xs, q⟩ := en1.wf p (.inl q)
          rw [hp] at q; cases q
        generalize hH1 : upd H1 p (.lst []) = H1' at e1
        have hp1 : H1' p = some (.lst []) := by rw [← hH1, upd_same]
        have evO : ∀ {Hc}, Evo (fun a => O a ∨ a = p) H1' Hc → Evo O H1 Hc := fun {Hc} ev => by
          refine ⟨fun b o hb nb z => ?_, fun b ps hb => ev.t b ps (by rw [← hH1, upd_ne (ne_of_none hb hp)]; exact hb)⟩
          have ne : b ≠ p := ne_of_none hb hp
          exact ev.k b o (by rw [← hH1, upd_ne ne]; exact hb) (fun q => q.elim nb ne) z
        have ow1 : ∀ a, (O a ∨ a = p) → ∃ xs, H1' a = some (.lst xs) := fun a q => e1.wf a (q.elim .inr fun z => .inl (.inr z))
        have far : ∀ a, U (Plus C p) O a → U C O a ∨ H1 a = none := fun a q => by
          rcases q with (q | q) | q
          · exact .inl (.inl q)
          · exact .inr (q ▸ hp)
          · exact .inl (.inr q)
        refine ⟨fun i m Hc => m = ds.length - i ∧ i ≤ ds.length ∧ ∃ ρc acc vs, EnvOk X.K X.mg (Plus C p) O ad io Hc (wipe σ S) ρc ∧ Evo (fun a => O a ∨ a = p) H1' Hc ∧ Hc p = some (.lst vs) ∧ vs.length ≤ i ∧ RpL X.K X.mg Hc (U (Plus C p) O) vs acc ∧ lcGo f S mt me (ds.drop i) acc ρc = .ok ys ρ2,
          ⟨ds.length, rfl, Nat.zero_le _, wipeE ρ1 S, [], [], e1.wipe hS, Evo.refl, hp1, Nat.le_refl _, .nil, lg⟩, ?_⟩
        rintro i m Hc ⟨hm, hi, ρc, acc, vs, ec, evc, hpc, hvs, rl, lgc⟩
        obtain ⟨hzd, wk⟩ := wk
        obtain ⟨wg, ws⟩ := wk (Plus C p) O Hc (evO evc) far ec.wf
        by_cases hlt : i < ds.length
        · refine .inr ?_
          have hd : ds[i]? = some ds[i] := List.getElem?_eq_getElem hlt
          obtain ⟨go, yl⟩ := wg i _ hd
          refine ⟨go, _, fun H' q => ⟨ds.length - (i + 1), by omega, q⟩, fun x H' y => ?_⟩
          obtain ⟨same, rx⟩ := yl x H' y
          have ec' := ec.same same
          have evc' : Evo (fun a => O a ∨ a = p) H1' H' := evc.trans (Evo.all same)
          have rl' := ec.rpL (O := O) (Evo.all same) rl
          have hpc' := same p _ hpc
          rw [List.drop_eq_getElem_cons hlt] at lgc
          unfold lcGo at lgc
          cases fx : f ds[i] ρc with
          | none => rw [fx] at lgc; cases lgc
          | some ρa =>
            rw [fx] at lgc
            refine ⟨Plus C p, O, ad, io, ρc, ds[i], ρa, hS, ec', rx, fx, fun σ2 e2 ⟨hl2, hj2⟩ => ?_⟩
            have hw : wipe σ2 S = wipe σ S := (wipe_congr hl2 hj2).trans (wipe_wipe σ S)
            refine ⟨hw, Plus C p, O, ad, io, ρa, e2, ?_⟩
            obtain ⟨b, ρb, hb, lgc⟩ := bind_ok lgc
            rw [hb]
            intro b' H3 ev3 e3 rb
            have rb : b' = b := rb
            subst rb
            cases b' with
            | false =>
              rw [if_neg Bool.false_ne_true]
              have e3' := e3.wipe hS
              rw [hw] at e3'
              exact ⟨rfl, hlt, wipeE ρb S, acc, vs, e3', evc'.trans (ev3.mono fun _ q => .inl q), ev3.k p _ hpc' hpO rfl, Nat.le_succ_of_le hvs, e2.rpL ev3 rl', lgc⟩
            | true =>
              rw [if_pos rfl]
              obtain ⟨y, ρy, hy, lgc⟩ := bind_ok lgc
              refine ⟨Plus C p, O, ad, io, ρb, e3, ?_⟩
              rw [hy]
              intro v H4 ev4 e4 rv
              have hp4 : H4 p = some (.lst vs) := ev4.k p _ (ev3.k p _ hpc' hpO rfl) hpO rfl
              refine ⟨vs, hp4, by omega, rfl, hlt, wipeE ρy S, acc ++ [y], vs ++ [v], ?_, ?_, upd_same, by rw [List.length_append]; simp; omega, ?_, lgc⟩
              · have e5 := (e4.writeC (vs := vs ++ [v]) (.inr rfl) hp4).wipe hS
                rw [hw] at e5
                exact e5
              · exact ((evc'.trans (ev3.mono fun _ q => .inl q)).trans (ev4.mono fun _ q => .inl q)).trans (Evo.write (.inr rfl) hp4)
              · have r4 := (e3.rpL ev4 (e2.rpL ev3 rl')).append (.cons rv .nil)
                exact r4.evo (O := fun a => a = p) (Evo.write rfl hp4) (fun a q => ⟨vs, by rw [q]; exact hp4⟩) fun a q => .inl (.inr q)
        · refine .inl ⟨ws i (by omega), ?_⟩
          rw [List.drop_eq_nil_of_le (by omega)] at lgc
          unfold lcGo at lgc
          cases lgc
          refine h (.ref p) Hc (ev1.trans (evO evc)) ⟨p, vs, rfl, ev1.free en1.ow hp, hpc, by omega, ?_, rl⟩
          refine EnvOk.back hS (fun j d hd => ?_) en1.len ec
          obtain ⟨v, q1, q2⟩ := e1.val j d hd
          exact ⟨v, q1, q2.evo evc ow1 fun a q => q.elim .inr fun z => .inl (.inr z)⟩
end
end DL
set_option Elab.async false
set_option linter.all false
set_option maxRecDepth 100000
set_option maxHeartbeats 1000000
namespace DL
open PySem PySem.Spec L2

def forGo (f : MG) (mb : MS) : List D → En → RS
  | [], ρ => .nx ρ
  | x :: xs, ρ => match f x ρ with
    | none => .bad
    | some ρ1 => match mb ρ1 with
      | .nx ρ2 => forGo f mb xs ρ2
      | .ct ρ2 => forGo f mb xs ρ2
      | .bk ρ2 => .nx ρ2
      | r => r
def mFor (mi : MF) (f : MG) (mb : MS) : MS := fun ρ => (mi ρ).thenS fun ds ρ1 => forGo f mb ds ρ1
section
variable {X : Cx} {Ex : WX} {io : List Nat} {fr : Bool} {pos : Pos}
theorem ds_for {tg iter : Expr} {body : List Stmt} {mi : MF} {f : MG} {S : List Nat} {mb : MS} (hp : PassesOwn (model X.prog X.w) X.A X.env X.xe) (hc : X.calm = true) (hi : DI X Ex tg iter mi) (hg : DG X tg S f) (hS : ∀ i ∈ S, i ∉ io) (hb : DSs X Ex io fr body mb)
    (hs : ∀ x, foldedSetIterable iter X.env x = pure x := by intro _; rfl) : DS X Ex io fr (.For tg iter body [] pos) (mFor mi f mb) := by
  obtain ⟨wi, pi, ri⟩ := hi.run
  obtain ⟨tb, pb, rb⟩ := hb.run
  refine ⟨_, ps_for (g := gDG X.K X.mg S f) hp hc pi hg.pg pb hs, fun C O ad H σ ρ E en h => ?_⟩
  refine ri C O ad io H σ ρ _ en ?_
  unfold mFor at h
  unfold PostI
  cases z : mi ρ with
  | bad => rw [z] at h; exact h
  | exc c d ρ' =>
    rw [z] at h
    exact fun H' cls dx ev e er => h σ H' O cls dx (.of ev e) e er
  | ok ds ρ1 =>
    rw [z] at h
    intro J H1 ev1 en1 wk
    have h : PostS fr X.K X.mg Ex C O ad io H (forGo f mb ds ρ1) E := h
    have h := PostS.back (StepS.of ev1 en1) h
    obtain ⟨hzd, wk⟩ := wk
    refine ⟨fun i m σc Hc => m = ds.length - i ∧ i ≤ ds.length ∧ ∃ O' ρc, StepS O H1 O' Hc ∧ EnvOk X.K X.mg C O' ad io Hc σc ρc ∧ PostS fr X.K X.mg Ex C O' ad io Hc (forGo f mb (ds.drop i) ρc) E, ⟨ds.length, rfl, Nat.zero_le _, O, ρ1, .refl en1, en1, h⟩, ?_⟩
    rintro i m σc Hc ⟨hm, hi, O', ρc, st, ec, hh⟩
    obtain ⟨wg, ws⟩ := wk C O' Hc st.ev (fun a q => q.elim (fun z => .inl (.inl z)) fun z => (st.fr a z).imp .inr id) ec.wf
    by_cases hlt : i < ds.length
    · refine .inr ?_
      have hd : ds[i]? = some ds[i] := List.getElem?_eq_getElem hlt
      obtain ⟨go, yl⟩ := wg i _ hd
      refine ⟨go, _, fun σ' H' q => ⟨ds.length - (i + 1), by omega, q⟩, fun x H' y => ?_⟩
      obtain ⟨same, rx⟩ := yl x H' y
      have ec' := ec.same same
      have st' : StepS O' Hc O' H' := StepS.of (Evo.all same) ec'
      rw [List.drop_eq_getElem_cons hlt] at hh
      unfold forGo at hh
      cases fx : f ds[i] ρc with
      | none => rw [fx] at hh; exact hh.elim
      | some ρa =>
        rw [fx] at hh
        refine ⟨C, O', ad, io, ρc, ds[i], ρa, hS, ec', rx, fx, fun σ2 e2 _ => ?_⟩
        have hh := PostS.back st' hh
        refine rb C O' ad H' σ2 ρa _ e2 ?_
        dsimp only at hh
        cases mz : mb ρa with
        | nx ρ2 =>
          rw [mz] at hh
          exact fun σ' H3 O3 s3 e3 => ⟨rfl, hlt, O3, ρ2, (st.trans st').trans s3, e3, PostS.back s3 hh⟩
        | ct ρ2 =>
          rw [mz] at hh
          exact fun σ' H3 O3 s3 e3 => ⟨rfl, hlt, O3, ρ2, (st.trans st').trans s3, e3, PostS.back s3 hh⟩
        | bk ρ2 =>
          rw [mz] at hh
          exact fun σ' H3 O3 s3 e3 => hh σ' H3 O3 s3 e3
        | rt d ρ2 => rw [mz] at hh; exact hh
        | ex c d ρ2 => rw [mz] at hh; exact hh
        | bad => rw [mz] at hh; exact hh
    · refine .inl ⟨ws i (by omega), ?_⟩
      rw [List.drop_eq_nil_of_le (by omega)] at hh
      exact hh σc Hc O' (.refl ec) ec

/-! ### range, enumerate, zip -/
def rangeL (lo hi : Int) : List D := (List.range (hi - lo).toNat).map fun (k : Nat) => .int (lo + (k : Int))
theorem walks_range {K : PySem.W.Frag} {mg : Mg} {C O : AS} {H : Hp} {lo hi : Int} (hz : (hi - lo).toNat ≤ sizeLine) : Walks K mg C O H (Itr lo (hi - lo).toNat) (rangeL lo hi) := by
  have hl : (rangeL lo hi).length = (hi - lo).toNat := by unfold rangeL; rw [List.length_map, List.length_range]
  refine ⟨by rw [hl]; exact hz, fun C' O' H' ev hW w' => ⟨fun i d hd => ?_, fun i hi' => by rw [hl] at hi'; exact hi'⟩⟩
  have hlt : i < (hi - lo).toNat := by rw [← hl]; exact (List.getElem?_eq_some_iff.mp hd).1
  unfold rangeL at hd
  rw [List.getElem?_map, List.getElem?_range hlt] at hd
  cases hd
  refine ⟨hlt, fun x H2 ⟨e1, e2⟩ => ?_⟩
  subst e1 e2
  exact ⟨fun _ _ q => q, .int _⟩
def okR (i j : Int) : Prop := -(2 ^ 62) ≤ i ∧ i < 2 ^ 62 ∧ -(2 ^ 62) ≤ j ∧ j < 2 ^ 62 ∧ (j - i).toNat ≤ sizeLine
instance (i j : Int) : Decidable (okR i j) := by unfold okR; infer_instance
def rangeOf1 : List D → Option (List D)
  | [.int j] => if okR 0 j then some (rangeL 0 j) else none
  | _ => none
def rangeOf2 : List D → Option (List D)
  | [.int i, .int j] => if okR i j then some (rangeL i j) else none
  | _ => none
/-- what is told of the values of the arguments -/
def mArgI (g : List D → Option (List D)) (m : MA2) : MF := fun ρ => (m ρ).bind fun os ρ1 => match (valsO os).bind g with
  | some xs => .ok xs ρ1
  | none => .bad
theorem argI_run {C O : AS} {ad : Nat → Addr} {io : List Nat} {σ : St} {H : Hp} {ρ : En} {m : MA2} {g : List D → Option (List D)} {R : It → Hp → Prop} {Q : List V → Hp → Prop} (h : PostI X.K X.mg Ex C O ad io σ H (mArgI g m ρ) R)
    (k : ∀ ds xs ρ' vs H', Evo O H H' → EnvOk X.K X.mg C O ad io H' σ ρ' → RpL X.K X.mg H' (U C O) vs ds → g ds = some xs → (∀ J, Walks X.K X.mg C O H' J xs → R J H') → Q vs H') : Post (ROL X.K X.mg σ) X.K X.mg Ex C O ad io σ H (m ρ) Q := by
  refine PostI.bind h fun os ρ1 vs H1 ev1 en1 r1 h1 => ?_
  cases w : valsO os with
  | none => rw [w] at h1; exact h1.elim
  | some ds =>
    rw [w] at h1
    have h1 : PostI X.K X.mg Ex C O ad io σ H1 (match g ds with
      | some xs => .ok xs ρ1
      | none => .bad) R := h1
    cases q : g ds with
    | none => rw [q] at h1; exact h1.elim
    | some xs =>
      rw [q] at h1
      exact k ds xs ρ1 vs H1 ev1 en1 (r1.valsO w) q fun J wk => h1 J H1 Evo.refl en1 wk
theorem di_range1 {a : Expr} {m : MA2} {tg : Expr} {p : Pos} (hg : Gl X "range") (hm : X.mg "range" = none) (ha : DA2 X Ex [a] m) (hs : starEach [a] X.env = [(false, eval a X.env)] := by rfl) : DI X Ex tg (.Call (.Name "range" p) [a] [] pos) (mArgI rangeOf1 m) := by
  obtain ⟨t, pa, r⟩ := ha.run
  refine ⟨_, pi_range1 hg hm pa hs, fun C O ad io H σ ρ R en q => ?_⟩
  refine r C O ad io H σ ρ _ en (argI_run q fun ds xs ρ1 vs H1 ev1 en1 rl hh k => ?_)
  unfold rangeOf1 at hh
  split at hh
  · rename_i j
    split at hh
    · rename_i ok
      cases hh
      cases rl with
      | cons rd rr =>
        cases rr
        cases rd
        refine ⟨j, rfl, ok.2.2.1, ok.2.2.2.1, ?_⟩
        have e : j.toNat = (j - 0).toNat := by simp
        rw [e]
        exact k _ (walks_range ok.2.2.2.2)
    · cases hh
  · cases hh
theorem di_range2 {a b : Expr} {m : MA2} {tg : Expr} {p : Pos} (hg : Gl X "range") (hm : X.mg "range" = none) (ha : DA2 X Ex [a, b] m) (hs : starEach [a, b] X.env = [(false, eval a X.env), (false, eval b X.env)] := by rfl) (hs2 : starEach [b] X.env = [(false, eval b X.env)] := by rfl) : DI X Ex tg (.Call (.Name "range" p) [a, b] [] pos) (mArgI rangeOf2 m) := by
  obtain ⟨t, pa, r⟩ := ha.run
  refine ⟨_, pi_range2 hg hm pa hs hs2, fun C O ad io H σ ρ R en q => ?_⟩
  refine r C O ad io H σ ρ _ en (argI_run q fun ds xs ρ1 vs H1 ev1 en1 rl hh k => ?_)
  unfold rangeOf2 at hh
  split at hh
  · rename_i i j
    split at hh
    · rename_i ok
      cases hh
      cases rl with
      | cons rd rr =>
        cases rr with
        | cons rd2 rr =>
        cases rr
        cases rd
        cases rd2
        exact ⟨i, j, rfl, ⟨ok.1, ok.2.1, ok.2.2.1, ok.2.2.2.1⟩, k _ (walks_range ok.2.2.2.2)⟩
    · cases hh
  · cases hh
/-- pairs that are made while it is walked -/
theorem pair_rp {K : PySem.W.Frag} {mg : Mg} {H : Hp} {W : AS} {T : Addr} {x y : V} {a b : D} {O : AS} (hT : H T = none) (hx : Rp K mg H W x a) (hy : Rp K mg H W y b) (w : Wf H W) : (∀ b o, H b = some o → L2.upd H T (.tup [x, y]) b = some o) ∧ Rp K mg (L2.upd H T (.tup [x, y])) W (.ref T) (.tup [a, b]) := by
  have same : ∀ b o, H b = some o → L2.upd H T (.tup [x, y]) b = some o := fun b o h => by rw [upd_ne (ne_of_none h hT)]; exact h
  have ev : Evo W H (L2.upd H T (.tup [x, y])) := Evo.all same
  exact ⟨same, .tup (.inl (.inl upd_same)) (by show 2 ≤ sizeLine; decide) (.cons (hx.evo ev w fun _ h => h) (.cons (hy.evo ev w fun _ h => h) .nil))⟩
def zipL : List D → List D → List D
  | x :: xs, y :: ys => .tup [x, y] :: zipL xs ys
  | _, _ => []
theorem zipL_get : ∀ {xs ys : List D} {i : Nat} {d : D}, (zipL xs ys)[i]? = some d → ∃ a b, d = .tup [a, b] ∧ xs[i]? = some a ∧ ys[i]? = some b
  | x :: xs, y :: ys, 0, d, h => by simp [zipL] at h; exact ⟨x, y, h.symm, rfl, rfl⟩
  | x :: xs, y :: ys, i + 1, d, h => by
    simp only [zipL, List.getElem?_cons_succ] at h ⊢
    exact zipL_get h
  | [], _, _, _, h => by simp [zipL] at h
  | _ :: _, [], _, _, h => by simp [zipL] at h
theorem zipL_len : ∀ {xs ys : List D}, (zipL xs ys).length = min xs.length ys.length
  | x :: xs, y :: ys => by simp [zipL, zipL_len]
  | [], ys => by simp [zipL]
  | _ :: _, [] => by simp [zipL]
def zipOf : List D → Option (List D)
  | [.lst xs, .lst ys] => some (zipL xs ys)
  | [.tup xs, .tup ys] => some (zipL xs ys)
  | _ => none
theorem di_zip {a b : Expr} {m : MA2} {p tpos : Pos} {elts : List Expr} {kk : Nat} (hg : Gl X "zip") (hm : X.mg "zip" = none) (ha : DA2 X Ex [a, b] m)
    (hs : starEach [a, b] X.env = (false, eval a X.env) :: starEach [b] X.env := by rfl) (hpl : (backTo pos (starEach [b] X.env)).any (·.1) = false := by rfl) : DI X Ex (.Tuple elts kk tpos) (.Call (.Name "zip" p) [a, b] [] pos) (mArgI zipOf m) := by
  obtain ⟨t, pa, r⟩ := ha.run
  refine ⟨_, RZ.pi_zipA hg hm pa hs hpl, fun C O ad io H σ ρ R en q => ?_⟩
  refine r C O ad io H σ ρ _ en (argI_run q fun ds xs ρ1 vs H1 ev1 en1 rl hh k => ?_)
  unfold zipOf at hh
  split at hh
  · rename_i x1 y1
    cases hh
    cases rl with
    | cons rd rr =>
      cases rr with
      | cons rd2 rr =>
      cases rr
      cases rd with
      | lst g1 g2 g3 g4 =>
        cases rd2 with
        | lst k1 k2 k3 k4 =>
          refine ⟨_, _, _, _, rfl, .inl ⟨.inl g1, .inl k1, k _ ⟨by rw [zipL_len]; have := g4.length; omega, fun C' O' H' ev hW w' => ?_⟩⟩⟩
          have ow : ∀ b, O b → ∃ xs, H1 b = some (.lst xs) := fun b hb => en1.wf b (.inr hb)
          have h1 := Rd.evo g1 ev fun z => g3 (.inr z)
          have h2 := Rd.evo k1 ev fun z => k3 (.inr z)
          refine ⟨fun i d hd => ?_, fun i hi => ⟨_, _, .inl h1, .inl h2, by rw [g4.length, k4.length]; rw [zipL_len] at hi; omega⟩⟩
          obtain ⟨da, db, rfl, e1, e2⟩ := zipL_get hd
          obtain ⟨v1, hv1, r1⟩ := g4.get e1
          obtain ⟨v2, hv2, r2⟩ := k4.get e2
          refine ⟨⟨_, _, v1, v2, .inl h1, .inl h2, hv1, hv2⟩, fun x H2 ⟨T, x', y', ex, hT, eH, z1, z2⟩ => ?_⟩
          have z1 := z1 _ (.inl h1)
          have z2 := z2 _ (.inl h2)
          rw [hv1] at z1
          rw [hv2] at z2
          cases z1
          cases z2
          subst ex eH
          exact pair_rp (O := O') hT (r1.far ev ow hW) (r2.far ev ow hW) w'
  · rename_i x1 y1
    cases hh
    cases rl with
    | cons rd rr =>
      cases rr with
      | cons rd2 rr =>
      cases rr
      cases rd with
      | tup g1 g2 g4 =>
        cases rd2 with
        | tup k1 k2 k4 =>
          refine ⟨_, _, _, _, rfl, .inr ⟨g1, k1, k _ ⟨by rw [zipL_len]; have := g4.length; omega, fun C' O' H' ev hW w' => ?_⟩⟩⟩
          have ow : ∀ b, O b → ∃ xs, H1 b = some (.lst xs) := fun b hb => en1.wf b (.inr hb)
          have h1 := SqT.evo g1 ev ow
          have h2 := SqT.evo k1 ev ow
          refine ⟨fun i d hd => ?_, fun i hi => ⟨_, _, h1, h2, by rw [g4.length, k4.length]; rw [zipL_len] at hi; omega⟩⟩
          obtain ⟨da, db, rfl, e1, e2⟩ := zipL_get hd
          obtain ⟨v1, hv1, r1⟩ := g4.get e1
          obtain ⟨v2, hv2, r2⟩ := k4.get e2
          refine ⟨⟨_, _, v1, v2, h1, h2, hv1, hv2⟩, fun x H2 ⟨T, x', y', ex, hT, eH, z1, z2⟩ => ?_⟩
          have z1 := z1 _ h1
          have z2 := z2 _ h2
          rw [hv1] at z1
          rw [hv2] at z2
          cases z1
          cases z2
          subst ex eH
          exact pair_rp (O := O') hT (r1.far ev ow hW) (r2.far ev ow hW) w'
  · cases hh
def enumL (i : Nat) : List D → List D
  | [] => []
  | x :: xs => .tup [.int (i : Int), x] :: enumL (i + 1) xs
theorem enumL_get : ∀ {xs : List D} {k i : Nat} {d : D}, (enumL k xs)[i]? = some d → ∃ a, d = .tup [.int ((k + i : Nat) : Int), a] ∧ xs[i]? = some a
  | x :: xs, k, 0, d, h => by simp [enumL] at h; exact ⟨x, by rw [← h]; rfl, rfl⟩
  | x :: xs, k, i + 1, d, h => by
    simp only [enumL, List.getElem?_cons_succ] at h ⊢
    obtain ⟨a, e1, e2⟩ := enumL_get h
    refine ⟨a, ?_, e2⟩
    rw [e1]
    have : k + 1 + i = k + (i + 1) := by omega
    rw [this]
  | [], _, _, _, h => by simp [enumL] at h
theorem enumL_len : ∀ {xs : List D} {k : Nat}, (enumL k xs).length = xs.length
  | [], _ => rfl
  | x :: xs, k => congrArg Nat.succ (enumL_len (xs := xs) (k := k + 1))
def enumOf : List D → Option (List D)
  | [.lst xs] => some (enumL 0 xs)
  | _ => none
theorem di_enum {a : Expr} {m : MA2} {p tpos : Pos} {elts : List Expr} {kk : Nat} (hg : Gl X "enumerate") (hm : X.mg "enumerate" = none) (ha : DA2 X Ex [a] m)
    (hs : starEach [a] X.env = [(false, eval a X.env)] := by rfl) : DI X Ex (.Tuple elts kk tpos) (.Call (.Name "enumerate" p) [a] [] pos) (mArgI enumOf m) := by
  obtain ⟨t, pa, r⟩ := ha.run
  refine ⟨_, pi_enum hg hm pa hs, fun C O ad io H σ ρ R en q => ?_⟩
  refine r C O ad io H σ ρ _ en (argI_run q fun ds xs ρ1 vs H1 ev1 en1 rl hh k => ?_)
  unfold enumOf at hh
  split at hh
  · rename_i x1
    cases hh
    cases rl with
    | cons rd rr =>
      cases rr
      cases rd with
      | lst g1 g2 g3 g4 =>
        refine ⟨_, _, rfl, .inl g1, k _ ⟨by rw [enumL_len]; have := g4.length; omega, fun C' O' H' ev hW w' => ?_⟩⟩
        have ow : ∀ b, O b → ∃ xs, H1 b = some (.lst xs) := fun b hb => en1.wf b (.inr hb)
        have h1 := Rd.evo g1 ev fun z => g3 (.inr z)
        refine ⟨fun i d hd => ?_, fun i hi => ⟨_, .inl h1, by rw [g4.length]; rw [enumL_len] at hi; exact hi⟩⟩
        obtain ⟨da, rfl, e1⟩ := enumL_get hd
        obtain ⟨v1, hv1, r1⟩ := g4.get e1
        refine ⟨⟨_, v1, .inl h1, hv1⟩, fun x H2 ⟨T, x', ex, hT, eH, z1⟩ => ?_⟩
        have z1 := z1 _ (.inl h1)
        rw [hv1] at z1
        cases z1
        subst ex eH
        rw [show 0 + i = i by omega]
        exact pair_rp (O := O') hT (.int _) (r1.far ev ow hW) w'
  · cases hh
end
end DL
set_option Elab.async false
set_option linter.all false
set_option maxRecDepth 100000
set_option maxHeartbeats 1000000
namespace DL
open PySem PySem.Spec L2

section
variable {X : Cx} {Ex : WX} {io : List Nat} {fr : Bool} {pos : Pos}
/-! ### name = value -/
def mSet (i : Nat) (m : ME) : MS := fun ρ => (m ρ).thenS fun d ρ1 => .nx (ρ1.set i (.val d))
theorem ds_set {i : Nat} {x : Str} {e : Expr} {m : ME} {pos' : Pos} (hN : X.N.Nodup) (hi : X.N[i]? = some x) (hx : Loc X.env.scope x) (hio : i ∉ io) (he : DE X Ex e m) (hs : swapsWith e (some (.Name x pos')) pos.line X.env = pure false := by rfl) (hf : X.fn x = true ∨ X.env.scope.names.lookup x = some .local := by first | exact .inl rfl | exact .inr rfl | assumption) :
    DS X Ex io fr (.Assign [.Name x pos'] e pos) (mSet i m) := by
  obtain ⟨t, p, r⟩ := he.run
  refine ⟨_, ps_set hN hi hx p hs hf, fun C O ad H σ ρ E en h => ?_⟩
  refine r C O ad io H σ ρ _ en (PostS.expr (σ := σ) h fun d ρ1 v H1 ev1 en1 r1 h1 => ?_)
  exact h1 _ H1 O (.refl (en1.setVal r1 hio)) (en1.setVal r1 hio)
/-- name = a new list, the def's own -/
def mSetF (i : Nat) (m : MF) : MS := fun ρ => (m ρ).thenS fun xs ρ1 => if i < ρ1.length then .nx (ρ1.set i (.own xs)) else .bad
theorem NewL.own {K : PySem.W.Frag} {mg : Mg} {C O : AS} {ad : Nat → Addr} {H H' : Hp} {σ : St} {ρ' : En} {v : V} {xs : List D} (n : NewL K mg C O ad io H H' σ ρ' v xs) (w : Wf H (U C O)) (ev : Evo O H H') (ow : ∀ a, O a → H a ≠ none) {i : Nat} (hi : i ∉ io) (hl : i < ρ'.length) :
    ∃ O', StepS O H O' H' ∧ EnvOk K mg C O' ad io H' (σ.set i (some v)) (ρ'.set i (.own xs)) := by
  obtain ⟨a, vs, rfl, h0, h1, h2, h3, h4⟩ := n
  have nC : ¬ C a := fun z => by
    obtain ⟨us, q⟩ := w a (.inl z)
    rw [h0] at q; cases q
  have e := h3.setOwn h4 h1 h2 nC hi hl
  exact ⟨_, ⟨ev, fun b hb => hb.imp id fun (z : b = a) => by rw [z]; exact h0, fun b hb => own_there e b (.inl hb)⟩, e⟩
theorem setF_run {C O : AS} {ad : Nat → Addr} {H : Hp} {σ : St} {ρ : En} {i : Nat} {m : MF} {E : Ends} (hio : i ∉ io) (en : EnvOk X.K X.mg C O ad io H σ ρ) (h : PostS fr X.K X.mg Ex C O ad io H (mSetF i m ρ) E) : PostF X.K X.mg Ex C O ad io σ H (m ρ) fun v H1 => E.nx (σ.set i (some v)) H1 := by
  refine PostS.exprF (σ := σ) h fun xs ρ1 v H1 ev1 n h1 => ?_
  split at h1
  · rename_i hl
    obtain ⟨O', st, e⟩ := n.own en.wf ev1 (own_there en) hio hl
    exact h1 _ H1 O' st e
  · exact h1.elim
theorem ds_setF {i : Nat} {x : Str} {e : Expr} {m : MF} {pos' : Pos} (hN : X.N.Nodup) (hi : X.N[i]? = some x) (hx : Loc X.env.scope x) (hio : i ∉ io) (he : DF X Ex e m) (hs : swapsWith e (some (.Name x pos')) pos.line X.env = pure false := by rfl) (hf : X.fn x = true ∨ X.env.scope.names.lookup x = some .local := by first | exact .inl rfl | exact .inr rfl | assumption) :
    DS X Ex io fr (.Assign [.Name x pos'] e pos) (mSetF i m) := by
  obtain ⟨t, p, r⟩ := he.run
  exact ⟨_, ps_set hN hi hx p hs hf, fun C O ad H σ ρ E en h => r C O ad io H σ ρ _ en (setF_run hio en h)⟩
/-- name = [..] -/
theorem ds_setLcF {i : Nat} {y : Str} {py : Pos} {spos : Pos} {elt tg iter : Expr} {ifs : List Expr} {scope : Scope} {own : List (Str × Nat)} {mi : MF} {f : MG} {S : List Nat} {mt : MT} {me : ME} (hc : X.calm = true) (hN : X.N.Nodup) (hy : X.N[i]? = some y) (hyl : X.env.scope.names.lookup y = some .local) (hio : i ∉ io)
    (hsw : swapsWith (.ListComp elt [⟨tg, iter, ifs, 0⟩] scope pos) (some (.Name y py)) spos.line X.env = pure true) (hi : DI X Ex tg iter mi) (ok : BlkOk X.N X.env.scope scope own) (hSo : own.map (·.2) = S)
    (hg : ∀ (s : Shared) (H : Hp) (C : Addr) (cl : List (Str × Addr)) (fp : List Addr), DG (X.blk s H scope (compEnvC scope cl C X.env) fp) tg S f)
    (ht : ∀ (s : Shared) (H : Hp) (C : Addr) (cl : List (Str × Addr)) (fp : List Addr), DQ (X.blk s H scope (compEnvC scope cl C X.env) fp) ifs mt)
    (he : ∀ (s : Shared) (H : Hp) (C : Addr) (cl : List (Str × Addr)) (fp : List Addr), DE (X.blk s H scope (compEnvC scope cl C X.env) fp) NoX elt me)
    (hs : ∀ x, foldedSetIterable iter X.env x = pure x := by intro _; rfl) : DS X Ex io fr (.Assign [.Name y py] (.ListComp elt [⟨tg, iter, ifs, 0⟩] scope pos) spos) (mSetF i (mLc mi f S mt me)) := by
  subst hSo
  obtain ⟨wi, pi, ri⟩ := hi.run
  refine ⟨_, ps_setLc (g := gDG X.K X.mg (own.map (·.2)) f) (tt := tDT X.K X.mg NoX mt) (te := tDE X.K X.mg NoX me) hc hN hy hyl hsw pi ok (fun s H C cl fp => (hg s H C cl fp).pg) (fun s H C cl fp => (ht s H C cl fp).run) (fun s H C cl fp => (he s H C cl fp).pe) hs, fun C O ad H σ ρ E en h => ?_⟩
  exact df_lc.lcR C O ad io H σ ρ _ en (setF_run hio en h) ri
/-! ### an own list is given out of hand -/
def pubE (i : Nat) (ρ : En) : En := match ρ[i]? with
  | some (.own xs) => ρ.set i (.val (.lst xs))
  | _ => ρ
theorem EnvOk.pubV {K : PySem.W.Frag} {mg : Mg} {C O : AS} {ad : Nat → Addr} {H : Hp} {σ : St} {ρ : En} (e : EnvOk K mg C O ad io H σ ρ) {i : Nat} (hi : i ∉ io) : ∃ O', (∀ a, O' a → O a) ∧ EnvOk K mg C O' ad io H σ (pubE i ρ) := by
  unfold pubE
  split
  case h_2 => exact ⟨O, fun _ h => h, e⟩
  rename_i xs h0
  obtain ⟨a, vs, hs, hO, q3, q4, q5⟩ := e.own i xs h0
  have hC : ¬ C a := fun z => e.dj a z hO
  have sub : ∀ b, U C (fun b => O b ∧ b ≠ a) b → U C O b := fun b h => h.imp id fun z => z.1
  refine ⟨fun b => O b ∧ b ≠ a, fun b h => h.1, by rw [List.length_set]; exact e.len, fun b h => e.wf b (sub b h), fun b h z => e.dj b h z.1, fun j x h => ?_, fun j ys h => ?_, fun j k ys zs b h1 h2 h3 h4 => ?_, fun j hj => ?_, e.tb⟩
  · rcases set_some h with ⟨rfl, h2, hl⟩ | ⟨ne, h2⟩
    · cases h2
      exact ⟨_, hs, .lst (.inl q3) q4 (fun z => z.elim hC fun z => z.2 rfl) (q5.sub sub)⟩
    · obtain ⟨u, h3, h4⟩ := e.val j x h2
      exact ⟨u, h3, h4.sub sub⟩
  · rcases set_some h with ⟨rfl, h2, hl⟩ | ⟨ne, h2⟩
    · cases h2
    · obtain ⟨b, us, h3, h4, h5, h6, h7⟩ := e.own j ys h2
      have nb : b ≠ a := fun z => by
        subst z
        exact ne (e.ne j i ys xs b h2 h0 h3 hs)
      exact ⟨b, us, h3, ⟨h4, nb⟩, h5, h6, h7.sub sub⟩
  · rcases set_some h1 with ⟨_, q, _⟩ | ⟨n1, h1⟩
    · cases q
    · rcases set_some h2 with ⟨_, q, _⟩ | ⟨n2, h2⟩
      · cases q
      · exact e.ne j k ys zs b h1 h2 h3 h4
  · have ne : j ≠ i := fun z => hi (z ▸ hj)
    obtain ⟨h1, ys, h2⟩ := e.ios j hj
    exact ⟨h1, ys, by rw [List.getElem?_set_ne (Ne.symm ne)]; exact h2⟩
def mPub (i : Nat) (m : MS) : MS := fun ρ => m (pubE i ρ)
theorem ds_pub {i : Nat} {st : Stmt} {m : MS} (hi : i ∉ io) (h : DS X Ex io fr st m) : DS X Ex io fr st (mPub i m) := by
  obtain ⟨t, p, r⟩ := h.run
  refine ⟨t, p, fun C O ad H σ ρ E en q => ?_⟩
  obtain ⟨O', sub, e⟩ := en.pubV hi
  exact r C O' ad H σ _ E e (PostS.back ⟨Evo.refl, fun a h => .inl (sub a h), own_there en⟩ q)
/-! ### unpacking -/
def mAsg (m : ME) (f : MG) : MS := fun ρ => (m ρ).thenS fun d ρ1 => match f d ρ1 with
  | some ρ2 => .nx ρ2
  | none => .bad
theorem ds_asg {tg e : Expr} {m : ME} {S : List Nat} {f : MG} (he : DE X Ex e m) (hg : DG X tg S f) (hS : ∀ i ∈ S, i ∉ io) (hs : swapsWithSole [tg] e pos.line X.env = pure false := by rfl) (hw : swappedStores [tg] e X.env = pure none := by rfl)
    (h1 : (assignEach [tg] X.env).map (·.2) = [assign tg X.env] := by rfl) : DS X Ex io fr (.Assign [tg] e pos) (mAsg m f) := by
  obtain ⟨t, p, r⟩ := he.run
  obtain ⟨g, pg, rg⟩ := hg.run
  refine ⟨_, ps_asg p pg hs hw h1, fun C O ad H σ ρ E en h => ?_⟩
  refine r C O ad io H σ ρ _ en (PostS.expr (σ := σ) h fun d ρ1 v H1 ev1 en1 r1 h1 => ?_)
  cases q : f d ρ1 with
  | none => rw [q] at h1; exact h1.elim
  | some ρ2 =>
    rw [q] at h1
    exact rg C O ad io H1 σ ρ1 v d ρ2 _ hS en1 r1 q fun σ' e' _ => h1 σ' H1 O (.refl e') e'
end

/-! ### several at once, new lists among them -/
inductive PV where
  | v (d : D) | f (xs : List D)
abbrev PlusL (C : AS) (news : List Addr) : AS := fun b => C b ∨ b ∈ news
inductive PRel (K : PySem.W.Frag) (mg : Mg) (H : Hp) (W : AS) : List Addr → List V → List PV → Prop
  | nil : PRel K mg H W [] [] []
  | v {news : List Addr} {v : V} {d : D} {vs : List V} {ps : List PV} : Rp K mg H W v d → PRel K mg H W news vs ps → PRel K mg H W news (v :: vs) (.v d :: ps)
  | f {news : List Addr} {a : Addr} {us : List V} {xs : List D} {vs : List V} {ps : List PV} : H a = some (.lst us) → us.length ≤ sizeLine → RpL K mg H W us xs → a ∉ news → PRel K mg H W news vs ps → PRel K mg H W (a :: news) (.ref a :: vs) (.f xs :: ps)
def PostP (K : PySem.W.Frag) (mg : Mg) (Ex : WX) (C O : AS) (ad : Nat → Addr) (io : List Nat) (σ : St) (H : Hp) (r : R (List PV)) (Q : List V → Hp → Prop) : Prop :=
  match r with
  | .ok ps ρ' => ∀ vs news H', Evo O H H' → (∀ a ∈ news, H a = none) → EnvOk K mg (PlusL C news) O ad io H' σ ρ' → PRel K mg H' (U (PlusL C news) O) news vs ps → Q vs H'
  | .exc c d ρ' => ∀ H' cls dx, Evo O H H' → EnvOk K mg C O ad io H' σ ρ' → ErrAt K mg H' (U C O) c d cls dx → Ex cls dx σ H'
  | .bad => False
structure DP (X : Cx) (Ex : WX) (es : List Expr) (m : En → R (List PV)) : Prop where
  run : ∃ t, PA X es t ∧ ∀ (C O : AS) (ad : Nat → Addr) (io : List Nat) (H : Hp) (σ : St) (ρ : En) (Q : List V → Hp → Prop), EnvOk X.K X.mg C O ad io H σ ρ → PostP X.K X.mg Ex C O ad io σ H (m ρ) Q → t σ H Q
theorem as_ext {A B : AS} (h : ∀ a, A a ↔ B a) : A = B := funext fun a => propext (h a)
section
variable {X : Cx} {Ex : WX} {io : List Nat} {fr : Bool} {pos : Pos}
theorem dp_nil : DP X Ex [] (fun ρ => .ok [] ρ) := ⟨_, pa_nil, fun C O ad io H σ ρ Q en h => h [] [] H Evo.refl (by simp) (by
  have e : PlusL C [] = C := as_ext fun a => by simp [PlusL]
  rw [e]; exact en) .nil⟩
def mpV (m : ME) (r : En → R (List PV)) : En → R (List PV) := fun ρ => (m ρ).bind fun d ρ1 => (r ρ1).bind fun ps ρ2 => .ok (.v d :: ps) ρ2
def mpF (m : MF) (r : En → R (List PV)) : En → R (List PV) := fun ρ => (m ρ).bind fun d ρ1 => (noExc (r ρ1)).bind fun ps ρ2 => .ok (.f d :: ps) ρ2
theorem dp_v {e : Expr} {es : List Expr} {m : ME} {r : En → R (List PV)} (he : DE X Ex e m) (hr : DP X Ex es r) (hs : starEach (e :: es) X.env = (false, eval e X.env) :: starEach es X.env := by rfl) : DP X Ex (e :: es) (mpV m r) := by
  obtain ⟨t, p, q⟩ := he.run
  obtain ⟨t2, p2, q2⟩ := hr.run
  refine ⟨_, pa_cons p p2 hs, fun C O ad io H σ ρ Q en h => ?_⟩
  refine q C O ad io H σ ρ _ en ?_
  unfold mpV at h
  unfold Post
  cases z : m ρ with
  | bad => rw [z] at h; exact h
  | exc c d ρ' => rw [z] at h; exact h
  | ok d ρ1 =>
    rw [z] at h
    intro v H1 ev1 en1 r1
    refine q2 C O ad io H1 σ ρ1 _ en1 ?_
    have h : PostP X.K X.mg Ex C O ad io σ H ((r ρ1).bind fun ps ρ2 => .ok (.v d :: ps) ρ2) Q := h
    unfold PostP
    cases z2 : r ρ1 with
    | bad => rw [z2] at h; exact h
    | exc c d ρ' => rw [z2] at h; exact fun H' cls dx ev e er => h H' cls dx (ev1.trans ev) e er
    | ok ps ρ2 =>
      rw [z2] at h
      intro vs news H2 ev2 hn en2 pr
      refine h (v :: vs) news H2 (ev1.trans ev2) (fun a ha => ev1.free en1.ow (hn a ha)) en2 (.v ?_ pr)
      refine r1.far ev2 en1.ow fun a q => ?_
      rcases q with (q | q) | q
      · exact .inl (.inl q)
      · exact .inr (hn a q)
      · exact .inl (.inr q)
theorem dp_f {e : Expr} {es : List Expr} {m : MF} {r : En → R (List PV)} (he : DF X Ex e m) (hr : DP X NoX es r) (hs : starEach (e :: es) X.env = (false, eval e X.env) :: starEach es X.env := by rfl) : DP X Ex (e :: es) (mpF m r) := by
  obtain ⟨t, p, q⟩ := he.run
  obtain ⟨t2, p2, q2⟩ := hr.run
  refine ⟨_, pa_cons p p2 hs, fun C O ad io H σ ρ Q en h => ?_⟩
  refine q C O ad io H σ ρ _ en ?_
  unfold mpF at h
  unfold PostF
  cases z : m ρ with
  | bad => rw [z] at h; exact h
  | exc c d ρ' => rw [z] at h; exact h
  | ok xs ρ1 =>
    rw [z] at h
    rintro v H1 ev1 ⟨a, us, rfl, h0, h1, hz, en1, rl⟩
    refine q2 (Plus C a) O ad io H1 σ ρ1 _ en1 ?_
    have h : PostP X.K X.mg Ex C O ad io σ H ((noExc (r ρ1)).bind fun ps ρ2 => .ok (.f xs :: ps) ρ2) Q := h
    unfold PostP
    cases z2 : r ρ1 with
    | bad => rw [z2] at h; exact h.elim
    | exc c d ρ' => rw [z2] at h; exact h.elim
    | ok ps ρ2 =>
      rw [z2] at h
      intro vs news H2 ev2 hn en2 pr
      have eP : PlusL (Plus C a) news = PlusL C (a :: news) := as_ext fun b => by simp [PlusL, Plus, or_assoc]
      rw [eP] at en2 pr
      have hnO : ¬ O a := en1.dj a (.inr rfl)
      have han : a ∉ news := fun z => by
        have := hn a z
        rw [h1] at this; cases this
      refine h (.ref a :: vs) (a :: news) H2 (ev1.trans ev2) (fun b hb => ?_) en2 (.f (ev2.k a _ h1 hnO rfl) hz ?_ han pr)
      · rcases List.mem_cons.mp hb with e | hb
        · rw [e]; exact h0
        · exact ev1.free en1.ow (hn b hb)
      · have far : ∀ b, U (PlusL C (a :: news)) O b → U (Plus C a) O b ∨ H1 b = none := fun b q => by
          rcases q with (q | q) | q
          · exact .inl (.inl (.inl q))
          · rcases List.mem_cons.mp q with e | q
            · exact .inl (.inl (.inr e))
            · exact .inr (hn b q)
          · exact .inl (.inr q)
        have key : ∀ {us : List V} {xs : List D}, RpL X.K X.mg H1 (U (Plus C a) O) us xs → RpL X.K X.mg H2 (U (PlusL C (a :: news)) O) us xs := by
          intro us
          induction us with
          | nil => intro xs h; cases h; exact .nil
          | cons u us ih =>
            intro xs h
            cases h with
            | cons h1 h2 => exact .cons (h1.far ev2 en1.ow far) (ih h2)
        exact key rl
/-- stored from the left -/
def setP : List Nat → List PV → En → Option En
  | [], [], ρ => some ρ
  | i :: is, .v d :: ps, ρ => setP is ps (ρ.set i (.val d))
  | i :: is, .f xs :: ps, ρ => if i < ρ.length then setP is ps (ρ.set i (.own xs)) else none
  | _, _, _ => none
def setV : List Nat → List V → St → St
  | i :: is, v :: vs, σ => setV is vs (σ.set i (some v))
  | _, _, σ => σ
theorem setP_ok {K : PySem.W.Frag} {mg : Mg} {ad : Nat → Addr} {H : Hp} {C : AS} : ∀ {is : List Nat} {vs : List V} {ps : List PV} {news : List Addr} {O : AS} {σ : St} {ρ ρ' : En}, EnvOk K mg (PlusL C news) O ad io H σ ρ → PRel K mg H (U (PlusL C news) O) news vs ps → (∀ a ∈ news, ¬ C a) → (∀ i ∈ is, i ∉ io) → setP is ps ρ = some ρ' →
    ∃ O', (∀ a, O' a → O a ∨ a ∈ news) ∧ (∀ a, O a → O' a) ∧ EnvOk K mg C O' ad io H (setV is vs σ) ρ' := by
  intro is
  induction is with
  | nil =>
    intro vs ps news O σ ρ ρ' en pr hC hi h
    cases ps with
    | nil =>
      cases h
      cases pr
      have e : PlusL C [] = C := as_ext fun a => by simp [PlusL]
      rw [e] at en
      exact ⟨O, fun _ h => .inl h, fun _ h => h, en⟩
    | cons p ps => simp [setP] at h
  | cons i is ih =>
    intro vs ps news O σ ρ ρ' en pr hC hi h
    have hi0 := hi i List.mem_cons_self
    have hi1 : ∀ j ∈ is, j ∉ io := fun j hj => hi j (List.mem_cons_of_mem _ hj)
    cases pr with
    | nil => simp [setP] at h
    | v r pr => exact ih (en.setVal r hi0) pr hC hi1 h
    | f h1 hz rl hn pr =>
      rename_i news a us xs vs ps
      unfold setP at h
      split at h
      · rename_i hl
        have eP : PlusL C (a :: news) = Plus (PlusL C news) a := as_ext fun b => by
          simp only [PlusL, Plus, List.mem_cons]
          constructor
          · rintro (h | h | h)
            · exact .inl (.inl h)
            · exact .inr h
            · exact .inl (.inr h)
          · rintro ((h | h) | h)
            · exact .inl h
            · exact .inr (.inr h)
            · exact .inr (.inl h)
        rw [eP] at en pr rl
        have nC : ¬ PlusL C news a := fun z => z.elim (hC a List.mem_cons_self) hn
        have e1 := en.setOwn rl h1 hz nC hi0 hl
        have eU : U (Plus (PlusL C news) a) O = U (PlusL C news) (Plus O a) := as_ext fun b => (plusU b).trans (plusO b).symm
        rw [eU] at pr
        obtain ⟨O', q1, q2, q3⟩ := ih e1 pr (fun b hb => hC b (List.mem_cons_of_mem _ hb)) hi1 h
        refine ⟨O', fun b hb => ?_, fun b hb => q2 b (.inl hb), q3⟩
        rcases q1 b hb with (z | z) | z
        · exact .inl z
        · exact .inr (z ▸ List.mem_cons_self)
        · exact .inr (List.mem_cons_of_mem _ z)
      · cases h
theorem PRel.len {K : PySem.W.Frag} {mg : Mg} {H : Hp} {W : AS} : ∀ {news : List Addr} {vs : List V} {ps : List PV}, PRel K mg H W news vs ps → vs.length = ps.length
  | _, _, _, .nil => rfl
  | _, _, _, .v _ t => congrArg Nat.succ t.len
  | _, _, _, .f _ _ _ _ t => congrArg Nat.succ t.len
theorem PostP.mono {K : PySem.W.Frag} {mg : Mg} {C O : AS} {ad : Nat → Addr} {io : List Nat} {σ : St} {H : Hp} {r : R (List PV)} {Q Q' : List V → Hp → Prop} (h : PostP K mg Ex C O ad io σ H r Q) (k : ∀ vs H, Q vs H → Q' vs H) : PostP K mg Ex C O ad io σ H r Q' := by
  unfold PostP at h ⊢
  cases r with
  | ok ps ρ' => exact fun vs news H' a b c d => k _ _ (h vs news H' a b c d)
  | exc c d ρ' => exact h
  | bad => exact h
def mPar (is : List Nat) (m : En → R (List PV)) : MS := fun ρ => (m ρ).thenS fun ps ρ1 => match setP is ps ρ1 with
  | some ρ2 => .nx ρ2
  | none => .bad
theorem par_run {C O : AS} {ad : Nat → Addr} {H : Hp} {σ : St} {ρ : En} {is : List Nat} {m : En → R (List PV)} {E : Ends} (hio : ∀ i ∈ is, i ∉ io) (en : EnvOk X.K X.mg C O ad io H σ ρ) (h : PostS fr X.K X.mg Ex C O ad io H (mPar is m ρ) E) :
    PostP X.K X.mg Ex C O ad io σ H (m ρ) fun vs H1 => vs.length = is.length ∧ E.nx (setV is vs σ) H1 := by
  unfold mPar at h
  unfold PostP
  cases z : m ρ with
  | bad => rw [z] at h; exact h
  | exc c d ρ' => rw [z] at h; exact fun H' cls dx ev e er => h σ H' O cls dx (.of ev e) e er
  | ok ps ρ1 =>
    rw [z] at h
    intro vs news H1 ev1 hn en1 pr
    have h : PostS fr X.K X.mg Ex C O ad io H (match setP is ps ρ1 with
      | some ρ2 => .nx ρ2
      | none => .bad) E := h
    cases w : setP is ps ρ1 with
    | none => rw [w] at h; exact h.elim
    | some ρ2 =>
      rw [w] at h
      have lenP : ∀ {is : List Nat} {ps : List PV} {ρ ρ' : En}, setP is ps ρ = some ρ' → ps.length = is.length := by
        intro is
        induction is with
        | nil => intro ps ρ ρ' h; cases ps with
          | nil => rfl
          | cons p ps => simp [setP] at h
        | cons i is ih =>
          intro ps ρ ρ' h
          cases ps with
          | nil => simp [setP] at h
          | cons p ps =>
            cases p with
            | v d => rw [List.length_cons, List.length_cons, ih h]
            | f xs =>
              unfold setP at h
              split at h
              · rw [List.length_cons, List.length_cons, ih h]
              · cases h
      have lenR : vs.length = ps.length := pr.len
      refine ⟨lenR.trans (lenP w), ?_⟩
      have hC : ∀ a ∈ news, ¬ C a := fun a ha z => by
        obtain ⟨us, q⟩ := en.wf a (.inl z)
        rw [hn a ha] at q; cases q
      obtain ⟨O', q1, q2, q3⟩ := setP_ok en1 pr hC hio w
      exact h _ H1 O' ⟨ev1, fun b hb => (q1 b hb).imp id (hn b), fun b hb => own_there q3 b (q2 b hb)⟩ q3
theorem ds_par {i j : Nat} {x y : Str} {a b : Expr} {m : En → R (List PV)} {px py pt : Pos} {kt k2 pt2} (hc : X.calm = true) (hN : X.N.Nodup) (hi : X.N[i]? = some x) (hj : X.N[j]? = some y) (hij : i ≠ j) (hio : ∀ k ∈ [i, j], k ∉ io)
    (hx : X.env.scope.names.lookup x = some .local) (hy : X.env.scope.names.lookup y = some .local) (ha : DP X Ex [a, b] m)
    (hw : swappedStores [.Tuple [.Name x px, .Name y py] kt pt] (.Tuple [a, b] k2 pt2) X.env = pure (some [x, y]))
    (hs : swapsWithSole [.Tuple [.Name x px, .Name y py] kt pt] (.Tuple [a, b] k2 pt2) pos.line X.env = pure false := by rfl) :
    DS X Ex io fr (.Assign [.Tuple [.Name x px, .Name y py] kt pt] (.Tuple [a, b] k2 pt2) pos) (mPar [i, j] m) := by
  obtain ⟨t, p, r⟩ := ha.run
  refine ⟨_, ps_par hc hN hi hj hij hx hy p hw hs, fun C O ad H σ ρ E en h => ?_⟩
  have q := par_run (σ := σ) hio en h
  refine r C O ad io H σ ρ _ en ?_
  refine PostP.mono q fun vs H1 ⟨hl, hh⟩ => ?_
  match vs, hl with
  | [v, w], _ => exact ⟨v, w, rfl, hh⟩
theorem ds_par3 {i j l : Nat} {x y z : Str} {a b c : Expr} {m : En → R (List PV)} {px py pz pt : Pos} {kt k2 pt2} (hc : X.calm = true) (hN : X.N.Nodup) (hi : X.N[i]? = some x) (hj : X.N[j]? = some y) (hl : X.N[l]? = some z) (hij : i ≠ j) (hil : i ≠ l) (hjl : j ≠ l) (hio : ∀ k ∈ [i, j, l], k ∉ io)
    (hx : X.env.scope.names.lookup x = some .local) (hy : X.env.scope.names.lookup y = some .local) (hz : X.env.scope.names.lookup z = some .local) (ha : DP X Ex [a, b, c] m)
    (hw : swappedStores [.Tuple [.Name x px, .Name y py, .Name z pz] kt pt] (.Tuple [a, b, c] k2 pt2) X.env = pure (some [x, y, z]))
    (hs : swapsWithSole [.Tuple [.Name x px, .Name y py, .Name z pz] kt pt] (.Tuple [a, b, c] k2 pt2) pos.line X.env = pure false := by rfl) :
    DS X Ex io fr (.Assign [.Tuple [.Name x px, .Name y py, .Name z pz] kt pt] (.Tuple [a, b, c] k2 pt2) pos) (mPar [i, j, l] m) := by
  obtain ⟨t, p, r⟩ := ha.run
  refine ⟨_, ps_par3 hc hN hi hj hl hij hil hjl hx hy hz p hw hs, fun C O ad H σ ρ E en h => ?_⟩
  have q := par_run (σ := σ) hio en h
  refine r C O ad io H σ ρ _ en ?_
  refine PostP.mono q fun vs H1 ⟨hl, hh⟩ => ?_
  match vs, hl with
  | [u, v, w], _ => exact ⟨u, v, w, rfl, hh⟩
end
end DL
set_option Elab.async false
set_option linter.all false
set_option maxRecDepth 100000
set_option maxHeartbeats 1000000
namespace DL
open PySem PySem.Spec L2

def ownAt (ρ : En) (i : Nat) : Option (List D) := match ρ[i]? with
  | some (.own xs) => some xs
  | _ => none
theorem ownAt_some {ρ : En} {i : Nat} {xs : List D} (h : ownAt ρ i = some xs) : ρ[i]? = some (.own xs) := by
  unfold ownAt at h
  split at h
  · rename_i ys e
    cases h
    exact e
  · cases h
section
variable {X : Cx} {Ex : WX} {io : List Nat} {fr : Bool} {apos cpos pos p : Pos} {i : Nat} {x : Str}
def addTo (i : Nat) (ds : List D) (ρ : En) : R D := match ownAt ρ i with
  | some xs => if xs.length + ds.length ≤ sizeLine then .ok .non (ρ.set i (.own (xs ++ ds))) else .bad
  | none => .bad
def mAppend (i : Nat) (m : ME) : ME := fun ρ => match ownAt ρ i with
  | some _ => (m ρ).bind fun d ρ1 => addTo i [d] ρ1
  | none => .bad
theorem own_at {K : PySem.W.Frag} {mg : Mg} {C O : AS} {ad : Nat → Addr} {H : Hp} {σ : St} {ρ : En} (e : EnvOk K mg C O ad io H σ ρ) {xs : List D} (h : ownAt ρ i = some xs) : ∃ (a : Addr) (vs : List V), σ[i]? = some (some (V.ref a)) ∧ O a ∧ H a = some (HO.lst vs) ∧ vs.length ≤ sizeLine ∧ RpL K mg H (U C O) vs xs := e.own i xs (ownAt_some h)
theorem de_append {e : Expr} {m : ME} (hN : X.N[i]? = some x) (hv : Vis X.env.scope x) (he : DE X Ex e m) (hd : (x == ("__debug__" : Str)) = false := by decide) (hcd : (x == ("__classdict__" : Str)) = false := by decide)
    (hfew : ((backTo cpos (starEach [e] X.env)).all (fun x => !x.1) && (backToKw cpos (keywordEach [] X.env)).all (fun x => x.1.isSome)
      && decide (([e] : List Expr).length + ([] : List Keyword).length + (if ([] : List Keyword).isEmpty then 0 else 1) < 30)) = true := by rfl)
    (hline : (apos.endLine == cpos.line) = true := by rfl) (hs : starEach [e] X.env = (false, eval e X.env) :: starEach [] X.env := by rfl) (hplain : (backTo cpos (starEach [] X.env)).any (·.1) = false := by rfl) (hbase : attributeBase (.Name x p) "append" X.env (eval (.Name x p) X.env) = eval (.Name x p) X.env := by rfl) :
    DE X Ex (.Call (.Attribute (.Name x p) "append" apos) [e] [] cpos) (mAppend i m) := by
  obtain ⟨t, pe, r⟩ := he.run
  refine ⟨_, pe_bm PySem.F.plainAttrs_list PySem.F.slot_list_append PySem.F.type_list_append mt_append (pe_var hN hv hd hcd) (pa_cons pe pa_nil hs) hbase hfew hline hs hplain, fun C O ad io H σ ρ Q en h => ?_⟩
  unfold mAppend at h
  cases q : ownAt ρ i with
  | none => rw [q] at h; exact h.elim
  | some xs0 =>
    rw [q] at h
    obtain ⟨a, vs0, h1, hO, h3, h4, h5⟩ := own_at en q
    refine ⟨.ref a, h1, .inl ⟨rfl, vs0, .inl (.inl h3)⟩, ?_⟩
    refine r C O ad io H σ ρ _ en (Post.bind h fun d ρ1 v H1 _ ev1 en1 r1 h2 => ?_)
    unfold addTo at h2
    cases q2 : ownAt ρ1 i with
    | none => rw [q2] at h2; exact h2.elim
    | some xs =>
      rw [q2] at h2
      obtain ⟨a', vs, k1, k2, k3, k4, k5⟩ := own_at en1 q2
      rw [h1] at k1
      cases k1
      dsimp only at h2
      split at h2
      · rename_i hz
        have hl := k5.length
        have hz' : vs.length < sizeLine := by simp at hz; omega
        refine ⟨a, vs, v, rfl, rfl, k3, hz', ?_⟩
        have ev2 : Evo O H1 (upd H1 a (.lst (vs ++ [v]))) := Evo.write k2 k3
        exact h2 _ _ ev2 (en1.putOwn (ownAt_some q2) h1 (k5.append (.cons r1 .nil)) (by rw [List.length_append]; exact hz')) .non
      · exact h2.elim

/-- xs.extend(ys), ys a list that is read -/
def rExtD (K : PySem.W.Frag) : V → List V → Hp → VK → Prop := fun x vs H Q => ∃ l b xs zs, x = .ref l ∧ vs = [.ref b] ∧ H l = some (.lst xs) ∧ Rd H b (.lst zs) ∧ xs.length + zs.length ≤ sizeLine ∧ Q .non (upd H l (.lst (xs ++ zs)))
theorem mt_extD : MtM X "list.extend" (rExtD X.K) := by
  intro pins s σ H x vs v us Q I rx rv h
  obtain ⟨l, b, xs, zs, rfl, rfl, hH, hB, hz, q⟩ := h
  cases rx
  obtain ⟨u, rfl, ru⟩ := rv.one
  cases ru
  obtain ⟨z, its, n, r, hl, e⟩ := I.lstM hH
  obtain ⟨z2, its2, n2, r2, e2⟩ := hB.ok I.hok
  have hl2 := r2.length
  have hsz : its.toArray.size + its2.toArray.size ≤ sizeLine := by rw [List.size_toArray, List.size_toArray]; omega
  have hlong : ¬ (!its.toArray.isEmpty && Builtin.List.listTooLong (its.toArray.size + its2.toArray.size)) = true := by
    rw [notLongL hsz, Bool.and_false]
    exact Bool.false_ne_true
  refine call_meets F.slot_list_extend ⟨_, e, rfl⟩ F.entry_list_extend (F.args_list_extend_2 _ _)
    (AutoSeq1.list_extend_list_list_0 l its.toArray n b its2.toArray n2 hlong (by rw [List.size_toArray]; omega) (by omega)) ⟨e, e2, ?_⟩
  refine ⟨.non, _, I.lset (its' := its ++ its2) hH e (by simp) (r.append r2) ?_, rfl, q⟩
  rw [List.length_append]
  omega
def mExtend (i : Nat) (m : ME) : ME := fun ρ => match ownAt ρ i with
  | some _ => (m ρ).bind fun d ρ1 => match d with
    | .lst ds => addTo i ds ρ1
    | _ => .bad
  | none => .bad
theorem de_extend {e : Expr} {m : ME} (hN : X.N[i]? = some x) (hv : Vis X.env.scope x) (he : DE X Ex e m) (hd : (x == ("__debug__" : Str)) = false := by decide) (hcd : (x == ("__classdict__" : Str)) = false := by decide)
    (hfew : ((backTo cpos (starEach [e] X.env)).all (fun x => !x.1) && (backToKw cpos (keywordEach [] X.env)).all (fun x => x.1.isSome)
      && decide (([e] : List Expr).length + ([] : List Keyword).length + (if ([] : List Keyword).isEmpty then 0 else 1) < 30)) = true := by rfl)
    (hline : (apos.endLine == cpos.line) = true := by rfl) (hs : starEach [e] X.env = (false, eval e X.env) :: starEach [] X.env := by rfl) (hplain : (backTo cpos (starEach [] X.env)).any (·.1) = false := by rfl) (hbase : attributeBase (.Name x p) "extend" X.env (eval (.Name x p) X.env) = eval (.Name x p) X.env := by rfl) :
    DE X Ex (.Call (.Attribute (.Name x p) "extend" apos) [e] [] cpos) (mExtend i m) := by
  obtain ⟨t, pe, r⟩ := he.run
  refine ⟨_, pe_bm PySem.F.plainAttrs_list PySem.F.slot_list_extend PySem.F.type_list_extend mt_extD (pe_var hN hv hd hcd) (pa_cons pe pa_nil hs) hbase hfew hline hs hplain, fun C O ad io H σ ρ Q en h => ?_⟩
  unfold mExtend at h
  cases q : ownAt ρ i with
  | none => rw [q] at h; exact h.elim
  | some xs0 =>
    rw [q] at h
    obtain ⟨a, vs0, h1, hO, h3, h4, h5⟩ := own_at en q
    refine ⟨.ref a, h1, .inl ⟨rfl, vs0, .inl (.inl h3)⟩, ?_⟩
    refine r C O ad io H σ ρ _ en (Post.bind h fun d ρ1 v H1 _ ev1 en1 r1 h2 => ?_)
    cases d with
    | lst ds =>
      cases r1 with
      | lst g1 g2 g3 g4 =>
        rename_i b ws
        dsimp only at h2
        unfold addTo at h2
        cases q2 : ownAt ρ1 i with
        | none => rw [q2] at h2; exact h2.elim
        | some xs =>
          rw [q2] at h2
          obtain ⟨a', vs, k1, k2, k3, k4, k5⟩ := own_at en1 q2
          rw [h1] at k1
          cases k1
          dsimp only at h2
          split at h2
          · rename_i hz
            have hl := k5.length
            have hl2 := g4.length
            have hz' : vs.length + ws.length ≤ sizeLine := by rw [hl, hl2]; exact hz
            refine ⟨a, b, vs, ws, rfl, rfl, k3, g1, hz', ?_⟩
            have ev2 : Evo O H1 (upd H1 a (.lst (vs ++ ws))) := Evo.write k2 k3
            exact h2 _ _ ev2 (en1.putOwn (ownAt_some q2) h1 (k5.append g4) (by rw [List.length_append]; exact hz')) .non
          · exact h2.elim
    | _ => exact h2.elim
/-- xs.pop() -/
def mPop (i : Nat) : ME := fun ρ => match ownAt ρ i with
  | some xs => match xs[xs.length - 1]? with
    | some d => .ok d (ρ.set i (.own xs.dropLast))
    | none => .bad
  | none => .bad
theorem RpL.dropLast {K : PySem.W.Frag} {mg : Mg} {H : Hp} {W : AS} {vs : List V} {ds : List D} (r : RpL K mg H W vs ds) : RpL K mg H W vs.dropLast ds.dropLast := by
  rw [List.dropLast_eq_take, List.dropLast_eq_take, r.length]
  exact r.take _
theorem de_pop (hN : X.N[i]? = some x) (hv : Vis X.env.scope x) (hd : (x == ("__debug__" : Str)) = false := by decide) (hcd : (x == ("__classdict__" : Str)) = false := by decide)
    (hbase : attributeBase (.Name x p) "pop" X.env (eval (.Name x p) X.env) = eval (.Name x p) X.env := by rfl) (hline : (apos.endLine == cpos.line) = true := by rfl) :
    DE X Ex (.Call (.Attribute (.Name x p) "pop" apos) [] [] cpos) (mPop i) := by
  refine ⟨_, pe_bm0 PySem.F.plainAttrs_list PySem.F.slot_list_pop PySem.F.type_list_pop mt_pop (pe_var hN hv hd hcd) hbase hline, fun C O ad io H σ ρ Q en h => ?_⟩
  unfold mPop at h
  cases q : ownAt ρ i with
  | none => rw [q] at h; exact h.elim
  | some xs =>
    rw [q] at h
    obtain ⟨a, vs, h1, hO, h3, h4, h5⟩ := own_at en q
    dsimp only at h
    cases w : xs[xs.length - 1]? with
    | none => rw [w] at h; exact h.elim
    | some d =>
      rw [w] at h
      obtain ⟨v, hv', rv⟩ := h5.get w
      refine ⟨.ref a, h1, .inl ⟨rfl, vs, .inl (.inl h3)⟩, a, vs, v, rfl, rfl, h3, by rw [h5.length]; exact hv', ?_⟩
      have ev2 : Evo O H (upd H a (.lst vs.dropLast)) := Evo.write hO h3
      exact h v _ ev2 (en.putOwn (ownAt_some q) h1 h5.dropLast (by rw [List.length_dropLast]; omega)) (en.rp ev2 rv)
/-- xs.pop(k) -/
def mPopAt (i : Nat) (m : ME) : ME := fun ρ => match ownAt ρ i with
  | some _ => (m ρ).bind fun k ρ1 => match k, ownAt ρ1 i with
    | .int k, some xs => match ixN xs.length k with
      | some j => match xs[j]? with
        | some d => .ok d (ρ1.set i (.own (xs.eraseIdx j)))
        | none => .bad
      | none => .bad
    | _, _ => .bad
  | none => .bad
theorem RpL.eraseIdx {K : PySem.W.Frag} {mg : Mg} {H : Hp} {W : AS} : ∀ {vs : List V} {ds : List D} (n : Nat), RpL K mg H W vs ds → RpL K mg H W (vs.eraseIdx n) (ds.eraseIdx n)
  | _, _, _, .nil => .nil
  | _, _, 0, .cons h t => t
  | _, _, n + 1, .cons h t => .cons h (RpL.eraseIdx n t)
/-- xs[k] = v of an own list -/
def mPut (i : Nat) (mk m : ME) : MS := fun ρ => (m ρ).thenS fun d ρ1 => match ownAt ρ1 i with
  | some _ => (mk ρ1).thenS fun k ρ2 => match k, ownAt ρ2 i with
    | .int k, some xs => match ixN xs.length k with
      | some j => .nx (ρ2.set i (.own (xs.set j d)))
      | none => .bad
    | _, _ => .bad
  | none => .bad
theorem ds_put {k e : Expr} {mk m : ME} {tpos : Pos} (hN : X.N[i]? = some x) (hv : Vis X.env.scope x) (hk : DE X Ex k mk) (he : DE X Ex e m) (hd : (x == ("__debug__" : Str)) = false := by decide) (hcd : (x == ("__classdict__" : Str)) = false := by decide)
    (ha : ∀ v, assign (.Subscript (.Name x p) k tpos) X.env v = (do
      let ov ← holding [v] (eval (.Name x p) X.env)
      let iv ← holding [v, ov] (eval k X.env)
      standAt tpos
      holding [v, ov, iv] (setItem ov iv v)
      release [v, ov, iv] []) := by intro _; rfl)
    (hs : swapsWithSole [.Subscript (.Name x p) k tpos] e pos.line X.env = pure false := by rfl) (hw : swappedStores [.Subscript (.Name x p) k tpos] e X.env = pure none := by rfl)
    (h1 : (assignEach [.Subscript (.Name x p) k tpos] X.env).map (·.2) = [assign (.Subscript (.Name x p) k tpos) X.env] := by rfl) :
    DS X Ex io fr (.Assign [.Subscript (.Name x p) k tpos] e pos) (mPut i mk m) := by
  obtain ⟨t, pe, r⟩ := he.run
  obtain ⟨tk, pk, rk⟩ := hk.run
  refine ⟨_, ps_asg pe (pg_sub (pe_var hN hv hd hcd) pk set_list ha) hs hw h1, fun C O ad H σ ρ E en h => ?_⟩
  refine r C O ad io H σ ρ _ en (PostS.expr (σ := σ) h fun d ρ1 v H1 ev1 en1 r1 h1 => ?_)
  cases q : ownAt ρ1 i with
  | none => rw [q] at h1; exact h1.elim
  | some xs0 =>
    rw [q] at h1
    obtain ⟨a, vs0, hs1, hO, h3, h4, h5⟩ := own_at en1 q
    refine ⟨.ref a, hs1, ?_⟩
    refine rk C O ad io H1 σ ρ1 _ en1 (PostS.expr (σ := σ) h1 fun kd ρ2 kv H2 ev2 en2 r2 h2 => ?_)
    cases kd with
    | int kk =>
      cases r2
      cases q2 : ownAt ρ2 i with
      | none => rw [q2] at h2; exact h2.elim
      | some xs =>
        rw [q2] at h2
        obtain ⟨a', vs, k1, k2, k3, k4, k5⟩ := own_at en2 q2
        rw [hs1] at k1
        cases k1
        dsimp only at h2
        cases w : ixN xs.length kk with
        | none => rw [w] at h2; exact h2.elim
        | some j =>
          rw [w] at h2
          have en3 := en2.putOwn (ownAt_some q2) hs1 (k5.set (en1.rp ev2 r1) j) (by rw [List.length_set]; exact k4)
          exact ⟨a, vs, kk, j, rfl, rfl, k3, by rw [k5.length]; exact w, h2 σ _ O (StepS.of (Evo.write k2 k3) en3) en3⟩
    | _ => exact h2.elim
end
end DL
set_option Elab.async false
set_option linter.all false
set_option maxRecDepth 100000
set_option maxHeartbeats 1000000
namespace DL
open PySem PySem.Spec L2

/-! ### calls of builtins, by values -/
structure DFn (X : Cx) (r : List V → Hp → VK → Prop) (f : List D → Option D) : Prop where
  run : ∀ (C O : AS) (ad : Nat → Addr) (io : List Nat) (H : Hp) (σ : St) (ρ : En) (vs : List V) (ds : List D) (d : D) (Q : VK), EnvOk X.K X.mg C O ad io H σ ρ → RpBL X.K X.mg H (U C O) vs ds → f ds = some d →
    (∀ v H', Evo O H H' → EnvOk X.K X.mg C O ad io H' σ ρ → Rp X.K X.mg H' (U C O) v d → Q v H') → r vs H Q
/-- .. that make a new list -/
structure DFnF (X : Cx) (r : List V → Hp → VK → Prop) (f : List D → Option (List D)) : Prop where
  run : ∀ (C O : AS) (ad : Nat → Addr) (io : List Nat) (H : Hp) (σ : St) (ρ : En) (vs : List V) (ds : List D) (d : List D) (Q : VK), EnvOk X.K X.mg C O ad io H σ ρ → RpBL X.K X.mg H (U C O) vs ds → f ds = some d →
    (∀ p us, H p = none → us.length ≤ sizeLine → RpL X.K X.mg H (U C O) us d → Q (.ref p) (upd H p (.lst us))) → r vs H Q
def mFn (f : List D → Option D) (m : MA2) : ME := fun ρ => (m ρ).bind fun os ρ1 => match (getsO ρ1 os).bind f with
  | some d => .ok d ρ1
  | none => .bad
def mFnF (f : List D → Option (List D)) (m : MA2) : MF := fun ρ => (m ρ).bind fun os ρ1 => match (getsO ρ1 os).bind f with
  | some d => .ok d ρ1
  | none => .bad
section
variable {X : Cx} {Ex : WX} {pos p : Pos} {x : Str} {e : Expr} {es : List Expr}
theorem fn_run {r : List V → Hp → VK → Prop} {f : List D → Option D} (o : DFn X r f) {m : MA2} {t : TA} (ra : ∀ (C O : AS) (ad : Nat → Addr) (io : List Nat) (H : Hp) (σ : St) (ρ : En) (Q : List V → Hp → Prop), EnvOk X.K X.mg C O ad io H σ ρ → Post (ROL X.K X.mg σ) X.K X.mg Ex C O ad io σ H (m ρ) Q → t σ H Q)
    (C O : AS) (ad : Nat → Addr) (io : List Nat) (H : Hp) (σ : St) (ρ : En) (Q : VK) (en : EnvOk X.K X.mg C O ad io H σ ρ) (h : Post (Rp X.K X.mg) X.K X.mg Ex C O ad io σ H (mFn f m ρ) Q) : tCB r t σ H Q := by
  refine ra C O ad io H σ ρ _ en (Post.bind h fun os ρ1 vs H1 _ ev1 en1 r1 h1 => ?_)
  cases g : getsO ρ1 os with
  | none => rw [g] at h1; exact h1.elim
  | some ds =>
    rw [g] at h1
    have h1 : Post (Rp X.K X.mg) X.K X.mg Ex C O ad io σ H1 (match f ds with
      | some d => .ok d ρ1
      | none => .bad) Q := h1
    cases q : f ds with
    | none => rw [q] at h1; exact h1.elim
    | some d =>
      rw [q] at h1
      exact o.run C O ad io H1 σ ρ1 vs ds d Q en1 (ROL.gets en1 r1 g) q h1
theorem fnF_run {r : List V → Hp → VK → Prop} {f : List D → Option (List D)} (o : DFnF X r f) {m : MA2} {t : TA} (ra : ∀ (C O : AS) (ad : Nat → Addr) (io : List Nat) (H : Hp) (σ : St) (ρ : En) (Q : List V → Hp → Prop), EnvOk X.K X.mg C O ad io H σ ρ → Post (ROL X.K X.mg σ) X.K X.mg Ex C O ad io σ H (m ρ) Q → t σ H Q)
    (C O : AS) (ad : Nat → Addr) (io : List Nat) (H : Hp) (σ : St) (ρ : En) (Q : VK) (en : EnvOk X.K X.mg C O ad io H σ ρ) (h : PostF X.K X.mg Ex C O ad io σ H (mFnF f m ρ) Q) : tCB r t σ H Q := by
  refine ra C O ad io H σ ρ _ en ?_
  unfold mFnF at h
  unfold Post
  cases z : m ρ with
  | bad => rw [z] at h; exact h
  | exc c d ρ' => rw [z] at h; exact h
  | ok os ρ1 =>
    rw [z] at h
    intro vs H1 ev1 en1 r1
    have h : PostF X.K X.mg Ex C O ad io σ H (match (getsO ρ1 os).bind f with
      | some d => .ok d ρ1
      | none => .bad) Q := h
    cases g : getsO ρ1 os with
    | none => rw [g] at h; exact h.elim
    | some ds =>
      rw [g] at h
      have h : PostF X.K X.mg Ex C O ad io σ H (match f ds with
        | some d => .ok d ρ1
        | none => .bad) Q := h
      cases q : f ds with
      | none => rw [q] at h; exact h.elim
      | some d =>
        rw [q] at h
        refine o.run C O ad io H1 σ ρ1 vs ds d Q en1 (ROL.gets en1 r1 g) q fun p us hp hz rl => ?_
        exact h _ _ (ev1.trans (Evo.upd hp)) (NewL.of en1 rl hz hp (ev1.free en1.ow hp))
theorem de_fnB {id : String} {r : List V → Hp → VK → Prop} {f : List D → Option D} {m : MA2} (hc : CallR X (.builtin id) r) (o : DFn X r f) (hg : Gl X x) (hm : X.mg x = none) (hv : bootBuiltins x = some (.builtin id)) (ha : DA2 X Ex (e :: es) m) (hn : x ≠ "__name__" := by decide) (hdb : (x == ("__debug__" : Str)) = false := by decide)
    (he : starEach (e :: es) X.env = (false, eval e X.env) :: starEach es X.env := by rfl) (hpl : (backTo pos (starEach es X.env)).any (·.1) = false := by rfl) : DE X Ex (.Call (.Name x p) (e :: es) [] pos) (mFn f m) := by
  obtain ⟨ta, pa, ra⟩ := ha.run
  exact ⟨_, pe_callB hc hg hm hv pa hn hdb he hpl, fn_run o ra⟩
theorem de_fnT {T : String} {r : List V → Hp → VK → Prop} {f : List D → Option D} {m : MA2} (hc : CallR X (.type T) r) (o : DFn X r f) (hg : Gl X x) (hm : X.mg x = none) (hv : bootBuiltins x = some (.type T)) (ha : DA2 X Ex (e :: es) m) (hn : x ≠ "__name__" := by decide) (hdb : (x == ("__debug__" : Str)) = false := by decide)
    (he : starEach (e :: es) X.env = (false, eval e X.env) :: starEach es X.env := by rfl) (hpl : (backTo pos (starEach es X.env)).any (·.1) = false := by rfl) : DE X Ex (.Call (.Name x p) (e :: es) [] pos) (mFn f m) := by
  obtain ⟨ta, pa, ra⟩ := ha.run
  exact ⟨_, pe_callTy hc hg hm hv pa hn hdb he hpl, fn_run o ra⟩
theorem df_fnT {T : String} {r : List V → Hp → VK → Prop} {f : List D → Option (List D)} {m : MA2} (hc : CallR X (.type T) r) (o : DFnF X r f) (hg : Gl X x) (hm : X.mg x = none) (hv : bootBuiltins x = some (.type T)) (ha : DA2 X Ex (e :: es) m) (hn : x ≠ "__name__" := by decide) (hdb : (x == ("__debug__" : Str)) = false := by decide)
    (he : starEach (e :: es) X.env = (false, eval e X.env) :: starEach es X.env := by rfl) (hpl : (backTo pos (starEach es X.env)).any (·.1) = false := by rfl) : DF X Ex (.Call (.Name x p) (e :: es) [] pos) (mFnF f m) := by
  obtain ⟨ta, pa, ra⟩ := ha.run
  exact ⟨_, pe_callTy hc hg hm hv pa hn hdb he hpl, fnF_run o ra⟩
theorem df_fnB {id : String} {r : List V → Hp → VK → Prop} {f : List D → Option (List D)} {m : MA2} (hc : CallR X (.builtin id) r) (o : DFnF X r f) (hg : Gl X x) (hm : X.mg x = none) (hv : bootBuiltins x = some (.builtin id)) (ha : DA2 X Ex (e :: es) m) (hn : x ≠ "__name__" := by decide) (hdb : (x == ("__debug__" : Str)) = false := by decide)
    (he : starEach (e :: es) X.env = (false, eval e X.env) :: starEach es X.env := by rfl) (hpl : (backTo pos (starEach es X.env)).any (·.1) = false := by rfl) : DF X Ex (.Call (.Name x p) (e :: es) [] pos) (mFnF f m) := by
  obtain ⟨ta, pa, ra⟩ := ha.run
  exact ⟨_, pe_callB hc hg hm hv pa hn hdb he hpl, fnF_run o ra⟩

/-! ### len -/
def fLen : List D → Option D
  | [.lst xs] => some (.int xs.length)
  | [.kl xs] => some (.int xs.length)
  | [.tup xs] => some (.int xs.length)
  | [.str x] => if x.length ≤ sizeLine then some (.int x.length) else none
  | _ => none
theorem dfn_len : DFn X (fun xs H Q => ∃ x n, xs = [x] ∧ LenV X.K x H n ∧ Q (.int n) H) fLen := ⟨fun C O ad io H σ ρ vs ds d Q en rl hf k => by
  unfold fLen at hf
  split at hf
  · cases hf
    obtain ⟨v, rfl, r⟩ := rl.one
    obtain ⟨a, us, rfl, h1, h2, h3⟩ := r.lst
    exact ⟨_, _, rfl, .inl ⟨us, .inl h1, h3.length.symm⟩, k _ H Evo.refl en (.int _)⟩
  · cases hf
    obtain ⟨v, rfl, r⟩ := rl.one
    obtain ⟨a, us, rfl, h1, h2, h3⟩ := r.kl
    exact ⟨_, _, rfl, .inl ⟨us, h1, h3.length.symm⟩, k _ H Evo.refl en (.int _)⟩
  · cases hf
    obtain ⟨v, rfl, r⟩ := rl.one
    obtain ⟨a, us, rfl, h1, h2, h3⟩ := r.tup
    exact ⟨_, _, rfl, .inr ⟨us, h1, h3.length.symm⟩, k _ H Evo.refl en (.int _)⟩
  · split at hf
    · rename_i hz
      cases hf
      obtain ⟨v, rfl, r⟩ := rl.one
      have e := r.str
      subst e
      exact ⟨_, _, rfl, ⟨hz, rfl⟩, k _ H Evo.refl en (.int _)⟩
    · cases hf
  · cases hf⟩
/-! ### list(x), tuple(x) -/
def fList : List D → Option (List D)
  | [.lst xs] => some xs
  | [.tup xs] => some xs
  | _ => none
theorem dfn_list : DFnF X (fun xs H Q => ∃ p ys, xs = [.ref p] ∧ (SqL X.K H p ys ∨ SqT X.K H p ys) ∧ ∀ l, H l = none → Q (.ref l) (upd H l (.lst ys))) fList := ⟨fun C O ad io H σ ρ vs ds d Q en rl hf k => by
  unfold fList at hf
  split at hf
  · cases hf
    obtain ⟨v, rfl, r⟩ := rl.one
    obtain ⟨a, us, rfl, h1, h2, h3⟩ := r.lst
    exact ⟨_, us, rfl, .inl (.inl h1), fun l hl => k l us hl h2 h3⟩
  · cases hf
    obtain ⟨v, rfl, r⟩ := rl.one
    obtain ⟨a, us, rfl, h1, h2, h3⟩ := r.tup
    exact ⟨_, us, rfl, .inr h1, fun l hl => k l us hl h2 h3⟩
  · cases hf⟩
def fTuple : List D → Option D
  | [.lst xs] => some (.tup xs)
  | [.tup xs] => some (.tup xs)
  | _ => none
theorem dfn_tuple : DFn X (fun xs H Q => ∃ p ys, xs = [.ref p] ∧ ((SqL X.K H p ys ∧ ∀ l, H l = none → Q (.ref l) (upd H l (.tup ys))) ∨ (SqT X.K H p ys ∧ Q (.ref p) H))) fTuple := ⟨fun C O ad io H σ ρ vs ds d Q en rl hf k => by
  unfold fTuple at hf
  split at hf
  · cases hf
    obtain ⟨v, rfl, r⟩ := rl.one
    obtain ⟨a, us, rfl, h1, h2, h3⟩ := r.lst
    refine ⟨_, us, rfl, .inl ⟨.inl h1, fun l hl => ?_⟩⟩
    have ev : Evo O H (upd H l (.tup us)) := Evo.upd hl
    exact k _ _ ev (en.upd hl) (.tup (.inl (.inl upd_same)) h2 (en.rpL ev h3))
  · cases hf
    obtain ⟨v, rfl, r⟩ := rl.one
    obtain ⟨a, us, rfl, h1, h2, h3⟩ := r.tup
    exact ⟨_, us, rfl, .inr ⟨h1, k _ H Evo.refl en (.tup h1 h2 h3)⟩⟩
  · cases hf⟩
/-! ### int, str, abs, max, min of two -/
def fInt : List D → Option D
  | [.int i] => some (.int i)
  | [.bl b] => some (.int (if b then 1 else 0))
  | [.str x] => if x.length ≤ 640 then (PySem.intText? x).map .int else none
  | _ => none
theorem call_intD : CallR X (.type "int") (fun xs H Q => ((∃ i, xs = [.int i] ∧ Q (.int i) H) ∨ ∃ k, xs = [.bl k] ∧ Q (.int (if k then 1 else 0)) H) ∨ (∃ a n, xs = [.str a] ∧ PySem.intText? a = some n ∧ a.length ≤ 640 ∧ Q (.int n) H)) := CallR.or call_int1 call_int_str
theorem dfn_int : DFn X (fun xs H Q => ((∃ i, xs = [.int i] ∧ Q (.int i) H) ∨ ∃ k, xs = [.bl k] ∧ Q (.int (if k then 1 else 0)) H) ∨ (∃ a n, xs = [.str a] ∧ PySem.intText? a = some n ∧ a.length ≤ 640 ∧ Q (.int n) H)) fInt := ⟨fun C O ad io H σ ρ vs ds d Q en rl hf k => by
  unfold fInt at hf
  split at hf
  · cases hf
    obtain ⟨v, rfl, r⟩ := rl.one
    rw [r.int]
    exact .inl (.inl ⟨_, rfl, k _ H Evo.refl en (.int _)⟩)
  · cases hf
    obtain ⟨v, rfl, r⟩ := rl.one
    rw [r.bl]
    exact .inl (.inr ⟨_, rfl, k _ H Evo.refl en (.int _)⟩)
  · rename_i x
    split at hf
    · rename_i hz
      obtain ⟨v, rfl, r⟩ := rl.one
      rw [r.str]
      cases q : PySem.intText? x with
      | none => rw [q] at hf; cases hf
      | some n =>
        rw [q] at hf
        cases hf
        exact .inr ⟨_, n, rfl, q, hz, k _ H Evo.refl en (.int _)⟩
    · cases hf
  · cases hf⟩
def fStr : List D → Option D
  | [.int i] => if i.natAbs.log2 < 1920 then some (.str (toString i)) else none
  | _ => none
theorem dfn_str : DFn X (fun xs H Q => ∃ i : Int, xs = [.int i] ∧ i.natAbs.log2 < 1920 ∧ Q (.str (toString i)) H) fStr := ⟨fun C O ad io H σ ρ vs ds d Q en rl hf k => by
  unfold fStr at hf
  split at hf
  · split at hf
    · rename_i hz
      cases hf
      obtain ⟨v, rfl, r⟩ := rl.one
      rw [r.int]
      exact ⟨_, rfl, hz, k _ H Evo.refl en (.str _)⟩
    · cases hf
  · cases hf⟩
def fAbs : List D → Option D
  | [.int i] => some (.int (if i < 0 then -i else i))
  | _ => none
theorem dfn_abs : DFn X (fun xs H Q => ∃ i, xs = [.int i] ∧ Q (.int (if i < 0 then -i else i)) H) fAbs := ⟨fun C O ad io H σ ρ vs ds d Q en rl hf k => by
  unfold fAbs at hf
  split at hf
  · cases hf
    obtain ⟨v, rfl, r⟩ := rl.one
    rw [r.int]
    exact ⟨_, rfl, k _ H Evo.refl en (.int _)⟩
  · cases hf⟩
def fMax2 : List D → Option D
  | [.int i, .int j] => some (.int (if j > i then j else i))
  | _ => none
theorem dfn_max2 : DFn X (fun xs H Q => ∃ i j, xs = [.int i, .int j] ∧ Q (.int (if j > i then j else i)) H) fMax2 := ⟨fun C O ad io H σ ρ vs ds d Q en rl hf k => by
  unfold fMax2 at hf
  split at hf
  · cases hf
    obtain ⟨v, w, rfl, r1, r2⟩ := rl.two
    rw [r1.int, r2.int]
    exact ⟨_, _, rfl, k _ H Evo.refl en (.int _)⟩
  · cases hf⟩
def fMin2 : List D → Option D
  | [.int i, .int j] => some (.int (if j < i then j else i))
  | _ => none
theorem dfn_min2 : DFn X (fun xs H Q => ∃ i j, xs = [.int i, .int j] ∧ Q (.int (if j < i then j else i)) H) fMin2 := ⟨fun C O ad io H σ ρ vs ds d Q en rl hf k => by
  unfold fMin2 at hf
  split at hf
  · cases hf
    obtain ⟨v, w, rfl, r1, r2⟩ := rl.two
    rw [r1.int, r2.int]
    exact ⟨_, _, rfl, k _ H Evo.refl en (.int _)⟩
  · cases hf⟩
/-! ### all, any of a list of bools -/
def blsOf : List D → Option (List Bool)
  | [] => some []
  | .bl b :: ds => (blsOf ds).map (b :: ·)
  | _ :: _ => none
theorem blsOf_map : ∀ {ds : List D} {bs : List Bool}, blsOf ds = some bs → ds = bs.map D.bl
  | [], bs, h => by simp [blsOf] at h; subst h; rfl
  | d :: ds, bs, h => by
    cases d <;> simp only [blsOf] at h <;> first | cases h | skip
    rename_i b
    cases q : blsOf ds with
    | none => rw [q] at h; cases h
    | some cs =>
      rw [q] at h
      cases h
      rw [blsOf_map q, List.map_cons]
def fAll : List D → Option D
  | [.lst xs] => (blsOf xs).map fun bs => .bl (bs.all id)
  | _ => none
def fAny : List D → Option D
  | [.lst xs] => (blsOf xs).map fun bs => .bl (bs.any id)
  | _ => none
theorem dfn_all : DFn X (rAll X.K) fAll := ⟨fun C O ad io H σ ρ vs ds d Q en rl hf k => by
  unfold fAll at hf
  split at hf
  · rename_i xs
    obtain ⟨v, rfl, r⟩ := rl.one
    obtain ⟨a, us, rfl, h1, h2, h3⟩ := r.lst
    cases q : blsOf xs with
    | none => rw [q] at hf; cases hf
    | some bs =>
      rw [q] at hf
      cases hf
      rw [blsOf_map q] at h3
      have e := h3.bls
      subst e
      exact ⟨a, bs, rfl, .inl h1, k _ H Evo.refl en (.bl _)⟩
  · cases hf⟩
theorem dfn_any : DFn X (rAny X.K) fAny := ⟨fun C O ad io H σ ρ vs ds d Q en rl hf k => by
  unfold fAny at hf
  split at hf
  · rename_i xs
    obtain ⟨v, rfl, r⟩ := rl.one
    obtain ⟨a, us, rfl, h1, h2, h3⟩ := r.lst
    cases q : blsOf xs with
    | none => rw [q] at hf; cases hf
    | some bs =>
      rw [q] at hf
      cases hf
      rw [blsOf_map q] at h3
      have e := h3.bls
      subst e
      exact ⟨a, bs, rfl, .inl h1, k _ H Evo.refl en (.bl _)⟩
  · cases hf⟩
/-! ### isinstance(x, T), T a built-in type -/
def isB (T : String) : D → Option Bool
  | .non => some (T == "NoneType")
  | .bl _ => some (T == "bool" || T == "int")
  | .int _ => some (T == "int")
  | .str _ => some (T == "str")
  | .tup _ => some (T == "tuple")
  | .lst _ => some (T == "list")
  | _ => none
/-- what the model says of the types' names -/
structure KitT (T : String) : Prop where
  non : kitB "NoneType" T = some (T == "NoneType")
  bl : kitB "bool" T = some (T == "bool" || T == "int")
  int : kitB "int" T = some (T == "int")
  str : kitB "str" T = some (T == "str")
  tup : kitB "tuple" T = some (T == "tuple")
  lst : kitB "list" T = some (T == "list")
theorem kit_int : KitT "int" := ⟨by decide +kernel, by decide +kernel, by decide +kernel, by decide +kernel, by decide +kernel, by decide +kernel⟩
theorem kit_bool : KitT "bool" := ⟨by decide +kernel, by decide +kernel, by decide +kernel, by decide +kernel, by decide +kernel, by decide +kernel⟩
theorem kit_str : KitT "str" := ⟨by decide +kernel, by decide +kernel, by decide +kernel, by decide +kernel, by decide +kernel, by decide +kernel⟩
theorem kit_tuple : KitT "tuple" := ⟨by decide +kernel, by decide +kernel, by decide +kernel, by decide +kernel, by decide +kernel, by decide +kernel⟩
theorem kit_list : KitT "list" := ⟨by decide +kernel, by decide +kernel, by decide +kernel, by decide +kernel, by decide +kernel, by decide +kernel⟩
def mIsB (T : String) (m : ME) : ME := fun ρ => (m ρ).bind fun d ρ1 => match isB T d with
  | some b => .ok (.bl b) ρ1
  | none => .bad
theorem sqT_ty {K : PySem.W.Frag} {H : Hp} {a : Addr} {vs : List V} (h : SqT K H a vs) : TyX K H (.ref a) (.type "tuple") := by
  rcases h with (h | ⟨o, h⟩) | ⟨o, its, n, h1, h2, _⟩
  · exact .base (.tup h)
  · exact .fTuple h
  · exact .kTuple h1 h2
theorem rd_ty {K : PySem.W.Frag} {H : Hp} {a : Addr} {vs : List V} (h : Rd H a (.lst vs)) : TyX K H (.ref a) (.type "list") := by
  rcases h with h | ⟨o, h⟩
  · exact .base (.lst h)
  · exact .base (.frz h)
theorem de_isB {T : Str} {Ts : String} {pT : Pos} {m : ME} (kt : KitT Ts) (hg : Gl X "isinstance") (hm : X.mg "isinstance" = none) (hgT : Gl X T) (hmT : X.mg T = none) (hvT : bootBuiltins T = some (.type Ts)) (he : DE X Ex e m) (hnT : T ≠ "__name__" := by decide) (hdT : (T == ("__debug__" : Str)) = false := by decide)
    (hs2 : starEach [.Name T pT] X.env = (false, eval (.Name T pT) X.env) :: starEach [] X.env := by rfl)
    (hs : starEach [e, .Name T pT] X.env = (false, eval e X.env) :: starEach [.Name T pT] X.env := by rfl) (hpl : (backTo pos (starEach [.Name T pT] X.env)).any (·.1) = false := by rfl) :
    DE X Ex (.Call (.Name "isinstance" p) [e, .Name T pT] [] pos) (mIsB Ts m) := by
  obtain ⟨t, pe, r⟩ := he.run
  refine ⟨_, pe_callB call_isi hg hm PyProof.Rows.boot_isinstance (pa_cons pe (pa_cons (pe_bltn (v := .ty Ts) hgT hmT hvT rfl hnT hdT) pa_nil hs2) hs) (by decide) (by decide) hs hpl, fun C O ad io H σ ρ Q en h => ?_⟩
  refine r C O ad io H σ ρ _ en (Post.bind h fun d ρ1 v H1 _ ev1 en1 r1 h1 => ?_)
  have fin : ∀ {t : Value} {b : Bool}, TyX X.K H1 v t → PySem.W.kitOne X.K t (.type Ts) = some b → isB Ts d = some b → ∃ (x c : V) (t u : Value) (b : Bool), [v, .ty Ts] = [x, c] ∧ ClsV c u ∧ TyX X.K H1 x t ∧ PySem.W.kitOne X.K t u = some b ∧ Q (.bl b) H1 := fun {t b} ty hk hb => by
    rw [hb] at h1
    exact ⟨v, .ty Ts, t, .type Ts, b, rfl, .ty Ts, ty, hk, h1 _ H1 Evo.refl en1 (.bl b)⟩
  cases r1 with
  | non => exact fin (.base .non) (kit_ty kt.non) rfl
  | bl b => exact fin (.base (.bl b)) (kit_ty kt.bl) rfl
  | int b => exact fin (.base (.int b)) (kit_ty kt.int) rfl
  | str b => exact fin (.base (.str b)) (kit_ty kt.str) rfl
  | tup g1 g2 g3 => exact fin (sqT_ty g1) (kit_ty kt.tup) rfl
  | lst g1 g2 g3 g4 => exact fin (rd_ty g1) (kit_ty kt.lst) rfl
  | kl g1 g2 g3 => exact h1.elim
  | err g1 g2 g3 g4 => exact h1.elim
end
end DL
set_option Elab.async false
set_option linter.all false
set_option maxRecDepth 100000
set_option maxHeartbeats 1000000
namespace DL
open PySem PySem.Spec L2

/-! ### a def keeps its promise -/
def ioL (ρ : En) : List Nat → Option (List (List D))
  | [] => some []
  | i :: is => match ownAt ρ i, ioL ρ is with
    | some xs, some yss => some (xs :: yss)
    | _, _ => none
/-- a body's end as a call's -/
def outOf (ios : List Nat) (fr : Bool) : RS → Out
  | .nx ρ => if fr = true then .bad else match ioL ρ ios with
    | some yss => .ok .non yss
    | none => .bad
  | .rt d ρ => match ioL ρ ios with
    | some yss => .ok d yss
    | none => .bad
  | .ex c d _ => .exc c d
  | _ => .bad
/-- the environment at the entry -/
def enIn (ios : List Nat) (N : Nat) (ds : List D) : En := argEn ios 0 ds ++ List.replicate (N - ds.length) .no
def runF (ios : List Nat) (fr : Bool) (N : Nat) (m : MS) (ds : List D) : Out := outOf ios fr (m (enIn ios N ds))
section
variable {K : PySem.W.Frag} {mg : Mg} {C O : AS} {ad : Nat → Addr} {io : List Nat} {H : Hp} {σ : St} {ρ : En}
theorem EnvOk.more (e : EnvOk K mg C O ad io H σ ρ) (n : Nat) : EnvOk K mg C O ad io H (σ ++ List.replicate n none) (ρ ++ List.replicate n .no) := by
  have up : ∀ {i : Nat} {x : Option V}, σ[i]? = some x → (σ ++ List.replicate n none)[i]? = some x := fun {i x} h => by
    rw [List.getElem?_append_left (List.getElem?_eq_some_iff.mp h).1]; exact h
  have dn : ∀ {i : Nat} {s : Sl}, (ρ ++ List.replicate n .no)[i]? = some s → ρ[i]? = some s ∨ s = .no := fun {i s} h => by
    by_cases c : i < ρ.length
    · rw [List.getElem?_append_left c] at h; exact .inl h
    · rw [List.getElem?_append_right (by omega), List.getElem?_replicate] at h
      split at h
      · exact .inr (Option.some.inj h).symm
      · cases h
  have dnσ : ∀ {i : Nat} {x : V}, (σ ++ List.replicate n none)[i]? = some (some x) → σ[i]? = some (some x) := fun {i s} h => by
    by_cases c : i < σ.length
    · rw [List.getElem?_append_left c] at h; exact h
    · rw [List.getElem?_append_right (by omega), List.getElem?_replicate] at h
      split at h
      · cases h
      · cases h
  refine ⟨by rw [List.length_append, List.length_append, List.length_replicate, List.length_replicate, e.len], e.wf, e.dj, fun i d h => ?_, fun i xs h => ?_, fun i j xs ys a h1 h2 h3 h4 => ?_, fun i hi => ?_, e.tb⟩
  · rcases dn h with h | h
    · obtain ⟨v, h1, h2⟩ := e.val i d h
      exact ⟨v, up h1, h2⟩
    · cases h
  · rcases dn h with h | h
    · obtain ⟨a, vs, h1, h2⟩ := e.own i xs h
      exact ⟨a, vs, up h1, h2⟩
    · cases h
  · rcases dn h1 with h1 | h1
    · rcases dn h2 with h2 | h2
      · exact e.ne i j xs ys a h1 h2 (dnσ h3) (dnσ h4)
      · cases h2
    · cases h1
  · obtain ⟨h1, xs, h2⟩ := e.ios i hi
    exact ⟨up h1, xs, by rw [List.getElem?_append_left (List.getElem?_eq_some_iff.mp h2).1]; exact h2⟩
theorem EnvOk.ioOk (e : EnvOk K mg C O ad io H σ ρ) {W : AS} (sub : ∀ a, W a → U C O a) : ∀ {is : List Nat} {yss : List (List D)}, (∀ i ∈ is, i ∈ io) → ioL ρ is = some yss → IoOk K mg W ad H is yss
  | [], yss, _, h => by simp [ioL] at h; subst h; trivial
  | i :: is, yss, hi, h => by
    unfold ioL at h
    cases q : ownAt ρ i with
    | none => rw [q] at h; cases h
    | some xs =>
      cases q2 : ioL ρ is with
      | none => rw [q, q2] at h; cases h
      | some zss =>
        rw [q, q2] at h
        cases h
        obtain ⟨a, vs, h1, h2, h3, h4, h5⟩ := own_at e q
        obtain ⟨k1, _⟩ := e.ios i (hi i List.mem_cons_self)
        rw [h1] at k1
        cases k1
        exact ⟨⟨vs, h3, h4, h5.sub sub⟩, EnvOk.ioOk e sub (fun j hj => hi j (List.mem_cons_of_mem _ hj)) q2⟩
theorem EnvOk.oio (e : EnvOk K mg C O ad io H σ ρ) : ∀ a, Oio io ad a → O a := fun a ⟨i, hi, ea⟩ => by
  obtain ⟨h1, xs, h2⟩ := e.ios i hi
  obtain ⟨b, vs, k1, k2, _⟩ := e.own i xs h2
  rw [h1] at k1
  cases k1
  rw [ea]; exact k2
end
section
variable {P : Program} {w : World} {K : PySem.W.Frag} {mg : Mg} {base : Heap}
theorem errAt_sub {H : Hp} {W W' : AS} {c : Str} {d : D} {cls : Value} {dx : Option Addr} (e : ErrAt K mg H W c d cls dx) (s : ∀ a, W' a → W a) : ErrAt K mg H W' c d cls dx := by
  obtain ⟨C, x, v, h1, h2, h3, h4, h5⟩ := e
  exact ⟨C, x, v, h1, h2, h3, h4, h5.sub s⟩
theorem fn_dC {x qual : Str} {st : Stmt} {f : Addr} {fd : FuncData} {N ps : List Str} {k : Nat} {ios : List Nat} {fr : Bool} {m : MS} {F : List D → Out} (Fn : Fun K x qual st f fd) (S : FnScope N ps (defScope st)) (hF : ∀ ds, ds.length = ps.length → F ds = runF ios fr N.length m ds)
    (hbody : ∀ (cdv : Value) (_ : fd.code = cdv) (A : Around) (outer : List Env) (s : Shared) (H : Hp) (E : XK), Rg k (A.deeper (PyProof.Rows.envOfC qual (defScope st) s.heap.objs.size f cdv)) →
      DSs (cxOf (L2.CX P w) P w K mg base N qual (defScope st) f cdv A outer s H E) (fun cls d _ H' => E cls d H') ios fr (defBody st) m) : FnG P w K mg base (k + 1) f fd ps (spD K mg ps.length ios fr F) := by
  refine fnG_of Fn S (fun vs H Q E h => spD_len h) fun cdv hcdv A outer s H vs Q E hr h => ?_
  obtain ⟨t, p, r⟩ := (hbody cdv hcdv A outer s H E hr).run
  refine ⟨t, p, ?_⟩
  have hl := spD_len h
  obtain ⟨ds, C, ad, hn, en, hh⟩ := h
  have hlen : vs.length = ds.length := by rw [hl, hn]
  have en1 := en.more (N.length - ds.length)
  have eσ : L2.start N vs = vs.map some ++ List.replicate (N.length - ds.length) none := by unfold L2.start; rw [hlen]
  rw [eσ]
  refine r C (Oio ios ad) ad H _ _ _ en1 ?_
  rw [hF ds hn] at hh
  unfold runF enIn at hh
  cases z : m (argEn ios 0 ds ++ List.replicate (N.length - ds.length) .no) with
  | bad => rw [z] at hh; exact hh.elim
  | bk ρ' => rw [z] at hh; exact hh.elim
  | ct ρ' => rw [z] at hh; exact hh.elim
  | ex c d ρ' =>
    rw [z] at hh
    intro σ' H' O' cls dx st e er
    have sub : ∀ a, U C (Oio ios ad) a → U C O' a := fun a q => q.imp id (e.oio a)
    exact hh H' cls dx st.ev (fun a q => e.wf a (sub a q)) e.tb (errAt_sub er sub)
  | nx ρ' =>
    rw [z] at hh
    intro σ' H' O' st e
    have eo : outOf ios fr (.nx ρ') = if fr = true then .bad else match ioL ρ' ios with
      | some yss => .ok .non yss
      | none => .bad := rfl
    rw [eo] at hh
    by_cases hfr : fr = true
    · rw [if_pos hfr] at hh; exact hh.elim
    · rw [if_neg hfr] at hh
      cases q : ioL ρ' ios with
      | none => rw [q] at hh; exact hh.elim
      | some yss =>
        rw [q] at hh
        have sub : ∀ a, U C (Oio ios ad) a → U C O' a := fun a q => q.imp id (e.oio a)
        have sub2 : ∀ a, Wr C ios ad fr .non a → U C O' a := fun a q => q.elim (sub a) fun z => absurd z.1 hfr
        refine hh .non H' st.ev (fun a q => e.wf a (sub a q)) e.tb (e.ioOk sub2 (fun i h => h) q) ?_
        unfold RetOk
        rw [if_neg hfr]
        exact .non
  | rt d ρ' =>
    rw [z] at hh
    intro v H' O' st rs
    have eo : outOf ios fr (.rt d ρ') = match ioL ρ' ios with
      | some yss => .ok d yss
      | none => .bad := rfl
    rw [eo] at hh
    cases q : ioL ρ' ios with
    | none => rw [q] at hh; exact hh.elim
    | some yss =>
      rw [q] at hh
      unfold RetS at rs
      split at rs
      · rename_i hfr
        obtain ⟨a, us, ys, σ', rfl, rfl, ha, hz, hnew, e, rl⟩ := rs
        have hno : H a = none := by
          rcases hnew with z | ⟨⟨i, hi, ea⟩, z⟩
          · exact z
          · exact absurd ea.symm (z i hi)
        have sub : ∀ b, U C (Oio ios ad) b → U (Plus C a) O' b := fun b q => q.elim (fun z => .inl (.inl z)) fun z => .inr (e.oio b z)
        have sub2 : ∀ b, Wr C ios ad fr (.ref a) b → U (Plus C a) O' b := fun b q => q.elim (sub b) fun z => by
          have ea : V.ref a = V.ref b := z.2
          cases ea
          exact .inl (.inr rfl)
        refine hh (.ref a) H' st.ev (fun b q => e.wf b (sub b q)) e.tb (e.ioOk sub2 (fun i h => h) q) ?_
        unfold RetOk
        rw [if_pos hfr]
        exact ⟨a, us, ys, rfl, rfl, hno, ha, hz, rl.sub sub2⟩
      · rename_i hfr
        obtain ⟨σ', e, rv⟩ := rs
        have sub : ∀ a, U C (Oio ios ad) a → U C O' a := fun a q => q.imp id (e.oio a)
        have sub2 : ∀ a, Wr C ios ad fr v a → U C O' a := fun a q => q.elim (sub a) fun z => absurd z.1 hfr
        refine hh v H' st.ev (fun a q => e.wf a (sub a q)) e.tb (e.ioOk sub2 (fun i h => h) q) ?_
        unfold RetOk
        rw [if_neg hfr]
        exact rv.sub sub2
theorem fn_d {x qual : Str} {st : Stmt} {f : Addr} {fd : FuncData} {N ps : List Str} {k : Nat} {ios : List Nat} {fr : Bool} {m : MS} {F : List D → Out} (Fn : Fun K x qual st f fd) (S : FnScope N ps (defScope st)) (hF : ∀ ds, ds.length = ps.length → F ds = runF ios fr N.length m ds)
    (hbody : ∀ (cdv : Value) (A : Around) (outer : List Env) (s : Shared) (H : Hp) (E : XK), Rg k (A.deeper (PyProof.Rows.envOfC qual (defScope st) s.heap.objs.size f cdv)) →
      DSs (cxOf (L2.CX P w) P w K mg base N qual (defScope st) f cdv A outer s H E) (fun cls d _ H' => E cls d H') ios fr (defBody st) m) : FnG P w K mg base (k + 1) f fd ps (spD K mg ps.length ios fr F) :=
  fn_dC Fn S hF fun cdv _ => hbody cdv
end
end DL
set_option Elab.async false
set_option linter.all false
set_option maxRecDepth 100000
set_option maxHeartbeats 1000000
namespace DL
open PySem PySem.Spec L2

/-! ### calls that change a list of ours -/
theorem argEn_at {ios : List Nat} : ∀ {k : Nat} {ds : List D} {i : Nat} {s : Sl}, (argEn ios k ds)[i]? = some s → ∃ d, ds[i]? = some d ∧ s = (if k + i ∈ ios then ioSl d else .val d)
  | k, [], i, s, h => by simp [argEn] at h
  | k, d :: ds, 0, s, h => by
    simp [argEn] at h
    exact ⟨d, rfl, h.symm⟩
  | k, d :: ds, i + 1, s, h => by
    simp only [argEn, List.getElem?_cons_succ] at h
    obtain ⟨e, h1, h2⟩ := argEn_at h
    refine ⟨e, by simpa using h1, ?_⟩
    rw [h2]
    have : k + 1 + i = k + (i + 1) := by omega
    rw [this]
theorem argEn_of {ios : List Nat} : ∀ {k : Nat} {ds : List D} {i : Nat} {d : D}, ds[i]? = some d → (argEn ios k ds)[i]? = some (if k + i ∈ ios then ioSl d else .val d)
  | k, [], i, d, h => by simp at h
  | k, d :: ds, 0, e, h => by
    simp at h
    subst h
    simp [argEn]
  | k, d :: ds, i + 1, e, h => by
    simp only [argEn, List.getElem?_cons_succ] at h ⊢
    rw [argEn_of h]
    have : k + 1 + i = k + (i + 1) := by omega
    rw [this]
/-- the operands: values, but own lists' slot at i0 -/
def ioArgs (i0 : Nat) (os : List Opd) (ρ : En) : Option (List D × Nat × List D) := match os[i0]?, valsO (os.take i0), valsO (os.drop (i0 + 1)) with
  | some (.o j), some p, some q => match ownAt ρ j with
    | some xs => if p.length = i0 then some (p ++ .lst xs :: q, j, xs) else none
    | none => none
  | _, _, _ => none
def callIO (F : List D → Out) (i0 : Nat) (os : List Opd) (ρ : En) : R D := match ioArgs i0 os ρ with
  | some (ds, j, _) => match F ds with
    | .ok r [ys] => .ok r (ρ.set j (.own ys))
    | _ => .bad
  | none => .bad
def callIOF (F : List D → Out) (i0 : Nat) (os : List Opd) (ρ : En) : R (List D) := match ioArgs i0 os ρ with
  | some (ds, j, _) => match F ds with
    | .ok (.lst zs) [ys] => .ok zs (ρ.set j (.own ys))
    | _ => .bad
  | none => .bad
section
variable {K : PySem.W.Frag} {mg : Mg} {C O : AS} {ad : Nat → Addr} {io : List Nat} {H H' : Hp} {σ : St} {ρ : En} {W : AS}
theorem ROL.split : ∀ {vs : List V} {os : List Opd} (n : Nat), ROL K mg σ H W vs os → ROL K mg σ H W (vs.take n) (os.take n) ∧ ROL K mg σ H W (vs.drop n) (os.drop n)
  | _, _, 0, h => ⟨.nil, h⟩
  | _, _, n + 1, .nil => ⟨.nil, .nil⟩
  | _, _, n + 1, .cons h t => ⟨.cons h (ROL.split n t).1, (ROL.split n t).2⟩
theorem ROL.get : ∀ {vs : List V} {os : List Opd} {i : Nat} {o : Opd}, ROL K mg σ H W vs os → os[i]? = some o → ∃ v, vs[i]? = some v ∧ RpO K mg σ H W v o
  | _, _, _, _, .nil, e => by simp at e
  | _, _, 0, _, .cons h _, e => by simp at e; subst e; exact ⟨_, rfl, h⟩
  | _, _, i + 1, _, .cons _ t, e => by
    obtain ⟨v, h1, h2⟩ := ROL.get (i := i) t (by simpa using e)
    exact ⟨v, by simpa using h1, h2⟩
/-- the callee's environment -/
theorem en_io (e : EnvOk K mg C O ad io H σ ρ) {vs : List V} {os : List Opd} {i0 j : Nat} {ds xs : List D} (r : ROL K mg σ H (U C O) vs os) (h : ioArgs i0 os ρ = some (ds, j, xs)) :
    ∃ a, σ[j]? = some (some (V.ref a)) ∧ O a ∧ ownAt ρ j = some xs ∧ ds.length = os.length ∧ EnvOk K mg (fun b => U C O b ∧ b ≠ a) (Oio [i0] fun _ => a) (fun _ => a) [i0] H (vs.map some) (argEn [i0] 0 ds) := by
  unfold ioArgs at h
  split at h
  case h_2 => cases h
  rename_i j' p q ho hp hq
  cases w : ownAt ρ j' with
  | none => rw [w] at h; cases h
  | some xs' =>
    rw [w] at h
    dsimp only at h
    split at h
    case isFalse => cases h
    rename_i hl
    cases h
    obtain ⟨a, us, hs, hO, h3, h4, h5⟩ := own_at e w
    obtain ⟨r1, r2⟩ := r.split i0
    obtain ⟨r3, r4⟩ := r.split (i0 + 1)
    have rp := r1.valsO hp
    have rq := r4.valsO hq
    obtain ⟨v, hv, rv⟩ := r.get ho
    have rv : σ[j]? = some (some v) := rv
    rw [hs] at rv
    have ev : v = .ref a := (Option.some.inj (Option.some.inj rv)).symm
    subst ev
    have hi : i0 < vs.length := (List.getElem?_eq_some_iff.mp hv).1
    have hio : i0 < os.length := (List.getElem?_eq_some_iff.mp ho).1
    have hlv : vs.length = os.length := by
      have : ∀ {vs : List V} {os : List Opd}, ROL K mg σ H (U C O) vs os → vs.length = os.length := fun r => by
        induction r with
        | nil => rfl
        | cons _ _ ih => rw [List.length_cons, List.length_cons, ih]
      exact this r
    have eU : ∀ b, U (fun b => U C O b ∧ b ≠ a) (Oio [i0] fun _ => a) b → U C O b := fun b q => q.elim (fun z => z.1) fun ⟨i, _, z⟩ => by rw [z]; exact .inr hO
    have hlp := rp.length
    have hlq := rq.length
    rw [List.length_take] at hlp
    rw [List.length_drop] at hlq
    have vget : ∀ i, (vs[i]? = some (.ref a) ∧ i = i0) ∨ (i < i0 ∧ vs[i]? = (vs.take i0)[i]?) ∨ (i0 < i ∧ vs[i]? = (vs.drop (i0 + 1))[i - (i0 + 1)]?) := fun i => by
      rcases Nat.lt_trichotomy i i0 with c | c | c
      · exact .inr (.inl ⟨c, by rw [List.getElem?_take, if_pos c]⟩)
      · exact .inl ⟨by rw [c]; exact hv, c⟩
      · refine .inr (.inr ⟨c, ?_⟩)
        rw [List.getElem?_drop]
        congr 1
        omega
    have dget : ∀ i d, (p ++ D.lst xs :: q)[i]? = some d → (i = i0 ∧ d = .lst xs) ∨ (i < i0 ∧ p[i]? = some d) ∨ (i0 < i ∧ q[i - (i0 + 1)]? = some d) := fun i d hd => by
      rcases Nat.lt_trichotomy i i0 with c | c | c
      · rw [List.getElem?_append_left (by omega)] at hd
        exact .inr (.inl ⟨c, hd⟩)
      · rw [List.getElem?_append_right (by omega), show i - p.length = 0 by omega] at hd
        simp at hd
        exact .inl ⟨c, hd.symm⟩
      · rw [List.getElem?_append_right (by omega), show i - p.length = (i - (i0 + 1)) + 1 by omega] at hd
        simp at hd
        exact .inr (.inr ⟨c, hd⟩)
    refine ⟨a, hs, hO, w, by rw [List.length_append, List.length_cons]; omega, ?_, fun b hb => ?_, fun b hb z => ?_, fun i d hd => ?_, fun i ys hd => ?_, fun i k ys zs b h1 h2 _ _ => ?_, fun i hi' => ?_, e.tb⟩
    · rw [List.length_map, argEn_length, List.length_append, List.length_cons]; omega
    · exact e.wf b (eU b hb)
    · obtain ⟨i, _, z⟩ := z
      exact hb.2 z
    · obtain ⟨d', e1, e2⟩ := argEn_at hd
      rw [Nat.zero_add] at e2
      split at e2
      · cases d' <;> cases e2
      · rename_i hne
        cases e2
        rcases dget i d e1 with ⟨z, _⟩ | ⟨c, z⟩ | ⟨c, z⟩
        · exact absurd (by simp [z]) hne
        · obtain ⟨u, hu, ru⟩ := rp.get z
          rcases vget i with ⟨_, k⟩ | ⟨_, k⟩ | ⟨k, _⟩
          · omega
          · exact ⟨u, by rw [List.getElem?_map, k, hu]; rfl, ru.sub eU⟩
          · omega
        · obtain ⟨u, hu, ru⟩ := rq.get z
          rcases vget i with ⟨_, k⟩ | ⟨k, _⟩ | ⟨_, k⟩
          · omega
          · omega
          · exact ⟨u, by rw [List.getElem?_map, k, hu]; rfl, ru.sub eU⟩
    · obtain ⟨d', e1, e2⟩ := argEn_at hd
      rw [Nat.zero_add] at e2
      split at e2
      · rename_i hin
        have hin : i = i0 := by simpa using hin
        subst hin
        rcases dget i d' e1 with ⟨_, z⟩ | ⟨c, _⟩ | ⟨c, _⟩
        · subst z
          cases e2
          exact ⟨a, us, by rw [List.getElem?_map, hv]; rfl, ⟨i, by simp, rfl⟩, h3, h4, h5.sub eU⟩
        · omega
        · omega
      · cases e2
    · have inI : ∀ {i ys}, (argEn [i0] 0 (p ++ D.lst xs :: q))[i]? = some (.own ys) → i = i0 := fun {i ys} hd => by
        obtain ⟨d', e1, e2⟩ := argEn_at hd
        rw [Nat.zero_add] at e2
        split at e2
        · rename_i hin; simpa using hin
        · cases e2
      rw [inI h1, inI h2]
    · have hi' : i = i0 := by simpa using hi'
      subst hi'
      refine ⟨by rw [List.getElem?_map, hv]; rfl, xs, ?_⟩
      have hd : (p ++ D.lst xs :: q)[i]? = some (.lst xs) := by
        rw [List.getElem?_append_right (by omega), show i - p.length = 0 by omega]; rfl
      rw [argEn_of hd]
      simp [ioSl]
/-- what the call has left -/
theorem en_ioBack (e : EnvOk K mg C O ad io H σ ρ) {j : Nat} {a : Addr} {xs ys : List D} {us : List V} {W' : AS} (hs : σ[j]? = some (some (V.ref a))) (hO : O a) (hx : ownAt ρ j = some xs) (ev : Evo (fun b => b = a) H H') (ha : H' a = some (.lst us)) (hz : us.length ≤ sizeLine) (tb : LamX.Tabs (tabsOf K) H') (rl : RpL K mg H' (U C O) us ys) :
    EnvOk K mg C O ad io H' σ (ρ.set j (.own ys)) := by
  have ow : ∀ b, b = a → ∃ xs, H b = some (.lst xs) := fun b hb => e.wf b (.inr (hb ▸ hO))
  have s : ∀ b, b = a → U C O b := fun b hb => .inr (hb ▸ hO)
  have hj := ownAt_some hx
  have hl : j < ρ.length := (List.getElem?_eq_some_iff.mp hj).1
  refine ⟨by rw [List.length_set]; exact e.len, fun b h => ?_, e.dj, fun i x h => ?_, fun i zs h => ?_, fun i k zs ws b h1 h2 h3 h4 => ?_, fun i hi => ?_, tb⟩
  · by_cases c : b = a
    · exact ⟨us, by rw [c]; exact ha⟩
    · obtain ⟨zs, q⟩ := e.wf b h
      exact ⟨zs, ev.k b _ q c rfl⟩
  · rcases set_some h with ⟨rfl, h2, _⟩ | ⟨ne, h2⟩
    · cases h2
    · obtain ⟨u, h3, h4⟩ := e.val i x h2
      exact ⟨u, h3, h4.evo ev ow s⟩
  · rcases set_some h with ⟨rfl, h2, _⟩ | ⟨ne, h2⟩
    · cases h2
      exact ⟨a, us, hs, hO, ha, hz, rl⟩
    · obtain ⟨b, ws, h3, h4, h5, h6, h7⟩ := e.own i zs h2
      have nb : b ≠ a := fun z => by
        subst z
        exact ne (e.ne i j zs xs b h2 hj h3 hs)
      exact ⟨b, ws, h3, h4, ev.k b _ h5 nb rfl, h6, h7.evo ev ow s⟩
  · have self : ∀ {i zs}, (ρ.set j (Sl.own ys))[i]? = some (Sl.own zs) → ∃ ws, ρ[i]? = some (Sl.own ws) := fun {i zs} q => by
      rcases set_some q with ⟨rfl, _, _⟩ | ⟨_, q⟩
      · exact ⟨xs, hj⟩
      · exact ⟨zs, q⟩
    obtain ⟨y1, p1⟩ := self h1
    obtain ⟨y2, p2⟩ := self h2
    exact e.ne i k y1 y2 b p1 p2 h3 h4
  · obtain ⟨h1, zs, h2⟩ := e.ios i hi
    refine ⟨h1, ?_⟩
    by_cases c : j = i
    · subst c
      exact ⟨ys, by rw [List.getElem?_set_self hl]⟩
    · exact ⟨zs, by rw [List.getElem?_set_ne c]; exact h2⟩
end
section
variable {X : Cx} {Ex : WX} {pos p : Pos} {x : Str} {k n i0 : Nat} {ps : List Str} {F : List D → Out}
theorem oio_one {a : Addr} : ∀ b, Oio [i0] (fun _ => a) b ↔ b = a := fun b => ⟨fun ⟨i, _, z⟩ => z, fun z => ⟨i0, by simp, z⟩⟩
theorem callIO_run {C O : AS} {ad : Nat → Addr} {io : List Nat} {H : Hp} {σ : St} {ρ : En} {vs : List V} {os : List Opd} {Q : VK} (hn : os.length = n) (en : EnvOk X.K X.mg C O ad io H σ ρ) (r : ROL X.K X.mg σ H (U C O) vs os)
    (h : Post (Rp X.K X.mg) X.K X.mg Ex C O ad io σ H (callIO F i0 os ρ) Q) : spD X.K X.mg n [i0] false F vs H Q (WE Ex σ) := by
  unfold callIO at h
  cases q : ioArgs i0 os ρ with
  | none => rw [q] at h; exact h.elim
  | some t =>
    obtain ⟨ds, j, xs⟩ := t
    rw [q] at h
    dsimp only at h
    obtain ⟨a, hs, hO, hx, hl, e2⟩ := en_io en r q
    refine ⟨ds, _, fun _ => a, by rw [hl, hn], e2, ?_⟩
    cases f : F ds with
    | bad => rw [f] at h; exact h.elim
    | exc c d => rw [f] at h; exact h.elim
    | ok rr yss =>
      rw [f] at h
      match yss, h with
      | [ys], h =>
        dsimp only at h ⊢
        intro v H' ev w tb hio hr
        simp only [RetOk, Bool.false_eq_true, if_false] at hr
        obtain ⟨⟨us, ha, hz, rl⟩, _⟩ := hio
        have sub : ∀ b, U C O b → Wr (fun b => U C O b ∧ b ≠ a) [i0] (fun _ => a) false v b := fun b hb => .inl (by
          by_cases c : b = a
          · exact .inr ((oio_one b).mpr c)
          · exact .inl ⟨hb, c⟩)
        have ev' : Evo (fun b => b = a) H H' := ev.mono fun b z => (oio_one b).mp z
        refine h v H' (ev'.mono fun b z => by rw [z]; exact hO) (en_ioBack (W' := U C O) en hs hO hx ev' ha hz tb (rl.sub sub)) (hr.sub sub)
      | [], h => exact h.elim
      | _ :: _ :: _, h => exact h.elim
def mCallIO (F : List D → Out) (i0 : Nat) (ma : MA2) : ME := fun ρ => (ma ρ).bind (callIO F i0)
theorem de_callIO {e : Expr} {es : List Expr} {ma : MA2} (G : FunD X.prog X.w X.K X.mg X.base x k ps [i0] false F) (hr : Rg k X.A) (tk : Takes X Ex) (hg : Gl X x) (ha : DA2 X Ex (e :: es) ma) (hlen : ∀ ρ os ρ', ma ρ = .ok os ρ' → os.length = ps.length)
    (hdb : (x == ("__debug__" : Str)) = false := by decide) (he : starEach (e :: es) X.env = (false, eval e X.env) :: starEach es X.env := by rfl) (hpl : (backTo pos (starEach es X.env)).any (·.1) = false := by rfl) :
    DE X Ex (.Call (.Name x p) (e :: es) [] pos) (mCallIO F i0 ma) := by
  obtain ⟨f, fd, FO, FB, Fm, Fk, Fkw⟩ := G.ex
  obtain ⟨ta, pa, ra⟩ := ha.run
  refine ⟨_, pe_callG FO hr hg Fm Fk FB tk pa hdb he hpl, fun C O ad io H σ ρ Q en h => ?_⟩
  refine ra C O ad io H σ ρ _ en (Post.bind h fun os ρ1 vs H1 eq ev1 en1 r1 h1 => ?_)
  exact callIO_run (hlen _ _ _ eq) en1 r1 h1
/-! ### a call that hands back a new list -/
def callVF (F : List D → Out) (os : List Opd) (ρ : En) : R (List D) := match valsO os with
  | some ds => match F ds with
    | .ok (.lst zs) _ => .ok zs ρ
    | .exc c d => .exc c d ρ
    | _ => .bad
  | none => .bad
theorem callVF_run {C O : AS} {ad : Nat → Addr} {io : List Nat} {H H0 : Hp} {σ : St} {ρ : En} {vs : List V} {os : List Opd} {Q : VK} (hn : os.length = n) (en : EnvOk X.K X.mg C O ad io H σ ρ) (r : ROL X.K X.mg σ H (U C O) vs os) (ev0 : Evo O H0 H)
    (h : PostF X.K X.mg Ex C O ad io σ H0 (callVF F os ρ) Q) : spD X.K X.mg n [] true F vs H Q (WE Ex σ) := by
  unfold callVF at h
  cases q : valsO os with
  | none => rw [q] at h; exact h.elim
  | some ds =>
    rw [q] at h
    dsimp only at h
    have rl := r.valsO q
    have hl : ds.length = n := by
      have e1 := rl.length
      have : ∀ {vs : List V} {os : List Opd}, ROL X.K X.mg σ H (U C O) vs os → vs.length = os.length := fun r => by
        induction r with
        | nil => rfl
        | cons _ _ ih => rw [List.length_cons, List.length_cons, ih]
      have e2 := this r
      omega
    refine ⟨ds, U C O, ad, hl, en_vals en.wf en.tb rl, ?_⟩
    cases f : F ds with
    | bad => rw [f] at h; exact h.elim
    | exc c d =>
      rw [f] at h
      dsimp only at h ⊢
      intro H' cls dx ev w tb er
      exact h H' cls dx (ev0.trans (evo_nil ev)) (en.evo0 (evo_nil ev) tb) (errAt_sub er fun a q => .inl q)
    | ok rr ys =>
      rw [f] at h
      dsimp only at h ⊢
      intro v H' ev w tb hio hr
      simp only [RetOk, if_true] at hr
      obtain ⟨a, us, zs, rfl, rfl, hno, ha, hz, rz⟩ := hr
      have ev' : Evo O H H' := evo_nil ev
      have far : ∀ b, U (Plus C a) O b → U C O b ∨ H b = none := fun b q => by
        rcases q with (q | q) | q
        · exact .inl (.inl q)
        · exact .inr (q ▸ hno)
        · exact .inl (.inr q)
      have en' := en.evo0 (evo_nil ev) tb
      refine h (.ref a) H' (ev0.trans ev') ⟨a, us, rfl, ev0.free en.ow hno, ha, hz, ?_, rz.sub fun b q => ?_⟩
      · refine ⟨en'.len, fun b q => ?_, fun b q z => ?_, fun i d hd => ?_, fun i xs hd => ?_, en'.ne, en'.ios, en'.tb⟩
        · rcases q with (q | q) | q
          · exact en'.wf b (.inl q)
          · exact ⟨us, by rw [q]; exact ha⟩
          · exact en'.wf b (.inr q)
        · rcases q with q | q
          · exact en.dj b q z
          · obtain ⟨xs, q2⟩ := en.wf b (.inr z)
            rw [q, hno] at q2; cases q2
        · obtain ⟨v, h1, h2⟩ := en.val i d hd
          exact ⟨v, h1, h2.far ev' en.ow far⟩
        · obtain ⟨b, ws, h1, h2, h3, h4, h5⟩ := en.own i xs hd
          refine ⟨b, ws, h1, h2, (evo_nil (O := fun _ => False) ev).k b _ h3 (fun z => z) rfl, h4, ?_⟩
          have key : ∀ {us : List V} {xs : List D}, RpL X.K X.mg H (U C O) us xs → RpL X.K X.mg H' (U (Plus C a) O) us xs := by
            intro us
            induction us with
            | nil => intro xs h; cases h; exact .nil
            | cons u us ih =>
              intro xs h
              cases h with
              | cons h1 h2 => exact .cons (h1.far ev' en.ow far) (ih h2)
          exact key h5
      · rcases q with (q | q) | q
        · exact .inl (.inl (.inl q))
        · exact .inr ⟨rfl, by rw [q]⟩
        · exact .inl (.inl (.inr q))
def mCallF (F : List D → Out) (ma : MA2) : MF := fun ρ => (ma ρ).bind (callVF F)
theorem df_call {e : Expr} {es : List Expr} {ma : MA2} (G : FunD X.prog X.w X.K X.mg X.base x k ps [] true F) (hr : Rg k X.A) (tk : Takes X Ex) (hg : Gl X x) (ha : DA2 X Ex (e :: es) ma) (hlen : ∀ ρ os ρ', ma ρ = .ok os ρ' → os.length = ps.length)
    (hdb : (x == ("__debug__" : Str)) = false := by decide) (he : starEach (e :: es) X.env = (false, eval e X.env) :: starEach es X.env := by rfl) (hpl : (backTo pos (starEach es X.env)).any (·.1) = false := by rfl) :
    DF X Ex (.Call (.Name x p) (e :: es) [] pos) (mCallF F ma) := by
  obtain ⟨f, fd, FO, FB, Fm, Fk, Fkw⟩ := G.ex
  obtain ⟨ta, pa, ra⟩ := ha.run
  refine ⟨_, pe_callG FO hr hg Fm Fk FB tk pa hdb he hpl, fun C O ad io H σ ρ Q en h => ?_⟩
  refine ra C O ad io H σ ρ _ en ?_
  unfold mCallF at h
  unfold Post
  cases z : ma ρ with
  | bad => rw [z] at h; exact h
  | exc c d ρ' => rw [z] at h; exact h
  | ok os ρ1 =>
    rw [z] at h
    intro vs H1 ev1 en1 r1
    exact callVF_run (hlen _ _ _ z) en1 r1 ev1 h
end
end DL
set_option Elab.async false
set_option linter.all false
set_option maxRecDepth 100000
set_option maxHeartbeats 1000000
namespace DL
open PySem PySem.Spec L2

section
variable {X : Cx} {Ex : WX} {io : List Nat} {fr : Bool} {pos p : Pos} {x : Str} {k : Nat} {a b c e : Expr} {ma mb mc : MX}
/-! ### short forms: what is looked up goes by itself -/
def mXO (i : Nat) : MX := fun ρ => match ρ[i]? with
  | some (.own _) => .ok (.o i) ρ
  | _ => .bad
theorem dxo (i : Nat) (hN : X.N[i]? = some x := by rfl) (hv : Vis X.env.scope x := by first | exact Or.inl rfl | exact Or.inr (Or.inl rfl) | exact Or.inr (Or.inr rfl)) (hd : (x == ("__debug__" : Str)) = false := by decide) (hcd : (x == ("__classdict__" : Str)) = false := by decide) : DX X Ex (.Name x pos) (mXO i) := dx_o hN hv trivial hd hcd
/-- a name, own or not -/
def mXA (i : Nat) : MX := fun ρ => match ρ[i]? with
  | some (.own _) => .ok (.o i) ρ
  | some (.val d) => .ok (.v d) ρ
  | _ => .bad
theorem dxa (i : Nat) (hN : X.N[i]? = some x := by rfl) (hv : Vis X.env.scope x := by first | exact Or.inl rfl | exact Or.inr (Or.inl rfl) | exact Or.inr (Or.inr rfl)) (hd : (x == ("__debug__" : Str)) = false := by decide) (hcd : (x == ("__classdict__" : Str)) = false := by decide) : DX X Ex (.Name x pos) (mXA i) := by
  refine ⟨_, pe_var hN hv hd hcd, fun C O ad io H σ ρ Q en h => ?_⟩
  unfold mXA at h
  cases q : ρ[i]? with
  | none => rw [q] at h; exact h.elim
  | some s =>
    rw [q] at h
    cases s with
    | no => exact h.elim
    | own xs =>
      obtain ⟨a, vs, h1, _⟩ := en.own i xs q
      exact ⟨_, h1, h _ H Evo.refl en h1⟩
    | val d =>
      obtain ⟨v, h1, h2⟩ := en.val i d q
      exact ⟨v, h1, h v H Evo.refl en h2⟩
theorem dv (i : Nat) (hN : X.N[i]? = some x := by rfl) (hv : Vis X.env.scope x := by first | exact Or.inl rfl | exact Or.inr (Or.inl rfl) | exact Or.inr (Or.inr rfl)) (hd : (x == ("__debug__" : Str)) = false := by decide) (hcd : (x == ("__classdict__" : Str)) = false := by decide) : DE X Ex (.Name x pos) (mVar i) := de_var hN hv hd hcd
/-- a constant of the text's top -/
structure GC (K : PySem.W.Frag) (mg : Mg) (x : Str) (d : D) : Prop where
  ex : ∃ v u, mg x = some u ∧ RelV v u ∧ ∀ H W, Rp K mg H W v d
theorem dgc {d : D} (h : GC X.K X.mg x d) (hg : Gl X x := by rfl) (hd : (x == ("__debug__" : Str)) = false := by decide) : DE X Ex (.Name x pos) (mC d) := by
  obtain ⟨v, u, hm, r, hr⟩ := h.ex
  exact de_glob hg hm r hr hd
structure OB (X : Cx) (op : Operator) (f : D → D → Option D) : Prop where
  ex : ∃ r, OpR X (binaryOp op) r ∧ DOp X r f
structure OC (X : Cx) (op : CmpOp) (f : D → D → Option D) : Prop where
  ex : ∃ r, OpR X (compareOp op) r ∧ DOp X r f
theorem ob_add : OB X .Add addD := ⟨_, op_addD, do_addD⟩
theorem ob_sub : OB X .Sub iSub := ⟨_, op_sub, do_sub⟩
theorem ob_mul : OB X .Mult iMul := ⟨_, op_mulW, do_mul⟩
theorem ob_div : OB X .FloorDiv iDiv := ⟨_, op_fdivW, do_div⟩
theorem ob_mod : OB X .Mod iMod := ⟨_, op_mod, do_mod⟩
theorem ob_pow : OB X .Pow iPow := ⟨_, op_powW, do_pow⟩
theorem oc_lt : OC X .Lt iLt := ⟨_, op_lt, do_lt⟩
theorem oc_le : OC X .LtE iLe := ⟨_, op_le, do_le⟩
theorem oc_gt : OC X .Gt iGt := ⟨_, op_gt, do_gt⟩
theorem oc_ge : OC X .GtE iGe := ⟨_, op_ge, do_ge⟩
theorem oc_is : OC X .Is isN := ⟨_, op_isN, do_isN⟩
theorem oc_isnot : OC X .IsNot notN := ⟨_, op_notN, do_notN⟩
theorem r64 (hr : Rg k X.A) : X.A.units + 64 < cLine := hr.rm.units
theorem r65 (hr : Rg k X.A) : X.A.units + 65 < cLine := by have := hr.rm.un; omega
theorem oc_eq (hr : Rg k X.A) : OC X .Eq (cmpD eqD) := ⟨_, op_eqR (r64 hr), do_rD⟩
theorem oc_ne (hr : Rg k X.A) : OC X .NotEq (cmpD neD) := ⟨_, op_neR (r64 hr), do_rD⟩
theorem oc_in (hr : Rg k X.A) : OC X .In (cmpD inD) := ⟨_, op_inR (r65 hr), do_rD⟩
theorem oc_notin (hr : Rg k X.A) : OC X .NotIn (cmpD notInD) := ⟨_, op_notInR (r65 hr), do_rD⟩
variable {op : Operator} {cp cp2 : CmpOp} {f g : D → D → Option D}
theorem dbin (o : OB X op f) (ha : DX X Ex a ma) (hb : DX X Ex b mb) : DE X Ex (.BinOp a op b pos) (mBin f ma mb) := by
  obtain ⟨r, h1, h2⟩ := o.ex
  exact de_op h1 h2 ha hb
theorem dcmp (o : OC X cp f) (ha : DX X Ex a ma) (hb : DX X Ex b mb) (hm : behindInMarks cp b = false := by first | exact nomark _ | with_unfolding_all rfl) : DE X Ex (.Compare a [cp] [b] pos) (mBin f ma mb) := by
  obtain ⟨r, h1, h2⟩ := o.ex
  exact de_cmp h1 h2 hm ha hb
theorem tcmp (o : OC X cp f) (ha : DX X Ex a ma) (hb : DX X Ex b mb) (hm : behindInMarks cp b = false := by first | exact nomark _ | with_unfolding_all rfl) : DT X Ex (.Compare a [cp] [b] pos) (mT (mBin f ma mb)) := by
  obtain ⟨r, h1, h2⟩ := o.ex
  exact dt_cmp h1 h2 hm ha hb
theorem dchain (o : OC X cp f) (o2 : OC X cp2 g) (ha : DX X Ex a ma) (hb : DX X Ex b mb) (hc : DX X Ex c mc) (hm : lastMarks [cp, cp2] [b, c] = false := by with_unfolding_all rfl) : DE X Ex (.Compare a [cp, cp2] [b, c] pos) (mChain f g ma mb mc) := by
  obtain ⟨r, h1, h2⟩ := o.ex
  obtain ⟨r', h3, h4⟩ := o2.ex
  exact de_chain h1 h3 h2 h4 ha hb hc hm
theorem tchain (o : OC X cp f) (o2 : OC X cp2 g) (ha : DX X Ex a ma) (hb : DX X Ex b mb) (hc : DX X Ex c mc) (hm : lastMarks [cp, cp2] [b, c] = false := by with_unfolding_all rfl) : DT X Ex (.Compare a [cp, cp2] [b, c] pos) (mT (mChain f g ma mb mc)) := by
  obtain ⟨r, h1, h2⟩ := o.ex
  obtain ⟨r', h3, h4⟩ := o2.ex
  exact dt_chain h1 h3 h2 h4 ha hb hc hm

/-! ### builtins by name -/
variable {es : List Expr} {m : MA2}
theorem dlen (hm : X.mg "len" = none) (ha : DA2 X Ex [e] m) (hg : Gl X "len" := by rfl) (he : starEach [e] X.env = (false, eval e X.env) :: starEach [] X.env := by rfl) (hpl : (backTo pos (starEach [] X.env)).any (·.1) = false := by rfl) : DE X Ex (.Call (.Name "len" p) [e] [] pos) (mFn fLen m) := de_fnB call_len dfn_len hg hm PySem.boot_len ha (by decide) (by decide) he hpl
theorem dtuple (hm : X.mg "tuple" = none) (ha : DA2 X Ex [e] m) (hg : Gl X "tuple" := by rfl) (he : starEach [e] X.env = (false, eval e X.env) :: starEach [] X.env := by rfl) (hpl : (backTo pos (starEach [] X.env)).any (·.1) = false := by rfl) : DE X Ex (.Call (.Name "tuple" p) [e] [] pos) (mFn fTuple m) := de_fnT call_tuple_of dfn_tuple hg hm PyProof.Rows.boot_tuple ha (by decide) (by decide) he hpl
theorem dlist (hm : X.mg "list" = none) (ha : DA2 X Ex [e] m) (hg : Gl X "list" := by rfl) (he : starEach [e] X.env = (false, eval e X.env) :: starEach [] X.env := by rfl) (hpl : (backTo pos (starEach [] X.env)).any (·.1) = false := by rfl) : DF X Ex (.Call (.Name "list" p) [e] [] pos) (mFnF fList m) := df_fnT call_list_of dfn_list hg hm PyProof.Rows.boot_list ha (by decide) (by decide) he hpl
theorem dint (hm : X.mg "int" = none) (ha : DA2 X Ex [e] m) (hg : Gl X "int" := by rfl) (he : starEach [e] X.env = (false, eval e X.env) :: starEach [] X.env := by rfl) (hpl : (backTo pos (starEach [] X.env)).any (·.1) = false := by rfl) : DE X Ex (.Call (.Name "int" p) [e] [] pos) (mFn fInt m) := de_fnT call_intD dfn_int hg hm PyProof.Rows.boot_int ha (by decide) (by decide) he hpl
theorem dstr (hm : X.mg "str" = none) (ha : DA2 X Ex [e] m) (hg : Gl X "str" := by rfl) (he : starEach [e] X.env = (false, eval e X.env) :: starEach [] X.env := by rfl) (hpl : (backTo pos (starEach [] X.env)).any (·.1) = false := by rfl) : DE X Ex (.Call (.Name "str" p) [e] [] pos) (mFn fStr m) := de_fnT call_str_int dfn_str hg hm PyProof.Rows.boot_str ha (by decide) (by decide) he hpl
theorem dabs (hm : X.mg "abs" = none) (ha : DA2 X Ex [e] m) (hg : Gl X "abs" := by rfl) (he : starEach [e] X.env = (false, eval e X.env) :: starEach [] X.env := by rfl) (hpl : (backTo pos (starEach [] X.env)).any (·.1) = false := by rfl) : DE X Ex (.Call (.Name "abs" p) [e] [] pos) (mFn fAbs m) := de_fnB call_abs dfn_abs hg hm PyProof.Rows.boot_abs ha (by decide) (by decide) he hpl
theorem dall (hc : X.calm = true) (hm : X.mg "all" = none) (ha : DA2 X Ex [e] m) (hg : Gl X "all" := by rfl) (he : starEach [e] X.env = (false, eval e X.env) :: starEach [] X.env := by rfl) (hpl : (backTo pos (starEach [] X.env)).any (·.1) = false := by rfl) : DE X Ex (.Call (.Name "all" p) [e] [] pos) (mFn fAll m) := de_fnB (cr_all hc) dfn_all hg hm PyProof.Rows.boot_all ha (by decide) (by decide) he hpl
theorem dany (hc : X.calm = true) (hm : X.mg "any" = none) (ha : DA2 X Ex [e] m) (hg : Gl X "any" := by rfl) (he : starEach [e] X.env = (false, eval e X.env) :: starEach [] X.env := by rfl) (hpl : (backTo pos (starEach [] X.env)).any (·.1) = false := by rfl) : DE X Ex (.Call (.Name "any" p) [e] [] pos) (mFn fAny m) := de_fnB (cr_any hc) dfn_any hg hm PyProof.Rows.boot_any ha (by decide) (by decide) he hpl
theorem dmax2 (hc : X.calm = true) (hm : X.mg "max" = none) (ha : DA2 X Ex [a, b] m) (hg : Gl X "max" := by rfl) (he : starEach [a, b] X.env = (false, eval a X.env) :: starEach [b] X.env := by rfl) (hpl : (backTo pos (starEach [b] X.env)).any (·.1) = false := by rfl) : DE X Ex (.Call (.Name "max" p) [a, b] [] pos) (mFn fMax2 m) := de_fnB (call_max2 hc) dfn_max2 hg hm PyProof.Rows.boot_max ha (by decide) (by decide) he hpl
theorem dmin2 (hc : X.calm = true) (hm : X.mg "min" = none) (ha : DA2 X Ex [a, b] m) (hg : Gl X "min" := by rfl) (he : starEach [a, b] X.env = (false, eval a X.env) :: starEach [b] X.env := by rfl) (hpl : (backTo pos (starEach [b] X.env)).any (·.1) = false := by rfl) : DE X Ex (.Call (.Name "min" p) [a, b] [] pos) (mFn fMin2 m) := de_fnB (call_min2 hc) dfn_min2 hg hm PyProof.Rows.boot_min ha (by decide) (by decide) he hpl
/-! ### list(range(..)) -/
def mRangeL (mi : MF) : MF := mi
variable {N : List Str} {nd : N.Nodup}
/-- a def's facts -/
theorem fd_mk {P : Program} {w : World} {K : PySem.W.Frag} {mg : Mg} {base : Heap} {qual : Str} {st : Stmt} {f' : Addr} {fd : FuncData} {ps : List Str} {ios : List Nat} {F : List D → Out} (Fn : Fun K x qual st f' fd) (hm : mg x = some (.ref f')) (ok : FnG P w K mg base k f' fd ps (spD K mg ps.length ios fr F))
    (hb : ∀ (kV doc pm : Value) (an : Option Addr) (cdv ct : Value) (us : List Value), us.length = ps.length → bindArgs (PySem.W.fnOf x qual (defArgs st) (defBody st) (defScope st) .none kV doc pm an cdv ct) ⟨us, []⟩ = pure (ps.zip us))
    (hk : ∀ (kV doc pm : Value) (an : Option Addr) (cdv ct : Value) (us : List Value), us.length = ps.length → bindArgs (PySem.W.fnOf x qual (defArgs st) (defBody st) (defScope st) .none kV doc pm an cdv ct) ⟨[], ps.zip us⟩ = pure (ps.zip us)) : FunD P w K mg base x k ps ios fr F := by
  refine ⟨f', fd, ok, Fn.binds hb, hm, Fn.kp, fun s ws _ hl => ?_⟩
  obtain ⟨oc, od, kV, doc, pm, an, cdv, ct, osl, rfl, lk, hcd⟩ := Fn.ex
  exact .of_eq (hk kV doc pm an cdv ct ws hl)
end
end DL
set_option Elab.async false
set_option linter.all false
set_option maxRecDepth 100000
set_option maxHeartbeats 1000000
namespace DL
open PySem PySem.Spec L2

section
variable {X : Cx} {Ex : WX} {pos p apos cpos : Pos} {x : Str} {e o : Expr}
/-! ### texts -/
def mSplit (mo ms : ME) : MF := fun ρ => (mo ρ).bind fun a ρ1 => match a with
  | .str a => (ms ρ1).bind fun b ρ2 => match b with
    | .str b => if (b.length == 0) = false ∧ a.length + 2 ≤ sizeLine then .ok ((Txt.split a b).map .str) ρ2 else .bad
    | _ => .bad
  | _ => .bad
theorem PostF.bind {α β : Type} {Ra : Hp → AS → β → α → Prop} {C O : AS} {ad : Nat → Addr} {io : List Nat} {σ : St} {H H0 : Hp} {r : R α} {f : α → En → R (List D)} {Q : VK} {Q1 : β → Hp → Prop} (ev0 : Evo O H0 H)
    (h : PostF X.K X.mg Ex C O ad io σ H0 (r.bind f) Q)
    (k : ∀ d ρ' v H', Evo O H0 H' → EnvOk X.K X.mg C O ad io H' σ ρ' → Ra H' (U C O) v d → PostF X.K X.mg Ex C O ad io σ H0 (f d ρ') Q → Q1 v H') : Post Ra X.K X.mg Ex C O ad io σ H r Q1 := by
  cases r with
  | bad => exact h
  | exc c d ρ' => exact fun H' cls dx ev en er => h H' cls dx (ev0.trans ev) en er
  | ok d ρ' => exact fun v H' ev en rl => k d ρ' v H' (ev0.trans ev) en rl h
theorem df_split {ms mo : ME} (ho : DE X Ex o mo) (he : DE X Ex e ms) (hs : starEach [e] X.env = [(false, eval e X.env)] := by rfl) (hbase : attributeBase o "split" X.env (eval o X.env) = eval o X.env := by rfl) (hline : (apos.endLine == pos.line) = true := by rfl) :
    DF X Ex (.Call (.Attribute o "split" apos) [e] [] pos) (mSplit mo ms) := by
  obtain ⟨to, po, ro⟩ := ho.run
  obtain ⟨te, pe, re⟩ := he.run
  refine ⟨_, pe_split po pe hs hbase hline, fun C O ad io H σ ρ Q en h => ?_⟩
  refine ro C O ad io H σ ρ _ en (PostF.bind Evo.refl h fun a ρ1 v H1 ev1 en1 r1 h1 => ?_)
  cases a with
  | str sa =>
    cases r1
    refine ⟨⟨sa, rfl⟩, re C O ad io H1 σ ρ1 _ en1 (PostF.bind ev1 h1 fun b ρ2 w H2 ev2 en2 r2 h2 => ?_)⟩
    cases b with
    | str sb =>
      cases r2
      dsimp only at h2
      split at h2
      · rename_i hz
        refine ⟨sa, sb, rfl, rfl, hz.1, hz.2, fun p hp => ?_⟩
        have hl : ((Txt.split sa sb).map V.str).length ≤ sizeLine := by rw [List.length_map]; exact Nat.le_trans (PyProof.Rows.split_le sa sb) hz.2
        have ev' : Evo O H (upd H2 p (.lst ((Txt.split sa sb).map V.str))) := ev2.trans (Evo.upd hp)
        exact h2 _ _ ev' (NewL.of en2 (RpL.of_strs _) hl hp (ev2.free en2.ow hp))
      · exact h2.elim
    | _ => exact h2.elim
  | _ => exact h1.elim
def strsOf : List D → Option (List Str)
  | [] => some []
  | .str b :: ds => match strsOf ds with
    | some bs => some (b :: bs)
    | none => none
  | _ :: _ => none
theorem strsOf_map : ∀ {ds : List D} {bs : List Str}, strsOf ds = some bs → ds = bs.map D.str
  | [], bs, h => by simp [strsOf] at h; subst h; rfl
  | d :: ds, bs, h => by
    cases d <;> simp only [strsOf] at h <;> first | cases h | skip
    rename_i b
    cases q : strsOf ds with
    | none => rw [q] at h; cases h
    | some cs =>
      rw [q] at h
      cases h
      rw [strsOf_map q, List.map_cons]
def joinD (a : Str) (ys : List Str) : Option D := if (ys.map (·.length)).sum + ys.length * a.length ≤ 16777216 then some (.str (Txt.join a ys)) else none
def mJoin (mo : ME) (ms : MX) : ME := fun ρ => (mo ρ).bind fun a ρ1 => match a with
  | .str a => (ms ρ1).bind fun b ρ2 => match (b.get ρ2).bind fun d => ((itemsOf d).bind strsOf).bind (joinD a) with
    | some d => .ok d ρ2
    | none => .bad
  | _ => .bad
theorem de_join {mo : ME} {ms : MX} (ho : DE X Ex o mo) (he : DX X Ex e ms) (hs : starEach [e] X.env = [(false, eval e X.env)] := by rfl) (hbase : attributeBase o "join" X.env (eval o X.env) = eval o X.env := by rfl) (hline : (apos.endLine == pos.line) = true := by rfl) :
    DE X Ex (.Call (.Attribute o "join" apos) [e] [] pos) (mJoin mo ms) := by
  obtain ⟨to, po, ro⟩ := ho.run
  obtain ⟨te, pe, re⟩ := he.run
  refine ⟨_, pe_join po pe hs hbase hline, fun C O ad io H σ ρ Q en h => ?_⟩
  refine ro C O ad io H σ ρ _ en (Post.bind h fun a ρ1 v H1 _ ev1 en1 r1 h1 => ?_)
  cases a with
  | str sa =>
    cases r1
    refine ⟨⟨sa, rfl⟩, re C O ad io H1 σ ρ1 _ en1 (Post.bind h1 fun b ρ2 w H2 _ ev2 en2 r2 h2 => ?_)⟩
    cases g : b.get ρ2 with
    | none => rw [g] at h2; exact h2.elim
    | some d =>
      have rb := RpO.get en2 r2 g
      rw [g] at h2
      have h2 : Post (Rp X.K X.mg) X.K X.mg Ex C O ad io σ H2 (match ((itemsOf d).bind strsOf).bind (joinD sa) with
        | some d => .ok d ρ2
        | none => .bad) Q := h2
      have fin : ∀ (q : Addr) (vs : List V) (xs : List D), w = .ref q → (SqL X.K H2 q vs ∨ SqT X.K H2 q vs) → RpL X.K X.mg H2 (U C O) vs xs → itemsOf d = some xs → ∃ a p, ∃ ys : List Str, V.str sa = .str a ∧ [w] = [.ref p] ∧ (SqL X.K H2 p (ys.map V.str) ∨ SqT X.K H2 p (ys.map V.str)) ∧ (ys.map (·.length)).sum + ys.length * a.length ≤ 16777216 ∧ Q (.str (Txt.join a ys)) H2 := fun q vs xs ew hq rl hi => by
        rw [hi] at h2
        have h2 : Post (Rp X.K X.mg) X.K X.mg Ex C O ad io σ H2 (match (strsOf xs).bind (joinD sa) with
          | some d => .ok d ρ2
          | none => .bad) Q := h2
        cases qs : strsOf xs with
        | none => rw [qs] at h2; exact h2.elim
        | some ys =>
          rw [qs] at h2
          have h2 : Post (Rp X.K X.mg) X.K X.mg Ex C O ad io σ H2 (match joinD sa ys with
            | some d => .ok d ρ2
            | none => .bad) Q := h2
          unfold joinD at h2
          split at h2
          · rename_i d' hj
            split at hj
            · rename_i hz
              cases hj
              rw [strsOf_map qs] at rl
              have e := rl.strs
              subst e ew
              exact ⟨sa, q, ys, rfl, rfl, hq, hz, h2 _ H2 Evo.refl en2 (.str _)⟩
            · cases hj
          · exact h2.elim
      cases d with
      | lst xs =>
        obtain ⟨q, vs, ew, h3, _, h4⟩ := rb.lst
        exact fin q vs xs ew (.inl (.inl h3)) h4 rfl
      | tup xs =>
        obtain ⟨q, vs, ew, h3, _, h4⟩ := rb.tup
        exact fin q vs xs ew (.inr h3) h4 rfl
      | _ => exact h2.elim
  | _ => exact h1.elim
/-! ### list(range(..)), tuple(range(..)) -/
def rgD (i j : Int) : Option (List D) := if okR i j then some (rangeL i j) else none
theorem okR_rg {i j : Int} (h : okR i j) : RgOk i j := ⟨h.1, h.2.1, h.2.2.1, h.2.2.2.1, by have := h.2.2.2.2; rw [sizeLine_eq] at this; exact this⟩
theorem rangeL_rg {K : PySem.W.Frag} {mg : Mg} {H : Hp} {W : AS} (i j : Int) : RpL K mg H W (rgV i j) (rangeL i j) := by
  unfold rgV rangeL
  generalize List.range (j - i).toNat = l
  induction l with
  | nil => exact .nil
  | cons n l ih => exact .cons (.int _) ih
def mRg1 (m : ME) : MF := fun ρ => (m ρ).bind fun d ρ1 => match d with
  | .int j => match rgD 0 j with
    | some xs => .ok xs ρ1
    | none => .bad
  | _ => .bad
def mRg2 (m m2 : ME) : MF := fun ρ => (m ρ).bind fun d ρ1 => (m2 ρ1).bind fun d2 ρ2 => match d, d2 with
  | .int i, .int j => match rgD i j with
    | some xs => .ok xs ρ2
    | none => .bad
  | _, _ => .bad
theorem df_listR1 {m : ME} {p2 pos2 : Pos} (hc : X.calm = true) (hl : X.mg "list" = none) (hr : X.mg "range" = none) (he : DE X Ex e m) (hgl : Gl X "list" := by rfl) (hgr : Gl X "range" := by rfl) (na : starEach [e] X.env = (false, eval e X.env) :: starEach [] X.env := by rfl)
    (nb : starEach [.Call (.Name "range" p2) [e] [] pos2] X.env = (false, eval (.Call (.Name "range" p2) [e] [] pos2) X.env) :: starEach [] X.env := by rfl) : DF X Ex (.Call (.Name "list" p) [.Call (.Name "range" p2) [e] [] pos2] [] pos) (mRg1 m) := by
  obtain ⟨t, pe, r⟩ := he.run
  refine ⟨_, pe_listRg hc hgl hl (prg_1 hgr hr pe na) nb, fun C O ad io H σ ρ Q en h => ?_⟩
  refine r C O ad io H σ ρ _ en (PostF.bind Evo.refl h fun a ρ1 v H1 ev1 en1 r1 h1 => ?_)
  cases a with
  | int j =>
    cases r1
    dsimp only at h1
    unfold rgD at h1
    split at h1
    · rename_i xs hx
      split at hx
      · rename_i ok
        cases hx
        refine ⟨j, rfl, okR_rg ok, fun q hq => ?_⟩
        have hl2 : (rgV 0 j).length ≤ sizeLine := by rw [rgV_length]; exact ok.2.2.2.2
        exact h1 _ _ (ev1.trans (Evo.upd hq)) (NewL.of en1 (rangeL_rg 0 j) hl2 hq (ev1.free en1.ow hq))
      · cases hx
    · exact h1.elim
  | _ => exact h1.elim
def mTupR1 (m : ME) : ME := fun ρ => (m ρ).bind fun d ρ1 => match d with
  | .int j => match rgD 0 j with
    | some xs => .ok (.tup xs) ρ1
    | none => .bad
  | _ => .bad
theorem de_tupR1 {m : ME} {p2 pos2 : Pos} (hc : X.calm = true) (hl : X.mg "tuple" = none) (hr : X.mg "range" = none) (he : DE X Ex e m) (hgl : Gl X "tuple" := by rfl) (hgr : Gl X "range" := by rfl) (na : starEach [e] X.env = (false, eval e X.env) :: starEach [] X.env := by rfl)
    (nb : starEach [.Call (.Name "range" p2) [e] [] pos2] X.env = (false, eval (.Call (.Name "range" p2) [e] [] pos2) X.env) :: starEach [] X.env := by rfl) : DE X Ex (.Call (.Name "tuple" p) [.Call (.Name "range" p2) [e] [] pos2] [] pos) (mTupR1 m) := by
  obtain ⟨t, pe, r⟩ := he.run
  refine ⟨_, pe_tupRg hc hgl hl (prg_1 hgr hr pe na) nb, fun C O ad io H σ ρ Q en h => ?_⟩
  refine r C O ad io H σ ρ _ en (Post.bind h fun a ρ1 v H1 _ ev1 en1 r1 h1 => ?_)
  cases a with
  | int j =>
    cases r1
    dsimp only at h1
    unfold rgD at h1
    split at h1
    · rename_i xs hx
      split at hx
      · rename_i ok
        cases hx
        refine ⟨j, rfl, okR_rg ok, fun q hq => ?_⟩
        have hl2 : (rgV 0 j).length ≤ sizeLine := by rw [rgV_length]; exact ok.2.2.2.2
        have ev : Evo O H1 (upd H1 q (.tup (rgV 0 j))) := Evo.upd hq
        exact h1 _ _ ev (en1.upd hq) (.tup (.inl (.inl upd_same)) hl2 (rangeL_rg 0 j))
      · cases hx
    · exact h1.elim
  | _ => exact h1.elim
end
end DL
set_option Elab.async false
set_option linter.all false
set_option maxRecDepth 100000
set_option maxHeartbeats 1000000
/-! sum, max, min, sorted of ints in a list or a tuple -/
namespace DL
open PySem PySem.Spec L2
def intsOf : List D → Option (List Int)
  | [] => some []
  | .int b :: ds => match intsOf ds with
    | some bs => some (b :: bs)
    | none => none
  | _ :: _ => none
theorem intsOf_map : ∀ {ds : List D} {bs : List Int}, intsOf ds = some bs → ds = bs.map D.int
  | [], bs, h => by simp [intsOf] at h; subst h; rfl
  | d :: ds, bs, h => by
    cases d <;> simp only [intsOf] at h <;> first | cases h | skip
    rename_i b
    cases q : intsOf ds with
    | none => rw [q] at h; cases h
    | some cs =>
      rw [q] at h
      cases h
      rw [intsOf_map q, List.map_cons]
def seqInts : D → Option (List Int)
  | .lst xs => intsOf xs
  | .tup xs => intsOf xs
  | .kl xs => intsOf xs
  | _ => none
/-- a seq of ints is read -/
def IntSeq (K : PySem.W.Frag) (H : Hp) (a : Addr) (ns : List Int) : Prop := SqL K H a (ns.map V.int) ∨ SqT K H a (ns.map V.int)
theorem RpB.ints {K : PySem.W.Frag} {mg : Mg} {H : Hp} {W : AS} {v : V} {d : D} {ns : List Int} (r : RpB K mg H W v d) (h : seqInts d = some ns) : ∃ a, v = .ref a ∧ IntSeq K H a ns ∧ ns.length ≤ sizeLine := by
  cases d with
  | lst xs =>
    obtain ⟨a, us, e, h1, h2, h3⟩ := r.lst
    rw [intsOf_map h] at h3
    have := h3.ints
    subst this
    exact ⟨a, e, .inl (.inl h1), by rw [List.length_map] at h2; exact h2⟩
  | tup xs =>
    obtain ⟨a, us, e, h1, h2, h3⟩ := r.tup
    rw [intsOf_map h] at h3
    have := h3.ints
    subst this
    exact ⟨a, e, .inr h1, by rw [List.length_map] at h2; exact h2⟩
  | kl xs =>
    obtain ⟨a, us, e, h1, h2, h3⟩ := r.kl
    rw [intsOf_map h] at h3
    have := h3.ints
    subst this
    exact ⟨a, e, .inl h1, by rw [List.length_map] at h2; exact h2⟩
  | _ => cases h
/-- a list or a tuple of ints, as the library reads it -/
theorem intSeq_at {X : Cx} {pins : List (Addr × Obj)} {σ : St} {H : Hp} {s : Shared} {a : Addr} {ns : List Int} (I : Inv X pins σ H s) (h : IntSeq X.K H a ns) :
    ∃ its : List Value, PyProof.Rows.IntsAre its ns ∧ its.length ≤ sizeLine ∧ (s.heap.IsList a its.toArray ∨ s.heap.IsTuple a its.toArray) := by
  rcases h with h | h
  · obtain ⟨its, rv, hl, hz⟩ := I.list h
    exact ⟨its, rv.ints, by rw [← rv.length]; exact hz, .inl hl.isList⟩
  · obtain ⟨its, rv, hl, hz⟩ := I.tuple h
    exact ⟨its, rv.ints, by rw [← rv.length]; exact hz, .inr hl⟩
theorem max_fold : ∀ (ns : List Int) (n : Int), PySem.W.maxOf n ns = ns.foldl max n
  | [], _ => rfl
  | m :: ns, n => by
    rw [List.foldl_cons, ← max_fold ns]
    unfold PySem.W.maxOf
    rw [List.foldl_cons]
    congr 1
    show (if decide (n < m) = true then m else n) = max n m
    by_cases c : n < m
    · rw [if_pos (decide_eq_true c)]; omega
    · rw [if_neg (by simpa using c)]; omega
theorem min_fold : ∀ (ns : List Int) (n : Int), PySem.W.minOf n ns = ns.foldl min n
  | [], _ => rfl
  | m :: ns, n => by
    rw [List.foldl_cons, ← min_fold ns]
    unfold PySem.W.minOf
    rw [List.foldl_cons]
    congr 1
    show (if decide (m < n) = true then m else n) = min n m
    by_cases c : m < n
    · rw [if_pos (decide_eq_true c)]; omega
    · rw [if_neg (by simpa using c)]; omega
section
variable {X : Cx} {Ex : WX} {pos p : Pos} {e : Expr} {m : MA2} {k : Nat}
theorem call_sumD (hc : X.calm = true) : CallR X (.builtin "sum") (fun vs H Q => ∃ a ns, vs = [V.ref a] ∧ IntSeq X.K H a ns ∧ Q (.int ns.sum) H) := by
  intro pins s σ H vs us Q I r ⟨a, ns, ev, hs, q⟩
  subst ev
  rw [Vals.ref1 r]
  obtain ⟨its, hi, _, hl⟩ := intSeq_at I hs
  obtain ⟨xs, ex⟩ := hi.allInts.items
  have tot : PySem.preSum (PySem.numAt xs) xs.size = ns.sum := by
    have e2 : PySem.numsOf (PySem.intItems xs).toList = ns := by rw [← ex]; exact hi.numsOf
    rw [PySem.nums_intItems] at e2
    rw [PySem.preSum_eq, List.take_of_length_le (by simp), e2]
  rw [ex] at hl
  rcases hl with hl | hl
  · exact PySem.sum_intListG (I.ok.hd hc) hl fun h' tk t hk => ⟨.int ns.sum, H, I.kept hk, ⟨t, by rw [tot]⟩, q⟩
  · exact PySem.W.ktm_sumG (I.ok.hd hc) hl fun h' tk t hk => ⟨.int ns.sum, H, I.kept hk, ⟨t, by rw [tot]⟩, q⟩
theorem call_maxD (hr : Room k X.A) (hc : X.calm = true) : CallR X (.builtin "max") (fun vs H Q => ∃ a n ns, vs = [V.ref a] ∧ IntSeq X.K H a (n :: ns) ∧ Q (.int (ns.foldl max n)) H) := by
  intro pins s σ H vs us Q I r ⟨a, n, ns, ev, hs, q⟩
  subst ev
  rw [Vals.ref1 r]
  obtain ⟨its, hi, _, hl⟩ := intSeq_at I hs
  have H0 := PySem.W.HoldAll.of_ints (h := s.heap) hi
  have end' : ∀ (i : Nat) (v : Value) (h' : Heap) (tk : Nat), its.toArray[i]? = some v → PySem.W.Holds h' v (PySem.W.maxOf n ns) → (∀ b o, s.heap.get? b = some o → h'.get? b = some o) → EP X pins σ Q v { s with heap := h', toks := tk } := fun i v h' tk _ hv hk => by
    obtain ⟨t, ev⟩ := PySem.W.int_of_holds hv
    exact ⟨.int (ns.foldl max n), H, I.kept hk, ⟨t, by rw [ev, max_fold]⟩, q⟩
  rcases hl with hl | hl
  · exact PySem.W.max_list_datum (I.ok.hd hc) hl H0 (hu_of hr) end'
  · exact PySem.W.max_tuple_datum (I.ok.hd hc) hl H0 (hu_of hr) end'
theorem call_minD (hr : Room k X.A) (hc : X.calm = true) : CallR X (.builtin "min") (fun vs H Q => ∃ a n ns, vs = [V.ref a] ∧ IntSeq X.K H a (n :: ns) ∧ Q (.int (ns.foldl min n)) H) := by
  intro pins s σ H vs us Q I r ⟨a, n, ns, ev, hs, q⟩
  subst ev
  rw [Vals.ref1 r]
  obtain ⟨its, hi, _, hl⟩ := intSeq_at I hs
  have H0 := PySem.W.HoldAll.of_ints (h := s.heap) hi
  have end' : ∀ (i : Nat) (v : Value) (h' : Heap) (tk : Nat), its.toArray[i]? = some v → PySem.W.Holds h' v (PySem.W.minOf n ns) → (∀ b o, s.heap.get? b = some o → h'.get? b = some o) → EP X pins σ Q v { s with heap := h', toks := tk } := fun i v h' tk _ hv hk => by
    obtain ⟨t, ev⟩ := PySem.W.int_of_holds hv
    exact ⟨.int (ns.foldl min n), H, I.kept hk, ⟨t, by rw [ev, min_fold]⟩, q⟩
  rcases hl with hl | hl
  · exact PySem.W.min_list_datum (I.ok.hd hc) hl H0 (hu_of hr) end'
  · exact PySem.W.min_tuple_datum (I.ok.hd hc) hl H0 (hu_of hr) end'
/-- sorted of a tuple of ints: its items are laid in a new list, and that is sorted -/
theorem sorted_tupI {prog : Program} {w : World} {A : Around} {E : Value → Shared → Prop} {s : Shared} {a : Addr} {its : List Value} {ns : List Int} {Q : Value → Shared → Prop} (hl : s.heap.IsTuple a its.toArray) (hz : its.length ≤ sizeLine) (hi : PyProof.Rows.IntsAre its ns)
    (h : ∀ (out : List Value) (p : Addr) (ep : Nat) (h' : Heap), PyProof.Rows.IntsAre out (out.map SrtO.iv) → (out.map SrtO.iv).Perm ns → (out.map SrtO.iv).Pairwise (· ≤ ·) → s.heap.get? p = none → h'.get? p = some (PyProof.Rows.seqObj "list" out.toArray ep) → (∀ b o, s.heap.get? b = some o → h'.get? b = some o) → Q (.ref p) { s with heap := h' }) :
    wpAny (model prog w) A (call (.builtin "sorted") [.ref a]) Q E s := by
  obtain ⟨o, ho, hcl, n, hd⟩ := hl
  apply Calls.call_function_entry PyProof.Rows.kind_sorted PyProof.Rows.plain_sorted PyProof.Rows.entry_sorted (PyProof.Rows.args_sorted1 _)
  unfold Builtin.«sorted»
  apply wpAny_bind (m := checkCount "sorted" 1 1 _)
  apply wpAny_pure
  apply wpAny_bind
  refine wpAny_collect_seq a (.inr rfl) ho hcl hd (fun h1 k1 => ?_) (by rw [List.size_toArray]; exact hz)
  rw [List.toList_toArray]
  apply wpAny_bind
  refine wpAny_newList ?_ hz
  generalize e2 : h1.push { cls := .type "list", data := .seq its.toArray } = h2
  have at2 : h2.get? h1.objs.size = some (PyProof.Rows.seqObj "list" its.toArray 0) := by rw [← e2]; exact Heap.get?_push_size _ rfl
  have k2 : ∀ b o, s.heap.get? b = some o → h2.get? b = some o := fun b o e => by rw [← e2]; exact Heap.get?_push_of_some _ (k1 b o e)
  have far : s.heap.get? h1.objs.size = none := by
    cases q : s.heap.get? h1.objs.size with
    | some o1 => exact absurd (Heap.lt_size (k1 _ _ q)) (Nat.lt_irrefl _)
    | none => rfl
  refine wpAny_bind (wpAny_holding (wpAny_call_entry PyProof.Rows.slot_list_sort ⟨_, at2, rfl⟩ PyProof.Rows.entry_list_sort ?_ (PyProof.Rows.args_list_sort _)))
  refine SrtO.list_sort_ord (s := { s with heap := h2 }) SrtO.swo_int at2 hz (fun two => SrtO.ints_sortable hi two) fun out o1 o2 => ⟨.none, rfl, ?_⟩
  obtain ⟨f1, f2, f3⟩ := SrtO.ints_out hi o1 o2
  obtain ⟨ep, at3⟩ := PyProof.Rows.sortedHeap_at (vs := its) (out := out.toArray) at2
  refine wpAny_pure ⟨_, rfl, h out _ ep _ f1 f2 f3 far at3 fun b o e => ?_⟩
  rw [PyProof.Rows.sortedHeap_old (fun z => by rw [z, far] at e; cases e) (Heap.lt_size (k2 b o e))]
  exact k2 b o e
theorem call_sortedD : CallR X (.builtin "sorted") (fun vs H Q => ∃ a ns, vs = [V.ref a] ∧ IntSeq X.K H a ns ∧ ∀ (ns' : List Int) (p : Addr), ns'.Perm ns → ns'.Pairwise (· ≤ ·) → H p = none → Q (.ref p) (upd H p (.lst (ns'.map V.int)))) := by
  intro pins s σ H vs us Q I r ⟨a, ns, ev, hs, q⟩
  rcases hs with hs | hs
  · exact cr_sortedI pins s σ H vs us Q I r ⟨a, ns, ev, hs, q⟩
  · subst ev
    rw [Vals.ref1 r]
    obtain ⟨its, rv, hl, hz⟩ := I.tuple hs
    refine sorted_tupI hl (by rw [← rv.length]; exact hz) rv.ints fun out p ep h' f1 f2 f3 far at3 hk => ?_
    have n : ((out.map SrtO.iv).map V.int).length ≤ sizeLine := by
      rw [List.length_map] at hz ⊢
      rw [f2.length_eq]; exact hz
    exact ⟨.ref p, upd H p (.lst ((out.map SrtO.iv).map V.int)), I.laidN (t' := s.toks) hk far (I.hok.gone far) ⟨n, out, ep, vals_of_ints f1, at3⟩, rfl, q _ p f2 f3 (I.hok.gone far)⟩
def fSum : List D → Option D
  | [d] => (seqInts d).map fun ns => .int ns.sum
  | _ => none
def maxI : List Int → Option Int
  | [] => none
  | n :: ns => some (ns.foldl max n)
def minI : List Int → Option Int
  | [] => none
  | n :: ns => some (ns.foldl min n)
def fMax : List D → Option D
  | [d] => ((seqInts d).bind maxI).map .int
  | _ => none
def fMin : List D → Option D
  | [d] => ((seqInts d).bind minI).map .int
  | _ => none
def insI (a : Int) : List Int → List Int
  | [] => [a]
  | b :: r => if a ≤ b then a :: b :: r else b :: insI a r
def sortI : List Int → List Int
  | [] => []
  | a :: r => insI a (sortI r)
theorem insI_perm (a : Int) : ∀ l : List Int, (insI a l).Perm (a :: l)
  | [] => .refl _
  | b :: r => by
    unfold insI
    split
    · exact .refl _
    · exact ((insI_perm a r).cons b).trans (.swap a b r)
theorem insI_mem {a x : Int} {l : List Int} (h : x ∈ insI a l) : x = a ∨ x ∈ l := by
  have := (insI_perm a l).mem_iff.mp h
  simpa using this
theorem insI_sorted (a : Int) : ∀ {l : List Int}, l.Pairwise (· ≤ ·) → (insI a l).Pairwise (· ≤ ·)
  | [], _ => by unfold insI; simp
  | b :: r, h => by
    unfold insI
    rw [List.pairwise_cons] at h
    split
    · rename_i hab
      rw [List.pairwise_cons, List.pairwise_cons]
      refine ⟨fun x hx => ?_, h.1, h.2⟩
      rcases List.mem_cons.mp hx with rfl | hx
      · exact hab
      · exact Int.le_trans hab (h.1 x hx)
    · rename_i hab
      rw [List.pairwise_cons]
      refine ⟨fun x hx => ?_, insI_sorted a h.2⟩
      rcases insI_mem hx with rfl | hx
      · omega
      · exact h.1 x hx
theorem sortI_perm : ∀ ns : List Int, (sortI ns).Perm ns
  | [] => .refl _
  | a :: r => (insI_perm a (sortI r)).trans ((sortI_perm r).cons a)
theorem sortI_sorted : ∀ ns : List Int, (sortI ns).Pairwise (· ≤ ·)
  | [] => .nil
  | a :: r => insI_sorted a (sortI_sorted r)
theorem sortI_uniq {ns ns' : List Int} (h : ns'.Perm ns) (s : ns'.Pairwise (· ≤ ·)) : ns' = sortI ns :=
  (h.trans (sortI_perm ns).symm).eq_of_pairwise (fun a b _ _ h1 h2 => Int.le_antisymm h1 h2) s (sortI_sorted ns)
def fSorted : List D → Option (List D)
  | [d] => (seqInts d).map fun ns => (sortI ns).map .int
  | _ => none
theorem dfn_sum : DFn X (fun vs H Q => ∃ a ns, vs = [V.ref a] ∧ IntSeq X.K H a ns ∧ Q (.int ns.sum) H) fSum := ⟨fun C O ad io H σ ρ vs ds d Q en rl hf k => by
  match ds, hf, rl with
  | [d0], hf, rl =>
    obtain ⟨v, rfl, r⟩ := rl.one
    simp only [fSum] at hf
    cases q : seqInts d0 with
    | none => rw [q] at hf; cases hf
    | some ns =>
      rw [q] at hf
      cases hf
      obtain ⟨a, rfl, hs, _⟩ := r.ints q
      exact ⟨a, ns, rfl, hs, k _ H Evo.refl en (.int _)⟩⟩
theorem dfn_max : DFn X (fun vs H Q => ∃ a n ns, vs = [V.ref a] ∧ IntSeq X.K H a (n :: ns) ∧ Q (.int (ns.foldl max n)) H) fMax := ⟨fun C O ad io H σ ρ vs ds d Q en rl hf k => by
  match ds, hf, rl with
  | [d0], hf, rl =>
    obtain ⟨v, rfl, r⟩ := rl.one
    simp only [fMax] at hf
    cases q : seqInts d0 with
    | none => rw [q] at hf; cases hf
    | some ns =>
      rw [q] at hf
      cases ns with
      | nil => cases hf
      | cons n ns =>
        cases hf
        obtain ⟨a, rfl, hs, _⟩ := r.ints q
        exact ⟨a, n, ns, rfl, hs, k _ H Evo.refl en (.int _)⟩⟩
theorem dfn_min : DFn X (fun vs H Q => ∃ a n ns, vs = [V.ref a] ∧ IntSeq X.K H a (n :: ns) ∧ Q (.int (ns.foldl min n)) H) fMin := ⟨fun C O ad io H σ ρ vs ds d Q en rl hf k => by
  match ds, hf, rl with
  | [d0], hf, rl =>
    obtain ⟨v, rfl, r⟩ := rl.one
    simp only [fMin] at hf
    cases q : seqInts d0 with
    | none => rw [q] at hf; cases hf
    | some ns =>
      rw [q] at hf
      cases ns with
      | nil => cases hf
      | cons n ns =>
        cases hf
        obtain ⟨a, rfl, hs, _⟩ := r.ints q
        exact ⟨a, n, ns, rfl, hs, k _ H Evo.refl en (.int _)⟩⟩
theorem dfn_sorted : DFnF X (fun vs H Q => ∃ a ns, vs = [V.ref a] ∧ IntSeq X.K H a ns ∧ ∀ (ns' : List Int) (p : Addr), ns'.Perm ns → ns'.Pairwise (· ≤ ·) → H p = none → Q (.ref p) (upd H p (.lst (ns'.map V.int)))) fSorted := ⟨fun C O ad io H σ ρ vs ds d Q en rl hf k => by
  match ds, hf, rl with
  | [d0], hf, rl =>
    obtain ⟨v, rfl, r⟩ := rl.one
    simp only [fSorted] at hf
    cases q : seqInts d0 with
    | none => rw [q] at hf; cases hf
    | some ns =>
      rw [q] at hf
      cases hf
      obtain ⟨a, rfl, hs, hz⟩ := r.ints q
      refine ⟨a, ns, rfl, hs, fun ns' p hp hs' hn => ?_⟩
      rw [sortI_uniq hp hs']
      exact k p _ hn (by rw [List.length_map, (sortI_perm ns).length_eq]; exact hz) (.of_ints _)⟩
theorem dsum (hc : X.calm = true) (hm : X.mg "sum" = none) (ha : DA2 X Ex [e] m) (hg : Gl X "sum" := by rfl) (he : starEach [e] X.env = (false, eval e X.env) :: starEach [] X.env := by rfl) (hpl : (backTo pos (starEach [] X.env)).any (·.1) = false := by rfl) : DE X Ex (.Call (.Name "sum" p) [e] [] pos) (mFn fSum m) := de_fnB (call_sumD hc) dfn_sum hg hm PyProof.Rows.boot_sum ha (by decide) (by decide) he hpl
theorem dmax (hr : Room k X.A) (hc : X.calm = true) (hm : X.mg "max" = none) (ha : DA2 X Ex [e] m) (hg : Gl X "max" := by rfl) (he : starEach [e] X.env = (false, eval e X.env) :: starEach [] X.env := by rfl) (hpl : (backTo pos (starEach [] X.env)).any (·.1) = false := by rfl) : DE X Ex (.Call (.Name "max" p) [e] [] pos) (mFn fMax m) := de_fnB (call_maxD hr hc) dfn_max hg hm PyProof.Rows.boot_max ha (by decide) (by decide) he hpl
theorem dmin (hr : Room k X.A) (hc : X.calm = true) (hm : X.mg "min" = none) (ha : DA2 X Ex [e] m) (hg : Gl X "min" := by rfl) (he : starEach [e] X.env = (false, eval e X.env) :: starEach [] X.env := by rfl) (hpl : (backTo pos (starEach [] X.env)).any (·.1) = false := by rfl) : DE X Ex (.Call (.Name "min" p) [e] [] pos) (mFn fMin m) := de_fnB (call_minD hr hc) dfn_min hg hm PyProof.Rows.boot_min ha (by decide) (by decide) he hpl
theorem dsorted (hm : X.mg "sorted" = none) (ha : DA2 X Ex [e] m) (hg : Gl X "sorted" := by rfl) (he : starEach [e] X.env = (false, eval e X.env) :: starEach [] X.env := by rfl) (hpl : (backTo pos (starEach [] X.env)).any (·.1) = false := by rfl) : DF X Ex (.Call (.Name "sorted" p) [e] [] pos) (mFnF fSorted m) := df_fnB call_sortedD dfn_sorted hg hm PyProof.Rows.boot_sorted ha (by decide) (by decide) he hpl
end
end DL
set_option Elab.async false
set_option linter.all false
set_option maxRecDepth 100000
set_option maxHeartbeats 1000000
namespace DL
open PySem PySem.Spec L2
/-! ### repr -/
def okShow (p : PyData) : Bool := p.showable && !p.hasDict && decide (p.depth ≤ 64) && decide (p.shown.length ≤ sizeLine)
def fRepr : List D → Option D
  | [d] => match d.py with
    | some p => if okShow p = true then some (.str p.shown) else none
    | none => none
  | _ => none
section
variable {X : Cx} {Ex : WX} {pos p : Pos} {e : Expr} {m : MA2} {k : Nat}
theorem call_reprD (hr : Rg k X.A) : CallR X (.builtin "repr") (fun vs H Q => ∃ v q, vs = [v] ∧ Dp X.K H v q ∧ okShow q = true ∧ Q (.str q.shown) H) := by
  intro pins s σ H vs us Q I r ⟨v, q, ev, hd, ok, hq⟩
  subst ev
  obtain ⟨u, rfl, rv⟩ := vals1 r
  unfold okShow at ok
  simp only [Bool.and_eq_true, decide_eq_true_eq, Bool.not_eq_true'] at ok
  obtain ⟨⟨⟨h1, h2⟩, h3⟩, h4⟩ := ok
  have hu := hr.rm.un
  have fin : ∀ (a : Addr), u = .ref a → wpAny (model X.prog X.w) X.A (call (.builtin "repr") [u]) (EP X pins σ Q) X.xe s := fun a ea => by
    obtain ⟨as, rd⟩ := hd.reads I q v u rv
    subst ea
    exact repr_of_reads' rd h1 (PyData.noDict_hsm h2) hr.gs (by omega) (fun _ _ z => z) (fun h' t tk hk => ⟨.str q.shown, H, I.kept hk, ⟨t, rfl⟩, hq⟩) h4
  cases hd with
  | non =>
    cases rv
    exact PySem.P.repr_of_none ⟨.str "None", H, I.tok _, ⟨_, rfl⟩, hq⟩
  | bl b =>
    cases rv
    exact PySem.P.repr_of_bool ⟨.str (if b then "True" else "False"), H, I.tok _, ⟨_, rfl⟩, hq⟩
  | int i =>
    obtain ⟨t, rfl⟩ := rv
    exact PySem.P.repr_of_int (by simpa [PyData.showable] using h1) ⟨.str (toString i), H, I.tok _, ⟨_, rfl⟩, hq⟩
  | str x =>
    obtain ⟨t, rfl⟩ := rv
    exact PySem.P.repr_of_str ⟨.str (reprText x), H, I.tok _, ⟨_, rfl⟩, hq⟩ h4
  | lst h5 h6 => exact fin _ rv
  | tup h5 h6 => exact fin _ rv
theorem dfn_repr : DFn X (fun vs H Q => ∃ v q, vs = [v] ∧ Dp X.K H v q ∧ okShow q = true ∧ Q (.str q.shown) H) fRepr := ⟨fun C O ad io H σ ρ vs ds d Q en rl hf k => by
  match ds, hf, rl with
  | [d0], hf, rl =>
    obtain ⟨v, rfl, r⟩ := rl.one
    simp only [fRepr] at hf
    cases q : d0.py with
    | none => rw [q] at hf; cases hf
    | some p =>
      rw [q] at hf
      dsimp only at hf
      split at hf
      · rename_i ok
        cases hf
        exact ⟨v, p, rfl, r.dp q, ok, k _ H Evo.refl en (.str _)⟩
      · cases hf⟩
theorem drepr (hr : Rg k X.A) (hm : X.mg "repr" = none) (ha : DA2 X Ex [e] m) (hg : Gl X "repr" := by rfl) (he : starEach [e] X.env = (false, eval e X.env) :: starEach [] X.env := by rfl) (hpl : (backTo pos (starEach [] X.env)).any (·.1) = false := by rfl) : DE X Ex (.Call (.Name "repr" p) [e] [] pos) (mFn fRepr m) := de_fnB (call_reprD hr) dfn_repr hg hm PyProof.Rows.boot_repr ha (by decide) (by decide) he hpl
end
end DL
set_option Elab.async false
set_option linter.all false
set_option maxRecDepth 100000
set_option maxHeartbeats 3200000
/-! set(xs) of a list whose items are keys of one kind -/
namespace DL
/-- each key where it comes first -/
def dedup {K : Type} [BEq K] (xs : List K) : List K := xs.foldl (fun σ v => if σ.any (· == v) then σ else σ ++ [v]) []
end DL
namespace DLS
open PySem PySem.Spec DL
section
variable {K : Type} [DecidableEq K] [BEq K] [LawfulBEq K]
abbrev Has (ks : List K) : K → Bool := fun k => (dedup ks).any (· == k)
theorem dedup_snoc (ks : List K) (k : K) : dedup (ks ++ [k]) = if Has ks k = true then dedup ks else dedup ks ++ [k] := by
  unfold Has dedup
  rw [List.foldl_append]
  rfl
theorem has_snoc (ks : List K) (k : K) : Has (ks ++ [k]) = fun x => Has ks x || decide (x = k) := by
  funext x
  show (dedup (ks ++ [k])).any (· == x) = _
  rw [dedup_snoc]
  by_cases h : Has ks k = true
  · rw [if_pos h]
    by_cases e : x = k
    · rw [e, decide_eq_true rfl, Bool.or_true]; exact h
    · rw [decide_eq_false e, Bool.or_false]
  · rw [if_neg h, List.any_append]
    congr 1
    rw [List.any_cons, List.any_nil, Bool.or_false]
    by_cases e : x = k
    · rw [e, decide_eq_true rfl]; exact beq_self_eq_true k
    · rw [decide_eq_false e]; exact beq_false_of_ne (Ne.symm e)
theorem len_snoc (ks : List K) (k : K) : (dedup (ks ++ [k])).length = if Has ks k = true then (dedup ks).length else (dedup ks).length + 1 := by
  rw [dedup_snoc]
  by_cases h : Has ks k = true
  · rw [if_pos h, if_pos h]
  · rw [if_neg h, if_neg h, List.length_append]; rfl
theorem dedup_le (ks : List K) : (dedup ks).length ≤ ks.length := by
  have gen : ∀ (r l : List K), (dedup l).length ≤ l.length → (dedup (l ++ r)).length ≤ (l ++ r).length := fun r => by
    induction r with
    | nil => intro l h; rw [List.append_nil]; exact h
    | cons k r ih =>
      intro l h
      have := ih (l ++ [k]) (by
        rw [len_snoc, List.length_append]
        split
        · exact Nat.le_add_right_of_le h
        · exact Nat.succ_le_succ h)
      rwa [List.append_assoc] at this
  exact gen ks [] (Nat.le_refl _)
end
section
variable {K : Type} [DecidableEq K] [BEq K] [LawfulBEq K] {prog : Program} {w : World} {A : Around} {I S : Addr} {fp wr : List Addr} {G : Array GenState → Array GenState → Prop} {P : Nat → Value → Prop} {St : Nat → Shared → Prop} {knd : PySem.KeyKind prog w K} {ks : List K} {R : Result → Shared → Prop}
/-- the set at S holds the keys ks, each once -/
abbrev Holds (knd : PySem.KeyKind prog w K) (h : Heap) (S : Addr) (ks : List K) : Prop := h.SetOf knd S (Has ks) (dedup ks).length
theorem holds_kept {h h' : Heap} (H : Holds knd h S ks) (k : ∀ o, h.get? S = some o → h'.get? S = some o) : Holds knd h' S ks := by
  obtain ⟨o, es, ep, t, e, r⟩ := H
  exact ⟨o, es, ep, t, k o e, r⟩
/-- the loop, from where the keys pre are laid, rest are to come -/
theorem fill (W : WalksS prog w A.in1 I fp wr G ks.length P St) (key : ∀ (i : Nat) (v : Value), P i v → ∃ k, ks[i]? = some k ∧ knd.is k v = true ∧ v.scannable = true) (far : S ∉ fp) (few : ks.length + 1 < scanBound) :
    ∀ (rest pre : List K) (s : Shared), pre ++ rest = ks → St pre.length s → Holds knd s.heap S pre → (∀ s', Moved (S :: wr) G s s' → Holds knd s'.heap S ks → R (.ok (.ret .none)) s') →
      codeAny (model prog w) A (.builtin "set.update.loop" ⟨[.ref S, .ref I], []⟩) R s
  | [], pre, s, e, st, H, q => by
    rw [List.append_nil] at e
    apply codeAny_builtin PyProof.Rows.F.entry_set_update_loop
    rw [Around.under_plainId PyProof.Rows.F.plain_set_update_loop _]
    show wpAny _ _ (pyNext (.ref I) >>= _) _ _ _
    apply wpAny_bind
    refine W.done s _ _ (by rw [← e]; exact st) fun s' m => wpAny_pure (q s' (m.mono fun b => List.mem_cons_of_mem S) ?_)
    rw [← e]
    exact holds_kept H fun o => m.heap S o fun z => far (W.sub S z)
  | k :: rest, pre, s, e, st, H, q => by
    have at' : ks[pre.length]? = some k := by rw [← e, List.getElem?_append_right (Nat.le_refl _)]; simp
    have lt : pre.length < ks.length := (List.getElem?_eq_some_iff.mp at').1
    apply codeAny_builtin PyProof.Rows.F.entry_set_update_loop
    rw [Around.under_plainId PyProof.Rows.F.plain_set_update_loop _]
    show wpAny _ _ (pyNext (.ref I) >>= _) _ _ _
    apply wpAny_bind
    refine W.item pre.length s _ _ lt st fun v s1 hv st1 m1 => ?_
    obtain ⟨k1, e1, isk, scan⟩ := key _ _ hv
    obtain rfl : k = k1 := Option.some.inj (at'.symm.trans e1)
    have H1 : Holds knd s1.heap S pre := holds_kept H fun o => m1.heap S o fun z => far (W.sub S z)
    show wpAny _ _ (holding [v] (setAdd S v) >>= _) _ _ _
    apply wpAny_bind
    apply wpAny_holding
    show wpAny _ _ (holding _ (pyHash v >>= fun hv => setAddHashed S v hv)) _ _ _
    apply wpAny_holding
    apply wpAny_bind
    apply knd.pyHash isk
    refine wpAny_setAddHashed_of isk scan (s := { s1 with toks := s1.toks + 1 }) H1 (Nat.lt_of_le_of_lt (Nat.succ_le_succ (Nat.le_trans (dedup_le pre) (Nat.le_of_lt lt))) few) fun h2 same H2 => ?_
    have H2 : Holds knd h2 S (pre ++ [k]) := by
      show h2.SetOf knd S _ _
      rw [has_snoc, len_snoc]
      exact H2
    have off : ∀ b, b ≠ S → h2.get? b = s1.heap.get? b := fun b hb => same.2 b hb
    refine wpAny_pure ⟨plainId_quiet PyProof.Rows.F.plain_set_update_loop _, fill W key far few rest (pre ++ [k]) _ (by rw [List.append_assoc]; exact e) ?_ H2 fun s3 m3 H3 => q s3 ?_ H3⟩
    · rw [List.length_append]
      exact W.frame _ s1 _ _ st1 (Nat.le_succ _) fun b hb o eb => (off b fun z => far (z ▸ hb)).trans eb
    · refine Moved.trans W.gtrans ((m1.mono fun b => List.mem_cons_of_mem S).then_heap (Nat.le_succ _) fun b o hb eb => ?_) m3
      exact (off b fun z => hb (by rw [z]; exact List.mem_cons_self)).trans eb
end
section
variable {K : Type} [DecidableEq K] [BEq K] [LawfulBEq K] {prog : Program} {w : World} {A : Around} {E : Value → Shared → Prop} {s : Shared} {knd : PySem.KeyKind prog w K} {ks : List K} {l S : Addr} {its : Array Value}
abbrev emptyO (led : Bool) : Obj := { cls := .type "set", dict := none, data := .set #[] 0 (.fresh 0 0 led) }
/-- set.__init__ of an empty set, told a list -/
theorem init_list {led : Bool} {P : PySem.Fin → Shared → Prop} (calm : A.handled = none) (hS : s.heap.get? S = some (emptyO led)) (hl : s.heap.IsList l its) (key : ∀ (i : Nat) (v : Value), its[i]? = some v → ∃ k, ks[i]? = some k ∧ knd.is k v = true ∧ v.scannable = true) (hn : ks.length = its.size) (few : ks.length + 1 < scanBound)
    (q : ∀ s', (∀ b o, b ≠ S → s.heap.get? b = some o → s'.heap.get? b = some o) → s'.gens = s.gens → s'.drawn = s.drawn → s'.os = s.os → Holds knd s'.heap S ks → P (.done (.ret .none)) s') :
    wpAny (model prog w) A (Builtin.«set.__init__» ⟨[.ref S, .ref l], []⟩) P E s := by
  obtain ⟨⟨oc, od, oq, os⟩, eo, e1, n, e2⟩ := hl
  simp only at e1 e2
  subst e1 e2
  have n1 := PySem.F.sub_list_set
  have n2 := PySem.F.sub_list_frozenset
  have n3 : (Value.type "list" == Value.type "dict") = false := by decide
  have L : s.heap.IsList l its := ⟨_, eo, rfl, n, rfl⟩
  unfold Builtin.«set.__init__» noKeywords Builtin.Frozenset.updateFrom
  generalize it : pyIter = PI
  wp_walk
  subst it
  apply wpAny_pyIter_list L
  apply wpAny_bind
  apply wpAny_runValue
  have ltl := Heap.lt_size eo
  have ltS := Heap.lt_size hS
  have neq : l ≠ S := fun z => by
    rw [z, hS] at eo
    have := congrArg Obj.data (Option.some.inj eo)
    cases this
  have W := (Walks.list (prog := prog) (w := w) (A := A.in1) calm s.heap.objs.size l (Nat.ne_of_lt ltl) its).toS
  rw [← hn] at W
  refine fill (knd := knd) (ks := ks) W key (fun z => ?_) few ks [] _ rfl ⟨⟨_, Heap.get?_push_size _ rfl, rfl, rfl⟩, L.push _⟩ ?_ fun s' m H => ?_
  · rcases List.mem_cons.mp z with z | z
    · exact Nat.ne_of_lt ltS z
    · exact neq (List.mem_singleton.mp z).symm
  · refine PyProof.Rows.SetOf_congr ((PyProof.Rows.setObjOf_fresh (knd := knd) led).setOf (Heap.get?_push_of_some _ hS) (by unfold scanBound; omega)) (fun _ => rfl) rfl
  · apply wpAny_pure
    apply wpAny_pure
    refine q s' (fun b o hb eb => ?_) m.gens m.drawn m.os H
    refine m.heap b o (fun z => ?_) (Heap.get?_push_of_some _ eb)
    rcases List.mem_cons.mp z with z | z
    · exact hb z
    · exact Nat.ne_of_lt (Heap.lt_size eb) (List.mem_singleton.mp z)
/-- set(xs) of a list of keys of one kind -/
theorem call_setK {Q : Value → Shared → Prop} (calm : A.handled = none) (hl : s.heap.IsList l its) (key : ∀ (i : Nat) (v : Value), its[i]? = some v → ∃ k, ks[i]? = some k ∧ knd.is k v = true ∧ v.scannable = true) (hn : ks.length = its.size) (few : ks.length + 1 < scanBound)
    (q : ∀ (h' : Heap) (tk : Nat), Holds knd h' s.heap.objs.size ks → (∀ b o, s.heap.get? b = some o → h'.get? b = some o) → Q (.ref s.heap.objs.size) { s with heap := h', toks := tk }) :
    wpAny (model prog w) A (call (.type "set") [.ref l]) Q E s := by
  have C := PySem.F.called_set
  obtain ⟨c, tl, mro⟩ := C.mro
  have made := C.made
  have sub := C.sub
  have noT := C.notType
  have can := C.canCreate
  have chk := PySem.F.typeCall_set_1 (.ref l)
  apply wpAny_call
  apply codeAny_of_tree
  show wpAny _ _ (callAny (.type "set") _) _ _ _
  refine wpAny_pure ⟨Code.quiet_builtin _ (by decide +kernel), codeAny_builtin PySem.F.entry_type_call ?_⟩
  rw [Around.under_plain (weight_type_call_type "set" [.ref l] []) rfl]
  repeat (any_goals (first | assumption | wp_step))
  apply codeAny_mono (code_set_new_1 (.ref l) (E := E) (Q₁ := fun v s1 => ∃ led : Bool, v = .ref s.heap.objs.size ∧ s1 = { s with heap := s.heap.push (emptyO led) }) fun led => ⟨led, rfl, rfl⟩)
  intro r s1 made1
  match r, made1 with
  | .error e, h => exact h
  | .ok .next, h => exact h.elim
  | .ok .brk, h => exact h.elim
  | .ok .cont, h => exact h.elim
  | .ok (.ret v), ⟨led, ev, es⟩ =>
    subst ev es
    have at0 : (s.heap.push (emptyO led)).get? s.heap.objs.size = some (emptyO led) := Heap.get?_push_size _ rfl
    have ty : Shared.TypeIs { s with heap := s.heap.push (emptyO led) } (.ref s.heap.objs.size) "set" := ⟨_, at0, rfl⟩
    have look := C.init.lookup
    have bnd := C.init.bind (.ref s.heap.objs.size)
    repeat (any_goals (first | assumption | wp_step))
    apply codeAny_mono (codeAny_call_builtin (R := wants (fun v s2 => v = .none ∧ ∃ h' tk, s2 = { s with heap := h', toks := tk } ∧ Holds knd h' s.heap.objs.size ks ∧ ∀ b o, s.heap.get? b = some o → h'.get? b = some o) E) C.init.plain PySem.F.entry_set_init
      (check_set_init_1 ty (init_list (ks := ks) (knd := knd) (by exact calm) at0 (hl.push _) key hn few fun s2 k2 g2 d2 o2 H2 => ?_)))
    · intro r2 s2 end2
      match r2, end2 with
      | .error e, h => exact h
      | .ok .next, h => exact h.elim
      | .ok .brk, h => exact h.elim
      | .ok .cont, h => exact h.elim
      | .ok (.ret v), ⟨ev, h', tk, es, H2, k2⟩ =>
        subst ev es
        repeat (any_goals (first | assumption | wp_step))
        exact q h' tk H2 k2
    · obtain ⟨h2, g3, d3, t3, o3⟩ := s2
      simp only at g2 d2 o2
      subst g2 d2 o2
      exact ⟨rfl, h2, t3, rfl, H2, fun b o e => k2 b o (Nat.ne_of_lt (Heap.lt_size e)) (Heap.get?_push_of_some _ e)⟩
end
end DLS
set_option Elab.async false
set_option linter.all false
set_option maxRecDepth 100000
set_option maxHeartbeats 1000000
namespace DL
open PySem PySem.Spec L2
/-- how many unlike ones: texts, or ints -/
def setLen (d : D) : Option Nat := match d with
  | .lst xs => match strsOf xs with
    | some ys => if ys.length < 4000 then some (dedup ys).length else none
    | none => match intsOf xs with
      | some ns => if ns.length < 4000 then some (dedup ns).length else none
      | none => none
  | _ => none
section
variable {X : Cx} {Ex : WX} {pos p p2 pos2 : Pos} {e : Expr} {m : ME}
def tLenSet (K : PySem.W.Frag) (t : TE) : TE := fun σ H Q => t σ H fun x H1 => (∃ l, ∃ ys : List Str, x = .ref l ∧ SqL K H1 l (ys.map V.str) ∧ ys.length < 4000 ∧ Q (.int (dedup ys).length) H1) ∨ (∃ l, ∃ ys : List Int, x = .ref l ∧ SqL K H1 l (ys.map V.int) ∧ ys.length < 4000 ∧ Q (.int (dedup ys).length) H1)
theorem pe_lenset {t : TE} (hc : X.calm = true) (hml : X.mg "len" = none) (hms : X.mg "set" = none) (he : PE X e t) (hgl : Gl X "len" := by rfl) (hgs : Gl X "set" := by rfl) (na : starEach [e] X.env = (false, eval e X.env) :: starEach [] X.env := by rfl) (nb : starEach [.Call (.Name "set" p2) [e] [] pos2] X.env = (false, eval (.Call (.Name "set" p2) [e] [] pos2) X.env) :: starEach [] X.env := by rfl) :
    PE X (.Call (.Name "len" p) [.Call (.Name "set" p2) [e] [] pos2] [] pos) (tLenSet X.K t) := by
  constructor
  intro pins s σ H Q I h
  refine PyProof.Rows.Call_ (ld_blt I hgl hml PySem.boot_len ?_)
  refine PyProof.Rows.callWith_builtin1 (PyProof.Rows.args_cons ?_ rfl) nb rfl
  refine PyProof.Rows.Call_ (ld_blt I hgs hms PyProof.Rows.boot_set ?_)
  refine PyProof.Rows.callWith_type1 (PyProof.Rows.args_cons (thn (he.run pins s σ H _ I h) ?_) na) na rfl
  rintro v s1 ⟨x, H1, I1, r1, q1⟩
  refine PyProof.Rows.args_nil ?_
  have fin : ∀ {K : Type} [DecidableEq K] [BEq K] [LawfulBEq K] (knd : PySem.KeyKind X.prog X.w K) (ys : List K), ys.length < 4000 → Q (.int (dedup ys).length) H1 → ∀ (h' : Heap) (tk : Nat), DLS.Holds knd h' s1.heap.objs.size ys → (∀ b o, s1.heap.get? b = some o → h'.get? b = some o) →
      wpAny (model X.prog X.w) X.A (spliced (backTo pos (starEach [] X.env))) (fun vs s₂ => wpAny (model X.prog X.w) X.A (call (.builtin "len") (Value.ref s1.heap.objs.size :: vs)) (EP X pins σ Q) X.xe s₂) X.xe { s1 with heap := h', toks := tk } := fun {K} _ _ _ knd ys hz hq h' tk hS hk => by
    apply PyProof.Rows.args_nil
    have le := DLS.dedup_le ys
    obtain ⟨o, es, ep, t, ho, ex, hd, _, _, _, fits, size⟩ := hS
    have I2 : Inv X pins σ H1 { s1 with heap := h', toks := tk } := I1.kept hk
    exact call_len_set ho ex hd fits (by rw [size]; omega) ⟨.int (dedup ys).length, H1, I2.tok _, ⟨_, by rw [size]⟩, hq⟩
  rcases q1 with ⟨l, ys, rfl, hs, hz, q⟩ | ⟨l, ys, rfl, hs, hz, q⟩
  · cases r1
    obtain ⟨its, rv, pl, hsz⟩ := I1.list hs
    have hl : ys.length = its.toArray.size := by rw [List.size_toArray, ← rv.length, List.length_map]
    refine DLS.call_setK (knd := strKind X.prog X.w) (ks := ys) (I1.ok.hd hc) pl.isList (fun i v hv => ?_) hl (by unfold scanBound; omega) fun h' tk hS hk => fin _ ys hz q h' tk hS hk
    have hi : i < ys.length := by
      have := (Array.getElem?_eq_some_iff.mp hv).1
      rw [hl]; exact this
    obtain ⟨u, e1, tk, e2⟩ := rv.get (i := i) (x := .str ys[i]) (by simp [hi])
    have e3 : v = u := by
      have : its[i]? = some v := by simpa using hv
      exact Option.some.inj (this.symm.trans e1)
    rw [e3, e2]
    exact ⟨ys[i], List.getElem?_eq_getElem hi, PySem.strKind_is _ _ _ _, rfl⟩
  · cases r1
    obtain ⟨its, rv, pl, hsz⟩ := I1.list hs
    have hl : ys.length = its.toArray.size := by rw [List.size_toArray, ← rv.length, List.length_map]
    refine DLS.call_setK (knd := PySem.intKind X.prog X.w) (ks := ys) (I1.ok.hd hc) pl.isList (fun i v hv => ?_) hl (by unfold scanBound; omega) fun h' tk hS hk => fin _ ys hz q h' tk hS hk
    have hi : i < ys.length := by
      have := (Array.getElem?_eq_some_iff.mp hv).1
      rw [hl]; exact this
    obtain ⟨u, e1, tk, e2⟩ := rv.get (i := i) (x := .int ys[i]) (by simp [hi])
    have e3 : v = u := by
      have : its[i]? = some v := by simpa using hv
      exact Option.some.inj (this.symm.trans e1)
    rw [e3, e2]
    exact ⟨ys[i], List.getElem?_eq_getElem hi, PySem.intKind_is _ _ _ _, rfl⟩
def mLenSet (m : ME) : ME := fun ρ => (m ρ).bind fun d ρ1 => match setLen d with
  | some n => .ok (.int n) ρ1
  | none => .bad
theorem dlenset (hc : X.calm = true) (hml : X.mg "len" = none) (hms : X.mg "set" = none) (he : DE X Ex e m) (hgl : Gl X "len" := by rfl) (hgs : Gl X "set" := by rfl) (na : starEach [e] X.env = (false, eval e X.env) :: starEach [] X.env := by rfl) (nb : starEach [.Call (.Name "set" p2) [e] [] pos2] X.env = (false, eval (.Call (.Name "set" p2) [e] [] pos2) X.env) :: starEach [] X.env := by rfl) :
    DE X Ex (.Call (.Name "len" p) [.Call (.Name "set" p2) [e] [] pos2] [] pos) (mLenSet m) := by
  obtain ⟨t, pe, r⟩ := he.run
  refine ⟨_, pe_lenset hc hml hms pe hgl hgs na nb, fun C O ad io H σ ρ Q en h => ?_⟩
  refine r C O ad io H σ ρ _ en (Post.bind h fun d ρ1 v H1 _ ev1 en1 r1 h1 => ?_)
  cases d with
  | lst xs =>
    cases r1 with
    | lst g1 g2 g3 g4 =>
      cases q : strsOf xs with
      | some ys =>
        simp only [setLen, q] at h1
        split at h1
        · rename_i n hn
          split at hn
          · rename_i hz
            cases hn
            rw [strsOf_map q] at g4
            have e := g4.strs
            subst e
            exact .inl ⟨_, ys, rfl, .inl g1, hz, h1 _ H1 Evo.refl en1 (.int _)⟩
          · cases hn
        · exact h1.elim
      | none =>
        cases q2 : intsOf xs with
        | none =>
          simp only [setLen, q, q2] at h1
          exact h1.elim
        | some ys =>
          simp only [setLen, q, q2] at h1
          split at h1
          · rename_i n hn
            split at hn
            · rename_i hz
              cases hn
              rw [intsOf_map q2] at g4
              have e := g4.ints
              subst e
              exact .inr ⟨_, ys, rfl, .inl g1, hz, h1 _ H1 Evo.refl en1 (.int _)⟩
            · cases hn
          · exact h1.elim
  | _ => exact h1.elim
end
end DL
set_option Elab.async false
set_option linter.all false
set_option maxRecDepth 100000
set_option maxHeartbeats 2000000
/-! an own exception: class E(ValueError) with __init__(self, value): super().__init__(value); self.value = value, and its heirs -/
namespace PySem
namespace DErr
open PySem.W PySem.Calls PyProof.Rows PySem.HandSPX
def iA : Arguments := { posonlyargs := [], args := [{ arg := "self", annotation := none, pos := ⟨4, 17, 4, 21⟩ }, { arg := "value", annotation := none, pos := ⟨4, 23, 4, 28⟩ }], vararg := none, kwonlyargs := [], kw_defaults := [], kwarg := none, defaults := [] }
def iB : List Stmt := [.Expr (.Call (.Attribute (.Call (.Name "super" ⟨5, 8, 5, 13⟩) [] [] ⟨5, 8, 5, 15⟩) "__init__" ⟨5, 8, 5, 24⟩) [.Name "value" ⟨5, 25, 5, 30⟩] [] ⟨5, 8, 5, 31⟩) ⟨5, 8, 5, 31⟩, .Assign [.Attribute (.Name "self" ⟨6, 8, 6, 12⟩) "value" ⟨6, 8, 6, 18⟩] (.Name "value" ⟨6, 21, 6, 26⟩) ⟨6, 8, 6, 26⟩]
def iS : Scope := { kind := .function, names := [(PySem.Str.ofString "self", .local), (PySem.Str.ofString "value", .local), (PySem.Str.ofString "__class__", .free), (PySem.Str.ofString "super", .globalImplicit)], isGenerator := false, isCoroutine := false, more := [] }
/-- what is written of the class c at C, an heir of (or) the class at D whose __init__ stands at fI -/
structure ErrT (P : Program) (K : Frag) (mg : Str → Option Value) (c : Str) (C D fI : Addr) : Prop where
  gC : mg c = some (.ref C)
  cls : ∃ nm q N bs bm sn sub ab col dd k0 k1 k2 k3 k5, K.lookup C = some (excClassObj nm q C N bs bm true sn sub ab col dd k0 k1 k2 k3 k5 "ValueError.__new__") ∧ refsVE bm = true
  sa : findIn K (.ref C) "__setattr__" = some (some (.builtin "object.__setattr__"))
  ga : findIn K (.ref C) "__getattribute__" = some (some (.builtin "BaseException.__getattribute__"))
  gg : findIn K (.ref C) "__getattr__" = some none
  noN : findIn K (.ref C) "value" = some none
  iC : findIn K (.ref C) "__init__" = some (some (.ref fI))
  tC : typeIn K (.ref fI) = some (.type "function")
  kC : keepIn K (.ref C) = true
  exC : subIn K (.ref C) (.type "BaseException") = some true
  tyC : typeIn K (.ref C) = some (.type "type")
  hdC : hasDictIn K C = true
  sup : ks_superIn K C D "__init__" = some (some (.builtin "ValueError.__init__"))
  hB : subIn K (.ref C) (.type "ValueError") = some true
  hsub : mroIn K C (.ref D) = some true
  opq : nsIn K cStatics "thirdparty.any" = some none
  noS : mg "super" = none
  top : (P.main.scope.names.lookup ("super" : Str)).isSome = false
  clsD : ∃ oD od cd sl, K.lookup D = some ⟨oD, od, .cls cd, sl⟩
  fn : ∃ (oc : Value) (od : Option Addr) (doc pm : Value) (an : Option Addr) (cda cc : Addr) (ct : Value) (osl : Array (Option Value)) (ccl cl : Value) (cdd cld : Option Addr) (vs : Array Value) (ccs csl : Array (Option Value)) (file : Str) (tf : Tok),
    K.lookup fI = some ⟨oc, od, .func (ksFn "__init__" "EquationError.__init__" iA iB iS .none .none doc pm an (.ref cda) ct cc), osl⟩ ∧ codeIn K (.ref cda) "EquationError.__init__" = true ∧
      K.lookup cda = some ⟨ccl, cdd, .fields vs, ccs⟩ ∧ vs[2]? = some (.str file tf) ∧ ((P.main.file : Str) == file) = true ∧ K.lookup cc = some ⟨cl, cld, .cell (some (.ref D)), csl⟩
/-- what __init__ leaves of a fresh exception at x -/
structure InitEnd (h h' : Heap) (x C dx t1 : Addr) (v : Value) : Prop where
  keep : ∀ b o, b ≠ x → h.get? b = some o → h'.get? b = some o
  obj : h'.get? x = some { cls := .ref C, dict := some dx, data := .fields #[.ref t1, .none, .none, .none, .bool false, .none] }
  dbig : h.objs.size ≤ dx
  dne : dx ≠ x
  ns : h'.Ns1 dx (fun y => if y = "value" then some v else none)
structure OwnMade (h h' : Heap) (e C d : Addr) (v : Value) : Prop where
  keep : ∀ b o, h.get? b = some o → h'.get? b = some o
  new : h.objs.size ≤ e
  obj : ∃ oe vs, h'.get? e = some oe ∧ oe.cls = .ref C ∧ oe.dict = some d ∧ oe.data = .fields vs ∧ vs[1]? = some .none
  dbig : h.objs.size ≤ d
  dne : d ≠ e
  ns : h'.Ns1 d (fun y => if y = "value" then some v else none)
section
variable {P : Program} {w : World} {A : Around} {E : Value → Shared → Prop} {R : Result → Shared → Prop} {s : Shared} {K : Frag} {mg : Str → Option Value} {c : Str} {C D fI : Addr}
theorem kept_but {h h' : Heap} {x : Addr} (X : K.In h) (hx : K.lookup x = none) (k : ∀ b o, b ≠ x → h.get? b = some o → h'.get? b = some o) : K.In h' := by
  intro a o e
  refine k a o (fun z => ?_) (X a o e)
  rw [z, hx] at e; cases e
theorem init_run (T : ErrT P K mg c C D fI) {x t0 : Addr} {v : Value} (X : K.In s.heap) (hlim : s.heap.NoLimit) (hmg : s.heap.Ns mainGlobals mg) (hbt : ∃ mb : Str → Option Value, s.heap.Ns builtinsNs mb ∧ ∀ y : Str, y ≠ "__name__" → mb y = bootBuiltins y)
    (hx : s.heap.get? x = some (excO C t0)) (hnx : K.lookup x = none) (hroom : A.depth < recursionLimit)
    (hq : ∀ h' tk dx t1, InitEnd s.heap h' x C dx t1 v → R (.ok (.ret .none)) { s with heap := h', toks := tk }) :
    codeAny (model P w) A (.call (.ref fI) ⟨[.ref x, v], []⟩) R s := by
  obtain ⟨oc, od, doc, pm, an, cda, cc, ct, osl, ccl, cl, cdd, cld, vs, ccs, csl, file, tf, ho, hcd, hcode, hvs, hfile, hcell⟩ := T.fn
  obtain ⟨nm, q, N, bs, bm, sn, sub, ab, col, dd, k0, k1, k2, k3, k5, hC, hbm⟩ := T.cls
  obtain ⟨oD, odD, cdD, slD, hD⟩ := T.clsD
  obtain ⟨mb, hb, hbb⟩ := hbt
  have hcl : clsIn K C = some { name := nm, bases := bs, mro := .ref C :: bm, ns := N, qualname := q, hasDict := true, slotNames := sn, subclasses := sub, abstract := ab, collection := col, hasDel := false } := by unfold clsIn; rw [hC] <;> rfl
  refine ks_codeAny_call_defAt (fd := ksFn "__init__" "EquationError.__init__" iA iB iS .none .none doc pm an (.ref cda) ct cc) (body := iB) (binds := [("self", .ref x), ("value", v)])
    hroom (X _ _ ho) rfl hlim (codeRec_of X hcd) rfl (BindsTo.of_eq (by first | rfl | with_unfolding_all rfl)) (show ∀ x ∈ iS.names, x.2 ≠ .cell by decide) (fun y hy => ?_) (fun h₁ hns k => ?_) rfl rfl rfl
  · rcases List.mem_cons.mp hy with rfl | hy
    · rfl
    · rcases List.mem_cons.mp hy with rfl | hy
      · rfl
      · cases hy
  have X₁ : K.In h₁ := X.keeps k
  have hx₁ := k _ _ hx
  refine ks_wpAt_execs_cons (ks_wpAt_Expr_any (ks_wpAt_MethodCall (pl := _) ?_) rfl rfl)
  refine ks_wpAt_super_base (env := ksEnv "EquationError.__init__" iS s.heap.objs.size fI (.ref cda) cc) rfl rfl (by decide) rfl (X₁ _ _ ho) rfl rfl rfl (X₁ _ _ hcode) rfl hvs hfile T.top ?_
  refine ks_loadName_global rfl rfl (loadGlobal_builtin (env := ksEnv "EquationError.__init__" iS s.heap.objs.size fI (.ref cda) cc) (hmg.keeps k) T.noS (hb.keeps k) ((hbb _ (by decide +kernel)).trans (by decide +kernel : bootBuiltins "super" = some (.type "super"))) ⟨rfl, ?_⟩)
  refine wpAny_loadName_free (c := cc) (v := .ref D) rfl rfl rfl ⟨_, X₁ _ _ hcell, rfl⟩ ?_
  refine wpAny_loadName_local (v := .ref x) rfl rfl hns rfl ?_
  refine ks_wpAny_isType_cls (X₁ _ _ hD) rfl ⟨rfl, ?_⟩
  refine ks_wpAny_call_super (X₁ _ _ hD) rfl hx₁ rfl (fun c e => nomatch e) (looks_mroIn X₁ T.hsub) (fun h₂ hso k2 => ?_)
  have X₂ : K.In h₂ := X₁.keeps k2
  have hx₂ := k2 _ _ hx₁
  have hxC : x ≠ C := fun e => by
    have z := X₁ _ _ hC
    rw [← e, hx₁] at z
    cases z
  have hI : Looks (model P w) h₂ (isInstance (.ref x) (.type "ValueError")) true := (InstAt.type (ox := excO C t0) (od := none) ⟨hx₂, rfl, rfl, trivial⟩).andThen (looks_subIn X₂ T.hB)
  have hsup := T.sup
  unfold ks_superIn at hsup
  rw [hcl] at hsup
  refine kxs_getMethod kxs_ValueError hso (looks_opaque X₂ T.opq) (l₀ := .ref C :: bm) (fun A Q E s k q => wpAny_bind ((looks_clsIn X₂ hcl) A _ E s k (wpAny_pure q))) rfl X₂ hsup hI hxC (by decide) ?_
  generalize hh3 : h₂.push (kxs_mw "ValueError.__init__" x) = h₃
  have k3 : ∀ b o, h₂.get? b = some o → h₃.get? b = some o := fun b o e => by rw [← hh3]; exact Heap.get?_push_of_some _ e
  have hu : h₃.get? h₂.objs.size = some (kxs_mw "ValueError.__init__" x) := by rw [← hh3]; exact Heap.get?_push_size _ rfl
  have ld : ∀ {y : Str} {pos : Pos} {hp : Heap} {tk : Nat} {z : Value} {Q : Value → Shared → Prop} {A' : Around} {E' : Value → Shared → Prop}, (∀ b o, h₁.get? b = some o → hp.get? b = some o) → (if y = "value" then some v else if y = "self" then some (.ref x) else none) = some z → (y = "value" ∨ y = "self") → Q z { s with heap := hp, toks := tk } →
      wpAny (model P w) A' (eval (.Name y pos) (ksEnv "EquationError.__init__" iS s.heap.objs.size fI (.ref cda) cc)) Q E' { s with heap := hp, toks := tk } := fun {y pos hp tk z Q A' E'} kk e hy q => by
    rcases hy with rfl | rfl
    · exact wpAny_Name (wpAny_loadName_local (v := z) rfl rfl (hns.keeps kk) (by rw [← e]; rfl) q) (by decide)
    · exact wpAny_Name (wpAny_loadName_local (v := z) rfl rfl (hns.keeps kk) (by rw [← e]; rfl) q) (by decide)
  refine kxs_callWith (i := "ValueError.__init__") (x := x) rfl (evalArgs_plain ?_)
  refine Calls.spliced_cons (ld (z := v) (fun b o e => k3 b o (k2 b o e)) rfl (.inl rfl) (Calls.spliced_nil ⟨hu, ?_⟩))
  refine wpAny_call (codeAny_of_tree ?_)
  show wpAny _ _ (callAny (.ref h₂.objs.size) ⟨[v], []⟩) _ _ _
  simp only [callAny]
  refine wpAny_bind (wpAny_load hu ?_)
  simp only [kxs_mw, show (Value.type "method-wrapper" == Value.type "method" || Value.type "method-wrapper" == Value.type "builtin_function_or_method" || Value.type "method-wrapper" == Value.type "method-wrapper") = true by decide, if_true]
  refine KFB.if_so (by decide) ?_
  have X₃ : K.In h₃ := X₂.keeps k3
  have hx₃ := k3 _ _ hx₂
  refine wpAny_bind (check_bound_init F.excBase_ValueError.toExcCallFacts (X₃ _ _ hC) hx₃ rfl ?_)
  refine wpAny_bind (wpAny_pure (wpAny_pure ?_))
  refine ⟨plainId_quiet F.excBase_ValueError.init.plain _, codeAny_builtin F.excBase_ValueError.initEntry ?_⟩
  have one : [v].length ≤ sizeLine := by rw [sizeLine_eq]; exact (by decide : 1 ≤ 16777216)
  refine exc_init_tree (cls := .ref C) (t0 := t0) (dv := none) (c2 := .none) (c3 := .none) (b4 := .bool false) hx₃ one fun h₄ k4 hx₄ ht₄ => ?_
  have X₄ : K.In h₄ := kept_but X₃ hnx k4
  have L_ne : s.heap.objs.size ≠ x := Nat.ne_of_gt (Heap.lt_size hx)
  have ns₄ : h₄.Ns s.heap.objs.size (fun y => [(("self" : Str), Value.ref x), ("value", v)].reverse.lookup y) := by
    obtain ⟨oL, es, ep, hL, r⟩ := (hns.keeps k2).keeps k3
    exact ⟨oL, es, ep, k4 _ _ L_ne hL, r⟩
  refine ks_wpAt_execs_cons (wpAt_of_wpAny (plainObj_wpAny_Assign_Attribute ?_))
  refine wpAny_Name (wpAny_loadName_local (v := v) rfl rfl ns₄ rfl ?_) (by decide)
  refine wpAny_Name (wpAny_loadName_local (v := .ref x) rfl rfl ns₄ rfl ?_) (by decide)
  refine set_plain X₄ (ox := excO C h₃.objs.size) (od := none) ⟨hx₄, rfl, rfl, trivial⟩ T.sa ?_
  refine exc_osa X₄ hx₄ hcl (show refsVE (.ref C :: bm) = true from hbm) rfl T.noN (fun h₅ tk₅ dx k5 dn dne hx₅ hn₅ => ?_)
  refine wpAt_of_wpAny (wpAny_execs_nil ?_)
  have old : ∀ b o, b ≠ x → s.heap.get? b = some o → h₅.get? b = some o := fun b o hb e => k5 b o hb (k4 b o hb (k3 b o (k2 b o (k b o e))))
  have big : s.heap.objs.size ≤ dx := by
    have z1 : s.heap.objs.size < h₄.objs.size := by
      obtain ⟨oL, es, ep, hL, r⟩ := ns₄
      exact Heap.lt_size hL
    exact Nat.le_of_lt (Nat.lt_of_lt_of_le z1 dn)
  exact hq h₅ tk₅ dx h₃.objs.size ⟨old, hx₅, big, dne, hn₅⟩
theorem made (T : ErrT P K mg c C D fI) {v : Value} (X : K.In s.heap) (hlim : s.heap.NoLimit) (hmg : s.heap.Ns mainGlobals mg) (hbt : ∃ mb : Str → Option Value, s.heap.Ns builtinsNs mb ∧ ∀ y : Str, y ≠ "__name__" → mb y = bootBuiltins y) (hroom : A.depth + 1 < recursionLimit)
    (hq : ∀ h' tk e d, OwnMade s.heap h' e C d v → R (.ok (.ret (.ref e))) { s with heap := h', toks := tk }) : codeAny (model P w) A (.call (.ref C) ⟨[v], []⟩) R s := by
  obtain ⟨nm, q, N, bs, bm, sn, sub, ab, col, dd, k0, k1, k2, k3, k5, hC, hbm⟩ := T.cls
  obtain ⟨mb, hb, hbb⟩ := hbt
  obtain ⟨hp, g, dr, tk, os⟩ := s
  have k : ∀ b o, hp.get? b = some o → ((hp.push (kdv_tup [v])).push (excO C hp.objs.size)).get? b = some o := fun b o e => Heap.get?_push_of_some _ (Heap.get?_push_of_some _ e)
  have hsz : (hp.push (kdv_tup [v])).objs.size = hp.objs.size + 1 := Heap.size_push ..
  have hget : ((hp.push (kdv_tup [v])).push (excO C hp.objs.size)).get? (hp.objs.size + 1) = some (excO C hp.objs.size) := by rw [← hsz]; exact Heap.get?_push_size _ rfl
  have hnx : K.lookup (hp.objs.size + 1) = none := by
    cases e : K.lookup (hp.objs.size + 1) with
    | none => rfl
    | some o =>
      have z : hp.objs.size + 1 < hp.objs.size := Heap.lt_size (show hp.get? (hp.objs.size + 1) = some o from X _ _ e)
      exact absurd z (by omega)
  have one : [v].length ≤ sizeLine := by rw [sizeLine_eq]; exact (by decide : 1 ≤ 16777216)
  refine call_own F.excBase_ValueError (fun X => refsVE_contains X bm hbm) (X _ _ hC) (looks_findIn X T.iC) (fun self => bind_fn X self T.tC) one ?_
  refine init_run (s := ⟨(hp.push (kdv_tup [v])).push (excO C hp.objs.size), g, dr, tk, os⟩) T (X.keeps k) (hlim.keeps k) (hmg.keeps k) ⟨mb, hb.keeps k, hbb⟩ hget hnx ?_ fun h' tk' dx t1 M => ?_
  · show A.depth + 1 < recursionLimit
    exact hroom
  · have old : ∀ b o, hp.get? b = some o → h'.get? b = some o := fun b o e => M.keep b o (Nat.ne_of_lt (Nat.lt_succ_of_lt (Heap.lt_size e))) (k b o e)
    have z := M.dbig
    have z2 : ((hp.push (kdv_tup [v])).push (excO C hp.objs.size)).objs.size = hp.objs.size + 2 := by rw [Heap.size_push, hsz]
    have z' : hp.objs.size ≤ dx := by
      have z3 : ((hp.push (kdv_tup [v])).push (excO C hp.objs.size)).objs.size ≤ dx := z
      omega
    exact ⟨rfl, hq h' tk' (hp.objs.size + 1) dx ⟨old, Nat.le_succ _, ⟨_, _, M.obj, rfl, rfl, rfl, rfl⟩, z', M.dne, M.ns⟩⟩
end
end DErr
end PySem
set_option Elab.async false
set_option linter.all false
set_option maxRecDepth 100000
set_option maxHeartbeats 1000000
namespace DL
open PySem PySem.Spec L2
theorem relO_val {v : V} {v' : Value} (r : RelV v v') (f : Str) : RelO (List.lookup f [(("value" : Str), v)]) (if f = "value" then some v' else none) := by
  by_cases hw : f = "value"
  · subst hw
    have q : List.lookup ("value" : Str) [(("value" : Str), v)] = some v := by simp [List.lookup]
    rw [q, if_pos rfl]
    exact r
  · have qw : (f == ("value" : Str)) = false := by simpa using hw
    have q2 : List.lookup f [(("value" : Str), v)] = none := by simp [List.lookup, qw]
    rw [q2, if_neg hw]
    trivial
section
variable {X : Cx} {Ex : WX} {io : List Nat} {fr : Bool} {c : Str} {C D fI : Addr}
def tMkE (C : Addr) (te : TE) : St → Hp → XK → Prop := fun σ H Q => te σ H fun v H1 => ∀ d, H1 d = none → Q (.ref C) (some d) (upd H1 d (.xd [(("value" : Str), v)]))
theorem pmk_err {a : Expr} {te : TE} {p pos : Pos} {k : Nat} (T : PySem.DErr.ErrT X.prog X.K X.mg c C D fI) (hr : Rg k X.A) (ha : PE X a te) (hg : Gl X c := by rfl) (hdb : (c == ("__debug__" : Str)) = false := by decide)
    (he : starEach (a :: []) X.env = (false, eval a X.env) :: starEach [] X.env := by rfl) (hpl : (backTo pos (starEach [] X.env)).any (·.1) = false := by rfl) :
    PMk X (.Call (.Name c p) [a] [] pos) (tMkE C te) := by
  intro pins s σ H Q I h
  refine wpAny_Call_Name_kw (ld_glob I hg T.gC ?_ hdb)
  refine PySem.W.callWith_K (h₀ := X.base) I.ok.mod.kin T.kC (PyProof.Rows.args_cons (thn (ha.run pins s σ H _ I h) ?_) he) he hpl
  rintro u s1 ⟨v, H1, I1, rv, q1⟩
  refine PyProof.Rows.args_nil ⟨I1.kIn, ?_⟩
  show wpAny _ _ (call (.ref C) [u]) _ _ _
  have hlim := I1.nolimit
  have kin := I1.kIn
  have hmg : s1.heap.Ns mainGlobals X.mg := I1.ok.mod.glob.keeps I1.bk
  have hbt : ∃ mb : Str → Option Value, s1.heap.Ns builtinsNs mb ∧ ∀ y : Str, y ≠ "__name__" → mb y = bootBuiltins y := by
    obtain ⟨mb, e1, e2⟩ := I1.ok.mod.blt
    exact ⟨mb, e1.keeps I1.bk, e2⟩
  obtain ⟨hp, g, dr, tk, os⟩ := s1
  refine wpAny_call (PySem.DErr.made T kin hlim hmg hbt (by have := hr.rm.dp; omega) fun h' tk' e d M => ?_)
  show MkP X pins σ Q (.ref e) ⟨h', g, dr, tk', os⟩
  obtain ⟨oe, fv, hoe, hc, hd, hdat, h1⟩ := M.obj
  have hns := M.ns
  obtain ⟨G', g1, g2⟩ := restrict h' fun b => decide (b ≠ e)
  have gk : ∀ b, b ≠ e → G'.get? b = h'.get? b := fun b hb => g1 b (decide_eq_true hb)
  have ge : G'.get? e = none := g2 e (by simp)
  have old : ∀ b o, hp.get? b = some o → G'.get? b = some o := fun b o q => (gk b (Nat.ne_of_lt (Nat.lt_of_lt_of_le (Heap.lt_size q) M.new))).trans (M.keep b o q)
  have ob : ObjOk X.prog X.w (upd H1 d (.xd [(("value" : Str), v)])) G' d (.xd [(("value" : Str), v)]) :=
    ⟨_, hns.at (fun o q => (gk d M.dne).trans q), fun f => relO_val rv f⟩
  have J : Inv X pins σ (upd H1 d (.xd [(("value" : Str), v)])) ⟨G', g, dr, tk', os⟩ := I1.laid (t' := tk') old M.dbig ob
  refine ⟨e, oe, fv, ⟨G', g, dr, tk', os⟩, _, .ref C, some d, rfl, J, fun b o q => ?_, ge, hoe, ⟨hc, hd⟩, hdat, h1, ?_, rfl, I1.bare, raises_own T.exC T.tyC, q1 d (I1.hok.fresh M.dbig)⟩
  · by_cases hb : b = e
    · have q' : G'.get? b = some o := q
      rw [hb, ge] at q'; cases q'
    · exact (gk b hb).symm.trans q
  · rw [upd_ne (Ne.symm M.dne)]
    exact I1.hok.fresh M.new
/-- raise E(e) -/
def mRaise (c : Str) (m : ME) : MS := fun ρ => (m ρ).thenS fun d ρ1 => .ex c d ρ1
theorem ds_raise {a : Expr} {m : ME} {p pos pos2 : Pos} {k : Nat} (hc : X.calm = true) (T : PySem.DErr.ErrT X.prog X.K X.mg c C D fI) (hr : Rg k X.A) (tk : Takes X Ex) (he : DE X Ex a m) (hg : Gl X c := by rfl) (hdb : (c == ("__debug__" : Str)) = false := by decide)
    (hs : starEach (a :: []) X.env = (false, eval a X.env) :: starEach [] X.env := by rfl) (hpl : (backTo pos (starEach [] X.env)).any (·.1) = false := by rfl) :
    DS X Ex io fr (.Raise (some (.Call (.Name c p) [a] [] pos)) none pos2) (mRaise c m) := by
  obtain ⟨t, pe, r⟩ := he.run
  refine ⟨_, ps_raise hc tk (pmk_err T hr pe hg hdb hs hpl), fun C' O ad H σ ρ E en h => ?_⟩
  refine r C' O ad io H σ ρ _ en (PostS.expr (σ := σ) h fun d ρ1 v H1 ev1 en1 r1 h1 => ?_)
  intro dx hdx
  have ev : Evo O H1 (upd H1 dx (.xd [(("value" : Str), v)])) := Evo.upd hdx
  have en2 := en1.upd (o := .xd [(("value" : Str), v)]) hdx
  exact h1 σ _ O _ _ (.of ev en2) en2 ⟨C, dx, v, T.gC, rfl, rfl, upd_same, en1.rp ev r1⟩
end
end DL
set_option Elab.async false
set_option linter.all false
set_option maxRecDepth 100000
set_option maxHeartbeats 1000000
namespace DL
open PySem PySem.Spec L2
/-! ### a caught error becomes a value -/
/-- what is known of a caught error's object at a, in the heap h -/
structure Caught (X : Cx) (pins : List (Addr × Obj)) (H : Hp) (h : Heap) (a : Addr) (cls : Value) (d : Option Addr) : Prop where
  obj : ∃ oe vs, h.get? a = some oe ∧ Zc cls d oe ∧ oe.data = .fields vs
  out : H a = none
  loc : a ≠ X.env.locals
  fs : a ∉ X.fs
  new : X.s_0.heap.get? a = none
  pin : ∀ p ∈ X.pn ++ pins, p.1 ≠ a
section
variable {X : Cx} {pins : List (Addr × Obj)} {σ : St} {H : Hp} {s : Shared} {a : Addr} {cls : Value} {d : Option Addr}
theorem caught_of {B h : Heap} (hex : X.ex = []) (hs : X.stack = X.env :: X.outer) (hf : X.env.frame = some X.env.locals) (J : Inv X pins σ H s) (out : H a = none)
    (nb : ∀ b o, s.heap.get? b = some o → b ∉ frs X.stack → B.get? b = some o) (fl : HandSPX.FlyingZ B X.stack a (Zc cls d) h) : Caught X pins H h a cls d := by
  obtain ⟨oe, vs, e, z, dat⟩ := fl.there
  -- a is no frame's own dict: those are no records of fields
  have noFrame : a ∉ frs X.stack := fun m => by
    obtain ⟨_, o, eo, nf⟩ := fl.2.2.1.mem m
    have := Option.some.inj (e.symm.trans eo)
    exact nf vs (this ▸ dat)
  -- what stood, stands in B; a does not
  have other : ∀ b o, s.heap.get? b = some o → b ∉ frs X.stack → b ≠ a := fun b o eb hb q => by
    have z1 := nb b o eb hb
    rw [q, fl.2.1] at z1
    cases z1
  have top : X.env.locals ∈ frs X.stack := by
    rw [hs]
    exact List.mem_filterMap.mpr ⟨X.env, List.mem_cons_self, hf⟩
  have outer : ∀ b ∈ X.fs, b ∈ frs X.stack := fun b hb => by
    obtain ⟨E, hE, q⟩ := List.mem_filterMap.mp hb
    rw [hs]
    exact List.mem_filterMap.mpr ⟨E, List.mem_cons_of_mem _ hE, q⟩
  have inner : ∀ b ∈ frs X.stack, b = X.env.locals ∨ b ∈ X.fs := fun b hb => by
    rw [hs] at hb
    obtain ⟨E, hE, q⟩ := List.mem_filterMap.mp hb
    rcases List.mem_cons.mp hE with c | c
    · rw [c] at q
      exact .inl (Option.some.inj (q.symm.trans hf))
    · exact .inr (List.mem_filterMap.mpr ⟨E, c, q⟩)
  refine ⟨⟨oe, vs, e, z, dat⟩, out, fun q => noFrame (q ▸ top), fun q => noFrame (outer a q), ?_, fun p hp => ?_⟩
  · cases q : X.s_0.heap.get? a with
    | none => rfl
    | some o =>
      obtain ⟨o1, e1⟩ := J.base.there a o q (by rw [hex]; simp)
      exact absurd rfl (other a o1 e1 noFrame)
  · obtain ⟨e1, _, n1, n2, _⟩ := J.pin p hp
    exact other _ _ e1 fun m => (inner _ m).elim n1 n2
/-- it is known as an error's object from now on -/
theorem inv_keep {C dx : Addr} {s1 : Shared} {σ1 : St} {H1 : Hp} (J : Inv X pins σ1 H1 s1) (c : Caught X pins H1 s1.heap a (.ref C) (some dx)) : Inv X pins σ1 (upd H1 a (ErrO a C dx)) s1 := by
  obtain ⟨oe, vs, e, z, dat⟩ := c.obj
  have other : ∀ {b : Addr} {o : HO}, H1 b = some o → upd H1 a (ErrO a C dx) b = some o := fun eb => (upd_ne (ne_of_none eb c.out)).trans eb
  have off : ∀ {b : Addr} {o : HO}, b ≠ a → H1 b = none → upd H1 a (ErrO a C dx) b = none := fun nb eb => (upd_ne nb).trans eb
  have ok : ObjOk X.prog X.w (upd H1 a (ErrO a C dx)) s1.heap a (ErrO a C dx) := by
    refine ⟨⟨oe, vs, e, z.1, z.2, dat⟩, ⟨oe, e⟩, fun h1 h2 st k => ?_⟩
    obtain ⟨o1, v1, q1, q2⟩ := st
    exact ⟨o1, v1, k o1 q1, q2⟩
  exact {
    ok := J.ok
    os := J.os
    bare := J.bare
    base := {
      keep := J.base.keep
      slot := J.base.slot
      free := fun b o eb n x => off (o := ErrO a C dx) (fun q => by rw [q, c.new] at eb; cases eb) (J.base.free b o eb n x)
      there := J.base.there
      tups := fun b xs eb => other (J.base.tups b xs eb)
      frzs := fun b o u eb => other (J.base.frzs b o u eb)
      tbls := fun b ps eb => let ⟨more, q⟩ := J.base.tbls b ps eb; ⟨more, other q⟩ }
    loc := J.loc
    cell := J.cell
    free := off (o := ErrO a C dx) (Ne.symm c.loc) J.free
    freeC := fun y k eb => off (o := ErrO a C dx) (fun q => by
      obtain ⟨v, o, ho, hv⟩ := J.cell y k eb
      rw [q, e] at ho
      have := Option.some.inj ho
      rw [← this, dat] at hv
      cases hv) (J.freeC y k eb)
    pin := fun p q => let ⟨e1, n1, n2, n3, n4⟩ := J.pin p q; ⟨e1, off (o := ErrO a C dx) (c.pin p q) n1, n2, n3, n4⟩
    hok := J.hok.laidN (fun _ _ z => z) c.out ok
    len := J.len }
/-- what the clause 'except x as n' wishes, where each error that comes is taken and its object is kept -/
def wErr (K : PySem.W.Frag) (c : Value) (i : Nat) (ts : Addr → Value → Option Addr → TS) (D : Ends) : WX := fun cls d σ H =>
  PySem.W.exmOne K cls c = some true ∧ ∀ a, H a = none → ts a cls d { nx := fun σ1 H1 => ∃ C dx, cls = .ref C ∧ d = some dx ∧ (H1 a = none → D.nx (σ1.set i none) (upd H1 a (ErrO a C dx))), rt := fun _ _ => False, bk := fun _ _ => False, ct := fun _ _ => False } (σ.set i (some (.ref a))) H
variable {x n : Str} {c : Value} {i : Nat} {body suite : List Stmt} {b1 : Stmt} {np pos pos2 : Pos} {tb : WX → TS} {ts : Addr → Value → Option Addr → TS}
theorem sp_back {pn : List (Addr × Obj)} {xe : Value → Shared → Prop} {D : Ends} {f : Flow} {s1 : Shared} (ok : X.Ok) (h : SP (X.tr (X.pn ++ pins) xe) pn D f s1) : SP X pins D f s1 := by
  match f, h with
  | .next, ⟨σ1, H1, J, q⟩ => exact ⟨σ1, H1, J.ofTry ok, q⟩
  | .brk, ⟨σ1, H1, J, q⟩ => exact ⟨σ1, H1, J.ofTry ok, q⟩
  | .cont, ⟨σ1, H1, J, q⟩ => exact ⟨σ1, H1, J.ofTry ok, q⟩
  | .ret u, ⟨v, σ1, H1, J, r, q⟩ => exact ⟨v, σ1, H1, J.ofTry ok, r, q⟩
/-- the suite, from where the error's object has landed -/
theorem suite_err {B : Heap} {D : Ends} {s0 : Shared} (hN : X.N.Nodup) (hi : X.N[i]? = some n) (hln : X.env.kindOf n = some .local) (ok : X.Ok) (J0 : Inv X pins σ H s0) (nb : ∀ b o, s0.heap.get? b = some o → b ∉ frs X.stack → B.get? b = some o) (up : s0.heap.UpToSlots s.heap) (os : s.os = s0.os) (ag : PyProof.Rows.AllBare s.gens)
    (hex : X.ex = []) (hs : X.stack = X.env :: X.outer) (hf : X.env.frame = some X.env.locals) (out : H a = none) (fl : HandSPX.FlyingZ B X.stack a (Zc cls d) s.heap)
    (hsu : ∀ (a : Addr) (oe : Obj) (cls : Value) (d : Option Addr) (pn : List (Addr × Obj)), Zc cls d oe → (∃ vs, oe.data = .fields vs) → PSs (X.suite a ((a, oe) :: pn)) (b1 :: suite) (ts a cls d))
    (wish : ts a cls d { nx := fun σ1 H1 => ∃ C dx, cls = .ref C ∧ d = some dx ∧ (H1 a = none → D.nx (σ1.set i none) (upd H1 a (ErrO a C dx))), rt := fun _ _ => False, bk := fun _ _ => False, ct := fun _ _ => False } (σ.set i (some (.ref a))) H)
    {E : Value → Shared → Prop} : wpAny (model X.prog X.w) (X.A.mark (some (.ref a))) (storeName X.env n (.ref a)) (fun _ s2 => wpAny (model X.prog X.w) (X.A.mark (some (.ref a))) (execs (b1 :: suite) X.env)
      (fun f s3 => wpAny (model X.prog X.w) X.A (do bindName X.env n .none; unbindBehindTheSuite X.env n pos2) (fun _ s4 => SP X pins D f s4) X.xe s3) (fun _ _ => False) s2) E s := by
  have J : Inv X pins σ H s := J0.landed nb fl.1 up os ag
  have K := caught_of hex hs hf J0 out nb fl
  obtain ⟨oe, vs, e, z, dat⟩ := K.obj
  refine store_ok (X := X.suite a ((a, oe) :: (X.pn ++ pins))) (v := .ref a) (J.suite e dat K.out K.loc K.fs) hN hi (.inl hln) rfl (fun s2 J2 => ?_) (.inr hln)
  refine wpAny_mono ((hsu a oe cls d (X.pn ++ pins) z ⟨vs, dat⟩).run [] s2 _ H _ J2 wish) (fun f s3 h => ?_) fun _ _ z => z.elim
  match f, h with
  | .brk, ⟨_, _, _, q⟩ => exact q.elim
  | .cont, ⟨_, _, _, q⟩ => exact q.elim
  | .ret u, ⟨_, _, _, _, _, q⟩ => exact q.elim
  | .next, ⟨σ3, H3, J3, C, dx, ec, ed, q⟩ =>
    subst ec ed
    obtain ⟨e3, out3, _⟩ := J3.pin (a, oe) (List.mem_append_left _ List.mem_cons_self)
    have T := inv_keep (J3.unsuite ok) ⟨⟨oe, vs, e3, z, dat⟩, out3, K.loc, K.fs, K.new, K.pin⟩
    exact gone_ok T hN hi hln fun s4 J4 => ⟨_, _, J4, q out3⟩
theorem ps_try_err (hex : X.ex = []) (hs : X.stack = X.env :: X.outer) (hf : X.env.frame = some X.env.locals) (hN : X.N.Nodup) (hi : X.N[i]? = some n) (hln : X.env.kindOf n = some .local) (hc : Names X x c)
    (hb : ∀ (W : WX) (pn : List (Addr × Obj)) (xe : Value → Shared → Prop), Takes (X.tr pn xe) W → PassesOwn (model X.prog X.w) X.A X.env xe → PSs (X.tr pn xe) body (tb W))
    (hsu : ∀ (a : Addr) (oe : Obj) (cls : Value) (d : Option Addr) (pn : List (Addr × Obj)), Zc cls d oe → (∃ vs, oe.data = .fields vs) → PSs (X.suite a ((a, oe) :: pn)) (b1 :: suite) (ts a cls d)) :
    PS X (.Try body [.ExceptHandler (some (.Name x np)) (some n) (b1 :: suite) pos2] [] [] pos) (fun D σ H => tb (wErr X.K c i ts D) D σ H) := ⟨fun pins s σ H D I h => by
  have ok := I.ok
  apply wpAny_Try_except
  refine wpAny_mono ((hb (wErr X.K c i ts D) (X.pn ++ pins) _ (fun u s1 thrown => ?_) PassesOwn.looking).run [] s σ H D (I.toTry _) h) (fun f s1 q => ?_) fun _ _ z => z
  · obtain ⟨a, B, s0, pn, σ1, H1, cls, d, eu, J1, nb, up, sky, out, os, ag, takes, wish⟩ := thrown
    subst eu
    have J : Inv X pins σ1 H1 s0 := J1.ofTry ok
    have sky : Sky B (X.env :: X.outer) a (Zc cls d) X.env.locals s1.heap := by rw [← hs]; exact sky
    refine Sky.land Zc.steady (ok.frames.trans (congrArg some hs)) hf sky fun h2 fl2 up2 => ?_
    rw [← hs] at fl2
    have K := caught_of hex hs hf J out nb fl2
    have J2 : Inv X pins σ1 H1 { s1 with heap := h2 } := J.landed nb fl2.1 (up.trans up2) os ag
    obtain ⟨oe, vs, e, z, dat⟩ := K.obj
    have S := J2.suite e dat out K.loc K.fs
    have ty : PySem.W.Looks (model X.prog X.w) h2 (typeOf (.ref a)) cls := fun A Q E s k q => wpAny_typeOf_ref (k _ _ e) (by rw [z.1]; exact q)
    apply wpAny_handleBy_cons _ (by intro q; cases q)
    apply codeAny_handlers_test
    have name : ∀ {Q E : Value → Shared → Prop}, Q c { s1 with heap := h2 } → wpAny (model X.prog X.w) (X.A.mark (some (.ref a))) (eval (.Name x np) X.env) Q E { s1 with heap := h2 } := fun q => by
      obtain ⟨g, dbg, m⟩ := hc
      rcases m with m | ⟨m, v, nn⟩
      · exact ld_glob S g m q dbg
      · exact ld_blt S g m v q nn dbg
    refine name ((PySem.W.exm_one (M := model X.prog X.w) J2.kIn ty takes).here ?_)
    apply codeAny_handlers_suite_as
    refine HandSPX.lands_againZ fl2 fun h3 fl3 up3 => ?_
    exact wpAny_mono (suite_err (s := { s1 with heap := h3 }) hN hi hln ok J nb ((up.trans up2).trans up3) os ag hex hs hf out fl3 hsu (wish a out)) (fun _ s2 z => wpAny_mono z (fun f s3 z => z) fun _ _ z => z.elim) fun _ _ z => z
  · have q := sp_back ok q
    match f, q with
    | .next, q => exact wpAny_execs_nil q
    | .brk, q => exact q
    | .cont, q => exact q
    | .ret u, q => exact q⟩
end
end DL
set_option Elab.async false
set_option linter.all false
set_option maxRecDepth 100000
set_option maxHeartbeats 1000000
namespace DL
open PySem PySem.Spec L2 LamX
/-! ### lambdas handed to _law_heard -/
/-- the row that a table gets for a lambda at pos -/
abbrev rowOf (pos : Pos) (c : Addr) : Array Value := #[rawInt pos.line, rawInt pos.col, .ref c]
/-- H, the table at P grown by such a row, its code object known -/
abbrev grown (H : Hp) (P : Addr) (ps : Array Value) (pos : Pos) (c : Addr) (q : Str) : Hp := upd (upd H P (.tbl (ps ++ rowOf pos c))) c (CodeO c q)
section
variable {H : Hp} {P c b : Addr} {ps : Array Value} {pos : Pos} {q : Str} {o : HO}
theorem grown_tab (atP : H P = some (.tbl ps)) (nc : H c = none) : grown H P ps pos c q P = some (.tbl (ps ++ rowOf pos c)) := (upd_ne (ne_of_none atP nc)).trans upd_same
theorem grown_old (nc : H c = none) (e : H b = some o) (hb : b ≠ P) : grown H P ps pos c q b = some o := ((upd_ne (ne_of_none e nc)).trans (upd_ne hb)).trans e
theorem grown_new (nb : H b = none) (h1 : b ≠ c) (h2 : b ≠ P) : grown H P ps pos c q b = none := ((upd_ne h1).trans (upd_ne h2)).trans nb
theorem grown_code (atP : H P = some (.tbl ps)) (nc : H c = none) {c0 : Addr} {q0 : Str} (e : H c0 = some (CodeO c0 q0)) : grown H P ps pos c q c0 = some (CodeO c0 q0) :=
  grown_old nc e fun z => codeO_ne ps (Option.some.inj (e.symm.trans (by rw [z]; exact atP)))
theorem grown_evo (atP : H P = some (.tbl ps)) (nc : H c = none) : Evo (fun _ => False) H (grown H P ps pos c q) where
  k := fun b o e _ z => grown_old nc e fun y => by
    rw [y, atP] at e
    cases e
    cases z
  t := fun b rs e => by
    by_cases hb : b = P
    · rw [hb]; exact ⟨_, grown_tab atP nc⟩
    · exact ⟨rs, grown_old nc e hb⟩
theorem grown_tabs {T : List (Addr × Str)} (atP : H P = some (.tbl ps)) (nc : H c = none) (all : Tabs T H) (own : ∀ p ∈ T, p.1 = P → p.2 = q) : Tabs T (grown H P ps pos c q) := fun p hp => by
  obtain ⟨rs, at0, ok, tell⟩ := all p hp
  by_cases hb : p.1 = P
  · rw [hb] at at0 ⊢
    obtain rfl : rs = ps := by
      have := Option.some.inj (at0.symm.trans atP)
      cases this; rfl
    rw [own p hp hb] at tell ⊢
    have el : (rs ++ rowOf pos c).toList = rs.toList ++ [rawInt pos.line, rawInt pos.col, .ref c] := by simp
    refine ⟨_, grown_tab atP nc, by rw [el]; exact PySem.TriplesOk_snoc _ _ _ _ ok, fun p2 cv e => ?_⟩
    rw [el] at e
    rcases among_app _ ok e with e | e
    · obtain ⟨c0, z1, z2⟩ := tell p2 cv e
      exact ⟨c0, z1, grown_code atP nc z2⟩
    · exact ⟨c, e, upd_same⟩
  · refine ⟨rs, grown_old nc at0 hb, ok, fun p2 cv e => ?_⟩
    obtain ⟨c0, z1, z2⟩ := tell p2 cv e
    exact ⟨c0, z1, grown_code atP nc z2⟩
end
section
variable {X : Cx} {pins : List (Addr × Obj)} {σ : L2.St} {H : Hp} {s : Shared}
/-- an address that is not in use is no frame's -/
theorem off_frames (I : L2.Inv X pins σ H s) {f : Addr} (h : s.heap.objs.size ≤ f) : f ∉ frs X.stack := fun z => by
  rcases List.mem_cons.mp (I.stkSub _ z) with e | e
  · rw [e] at h
    exact Nat.not_lt.mpr h I.lt
  · exact I.nofs h e
abbrev lamO (X : Cx) (pr : Arguments) (b : Expr) (sc : Scope) (pm : Value) (c : Addr) (ctv : Value) : Obj := PySem.W.kla_obj "<lambda>" (X.env.qual ++ "<lambda>") pr b sc (cloFrom X.env.cells sc.names []) pm c ctv
/-- a lambda is made: its code object stands in the table, or a row is laid for it -/
theorem lam_shape {c P : Addr} {ps : Array Value} {pr : Arguments} {b : Expr} {sc : Scope} {pos : Pos} {E Q : Value → Shared → Prop} (I : L2.Inv X pins σ H s) (TB : TabB X.base X.mg c P) (hcode : X.env.code = .ref c) (atP : H P = some (.tbl ps)) (ok : TriplesOk ps.toList)
    (tell : ∀ (pos : Pos) (cv : Value), codeAmong pos ps.toList = some cv → ∃ c, cv = .ref c ∧ H c = some (CodeO c (X.env.qual ++ "<lambda>"))) (hdef : defaultsOf pr X.env = ([], [])) (hfree : ∀ y ∈ sc.names, y.2 = .free → ∃ c, X.env.cells.lookup y.1 = some c)
    (k : ∀ (f c2 : Addr) (pm ctv : Value) (H1 : Hp) (s1 : Shared), (H1 = H ∨ (H c2 = none ∧ H1 = grown H P ps pos c2 (X.env.qual ++ "<lambda>"))) → L2.Inv X pins σ H1 s1 → s1.heap.get? f = some (lamO X pr b sc pm c2 ctv) → H1 f = none → f ∉ frs X.stack →
      H1 c2 = some (CodeO c2 (X.env.qual ++ "<lambda>")) → Q (.ref f) s1) :
    wpAny (model X.prog X.w) X.A (eval (.Lambda pr b sc pos) X.env) Q E s := by
  have tabO : s.heap.get? P = some { cls := .none, data := .fields ps } := I.hok P _ atP
  have glob := I.mod.glob.keeps I.bk
  have code := TB.code.keeps I.bk
  have blt := TB.bm.keeps I.bk
  apply PySem.W.kla_eval hdef
  cases at' : codeAmong pos ps.toList with
  | some cv =>
    obtain ⟨c2, e, co⟩ := tell pos cv at'
    subst e
    apply PySem.W.kla_makeFunctionHit (closure_ok hfree) I.ok.glob glob hcode code tabO ok at' blt
    intro ctv h2 tk keep size
    exact k _ c2 _ ctv H _ (.inl rfl) (I.kept fun b o e => Heap.get?_push_of_some _ (keep b o e)) (Heap.get?_push_size _ rfl) (I.hok.fresh size) (off_frames I size) co
  | none =>
    apply PySem.W.kla_makeFunction (closure_ok hfree) I.ok.glob glob hcode code tabO ok at' TB.gP blt
    intro c2 ctv h2 tk keep ge lt rec tab
    obtain ⟨c3, oc, us, t, e, oe, od, ov⟩ := rec
    cases e
    have nc : H c2 = none := I.hok.fresh ge
    have size : s.heap.objs.size ≤ h2.objs.size := Nat.le_trans ge (Nat.le_of_lt lt)
    have J := inv_table (t' := tk) (more := rowOf pos c2) (h' := h2.push (lamO X pr b sc ((X.mg "__name__").getD .none) c2 ctv)) I atP (fun b o hb e => Heap.get?_push_of_some _ (keep b o hb e)) (Heap.get?_push_of_some _ tab) ge
      ⟨oc, us, t, Heap.get?_push_of_some _ oe, od, ov⟩
    refine k _ c2 _ ctv _ _ (.inr ⟨nc, rfl⟩) J (Heap.get?_push_size _ rfl) (grown_new (I.hok.fresh size) (Nat.ne_of_gt lt) fun z => ?_) (off_frames I size) upd_same
    have := Heap.lt_size tabO
    rw [← z] at this
    exact Nat.not_lt.mpr size this
/-- .. the tables stay tables, all else stays -/
theorem lam_makeE {T : List (Addr × Str)} {c P : Addr} {pr : Arguments} {b : Expr} {sc : Scope} {pos : Pos} {E Q : Value → Shared → Prop} (I : L2.Inv X pins σ H s) (TB : TabB X.base X.mg c P) (hcode : X.env.code = .ref c)
    (hm : (P, X.env.qual ++ "<lambda>") ∈ T) (hu : ∀ p ∈ T, p.1 = P → p.2 = X.env.qual ++ "<lambda>") (hT : Tabs T H) (hdef : defaultsOf pr X.env = ([], [])) (hfree : ∀ y ∈ sc.names, y.2 = .free → ∃ c, X.env.cells.lookup y.1 = some c)
    (k : ∀ (f c2 : Addr) (pm ctv : Value) (H1 : Hp) (s1 : Shared), L2.Inv X pins σ H1 s1 → Evo (fun _ => False) H H1 → Tabs T H1 → s1.heap.get? f = some (lamO X pr b sc pm c2 ctv) → H1 f = none → f ∉ frs X.stack → H1 c2 = some (CodeO c2 (X.env.qual ++ "<lambda>")) → Q (.ref f) s1) :
    wpAny (model X.prog X.w) X.A (eval (.Lambda pr b sc pos) X.env) Q E s := by
  obtain ⟨ps, atP, ok, tell⟩ := hT _ hm
  refine lam_shape I TB hcode atP ok tell hdef hfree fun f c2 pm ctv H1 s1 sh J => ?_
  rcases sh with e | ⟨nc, e⟩
  · rw [e] at J ⊢
    exact k f c2 pm ctv H s1 J Evo.refl hT
  · rw [e] at J ⊢
    exact k f c2 pm ctv _ s1 J (grown_evo atP nc) (grown_tabs atP nc hT hu)
/-- the lambda's code, entered from a state of the one that got it -/
theorem lam_code {A : Around} {outer : List Env} {f c2 : Addr} {pm ctv : Value} {pr : Arguments} {b : Expr} {sc : Scope} {k : Nat} {E : XK} {Q : VK} {m : ME} {s0 s1 : Shared} {H1 : Hp}
    (I : L2.Inv X pins σ H s0) (L : LamS X.env.scope sc) (hf : s1.heap.get? f = some (lamO X pr b sc pm c2 ctv)) (hbind : bindArgs (PySem.W.kla_fn "<lambda>" (X.env.qual ++ "<lambda>") pr b sc (cloFrom X.env.cells sc.names []) pm (.ref c2) ctv) ⟨[], []⟩ = pure [])
    (un : Un (frs X.stack) [] H H1 s0.heap s1.heap) (e0 : Env0 X.prog X.w X.K X.mg X.base A outer s1 H1) (co : H1 c2 = some (CodeO c2 (X.env.qual ++ "<lambda>"))) (lim : s1.heap.NoLimit) (hr : Rg (k + 1) A)
    (hbody : DE (lamCx X A outer s1 H1 E sc f c2) (fun cls d _ H => E cls d H) b m) (q : tDE X.K X.mg (fun cls d _ H => E cls d H) m σ H1 Q) :
    codeAny (model X.prog X.w) A (.call (.ref f) ⟨[], []⟩) (CR (L2.CX X.prog X.w) outer X.prog X.w H1 s1 Q E) s1 := by
  obtain ⟨⟨oc, us, t, h1, h2, h3⟩, _, _⟩ := e0.hok c2 _ co
  apply PySem.W.kla_callFunE hr.rm.depth hf rfl L.co L.gen rfl ⟨c2, oc, us, t, rfl, h1, h2, h3⟩
  rw [hbind]
  apply wpAny_pure
  apply wpAny_newFunctionEnv (fun y hy => (L.own y hy).2) (fun y hy => absurd hy (by simp)) _ L.kind
  intro h2 ns same
  refine ⟨lim.fresh _ same, ?_⟩
  show codeAny _ _ (.expr b (lamEnv X sc s1.heap.objs.size f c2)) _ _
  have keep : ∀ b o, s1.heap.get? b = some o → h2.get? b = some o := fun b o e => same.extBut b o (Nat.ne_of_lt (Heap.lt_size e)) (Heap.get?_push_of_some _ e)
  have J := lam_start2 (E := E) (f := f) (c' := c2) (tk := s1.toks + ([] : List (Str × Value)).length) I L e0 hr.rm.hd un ns keep
  apply PySem.W.kla_codeExpr
  refine wpAny_mono (hbody.pe.run [] _ _ H1 Q J q) (fun v s2 z => ?_) fun _ _ z => z
  obtain ⟨v2, H2, J2, rv, z⟩ := z
  exact ⟨v2, H2, J2.os, J2.bare, J2.base, J2.hok, rv, z⟩
/-- x() in _law_heard: the lambda's expression is told -/
theorem pe_actG {Z : Cx} {f c2 : Addr} {pm ctv : Value} {pr : Arguments} {b : Expr} {sc : Scope} {k i : Nat} {a : Str} {W : WX} {m : ME} {p1 p2 : Pos} {s0 : Shared}
    (I : L2.Inv X pins σ H s0) (L : LamS X.env.scope sc) (hf : s0.heap.get? f = some (lamO X pr b sc pm c2 ctv)) (hfn : H f = none) (hfr : f ∉ frs X.stack)
    (hbind : bindArgs (PySem.W.kla_fn "<lambda>" (X.env.qual ++ "<lambda>") pr b sc (cloFrom X.env.cells sc.names []) pm (.ref c2) ctv) ⟨[], []⟩ = pure [])
    (zp : Z.prog = X.prog) (zw : Z.w = X.w) (z0 : Z.s_0 = s0) (zH : Z.H_0 = H) (zf : Z.fs = frs X.stack) (zx : Z.ex = []) (zK : Z.K = X.K) (zm : Z.mg = X.mg) (zb : Z.base = X.base)
    (tk : Takes Z W) (hr : Rg (k + 1) Z.A)
    (hbody : ∀ (A : Around) (outer : List Env) (s : Shared) (H : Hp) (E : XK), Rg k (A.deeper (lamEnv X sc s.heap.objs.size f c2)) → DE (lamCx X A outer s H E sc f c2) (fun cls d _ H => E cls d H) b m)
    (hN : Z.N[i]? = some a) (hv : Vis Z.env.scope a) (hd : (a == ("__debug__" : Str)) = false := by decide) (hcd : (a == ("__classdict__" : Str)) = false := by decide) :
    PE Z (.Call (.Name a p1) [] [] p2) (fun σZ HZ Q => σZ[i]? = some (some (.ref f)) ∧ HZ c2 = some (CodeO c2 (X.env.qual ++ "<lambda>")) ∧ tDE X.K X.mg (fun cls d _ H => W cls d σZ H) m σ HZ Q) := ⟨fun pinsZ sZ σZ HZ Q IZ hyp => by
  obtain ⟨slot, co, tell⟩ := hyp
  have name := (pe_var (pos := p1) (i := i) hN hv hd hcd).run pinsZ sZ σZ HZ (fun v H1 => v = .ref f ∧ H1 = HZ) IZ ⟨.ref f, slot, rfl, rfl⟩
  apply wpAny_Call_Name_kw
  refine thn name ?_
  intro u s1 got
  obtain ⟨v, H1, I1, rv, ev, eH⟩ := got
  subst ev eH
  have rv : u = .ref f := rv
  subst rv
  have un : Un (frs X.stack) [] H H1 s0.heap s1.heap := by
    have base := I1.base
    rwa [z0, zH, zf, zx] at base
  have f1 := un.keep f _ hf hfn hfr (by simp)
  have env := I1.env0
  rw [zp, zw, zK, zm, zb] at env
  apply PySem.W.callWith_F0 ⟨_, _, _, _, f1⟩
  have code := lam_code (k := k) (E := WE W σZ) I L f1 hbind un env co I1.nolimit hr (hbody _ _ _ _ _ ⟨hr.rm.deeper _, hr.gs⟩) tell
  rw [← zp, ← zw] at code
  apply wpAny_call
  refine codeAny_mono code fun r s2 z => ?_
  match r, z with
  | .error e, z => exact passAt tk σZ pinsZ H1 s1 e s2 I1 z
  | .ok (.ret u), z => exact I1.after z
  | .ok .next, z => exact z.elim
  | .ok .brk, z => exact z.elim
  | .ok .cont, z => exact z.elim⟩
end
end DL
set_option Elab.async false
set_option linter.all false
set_option maxRecDepth 100000
set_option maxHeartbeats 1000000
namespace DL
open PySem PySem.Spec L2 LamX
/-! ### _law_heard(lambda: e) -/
def mHeard (cs : List Str) (m : ME) : ME := fun ρ => match m ρ with
  | .ok d ρ1 => .ok (.tup [.non, d]) ρ1
  | .exc c d ρ1 => if c ∈ cs then .ok (.tup [.err c d, .non]) ρ1 else .bad
  | .bad => .bad
/-- what is written of _law_heard; cs: classes that it takes -/
structure HeardT (K : PySem.W.Frag) (mg : Mg) (cs : List Str) (st : Stmt) (g CS : Addr) (fd : FuncData) : Prop where
  fn : Fun K "_law_heard" "_law_heard" st g fd
  gm : mg "_law_heard" = some (.ref g)
  bnd : Binds K fd ["call"] []
  sc : FnScope ["call", "caught", "said", "error"] ["call"] (defScope st)
  ge : mg "EquationError" = some (.ref CS)
  gl : (defScope st).names.lookup ("EquationError" : Str) = some .globalImplicit
  l0 : (defScope st).names.lookup ("call" : Str) = some .local
  l1 : (defScope st).names.lookup ("caught" : Str) = some .local
  l2 : (defScope st).names.lookup ("said" : Str) = some .local
  l3 : (defScope st).names.lookup ("error" : Str) = some .local
  ex : ∀ c ∈ cs, ∀ C, mg c = some (.ref C) → PySem.W.exmOne K (.ref C) (.ref CS) = some true
  body : ∃ (p1 p2 p3 p4 p5 p6 p7 p8 p9 p10 p11 p12 p13 p14 p15 p16 p17 p18 p19 p20 p21 : Pos) (k1 k2 k3 j1 j2 : Nat),
    defBody st = [.Assign [.Tuple [.Name "caught" p1, .Name "said" p2] k1 p3] (.Tuple [.Constant .none j1 p4, .Constant .none j2 p5] k2 p6) p7,
      .Try [.Assign [.Name "said" p8] (.Call (.Name "call" p9) [] [] p10) p11] [.ExceptHandler (some (.Name "EquationError" p12)) (some "error") [.Assign [.Name "caught" p13] (.Name "error" p14) p15] p16] [] [] p17,
      .Return (some (.Tuple [.Name "caught" p18, .Name "said" p19] k3 p20)) p21] ∧
    ∀ (L : Nat) (f : Addr) (cd : Value), swappedStores [.Tuple [.Name "caught" p1, .Name "said" p2] k1 p3] (.Tuple [.Constant .none j1 p4, .Constant .none j2 p5] k2 p6) (PyProof.Rows.envOfC "_law_heard" (defScope st) L f cd) = pure none ∧
      swapsWithSole [.Tuple [.Name "caught" p1, .Name "said" p2] k1 p3] (.Tuple [.Constant .none j1 p4, .Constant .none j2 p5] k2 p6) p7.line (PyProof.Rows.envOfC "_law_heard" (defScope st) L f cd) = pure false ∧
      swapsWith (.Call (.Name "call" p9) [] [] p10) (some (.Name "said" p8)) p11.line (PyProof.Rows.envOfC "_law_heard" (defScope st) L f cd) = pure false ∧
      swapsWith (.Name "error" p14) (some (.Name "caught" p13)) p15.line (PyProof.Rows.envOfC "_law_heard" (defScope st) L f cd) = pure false
variable {X : Cx} {Ex : WX}
theorem rp_errO {K : PySem.W.Frag} {mg : Mg} {H : Hp} {W : AS} {c : Str} {d : D} {cls : Value} {dx : Option Addr} {a : Addr} (er : ErrAt K mg H W c d cls dx) (na : H a = none) (ow : Wf H W) :
    ∃ C x, cls = .ref C ∧ dx = some x ∧ Rp K mg (upd H a (ErrO a C x)) W (.ref a) (.err c d) := by
  obtain ⟨C, x, v, h1, h2, h3, h4, h5⟩ := er
  refine ⟨C, x, h2, h3, .err h1 upd_same (by rw [upd_ne (ne_of_none h4 na)]; exact h4) (h5.evo (O := fun _ => False) (Evo.upd na) (fun _ z => z.elim) fun _ z => z.elim)⟩
/-- the answer is built: (caught, said) -/
theorem heard_end {K : PySem.W.Frag} {mg : Mg} {C O : AS} {ad : Nat → Addr} {io : List Nat} {H0 H : Hp} {σ : L2.St} {ρ : En} {v1 v2 : V} {d1 d2 : D} {Q : VK} (ev : Evo O H0 H) (en : EnvOk K mg C O ad io H σ ρ) (r1 : Rp K mg H (U C O) v1 d1) (r2 : Rp K mg H (U C O) v2 d2)
    (h : ∀ v H', Evo O H0 H' → EnvOk K mg C O ad io H' σ ρ → Rp K mg H' (U C O) v (.tup [d1, d2]) → Q v H') {σZ : L2.St} (s1 : σZ[1]? = some (some v1)) (s2 : σZ[2]? = some (some v2)) :
    tTup (tCons (tVar 1) (tCons (tVar 2) tNil)) σZ H Q := by
  refine ⟨v1, s1, v2, s2, (by show 2 ≤ sizeLine; decide), fun T hT => ?_⟩
  have e2 : Evo O H (upd H T (.tup [v1, v2])) := Evo.upd hT
  exact h _ _ (ev.trans e2) (en.upd hT) (.tup (.inl (.inl upd_same)) (by show 2 ≤ sizeLine; decide) (.cons (en.rp e2 r1) (.cons (en.rp e2 r2) .nil)))
theorem de_heard {cs : List Str} {st : Stmt} {g CS c P : Addr} {fd : FuncData} {k : Nat} {pr : Arguments} {b : Expr} {sc : Scope} {m : ME} {p lpos pos : Pos} (T : HeardT X.K X.mg cs st g CS fd) (hg : Gl X "_law_heard") (tk : Takes X Ex)
    (TB : TabB X.base X.mg c P) (hcode : X.env.code = .ref c) (hmT : (P, X.env.qual ++ "<lambda>") ∈ tabsOf X.K) (hu : ∀ p ∈ tabsOf X.K, p.1 = P → p.2 = X.env.qual ++ "<lambda>") (hr : Rg (k + 2) X.A) (L : LamS X.env.scope sc) (hdef : defaultsOf pr X.env = ([], []))
    (hbind : ∀ (q : Str) (cl : List (Str × Addr)) (pm cv ctv : Value), bindArgs (PySem.W.kla_fn "<lambda>" q pr b sc cl pm cv ctv) ⟨[], []⟩ = pure [])
    (hbody : ∀ (A : Around) (outer : List Env) (s : Shared) (H : Hp) (E : XK) (f c2 : Addr), Rg k (A.deeper (lamEnv X sc s.heap.objs.size f c2)) → DE (lamCx X A outer s H E sc f c2) (fun cls d _ H => E cls d H) b m) :
    DE X Ex (.Call (.Name "_law_heard" p) [.Lambda pr b sc lpos] [] pos) (mHeard cs m) := by
  refine ⟨tDE X.K X.mg Ex (mHeard cs m), ⟨fun pins s σ H Q I h => ?_⟩, fun C O ad io H σ ρ Q en h => ⟨C, O, ad, io, ρ, en, h⟩⟩
  obtain ⟨C, O, ad, io, ρ, en, h⟩ := h
  refine wpAny_Call_Name_kw (ld_glob I hg T.gm ?_ (by decide))
  refine PySem.W.callWith_K (h₀ := X.base) I.ok.mod.kin T.fn.kp ?_ (by rfl) (by rfl)
  show wpAny _ _ (spliced ((false, eval (.Lambda pr b sc lpos) X.env) :: backTo pos (starEach [] X.env))) _ _ s
  refine Calls.spliced_cons (lam_makeE I TB hcode hmT hu en.tb hdef (L.has I.ok) ?_)
  intro f c2 pm ctv H1 s1 I1 ev1 T1 hf hfn hfr hco
  refine Calls.spliced_nil ⟨I1.kIn, ?_⟩
  have en1 := en.evo0 ev1 T1
  have ev1' : Evo O H H1 := ev1.mono fun _ z => z.elim
  obtain ⟨oc, od, kV, doc, pm2, an, cdv, ct, osl, rfl, lk, hcd⟩ := T.fn.ex
  have rc : codeAny (model X.prog X.w) X.A (.call (.ref g) ⟨[.ref f], []⟩) (CR (L2.CX X.prog X.w) X.stack X.prog X.w H1 s1 Q (WE Ex σ)) s1 := by
    refine run_ofS (N := ["call", "caught", "said", "error"]) (ps := ["call"]) (us := [.ref f]) (vs := [.ref f]) lk hcd T.sc hr.rm I1.env0 (T.bnd s1 [.ref f] I1.kIn rfl) (.cons rfl .nil) rfl ?_
    intro hr2
    obtain ⟨p1, p2, p3, p4, p5, p6, p7, p8, p9, p10, p11, p12, p13, p14, p15, p16, p17, p18, p19, p20, p21, k1, k2, k3, j1, j2, eb, sw⟩ := T.body
    rw [eb]
    generalize hZ : cxOf (L2.CX X.prog X.w) X.prog X.w X.K X.mg X.base ["call", "caught", "said", "error"] "_law_heard" (defScope st) g cdv X.A X.stack s1 H1 (WE Ex σ) = Z
    have nd : Z.N.Nodup := by rw [← hZ]; exact T.sc.nd
    have N0 : Z.N[0]? = some ("call" : Str) := by rw [← hZ]; rfl
    have N1 : Z.N[1]? = some ("caught" : Str) := by rw [← hZ]; rfl
    have N2 : Z.N[2]? = some ("said" : Str) := by rw [← hZ]; rfl
    have N3 : Z.N[3]? = some ("error" : Str) := by rw [← hZ]; rfl
    have zs : Z.env.scope = defScope st := by rw [← hZ]; rfl
    have z0 : Z.env.scope.names.lookup ("call" : Str) = some .local := by rw [zs]; exact T.l0
    have z1 : Z.env.scope.names.lookup ("caught" : Str) = some .local := by rw [zs]; exact T.l1
    have z2 : Z.env.scope.names.lookup ("said" : Str) = some .local := by rw [zs]; exact T.l2
    have z3 : Z.env.scope.names.lookup ("error" : Str) = some .local := by rw [zs]; exact T.l3
    have calm : Z.calm = true := by rw [← hZ]; rfl
    have takes : Takes Z (fun cls d _ H => WE Ex σ cls d H) := by rw [← hZ]; exact takes_of rfl rfl rfl rfl
    obtain ⟨sw1, sw2, sw3, sw4⟩ := sw s1.heap.objs.size g cdv
    have q1 : PS Z (.Assign [.Tuple [.Name "caught" p1, .Name "said" p2] k1 p3] (.Tuple [.Constant .none j1 p4, .Constant .none j2 p5] k2 p6) p7) _ :=
      ps_asg (pe_tup (pa_cons pe_non (pa_cons pe_non pa_nil))) (pg_tup calm (pgs_cons (pg_name nd N1 (.inl z1) (.inr z1)) (pgs_cons (pg_name nd N2 (.inl z2) (.inr z2)) pgs_nil))) (by rw [← hZ]; exact sw2) (by rw [← hZ]; exact sw1)
    have zf : Z.fs = frs X.stack := by rw [← hZ]; rfl
    have zp : Z.prog = X.prog := by rw [← hZ]; rfl
    have zw : Z.w = X.w := by rw [← hZ]; rfl
    have zS : Z.s_0 = s1 := by rw [← hZ]; rfl
    have zH : Z.H_0 = H1 := by rw [← hZ]; rfl
    have zx : Z.ex = [] := by rw [← hZ]; rfl
    have zm : Z.mg = X.mg := by rw [← hZ]; rfl
    have zb : Z.base = X.base := by rw [← hZ]; rfl
    have zK : Z.K = X.K := by rw [← hZ]; rfl
    have zr : Rg (k + 1) Z.A := by rw [← hZ]; exact ⟨hr2, hr.gs⟩
    have q2 := ps_try_err (X := Z) (x := "EquationError") (n := "error") (c := .ref CS) (i := 3) (np := p12) (pos := p17) (pos2 := p16)
      (body := [.Assign [.Name "said" p8] (.Call (.Name "call" p9) [] [] p10) p11]) (b1 := .Assign [.Name "caught" p13] (.Name "error" p14) p15) (suite := [])
      (tb := fun W => tAsg (fun σZ HZ Q => σZ[0]? = some (some (.ref f)) ∧ HZ c2 = some (CodeO c2 (X.env.qual ++ "<lambda>")) ∧ tDE X.K X.mg (fun cls d _ H => W cls d σZ H) m σ HZ Q) (gName 2)) (ts := fun _ _ _ => tAsg (tVar 3) (gName 1))
      (by rw [← hZ]; rfl) (by rw [← hZ]; rfl) (by rw [← hZ]; rfl) nd N3 (by show Z.env.scope.names.lookup _ = _; exact z3) ⟨by show Z.env.scope.names.lookup _ = _; rw [zs]; exact T.gl, by decide, .inl (by rw [← hZ]; exact T.ge)⟩
      (fun W pn xe tk2 _ => pss_one (ps_set (X := Z.tr pn xe) nd N2 (.inl z2) (pe_actG (Z := Z.tr pn xe) (W := W) (k := k) I1 L hf hfn hfr (hbind _ _ _ _ _) zp zw zS zH zf zx zK zm zb tk2
        zr (fun A outer s H E hA => hbody A outer s H E f c2 hA) N0 (.inl z0)) (by rw [← hZ]; exact sw3) (.inr z2)))
      (fun a oe cls d pn _ _ => pss_one (ps_set (X := Z.suite a ((a, oe) :: pn)) nd N1 (.inl z1) (pe_var N3 (.inl z3)) (by rw [← hZ]; exact sw4) (.inr z1)))
    have q3 : PS Z (.Return (some (.Tuple [.Name "caught" p18, .Name "said" p19] k3 p20)) p21) _ := ps_ret (pe_tup (pa_cons (pe_var N1 (.inl z1)) (pa_cons (pe_var N2 (.inl z2)) pa_nil)))
    refine ⟨_, pss_cons q1 (pss_cons q2 (pss_one q3)), ?_⟩
    refine ⟨by show 2 ≤ sizeLine; decide, fun T0 hT0 => ⟨T0, [.non, .non], rfl, ?_, rfl, .non, [.non], rfl, .non, [], rfl, rfl, rfl, by rw [upd_ne (ne_of_none hco hT0)]; exact hco, ?_⟩⟩
    · exact .inl (.inl upd_same)
    have en2 := en1.upd (o := .tup [.non, .non]) hT0
    have ev2 : Evo O H (upd H1 T0 (.tup [.non, .non])) := ev1'.trans (Evo.upd hT0)
    refine ⟨C, O, ad, io, ρ, en2, ?_⟩
    unfold mHeard at h
    unfold Post
    cases z : m ρ with
    | bad => rw [z] at h; exact h.elim
    | ok d ρ1 =>
      rw [z] at h
      intro v H2 ev3 en3 rv
      exact heard_end (ev2.trans ev3) en3 .non rv h rfl rfl
    | exc cx d ρ1 =>
      rw [z] at h
      dsimp only at h
      by_cases hc : cx ∈ cs
      · rw [if_pos hc] at h
        intro H2 cls dx ev3 en3 er
        refine ⟨?_, fun a na => ?_⟩
        · obtain ⟨Cc, x, v, e1, e2, _⟩ := er
          rw [e2, zK]
          exact T.ex cx hc Cc e1
        · obtain ⟨Cc, x, rfl, rfl, ra⟩ := rp_errO er na en3.wf
          refine ⟨.ref a, rfl, Cc, x, rfl, rfl, fun _ => ?_⟩
          exact heard_end ((ev2.trans ev3).trans (Evo.upd na)) (en3.upd na) ra .non h rfl rfl
      · rw [if_neg hc] at h
        exact h.elim
  refine wpAny_call (codeAny_mono rc ?_)
  intro r s2 hq
  cases r with
  | error e => exact passAt tk σ pins H1 s1 e s2 I1 hq
  | ok fl =>
    cases fl with
    | ret u => exact I1.after hq
    | next => exact hq.elim
    | brk => exact hq.elim
    | cont => exact hq.elim
end DL
set_option Elab.async false
set_option linter.all false
set_option maxRecDepth 100000
set_option maxHeartbeats 1000000
namespace DL
open PySem PySem.Spec L2
/-! ### a kept error: its value, its class -/
structure ErrV (K : PySem.W.Frag) (mg : Mg) (c : Str) (C : Addr) : Prop where
  gC : mg c = some (.ref C)
  cl : (PySem.W.clsIn K C).isSome = true
  ga : PySem.W.findIn K (.ref C) "__getattribute__" = some (some (.builtin "BaseException.__getattribute__"))
  gg : PySem.W.findIn K (.ref C) "__getattr__" = some none
  exC : PySem.W.subIn K (.ref C) (.type "BaseException") = some true
  cls : PySem.W.findIn K (.ref C) "__class__" = some (some (.builtin "object.__class__"))
  gs : PySem.W.specialIn K (.builtin "object.__class__") "__get__" = some (some (.builtin "getset_descriptor.__get__"))
  tk : PySem.W.takesIn K (.builtin "object.__class__") = some true
  mo : PySem.W.mroIn K C (.type "object") = some true
  no : PySem.W.findIn K (.ref C) "value" = some none
  hdC : PySem.W.hasDictIn K C = true
section
variable {X : Cx} {Ex : WX} {pos p : Pos} {e : Expr}
/-- a kept error's object and its dict -/
theorem err_at {pins : List (Addr × Obj)} {σ : St} {H : Hp} {s : Shared} {a C d : Addr} {v : V} (I : Inv X pins σ H s) (h1 : H a = some (ErrO a C d)) (h2 : H d = some (.xd [("value", v)])) (hd : PySem.W.hasDictIn X.K C = true) (no : PySem.W.findIn X.K (.ref C) "value" = some none) :
    ∃ oe od u, PySem.W.InstAt s.heap a oe C (some od) ∧ RelV v u ∧ PySem.W.findObj X.K C (some od) "value" = some (.value u) := by
  obtain ⟨⟨oe, vs, ha, hc, hdi, hv⟩, _, _⟩ := I.hok a _ h1
  have hx : ObjOk X.prog X.w H s.heap d (.xd [("value", v)]) := I.hok d _ h2
  obtain ⟨mA, hns, hr⟩ := hx
  obtain ⟨od, ho, hl⟩ := lookIn_ns hns
  have hl1 : List.lookup ("value" : Str) [(("value" : Str), v)] = some v := by simp [List.lookup]
  obtain ⟨u, hu, ru⟩ := RelO.some_of (v := v) (o := mA "value") (by rw [← hl1]; exact hr "value")
  exact ⟨oe, od, u, ⟨ha, hc, by unfold PySem.W.notCls; rw [hv], by rw [hdi]; exact ho⟩, ru, PySem.W.findObj_own hd no rfl (by rw [hl, hu])⟩
def mValue (cs : List Str) (m : ME) : ME := fun ρ => (m ρ).bind fun d ρ1 => match d with
  | .err c x => if c ∈ cs then .ok x ρ1 else .bad
  | _ => .bad
def tValue (K : PySem.W.Frag) (te : TE) : TE := fun σ H Q => te σ H fun x H1 => ∃ a C d v, x = .ref a ∧ H1 a = some (ErrO a C d) ∧ H1 d = some (.xd [("value", v)]) ∧ (∃ mg c, ErrV K mg c C) ∧ Q v H1
theorem pe_value {te : TE} (he : PE X e te) (hb : attributeBase e "value" X.env (eval e X.env) = eval e X.env := by rfl) : PE X (.Attribute e "value" pos) (tValue X.K te) := by
  constructor
  intro pins s σ H Q I h
  refine attr_of hb (thn (he.run pins s σ H _ I h) ?_)
  rintro u s1 ⟨x, H1, I1, rx, a, C, d, v, rfl, h1, h2, ⟨mg, c, T⟩, q⟩
  obtain rfl : u = Value.ref a := rx
  obtain ⟨oe, od, u, J, ru, fo⟩ := err_at I1 h1 h2 T.hdC T.no
  exact HandSPX.exc_get I1.kIn J T.ga T.gg T.exC fo (handed_of ru) ⟨v, H1, I1.tok _, ru, q⟩
theorem de_value {cs : List Str} {m : ME} (T : ∀ c ∈ cs, ∃ C, ErrV X.K X.mg c C) (he : DE X Ex e m) (hb : attributeBase e "value" X.env (eval e X.env) = eval e X.env := by rfl) : DE X Ex (.Attribute e "value" pos) (mValue cs m) := by
  obtain ⟨t, pe, r⟩ := he.run
  refine ⟨_, pe_value pe hb, fun C O ad io H σ ρ Q en h => ?_⟩
  refine r C O ad io H σ ρ _ en (Post.bind h fun d ρ1 v H1 _ ev1 en1 r1 h1 => ?_)
  cases r1 with
  | @err a Ce dx c w x g1 g2 g3 g4 =>
    dsimp only at h1
    split at h1
    · rename_i hc
      obtain ⟨C', T'⟩ := T c hc
      obtain rfl : Ce = C' := by
        have q := T'.gC
        rw [g1] at q
        exact Value.ref.inj (Option.some.inj q)
      exact ⟨a, Ce, dx, w, rfl, g2, g3, ⟨_, _, T'⟩, h1 _ H1 Evo.refl en1 g4⟩
    · exact h1.elim
  | _ => exact h1.elim
/-- isinstance(e, E) -/
def mIsE (cs : List Str) (f : Str → Bool) (m : ME) : ME := fun ρ => (m ρ).bind fun d ρ1 => match d with
  | .non => .ok (.bl false) ρ1
  | .err c _ => if c ∈ cs then .ok (.bl (f c)) ρ1 else .bad
  | _ => .bad
def rIsE (K : PySem.W.Frag) (D : Addr) : List V → Hp → VK → Prop := fun xs H Q => ∃ x b, xs = [x, .ref D] ∧ Q (.bl b) H ∧
  ((x = .non ∧ PySem.W.kitOne K (.type "NoneType") (.ref D) = some b) ∨ ∃ a C d v, x = .ref a ∧ H a = some (ErrO a C d) ∧ H d = some (.xd [("value", v)]) ∧ (∃ mg c, ErrV K mg c C) ∧ PySem.W.kitOne K (.ref C) (.ref D) = some b)
theorem call_isE {D : Addr} : CallR X (.builtin "isinstance") (rIsE X.K D) := by
  intro pins s σ H xs us Q I r h
  obtain ⟨x, b, rfl, q, h⟩ := h
  obtain ⟨u1, u2, rfl, r1, r2⟩ := vals2 r
  obtain rfl : u2 = Value.ref D := r2
  rcases h with ⟨rfl, hb⟩ | ⟨a, C, d, v, rfl, h1, h2, ⟨mg, c, T⟩, hb⟩
  · obtain rfl : u1 = Value.none := r1
    exact PySem.W.kia_one PySem.W.kitx_none I.kIn True.intro hb (fun z => nomatch z) fun tk => ⟨.bl b, H, I.tok tk, rfl, q⟩
  · obtain rfl : u1 = Value.ref a := r1
    obtain ⟨oe, od, u, J, ru, fo⟩ := err_at I h1 h2 T.hdC T.no
    exact PySem.W.kia_one (PySem.W.kitx_exc (x := a) (ox := oe) (od := some od) T.cl T.ga T.gg T.exC T.cls T.gs T.tk T.mo) I.kIn J hb (fun z => nomatch z) fun tk => ⟨.bl b, H, I.tok tk, rfl, q⟩
theorem de_isE {x : Str} {pT : Pos} {D : Addr} {cs : List Str} {f : Str → Bool} {m : ME} (T : ∀ c ∈ cs, ∃ C, ErrV X.K X.mg c C ∧ PySem.W.kitOne X.K (.ref C) (.ref D) = some (f c)) (hn : PySem.W.kitOne X.K (.type "NoneType") (.ref D) = some false)
    (hm : X.mg "isinstance" = none) (hmT : X.mg x = some (.ref D)) (he : DE X Ex e m) (hg : Gl X "isinstance" := by rfl) (hgT : Gl X x := by rfl) (hdT : (x == ("__debug__" : Str)) = false := by decide)
    (hs2 : starEach [.Name x pT] X.env = (false, eval (.Name x pT) X.env) :: starEach [] X.env := by rfl)
    (hs : starEach [e, .Name x pT] X.env = (false, eval e X.env) :: starEach [.Name x pT] X.env := by rfl) (hpl : (backTo pos (starEach [.Name x pT] X.env)).any (·.1) = false := by rfl) :
    DE X Ex (.Call (.Name "isinstance" p) [e, .Name x pT] [] pos) (mIsE cs f m) := by
  obtain ⟨t, pe, r⟩ := he.run
  refine ⟨_, pe_callB (call_isE (D := D)) hg hm PyProof.Rows.boot_isinstance (pa_cons pe (pa_cons (pe_glob (v := .ref D) hgT hmT rfl hdT) pa_nil hs2) hs) (by decide) (by decide) hs hpl, fun C O ad io H σ ρ Q en h => ?_⟩
  refine r C O ad io H σ ρ _ en (Post.bind h fun d ρ1 v H1 _ ev1 en1 r1 h1 => ?_)
  cases r1 with
  | non => exact ⟨.non, false, rfl, h1 _ H1 Evo.refl en1 (.bl _), .inl ⟨rfl, hn⟩⟩
  | @err a Ce dx c w x g1 g2 g3 g4 =>
    dsimp only at h1
    split at h1
    · rename_i hc
      obtain ⟨C', T', hk⟩ := T c hc
      obtain rfl : Ce = C' := by
        have q := T'.gC
        rw [g1] at q
        exact Value.ref.inj (Option.some.inj q)
      exact ⟨.ref a, f c, rfl, h1 _ H1 Evo.refl en1 (.bl _), .inr ⟨a, Ce, dx, w, rfl, g2, g3, ⟨_, _, T'⟩, hk⟩⟩
    · exact h1.elim
  | _ => exact h1.elim
end
end DL
set_option Elab.async false
set_option linter.all false
set_option maxRecDepth 100000
set_option maxHeartbeats 2000000
/-! a law's end: `law` is called behind the top, its promise told by FnG -/
namespace DL
open PySem PySem.Spec PyProof.Rows L2 LamX
/-- what is tracked where a law begins: the empty tables T, and the script's list at a, if the written part does not hold it -/
def beg (K : PySem.W.Frag) (T : List Addr) (a : Addr) (so : Obj) (xs : List V) : Hp := fun b =>
  if b ∈ T then some (.tbl #[]) else if K.lookup b = none ∧ b = a then some (.frz so (.lst xs)) else none
abbrev tabO : Obj := { cls := .none, data := .fields #[] }
abbrev lstO (ws : List Value) : Obj := { cls := .type "list", data := .seq ws.toArray }
theorem beg_tbl {K : PySem.W.Frag} {T : List Addr} {a b : Addr} {so : Obj} {xs : List V} (h : b ∈ T) : beg K T a so xs b = some (.tbl #[]) := if_pos h
theorem beg_some {K : PySem.W.Frag} {T : List Addr} {a b : Addr} {so : Obj} {xs : List V} {u : HO} (h : beg K T a so xs b = some u) : (b ∈ T ∧ u = .tbl #[]) ∨ (K.lookup b = none ∧ b = a ∧ u = .frz so (.lst xs)) := by
  unfold beg at h
  split at h
  · rename_i c
    exact .inl ⟨c, (Option.some.inj h).symm⟩
  · split at h
    · rename_i c
      exact .inr ⟨c.1, c.2, (Option.some.inj h).symm⟩
    · cases h
/-- what is known where a law begins -/
structure BegF (K : PySem.W.Frag) (T : List Addr) (a : Addr) (ws : List Value) (is : List Int) (h : Heap) : Prop where
  kin : K.In h
  emp : ∀ b ∈ T, h.get? b = some tabO
  notK : ∀ b ∈ T, K.lookup b = none
  scr : h.get? a = some (lstO ws)
  itg : IntsAre ws is
  len : is.length ≤ sizeLine
namespace BegF
variable {K : PySem.W.Frag} {T : List Addr} {a b : Addr} {ws : List Value} {is : List Int} {h : Heap} {o : Obj}
abbrev H0 (_ : BegF K T a ws is h) : Hp := beg K T a (lstO ws) (is.map V.int)
theorem aT (F : BegF K T a ws is h) : a ∉ T := fun z => by
  have e := (F.emp a z).symm.trans F.scr
  injection e with e
  injection e with _ _ e _
  cases e
/-- an object of another form is not tracked -/
theorem out (F : BegF K T a ws is h) (e : h.get? b = some o) (n1 : o ≠ tabO) (n2 : o ≠ lstO ws) : F.H0 b = none := by
  cases q : F.H0 b with
  | none => rfl
  | some u =>
    rcases beg_some q with ⟨c, _⟩ | ⟨_, c, _⟩
    · exact absurd (Option.some.inj (e.symm.trans (F.emp b c))) n1
    · rw [c] at e
      exact absurd (Option.some.inj (e.symm.trans F.scr)) n2
/-- nor an object of the written part -/
theorem outK (F : BegF K T a ws is h) (e : K.lookup b = some o) : F.H0 b = none := by
  cases q : F.H0 b with
  | none => rfl
  | some u =>
    rcases beg_some q with ⟨c, _⟩ | ⟨c, _, _⟩
    · rw [F.notK b c] at e; cases e
    · rw [c] at e; cases e
theorem vals (F : BegF K T a ws is h) : Vals (is.map V.int) ws := vals_ints F.itg
theorem room (F : BegF K T a ws is h) : (is.map V.int).length ≤ sizeLine := by rw [List.length_map]; exact F.len
theorem hok (F : BegF K T a ws is h) {P : Program} {w : World} : HOk P w F.H0 h := fun b u e => by
  rcases beg_some e with ⟨c, z⟩ | ⟨_, c, z⟩
  · rw [z]; exact F.emp b c
  · rw [z, c]; exact ⟨F.scr, F.room, ws, _, F.vals, F.scr⟩
theorem seq (F : BegF K T a ws is h) : SqL K F.H0 a (is.map V.int) := by
  cases q : K.lookup a with
  | none => exact .inl (.inr ⟨lstO ws, (if_neg F.aT).trans (if_pos ⟨q, rfl⟩)⟩)
  | some o =>
    have e : lstO ws = o := Option.some.inj (F.scr.symm.trans (F.kin a o q))
    have n : ws.length ≤ sizeLine := by rw [F.itg.length]; exact F.len
    exact .inr ⟨o, ws.toArray, _, q, by rw [← e], by rw [← e], by rw [← e], by simpa using n, by simpa using F.vals⟩
/-- the heap that the layer takes for its base -/
theorem kinB (F : BegF K T a ws is h) : K.In (hidT h F.H0) := fun b o e => hidT_get (F.kin b o e) (F.outK e)
theorem nsB (F : BegF K T a ws is h) {m : Str → Option Value} (n : h.Ns b m) : (hidT h F.H0).Ns b m := by
  obtain ⟨o, es, ep, e, d, r⟩ := n
  refine ⟨o, es, ep, hidT_get e (F.out e (fun z => ?_) fun z => ?_), d, r⟩
  · rw [z] at d; cases d
  · rw [z] at d; cases d
theorem modB (F : BegF K T a ws is h) {mg mB : Str → Option Value} (g : h.Ns mainGlobals mg) (b : h.Ns builtinsNs mB) (bb : ∀ x : Str, x ≠ "__name__" → mB x = bootBuiltins x) (l : h.NoLimit) : L2.Mod K mg (hidT h F.H0) := by
  obtain ⟨mc, l1, l2⟩ := l
  exact ⟨F.kinB, F.nsB g, ⟨mB, F.nsB b, bb⟩, ⟨mc, F.nsB l1, l2⟩⟩
/-- a table, seen from the base -/
theorem tabB (F : BegF K T a ws is h) {mg : Str → Option Value} {c : Addr} (hb : b ∈ T) (g : h.Ns mainGlobals mg) (C : PySem.W.CodeHd h c b)
    (bm : ∃ (bm : Addr) (oo : Obj), mg "__builtins__" = some (.ref bm) ∧ bm ≠ builtinsNs ∧ h.get? bm = some oo ∧ oo.cls = .type "module" ∧ oo.dict = some builtinsNs ∧ oo.data = .plain) : TabB (hidT h F.H0) mg c b := by
  have nG : mainGlobals ≠ b := fun z => by
    obtain ⟨o, es, ep, e, d, _⟩ := g
    rw [z, F.emp b hb] at e
    cases e; cases d
  obtain ⟨m, oo, b1, b2, b3, b4, b5, b6⟩ := bm
  have nT : oo ≠ tabO := fun z => by rw [z] at b6; cases b6
  have nL : oo ≠ lstO ws := fun z => by rw [z] at b6; cases b6
  obtain ⟨o, us, file, tf, flags, tg, inF, text, tt, e1, r1, r2, r⟩ := C
  refine ⟨⟨o, us, file, tf, flags, tg, inF, text, tt, hidT_get e1 (F.out e1 (fun z => ?_) fun z => ?_), r1, r2, r⟩, ⟨m, oo, b1, b2, fun z => ?_, fun z => ?_, hidT_get b3 (F.out b3 nT nL), b4, b5, b6⟩, nG⟩
  · rw [z] at r2
    cases r2
    have r3 := r.1
    simp at r3
  · rw [z] at r2; cases r2
  · obtain ⟨o, es, ep, e, d, _⟩ := g
    rw [← z, b3] at e
    cases e
    rw [b6] at d; cases d
  · rw [z, F.emp b hb] at b3
    exact nT (Option.some.inj b3).symm
end BegF
/-- what a law leaves: all but tables as it was, tables grown -/
theorem oldK_of {P : Program} {w : World} {K : PySem.W.Frag} {T : List Addr} {a : Addr} {ws : List Value} {is : List Int} {h h' : Heap} {H' : Hp} (F : BegF K T a ws is h) (ct : ∀ b ∈ T, ∃ c, PySem.W.CodeHd h c b) (un : Un (frs ([] : List Env)) [] F.H0 H' h h') (ok : HOk P w H' h') : OldK h h' := by
  have tab : ∀ b ∈ T, ∃ more : Array Value, h'.get? b = some { cls := .none, data := .fields more } := fun b hb => by
    obtain ⟨more, e⟩ := un.tbls b #[] (beg_tbl hb)
    exact ⟨_, ok b _ e⟩
  have other : ∀ b o, b ∉ T → h.get? b = some o → h'.get? b = some o := fun b o nb e => by
    cases q : F.H0 b with
    | none => exact un.keep b o e q (by simp [frs]) (by simp)
    | some u =>
      rcases beg_some q with ⟨c, _⟩ | ⟨_, c, z⟩
      · exact absurd c nb
      · rw [z] at q
        have e2 := (ok b _ (un.frzs b _ _ q)).1
        rw [c, F.scr] at e
        rw [e2, Option.some.inj e]
  refine ⟨fun b o e => ?_, fun b o e => ?_⟩
  · by_cases hb : b ∈ T
    · obtain ⟨c, C⟩ := ct b hb
      obtain ⟨more, em⟩ := tab b hb
      have eo : tabO = o := Option.some.inj ((F.emp b hb).symm.trans e)
      rw [← eo]
      exact .inr (.inl ⟨(C.tab (F.emp b hb)).isCodeTable, rfl, #[], more, rfl, by rw [Array.empty_append]; exact em⟩)
    · exact .inl (other b o hb e)
  · by_cases hb : b ∈ T
    · obtain ⟨more, em⟩ := tab b hb
      exact ⟨_, em⟩
    · exact ⟨o, other b o hb e⟩
/-- the call of a law that is told by FnG -/
theorem law_callG {P : Program} {w : World} {K : PySem.W.Frag} {mg mB : Str → Option Value} {k : Nat} {fa a : Addr} {tb : List (Addr × Addr)} {fd : FuncData} {x : Str} {sp : Sp} {s : Shared} {ws : List Value} {is : List Int}
    (kin : K.In s.heap) (g : s.heap.Ns mainGlobals mg) (b : s.heap.Ns builtinsNs mB) (bb : ∀ x : Str, x ≠ "__name__" → mB x = bootBuiltins x) (nl : s.heap.NoLimit) (gens : s.gens = #[])
    (t1 : ∀ p ∈ tb, s.heap.get? p.2 = some { cls := .none, data := .fields #[] }) (t2 : ∀ p ∈ tb, K.lookup p.2 = none) (t3 : ∀ p ∈ tb, PySem.W.CodeHd s.heap p.1 p.2)
    (bm : ∃ (bm : Addr) (oo : Obj), mg "__builtins__" = some (.ref bm) ∧ bm ≠ builtinsNs ∧ s.heap.get? bm = some oo ∧ oo.cls = .type "module" ∧ oo.dict = some builtinsNs ∧ oo.data = .plain)
    (scr : s.heap.get? a = some { cls := .type "list", data := .seq ws.toArray }) (itg : IntsAre ws is) (len : is.length ≤ sizeLine) (hr : Rg k callerA)
    (F : ∀ base : Heap, K.In base → base.Ns mainGlobals mg → (∀ p ∈ tb, TabB base mg p.1 p.2) → FnG P w K mg base k fa fd [x] sp) (bind : ∀ (s : Shared) (u : Value), BindsTo s fd ⟨[u], []⟩ [(x, u)])
    (hsp : ∀ H : Hp, (∀ p ∈ tb, H p.2 = some (.tbl #[])) → SqL K H a (is.map V.int) → sp [.ref a] H (fun v _ => v = .bl true) fun _ _ _ => False) :
    codeAny (model P w) callerA (.call (.ref fa) ⟨[.ref a], []⟩) (fun r s' => r = .ok (.ret (.bool true)) ∧ OldK s.heap s'.heap ∧ s'.os = s.os ∧ AllBare s'.gens) s := by
  have mem : ∀ p ∈ tb, p.2 ∈ tb.map (·.2) := fun p hp => List.mem_map_of_mem hp
  have all : ∀ {C : Addr → Prop}, (∀ p ∈ tb, C p.2) → ∀ b ∈ tb.map (·.2), C b := fun {C} h b hb => by
    obtain ⟨p, hp, e⟩ := List.mem_map.mp hb
    rw [← e]; exact h p hp
  have B : BegF K (tb.map (·.2)) a ws is s.heap := ⟨kin, all t1, all t2, scr, itg, len⟩
  have G := F _ B.kinB (B.nsB g) fun p hp => B.tabB (mem p hp) g (t3 p hp) bm
  have env : Env0 P w K mg (hidT s.heap B.H0) callerA [] s B.H0 := {
    frames := rfl
    mod := B.modB g b bb nl
    bs := fun _ _ e => of_hidT e
    bsz := by rw [hidT_size]; exact Nat.le_refl _
    funs := trivial
    frf := fun _ z => by simp [frs] at z
    hok := B.hok
    bare := .of_eq gens }
  have run := G.run callerA [] s B.H0 ⟨[.ref a], []⟩ [.ref a] [.ref a] _ _ hr env (bind s (.ref a)) (.cons rfl .nil) (hsp _ (fun p hp => beg_tbl (mem p hp)) B.seq)
  refine codeAny_mono run fun r s' h => ?_
  match r, h with
  | .ok (.ret u), h =>
    obtain ⟨v, H', os, bare, un, ok, rv, q⟩ := h
    have q : v = .bl true := q
    rw [q] at rv
    have rv : u = .bool true := rv
    rw [rv]
    exact ⟨rfl, oldK_of B (all fun p hp => ⟨p.1, t3 p hp⟩) un ok, os, bare⟩
  | .ok .next, h => exact h.elim
  | .ok .brk, h => exact h.elim
  | .ok .cont, h => exact h.elim
  | .error e, h =>
    obtain ⟨_, _, _, _, _, _, _, _, _, _, _, _, z⟩ := h
    exact z.elim
/-- a row's end: a law that is told by its meaning -/
theorem walk_D {l : PySem.W.OpenLaw} {n k : Nat} {q : Program} {loose : List Str} {XP : (Str → Option Value) → Heap → Prop} {YP : World → Heap → Prop} {d : DefRec} {K : Params → PySem.W.Frag}
    (most : l.most = some n) (small : n ≤ sizeLine) (plain : d.params.defaults = []) (hr : Rg k callerA) (kin : ∀ (w : World) (h : Heap), YP w h → (K w.params).In h)
    (F : ∀ (w : World) (mg : Str → Option Value) (fa : Addr) (h : Heap), YP w h → (K w.params).In h → h.Ns mainGlobals mg → mg d.name = some (.ref fa) →
      ∃ (fd : FuncData) (tb : List (Addr × Addr)) (Fl : List D → Out), (∀ p ∈ tb, h.get? p.2 = some { cls := .none, data := .fields #[] }) ∧ (∀ p ∈ tb, (K w.params).lookup p.2 = none) ∧ (∀ p ∈ tb, PySem.W.CodeHd h p.1 p.2) ∧ (∀ p ∈ tabsOf (K w.params), p.1 ∈ tb.map (·.2)) ∧
        (∀ (s : Shared) (u : Value), BindsTo s fd ⟨[u], []⟩ [("script", u)]) ∧ (∀ ns : List Int, ns.length ≤ n → (∀ z ∈ ns, Builtin.Int.intBits z ≤ 1048576) → Fl [.kl (ns.map .int)] = .ok (.bl true) []) ∧
        ∀ base : Heap, (K w.params).In base → base.Ns mainGlobals mg → (∀ p ∈ tb, TabB base mg p.1 p.2) → FnG l.prog w (K w.params) mg base k fa fd ["script"] (spD (K w.params) mg 1 [] false Fl)) :
    PySem.W.WalkO q loose XP YP l.row.toRowW d [] (fun f vs => PySem.call f vs) := by
  apply Att.attach_callB most plain
  intro w s0 s1 mg mB fa o pm cd doc a ws ns G Y ho hd hcd hmg scr itg len bits gens
  obtain ⟨fd, tb, Fl, t1, t2, t3, t4, bind, tell, fn⟩ := F w mg fa _ Y (kin w _ Y) G.T.g hmg
  refine law_callG (kin w _ Y) G.T.g G.T.b G.T.builtins G.T.nolimit gens t1 t2 t3 G.T.bmain scr itg (Nat.le_trans len small) hr fn bind fun H hT hS => ?_
  have tabs : LamX.Tabs (tabsOf (K w.params)) H := fun p hp => by
    obtain ⟨c, hc, e⟩ := List.mem_map.mp (t4 p hp)
    rw [show p.1 = c.2 from e.symm]
    exact LamX.TabS.nil (hT c hc)
  have arg : Rp (K w.params) mg H (fun _ => False) (.ref a) (.kl (ns.map .int)) := .kl (KlT.of hS fun _ z => z) (by rw [List.length_map]; exact Nat.le_trans len small) (RpL.of_ints ns)
  refine ⟨[.kl (ns.map .int)], fun _ => False, fun _ => 0, rfl, en_vals (fun _ z => z.elim) tabs (.cons arg .nil), ?_⟩
  rw [tell ns len bits]
  intro v H' _ _ _ _ r
  cases (show Rp (K w.params) mg H' _ v (.bl true) from r)
  rfl
end DL
set_option Elab.async false
set_option linter.all false
set_option maxRecDepth 100000
set_option maxHeartbeats 4000000
namespace G08
open PySem PySem.Spec L2 DL LamX
/-! the defs of the text, their meanings -/
def top (i : Nat) : Stmt := PySem.Challenge.pw_whatequationssay_k08_whole_tables_as_tex.main.body.getD i (.Pass ⟨0, 0, 0, 0⟩)
def errs : List Str := ["EquationError", "BadSigns", "BadTable", "BadTableText"]
abbrev s_is_integer : Stmt := top 10
abbrev s_is_between : Stmt := top 11
abbrev s_are_between : Stmt := top 12
abbrev s_is_name : Stmt := top 13
abbrev s_power : Stmt := top 14
abbrev s_is_sign : Stmt := top 18
abbrev s_is_signs : Stmt := top 19
abbrev s_check_signs : Stmt := top 20
abbrev s_is_size : Stmt := top 25
abbrev s_is_table_of : Stmt := top 26
abbrev s_check_its_table : Stmt := top 27
abbrev s_check_table : Stmt := top 28
abbrev s_table_lines : Stmt := top 31
abbrev s_table_text : Stmt := top 32
abbrev s_thing_in : Stmt := top 33
abbrev s_row_in : Stmt := top 34
abbrev s_things_in : Stmt := top 35
abbrev s_read_table : Stmt := top 36
abbrev s__law_pot : Stmt := top 38
abbrev s__law_take : Stmt := top 39
abbrev s__law_of : Stmt := top 40
abbrev s__law_cells : Stmt := top 41
abbrev s__law_heard : Stmt := top 42
abbrev s__law_signs : Stmt := top 43
abbrev s__law_rows : Stmt := top 44
abbrev s__law_known_row : Stmt := top 45
abbrev s__law_table : Stmt := top 46
abbrev s__law_line : Stmt := top 47
abbrev s__law_is_read : Stmt := top 48
abbrev s__law_right : Stmt := top 49
abbrev s_law : Stmt := top 50
theorem sc_is_integer : FnScope ["value"] ["value"] (defScope s_is_integer) := ⟨rfl, rfl, rfl, by decide +kernel, rfl, by decide +kernel, by decide +kernel⟩
def m_is_integer : MS := (mRet (mAnd (mIsB "int" (mVar 0)) (mUn iNot (mIsB "bool" (mVar 0)))))
def F_is_integer : List D → Out := runF [] false 1 m_is_integer
theorem sc_is_between : FnScope ["value", "low", "high"] ["value", "low", "high"] (defScope s_is_between) := ⟨rfl, rfl, rfl, by decide +kernel, rfl, by decide +kernel, by decide +kernel⟩
def m_is_between : MS := (mRet (mAnd (mCall F_is_integer (maCons (mXA 0) maNil)) (mChain iLe iLe (mXA 1) (mXA 0) (mXA 2))))
def F_is_between : List D → Out := runF [] false 3 m_is_between
theorem sc_are_between : FnScope ["value", "low", "high", "one"] ["value", "low", "high"] (defScope s_are_between) := ⟨rfl, rfl, rfl, by decide +kernel, rfl, by decide +kernel, by decide +kernel⟩
def m_are_between : MS := (mRet (mAnd (mIsB "tuple" (mVar 0)) (mFn fAll (maCons (mV (mL (mLc (mSeqI (mVar 0)) (gN 3) [3] (fun ρ => .ok true ρ) (mCall F_is_between (maCons (mXA 3) (maCons (mXA 1) (maCons (mXA 2) maNil))))))) maNil))))
def F_are_between : List D → Out := runF [] false 4 m_are_between
theorem sc_is_name : FnScope ["value", "sign"] ["value"] (defScope s_is_name) := ⟨rfl, rfl, rfl, by decide +kernel, rfl, by decide +kernel, by decide +kernel⟩
def m_is_name : MS := (mSeq (mIfS (mOrT (mNotT (mT (mIsB "str" (mVar 0)))) (mOrT (mNotT (mT (mChain iLe iLe (mV (mC (.int 1))) (mV (mFn fLen (maCons (mXA 0) maNil))) (mV (mC (.int 8)))))) (mT (mBin (cmpD inD) (mXA 0) (mV (mC (.tup [(.str ("u" : Str)), (.str ("v" : Str)), (.str ("w" : Str)), (.str ("x" : Str)), (.str ("y" : Str)), (.str ("z" : Str))]))))))) (mRet (mC (.bl false))) .nx) (mRet (mAnd (mBin (cmpD inD) (mV (mBin ixD (mXA 0) (mV (mC (.int 0))))) (mV (mC (.str ("abcdefghijklmnopqrstuvwxyz" : Str))))) (mFn fAll (maCons (mV (mL (mLc (mSeqI (mVar 0)) (gN 1) [1] (fun ρ => .ok true ρ) (mBin (cmpD inD) (mXA 1) (mV (mBin addD (mV (mC (.str ("abcdefghijklmnopqrstuvwxyz" : Str)))) (mV (mC (.str ("0123456789" : Str)))))))))) maNil)))))
def F_is_name : List D → Out := runF [] false 2 m_is_name
theorem sc_power : FnScope ["things", "places", "found", "place"] ["things", "places"] (defScope s_power) := ⟨rfl, rfl, rfl, by decide +kernel, rfl, by decide +kernel, by decide +kernel⟩
def m_power : MS := (mSeq (mSet 2 (mC (.int 1))) (mSeq (mFor (mArgI rangeOf1 (maCons (mXA 1) maNil)) (gN 3) (mSet 2 (mBin iMul (mXA 2) (mXA 0)))) (mRet (mVar 2))))
def F_power : List D → Out := runF [] false 4 m_power
theorem sc_is_sign : FnScope ["value"] ["value"] (defScope s_is_sign) := ⟨rfl, rfl, rfl, by decide +kernel, rfl, by decide +kernel, by decide +kernel⟩
def m_is_sign : MS := (mRet (mAnd (mIsB "tuple" (mVar 0)) (mAnd (mBin (cmpD eqD) (mV (mFn fLen (maCons (mXA 0) maNil))) (mV (mC (.int 2)))) (mAnd (mCall F_is_name (maCons (mV (mBin ixD (mXA 0) (mV (mC (.int 0))))) maNil)) (mCall F_is_between (maCons (mV (mBin ixD (mXA 0) (mV (mC (.int 1))))) (maCons (mV (mC (.int 0))) (maCons (mV (mC (.int 3))) maNil))))))))
def F_is_sign : List D → Out := runF [] false 1 m_is_sign
theorem sc_is_signs : FnScope ["value", "one", "name", "places"] ["value"] (defScope s_is_signs) := ⟨rfl, rfl, rfl, by decide +kernel, rfl, by decide +kernel, by decide +kernel⟩
def m_is_signs : MS := (mSeq (mIfS (mOrT (mNotT (mT (mIsB "tuple" (mVar 0)))) (mOrT (mNotT (mT (mChain iLe iLe (mV (mC (.int 1))) (mV (mFn fLen (maCons (mXA 0) maNil))) (mV (mC (.int 4)))))) (mNotT (mT (mFn fAll (maCons (mV (mL (mLc (mSeqI (mVar 0)) (gN 1) [1] (fun ρ => .ok true ρ) (mCall F_is_sign (maCons (mXA 1) maNil))))) maNil)))))) (mRet (mC (.bl false))) .nx) (mRet (mBin (cmpD eqD) (mV (mLenSet (mL (mLc (mSeqI (mVar 0)) (gT 2 (gCs (gN 2) (gCs (gN 3) gNs))) [2, 3] (fun ρ => .ok true ρ) (mVar 2))))) (mV (mFn fLen (maCons (mXA 0) maNil))))))
def F_is_signs : List D → Out := runF [] false 4 m_is_signs
theorem sc_check_signs : FnScope ["value"] ["value"] (defScope s_check_signs) := ⟨rfl, rfl, rfl, by decide +kernel, rfl, by decide +kernel, by decide +kernel⟩
def m_check_signs : MS := (mIfS (mNotT (mT (mCall F_is_signs (maCons (mXA 0) maNil)))) (mRaise ("BadSigns" : Str) (mVar 0)) .nx)
def F_check_signs : List D → Out := runF [] false 1 m_check_signs
theorem sc_is_size : FnScope ["value"] ["value"] (defScope s_is_size) := ⟨rfl, rfl, rfl, by decide +kernel, rfl, by decide +kernel, by decide +kernel⟩
def m_is_size : MS := (mRet (mCall F_is_between (maCons (mXA 0) (maCons (mV (mC (.int 1))) (maCons (mV (mC (.int 6))) maNil)))))
def F_is_size : List D → Out := runF [] false 1 m_is_size
theorem sc_is_table_of : FnScope ["signs", "value", "row", "name", "places"] ["signs", "value"] (defScope s_is_table_of) := ⟨rfl, rfl, rfl, by decide +kernel, rfl, by decide +kernel, by decide +kernel⟩
def m_is_table_of : MS := (mSeq (mIfS (mOrT (mNotT (mT (mIsB "tuple" (mVar 1)))) (mOrT (mT (mBin (cmpD neD) (mV (mFn fLen (maCons (mXA 1) maNil))) (mV (mC (.int 2))))) (mOrT (mNotT (mT (mCall F_is_size (maCons (mV (mBin ixD (mXA 1) (mV (mC (.int 0))))) maNil)))) (mNotT (mT (mIsB "tuple" (mBin ixD (mXA 1) (mV (mC (.int 1)))))))))) (mRet (mC (.bl false))) .nx) (mSeq (mIfS (mOrT (mT (mBin (cmpD neD) (mV (mFn fLen (maCons (mV (mBin ixD (mXA 1) (mV (mC (.int 1))))) maNil))) (mV (mFn fLen (maCons (mXA 0) maNil))))) (mNotT (mT (mFn fAll (maCons (mV (mL (mLc (mSeqI (mBin ixD (mXA 1) (mV (mC (.int 1))))) (gN 2) [2] (fun ρ => .ok true ρ) (mCall F_are_between (maCons (mXA 2) (maCons (mV (mC (.int 0))) (maCons (mV (mBin iSub (mV (mBin ixD (mXA 1) (mV (mC (.int 0))))) (mV (mC (.int 1))))) maNil))))))) maNil))))) (mRet (mC (.bl false))) .nx) (mRet (mFn fAll (maCons (mV (mL (mLc (mArgI zipOf (maCons (mXA 0) (maCons (mV (mBin ixD (mXA 1) (mV (mC (.int 1))))) maNil))) (gT 2 (gCs (gT 2 (gCs (gN 3) (gCs (gN 4) gNs))) (gCs (gN 2) gNs))) [3, 4, 2] (fun ρ => .ok true ρ) (mBin (cmpD eqD) (mV (mFn fLen (maCons (mXA 2) maNil))) (mV (mCall F_power (maCons (mV (mBin ixD (mXA 1) (mV (mC (.int 0))))) (maCons (mXA 4) maNil)))))))) maNil)))))
def F_is_table_of : List D → Out := runF [] false 5 m_is_table_of
theorem sc_check_its_table : FnScope ["signs", "table"] ["signs", "table"] (defScope s_check_its_table) := ⟨rfl, rfl, rfl, by decide +kernel, rfl, by decide +kernel, by decide +kernel⟩
def m_check_its_table : MS := (mIfS (mNotT (mT (mCall F_is_table_of (maCons (mXA 0) (maCons (mXA 1) maNil))))) (mRaise ("BadTable" : Str) (mVar 1)) .nx)
def F_check_its_table : List D → Out := runF [] false 2 m_check_its_table
theorem sc_check_table : FnScope ["signs", "table"] ["signs", "table"] (defScope s_check_table) := ⟨rfl, rfl, rfl, by decide +kernel, rfl, by decide +kernel, by decide +kernel⟩
def m_check_table : MS := (mSeq (mDrop (mCall F_check_signs (maCons (mXA 0) maNil))) (mDrop (mCall F_check_its_table (maCons (mXA 0) (maCons (mXA 1) maNil)))))
def F_check_table : List D → Out := runF [] false 2 m_check_table
theorem sc_table_lines : FnScope ["signs", "table", "rows", "name", "places", "row", "thing"] ["signs", "table"] (defScope s_table_lines) := ⟨rfl, rfl, rfl, by decide +kernel, rfl, by decide +kernel, by decide +kernel⟩
def m_table_lines : MS := (mSeq (mSetF 2 (mLc (mArgI zipOf (maCons (mXA 0) (maCons (mV (mBin ixD (mXA 1) (mV (mC (.int 1))))) maNil))) (gT 2 (gCs (gT 2 (gCs (gN 3) (gCs (gN 4) gNs))) (gCs (gN 5) gNs))) [3, 4, 5] (fun ρ => .ok true ρ) (mJoin (mC (.str (" " : Str))) (mV (mL (mLst (maCons (mXA 3) (maStar (mV (mL (mLc (mSeqI (mVar 5)) (gN 6) [6] (fun ρ => .ok true ρ) (mFn fStr (maCons (mXA 6) maNil))))) maNil)))))))) (mRet (mL (mLst (maCons (mV (mJoin (mC (.str (" " : Str))) (mV (mL (mLst (maCons (mV (mC (.str ("things" : Str)))) (maCons (mV (mFn fStr (maCons (mV (mBin ixD (mXA 1) (mV (mC (.int 0))))) maNil))) maNil))))))) (maStar (mXA 2) maNil))))))
def F_table_lines : List D → Out := runF [] false 7 m_table_lines
theorem sc_table_text : FnScope ["signs", "table"] ["signs", "table"] (defScope s_table_text) := ⟨rfl, rfl, rfl, by decide +kernel, rfl, by decide +kernel, by decide +kernel⟩
def m_table_text : MS := (mSeq (mDrop (mCall F_check_table (maCons (mXA 0) (maCons (mXA 1) maNil)))) (mRet (mJoin (mC (.str ("\n" : Str))) (mV (mCall F_table_lines (maCons (mXA 0) (maCons (mXA 1) maNil)))))))
def F_table_text : List D → Out := runF [] false 2 m_table_text
theorem sc_thing_in : FnScope ["word", "things"] ["word", "things"] (defScope s_thing_in) := ⟨rfl, rfl, rfl, by decide +kernel, rfl, by decide +kernel, by decide +kernel⟩
def m_thing_in : MS := (mSeq (mIfS (mOrT (mT (mBin (cmpD neD) (mV (mFn fLen (maCons (mXA 0) maNil))) (mV (mC (.int 1))))) (mT (mBin (cmpD notInD) (mXA 0) (mV (mC (.str ("0123456789" : Str))))))) (mRet (mC .non)) .nx) (mRet (mIf (mT (mBin iLt (mV (mFn fInt (maCons (mXA 0) maNil))) (mXA 1))) (mFn fInt (maCons (mXA 0) maNil)) (mC .non))))
def F_thing_in : List D → Out := runF [] false 2 m_thing_in
theorem sc_row_in : FnScope ["sign", "things", "line", "words", "found", "word"] ["sign", "things", "line"] (defScope s_row_in) := ⟨rfl, rfl, rfl, by decide +kernel, rfl, by decide +kernel, by decide +kernel⟩
def m_row_in : MS := (mSeq (mSet 3 (mL (mSplit (mVar 2) (mC (.str (" " : Str)))))) (mSeq (mSetF 4 (mLc (mSeqI (mSl (mXA 3) (mPart (mC (.int 1))) (fun ρ => .ok none ρ))) (gN 5) [5] (fun ρ => .ok true ρ) (mCall F_thing_in (maCons (mXA 5) (maCons (mXA 1) maNil))))) (mSeq (mIfS (mOrT (mT (mBin (cmpD neD) (mV (mBin ixD (mXA 3) (mV (mC (.int 0))))) (mV (mBin ixD (mXA 0) (mV (mC (.int 0))))))) (mOrT (mT (mBin (cmpD inD) (mV (mC .non)) (mXA 4))) (mT (mBin (cmpD neD) (mV (mFn fLen (maCons (mXA 4) maNil))) (mV (mCall F_power (maCons (mXA 1) (maCons (mV (mBin ixD (mXA 0) (mV (mC (.int 1))))) maNil)))))))) (mRet (mC .non)) .nx) (mRet (mFn fTuple (maCons (mXA 4) maNil))))))
def F_row_in : List D → Out := runF [] false 6 m_row_in
theorem sc_things_in : FnScope ["line", "words", "found"] ["line"] (defScope s_things_in) := ⟨rfl, rfl, rfl, by decide +kernel, rfl, by decide +kernel, by decide +kernel⟩
def m_things_in : MS := (mSeq (mSet 1 (mL (mSplit (mVar 0) (mC (.str (" " : Str)))))) (mSeq (mIfS (mOrT (mT (mBin (cmpD neD) (mV (mFn fLen (maCons (mXA 1) maNil))) (mV (mC (.int 2))))) (mT (mBin (cmpD neD) (mV (mBin ixD (mXA 1) (mV (mC (.int 0))))) (mV (mC (.str ("things" : Str))))))) (mRet (mC .non)) .nx) (mSeq (mSet 2 (mCall F_thing_in (maCons (mV (mBin ixD (mXA 1) (mV (mC (.int 1))))) (maCons (mV (mBin addD (mV (mC (.int 6))) (mV (mC (.int 1))))) maNil)))) (mRet (mIf (mAndT (mT (mBin notN (mXA 2) (mV (mC .non)))) (mT (mBin iGt (mXA 2) (mV (mC (.int 0)))))) (mVar 2) (mC .non))))))
def F_things_in : List D → Out := runF [] false 3 m_things_in
theorem sc_read_table : FnScope ["signs", "text", "lines", "things", "found", "number", "line", "row"] ["signs", "text"] (defScope s_read_table) := ⟨rfl, rfl, rfl, by decide +kernel, rfl, by decide +kernel, by decide +kernel⟩
def m_read_table : MS := (mSeq (mDrop (mCall F_check_signs (maCons (mXA 0) maNil))) (mSeq (mIfS (mNotT (mT (mIsB "str" (mVar 1)))) (mRaise ("BadTableText" : Str) (mC (.int 0))) .nx) (mSeq (mSet 2 (mL (mSplit (mVar 1) (mC (.str ("\n" : Str)))))) (mSeq (mPar [3, 4] (mpV (mCall F_things_in (maCons (mV (mBin ixD (mXA 2) (mV (mC (.int 0))))) maNil)) (mpF (mLst maNil) (fun ρ => .ok [] ρ)))) (mSeq (mIfS (mT (mBin isN (mXA 3) (mV (mC .non)))) (mRaise ("BadTableText" : Str) (mC (.int 1))) .nx) (mSeq (mFor (mArgI enumOf (maCons (mV (mSl (mXA 2) (mPart (mC (.int 1))) (fun ρ => .ok none ρ))) maNil)) (gT 2 (gCs (gN 5) (gCs (gN 6) gNs))) (mSeq (mSet 7 (mIf (mT (mBin iLt (mXA 5) (mV (mFn fLen (maCons (mXA 0) maNil))))) (mCall F_row_in (maCons (mV (mBin ixD (mXA 0) (mXA 5))) (maCons (mXA 3) (maCons (mXA 6) maNil)))) (mC .non))) (mSeq (mIfS (mT (mBin isN (mXA 7) (mV (mC .non)))) (mRaise ("BadTableText" : Str) (mBin addD (mXA 5) (mV (mC (.int 2))))) .nx) (mDrop (mAppend 4 (mVar 7)))))) (mSeq (mIfS (mT (mBin iLt (mV (mFn fLen (maCons (mXA 4) maNil))) (mV (mFn fLen (maCons (mXA 0) maNil))))) (mRaise ("BadTableText" : Str) (mBin addD (mV (mFn fLen (maCons (mXA 2) maNil))) (mV (mC (.int 1))))) .nx) (mRet (mTup (maCons (mXA 3) (maCons (mV (mFn fTuple (maCons (mXA 4) maNil))) maNil)))))))))))
def F_read_table : List D → Out := runF [] false 8 m_read_table
theorem sc__law_pot : FnScope ["script", "place", "cell", "own", "small"] ["script", "place"] (defScope s__law_pot) := ⟨rfl, rfl, rfl, by decide +kernel, rfl, by decide +kernel, by decide +kernel⟩
def m__law_pot : MS := (mSeq (mSet 2 (mIf (mT (mBin iLt (mXA 1) (mV (mFn fLen (maCons (mXA 0) maNil))))) (mBin ixD (mXA 0) (mXA 1)) (mBin addD (mV (mBin iMul (mV (mC (.int 3931))) (mXA 1))) (mV (mC (.int 3701)))))) (mSeq (mSet 3 (mBin iMul (mV (mBin iMod (mV (mFn fInt (maCons (mV (mFn fAbs (maCons (mXA 2) maNil))) maNil))) (mV (mBin iPow (mV (mBin iPow (mV (mC (.int 10))) (mV (mC (.int 60))))) (mV (mC (.int 5))))))) (mV (mFn fInt (maCons (mV (mBin iGe (mV (mFn fAbs (maCons (mXA 2) maNil))) (mV (mBin iPow (mV (mC (.int 10))) (mV (mC (.int 18))))))) maNil))))) (mSeq (mSet 4 (mBin iMod (mV (mFn fInt (maCons (mXA 2) maNil))) (mV (mC (.int 2305843009213693951))))) (mRetF (mLst (maCons (mXA 3) (maCons (mV (mBin iMod (mV (mFn fInt (maCons (mV (mBin addD (mV (mBin addD (mV (mBin iMul (mXA 4) (mV (mC (.int 92419))))) (mV (mBin iMul (mV (mBin iMul (mV (mC (.int 8191))) (mXA 1))) (mXA 1))))) (mV (mC (.int 4463))))) maNil))) (mV (mC (.int 2305843009213693921))))) (maCons (mV (mC (.int 0))) maNil))))))))
def F__law_pot : List D → Out := runF [] true 5 m__law_pot
theorem sc__law_take : FnScope ["pot", "upto", "digit", "prime", "blend"] ["pot", "upto"] (defScope s__law_take) := ⟨rfl, rfl, rfl, by decide +kernel, rfl, by decide +kernel, by decide +kernel⟩
def m__law_take : MS := (mSeq (mIfS (mT (mBin iGt (mV (mBin ixD (mXA 0) (mV (mC (.int 0))))) (mV (mC (.int 0))))) (mSeq (mSet 2 (mBin iMod (mV (mFn fInt (maCons (mV (mBin ixD (mXA 0) (mV (mC (.int 0))))) maNil))) (mXA 1))) (mSeq (mPut 0 (mC (.int 0)) (mBin iDiv (mV (mBin ixD (mXA 0) (mV (mC (.int 0))))) (mXA 1))) (mRet (mVar 2)))) .nx) (mSeq (mPut 0 (mC (.int 2)) (mBin addD (mV (mBin ixD (mXA 0) (mV (mC (.int 2))))) (mV (mC (.int 1))))) (mSeq (mSet 3 (mBin ixD (mV (mL (mLst (maCons (mV (mC (.int 2147483647))) (maCons (mV (mC (.int 2147483629))) (maCons (mV (mC (.int 2147483587))) (maCons (mV (mC (.int 2147483579))) (maCons (mV (mC (.int 2147483563))) maNil)))))))) (mV (mBin iMod (mV (mFn fInt (maCons (mV (mBin ixD (mXA 0) (mV (mC (.int 2))))) maNil))) (mV (mC (.int 5))))))) (mSeq (mSet 4 (mBin iMod (mV (mFn fInt (maCons (mV (mBin iPow (mV (mFn fInt (maCons (mV (mBin addD (mV (mBin addD (mV (mBin ixD (mXA 0) (mV (mC (.int 1))))) (mV (mBin iMul (mV (mBin iMul (mV (mC (.int 105173))) (mV (mBin ixD (mXA 0) (mV (mC (.int 2))))))) (mV (mBin ixD (mXA 0) (mV (mC (.int 2))))))))) (mV (mC (.int 4519))))) maNil))) (mV (mC (.int 3))))) maNil))) (mXA 3))) (mSeq (mSet 4 (mBin iMod (mV (mFn fInt (maCons (mV (mBin iMul (mXA 4) (mV (mBin addD (mV (mBin iMod (mV (mFn fInt (maCons (mXA 4) maNil))) (mV (mC (.int 10335))))) (mV (mBin iMul (mV (mC (.int 165))) (mV (mBin ixD (mXA 0) (mV (mC (.int 2))))))))))) maNil))) (mV (mC (.int 2305843009213693907))))) (mRet (mBin iMod (mV (mFn fInt (maCons (mV (mBin iDiv (mXA 4) (mV (mC (.int 155))))) maNil))) (mXA 1))))))))
def F__law_take : List D → Out := runF [0] false 5 m__law_take
theorem sc__law_of : FnScope ["pot", "some"] ["pot", "some"] (defScope s__law_of) := ⟨rfl, rfl, rfl, by decide +kernel, rfl, by decide +kernel, by decide +kernel⟩
def m__law_of : MS := (mRet (mBin ixD (mXA 1) (mV (mCallIO F__law_take 0 (maCons (mXA 0) (maCons (mV (mFn fLen (maCons (mXA 1) maNil))) maNil))))))
def F__law_of : List D → Out := runF [0] false 2 m__law_of
theorem sc__law_cells : FnScope ["script", "limit"] ["script", "limit"] (defScope s__law_cells) := ⟨rfl, rfl, rfl, by decide +kernel, rfl, by decide +kernel, by decide +kernel⟩
def m__law_cells : MS := (mRet (mL (mRg1 (mFn fMax2 (maCons (mV (mC (.int 1))) (maCons (mV (mFn fMin2 (maCons (mXA 1) (maCons (mV (mFn fLen (maCons (mXA 0) maNil))) maNil)))) maNil))))))
def F__law_cells : List D → Out := runF [] false 2 m__law_cells
theorem sc__law_signs : FnScope ["pot"] ["pot"] (defScope s__law_signs) := ⟨rfl, rfl, rfl, by decide +kernel, rfl, by decide +kernel, by decide +kernel⟩
def m__law_signs : MS := (mRet (mCallIO F__law_of 0 (maCons (mXA 0) (maCons (mV (mL (mLst (maCons (mV (mTup (maCons (mV (mTup (maCons (mV (mC (.str ("m" : Str)))) (maCons (mV (mC (.int 2))) maNil)))) maNil))) (maCons (mV (mTup (maCons (mV (mTup (maCons (mV (mC (.str ("m" : Str)))) (maCons (mV (mC (.int 2))) maNil)))) (maCons (mV (mTup (maCons (mV (mC (.str ("e" : Str)))) (maCons (mV (mC (.int 0))) maNil)))) maNil)))) (maCons (mV (mTup (maCons (mV (mTup (maCons (mV (mC (.str ("f" : Str)))) (maCons (mV (mC (.int 1))) maNil)))) maNil))) (maCons (mV (mTup (maCons (mV (mTup (maCons (mV (mC (.str ("f" : Str)))) (maCons (mV (mC (.int 1))) maNil)))) (maCons (mV (mTup (maCons (mV (mC (.str ("c" : Str)))) (maCons (mV (mC (.int 0))) maNil)))) maNil)))) (maCons (mV (mTup (maCons (mV (mTup (maCons (mV (mC (.str ("a" : Str)))) (maCons (mV (mC (.int 2))) maNil)))) (maCons (mV (mTup (maCons (mV (mC (.str ("o" : Str)))) (maCons (mV (mC (.int 2))) maNil)))) maNil)))) (maCons (mV (mTup (maCons (mV (mTup (maCons (mV (mC (.str ("t" : Str)))) (maCons (mV (mC (.int 3))) maNil)))) maNil))) (maCons (mV (mTup (maCons (mV (mTup (maCons (mV (mC (.str ("f" : Str)))) (maCons (mV (mC (.int 1))) maNil)))) (maCons (mV (mTup (maCons (mV (mC (.str ("m" : Str)))) (maCons (mV (mC (.int 2))) maNil)))) (maCons (mV (mTup (maCons (mV (mC (.str ("c" : Str)))) (maCons (mV (mC (.int 0))) maNil)))) maNil))))) maNil)))))))))) maNil))))
def F__law_signs : List D → Out := runF [0] false 1 m__law_signs
theorem sc__law_rows : FnScope ["things", "places", "found", "place", "longer", "row", "thing"] ["things", "places"] (defScope s__law_rows) := ⟨rfl, rfl, rfl, by decide +kernel, rfl, by decide +kernel, by decide +kernel⟩
def m__law_rows : MS := (mSeq (mSet 2 (mL (mLst (maCons (mV (mTup maNil)) maNil)))) (mSeq (mFor (mArgI rangeOf1 (maCons (mXA 1) maNil)) (gN 3) (mSeq (mSetF 4 (mLst maNil)) (mSeq (mFor (mSeqI (mVar 2)) (gN 5) (mDrop (mExtend 4 (mL (mLc (mArgI rangeOf1 (maCons (mXA 0) maNil)) (gN 6) [6] (fun ρ => .ok true ρ) (mBin addD (mXA 5) (mV (mTup (maCons (mXA 6) maNil))))))))) (mPub 4 (mSet 2 (mVar 4)))))) (mRet (mVar 2))))
def F__law_rows : List D → Out := runF [] false 7 m__law_rows
theorem sc__law_known_row : FnScope ["pot", "things", "places", "kind", "rows", "row"] ["pot", "things", "places"] (defScope s__law_known_row) := ⟨rfl, rfl, rfl, by decide +kernel, rfl, by decide +kernel, by decide +kernel⟩
def m__law_known_row : MS := (mSeq (mSet 3 (mCallIO F__law_take 0 (maCons (mXA 0) (maCons (mV (mC (.int 6))) maNil)))) (mSeq (mSet 4 (mCall F__law_rows (maCons (mXA 1) (maCons (mXA 2) maNil)))) (mSeq (mIfS (mOrT (mT (mBin (cmpD eqD) (mXA 2) (mV (mC (.int 0))))) (mT (mBin iGt (mXA 3) (mV (mC (.int 3)))))) (mRet (mFn fTuple (maCons (mV (mL (mLc (mSeqI (mVar 4)) (gN 5) [5] (fun ρ => .ok true ρ) (mCallIO F__law_take 0 (maCons (mXA 0) (maCons (mXA 1) maNil)))))) maNil))) .nx) (mSeq (mIfS (mT (mBin (cmpD eqD) (mXA 3) (mV (mC (.int 0))))) (mRet (mFn fTuple (maCons (mV (mL (mLc (mSeqI (mVar 4)) (gN 5) [5] (fun ρ => .ok true ρ) (mBin iMod (mV (mIf (mT (mBin (cmpD neD) (mXA 2) (mV (mC (.int 3))))) (mFn fSum (maCons (mXA 5) maNil)) (mBin addD (mV (mBin iSub (mV (mBin ixD (mXA 5) (mV (mC (.int 0))))) (mV (mBin ixD (mXA 5) (mV (mC (.int 1))))))) (mV (mBin ixD (mXA 5) (mV (mC (.int 2)))))))) (mXA 1))))) maNil))) .nx) (mSeq (mIfS (mT (mBin (cmpD eqD) (mXA 3) (mV (mC (.int 1))))) (mRet (mFn fTuple (maCons (mV (mL (mLc (mSeqI (mVar 4)) (gN 5) [5] (fun ρ => .ok true ρ) (mIf (mT (mBin (cmpD neD) (mXA 2) (mV (mC (.int 3))))) (mFn fMin (maCons (mXA 5) maNil)) (mBin ixD (mV (mL (mFnF fSorted (maCons (mXA 5) maNil)))) (mV (mC (.int 1)))))))) maNil))) .nx) (mRet (mFn fTuple (maCons (mV (mL (mLc (mSeqI (mVar 4)) (gN 5) [5] (fun ρ => .ok true ρ) (mIf (mT (mBin (cmpD eqD) (mXA 3) (mV (mC (.int 2))))) (mBin ixD (mXA 5) (mV (mC (.int 0)))) (mFn fMax (maCons (mXA 5) maNil)))))) maNil))))))))
def F__law_known_row : List D → Out := runF [0] false 6 m__law_known_row
theorem sc__law_table : FnScope ["pot", "signs", "most", "things", "name", "places"] ["pot", "signs", "most"] (defScope s__law_table) := ⟨rfl, rfl, rfl, by decide +kernel, rfl, by decide +kernel, by decide +kernel⟩
def m__law_table : MS := (mSeq (mSet 3 (mBin addD (mV (mC (.int 1))) (mV (mCallIO F__law_take 0 (maCons (mXA 0) (maCons (mXA 2) maNil)))))) (mRet (mTup (maCons (mXA 3) (maCons (mV (mFn fTuple (maCons (mV (mL (mLc (mSeqI (mVar 1)) (gT 2 (gCs (gN 4) (gCs (gN 5) gNs))) [4, 5] (fun ρ => .ok true ρ) (mCallIO F__law_known_row 0 (maCons (mXA 0) (maCons (mXA 3) (maCons (mXA 5) maNil))))))) maNil))) maNil)))))
def F__law_table : List D → Out := runF [0] false 6 m__law_table
theorem sc__law_line : FnScope ["line", "sign", "things", "words", "found", "word"] ["line", "sign", "things"] (defScope s__law_line) := ⟨rfl, rfl, rfl, by decide +kernel, rfl, by decide +kernel, by decide +kernel⟩
def m__law_line : MS := (mSeq (mSet 3 (mL (mSplit (mVar 0) (mC (.str (" " : Str)))))) (mSeq (mIfS (mOrT (mT (mBin (cmpD neD) (mV (mBin ixD (mXA 3) (mV (mC (.int 0))))) (mV (mBin ixD (mXA 1) (mV (mC (.int 0))))))) (mNotT (mT (mFn fAll (maCons (mV (mL (mLc (mSeqI (mSl (mXA 3) (mPart (mC (.int 1))) (fun ρ => .ok none ρ))) (gN 5) [5] (fun ρ => .ok true ρ) (mAnd (mBin (cmpD eqD) (mV (mFn fLen (maCons (mXA 5) maNil))) (mV (mC (.int 1)))) (mAnd (mBin (cmpD inD) (mXA 5) (mV (mC (.str ("0123456789" : Str))))) (mBin iLt (mV (mFn fInt (maCons (mXA 5) maNil))) (mXA 2))))))) maNil))))) (mRet (mC .non)) .nx) (mSeq (mSet 4 (mFn fTuple (maCons (mV (mL (mLc (mSeqI (mSl (mXA 3) (mPart (mC (.int 1))) (fun ρ => .ok none ρ))) (gN 5) [5] (fun ρ => .ok true ρ) (mFn fInt (maCons (mXA 5) maNil))))) maNil))) (mRet (mIf (mT (mBin (cmpD eqD) (mV (mFn fLen (maCons (mXA 4) maNil))) (mV (mFn fLen (maCons (mV (mCall F__law_rows (maCons (mXA 2) (maCons (mV (mBin ixD (mXA 1) (mV (mC (.int 1))))) maNil)))) maNil))))) (mVar 4) (mC .non))))))
def F__law_line : List D → Out := runF [] false 6 m__law_line
theorem sc__law_is_read : FnScope ["signs", "text", "caught", "told", "lines", "wrong", "rows", "at", "line", "row", "number"] ["signs", "text"] (defScope s__law_is_read) := ⟨rfl, rfl, rfl, by decide +kernel, rfl, by decide +kernel, by decide +kernel⟩
def m__law_is_read : MS := (mSeq (mAsg (mHeard errs (mCall F_read_table (maCons (mXA 0) (maCons (mXA 1) maNil)))) (gT 2 (gCs (gN 2) (gCs (gN 3) gNs)))) (mSeq (mPar [4, 5, 6] (mpV (mL (mSplit (mVar 1) (mC (.str ("\n" : Str))))) (mpV (mC .non) (mpF (mLst maNil) (fun ρ => .ok [] ρ))))) (mSeq (mIfS (mT (mBin (cmpD notInD) (mV (mBin ixD (mXA 4) (mV (mC (.int 0))))) (mV (mL (mLc (mArgI rangeOf2 (maCons (mV (mC (.int 1))) (maCons (mV (mC (.int 7))) maNil))) (gN 10) [10] (fun ρ => .ok true ρ) (mBin addD (mV (mC (.str ("things " : Str)))) (mV (mFn fStr (maCons (mXA 10) maNil))))))))) (mSet 5 (mC (.int 1))) .nx) (mSeq (mFor (mArgI enumOf (maCons (mV (mIf (mT (mBin isN (mXA 5) (mV (mC .non)))) (mSl (mXA 4) (mPart (mC (.int 1))) (fun ρ => .ok none ρ)) (mL (mLst maNil)))) maNil)) (gT 2 (gCs (gN 7) (gCs (gN 8) gNs))) (mSeq (mSet 9 (mIf (mT (mBin iLt (mXA 7) (mV (mFn fLen (maCons (mXA 0) maNil))))) (mCall F__law_line (maCons (mXA 8) (maCons (mV (mBin ixD (mXA 0) (mXA 7))) (maCons (mV (mFn fInt (maCons (mV (mSl (mV (mBin ixD (mXA 4) (mV (mC (.int 0))))) (mPart (mC (.int 7))) (fun ρ => .ok none ρ))) maNil))) maNil)))) (mC .non))) (mSeq (mSet 5 (mIf (mAndT (mT (mBin isN (mXA 9) (mV (mC .non)))) (mT (mBin isN (mXA 5) (mV (mC .non))))) (mBin addD (mXA 7) (mV (mC (.int 2)))) (mVar 5))) (mDrop (mAppend 6 (mVar 9)))))) (mSeq (mIfS (mAndT (mT (mBin isN (mXA 5) (mV (mC .non)))) (mT (mBin iLt (mV (mFn fLen (maCons (mXA 6) maNil))) (mV (mFn fLen (maCons (mXA 0) maNil)))))) (mSet 5 (mBin addD (mV (mFn fLen (maCons (mXA 4) maNil))) (mV (mC (.int 1))))) .nx) (mSeq (mIfS (mT (mBin notN (mXA 5) (mV (mC .non)))) (mRet (mAnd (mIsE errs (fun c => c == ("BadTableText" : Str)) (mVar 2)) (mBin (cmpD eqD) (mV (mFn fRepr (maCons (mV (mValue errs (mVar 2))) maNil))) (mV (mFn fRepr (maCons (mXA 5) maNil)))))) .nx) (mRet (mAnd (mBin isN (mXA 2) (mV (mC .non))) (mBin (cmpD eqD) (mV (mFn fRepr (maCons (mXA 3) maNil))) (mV (mFn fRepr (maCons (mV (mTup (maCons (mV (mFn fInt (maCons (mV (mSl (mV (mBin ixD (mXA 4) (mV (mC (.int 0))))) (mPart (mC (.int 7))) (fun ρ => .ok none ρ))) maNil))) (maCons (mV (mFn fTuple (maCons (mXA 6) maNil))) maNil)))) maNil))))))))))))
def F__law_is_read : List D → Out := runF [] false 11 m__law_is_read
theorem sc__law_right : FnScope ["pot", "signs", "table", "lines", "lap", "at", "line", "turned", "bad", "caught", "name", "places", "row", "thing"] ["pot"] (defScope s__law_right) := ⟨rfl, rfl, rfl, by decide +kernel, rfl, by decide +kernel, by decide +kernel⟩
def m__law_right : MS := (mSeq (mSet 1 (mCallIO F__law_signs 0 (maCons (mXA 0) maNil))) (mSeq (mSet 2 (mCallIO F__law_table 0 (maCons (mXA 0) (maCons (mXA 1) (maCons (mV (mIf (mT (mBin iLt (mV (mBin ixD (mV (mBin ixD (mXA 1) (mV (mC (.int 0))))) (mV (mC (.int 1))))) (mV (mC (.int 3))))) (mC (.int 6)) (mC (.int 2)))) maNil))))) (mSeq (mSet 3 (mBin addD (mV (mL (mLst (maCons (mV (mBin addD (mV (mC (.str ("things " : Str)))) (mV (mFn fStr (maCons (mV (mBin ixD (mXA 2) (mV (mC (.int 0))))) maNil))))) maNil)))) (mV (mL (mLc (mArgI zipOf (maCons (mXA 1) (maCons (mV (mBin ixD (mXA 2) (mV (mC (.int 1))))) maNil))) (gT 2 (gCs (gT 2 (gCs (gN 10) (gCs (gN 11) gNs))) (gCs (gN 12) gNs))) [10, 11, 12] (fun ρ => .ok true ρ) (mJoin (mC (.str (" " : Str))) (mV (mBin addD (mV (mL (mLst (maCons (mXA 10) maNil)))) (mV (mL (mLc (mSeqI (mVar 12)) (gN 13) [13] (fun ρ => .ok true ρ) (mFn fStr (maCons (mXA 13) maNil))))))))))))) (mSeq (mIfS (mOrT (mT (mBin (cmpD neD) (mV (mFn fRepr (maCons (mV (mCall F_table_text (maCons (mXA 1) (maCons (mXA 2) maNil)))) maNil))) (mV (mFn fRepr (maCons (mV (mJoin (mC (.str ("\n" : Str))) (mXA 3))) maNil))))) (mNotT (mT (mCall F__law_is_read (maCons (mXA 1) (maCons (mV (mJoin (mC (.str ("\n" : Str))) (mXA 3))) maNil)))))) (mRet (mC (.bl false))) .nx) (mSeq (mFor (mArgI rangeOf1 (maCons (mV (mC (.int 8))) maNil)) (gN 4) (mSeq (mSet 5 (mCallIO F__law_take 0 (maCons (mXA 0) (maCons (mV (mFn fLen (maCons (mXA 3) maNil))) maNil)))) (mSeq (mSet 6 (mCallIO F__law_of 0 (maCons (mXA 0) (maCons (mV (mL (mLst (maCons (mV (mC (.str ("" : Str)))) (maCons (mV (mC (.str ("things 1" : Str)))) (maCons (mV (mC (.str ("things 7" : Str)))) (maCons (mV (mC (.str ("things 0" : Str)))) (maCons (mV (mC (.str ("m 0" : Str)))) (maCons (mV (mC (.str ("e 0" : Str)))) (maCons (mV (mBin addD (mV (mBin ixD (mXA 3) (mXA 5))) (mV (mC (.str (" 0" : Str)))))) (maCons (mV (mBin addD (mV (mBin ixD (mXA 3) (mXA 5))) (mV (mC (.str (" " : Str)))))) (maCons (mV (mBin addD (mV (mSl (mV (mBin ixD (mXA 3) (mXA 5))) (fun ρ => .ok none ρ) (mPart (mUn iNeg (mC (.int 1)))))) (mV (mC (.str ("9" : Str)))))) (maCons (mV (mSl (mV (mBin ixD (mXA 3) (mXA 5))) (fun ρ => .ok none ρ) (mPart (mUn iNeg (mC (.int 2)))))) (maCons (mV (mBin addD (mV (mC (.str (" " : Str)))) (mV (mBin ixD (mXA 3) (mXA 5))))) maNil)))))))))))))) maNil)))) (mSeq (mSet 7 (mCallIO F__law_of 0 (maCons (mXA 0) (maCons (mV (mL (mLst (maCons (mV (mBin addD (mV (mSl (mXA 3) (fun ρ => .ok none ρ) (mPart (mVar 5)))) (mV (mSl (mXA 3) (mPart (mBin addD (mXA 5) (mV (mC (.int 1))))) (fun ρ => .ok none ρ))))) (maCons (mV (mBin addD (mV (mSl (mXA 3) (fun ρ => .ok none ρ) (mPart (mBin addD (mXA 5) (mV (mC (.int 1))))))) (mV (mSl (mXA 3) (mPart (mVar 5)) (fun ρ => .ok none ρ))))) (maCons (mV (mRev (mXA 3))) (maCons (mV (mBin addD (mV (mBin addD (mV (mSl (mXA 3) (fun ρ => .ok none ρ) (mPart (mVar 5)))) (mV (mL (mLst (maCons (mXA 6) maNil)))))) (mV (mSl (mXA 3) (mPart (mBin addD (mXA 5) (mV (mC (.int 1))))) (fun ρ => .ok none ρ))))) (maCons (mV (mBin addD (mV (mBin addD (mV (mSl (mXA 3) (fun ρ => .ok none ρ) (mPart (mVar 5)))) (mV (mL (mLst (maCons (mXA 6) maNil)))))) (mV (mSl (mXA 3) (mPart (mVar 5)) (fun ρ => .ok none ρ))))) (maCons (mV (mBin addD (mXA 3) (mV (mL (mLst (maCons (mXA 6) maNil)))))) maNil))))))))) maNil)))) (mIfS (mNotT (mT (mCall F__law_is_read (maCons (mXA 1) (maCons (mV (mJoin (mC (.str ("\n" : Str))) (mXA 7))) maNil))))) (mRet (mC (.bl false))) .nx))))) (mSeq (mSet 8 (mCallIO F__law_of 0 (maCons (mXA 0) (maCons (mV (mL (mLst (maCons (mV (mC .non)) (maCons (mV (mC (.int 0))) (maCons (mV (mTup (maCons (mV (mC (.str ("things 1" : Str)))) maNil))) (maCons (mV (mL (mLst (maCons (mV (mBin ixD (mXA 3) (mV (mC (.int 0))))) maNil)))) maNil))))))) maNil)))) (mSeq (mSet 9 (mBin ixD (mV (mHeard errs (mCall F_read_table (maCons (mXA 1) (maCons (mXA 8) maNil))))) (mV (mC (.int 0))))) (mRet (mAnd (mIsE errs (fun c => c == ("BadTableText" : Str)) (mVar 9)) (mBin (cmpD eqD) (mV (mFn fRepr (maCons (mV (mValue errs (mVar 9))) maNil))) (mV (mC (.str ("0" : Str))))))))))))))
def F__law_right : List D → Out := runF [0] false 14 m__law_right
theorem sc_law : FnScope ["script", "place", "pot", "lap"] ["script"] (defScope s_law) := ⟨rfl, rfl, rfl, by decide +kernel, rfl, by decide +kernel, by decide +kernel⟩
def m_law : MS := (mSeq (mIfS (mT (mBin (cmpD neD) (mV (mFn fRepr (maCons (mV (mCall F_table_text (maCons (mV (mTup (maCons (mV (mTup (maCons (mV (mC (.str ("m" : Str)))) (maCons (mV (mC (.int 2))) maNil)))) (maCons (mV (mTup (maCons (mV (mC (.str ("e" : Str)))) (maCons (mV (mC (.int 0))) maNil)))) maNil)))) (maCons (mV (mTup (maCons (mV (mC (.int 2))) (maCons (mV (mTup (maCons (mV (mTup (maCons (mV (mC (.int 0))) (maCons (mV (mC (.int 1))) (maCons (mV (mC (.int 1))) (maCons (mV (mC (.int 0))) maNil)))))) (maCons (mV (mTup (maCons (mV (mC (.int 0))) maNil))) maNil)))) maNil)))) maNil)))) maNil))) (mV (mFn fRepr (maCons (mV (mC (.str ("things 2\nm 0 1 1 0\ne 0" : Str)))) maNil))))) (mRet (mC (.bl false))) .nx) (mSeq (mFor (mSeqI (mCall F__law_cells (maCons (mXA 0) (maCons (mV (mC (.int 3))) maNil)))) (gN 1) (mSeq (mSetF 2 (mCallF F__law_pot (maCons (mXA 0) (maCons (mXA 1) maNil)))) (mIfS (mNotT (mT (mFn fAll (maCons (mV (mL (mLc (mArgI rangeOf1 (maCons (mV (mC (.int 6))) maNil)) (gN 3) [3] (fun ρ => .ok true ρ) (mCallIO F__law_right 0 (maCons (mXA 2) maNil))))) maNil)))) (mRet (mC (.bl false))) .nx))) (mRet (mC (.bl true)))))
def F_law : List D → Out := runF [] false 4 m_law
structure Txt (P : Program) (w : World) (K : PySem.W.Frag) (mg : Mg) (base : Heap) : Prop where
  b_abs : mg "abs" = none
  b_all : mg "all" = none
  b_bool : mg "bool" = none
  b_enumerate : mg "enumerate" = none
  b_int : mg "int" = none
  b_isinstance : mg "isinstance" = none
  b_len : mg "len" = none
  b_list : mg "list" = none
  b_max : mg "max" = none
  b_min : mg "min" = none
  b_range : mg "range" = none
  b_repr : mg "repr" = none
  b_set : mg "set" = none
  b_sorted : mg "sorted" = none
  b_str : mg "str" = none
  b_sum : mg "sum" = none
  b_tuple : mg "tuple" = none
  b_zip : mg "zip" = none
  c_BLANK : GC K mg "BLANK" (.str (" " : Str))
  c_FEED : GC K mg "FEED" (.str ("\n" : Str))
  c_FIGURES : GC K mg "FIGURES" (.str ("0123456789" : Str))
  c_LETTERS : GC K mg "LETTERS" (.str ("abcdefghijklmnopqrstuvwxyz" : Str))
  c_MOST_NAMES : GC K mg "MOST_NAMES" (.int 4)
  c_MOST_PLACES : GC K mg "MOST_PLACES" (.int 3)
  c_MOST_SIGNS : GC K mg "MOST_SIGNS" (.int 8)
  c_MOST_THINGS : GC K mg "MOST_THINGS" (.int 6)
  c_THINGS : GC K mg "THINGS" (.str ("things" : Str))
  c_VARIABLES : GC K mg "VARIABLES" (.tup [(.str ("u" : Str)), (.str ("v" : Str)), (.str ("w" : Str)), (.str ("x" : Str)), (.str ("y" : Str)), (.str ("z" : Str))])
  e_BadSigns : ∃ C D fI, PySem.DErr.ErrT P K mg "BadSigns" C D fI
  e_BadTable : ∃ C D fI, PySem.DErr.ErrT P K mg "BadTable" C D fI
  e_BadTableText : ∃ C D fI, PySem.DErr.ErrT P K mg "BadTableText" C D fI
  i_BadTableText : ∃ D, mg "BadTableText" = some (.ref D) ∧ (∀ c ∈ errs, ∃ C, ErrV K mg c C ∧ PySem.W.kitOne K (.ref C) (.ref D) = some (c == ("BadTableText" : Str))) ∧ PySem.W.kitOne K (.type "NoneType") (.ref D) = some false
  v_errs : ∀ c ∈ errs, ∃ C, ErrV K mg c C
  heard : ∃ g CS fd, HeardT K mg errs s__law_heard g CS fd
  f_is_integer : ∃ f fd, Fun K "is_integer" "is_integer" s_is_integer f fd ∧ mg "is_integer" = some (.ref f)
  f_is_between : ∃ f fd, Fun K "is_between" "is_between" s_is_between f fd ∧ mg "is_between" = some (.ref f)
  f_are_between : ∃ f fd, Fun K "are_between" "are_between" s_are_between f fd ∧ mg "are_between" = some (.ref f)
  f_is_name : ∃ f fd, Fun K "is_name" "is_name" s_is_name f fd ∧ mg "is_name" = some (.ref f)
  f_power : ∃ f fd, Fun K "power" "power" s_power f fd ∧ mg "power" = some (.ref f)
  f_is_sign : ∃ f fd, Fun K "is_sign" "is_sign" s_is_sign f fd ∧ mg "is_sign" = some (.ref f)
  f_is_signs : ∃ f fd, Fun K "is_signs" "is_signs" s_is_signs f fd ∧ mg "is_signs" = some (.ref f)
  f_check_signs : ∃ f fd, Fun K "check_signs" "check_signs" s_check_signs f fd ∧ mg "check_signs" = some (.ref f)
  f_is_size : ∃ f fd, Fun K "is_size" "is_size" s_is_size f fd ∧ mg "is_size" = some (.ref f)
  f_is_table_of : ∃ f fd, Fun K "is_table_of" "is_table_of" s_is_table_of f fd ∧ mg "is_table_of" = some (.ref f)
  f_check_its_table : ∃ f fd, Fun K "check_its_table" "check_its_table" s_check_its_table f fd ∧ mg "check_its_table" = some (.ref f)
  f_check_table : ∃ f fd, Fun K "check_table" "check_table" s_check_table f fd ∧ mg "check_table" = some (.ref f)
  f_table_lines : ∃ f fd, Fun K "table_lines" "table_lines" s_table_lines f fd ∧ mg "table_lines" = some (.ref f)
  f_table_text : ∃ f fd, Fun K "table_text" "table_text" s_table_text f fd ∧ mg "table_text" = some (.ref f)
  f_thing_in : ∃ f fd, Fun K "thing_in" "thing_in" s_thing_in f fd ∧ mg "thing_in" = some (.ref f)
  f_row_in : ∃ f fd, Fun K "row_in" "row_in" s_row_in f fd ∧ mg "row_in" = some (.ref f)
  f_things_in : ∃ f fd, Fun K "things_in" "things_in" s_things_in f fd ∧ mg "things_in" = some (.ref f)
  f_read_table : ∃ f fd, Fun K "read_table" "read_table" s_read_table f fd ∧ mg "read_table" = some (.ref f)
  f__law_pot : ∃ f fd, Fun K "_law_pot" "_law_pot" s__law_pot f fd ∧ mg "_law_pot" = some (.ref f)
  f__law_take : ∃ f fd, Fun K "_law_take" "_law_take" s__law_take f fd ∧ mg "_law_take" = some (.ref f)
  f__law_of : ∃ f fd, Fun K "_law_of" "_law_of" s__law_of f fd ∧ mg "_law_of" = some (.ref f)
  f__law_cells : ∃ f fd, Fun K "_law_cells" "_law_cells" s__law_cells f fd ∧ mg "_law_cells" = some (.ref f)
  f__law_signs : ∃ f fd, Fun K "_law_signs" "_law_signs" s__law_signs f fd ∧ mg "_law_signs" = some (.ref f)
  f__law_rows : ∃ f fd, Fun K "_law_rows" "_law_rows" s__law_rows f fd ∧ mg "_law_rows" = some (.ref f)
  f__law_known_row : ∃ f fd, Fun K "_law_known_row" "_law_known_row" s__law_known_row f fd ∧ mg "_law_known_row" = some (.ref f)
  f__law_table : ∃ f fd, Fun K "_law_table" "_law_table" s__law_table f fd ∧ mg "_law_table" = some (.ref f)
  f__law_line : ∃ f fd, Fun K "_law_line" "_law_line" s__law_line f fd ∧ mg "_law_line" = some (.ref f)
  f__law_is_read : ∃ f fd c P, Fun K "_law_is_read" "_law_is_read" s__law_is_read f fd ∧ mg "_law_is_read" = some (.ref f) ∧ fd.code = .ref c ∧ TabB base mg c P ∧ (P, ("_law_is_read.<locals>.<lambda>" : Str)) ∈ tabsOf K ∧ ∀ p ∈ tabsOf K, p.1 = P → p.2 = ("_law_is_read.<locals>.<lambda>" : Str)
  f__law_right : ∃ f fd c P, Fun K "_law_right" "_law_right" s__law_right f fd ∧ mg "_law_right" = some (.ref f) ∧ fd.code = .ref c ∧ TabB base mg c P ∧ (P, ("_law_right.<locals>.<lambda>" : Str)) ∈ tabsOf K ∧ ∀ p ∈ tabsOf K, p.1 = P → p.2 = ("_law_right.<locals>.<lambda>" : Str)
  f_law : ∃ f fd, Fun K "law" "law" s_law f fd ∧ mg "law" = some (.ref f)
theorem takesNo {X : Cx} : Takes X NoX := LamX.takes0
theorem passes {P : Program} {w : World} {K : PySem.W.Frag} {mg : Mg} {base : Heap} {N : List Str} {qual : Str} {sc : Scope} {f : Addr} {cdv : Value} {A : Around} {outer : List Env} {s : Shared} {H : Hp} {E : XK} : PassesOwn (model (cxOf (L2.CX P w) P w K mg base N qual sc f cdv A outer s H E).prog (cxOf (L2.CX P w) P w K mg base N qual sc f cdv A outer s H E).w) (cxOf (L2.CX P w) P w K mg base N qual sc f cdv A outer s H E).A (cxOf (L2.CX P w) P w K mg base N qual sc f cdv A outer s H E).env (cxOf (L2.CX P w) P w K mg base N qual sc f cdv A outer s H E).xe := passes_of rfl
section
variable {P : Program} {w : World} {K : PySem.W.Frag} {mg : Mg} {base : Heap}
theorem ok_is_integer (T : Txt P w K mg base) {f : Addr} {fd : FuncData} (Fn : Fun K "is_integer" "is_integer" s_is_integer f fd) : FnG P w K mg base 1 f fd ["value"] (spD K mg 1 [] false F_is_integer) := by
  refine fn_d Fn sc_is_integer (fun _ _ => rfl) fun cdv A outer s H E hr => ?_
  exact (dss_one (ds_ret (de_and (de_isB kit_int rfl T.b_isinstance rfl T.b_int rfl (dv 0)) (de_one (de_not (de_isB kit_bool rfl T.b_isinstance rfl T.b_bool rfl (dv 0)))))))
theorem fd_is_integer (T : Txt P w K mg base) : FunD P w K mg base "is_integer" 1 ["value"] [] false F_is_integer := by
  obtain ⟨f, fd, Fn, hm⟩ := T.f_is_integer
  exact fd_mk Fn hm (ok_is_integer T Fn) (fun _ _ _ _ _ _ us hl => match us, hl with | [_], _ => rfl) (fun _ _ _ _ _ _ us hl => match us, hl with | [_], _ => rfl)
theorem ok_is_between (T : Txt P w K mg base) {f : Addr} {fd : FuncData} (Fn : Fun K "is_between" "is_between" s_is_between f fd) : FnG P w K mg base 2 f fd ["value", "low", "high"] (spD K mg 3 [] false F_is_between) := by
  refine fn_d Fn sc_is_between (fun _ _ => rfl) fun cdv A outer s H E hr => ?_
  exact (dss_one (ds_ret (de_and (de_call ((fd_is_integer T).mono (by decide)) hr (takes_of rfl rfl rfl rfl) rfl (da_cons (dxa 0) da_nil) (len_cons len_nil)) (de_one (dchain oc_le oc_le (dxa 1) (dxa 0) (dxa 2))))))
theorem fd_is_between (T : Txt P w K mg base) : FunD P w K mg base "is_between" 2 ["value", "low", "high"] [] false F_is_between := by
  obtain ⟨f, fd, Fn, hm⟩ := T.f_is_between
  exact fd_mk Fn hm (ok_is_between T Fn) (fun _ _ _ _ _ _ us hl => match us, hl with | [_, _, _], _ => rfl) (fun _ _ _ _ _ _ us hl => match us, hl with | [_, _, _], _ => rfl)
theorem ok_are_between (T : Txt P w K mg base) {f : Addr} {fd : FuncData} (Fn : Fun K "are_between" "are_between" s_are_between f fd) : FnG P w K mg base 3 f fd ["value", "low", "high"] (spD K mg 3 [] false F_are_between) := by
  refine fn_d Fn sc_are_between (fun _ _ => rfl) fun cdv A outer s H E hr => ?_
  exact (dss_one (ds_ret (de_and (de_isB kit_tuple rfl T.b_isinstance rfl T.b_tuple rfl (dv 0)) (de_one (dall rfl T.b_all (da_cons (dx_v (DF.de (df_lc rfl sc_are_between.nd (di_seq (dv 0)) (blkOk_by (own := [("one", 3)]) (by rfl)) rfl (fun _ _ _ _ _ => (dg_name sc_are_between.nd (i := 3) rfl (by first | exact Or.inl rfl | exact Or.inr rfl))) (fun _ _ _ _ _ => dq_nil) (fun _ _ _ _ _ => (de_call ((fd_is_between T).mono (by decide)) hr takesNo rfl (da_cons (dxa 3) (da_cons (dxa 1) (da_cons (dxa 2) da_nil))) (len_cons (len_cons (len_cons len_nil)))))))) da_nil))))))
theorem fd_are_between (T : Txt P w K mg base) : FunD P w K mg base "are_between" 3 ["value", "low", "high"] [] false F_are_between := by
  obtain ⟨f, fd, Fn, hm⟩ := T.f_are_between
  exact fd_mk Fn hm (ok_are_between T Fn) (fun _ _ _ _ _ _ us hl => match us, hl with | [_, _, _], _ => rfl) (fun _ _ _ _ _ _ us hl => match us, hl with | [_, _, _], _ => rfl)
theorem ok_is_name (T : Txt P w K mg base) {f : Addr} {fd : FuncData} (Fn : Fun K "is_name" "is_name" s_is_name f fd) : FnG P w K mg base 1 f fd ["value"] (spD K mg 1 [] false F_is_name) := by
  refine fn_d Fn sc_is_name (fun _ _ => rfl) fun cdv A outer s H E hr => ?_
  exact (dss_cons (ds_if (DW.dt (dw_or (dt_not (dt_val (de_isB kit_str rfl T.b_isinstance rfl T.b_str rfl (dv 0)))) (dw_or (dt_not (tchain oc_le oc_le (dx_v de_int) (dx_v (dlen T.b_len (da_cons (dxa 0) da_nil))) (dx_v (dgc T.c_MOST_SIGNS)))) (dw_or1 (tcmp (oc_in hr) (dxa 0) (dx_v (dgc T.c_VARIABLES))))))) (dss_one (ds_ret de_bl)) dss_nil) (dss_one (ds_ret (de_and (dcmp (oc_in hr) (dx_v (de_ix (dxa 0) (dx_v de_int))) (dx_v (dgc T.c_LETTERS))) (de_one (dall rfl T.b_all (da_cons (dx_v (DF.de (df_lc rfl sc_is_name.nd (di_seq (dv 0)) (blkOk_by (own := [("sign", 1)]) (by rfl)) rfl (fun _ _ _ _ _ => (dg_name sc_is_name.nd (i := 1) rfl (by first | exact Or.inl rfl | exact Or.inr rfl))) (fun _ _ _ _ _ => dq_nil) (fun _ _ _ _ _ => (dcmp (oc_in hr) (dxa 1) (dx_v (dbin ob_add (dx_v (dgc T.c_LETTERS)) (dx_v (dgc T.c_FIGURES))))))))) da_nil)))))))
theorem fd_is_name (T : Txt P w K mg base) : FunD P w K mg base "is_name" 1 ["value"] [] false F_is_name := by
  obtain ⟨f, fd, Fn, hm⟩ := T.f_is_name
  exact fd_mk Fn hm (ok_is_name T Fn) (fun _ _ _ _ _ _ us hl => match us, hl with | [_], _ => rfl) (fun _ _ _ _ _ _ us hl => match us, hl with | [_], _ => rfl)
theorem ok_power (T : Txt P w K mg base) {f : Addr} {fd : FuncData} (Fn : Fun K "power" "power" s_power f fd) : FnG P w K mg base 1 f fd ["things", "places"] (spD K mg 2 [] false F_power) := by
  refine fn_d Fn sc_power (fun _ _ => rfl) fun cdv A outer s H E hr => ?_
  exact (dss_cons (ds_set (i := 2) sc_power.nd rfl (by first | exact Or.inl rfl | exact Or.inr rfl) (by decide) de_int) (dss_cons (ds_for passes rfl (di_range1 rfl T.b_range (da_cons (dxa 1) da_nil)) (dg_name sc_power.nd (i := 3) rfl (by first | exact Or.inl rfl | exact Or.inr rfl)) (by decide) (dss_one (ds_set (i := 2) sc_power.nd rfl (by first | exact Or.inl rfl | exact Or.inr rfl) (by decide) (dbin ob_mul (dxa 2) (dxa 0))))) (dss_one (ds_ret (dv 2)))))
theorem fd_power (T : Txt P w K mg base) : FunD P w K mg base "power" 1 ["things", "places"] [] false F_power := by
  obtain ⟨f, fd, Fn, hm⟩ := T.f_power
  exact fd_mk Fn hm (ok_power T Fn) (fun _ _ _ _ _ _ us hl => match us, hl with | [_, _], _ => rfl) (fun _ _ _ _ _ _ us hl => match us, hl with | [_, _], _ => rfl)
theorem ok_is_sign (T : Txt P w K mg base) {f : Addr} {fd : FuncData} (Fn : Fun K "is_sign" "is_sign" s_is_sign f fd) : FnG P w K mg base 3 f fd ["value"] (spD K mg 1 [] false F_is_sign) := by
  refine fn_d Fn sc_is_sign (fun _ _ => rfl) fun cdv A outer s H E hr => ?_
  exact (dss_one (ds_ret (de_and (de_isB kit_tuple rfl T.b_isinstance rfl T.b_tuple rfl (dv 0)) (de_and (dcmp (oc_eq hr) (dx_v (dlen T.b_len (da_cons (dxa 0) da_nil))) (dx_v de_int)) (de_and (de_call ((fd_is_name T).mono (by decide)) hr (takes_of rfl rfl rfl rfl) rfl (da_cons (dx_v (de_ix (dxa 0) (dx_v de_int))) da_nil) (len_cons len_nil)) (de_one (de_call ((fd_is_between T).mono (by decide)) hr (takes_of rfl rfl rfl rfl) rfl (da_cons (dx_v (de_ix (dxa 0) (dx_v de_int))) (da_cons (dx_v de_int) (da_cons (dx_v (dgc T.c_MOST_PLACES)) da_nil))) (len_cons (len_cons (len_cons len_nil))))))))))
theorem fd_is_sign (T : Txt P w K mg base) : FunD P w K mg base "is_sign" 3 ["value"] [] false F_is_sign := by
  obtain ⟨f, fd, Fn, hm⟩ := T.f_is_sign
  exact fd_mk Fn hm (ok_is_sign T Fn) (fun _ _ _ _ _ _ us hl => match us, hl with | [_], _ => rfl) (fun _ _ _ _ _ _ us hl => match us, hl with | [_], _ => rfl)
theorem ok_is_signs (T : Txt P w K mg base) {f : Addr} {fd : FuncData} (Fn : Fun K "is_signs" "is_signs" s_is_signs f fd) : FnG P w K mg base 4 f fd ["value"] (spD K mg 1 [] false F_is_signs) := by
  refine fn_d Fn sc_is_signs (fun _ _ => rfl) fun cdv A outer s H E hr => ?_
  exact (dss_cons (ds_if (DW.dt (dw_or (dt_not (dt_val (de_isB kit_tuple rfl T.b_isinstance rfl T.b_tuple rfl (dv 0)))) (dw_or (dt_not (tchain oc_le oc_le (dx_v de_int) (dx_v (dlen T.b_len (da_cons (dxa 0) da_nil))) (dx_v (dgc T.c_MOST_NAMES)))) (dw_or1 (dt_not (dt_val (dall rfl T.b_all (da_cons (dx_v (DF.de (df_lc rfl sc_is_signs.nd (di_seq (dv 0)) (blkOk_by (own := [("one", 1)]) (by rfl)) rfl (fun _ _ _ _ _ => (dg_name sc_is_signs.nd (i := 1) rfl (by first | exact Or.inl rfl | exact Or.inr rfl))) (fun _ _ _ _ _ => dq_nil) (fun _ _ _ _ _ => (de_call ((fd_is_sign T).mono (by decide)) hr takesNo rfl (da_cons (dxa 1) da_nil) (len_cons len_nil)))))) da_nil)))))))) (dss_one (ds_ret de_bl)) dss_nil) (dss_one (ds_ret (dcmp (oc_eq hr) (dx_v (dlenset rfl T.b_len T.b_set (DF.de (df_lc rfl sc_is_signs.nd (di_seq (dv 0)) (blkOk_by (own := [("name", 2), ("places", 3)]) (by rfl)) rfl (fun _ _ _ _ _ => (dg_tup rfl (dgs_cons (dg_name sc_is_signs.nd (i := 2) rfl (by first | exact Or.inl rfl | exact Or.inr rfl)) (dgs_cons (dg_name sc_is_signs.nd (i := 3) rfl (by first | exact Or.inl rfl | exact Or.inr rfl)) dgs_nil)))) (fun _ _ _ _ _ => dq_nil) (fun _ _ _ _ _ => (dv 2)))))) (dx_v (dlen T.b_len (da_cons (dxa 0) da_nil)))))))
theorem fd_is_signs (T : Txt P w K mg base) : FunD P w K mg base "is_signs" 4 ["value"] [] false F_is_signs := by
  obtain ⟨f, fd, Fn, hm⟩ := T.f_is_signs
  exact fd_mk Fn hm (ok_is_signs T Fn) (fun _ _ _ _ _ _ us hl => match us, hl with | [_], _ => rfl) (fun _ _ _ _ _ _ us hl => match us, hl with | [_], _ => rfl)
theorem ok_check_signs (T : Txt P w K mg base) {f : Addr} {fd : FuncData} (Fn : Fun K "check_signs" "check_signs" s_check_signs f fd) : FnG P w K mg base 5 f fd ["value"] (spD K mg 1 [] false F_check_signs) := by
  obtain ⟨_, _, _, e_BadSigns⟩ := T.e_BadSigns
  refine fn_d Fn sc_check_signs (fun _ _ => rfl) fun cdv A outer s H E hr => ?_
  exact (dss_one (ds_if (dt_not (dt_val (de_call ((fd_is_signs T).mono (by decide)) hr (takes_of rfl rfl rfl rfl) rfl (da_cons (dxa 0) da_nil) (len_cons len_nil)))) (dss_one (ds_raise rfl e_BadSigns hr (takes_of rfl rfl rfl rfl) (dv 0))) dss_nil))
theorem fd_check_signs (T : Txt P w K mg base) : FunD P w K mg base "check_signs" 5 ["value"] [] false F_check_signs := by
  obtain ⟨f, fd, Fn, hm⟩ := T.f_check_signs
  exact fd_mk Fn hm (ok_check_signs T Fn) (fun _ _ _ _ _ _ us hl => match us, hl with | [_], _ => rfl) (fun _ _ _ _ _ _ us hl => match us, hl with | [_], _ => rfl)
theorem ok_is_size (T : Txt P w K mg base) {f : Addr} {fd : FuncData} (Fn : Fun K "is_size" "is_size" s_is_size f fd) : FnG P w K mg base 3 f fd ["value"] (spD K mg 1 [] false F_is_size) := by
  refine fn_d Fn sc_is_size (fun _ _ => rfl) fun cdv A outer s H E hr => ?_
  exact (dss_one (ds_ret (de_call ((fd_is_between T).mono (by decide)) hr (takes_of rfl rfl rfl rfl) rfl (da_cons (dxa 0) (da_cons (dx_v de_int) (da_cons (dx_v (dgc T.c_MOST_THINGS)) da_nil))) (len_cons (len_cons (len_cons len_nil))))))
theorem fd_is_size (T : Txt P w K mg base) : FunD P w K mg base "is_size" 3 ["value"] [] false F_is_size := by
  obtain ⟨f, fd, Fn, hm⟩ := T.f_is_size
  exact fd_mk Fn hm (ok_is_size T Fn) (fun _ _ _ _ _ _ us hl => match us, hl with | [_], _ => rfl) (fun _ _ _ _ _ _ us hl => match us, hl with | [_], _ => rfl)
theorem ok_is_table_of (T : Txt P w K mg base) {f : Addr} {fd : FuncData} (Fn : Fun K "is_table_of" "is_table_of" s_is_table_of f fd) : FnG P w K mg base 4 f fd ["signs", "value"] (spD K mg 2 [] false F_is_table_of) := by
  refine fn_d Fn sc_is_table_of (fun _ _ => rfl) fun cdv A outer s H E hr => ?_
  exact (dss_cons (ds_if (DW.dt (dw_or (dt_not (dt_val (de_isB kit_tuple rfl T.b_isinstance rfl T.b_tuple rfl (dv 1)))) (dw_or (tcmp (oc_ne hr) (dx_v (dlen T.b_len (da_cons (dxa 1) da_nil))) (dx_v de_int)) (dw_or (dt_not (dt_val (de_call ((fd_is_size T).mono (by decide)) hr (takes_of rfl rfl rfl rfl) rfl (da_cons (dx_v (de_ix (dxa 1) (dx_v de_int))) da_nil) (len_cons len_nil)))) (dw_or1 (dt_not (dt_val (de_isB kit_tuple rfl T.b_isinstance rfl T.b_tuple rfl (de_ix (dxa 1) (dx_v de_int)))))))))) (dss_one (ds_ret de_bl)) dss_nil) (dss_cons (ds_if (DW.dt (dw_or (tcmp (oc_ne hr) (dx_v (dlen T.b_len (da_cons (dx_v (de_ix (dxa 1) (dx_v de_int))) da_nil))) (dx_v (dlen T.b_len (da_cons (dxa 0) da_nil)))) (dw_or1 (dt_not (dt_val (dall rfl T.b_all (da_cons (dx_v (DF.de (df_lc rfl sc_is_table_of.nd (di_seq (de_ix (dxa 1) (dx_v de_int))) (blkOk_by (own := [("row", 2)]) (by rfl)) rfl (fun _ _ _ _ _ => (dg_name sc_is_table_of.nd (i := 2) rfl (by first | exact Or.inl rfl | exact Or.inr rfl))) (fun _ _ _ _ _ => dq_nil) (fun _ _ _ _ _ => (de_call ((fd_are_between T).mono (by decide)) hr takesNo rfl (da_cons (dxa 2) (da_cons (dx_v de_int) (da_cons (dx_v (dbin ob_sub (dx_v (de_ix (dxa 1) (dx_v de_int))) (dx_v de_int))) da_nil))) (len_cons (len_cons (len_cons len_nil)))))))) da_nil))))))) (dss_one (ds_ret de_bl)) dss_nil) (dss_one (ds_ret (dall rfl T.b_all (da_cons (dx_v (DF.de (df_lc rfl sc_is_table_of.nd (di_zip rfl T.b_zip (da_cons (dxa 0) (da_cons (dx_v (de_ix (dxa 1) (dx_v de_int))) da_nil))) (blkOk_by (own := [("name", 3), ("places", 4), ("row", 2)]) (by rfl)) rfl (fun _ _ _ _ _ => (dg_tup rfl (dgs_cons (dg_tup rfl (dgs_cons (dg_name sc_is_table_of.nd (i := 3) rfl (by first | exact Or.inl rfl | exact Or.inr rfl)) (dgs_cons (dg_name sc_is_table_of.nd (i := 4) rfl (by first | exact Or.inl rfl | exact Or.inr rfl)) dgs_nil))) (dgs_cons (dg_name sc_is_table_of.nd (i := 2) rfl (by first | exact Or.inl rfl | exact Or.inr rfl)) dgs_nil)))) (fun _ _ _ _ _ => dq_nil) (fun _ _ _ _ _ => (dcmp (oc_eq hr) (dx_v (dlen T.b_len (da_cons (dxa 2) da_nil))) (dx_v (de_call ((fd_power T).mono (by decide)) hr takesNo rfl (da_cons (dx_v (de_ix (dxa 1) (dx_v de_int))) (da_cons (dxa 4) da_nil)) (len_cons (len_cons len_nil))))))))) da_nil))))))
theorem fd_is_table_of (T : Txt P w K mg base) : FunD P w K mg base "is_table_of" 4 ["signs", "value"] [] false F_is_table_of := by
  obtain ⟨f, fd, Fn, hm⟩ := T.f_is_table_of
  exact fd_mk Fn hm (ok_is_table_of T Fn) (fun _ _ _ _ _ _ us hl => match us, hl with | [_, _], _ => rfl) (fun _ _ _ _ _ _ us hl => match us, hl with | [_, _], _ => rfl)
theorem ok_check_its_table (T : Txt P w K mg base) {f : Addr} {fd : FuncData} (Fn : Fun K "check_its_table" "check_its_table" s_check_its_table f fd) : FnG P w K mg base 5 f fd ["signs", "table"] (spD K mg 2 [] false F_check_its_table) := by
  obtain ⟨_, _, _, e_BadTable⟩ := T.e_BadTable
  refine fn_d Fn sc_check_its_table (fun _ _ => rfl) fun cdv A outer s H E hr => ?_
  exact (dss_one (ds_if (dt_not (dt_val (de_call ((fd_is_table_of T).mono (by decide)) hr (takes_of rfl rfl rfl rfl) rfl (da_cons (dxa 0) (da_cons (dxa 1) da_nil)) (len_cons (len_cons len_nil))))) (dss_one (ds_raise rfl e_BadTable hr (takes_of rfl rfl rfl rfl) (dv 1))) dss_nil))
theorem fd_check_its_table (T : Txt P w K mg base) : FunD P w K mg base "check_its_table" 5 ["signs", "table"] [] false F_check_its_table := by
  obtain ⟨f, fd, Fn, hm⟩ := T.f_check_its_table
  exact fd_mk Fn hm (ok_check_its_table T Fn) (fun _ _ _ _ _ _ us hl => match us, hl with | [_, _], _ => rfl) (fun _ _ _ _ _ _ us hl => match us, hl with | [_, _], _ => rfl)
theorem ok_check_table (T : Txt P w K mg base) {f : Addr} {fd : FuncData} (Fn : Fun K "check_table" "check_table" s_check_table f fd) : FnG P w K mg base 6 f fd ["signs", "table"] (spD K mg 2 [] false F_check_table) := by
  refine fn_d Fn sc_check_table (fun _ _ => rfl) fun cdv A outer s H E hr => ?_
  exact (dss_cons (ds_expr (de_call ((fd_check_signs T).mono (by decide)) hr (takes_of rfl rfl rfl rfl) rfl (da_cons (dxa 0) da_nil) (len_cons len_nil))) (dss_one (ds_expr (de_call ((fd_check_its_table T).mono (by decide)) hr (takes_of rfl rfl rfl rfl) rfl (da_cons (dxa 0) (da_cons (dxa 1) da_nil)) (len_cons (len_cons len_nil))))))
theorem fd_check_table (T : Txt P w K mg base) : FunD P w K mg base "check_table" 6 ["signs", "table"] [] false F_check_table := by
  obtain ⟨f, fd, Fn, hm⟩ := T.f_check_table
  exact fd_mk Fn hm (ok_check_table T Fn) (fun _ _ _ _ _ _ us hl => match us, hl with | [_, _], _ => rfl) (fun _ _ _ _ _ _ us hl => match us, hl with | [_, _], _ => rfl)
theorem ok_table_lines (T : Txt P w K mg base) {f : Addr} {fd : FuncData} (Fn : Fun K "table_lines" "table_lines" s_table_lines f fd) : FnG P w K mg base 1 f fd ["signs", "table"] (spD K mg 2 [] false F_table_lines) := by
  refine fn_d Fn sc_table_lines (fun _ _ => rfl) fun cdv A outer s H E hr => ?_
  exact (dss_cons (ds_setLcF (i := 2) rfl sc_table_lines.nd rfl rfl (by decide) (sw_true rfl rfl rfl (by decide +kernel)) (di_zip rfl T.b_zip (da_cons (dxa 0) (da_cons (dx_v (de_ix (dxa 1) (dx_v de_int))) da_nil))) (blkOk_by (own := [("name", 3), ("places", 4), ("row", 5)]) (by rfl)) rfl (fun _ _ _ _ _ => (dg_tup rfl (dgs_cons (dg_tup rfl (dgs_cons (dg_name sc_table_lines.nd (i := 3) rfl (by first | exact Or.inl rfl | exact Or.inr rfl)) (dgs_cons (dg_name sc_table_lines.nd (i := 4) rfl (by first | exact Or.inl rfl | exact Or.inr rfl)) dgs_nil))) (dgs_cons (dg_name sc_table_lines.nd (i := 5) rfl (by first | exact Or.inl rfl | exact Or.inr rfl)) dgs_nil)))) (fun _ _ _ _ _ => dq_nil) (fun _ _ _ _ _ => (de_join (dgc T.c_BLANK) (dx_v (DF.de (df_lst (da_cons (dxa 3) (da_star (dx_v (DF.de (df_lc rfl sc_table_lines.nd (di_seq (dv 5)) (blkOk_by (own := [("thing", 6)]) (by rfl)) rfl (fun _ _ _ _ _ => (dg_name sc_table_lines.nd (i := 6) rfl (by first | exact Or.inl rfl | exact Or.inr rfl))) (fun _ _ _ _ _ => dq_nil) (fun _ _ _ _ _ => (dstr T.b_str (da_cons (dxa 6) da_nil)))))) da_nil)))))))) (dss_one (ds_ret (DF.de (df_lst (da_cons (dx_v (de_join (dgc T.c_BLANK) (dx_v (DF.de (df_lst (da_cons (dx_v (dgc T.c_THINGS)) (da_cons (dx_v (dstr T.b_str (da_cons (dx_v (de_ix (dxa 1) (dx_v de_int))) da_nil))) da_nil))))))) (da_star (dxa 2) da_nil)))))))
theorem fd_table_lines (T : Txt P w K mg base) : FunD P w K mg base "table_lines" 1 ["signs", "table"] [] false F_table_lines := by
  obtain ⟨f, fd, Fn, hm⟩ := T.f_table_lines
  exact fd_mk Fn hm (ok_table_lines T Fn) (fun _ _ _ _ _ _ us hl => match us, hl with | [_, _], _ => rfl) (fun _ _ _ _ _ _ us hl => match us, hl with | [_, _], _ => rfl)
theorem ok_table_text (T : Txt P w K mg base) {f : Addr} {fd : FuncData} (Fn : Fun K "table_text" "table_text" s_table_text f fd) : FnG P w K mg base 7 f fd ["signs", "table"] (spD K mg 2 [] false F_table_text) := by
  refine fn_d Fn sc_table_text (fun _ _ => rfl) fun cdv A outer s H E hr => ?_
  exact (dss_cons (ds_expr (de_call ((fd_check_table T).mono (by decide)) hr (takes_of rfl rfl rfl rfl) rfl (da_cons (dxa 0) (da_cons (dxa 1) da_nil)) (len_cons (len_cons len_nil)))) (dss_one (ds_ret (de_join (dgc T.c_FEED) (dx_v (de_call ((fd_table_lines T).mono (by decide)) hr (takes_of rfl rfl rfl rfl) rfl (da_cons (dxa 0) (da_cons (dxa 1) da_nil)) (len_cons (len_cons len_nil))))))))
theorem fd_table_text (T : Txt P w K mg base) : FunD P w K mg base "table_text" 7 ["signs", "table"] [] false F_table_text := by
  obtain ⟨f, fd, Fn, hm⟩ := T.f_table_text
  exact fd_mk Fn hm (ok_table_text T Fn) (fun _ _ _ _ _ _ us hl => match us, hl with | [_, _], _ => rfl) (fun _ _ _ _ _ _ us hl => match us, hl with | [_, _], _ => rfl)
theorem ok_thing_in (T : Txt P w K mg base) {f : Addr} {fd : FuncData} (Fn : Fun K "thing_in" "thing_in" s_thing_in f fd) : FnG P w K mg base 1 f fd ["word", "things"] (spD K mg 2 [] false F_thing_in) := by
  refine fn_d Fn sc_thing_in (fun _ _ => rfl) fun cdv A outer s H E hr => ?_
  exact (dss_cons (ds_if (DW.dt (dw_or (tcmp (oc_ne hr) (dx_v (dlen T.b_len (da_cons (dxa 0) da_nil))) (dx_v de_int)) (dw_or1 (tcmp (oc_notin hr) (dxa 0) (dx_v (dgc T.c_FIGURES)))))) (dss_one (ds_ret de_non)) dss_nil) (dss_one (ds_ret (de_if (tcmp oc_lt (dx_v (dint T.b_int (da_cons (dxa 0) da_nil))) (dxa 1)) (dint T.b_int (da_cons (dxa 0) da_nil)) de_non))))
theorem fd_thing_in (T : Txt P w K mg base) : FunD P w K mg base "thing_in" 1 ["word", "things"] [] false F_thing_in := by
  obtain ⟨f, fd, Fn, hm⟩ := T.f_thing_in
  exact fd_mk Fn hm (ok_thing_in T Fn) (fun _ _ _ _ _ _ us hl => match us, hl with | [_, _], _ => rfl) (fun _ _ _ _ _ _ us hl => match us, hl with | [_, _], _ => rfl)
theorem ok_row_in (T : Txt P w K mg base) {f : Addr} {fd : FuncData} (Fn : Fun K "row_in" "row_in" s_row_in f fd) : FnG P w K mg base 2 f fd ["sign", "things", "line"] (spD K mg 3 [] false F_row_in) := by
  refine fn_d Fn sc_row_in (fun _ _ => rfl) fun cdv A outer s H E hr => ?_
  exact (dss_cons (ds_set (i := 3) sc_row_in.nd rfl (by first | exact Or.inl rfl | exact Or.inr rfl) (by decide) (DF.de (df_split (dv 2) (dgc T.c_BLANK)))) (dss_cons (ds_setLcF (i := 4) rfl sc_row_in.nd rfl rfl (by decide) (sw_true rfl rfl rfl (by decide +kernel)) (di_seq (de_sl (dxa 3) (do_some de_int) do_none)) (blkOk_by (own := [("word", 5)]) (by rfl)) rfl (fun _ _ _ _ _ => (dg_name sc_row_in.nd (i := 5) rfl (by first | exact Or.inl rfl | exact Or.inr rfl))) (fun _ _ _ _ _ => dq_nil) (fun _ _ _ _ _ => (de_call ((fd_thing_in T).mono (by decide)) hr takesNo rfl (da_cons (dxa 5) (da_cons (dxa 1) da_nil)) (len_cons (len_cons len_nil))))) (dss_cons (ds_if (DW.dt (dw_or (tcmp (oc_ne hr) (dx_v (de_ix (dxa 3) (dx_v de_int))) (dx_v (de_ix (dxa 0) (dx_v de_int)))) (dw_or (tcmp (oc_in hr) (dx_v de_non) (dxa 4)) (dw_or1 (tcmp (oc_ne hr) (dx_v (dlen T.b_len (da_cons (dxa 4) da_nil))) (dx_v (de_call ((fd_power T).mono (by decide)) hr (takes_of rfl rfl rfl rfl) rfl (da_cons (dxa 1) (da_cons (dx_v (de_ix (dxa 0) (dx_v de_int))) da_nil)) (len_cons (len_cons len_nil))))))))) (dss_one (ds_ret de_non)) dss_nil) (dss_one (ds_ret (dtuple T.b_tuple (da_cons (dxa 4) da_nil)))))))
theorem fd_row_in (T : Txt P w K mg base) : FunD P w K mg base "row_in" 2 ["sign", "things", "line"] [] false F_row_in := by
  obtain ⟨f, fd, Fn, hm⟩ := T.f_row_in
  exact fd_mk Fn hm (ok_row_in T Fn) (fun _ _ _ _ _ _ us hl => match us, hl with | [_, _, _], _ => rfl) (fun _ _ _ _ _ _ us hl => match us, hl with | [_, _, _], _ => rfl)
theorem ok_things_in (T : Txt P w K mg base) {f : Addr} {fd : FuncData} (Fn : Fun K "things_in" "things_in" s_things_in f fd) : FnG P w K mg base 2 f fd ["line"] (spD K mg 1 [] false F_things_in) := by
  refine fn_d Fn sc_things_in (fun _ _ => rfl) fun cdv A outer s H E hr => ?_
  exact (dss_cons (ds_set (i := 1) sc_things_in.nd rfl (by first | exact Or.inl rfl | exact Or.inr rfl) (by decide) (DF.de (df_split (dv 0) (dgc T.c_BLANK)))) (dss_cons (ds_if (DW.dt (dw_or (tcmp (oc_ne hr) (dx_v (dlen T.b_len (da_cons (dxa 1) da_nil))) (dx_v de_int)) (dw_or1 (tcmp (oc_ne hr) (dx_v (de_ix (dxa 1) (dx_v de_int))) (dx_v (dgc T.c_THINGS)))))) (dss_one (ds_ret de_non)) dss_nil) (dss_cons (ds_set (i := 2) sc_things_in.nd rfl (by first | exact Or.inl rfl | exact Or.inr rfl) (by decide) (de_call ((fd_thing_in T).mono (by decide)) hr (takes_of rfl rfl rfl rfl) rfl (da_cons (dx_v (de_ix (dxa 1) (dx_v de_int))) (da_cons (dx_v (dbin ob_add (dx_v (dgc T.c_MOST_THINGS)) (dx_v de_int))) da_nil)) (len_cons (len_cons len_nil)))) (dss_one (ds_ret (de_if (DW.dt (dw_and (tcmp oc_isnot (dxa 2) (dx_v de_non)) (dw_and1 (tcmp oc_gt (dxa 2) (dx_v de_int))))) (dv 2) de_non))))))
theorem fd_things_in (T : Txt P w K mg base) : FunD P w K mg base "things_in" 2 ["line"] [] false F_things_in := by
  obtain ⟨f, fd, Fn, hm⟩ := T.f_things_in
  exact fd_mk Fn hm (ok_things_in T Fn) (fun _ _ _ _ _ _ us hl => match us, hl with | [_], _ => rfl) (fun _ _ _ _ _ _ us hl => match us, hl with | [_], _ => rfl)
theorem ok_read_table (T : Txt P w K mg base) {f : Addr} {fd : FuncData} (Fn : Fun K "read_table" "read_table" s_read_table f fd) : FnG P w K mg base 6 f fd ["signs", "text"] (spD K mg 2 [] false F_read_table) := by
  obtain ⟨_, _, _, e_BadTableText⟩ := T.e_BadTableText
  refine fn_d Fn sc_read_table (fun _ _ => rfl) fun cdv A outer s H E hr => ?_
  exact (dss_cons (ds_expr (de_call ((fd_check_signs T).mono (by decide)) hr (takes_of rfl rfl rfl rfl) rfl (da_cons (dxa 0) da_nil) (len_cons len_nil))) (dss_cons (ds_if (dt_not (dt_val (de_isB kit_str rfl T.b_isinstance rfl T.b_str rfl (dv 1)))) (dss_one (ds_raise rfl e_BadTableText hr (takes_of rfl rfl rfl rfl) de_int)) dss_nil) (dss_cons (ds_set (i := 2) sc_read_table.nd rfl (by first | exact Or.inl rfl | exact Or.inr rfl) (by decide) (DF.de (df_split (dv 1) (dgc T.c_FEED)))) (dss_cons (ds_par (i := 3) (j := 4) rfl sc_read_table.nd rfl rfl (by decide) (by decide) rfl rfl (dp_v (de_call ((fd_things_in T).mono (by decide)) hr (takes_of rfl rfl rfl rfl) rfl (da_cons (dx_v (de_ix (dxa 2) (dx_v de_int))) da_nil) (len_cons len_nil)) (dp_f (df_lst da_nil) dp_nil)) rfl) (dss_cons (ds_if (tcmp oc_is (dxa 3) (dx_v de_non)) (dss_one (ds_raise rfl e_BadTableText hr (takes_of rfl rfl rfl rfl) de_int)) dss_nil) (dss_cons (ds_for passes rfl (di_enum rfl T.b_enumerate (da_cons (dx_v (de_sl (dxa 2) (do_some de_int) do_none)) da_nil)) (dg_tup rfl (dgs_cons (dg_name sc_read_table.nd (i := 5) rfl (by first | exact Or.inl rfl | exact Or.inr rfl)) (dgs_cons (dg_name sc_read_table.nd (i := 6) rfl (by first | exact Or.inl rfl | exact Or.inr rfl)) dgs_nil))) (by decide) (dss_cons (ds_set (i := 7) sc_read_table.nd rfl (by first | exact Or.inl rfl | exact Or.inr rfl) (by decide) (de_if (tcmp oc_lt (dxa 5) (dx_v (dlen T.b_len (da_cons (dxa 0) da_nil)))) (de_call ((fd_row_in T).mono (by decide)) hr (takes_of rfl rfl rfl rfl) rfl (da_cons (dx_v (de_ix (dxa 0) (dxa 5))) (da_cons (dxa 3) (da_cons (dxa 6) da_nil))) (len_cons (len_cons (len_cons len_nil)))) de_non)) (dss_cons (ds_if (tcmp oc_is (dxa 7) (dx_v de_non)) (dss_one (ds_raise rfl e_BadTableText hr (takes_of rfl rfl rfl rfl) (dbin ob_add (dxa 5) (dx_v de_int)))) dss_nil) (dss_one (ds_expr (de_append (i := 4) rfl (by first | exact Or.inl rfl | exact Or.inr (Or.inl rfl) | exact Or.inr (Or.inr rfl)) (dv 7))))))) (dss_cons (ds_if (tcmp oc_lt (dx_v (dlen T.b_len (da_cons (dxa 4) da_nil))) (dx_v (dlen T.b_len (da_cons (dxa 0) da_nil)))) (dss_one (ds_raise rfl e_BadTableText hr (takes_of rfl rfl rfl rfl) (dbin ob_add (dx_v (dlen T.b_len (da_cons (dxa 2) da_nil))) (dx_v de_int)))) dss_nil) (dss_one (ds_ret (de_tup (da_cons (dxa 3) (da_cons (dx_v (dtuple T.b_tuple (da_cons (dxa 4) da_nil))) da_nil))))))))))))
theorem fd_read_table (T : Txt P w K mg base) : FunD P w K mg base "read_table" 6 ["signs", "text"] [] false F_read_table := by
  obtain ⟨f, fd, Fn, hm⟩ := T.f_read_table
  exact fd_mk Fn hm (ok_read_table T Fn) (fun _ _ _ _ _ _ us hl => match us, hl with | [_, _], _ => rfl) (fun _ _ _ _ _ _ us hl => match us, hl with | [_, _], _ => rfl)
theorem ok__law_pot (T : Txt P w K mg base) {f : Addr} {fd : FuncData} (Fn : Fun K "_law_pot" "_law_pot" s__law_pot f fd) : FnG P w K mg base 1 f fd ["script", "place"] (spD K mg 2 [] true F__law_pot) := by
  refine fn_d Fn sc__law_pot (fun _ _ => rfl) fun cdv A outer s H E hr => ?_
  exact (dss_cons (ds_set (i := 2) sc__law_pot.nd rfl (by first | exact Or.inl rfl | exact Or.inr rfl) (by decide) (de_if (tcmp oc_lt (dxa 1) (dx_v (dlen T.b_len (da_cons (dxa 0) da_nil)))) (de_ix (dxa 0) (dxa 1)) (dbin ob_add (dx_v (dbin ob_mul (dx_v de_int) (dxa 1))) (dx_v de_int)))) (dss_cons (ds_set (i := 3) sc__law_pot.nd rfl (by first | exact Or.inl rfl | exact Or.inr rfl) (by decide) (dbin ob_mul (dx_v (dbin ob_mod (dx_v (dint T.b_int (da_cons (dx_v (dabs T.b_abs (da_cons (dxa 2) da_nil))) da_nil))) (dx_v (dbin ob_pow (dx_v (dbin ob_pow (dx_v de_int) (dx_v de_int))) (dx_v de_int))))) (dx_v (dint T.b_int (da_cons (dx_v (dcmp oc_ge (dx_v (dabs T.b_abs (da_cons (dxa 2) da_nil))) (dx_v (dbin ob_pow (dx_v de_int) (dx_v de_int))))) da_nil))))) (dss_cons (ds_set (i := 4) sc__law_pot.nd rfl (by first | exact Or.inl rfl | exact Or.inr rfl) (by decide) (dbin ob_mod (dx_v (dint T.b_int (da_cons (dxa 2) da_nil))) (dx_v de_int))) (dss_one (ds_retF (df_lst (da_cons (dxa 3) (da_cons (dx_v (dbin ob_mod (dx_v (dint T.b_int (da_cons (dx_v (dbin ob_add (dx_v (dbin ob_add (dx_v (dbin ob_mul (dxa 4) (dx_v de_int))) (dx_v (dbin ob_mul (dx_v (dbin ob_mul (dx_v de_int) (dxa 1))) (dxa 1))))) (dx_v de_int))) da_nil))) (dx_v de_int))) (da_cons (dx_v de_int) da_nil)))))))))
theorem fd__law_pot (T : Txt P w K mg base) : FunD P w K mg base "_law_pot" 1 ["script", "place"] [] true F__law_pot := by
  obtain ⟨f, fd, Fn, hm⟩ := T.f__law_pot
  exact fd_mk Fn hm (ok__law_pot T Fn) (fun _ _ _ _ _ _ us hl => match us, hl with | [_, _], _ => rfl) (fun _ _ _ _ _ _ us hl => match us, hl with | [_, _], _ => rfl)
theorem ok__law_take (T : Txt P w K mg base) {f : Addr} {fd : FuncData} (Fn : Fun K "_law_take" "_law_take" s__law_take f fd) : FnG P w K mg base 1 f fd ["pot", "upto"] (spD K mg 2 [0] false F__law_take) := by
  refine fn_d Fn sc__law_take (fun _ _ => rfl) fun cdv A outer s H E hr => ?_
  exact (dss_cons (ds_if (tcmp oc_gt (dx_v (de_ix (dxa 0) (dx_v de_int))) (dx_v de_int)) (dss_cons (ds_set (i := 2) sc__law_take.nd rfl (by first | exact Or.inl rfl | exact Or.inr rfl) (by decide) (dbin ob_mod (dx_v (dint T.b_int (da_cons (dx_v (de_ix (dxa 0) (dx_v de_int))) da_nil))) (dxa 1))) (dss_cons (ds_put (i := 0) rfl (by first | exact Or.inl rfl | exact Or.inr (Or.inl rfl)) de_int (dbin ob_div (dx_v (de_ix (dxa 0) (dx_v de_int))) (dxa 1))) (dss_one (ds_ret (dv 2))))) dss_nil) (dss_cons (ds_put (i := 0) rfl (by first | exact Or.inl rfl | exact Or.inr (Or.inl rfl)) de_int (dbin ob_add (dx_v (de_ix (dxa 0) (dx_v de_int))) (dx_v de_int))) (dss_cons (ds_set (i := 3) sc__law_take.nd rfl (by first | exact Or.inl rfl | exact Or.inr rfl) (by decide) (de_ix (dx_v (DF.de (df_lst (da_cons (dx_v de_int) (da_cons (dx_v de_int) (da_cons (dx_v de_int) (da_cons (dx_v de_int) (da_cons (dx_v de_int) da_nil)))))))) (dx_v (dbin ob_mod (dx_v (dint T.b_int (da_cons (dx_v (de_ix (dxa 0) (dx_v de_int))) da_nil))) (dx_v de_int))))) (dss_cons (ds_set (i := 4) sc__law_take.nd rfl (by first | exact Or.inl rfl | exact Or.inr rfl) (by decide) (dbin ob_mod (dx_v (dint T.b_int (da_cons (dx_v (dbin ob_pow (dx_v (dint T.b_int (da_cons (dx_v (dbin ob_add (dx_v (dbin ob_add (dx_v (de_ix (dxa 0) (dx_v de_int))) (dx_v (dbin ob_mul (dx_v (dbin ob_mul (dx_v de_int) (dx_v (de_ix (dxa 0) (dx_v de_int))))) (dx_v (de_ix (dxa 0) (dx_v de_int))))))) (dx_v de_int))) da_nil))) (dx_v de_int))) da_nil))) (dxa 3))) (dss_cons (ds_set (i := 4) sc__law_take.nd rfl (by first | exact Or.inl rfl | exact Or.inr rfl) (by decide) (dbin ob_mod (dx_v (dint T.b_int (da_cons (dx_v (dbin ob_mul (dxa 4) (dx_v (dbin ob_add (dx_v (dbin ob_mod (dx_v (dint T.b_int (da_cons (dxa 4) da_nil))) (dx_v de_int))) (dx_v (dbin ob_mul (dx_v de_int) (dx_v (de_ix (dxa 0) (dx_v de_int))))))))) da_nil))) (dx_v de_int))) (dss_one (ds_ret (dbin ob_mod (dx_v (dint T.b_int (da_cons (dx_v (dbin ob_div (dxa 4) (dx_v de_int))) da_nil))) (dxa 1)))))))))
theorem fd__law_take (T : Txt P w K mg base) : FunD P w K mg base "_law_take" 1 ["pot", "upto"] [0] false F__law_take := by
  obtain ⟨f, fd, Fn, hm⟩ := T.f__law_take
  exact fd_mk Fn hm (ok__law_take T Fn) (fun _ _ _ _ _ _ us hl => match us, hl with | [_, _], _ => rfl) (fun _ _ _ _ _ _ us hl => match us, hl with | [_, _], _ => rfl)
theorem ok__law_of (T : Txt P w K mg base) {f : Addr} {fd : FuncData} (Fn : Fun K "_law_of" "_law_of" s__law_of f fd) : FnG P w K mg base 2 f fd ["pot", "some"] (spD K mg 2 [0] false F__law_of) := by
  refine fn_d Fn sc__law_of (fun _ _ => rfl) fun cdv A outer s H E hr => ?_
  exact (dss_one (ds_ret (de_ix (dxa 1) (dx_v (de_callIO ((fd__law_take T).mono (by decide)) hr (takes_of rfl rfl rfl rfl) rfl (da_cons (dxa 0) (da_cons (dx_v (dlen T.b_len (da_cons (dxa 1) da_nil))) da_nil)) (len_cons (len_cons len_nil)))))))
theorem fd__law_of (T : Txt P w K mg base) : FunD P w K mg base "_law_of" 2 ["pot", "some"] [0] false F__law_of := by
  obtain ⟨f, fd, Fn, hm⟩ := T.f__law_of
  exact fd_mk Fn hm (ok__law_of T Fn) (fun _ _ _ _ _ _ us hl => match us, hl with | [_, _], _ => rfl) (fun _ _ _ _ _ _ us hl => match us, hl with | [_, _], _ => rfl)
theorem ok__law_cells (T : Txt P w K mg base) {f : Addr} {fd : FuncData} (Fn : Fun K "_law_cells" "_law_cells" s__law_cells f fd) : FnG P w K mg base 1 f fd ["script", "limit"] (spD K mg 2 [] false F__law_cells) := by
  refine fn_d Fn sc__law_cells (fun _ _ => rfl) fun cdv A outer s H E hr => ?_
  exact (dss_one (ds_ret (DF.de (df_listR1 rfl T.b_list T.b_range (dmax2 rfl T.b_max (da_cons (dx_v de_int) (da_cons (dx_v (dmin2 rfl T.b_min (da_cons (dxa 1) (da_cons (dx_v (dlen T.b_len (da_cons (dxa 0) da_nil))) da_nil)))) da_nil)))))))
theorem fd__law_cells (T : Txt P w K mg base) : FunD P w K mg base "_law_cells" 1 ["script", "limit"] [] false F__law_cells := by
  obtain ⟨f, fd, Fn, hm⟩ := T.f__law_cells
  exact fd_mk Fn hm (ok__law_cells T Fn) (fun _ _ _ _ _ _ us hl => match us, hl with | [_, _], _ => rfl) (fun _ _ _ _ _ _ us hl => match us, hl with | [_, _], _ => rfl)
theorem ok__law_signs (T : Txt P w K mg base) {f : Addr} {fd : FuncData} (Fn : Fun K "_law_signs" "_law_signs" s__law_signs f fd) : FnG P w K mg base 3 f fd ["pot"] (spD K mg 1 [0] false F__law_signs) := by
  refine fn_d Fn sc__law_signs (fun _ _ => rfl) fun cdv A outer s H E hr => ?_
  exact (dss_one (ds_ret (de_callIO ((fd__law_of T).mono (by decide)) hr (takes_of rfl rfl rfl rfl) rfl (da_cons (dxa 0) (da_cons (dx_v (DF.de (df_lst (da_cons (dx_v (de_tup (da_cons (dx_v (de_tup (da_cons (dx_v de_str) (da_cons (dx_v de_int) da_nil)))) da_nil))) (da_cons (dx_v (de_tup (da_cons (dx_v (de_tup (da_cons (dx_v de_str) (da_cons (dx_v de_int) da_nil)))) (da_cons (dx_v (de_tup (da_cons (dx_v de_str) (da_cons (dx_v de_int) da_nil)))) da_nil)))) (da_cons (dx_v (de_tup (da_cons (dx_v (de_tup (da_cons (dx_v de_str) (da_cons (dx_v de_int) da_nil)))) da_nil))) (da_cons (dx_v (de_tup (da_cons (dx_v (de_tup (da_cons (dx_v de_str) (da_cons (dx_v de_int) da_nil)))) (da_cons (dx_v (de_tup (da_cons (dx_v de_str) (da_cons (dx_v de_int) da_nil)))) da_nil)))) (da_cons (dx_v (de_tup (da_cons (dx_v (de_tup (da_cons (dx_v de_str) (da_cons (dx_v de_int) da_nil)))) (da_cons (dx_v (de_tup (da_cons (dx_v de_str) (da_cons (dx_v de_int) da_nil)))) da_nil)))) (da_cons (dx_v (de_tup (da_cons (dx_v (de_tup (da_cons (dx_v de_str) (da_cons (dx_v de_int) da_nil)))) da_nil))) (da_cons (dx_v (de_tup (da_cons (dx_v (de_tup (da_cons (dx_v de_str) (da_cons (dx_v de_int) da_nil)))) (da_cons (dx_v (de_tup (da_cons (dx_v de_str) (da_cons (dx_v de_int) da_nil)))) (da_cons (dx_v (de_tup (da_cons (dx_v de_str) (da_cons (dx_v de_int) da_nil)))) da_nil))))) da_nil)))))))))) da_nil)) (len_cons (len_cons len_nil)))))
theorem fd__law_signs (T : Txt P w K mg base) : FunD P w K mg base "_law_signs" 3 ["pot"] [0] false F__law_signs := by
  obtain ⟨f, fd, Fn, hm⟩ := T.f__law_signs
  exact fd_mk Fn hm (ok__law_signs T Fn) (fun _ _ _ _ _ _ us hl => match us, hl with | [_], _ => rfl) (fun _ _ _ _ _ _ us hl => match us, hl with | [_], _ => rfl)
theorem ok__law_rows (T : Txt P w K mg base) {f : Addr} {fd : FuncData} (Fn : Fun K "_law_rows" "_law_rows" s__law_rows f fd) : FnG P w K mg base 1 f fd ["things", "places"] (spD K mg 2 [] false F__law_rows) := by
  refine fn_d Fn sc__law_rows (fun _ _ => rfl) fun cdv A outer s H E hr => ?_
  exact (dss_cons (ds_set (i := 2) sc__law_rows.nd rfl (by first | exact Or.inl rfl | exact Or.inr rfl) (by decide) (DF.de (df_lst (da_cons (dx_v (de_tup da_nil)) da_nil)))) (dss_cons (ds_for passes rfl (di_range1 rfl T.b_range (da_cons (dxa 1) da_nil)) (dg_name sc__law_rows.nd (i := 3) rfl (by first | exact Or.inl rfl | exact Or.inr rfl)) (by decide) (dss_cons (ds_setF (i := 4) sc__law_rows.nd rfl (by first | exact Or.inl rfl | exact Or.inr rfl) (by decide) (df_lst da_nil)) (dss_cons (ds_for passes rfl (di_seq (dv 2)) (dg_name sc__law_rows.nd (i := 5) rfl (by first | exact Or.inl rfl | exact Or.inr rfl)) (by decide) (dss_one (ds_expr (de_extend (i := 4) rfl (by first | exact Or.inl rfl | exact Or.inr (Or.inl rfl) | exact Or.inr (Or.inr rfl)) (DF.de (df_lc rfl sc__law_rows.nd (di_range1 rfl T.b_range (da_cons (dxa 0) da_nil)) (blkOk_by (own := [("thing", 6)]) (by rfl)) rfl (fun _ _ _ _ _ => (dg_name sc__law_rows.nd (i := 6) rfl (by first | exact Or.inl rfl | exact Or.inr rfl))) (fun _ _ _ _ _ => dq_nil) (fun _ _ _ _ _ => (dbin ob_add (dxa 5) (dx_v (de_tup (da_cons (dxa 6) da_nil))))))))))) (dss_one (ds_pub (i := 4) (by decide) (ds_set (i := 2) sc__law_rows.nd rfl (by first | exact Or.inl rfl | exact Or.inr rfl) (by decide) (dv 4))))))) (dss_one (ds_ret (dv 2)))))
theorem fd__law_rows (T : Txt P w K mg base) : FunD P w K mg base "_law_rows" 1 ["things", "places"] [] false F__law_rows := by
  obtain ⟨f, fd, Fn, hm⟩ := T.f__law_rows
  exact fd_mk Fn hm (ok__law_rows T Fn) (fun _ _ _ _ _ _ us hl => match us, hl with | [_, _], _ => rfl) (fun _ _ _ _ _ _ us hl => match us, hl with | [_, _], _ => rfl)
theorem ok__law_known_row (T : Txt P w K mg base) {f : Addr} {fd : FuncData} (Fn : Fun K "_law_known_row" "_law_known_row" s__law_known_row f fd) : FnG P w K mg base 2 f fd ["pot", "things", "places"] (spD K mg 3 [0] false F__law_known_row) := by
  refine fn_d Fn sc__law_known_row (fun _ _ => rfl) fun cdv A outer s H E hr => ?_
  exact (dss_cons (ds_set (i := 3) sc__law_known_row.nd rfl (by first | exact Or.inl rfl | exact Or.inr rfl) (by decide) (de_callIO ((fd__law_take T).mono (by decide)) hr (takes_of rfl rfl rfl rfl) rfl (da_cons (dxa 0) (da_cons (dx_v de_int) da_nil)) (len_cons (len_cons len_nil)))) (dss_cons (ds_set (i := 4) sc__law_known_row.nd rfl (by first | exact Or.inl rfl | exact Or.inr rfl) (by decide) (de_call ((fd__law_rows T).mono (by decide)) hr (takes_of rfl rfl rfl rfl) rfl (da_cons (dxa 1) (da_cons (dxa 2) da_nil)) (len_cons (len_cons len_nil)))) (dss_cons (ds_if (DW.dt (dw_or (tcmp (oc_eq hr) (dxa 2) (dx_v de_int)) (dw_or1 (tcmp oc_gt (dxa 3) (dx_v de_int))))) (dss_one (ds_ret (dtuple T.b_tuple (da_cons (dx_v (DF.de (df_lc rfl sc__law_known_row.nd (di_seq (dv 4)) (blkOk_by (own := [("row", 5)]) (by rfl)) rfl (fun _ _ _ _ _ => (dg_name sc__law_known_row.nd (i := 5) rfl (by first | exact Or.inl rfl | exact Or.inr rfl))) (fun _ _ _ _ _ => dq_nil) (fun _ _ _ _ _ => (de_callIO ((fd__law_take T).mono (by decide)) hr takesNo rfl (da_cons (dxa 0) (da_cons (dxa 1) da_nil)) (len_cons (len_cons len_nil))))))) da_nil)))) dss_nil) (dss_cons (ds_if (tcmp (oc_eq hr) (dxa 3) (dx_v de_int)) (dss_one (ds_ret (dtuple T.b_tuple (da_cons (dx_v (DF.de (df_lc rfl sc__law_known_row.nd (di_seq (dv 4)) (blkOk_by (own := [("row", 5)]) (by rfl)) rfl (fun _ _ _ _ _ => (dg_name sc__law_known_row.nd (i := 5) rfl (by first | exact Or.inl rfl | exact Or.inr rfl))) (fun _ _ _ _ _ => dq_nil) (fun _ _ _ _ _ => (dbin ob_mod (dx_v (de_if (tcmp (oc_ne hr) (dxa 2) (dx_v de_int)) (dsum rfl T.b_sum (da_cons (dxa 5) da_nil)) (dbin ob_add (dx_v (dbin ob_sub (dx_v (de_ix (dxa 5) (dx_v de_int))) (dx_v (de_ix (dxa 5) (dx_v de_int))))) (dx_v (de_ix (dxa 5) (dx_v de_int)))))) (dxa 1)))))) da_nil)))) dss_nil) (dss_cons (ds_if (tcmp (oc_eq hr) (dxa 3) (dx_v de_int)) (dss_one (ds_ret (dtuple T.b_tuple (da_cons (dx_v (DF.de (df_lc rfl sc__law_known_row.nd (di_seq (dv 4)) (blkOk_by (own := [("row", 5)]) (by rfl)) rfl (fun _ _ _ _ _ => (dg_name sc__law_known_row.nd (i := 5) rfl (by first | exact Or.inl rfl | exact Or.inr rfl))) (fun _ _ _ _ _ => dq_nil) (fun _ _ _ _ _ => (de_if (tcmp (oc_ne hr) (dxa 2) (dx_v de_int)) (dmin hr.rm rfl T.b_min (da_cons (dxa 5) da_nil)) (de_ix (dx_v (DF.de (dsorted T.b_sorted (da_cons (dxa 5) da_nil)))) (dx_v de_int))))))) da_nil)))) dss_nil) (dss_one (ds_ret (dtuple T.b_tuple (da_cons (dx_v (DF.de (df_lc rfl sc__law_known_row.nd (di_seq (dv 4)) (blkOk_by (own := [("row", 5)]) (by rfl)) rfl (fun _ _ _ _ _ => (dg_name sc__law_known_row.nd (i := 5) rfl (by first | exact Or.inl rfl | exact Or.inr rfl))) (fun _ _ _ _ _ => dq_nil) (fun _ _ _ _ _ => (de_if (tcmp (oc_eq hr) (dxa 3) (dx_v de_int)) (de_ix (dxa 5) (dx_v de_int)) (dmax hr.rm rfl T.b_max (da_cons (dxa 5) da_nil))))))) da_nil)))))))))
theorem fd__law_known_row (T : Txt P w K mg base) : FunD P w K mg base "_law_known_row" 2 ["pot", "things", "places"] [0] false F__law_known_row := by
  obtain ⟨f, fd, Fn, hm⟩ := T.f__law_known_row
  exact fd_mk Fn hm (ok__law_known_row T Fn) (fun _ _ _ _ _ _ us hl => match us, hl with | [_, _, _], _ => rfl) (fun _ _ _ _ _ _ us hl => match us, hl with | [_, _, _], _ => rfl)
theorem ok__law_table (T : Txt P w K mg base) {f : Addr} {fd : FuncData} (Fn : Fun K "_law_table" "_law_table" s__law_table f fd) : FnG P w K mg base 3 f fd ["pot", "signs", "most"] (spD K mg 3 [0] false F__law_table) := by
  refine fn_d Fn sc__law_table (fun _ _ => rfl) fun cdv A outer s H E hr => ?_
  exact (dss_cons (ds_set (i := 3) sc__law_table.nd rfl (by first | exact Or.inl rfl | exact Or.inr rfl) (by decide) (dbin ob_add (dx_v de_int) (dx_v (de_callIO ((fd__law_take T).mono (by decide)) hr (takes_of rfl rfl rfl rfl) rfl (da_cons (dxa 0) (da_cons (dxa 2) da_nil)) (len_cons (len_cons len_nil)))))) (dss_one (ds_ret (de_tup (da_cons (dxa 3) (da_cons (dx_v (dtuple T.b_tuple (da_cons (dx_v (DF.de (df_lc rfl sc__law_table.nd (di_seq (dv 1)) (blkOk_by (own := [("name", 4), ("places", 5)]) (by rfl)) rfl (fun _ _ _ _ _ => (dg_tup rfl (dgs_cons (dg_name sc__law_table.nd (i := 4) rfl (by first | exact Or.inl rfl | exact Or.inr rfl)) (dgs_cons (dg_name sc__law_table.nd (i := 5) rfl (by first | exact Or.inl rfl | exact Or.inr rfl)) dgs_nil)))) (fun _ _ _ _ _ => dq_nil) (fun _ _ _ _ _ => (de_callIO ((fd__law_known_row T).mono (by decide)) hr takesNo rfl (da_cons (dxa 0) (da_cons (dxa 3) (da_cons (dxa 5) da_nil))) (len_cons (len_cons (len_cons len_nil)))))))) da_nil))) da_nil))))))
theorem fd__law_table (T : Txt P w K mg base) : FunD P w K mg base "_law_table" 3 ["pot", "signs", "most"] [0] false F__law_table := by
  obtain ⟨f, fd, Fn, hm⟩ := T.f__law_table
  exact fd_mk Fn hm (ok__law_table T Fn) (fun _ _ _ _ _ _ us hl => match us, hl with | [_, _, _], _ => rfl) (fun _ _ _ _ _ _ us hl => match us, hl with | [_, _, _], _ => rfl)
theorem ok__law_line (T : Txt P w K mg base) {f : Addr} {fd : FuncData} (Fn : Fun K "_law_line" "_law_line" s__law_line f fd) : FnG P w K mg base 2 f fd ["line", "sign", "things"] (spD K mg 3 [] false F__law_line) := by
  refine fn_d Fn sc__law_line (fun _ _ => rfl) fun cdv A outer s H E hr => ?_
  exact (dss_cons (ds_set (i := 3) sc__law_line.nd rfl (by first | exact Or.inl rfl | exact Or.inr rfl) (by decide) (DF.de (df_split (dv 0) de_str))) (dss_cons (ds_if (DW.dt (dw_or (tcmp (oc_ne hr) (dx_v (de_ix (dxa 3) (dx_v de_int))) (dx_v (de_ix (dxa 1) (dx_v de_int)))) (dw_or1 (dt_not (dt_val (dall rfl T.b_all (da_cons (dx_v (DF.de (df_lc rfl sc__law_line.nd (di_seq (de_sl (dxa 3) (do_some de_int) do_none)) (blkOk_by (own := [("word", 5)]) (by rfl)) rfl (fun _ _ _ _ _ => (dg_name sc__law_line.nd (i := 5) rfl (by first | exact Or.inl rfl | exact Or.inr rfl))) (fun _ _ _ _ _ => dq_nil) (fun _ _ _ _ _ => (de_and (dcmp (oc_eq hr) (dx_v (dlen T.b_len (da_cons (dxa 5) da_nil))) (dx_v de_int)) (de_and (dcmp (oc_in hr) (dxa 5) (dx_v de_str)) (de_one (dcmp oc_lt (dx_v (dint T.b_int (da_cons (dxa 5) da_nil))) (dxa 2))))))))) da_nil))))))) (dss_one (ds_ret de_non)) dss_nil) (dss_cons (ds_set (i := 4) sc__law_line.nd rfl (by first | exact Or.inl rfl | exact Or.inr rfl) (by decide) (dtuple T.b_tuple (da_cons (dx_v (DF.de (df_lc rfl sc__law_line.nd (di_seq (de_sl (dxa 3) (do_some de_int) do_none)) (blkOk_by (own := [("word", 5)]) (by rfl)) rfl (fun _ _ _ _ _ => (dg_name sc__law_line.nd (i := 5) rfl (by first | exact Or.inl rfl | exact Or.inr rfl))) (fun _ _ _ _ _ => dq_nil) (fun _ _ _ _ _ => (dint T.b_int (da_cons (dxa 5) da_nil)))))) da_nil))) (dss_one (ds_ret (de_if (tcmp (oc_eq hr) (dx_v (dlen T.b_len (da_cons (dxa 4) da_nil))) (dx_v (dlen T.b_len (da_cons (dx_v (de_call ((fd__law_rows T).mono (by decide)) hr (takes_of rfl rfl rfl rfl) rfl (da_cons (dxa 2) (da_cons (dx_v (de_ix (dxa 1) (dx_v de_int))) da_nil)) (len_cons (len_cons len_nil)))) da_nil)))) (dv 4) de_non))))))
theorem fd__law_line (T : Txt P w K mg base) : FunD P w K mg base "_law_line" 2 ["line", "sign", "things"] [] false F__law_line := by
  obtain ⟨f, fd, Fn, hm⟩ := T.f__law_line
  exact fd_mk Fn hm (ok__law_line T Fn) (fun _ _ _ _ _ _ us hl => match us, hl with | [_, _, _], _ => rfl) (fun _ _ _ _ _ _ us hl => match us, hl with | [_, _, _], _ => rfl)
theorem ok__law_is_read (T : Txt P w K mg base) {f : Addr} {fd : FuncData} (Fn : Fun K "_law_is_read" "_law_is_read" s__law_is_read f fd) {c Pt : Addr} (hc : fd.code = .ref c) (hTB : TabB base mg c Pt) (hM : (Pt, ("_law_is_read.<locals>.<lambda>" : Str)) ∈ tabsOf K) (hU : ∀ p ∈ tabsOf K, p.1 = Pt → p.2 = ("_law_is_read.<locals>.<lambda>" : Str)) : FnG P w K mg base 9 f fd ["signs", "text"] (spD K mg 2 [] false F__law_is_read) := by
  obtain ⟨_, i_BadTableText⟩ := T.i_BadTableText
  obtain ⟨_, _, _, hH⟩ := T.heard
  refine fn_dC Fn sc__law_is_read (fun _ _ => rfl) fun cdv hcd A outer s H E hr => ?_
  have hC : cdv = .ref c := hcd.symm.trans hc
  exact (dss_cons (ds_asg (de_heard (k := 6) hH rfl (takes_of rfl rfl rfl rfl) hTB hC hM hU hr (lamS_by (by rfl)) rfl (fun _ _ _ _ _ => rfl) (fun _ _ _ _ _ _ _ hr => (de_callK ((fd_read_table T).mono (by decide)) hr (takes_of rfl rfl rfl rfl) rfl (dk_cons (dxa 0) (dk_cons (dxa 1) dk_nil)) (len_cons (len_cons len_nil))))) (dg_tup rfl (dgs_cons (dg_name sc__law_is_read.nd (i := 2) rfl (by first | exact Or.inl rfl | exact Or.inr rfl)) (dgs_cons (dg_name sc__law_is_read.nd (i := 3) rfl (by first | exact Or.inl rfl | exact Or.inr rfl)) dgs_nil))) (by decide)) (dss_cons (ds_par3 (i := 4) (j := 5) (l := 6) rfl sc__law_is_read.nd rfl rfl rfl (by decide) (by decide) (by decide) (by decide) rfl rfl rfl (dp_v (DF.de (df_split (dv 1) de_str)) (dp_v de_non (dp_f (df_lst da_nil) dp_nil))) rfl) (dss_cons (ds_if (tcmp (oc_notin hr) (dx_v (de_ix (dxa 4) (dx_v de_int))) (dx_v (DF.de (df_lc rfl sc__law_is_read.nd (di_range2 rfl T.b_range (da_cons (dx_v de_int) (da_cons (dx_v de_int) da_nil))) (blkOk_by (own := [("number", 10)]) (by rfl)) rfl (fun _ _ _ _ _ => (dg_name sc__law_is_read.nd (i := 10) rfl (by first | exact Or.inl rfl | exact Or.inr rfl))) (fun _ _ _ _ _ => dq_nil) (fun _ _ _ _ _ => (dbin ob_add (dx_v de_str) (dx_v (dstr T.b_str (da_cons (dxa 10) da_nil))))))))) (dss_one (ds_set (i := 5) sc__law_is_read.nd rfl (by first | exact Or.inl rfl | exact Or.inr rfl) (by decide) de_int)) dss_nil) (dss_cons (ds_for passes rfl (di_enum rfl T.b_enumerate (da_cons (dx_v (de_if (tcmp oc_is (dxa 5) (dx_v de_non)) (de_sl (dxa 4) (do_some de_int) do_none) (DF.de (df_lst da_nil)))) da_nil)) (dg_tup rfl (dgs_cons (dg_name sc__law_is_read.nd (i := 7) rfl (by first | exact Or.inl rfl | exact Or.inr rfl)) (dgs_cons (dg_name sc__law_is_read.nd (i := 8) rfl (by first | exact Or.inl rfl | exact Or.inr rfl)) dgs_nil))) (by decide) (dss_cons (ds_set (i := 9) sc__law_is_read.nd rfl (by first | exact Or.inl rfl | exact Or.inr rfl) (by decide) (de_if (tcmp oc_lt (dxa 7) (dx_v (dlen T.b_len (da_cons (dxa 0) da_nil)))) (de_call ((fd__law_line T).mono (by decide)) hr (takes_of rfl rfl rfl rfl) rfl (da_cons (dxa 8) (da_cons (dx_v (de_ix (dxa 0) (dxa 7))) (da_cons (dx_v (dint T.b_int (da_cons (dx_v (de_sl (dx_v (de_ix (dxa 4) (dx_v de_int))) (do_some de_int) do_none)) da_nil))) da_nil))) (len_cons (len_cons (len_cons len_nil)))) de_non)) (dss_cons (ds_set (i := 5) sc__law_is_read.nd rfl (by first | exact Or.inl rfl | exact Or.inr rfl) (by decide) (de_if (DW.dt (dw_and (tcmp oc_is (dxa 9) (dx_v de_non)) (dw_and1 (tcmp oc_is (dxa 5) (dx_v de_non))))) (dbin ob_add (dxa 7) (dx_v de_int)) (dv 5))) (dss_one (ds_expr (de_append (i := 6) rfl (by first | exact Or.inl rfl | exact Or.inr (Or.inl rfl) | exact Or.inr (Or.inr rfl)) (dv 9))))))) (dss_cons (ds_if (DW.dt (dw_and (tcmp oc_is (dxa 5) (dx_v de_non)) (dw_and1 (tcmp oc_lt (dx_v (dlen T.b_len (da_cons (dxa 6) da_nil))) (dx_v (dlen T.b_len (da_cons (dxa 0) da_nil))))))) (dss_one (ds_set (i := 5) sc__law_is_read.nd rfl (by first | exact Or.inl rfl | exact Or.inr rfl) (by decide) (dbin ob_add (dx_v (dlen T.b_len (da_cons (dxa 4) da_nil))) (dx_v de_int)))) dss_nil) (dss_cons (ds_if (tcmp oc_isnot (dxa 5) (dx_v de_non)) (dss_one (ds_ret (de_and (de_isE i_BadTableText.2.1 i_BadTableText.2.2 T.b_isinstance i_BadTableText.1 (dv 2)) (de_one (dcmp (oc_eq hr) (dx_v (drepr hr T.b_repr (da_cons (dx_v (de_value T.v_errs (dv 2))) da_nil))) (dx_v (drepr hr T.b_repr (da_cons (dxa 5) da_nil)))))))) dss_nil) (dss_one (ds_ret (de_and (dcmp oc_is (dxa 2) (dx_v de_non)) (de_one (dcmp (oc_eq hr) (dx_v (drepr hr T.b_repr (da_cons (dxa 3) da_nil))) (dx_v (drepr hr T.b_repr (da_cons (dx_v (de_tup (da_cons (dx_v (dint T.b_int (da_cons (dx_v (de_sl (dx_v (de_ix (dxa 4) (dx_v de_int))) (do_some de_int) do_none)) da_nil))) (da_cons (dx_v (dtuple T.b_tuple (da_cons (dxa 6) da_nil))) da_nil)))) da_nil))))))))))))))
theorem fd__law_is_read (T : Txt P w K mg base) : FunD P w K mg base "_law_is_read" 9 ["signs", "text"] [] false F__law_is_read := by
  obtain ⟨f, fd, c, P, Fn, hm, hc, hTB, hM, hU⟩ := T.f__law_is_read
  exact fd_mk Fn hm (ok__law_is_read T Fn hc hTB hM hU) (fun _ _ _ _ _ _ us hl => match us, hl with | [_, _], _ => rfl) (fun _ _ _ _ _ _ us hl => match us, hl with | [_, _], _ => rfl)
theorem ok__law_right (T : Txt P w K mg base) {f : Addr} {fd : FuncData} (Fn : Fun K "_law_right" "_law_right" s__law_right f fd) {c Pt : Addr} (hc : fd.code = .ref c) (hTB : TabB base mg c Pt) (hM : (Pt, ("_law_right.<locals>.<lambda>" : Str)) ∈ tabsOf K) (hU : ∀ p ∈ tabsOf K, p.1 = Pt → p.2 = ("_law_right.<locals>.<lambda>" : Str)) : FnG P w K mg base 10 f fd ["pot"] (spD K mg 1 [0] false F__law_right) := by
  obtain ⟨_, i_BadTableText⟩ := T.i_BadTableText
  obtain ⟨_, _, _, hH⟩ := T.heard
  refine fn_dC Fn sc__law_right (fun _ _ => rfl) fun cdv hcd A outer s H E hr => ?_
  have hC : cdv = .ref c := hcd.symm.trans hc
  exact (dss_cons (ds_set (i := 1) sc__law_right.nd rfl (by first | exact Or.inl rfl | exact Or.inr rfl) (by decide) (de_callIO ((fd__law_signs T).mono (by decide)) hr (takes_of rfl rfl rfl rfl) rfl (da_cons (dxa 0) da_nil) (len_cons len_nil))) (dss_cons (ds_set (i := 2) sc__law_right.nd rfl (by first | exact Or.inl rfl | exact Or.inr rfl) (by decide) (de_callIO ((fd__law_table T).mono (by decide)) hr (takes_of rfl rfl rfl rfl) rfl (da_cons (dxa 0) (da_cons (dxa 1) (da_cons (dx_v (de_if (tcmp oc_lt (dx_v (de_ix (dx_v (de_ix (dxa 1) (dx_v de_int))) (dx_v de_int))) (dx_v de_int)) de_int de_int)) da_nil))) (len_cons (len_cons (len_cons len_nil))))) (dss_cons (ds_set (i := 3) sc__law_right.nd rfl (by first | exact Or.inl rfl | exact Or.inr rfl) (by decide) (dbin ob_add (dx_v (DF.de (df_lst (da_cons (dx_v (dbin ob_add (dx_v de_str) (dx_v (dstr T.b_str (da_cons (dx_v (de_ix (dxa 2) (dx_v de_int))) da_nil))))) da_nil)))) (dx_v (DF.de (df_lc rfl sc__law_right.nd (di_zip rfl T.b_zip (da_cons (dxa 1) (da_cons (dx_v (de_ix (dxa 2) (dx_v de_int))) da_nil))) (blkOk_by (own := [("name", 10), ("places", 11), ("row", 12)]) (by rfl)) rfl (fun _ _ _ _ _ => (dg_tup rfl (dgs_cons (dg_tup rfl (dgs_cons (dg_name sc__law_right.nd (i := 10) rfl (by first | exact Or.inl rfl | exact Or.inr rfl)) (dgs_cons (dg_name sc__law_right.nd (i := 11) rfl (by first | exact Or.inl rfl | exact Or.inr rfl)) dgs_nil))) (dgs_cons (dg_name sc__law_right.nd (i := 12) rfl (by first | exact Or.inl rfl | exact Or.inr rfl)) dgs_nil)))) (fun _ _ _ _ _ => dq_nil) (fun _ _ _ _ _ => (de_join de_str (dx_v (dbin ob_add (dx_v (DF.de (df_lst (da_cons (dxa 10) da_nil)))) (dx_v (DF.de (df_lc rfl sc__law_right.nd (di_seq (dv 12)) (blkOk_by (own := [("thing", 13)]) (by rfl)) rfl (fun _ _ _ _ _ => (dg_name sc__law_right.nd (i := 13) rfl (by first | exact Or.inl rfl | exact Or.inr rfl))) (fun _ _ _ _ _ => dq_nil) (fun _ _ _ _ _ => (dstr T.b_str (da_cons (dxa 13) da_nil))))))))))))))) (dss_cons (ds_if (DW.dt (dw_or (tcmp (oc_ne hr) (dx_v (drepr hr T.b_repr (da_cons (dx_v (de_callK ((fd_table_text T).mono (by decide)) hr (takes_of rfl rfl rfl rfl) rfl (dk_cons (dxa 1) (dk_cons (dxa 2) dk_nil)) (len_cons (len_cons len_nil)))) da_nil))) (dx_v (drepr hr T.b_repr (da_cons (dx_v (de_join de_str (dxa 3))) da_nil)))) (dw_or1 (dt_not (dt_val (de_call ((fd__law_is_read T).mono (by decide)) hr (takes_of rfl rfl rfl rfl) rfl (da_cons (dxa 1) (da_cons (dx_v (de_join de_str (dxa 3))) da_nil)) (len_cons (len_cons len_nil)))))))) (dss_one (ds_ret de_bl)) dss_nil) (dss_cons (ds_for passes rfl (di_range1 rfl T.b_range (da_cons (dx_v de_int) da_nil)) (dg_name sc__law_right.nd (i := 4) rfl (by first | exact Or.inl rfl | exact Or.inr rfl)) (by decide) (dss_cons (ds_set (i := 5) sc__law_right.nd rfl (by first | exact Or.inl rfl | exact Or.inr rfl) (by decide) (de_callIO ((fd__law_take T).mono (by decide)) hr (takes_of rfl rfl rfl rfl) rfl (da_cons (dxa 0) (da_cons (dx_v (dlen T.b_len (da_cons (dxa 3) da_nil))) da_nil)) (len_cons (len_cons len_nil)))) (dss_cons (ds_set (i := 6) sc__law_right.nd rfl (by first | exact Or.inl rfl | exact Or.inr rfl) (by decide) (de_callIO ((fd__law_of T).mono (by decide)) hr (takes_of rfl rfl rfl rfl) rfl (da_cons (dxa 0) (da_cons (dx_v (DF.de (df_lst (da_cons (dx_v de_str) (da_cons (dx_v de_str) (da_cons (dx_v de_str) (da_cons (dx_v de_str) (da_cons (dx_v de_str) (da_cons (dx_v de_str) (da_cons (dx_v (dbin ob_add (dx_v (de_ix (dxa 3) (dxa 5))) (dx_v de_str))) (da_cons (dx_v (dbin ob_add (dx_v (de_ix (dxa 3) (dxa 5))) (dx_v de_str))) (da_cons (dx_v (dbin ob_add (dx_v (de_sl (dx_v (de_ix (dxa 3) (dxa 5))) do_none (do_some (de_neg de_int)))) (dx_v de_str))) (da_cons (dx_v (de_sl (dx_v (de_ix (dxa 3) (dxa 5))) do_none (do_some (de_neg de_int)))) (da_cons (dx_v (dbin ob_add (dx_v de_str) (dx_v (de_ix (dxa 3) (dxa 5))))) da_nil)))))))))))))) da_nil)) (len_cons (len_cons len_nil)))) (dss_cons (ds_set (i := 7) sc__law_right.nd rfl (by first | exact Or.inl rfl | exact Or.inr rfl) (by decide) (de_callIO ((fd__law_of T).mono (by decide)) hr (takes_of rfl rfl rfl rfl) rfl (da_cons (dxa 0) (da_cons (dx_v (DF.de (df_lst (da_cons (dx_v (dbin ob_add (dx_v (de_sl (dxa 3) do_none (do_some (dv 5)))) (dx_v (de_sl (dxa 3) (do_some (dbin ob_add (dxa 5) (dx_v de_int))) do_none)))) (da_cons (dx_v (dbin ob_add (dx_v (de_sl (dxa 3) do_none (do_some (dbin ob_add (dxa 5) (dx_v de_int))))) (dx_v (de_sl (dxa 3) (do_some (dv 5)) do_none)))) (da_cons (dx_v (de_revL (dxa 3))) (da_cons (dx_v (dbin ob_add (dx_v (dbin ob_add (dx_v (de_sl (dxa 3) do_none (do_some (dv 5)))) (dx_v (DF.de (df_lst (da_cons (dxa 6) da_nil)))))) (dx_v (de_sl (dxa 3) (do_some (dbin ob_add (dxa 5) (dx_v de_int))) do_none)))) (da_cons (dx_v (dbin ob_add (dx_v (dbin ob_add (dx_v (de_sl (dxa 3) do_none (do_some (dv 5)))) (dx_v (DF.de (df_lst (da_cons (dxa 6) da_nil)))))) (dx_v (de_sl (dxa 3) (do_some (dv 5)) do_none)))) (da_cons (dx_v (dbin ob_add (dxa 3) (dx_v (DF.de (df_lst (da_cons (dxa 6) da_nil)))))) da_nil))))))))) da_nil)) (len_cons (len_cons len_nil)))) (dss_one (ds_if (dt_not (dt_val (de_call ((fd__law_is_read T).mono (by decide)) hr (takes_of rfl rfl rfl rfl) rfl (da_cons (dxa 1) (da_cons (dx_v (de_join de_str (dxa 7))) da_nil)) (len_cons (len_cons len_nil))))) (dss_one (ds_ret de_bl)) dss_nil)))))) (dss_cons (ds_set (i := 8) sc__law_right.nd rfl (by first | exact Or.inl rfl | exact Or.inr rfl) (by decide) (de_callIO ((fd__law_of T).mono (by decide)) hr (takes_of rfl rfl rfl rfl) rfl (da_cons (dxa 0) (da_cons (dx_v (DF.de (df_lst (da_cons (dx_v de_non) (da_cons (dx_v de_int) (da_cons (dx_v (de_tup (da_cons (dx_v de_str) da_nil))) (da_cons (dx_v (DF.de (df_lst (da_cons (dx_v (de_ix (dxa 3) (dx_v de_int))) da_nil)))) da_nil))))))) da_nil)) (len_cons (len_cons len_nil)))) (dss_cons (ds_set (i := 9) sc__law_right.nd rfl (by first | exact Or.inl rfl | exact Or.inr rfl) (by decide) (de_ix (dx_v (de_heard (k := 7) hH rfl (takes_of rfl rfl rfl rfl) hTB hC hM hU hr (lamS_by (by rfl)) rfl (fun _ _ _ _ _ => rfl) (fun _ _ _ _ _ _ _ hr => (de_call ((fd_read_table T).mono (by decide)) hr (takes_of rfl rfl rfl rfl) rfl (da_cons (dxa 1) (da_cons (dxa 8) da_nil)) (len_cons (len_cons len_nil)))))) (dx_v de_int))) (dss_one (ds_ret (de_and (de_isE i_BadTableText.2.1 i_BadTableText.2.2 T.b_isinstance i_BadTableText.1 (dv 9)) (de_one (dcmp (oc_eq hr) (dx_v (drepr hr T.b_repr (da_cons (dx_v (de_value T.v_errs (dv 9))) da_nil))) (dx_v de_str)))))))))))))
theorem fd__law_right (T : Txt P w K mg base) : FunD P w K mg base "_law_right" 10 ["pot"] [0] false F__law_right := by
  obtain ⟨f, fd, c, P, Fn, hm, hc, hTB, hM, hU⟩ := T.f__law_right
  exact fd_mk Fn hm (ok__law_right T Fn hc hTB hM hU) (fun _ _ _ _ _ _ us hl => match us, hl with | [_], _ => rfl) (fun _ _ _ _ _ _ us hl => match us, hl with | [_], _ => rfl)
theorem ok_law (T : Txt P w K mg base) {f : Addr} {fd : FuncData} (Fn : Fun K "law" "law" s_law f fd) : FnG P w K mg base 11 f fd ["script"] (spD K mg 1 [] false F_law) := by
  refine fn_d Fn sc_law (fun _ _ => rfl) fun cdv A outer s H E hr => ?_
  exact (dss_cons (ds_if (tcmp (oc_ne hr) (dx_v (drepr hr T.b_repr (da_cons (dx_v (de_call ((fd_table_text T).mono (by decide)) hr (takes_of rfl rfl rfl rfl) rfl (da_cons (dx_v (de_tup (da_cons (dx_v (de_tup (da_cons (dx_v de_str) (da_cons (dx_v de_int) da_nil)))) (da_cons (dx_v (de_tup (da_cons (dx_v de_str) (da_cons (dx_v de_int) da_nil)))) da_nil)))) (da_cons (dx_v (de_tup (da_cons (dx_v de_int) (da_cons (dx_v (de_tup (da_cons (dx_v (de_tup (da_cons (dx_v de_int) (da_cons (dx_v de_int) (da_cons (dx_v de_int) (da_cons (dx_v de_int) da_nil)))))) (da_cons (dx_v (de_tup (da_cons (dx_v de_int) da_nil))) da_nil)))) da_nil)))) da_nil)) (len_cons (len_cons len_nil)))) da_nil))) (dx_v (drepr hr T.b_repr (da_cons (dx_v de_str) da_nil)))) (dss_one (ds_ret de_bl)) dss_nil) (dss_cons (ds_for passes rfl (di_seq (de_call ((fd__law_cells T).mono (by decide)) hr (takes_of rfl rfl rfl rfl) rfl (da_cons (dxa 0) (da_cons (dx_v de_int) da_nil)) (len_cons (len_cons len_nil)))) (dg_name sc_law.nd (i := 1) rfl (by first | exact Or.inl rfl | exact Or.inr rfl)) (by decide) (dss_cons (ds_setF (i := 2) sc_law.nd rfl (by first | exact Or.inl rfl | exact Or.inr rfl) (by decide) (df_call ((fd__law_pot T).mono (by decide)) hr (takes_of rfl rfl rfl rfl) rfl (da_cons (dxa 0) (da_cons (dxa 1) da_nil)) (len_cons (len_cons len_nil)))) (dss_one (ds_if (dt_not (dt_val (dall rfl T.b_all (da_cons (dx_v (DF.de (df_lc rfl sc_law.nd (di_range1 rfl T.b_range (da_cons (dx_v de_int) da_nil)) (blkOk_by (own := [("lap", 3)]) (by rfl)) rfl (fun _ _ _ _ _ => (dg_name sc_law.nd (i := 3) rfl (by first | exact Or.inl rfl | exact Or.inr rfl))) (fun _ _ _ _ _ => dq_nil) (fun _ _ _ _ _ => (de_callIO ((fd__law_right T).mono (by decide)) hr takesNo rfl (da_cons (dxa 2) da_nil) (len_cons len_nil)))))) da_nil)))) (dss_one (ds_ret de_bl)) dss_nil)))) (dss_one (ds_ret de_bl))))
theorem fd_law (T : Txt P w K mg base) : FunD P w K mg base "law" 11 ["script"] [] false F_law := by
  obtain ⟨f, fd, Fn, hm⟩ := T.f_law
  exact fd_mk Fn hm (ok_law T Fn) (fun _ _ _ _ _ _ us hl => match us, hl with | [_], _ => rfl) (fun _ _ _ _ _ _ us hl => match us, hl with | [_], _ => rfl)
end
end G08
set_option Elab.async false
set_option linter.all false
set_option maxRecDepth 100000
set_option maxHeartbeats 1000000
namespace DL
open PySem PySem.Spec L2
/-! ### facts of the written part -/
section
variable {P : Program} {K : PySem.W.Frag} {mg : Mg} {h : Heap} {x : Str}
theorem f_mk {st : Stmt} {f : Addr} {oc : Value} {od an : Option Addr} {osl : Array (Option Value)} {kV doc pm cdv ct : Value} (X : K.In h) (G : h.Ns mainGlobals mg) (a : PySem.W.nsIn K mainGlobals x = some (some (.ref f)))
    (l : K.lookup f = some ⟨oc, od, .func (PySem.W.fnOf x x (defArgs st) (defBody st) (defScope st) .none kV doc pm an cdv ct), osl⟩) (c : PySem.W.codeIn K cdv x = true) (k : PySem.W.keepIn K (.ref f) = true) : ∃ f fd, Fun K x x st f fd ∧ mg x = some (.ref f) :=
  ⟨_, _, fun_mk l c k, PySem.W.mg_of X G a⟩
theorem f_mkC {base : Heap} {st : Stmt} {f c0 P0 : Addr} {q : Str} {oc : Value} {od an : Option Addr} {osl : Array (Option Value)} {kV doc pm ct : Value} (X : K.In h) (G : h.Ns mainGlobals mg) (a : PySem.W.nsIn K mainGlobals x = some (some (.ref f)))
    (l : K.lookup f = some ⟨oc, od, .func (PySem.W.fnOf x x (defArgs st) (defBody st) (defScope st) .none kV doc pm an (.ref c0) ct), osl⟩) (c : PySem.W.codeIn K (.ref c0) x = true) (k : PySem.W.keepIn K (.ref f) = true)
    (TB : LamX.TabB base mg c0 P0) (hm : (P0, q) ∈ tabsOf K) (hu : ∀ p ∈ tabsOf K, p.1 = P0 → p.2 = q) : ∃ f fd c P, Fun K x x st f fd ∧ mg x = some (.ref f) ∧ fd.code = .ref c ∧ LamX.TabB base mg c P ∧ (P, q) ∈ tabsOf K ∧ ∀ p ∈ tabsOf K, p.1 = P → p.2 = q :=
  ⟨_, _, _, _, fun_mk l c k, PySem.W.mg_of X G a, rfl, TB, hm, hu⟩
theorem gc_int {n : Int} {t : Tok} (X : K.In h) (G : h.Ns mainGlobals mg) (a : PySem.W.nsIn K mainGlobals x = some (some (.int n t))) : GC K mg x (.int n) := ⟨.int n, .int n t, PySem.W.mg_of X G a, ⟨t, rfl⟩, fun _ _ => .int n⟩
theorem gc_str {y : Str} {t : Tok} (X : K.In h) (G : h.Ns mainGlobals mg) (a : PySem.W.nsIn K mainGlobals x = some (some (.str y t))) : GC K mg x (.str y) := ⟨.str y, .str y t, PySem.W.mg_of X G a, ⟨t, rfl⟩, fun _ _ => .str y⟩
theorem gc_tupS {p : Addr} {ys : List Str} {od : Option Addr} {its : Array Value} {n : Nat} {sl : Array (Option Value)} (X : K.In h) (G : h.Ns mainGlobals mg) (a : PySem.W.nsIn K mainGlobals x = some (some (.ref p))) (l : K.lookup p = some ⟨.type "tuple", od, .seq its n, sl⟩)
    (r : Vals (ys.map V.str) its.toList) (z : its.size ≤ sizeLine) : GC K mg x (.tup (ys.map D.str)) :=
  ⟨.ref p, .ref p, PySem.W.mg_of X G a, rfl, fun H W => .tup (.inr ⟨_, its, n, l, rfl, rfl, z, r⟩) (by rw [r.length, Array.length_toList]; exact z) (RpL.of_strs ys)⟩
theorem gc_tupI {p : Addr} {ys : List Int} {od : Option Addr} {its : Array Value} {n : Nat} {sl : Array (Option Value)} (X : K.In h) (G : h.Ns mainGlobals mg) (a : PySem.W.nsIn K mainGlobals x = some (some (.ref p))) (l : K.lookup p = some ⟨.type "tuple", od, .seq its n, sl⟩)
    (r : Vals (ys.map V.int) its.toList) (z : its.size ≤ sizeLine) : GC K mg x (.tup (ys.map D.int)) :=
  ⟨.ref p, .ref p, PySem.W.mg_of X G a, rfl, fun H W => .tup (.inr ⟨_, its, n, l, rfl, rfl, z, r⟩) (by rw [r.length, Array.length_toList]; exact z) (RpL.of_ints ys)⟩
end
end DL
set_option Elab.async false
set_option linter.all false
set_option maxRecDepth 100000
set_option maxHeartbeats 4000000
namespace G08
open PySem PySem.Spec L2 DL LamX
theorem all_mk {w : World} {K : PySem.W.Frag} {h : Heap} {mg : Mg} {fa : Addr} {tk_BLANK : Tok} {tk_FEED : Tok} {tk_FIGURES : Tok} {tk_LETTERS : Tok} {tk_MOST_NAMES : Tok} {tk_MOST_PLACES : Tok} {tk_MOST_SIGNS : Tok} {tk_MOST_THINGS : Tok} {tk_THINGS : Tok} {p_VARIABLES : Addr} {od_VARIABLES : Option Addr} {n_VARIABLES : Nat} {sl_VARIABLES : Array (Option Value)} {tk_VARIABLES_0 : Tok} {tk_VARIABLES_1 : Tok} {tk_VARIABLES_2 : Tok} {tk_VARIABLES_3 : Tok} {tk_VARIABLES_4 : Tok} {tk_VARIABLES_5 : Tok} {f0 cda cc : Addr} {oc0 dc0 pm0 ct0 ccl0 cl0 : Value} {od0 an0 cdd0 cld0 : Option Addr} {sl0 ccs0 csl0 : Array (Option Value)} {vs0 : Array Value} {file0 : Str} {tf0 : Tok} {C_EquationError N_EquationError : Addr} {nm_EquationError q_EquationError : Str} {bs_EquationError sub_EquationError : List Value} {sn_EquationError : List Str} {ab_EquationError : Bool} {col_EquationError : Option Bool} {dd_EquationError : Option Addr} {k0_EquationError k1_EquationError k2_EquationError k3_EquationError k5_EquationError : Option Value} {C_BadSigns N_BadSigns : Addr} {nm_BadSigns q_BadSigns : Str} {bs_BadSigns sub_BadSigns : List Value} {sn_BadSigns : List Str} {ab_BadSigns : Bool} {col_BadSigns : Option Bool} {dd_BadSigns : Option Addr} {k0_BadSigns k1_BadSigns k2_BadSigns k3_BadSigns k5_BadSigns : Option Value} {C_BadTable N_BadTable : Addr} {nm_BadTable q_BadTable : Str} {bs_BadTable sub_BadTable : List Value} {sn_BadTable : List Str} {ab_BadTable : Bool} {col_BadTable : Option Bool} {dd_BadTable : Option Addr} {k0_BadTable k1_BadTable k2_BadTable k3_BadTable k5_BadTable : Option Value} {C_BadTableText N_BadTableText : Addr} {nm_BadTableText q_BadTableText : Str} {bs_BadTableText sub_BadTableText : List Value} {sn_BadTableText : List Str} {ab_BadTableText : Bool} {col_BadTableText : Option Bool} {dd_BadTableText : Option Addr} {k0_BadTableText k1_BadTableText k2_BadTableText k3_BadTableText k5_BadTableText : Option Value} {f_is_integer : Addr} {oc_is_integer kV_is_integer dc_is_integer pm_is_integer ct_is_integer : Value} {od_is_integer an_is_integer : Option Addr} {sl_is_integer : Array (Option Value)} {cd_is_integer : Value} {f_is_between : Addr} {oc_is_between kV_is_between dc_is_between pm_is_between ct_is_between : Value} {od_is_between an_is_between : Option Addr} {sl_is_between : Array (Option Value)} {cd_is_between : Value} {f_are_between : Addr} {oc_are_between kV_are_between dc_are_between pm_are_between ct_are_between : Value} {od_are_between an_are_between : Option Addr} {sl_are_between : Array (Option Value)} {cd_are_between : Value} {f_is_name : Addr} {oc_is_name kV_is_name dc_is_name pm_is_name ct_is_name : Value} {od_is_name an_is_name : Option Addr} {sl_is_name : Array (Option Value)} {cd_is_name : Value} {f_power : Addr} {oc_power kV_power dc_power pm_power ct_power : Value} {od_power an_power : Option Addr} {sl_power : Array (Option Value)} {cd_power : Value} {f_is_sign : Addr} {oc_is_sign kV_is_sign dc_is_sign pm_is_sign ct_is_sign : Value} {od_is_sign an_is_sign : Option Addr} {sl_is_sign : Array (Option Value)} {cd_is_sign : Value} {f_is_signs : Addr} {oc_is_signs kV_is_signs dc_is_signs pm_is_signs ct_is_signs : Value} {od_is_signs an_is_signs : Option Addr} {sl_is_signs : Array (Option Value)} {cd_is_signs : Value} {f_check_signs : Addr} {oc_check_signs kV_check_signs dc_check_signs pm_check_signs ct_check_signs : Value} {od_check_signs an_check_signs : Option Addr} {sl_check_signs : Array (Option Value)} {cd_check_signs : Value} {f_is_size : Addr} {oc_is_size kV_is_size dc_is_size pm_is_size ct_is_size : Value} {od_is_size an_is_size : Option Addr} {sl_is_size : Array (Option Value)} {cd_is_size : Value} {f_is_table_of : Addr} {oc_is_table_of kV_is_table_of dc_is_table_of pm_is_table_of ct_is_table_of : Value} {od_is_table_of an_is_table_of : Option Addr} {sl_is_table_of : Array (Option Value)} {cd_is_table_of : Value} {f_check_its_table : Addr} {oc_check_its_table kV_check_its_table dc_check_its_table pm_check_its_table ct_check_its_table : Value} {od_check_its_table an_check_its_table : Option Addr} {sl_check_its_table : Array (Option Value)} {cd_check_its_table : Value} {f_check_table : Addr} {oc_check_table kV_check_table dc_check_table pm_check_table ct_check_table : Value} {od_check_table an_check_table : Option Addr} {sl_check_table : Array (Option Value)} {cd_check_table : Value} {f_table_lines : Addr} {oc_table_lines kV_table_lines dc_table_lines pm_table_lines ct_table_lines : Value} {od_table_lines an_table_lines : Option Addr} {sl_table_lines : Array (Option Value)} {cd_table_lines : Value} {f_table_text : Addr} {oc_table_text kV_table_text dc_table_text pm_table_text ct_table_text : Value} {od_table_text an_table_text : Option Addr} {sl_table_text : Array (Option Value)} {cd_table_text : Value} {f_thing_in : Addr} {oc_thing_in kV_thing_in dc_thing_in pm_thing_in ct_thing_in : Value} {od_thing_in an_thing_in : Option Addr} {sl_thing_in : Array (Option Value)} {cd_thing_in : Value} {f_row_in : Addr} {oc_row_in kV_row_in dc_row_in pm_row_in ct_row_in : Value} {od_row_in an_row_in : Option Addr} {sl_row_in : Array (Option Value)} {cd_row_in : Value} {f_things_in : Addr} {oc_things_in kV_things_in dc_things_in pm_things_in ct_things_in : Value} {od_things_in an_things_in : Option Addr} {sl_things_in : Array (Option Value)} {cd_things_in : Value} {f_read_table : Addr} {oc_read_table kV_read_table dc_read_table pm_read_table ct_read_table : Value} {od_read_table an_read_table : Option Addr} {sl_read_table : Array (Option Value)} {cd_read_table : Value} {f__law_pot : Addr} {oc__law_pot kV__law_pot dc__law_pot pm__law_pot ct__law_pot : Value} {od__law_pot an__law_pot : Option Addr} {sl__law_pot : Array (Option Value)} {cd__law_pot : Value} {f__law_take : Addr} {oc__law_take kV__law_take dc__law_take pm__law_take ct__law_take : Value} {od__law_take an__law_take : Option Addr} {sl__law_take : Array (Option Value)} {cd__law_take : Value} {f__law_of : Addr} {oc__law_of kV__law_of dc__law_of pm__law_of ct__law_of : Value} {od__law_of an__law_of : Option Addr} {sl__law_of : Array (Option Value)} {cd__law_of : Value} {f__law_cells : Addr} {oc__law_cells kV__law_cells dc__law_cells pm__law_cells ct__law_cells : Value} {od__law_cells an__law_cells : Option Addr} {sl__law_cells : Array (Option Value)} {cd__law_cells : Value} {f__law_signs : Addr} {oc__law_signs kV__law_signs dc__law_signs pm__law_signs ct__law_signs : Value} {od__law_signs an__law_signs : Option Addr} {sl__law_signs : Array (Option Value)} {cd__law_signs : Value} {f__law_rows : Addr} {oc__law_rows kV__law_rows dc__law_rows pm__law_rows ct__law_rows : Value} {od__law_rows an__law_rows : Option Addr} {sl__law_rows : Array (Option Value)} {cd__law_rows : Value} {f__law_known_row : Addr} {oc__law_known_row kV__law_known_row dc__law_known_row pm__law_known_row ct__law_known_row : Value} {od__law_known_row an__law_known_row : Option Addr} {sl__law_known_row : Array (Option Value)} {cd__law_known_row : Value} {f__law_table : Addr} {oc__law_table kV__law_table dc__law_table pm__law_table ct__law_table : Value} {od__law_table an__law_table : Option Addr} {sl__law_table : Array (Option Value)} {cd__law_table : Value} {f__law_line : Addr} {oc__law_line kV__law_line dc__law_line pm__law_line ct__law_line : Value} {od__law_line an__law_line : Option Addr} {sl__law_line : Array (Option Value)} {cd__law_line : Value} {f__law_is_read : Addr} {oc__law_is_read kV__law_is_read dc__law_is_read pm__law_is_read ct__law_is_read : Value} {od__law_is_read an__law_is_read : Option Addr} {sl__law_is_read : Array (Option Value)} {cd__law_is_read P__law_is_read : Addr} {w__law_is_read : Array Value} {e1__law_is_read : Value} {e2__law_is_read : Option Addr} {e3__law_is_read : Array (Option Value)} {f__law_right : Addr} {oc__law_right kV__law_right dc__law_right pm__law_right ct__law_right : Value} {od__law_right an__law_right : Option Addr} {sl__law_right : Array (Option Value)} {cd__law_right P__law_right : Addr} {w__law_right : Array Value} {e1__law_right : Value} {e2__law_right : Option Addr} {e3__law_right : Array (Option Value)} {f_law : Addr} {oc_law kV_law dc_law pm_law ct_law : Value} {od_law an_law : Option Addr} {sl_law : Array (Option Value)} {cd_law : Value} {f__law_heard : Addr} {oc__law_heard kV__law_heard dc__law_heard pm__law_heard ct__law_heard : Value} {od__law_heard an__law_heard : Option Addr} {sl__law_heard : Array (Option Value)} {cd__law_heard : Value}
    (X : K.In h) (G : h.Ns mainGlobals mg) (hfa : mg "law" = some (.ref fa)) (plain : ∀ ns : List Int, ns.length ≤ 63 → (∀ z ∈ ns, Builtin.Int.intBits z ≤ 1048576) → F_law [.kl (ns.map .int)] = .ok (.bl true) [])
    (b_abs : PySem.W.nsIn K mainGlobals "abs" = some none)
    (b_all : PySem.W.nsIn K mainGlobals "all" = some none)
    (b_bool : PySem.W.nsIn K mainGlobals "bool" = some none)
    (b_enumerate : PySem.W.nsIn K mainGlobals "enumerate" = some none)
    (b_int : PySem.W.nsIn K mainGlobals "int" = some none)
    (b_isinstance : PySem.W.nsIn K mainGlobals "isinstance" = some none)
    (b_len : PySem.W.nsIn K mainGlobals "len" = some none)
    (b_list : PySem.W.nsIn K mainGlobals "list" = some none)
    (b_max : PySem.W.nsIn K mainGlobals "max" = some none)
    (b_min : PySem.W.nsIn K mainGlobals "min" = some none)
    (b_range : PySem.W.nsIn K mainGlobals "range" = some none)
    (b_repr : PySem.W.nsIn K mainGlobals "repr" = some none)
    (b_set : PySem.W.nsIn K mainGlobals "set" = some none)
    (b_sorted : PySem.W.nsIn K mainGlobals "sorted" = some none)
    (b_str : PySem.W.nsIn K mainGlobals "str" = some none)
    (b_sum : PySem.W.nsIn K mainGlobals "sum" = some none)
    (b_tuple : PySem.W.nsIn K mainGlobals "tuple" = some none)
    (b_zip : PySem.W.nsIn K mainGlobals "zip" = some none)
    (c_BLANK : PySem.W.nsIn K mainGlobals "BLANK" = some (some (.str (" " : Str) tk_BLANK)))
    (c_FEED : PySem.W.nsIn K mainGlobals "FEED" = some (some (.str ("\n" : Str) tk_FEED)))
    (c_FIGURES : PySem.W.nsIn K mainGlobals "FIGURES" = some (some (.str ("0123456789" : Str) tk_FIGURES)))
    (c_LETTERS : PySem.W.nsIn K mainGlobals "LETTERS" = some (some (.str ("abcdefghijklmnopqrstuvwxyz" : Str) tk_LETTERS)))
    (c_MOST_NAMES : PySem.W.nsIn K mainGlobals "MOST_NAMES" = some (some (.int 4 tk_MOST_NAMES)))
    (c_MOST_PLACES : PySem.W.nsIn K mainGlobals "MOST_PLACES" = some (some (.int 3 tk_MOST_PLACES)))
    (c_MOST_SIGNS : PySem.W.nsIn K mainGlobals "MOST_SIGNS" = some (some (.int 8 tk_MOST_SIGNS)))
    (c_MOST_THINGS : PySem.W.nsIn K mainGlobals "MOST_THINGS" = some (some (.int 6 tk_MOST_THINGS)))
    (c_THINGS : PySem.W.nsIn K mainGlobals "THINGS" = some (some (.str ("things" : Str) tk_THINGS)))
    (c_VARIABLES : PySem.W.nsIn K mainGlobals "VARIABLES" = some (some (.ref p_VARIABLES)))
    (l_VARIABLES : K.lookup p_VARIABLES = some ⟨.type "tuple", od_VARIABLES, .seq #[.str ("u" : Str) tk_VARIABLES_0, .str ("v" : Str) tk_VARIABLES_1, .str ("w" : Str) tk_VARIABLES_2, .str ("x" : Str) tk_VARIABLES_3, .str ("y" : Str) tk_VARIABLES_4, .str ("z" : Str) tk_VARIABLES_5] n_VARIABLES, sl_VARIABLES⟩)
    (a_EquationError : PySem.W.nsIn K mainGlobals "EquationError" = some (some (.ref C_EquationError)))
    (a_BadSigns : PySem.W.nsIn K mainGlobals "BadSigns" = some (some (.ref C_BadSigns)))
    (a_BadTable : PySem.W.nsIn K mainGlobals "BadTable" = some (some (.ref C_BadTable)))
    (a_BadTableText : PySem.W.nsIn K mainGlobals "BadTableText" = some (some (.ref C_BadTableText)))
    (x_EquationError : K.lookup C_EquationError = some (excClassObj nm_EquationError q_EquationError C_EquationError N_EquationError bs_EquationError [.type "ValueError", .type "Exception", .type "BaseException", .type "object"] true sn_EquationError sub_EquationError ab_EquationError col_EquationError dd_EquationError k0_EquationError k1_EquationError k2_EquationError k3_EquationError k5_EquationError "ValueError.__new__"))
    (sa_EquationError : PySem.W.findIn K (.ref C_EquationError) "__setattr__" = some (some (.builtin "object.__setattr__")))
    (ga_EquationError : PySem.W.findIn K (.ref C_EquationError) "__getattribute__" = some (some (.builtin "BaseException.__getattribute__")))
    (gg_EquationError : PySem.W.findIn K (.ref C_EquationError) "__getattr__" = some none)
    (no_EquationError : PySem.W.findIn K (.ref C_EquationError) "value" = some none)
    (i_EquationError : PySem.W.findIn K (.ref C_EquationError) "__init__" = some (some (.ref f0)))
    (kC_EquationError : PySem.W.keepIn K (.ref C_EquationError) = true)
    (eC_EquationError : PySem.W.subIn K (.ref C_EquationError) (.type "BaseException") = some true)
    (tC_EquationError : PySem.W.typeIn K (.ref C_EquationError) = some (.type "type"))
    (hC_EquationError : PySem.W.hasDictIn K C_EquationError = true)
    (su_EquationError : PySem.W.ks_superIn K C_EquationError C_EquationError "__init__" = some (some (.builtin "ValueError.__init__")))
    (hB_EquationError : PySem.W.subIn K (.ref C_EquationError) (.type "ValueError") = some true)
    (hs_EquationError : PySem.W.mroIn K C_EquationError (.ref C_EquationError) = some true)
    (cl_EquationError : (PySem.W.clsIn K C_EquationError).isSome = true)
    (cc_EquationError : PySem.W.findIn K (.ref C_EquationError) "__class__" = some (some (.builtin "object.__class__")))
    (mo_EquationError : PySem.W.mroIn K C_EquationError (.type "object") = some true)
    (xm_EquationError : PySem.W.exmOne K (.ref C_EquationError) (.ref C_EquationError) = some true)
    (ki_EquationError_BadTableText : PySem.W.kitOne K (.ref C_EquationError) (.ref C_BadTableText) = some false)
    (x_BadSigns : K.lookup C_BadSigns = some (excClassObj nm_BadSigns q_BadSigns C_BadSigns N_BadSigns bs_BadSigns [.ref C_EquationError, .type "ValueError", .type "Exception", .type "BaseException", .type "object"] true sn_BadSigns sub_BadSigns ab_BadSigns col_BadSigns dd_BadSigns k0_BadSigns k1_BadSigns k2_BadSigns k3_BadSigns k5_BadSigns "ValueError.__new__"))
    (sa_BadSigns : PySem.W.findIn K (.ref C_BadSigns) "__setattr__" = some (some (.builtin "object.__setattr__")))
    (ga_BadSigns : PySem.W.findIn K (.ref C_BadSigns) "__getattribute__" = some (some (.builtin "BaseException.__getattribute__")))
    (gg_BadSigns : PySem.W.findIn K (.ref C_BadSigns) "__getattr__" = some none)
    (no_BadSigns : PySem.W.findIn K (.ref C_BadSigns) "value" = some none)
    (i_BadSigns : PySem.W.findIn K (.ref C_BadSigns) "__init__" = some (some (.ref f0)))
    (kC_BadSigns : PySem.W.keepIn K (.ref C_BadSigns) = true)
    (eC_BadSigns : PySem.W.subIn K (.ref C_BadSigns) (.type "BaseException") = some true)
    (tC_BadSigns : PySem.W.typeIn K (.ref C_BadSigns) = some (.type "type"))
    (hC_BadSigns : PySem.W.hasDictIn K C_BadSigns = true)
    (su_BadSigns : PySem.W.ks_superIn K C_BadSigns C_EquationError "__init__" = some (some (.builtin "ValueError.__init__")))
    (hB_BadSigns : PySem.W.subIn K (.ref C_BadSigns) (.type "ValueError") = some true)
    (hs_BadSigns : PySem.W.mroIn K C_BadSigns (.ref C_EquationError) = some true)
    (cl_BadSigns : (PySem.W.clsIn K C_BadSigns).isSome = true)
    (cc_BadSigns : PySem.W.findIn K (.ref C_BadSigns) "__class__" = some (some (.builtin "object.__class__")))
    (mo_BadSigns : PySem.W.mroIn K C_BadSigns (.type "object") = some true)
    (xm_BadSigns : PySem.W.exmOne K (.ref C_BadSigns) (.ref C_EquationError) = some true)
    (ki_BadSigns_BadTableText : PySem.W.kitOne K (.ref C_BadSigns) (.ref C_BadTableText) = some false)
    (x_BadTable : K.lookup C_BadTable = some (excClassObj nm_BadTable q_BadTable C_BadTable N_BadTable bs_BadTable [.ref C_EquationError, .type "ValueError", .type "Exception", .type "BaseException", .type "object"] true sn_BadTable sub_BadTable ab_BadTable col_BadTable dd_BadTable k0_BadTable k1_BadTable k2_BadTable k3_BadTable k5_BadTable "ValueError.__new__"))
    (sa_BadTable : PySem.W.findIn K (.ref C_BadTable) "__setattr__" = some (some (.builtin "object.__setattr__")))
    (ga_BadTable : PySem.W.findIn K (.ref C_BadTable) "__getattribute__" = some (some (.builtin "BaseException.__getattribute__")))
    (gg_BadTable : PySem.W.findIn K (.ref C_BadTable) "__getattr__" = some none)
    (no_BadTable : PySem.W.findIn K (.ref C_BadTable) "value" = some none)
    (i_BadTable : PySem.W.findIn K (.ref C_BadTable) "__init__" = some (some (.ref f0)))
    (kC_BadTable : PySem.W.keepIn K (.ref C_BadTable) = true)
    (eC_BadTable : PySem.W.subIn K (.ref C_BadTable) (.type "BaseException") = some true)
    (tC_BadTable : PySem.W.typeIn K (.ref C_BadTable) = some (.type "type"))
    (hC_BadTable : PySem.W.hasDictIn K C_BadTable = true)
    (su_BadTable : PySem.W.ks_superIn K C_BadTable C_EquationError "__init__" = some (some (.builtin "ValueError.__init__")))
    (hB_BadTable : PySem.W.subIn K (.ref C_BadTable) (.type "ValueError") = some true)
    (hs_BadTable : PySem.W.mroIn K C_BadTable (.ref C_EquationError) = some true)
    (cl_BadTable : (PySem.W.clsIn K C_BadTable).isSome = true)
    (cc_BadTable : PySem.W.findIn K (.ref C_BadTable) "__class__" = some (some (.builtin "object.__class__")))
    (mo_BadTable : PySem.W.mroIn K C_BadTable (.type "object") = some true)
    (xm_BadTable : PySem.W.exmOne K (.ref C_BadTable) (.ref C_EquationError) = some true)
    (ki_BadTable_BadTableText : PySem.W.kitOne K (.ref C_BadTable) (.ref C_BadTableText) = some false)
    (x_BadTableText : K.lookup C_BadTableText = some (excClassObj nm_BadTableText q_BadTableText C_BadTableText N_BadTableText bs_BadTableText [.ref C_EquationError, .type "ValueError", .type "Exception", .type "BaseException", .type "object"] true sn_BadTableText sub_BadTableText ab_BadTableText col_BadTableText dd_BadTableText k0_BadTableText k1_BadTableText k2_BadTableText k3_BadTableText k5_BadTableText "ValueError.__new__"))
    (sa_BadTableText : PySem.W.findIn K (.ref C_BadTableText) "__setattr__" = some (some (.builtin "object.__setattr__")))
    (ga_BadTableText : PySem.W.findIn K (.ref C_BadTableText) "__getattribute__" = some (some (.builtin "BaseException.__getattribute__")))
    (gg_BadTableText : PySem.W.findIn K (.ref C_BadTableText) "__getattr__" = some none)
    (no_BadTableText : PySem.W.findIn K (.ref C_BadTableText) "value" = some none)
    (i_BadTableText : PySem.W.findIn K (.ref C_BadTableText) "__init__" = some (some (.ref f0)))
    (kC_BadTableText : PySem.W.keepIn K (.ref C_BadTableText) = true)
    (eC_BadTableText : PySem.W.subIn K (.ref C_BadTableText) (.type "BaseException") = some true)
    (tC_BadTableText : PySem.W.typeIn K (.ref C_BadTableText) = some (.type "type"))
    (hC_BadTableText : PySem.W.hasDictIn K C_BadTableText = true)
    (su_BadTableText : PySem.W.ks_superIn K C_BadTableText C_EquationError "__init__" = some (some (.builtin "ValueError.__init__")))
    (hB_BadTableText : PySem.W.subIn K (.ref C_BadTableText) (.type "ValueError") = some true)
    (hs_BadTableText : PySem.W.mroIn K C_BadTableText (.ref C_EquationError) = some true)
    (cl_BadTableText : (PySem.W.clsIn K C_BadTableText).isSome = true)
    (cc_BadTableText : PySem.W.findIn K (.ref C_BadTableText) "__class__" = some (some (.builtin "object.__class__")))
    (mo_BadTableText : PySem.W.mroIn K C_BadTableText (.type "object") = some true)
    (xm_BadTableText : PySem.W.exmOne K (.ref C_BadTableText) (.ref C_EquationError) = some true)
    (ki_BadTableText_BadTableText : PySem.W.kitOne K (.ref C_BadTableText) (.ref C_BadTableText) = some true)
    (kn_BadTableText : PySem.W.kitOne K (.type "NoneType") (.ref C_BadTableText) = some false)
    (tf : PySem.W.typeIn K (.ref f0) = some (.type "function"))
    (opq : PySem.W.nsIn K cStatics "thirdparty.any" = some none)
    (noS : PySem.W.nsIn K mainGlobals "super" = some none)
    (l0 : K.lookup f0 = some ⟨oc0, od0, .func (PySem.W.ksFn "__init__" "EquationError.__init__" PySem.DErr.iA PySem.DErr.iB PySem.DErr.iS .none .none dc0 pm0 an0 (.ref cda) ct0 cc), sl0⟩)
    (c0 : PySem.W.codeIn K (.ref cda) "EquationError.__init__" = true)
    (lc0 : K.lookup cda = some ⟨ccl0, cdd0, .fields vs0, ccs0⟩)
    (lcc : K.lookup cc = some ⟨cl0, cld0, .cell (some (.ref C_EquationError)), csl0⟩)
    (v2 : vs0[2]? = some (.str file0 tf0))
    (hfile : ((PySem.Challenge.pw_whatequationssay_k08_whole_tables_as_tex.main.file : Str) == file0) = true)
    (gsp : PySem.W.specialIn K (.builtin "object.__class__") "__get__" = some (some (.builtin "getset_descriptor.__get__")))
    (tkn : PySem.W.takesIn K (.builtin "object.__class__") = some true)
    (n_is_integer : PySem.W.nsIn K mainGlobals "is_integer" = some (some (.ref f_is_integer)))
    (l_is_integer : K.lookup f_is_integer = some ⟨oc_is_integer, od_is_integer, .func (PySem.W.fnOf "is_integer" "is_integer" (defArgs s_is_integer) (defBody s_is_integer) (defScope s_is_integer) .none kV_is_integer dc_is_integer pm_is_integer an_is_integer cd_is_integer ct_is_integer), sl_is_integer⟩)
    (d_is_integer : PySem.W.codeIn K cd_is_integer "is_integer" = true)
    (k_is_integer : PySem.W.keepIn K (.ref f_is_integer) = true)
    (n_is_between : PySem.W.nsIn K mainGlobals "is_between" = some (some (.ref f_is_between)))
    (l_is_between : K.lookup f_is_between = some ⟨oc_is_between, od_is_between, .func (PySem.W.fnOf "is_between" "is_between" (defArgs s_is_between) (defBody s_is_between) (defScope s_is_between) .none kV_is_between dc_is_between pm_is_between an_is_between cd_is_between ct_is_between), sl_is_between⟩)
    (d_is_between : PySem.W.codeIn K cd_is_between "is_between" = true)
    (k_is_between : PySem.W.keepIn K (.ref f_is_between) = true)
    (n_are_between : PySem.W.nsIn K mainGlobals "are_between" = some (some (.ref f_are_between)))
    (l_are_between : K.lookup f_are_between = some ⟨oc_are_between, od_are_between, .func (PySem.W.fnOf "are_between" "are_between" (defArgs s_are_between) (defBody s_are_between) (defScope s_are_between) .none kV_are_between dc_are_between pm_are_between an_are_between cd_are_between ct_are_between), sl_are_between⟩)
    (d_are_between : PySem.W.codeIn K cd_are_between "are_between" = true)
    (k_are_between : PySem.W.keepIn K (.ref f_are_between) = true)
    (n_is_name : PySem.W.nsIn K mainGlobals "is_name" = some (some (.ref f_is_name)))
    (l_is_name : K.lookup f_is_name = some ⟨oc_is_name, od_is_name, .func (PySem.W.fnOf "is_name" "is_name" (defArgs s_is_name) (defBody s_is_name) (defScope s_is_name) .none kV_is_name dc_is_name pm_is_name an_is_name cd_is_name ct_is_name), sl_is_name⟩)
    (d_is_name : PySem.W.codeIn K cd_is_name "is_name" = true)
    (k_is_name : PySem.W.keepIn K (.ref f_is_name) = true)
    (n_power : PySem.W.nsIn K mainGlobals "power" = some (some (.ref f_power)))
    (l_power : K.lookup f_power = some ⟨oc_power, od_power, .func (PySem.W.fnOf "power" "power" (defArgs s_power) (defBody s_power) (defScope s_power) .none kV_power dc_power pm_power an_power cd_power ct_power), sl_power⟩)
    (d_power : PySem.W.codeIn K cd_power "power" = true)
    (k_power : PySem.W.keepIn K (.ref f_power) = true)
    (n_is_sign : PySem.W.nsIn K mainGlobals "is_sign" = some (some (.ref f_is_sign)))
    (l_is_sign : K.lookup f_is_sign = some ⟨oc_is_sign, od_is_sign, .func (PySem.W.fnOf "is_sign" "is_sign" (defArgs s_is_sign) (defBody s_is_sign) (defScope s_is_sign) .none kV_is_sign dc_is_sign pm_is_sign an_is_sign cd_is_sign ct_is_sign), sl_is_sign⟩)
    (d_is_sign : PySem.W.codeIn K cd_is_sign "is_sign" = true)
    (k_is_sign : PySem.W.keepIn K (.ref f_is_sign) = true)
    (n_is_signs : PySem.W.nsIn K mainGlobals "is_signs" = some (some (.ref f_is_signs)))
    (l_is_signs : K.lookup f_is_signs = some ⟨oc_is_signs, od_is_signs, .func (PySem.W.fnOf "is_signs" "is_signs" (defArgs s_is_signs) (defBody s_is_signs) (defScope s_is_signs) .none kV_is_signs dc_is_signs pm_is_signs an_is_signs cd_is_signs ct_is_signs), sl_is_signs⟩)
    (d_is_signs : PySem.W.codeIn K cd_is_signs "is_signs" = true)
    (k_is_signs : PySem.W.keepIn K (.ref f_is_signs) = true)
    (n_check_signs : PySem.W.nsIn K mainGlobals "check_signs" = some (some (.ref f_check_signs)))
    (l_check_signs : K.lookup f_check_signs = some ⟨oc_check_signs, od_check_signs, .func (PySem.W.fnOf "check_signs" "check_signs" (defArgs s_check_signs) (defBody s_check_signs) (defScope s_check_signs) .none kV_check_signs dc_check_signs pm_check_signs an_check_signs cd_check_signs ct_check_signs), sl_check_signs⟩)
    (d_check_signs : PySem.W.codeIn K cd_check_signs "check_signs" = true)
    (k_check_signs : PySem.W.keepIn K (.ref f_check_signs) = true)
    (n_is_size : PySem.W.nsIn K mainGlobals "is_size" = some (some (.ref f_is_size)))
    (l_is_size : K.lookup f_is_size = some ⟨oc_is_size, od_is_size, .func (PySem.W.fnOf "is_size" "is_size" (defArgs s_is_size) (defBody s_is_size) (defScope s_is_size) .none kV_is_size dc_is_size pm_is_size an_is_size cd_is_size ct_is_size), sl_is_size⟩)
    (d_is_size : PySem.W.codeIn K cd_is_size "is_size" = true)
    (k_is_size : PySem.W.keepIn K (.ref f_is_size) = true)
    (n_is_table_of : PySem.W.nsIn K mainGlobals "is_table_of" = some (some (.ref f_is_table_of)))
    (l_is_table_of : K.lookup f_is_table_of = some ⟨oc_is_table_of, od_is_table_of, .func (PySem.W.fnOf "is_table_of" "is_table_of" (defArgs s_is_table_of) (defBody s_is_table_of) (defScope s_is_table_of) .none kV_is_table_of dc_is_table_of pm_is_table_of an_is_table_of cd_is_table_of ct_is_table_of), sl_is_table_of⟩)
    (d_is_table_of : PySem.W.codeIn K cd_is_table_of "is_table_of" = true)
    (k_is_table_of : PySem.W.keepIn K (.ref f_is_table_of) = true)
    (n_check_its_table : PySem.W.nsIn K mainGlobals "check_its_table" = some (some (.ref f_check_its_table)))
    (l_check_its_table : K.lookup f_check_its_table = some ⟨oc_check_its_table, od_check_its_table, .func (PySem.W.fnOf "check_its_table" "check_its_table" (defArgs s_check_its_table) (defBody s_check_its_table) (defScope s_check_its_table) .none kV_check_its_table dc_check_its_table pm_check_its_table an_check_its_table cd_check_its_table ct_check_its_table), sl_check_its_table⟩)
    (d_check_its_table : PySem.W.codeIn K cd_check_its_table "check_its_table" = true)
    (k_check_its_table : PySem.W.keepIn K (.ref f_check_its_table) = true)
    (n_check_table : PySem.W.nsIn K mainGlobals "check_table" = some (some (.ref f_check_table)))
    (l_check_table : K.lookup f_check_table = some ⟨oc_check_table, od_check_table, .func (PySem.W.fnOf "check_table" "check_table" (defArgs s_check_table) (defBody s_check_table) (defScope s_check_table) .none kV_check_table dc_check_table pm_check_table an_check_table cd_check_table ct_check_table), sl_check_table⟩)
    (d_check_table : PySem.W.codeIn K cd_check_table "check_table" = true)
    (k_check_table : PySem.W.keepIn K (.ref f_check_table) = true)
    (n_table_lines : PySem.W.nsIn K mainGlobals "table_lines" = some (some (.ref f_table_lines)))
    (l_table_lines : K.lookup f_table_lines = some ⟨oc_table_lines, od_table_lines, .func (PySem.W.fnOf "table_lines" "table_lines" (defArgs s_table_lines) (defBody s_table_lines) (defScope s_table_lines) .none kV_table_lines dc_table_lines pm_table_lines an_table_lines cd_table_lines ct_table_lines), sl_table_lines⟩)
    (d_table_lines : PySem.W.codeIn K cd_table_lines "table_lines" = true)
    (k_table_lines : PySem.W.keepIn K (.ref f_table_lines) = true)
    (n_table_text : PySem.W.nsIn K mainGlobals "table_text" = some (some (.ref f_table_text)))
    (l_table_text : K.lookup f_table_text = some ⟨oc_table_text, od_table_text, .func (PySem.W.fnOf "table_text" "table_text" (defArgs s_table_text) (defBody s_table_text) (defScope s_table_text) .none kV_table_text dc_table_text pm_table_text an_table_text cd_table_text ct_table_text), sl_table_text⟩)
    (d_table_text : PySem.W.codeIn K cd_table_text "table_text" = true)
    (k_table_text : PySem.W.keepIn K (.ref f_table_text) = true)
    (n_thing_in : PySem.W.nsIn K mainGlobals "thing_in" = some (some (.ref f_thing_in)))
    (l_thing_in : K.lookup f_thing_in = some ⟨oc_thing_in, od_thing_in, .func (PySem.W.fnOf "thing_in" "thing_in" (defArgs s_thing_in) (defBody s_thing_in) (defScope s_thing_in) .none kV_thing_in dc_thing_in pm_thing_in an_thing_in cd_thing_in ct_thing_in), sl_thing_in⟩)
    (d_thing_in : PySem.W.codeIn K cd_thing_in "thing_in" = true)
    (k_thing_in : PySem.W.keepIn K (.ref f_thing_in) = true)
    (n_row_in : PySem.W.nsIn K mainGlobals "row_in" = some (some (.ref f_row_in)))
    (l_row_in : K.lookup f_row_in = some ⟨oc_row_in, od_row_in, .func (PySem.W.fnOf "row_in" "row_in" (defArgs s_row_in) (defBody s_row_in) (defScope s_row_in) .none kV_row_in dc_row_in pm_row_in an_row_in cd_row_in ct_row_in), sl_row_in⟩)
    (d_row_in : PySem.W.codeIn K cd_row_in "row_in" = true)
    (k_row_in : PySem.W.keepIn K (.ref f_row_in) = true)
    (n_things_in : PySem.W.nsIn K mainGlobals "things_in" = some (some (.ref f_things_in)))
    (l_things_in : K.lookup f_things_in = some ⟨oc_things_in, od_things_in, .func (PySem.W.fnOf "things_in" "things_in" (defArgs s_things_in) (defBody s_things_in) (defScope s_things_in) .none kV_things_in dc_things_in pm_things_in an_things_in cd_things_in ct_things_in), sl_things_in⟩)
    (d_things_in : PySem.W.codeIn K cd_things_in "things_in" = true)
    (k_things_in : PySem.W.keepIn K (.ref f_things_in) = true)
    (n_read_table : PySem.W.nsIn K mainGlobals "read_table" = some (some (.ref f_read_table)))
    (l_read_table : K.lookup f_read_table = some ⟨oc_read_table, od_read_table, .func (PySem.W.fnOf "read_table" "read_table" (defArgs s_read_table) (defBody s_read_table) (defScope s_read_table) .none kV_read_table dc_read_table pm_read_table an_read_table cd_read_table ct_read_table), sl_read_table⟩)
    (d_read_table : PySem.W.codeIn K cd_read_table "read_table" = true)
    (k_read_table : PySem.W.keepIn K (.ref f_read_table) = true)
    (n__law_pot : PySem.W.nsIn K mainGlobals "_law_pot" = some (some (.ref f__law_pot)))
    (l__law_pot : K.lookup f__law_pot = some ⟨oc__law_pot, od__law_pot, .func (PySem.W.fnOf "_law_pot" "_law_pot" (defArgs s__law_pot) (defBody s__law_pot) (defScope s__law_pot) .none kV__law_pot dc__law_pot pm__law_pot an__law_pot cd__law_pot ct__law_pot), sl__law_pot⟩)
    (d__law_pot : PySem.W.codeIn K cd__law_pot "_law_pot" = true)
    (k__law_pot : PySem.W.keepIn K (.ref f__law_pot) = true)
    (n__law_take : PySem.W.nsIn K mainGlobals "_law_take" = some (some (.ref f__law_take)))
    (l__law_take : K.lookup f__law_take = some ⟨oc__law_take, od__law_take, .func (PySem.W.fnOf "_law_take" "_law_take" (defArgs s__law_take) (defBody s__law_take) (defScope s__law_take) .none kV__law_take dc__law_take pm__law_take an__law_take cd__law_take ct__law_take), sl__law_take⟩)
    (d__law_take : PySem.W.codeIn K cd__law_take "_law_take" = true)
    (k__law_take : PySem.W.keepIn K (.ref f__law_take) = true)
    (n__law_of : PySem.W.nsIn K mainGlobals "_law_of" = some (some (.ref f__law_of)))
    (l__law_of : K.lookup f__law_of = some ⟨oc__law_of, od__law_of, .func (PySem.W.fnOf "_law_of" "_law_of" (defArgs s__law_of) (defBody s__law_of) (defScope s__law_of) .none kV__law_of dc__law_of pm__law_of an__law_of cd__law_of ct__law_of), sl__law_of⟩)
    (d__law_of : PySem.W.codeIn K cd__law_of "_law_of" = true)
    (k__law_of : PySem.W.keepIn K (.ref f__law_of) = true)
    (n__law_cells : PySem.W.nsIn K mainGlobals "_law_cells" = some (some (.ref f__law_cells)))
    (l__law_cells : K.lookup f__law_cells = some ⟨oc__law_cells, od__law_cells, .func (PySem.W.fnOf "_law_cells" "_law_cells" (defArgs s__law_cells) (defBody s__law_cells) (defScope s__law_cells) .none kV__law_cells dc__law_cells pm__law_cells an__law_cells cd__law_cells ct__law_cells), sl__law_cells⟩)
    (d__law_cells : PySem.W.codeIn K cd__law_cells "_law_cells" = true)
    (k__law_cells : PySem.W.keepIn K (.ref f__law_cells) = true)
    (n__law_signs : PySem.W.nsIn K mainGlobals "_law_signs" = some (some (.ref f__law_signs)))
    (l__law_signs : K.lookup f__law_signs = some ⟨oc__law_signs, od__law_signs, .func (PySem.W.fnOf "_law_signs" "_law_signs" (defArgs s__law_signs) (defBody s__law_signs) (defScope s__law_signs) .none kV__law_signs dc__law_signs pm__law_signs an__law_signs cd__law_signs ct__law_signs), sl__law_signs⟩)
    (d__law_signs : PySem.W.codeIn K cd__law_signs "_law_signs" = true)
    (k__law_signs : PySem.W.keepIn K (.ref f__law_signs) = true)
    (n__law_rows : PySem.W.nsIn K mainGlobals "_law_rows" = some (some (.ref f__law_rows)))
    (l__law_rows : K.lookup f__law_rows = some ⟨oc__law_rows, od__law_rows, .func (PySem.W.fnOf "_law_rows" "_law_rows" (defArgs s__law_rows) (defBody s__law_rows) (defScope s__law_rows) .none kV__law_rows dc__law_rows pm__law_rows an__law_rows cd__law_rows ct__law_rows), sl__law_rows⟩)
    (d__law_rows : PySem.W.codeIn K cd__law_rows "_law_rows" = true)
    (k__law_rows : PySem.W.keepIn K (.ref f__law_rows) = true)
    (n__law_known_row : PySem.W.nsIn K mainGlobals "_law_known_row" = some (some (.ref f__law_known_row)))
    (l__law_known_row : K.lookup f__law_known_row = some ⟨oc__law_known_row, od__law_known_row, .func (PySem.W.fnOf "_law_known_row" "_law_known_row" (defArgs s__law_known_row) (defBody s__law_known_row) (defScope s__law_known_row) .none kV__law_known_row dc__law_known_row pm__law_known_row an__law_known_row cd__law_known_row ct__law_known_row), sl__law_known_row⟩)
    (d__law_known_row : PySem.W.codeIn K cd__law_known_row "_law_known_row" = true)
    (k__law_known_row : PySem.W.keepIn K (.ref f__law_known_row) = true)
    (n__law_table : PySem.W.nsIn K mainGlobals "_law_table" = some (some (.ref f__law_table)))
    (l__law_table : K.lookup f__law_table = some ⟨oc__law_table, od__law_table, .func (PySem.W.fnOf "_law_table" "_law_table" (defArgs s__law_table) (defBody s__law_table) (defScope s__law_table) .none kV__law_table dc__law_table pm__law_table an__law_table cd__law_table ct__law_table), sl__law_table⟩)
    (d__law_table : PySem.W.codeIn K cd__law_table "_law_table" = true)
    (k__law_table : PySem.W.keepIn K (.ref f__law_table) = true)
    (n__law_line : PySem.W.nsIn K mainGlobals "_law_line" = some (some (.ref f__law_line)))
    (l__law_line : K.lookup f__law_line = some ⟨oc__law_line, od__law_line, .func (PySem.W.fnOf "_law_line" "_law_line" (defArgs s__law_line) (defBody s__law_line) (defScope s__law_line) .none kV__law_line dc__law_line pm__law_line an__law_line cd__law_line ct__law_line), sl__law_line⟩)
    (d__law_line : PySem.W.codeIn K cd__law_line "_law_line" = true)
    (k__law_line : PySem.W.keepIn K (.ref f__law_line) = true)
    (n__law_is_read : PySem.W.nsIn K mainGlobals "_law_is_read" = some (some (.ref f__law_is_read)))
    (l__law_is_read : K.lookup f__law_is_read = some ⟨oc__law_is_read, od__law_is_read, .func (PySem.W.fnOf "_law_is_read" "_law_is_read" (defArgs s__law_is_read) (defBody s__law_is_read) (defScope s__law_is_read) .none kV__law_is_read dc__law_is_read pm__law_is_read an__law_is_read (.ref cd__law_is_read) ct__law_is_read), sl__law_is_read⟩)
    (d__law_is_read : PySem.W.codeIn K (.ref cd__law_is_read) "_law_is_read" = true)
    (k__law_is_read : PySem.W.keepIn K (.ref f__law_is_read) = true)
    (lk__law_is_read : K.lookup cd__law_is_read = some ⟨e1__law_is_read, e2__law_is_read, .fields w__law_is_read, e3__law_is_read⟩)
    (pp__law_is_read : w__law_is_read[11]? = some (.ref P__law_is_read))
    (hd__law_is_read : PySem.W.codeHdIn K cd__law_is_read P__law_is_read = true)
    (nt__law_is_read : K.lookup P__law_is_read = none)
    (ht__law_is_read : h.get? P__law_is_read = some { cls := .none, data := .fields #[] })
    (n__law_right : PySem.W.nsIn K mainGlobals "_law_right" = some (some (.ref f__law_right)))
    (l__law_right : K.lookup f__law_right = some ⟨oc__law_right, od__law_right, .func (PySem.W.fnOf "_law_right" "_law_right" (defArgs s__law_right) (defBody s__law_right) (defScope s__law_right) .none kV__law_right dc__law_right pm__law_right an__law_right (.ref cd__law_right) ct__law_right), sl__law_right⟩)
    (d__law_right : PySem.W.codeIn K (.ref cd__law_right) "_law_right" = true)
    (k__law_right : PySem.W.keepIn K (.ref f__law_right) = true)
    (lk__law_right : K.lookup cd__law_right = some ⟨e1__law_right, e2__law_right, .fields w__law_right, e3__law_right⟩)
    (pp__law_right : w__law_right[11]? = some (.ref P__law_right))
    (hd__law_right : PySem.W.codeHdIn K cd__law_right P__law_right = true)
    (nt__law_right : K.lookup P__law_right = none)
    (ht__law_right : h.get? P__law_right = some { cls := .none, data := .fields #[] })
    (n_law : PySem.W.nsIn K mainGlobals "law" = some (some (.ref f_law)))
    (l_law : K.lookup f_law = some ⟨oc_law, od_law, .func (PySem.W.fnOf "law" "law" (defArgs s_law) (defBody s_law) (defScope s_law) .none kV_law dc_law pm_law an_law cd_law ct_law), sl_law⟩)
    (d_law : PySem.W.codeIn K cd_law "law" = true)
    (k_law : PySem.W.keepIn K (.ref f_law) = true)
    (n__law_heard : PySem.W.nsIn K mainGlobals "_law_heard" = some (some (.ref f__law_heard)))
    (l__law_heard : K.lookup f__law_heard = some ⟨oc__law_heard, od__law_heard, .func (PySem.W.fnOf "_law_heard" "_law_heard" (defArgs s__law_heard) (defBody s__law_heard) (defScope s__law_heard) .none kV__law_heard dc__law_heard pm__law_heard an__law_heard cd__law_heard ct__law_heard), sl__law_heard⟩)
    (d__law_heard : PySem.W.codeIn K cd__law_heard "_law_heard" = true)
    (k__law_heard : PySem.W.keepIn K (.ref f__law_heard) = true)
    (tabs : DL.tabsOf K = [(P__law_is_read, ("_law_is_read.<locals>.<lambda>" : Str)), (P__law_right, ("_law_right.<locals>.<lambda>" : Str))])
    (ne__law_is_read__law_right : P__law_is_read ≠ P__law_right) :
    ∃ (fd : FuncData) (tb : List (Addr × Addr)) (Fl : List D → Out), (∀ p ∈ tb, h.get? p.2 = some { cls := .none, data := .fields #[] }) ∧ (∀ p ∈ tb, K.lookup p.2 = none) ∧ (∀ p ∈ tb, PySem.W.CodeHd h p.1 p.2) ∧ (∀ p ∈ tabsOf K, p.1 ∈ tb.map (·.2)) ∧
        (∀ (s : Shared) (u : Value), BindsTo s fd ⟨[u], []⟩ [("script", u)]) ∧ (∀ ns : List Int, ns.length ≤ 63 → (∀ z ∈ ns, Builtin.Int.intBits z ≤ 1048576) → Fl [.kl (ns.map .int)] = .ok (.bl true) []) ∧
        ∀ base : Heap, K.In base → base.Ns mainGlobals mg → (∀ p ∈ tb, TabB base mg p.1 p.2) → FnG PySem.Challenge.pw_whatequationssay_k08_whole_tables_as_tex w K mg base 11 fa fd ["script"] (spD K mg 1 [] false Fl) := by
  have e := hfa.symm.trans (PySem.W.mg_of X G n_law)
  cases e
  have err_EquationError : PySem.DErr.ErrT PySem.Challenge.pw_whatequationssay_k08_whole_tables_as_tex K mg "EquationError" C_EquationError C_EquationError f0 :=
    { gC := PySem.W.mg_of X G a_EquationError, cls := ⟨_, _, _, _, _, _, _, _, _, _, _, _, _, _, _, x_EquationError, by rfl⟩, sa := sa_EquationError, ga := ga_EquationError, gg := gg_EquationError, noN := no_EquationError, iC := i_EquationError, tC := tf, kC := kC_EquationError, exC := eC_EquationError, tyC := tC_EquationError, hdC := hC_EquationError, sup := su_EquationError, hB := hB_EquationError, hsub := hs_EquationError, opq := opq, noS := PySem.W.mg_none_of X G noS,
      top := by decide +kernel, clsD := ⟨_, _, _, _, x_EquationError⟩, fn := ⟨_, _, _, _, _, _, _, _, _, _, _, _, _, _, _, _, _, _, l0, c0, lc0, v2, hfile, lcc⟩ }
  have ev_EquationError : ErrV K mg "EquationError" C_EquationError := ⟨PySem.W.mg_of X G a_EquationError, cl_EquationError, ga_EquationError, gg_EquationError, eC_EquationError, cc_EquationError, gsp, tkn, mo_EquationError, no_EquationError, hC_EquationError⟩
  have err_BadSigns : PySem.DErr.ErrT PySem.Challenge.pw_whatequationssay_k08_whole_tables_as_tex K mg "BadSigns" C_BadSigns C_EquationError f0 :=
    { gC := PySem.W.mg_of X G a_BadSigns, cls := ⟨_, _, _, _, _, _, _, _, _, _, _, _, _, _, _, x_BadSigns, by rfl⟩, sa := sa_BadSigns, ga := ga_BadSigns, gg := gg_BadSigns, noN := no_BadSigns, iC := i_BadSigns, tC := tf, kC := kC_BadSigns, exC := eC_BadSigns, tyC := tC_BadSigns, hdC := hC_BadSigns, sup := su_BadSigns, hB := hB_BadSigns, hsub := hs_BadSigns, opq := opq, noS := PySem.W.mg_none_of X G noS,
      top := by decide +kernel, clsD := ⟨_, _, _, _, x_EquationError⟩, fn := ⟨_, _, _, _, _, _, _, _, _, _, _, _, _, _, _, _, _, _, l0, c0, lc0, v2, hfile, lcc⟩ }
  have ev_BadSigns : ErrV K mg "BadSigns" C_BadSigns := ⟨PySem.W.mg_of X G a_BadSigns, cl_BadSigns, ga_BadSigns, gg_BadSigns, eC_BadSigns, cc_BadSigns, gsp, tkn, mo_BadSigns, no_BadSigns, hC_BadSigns⟩
  have err_BadTable : PySem.DErr.ErrT PySem.Challenge.pw_whatequationssay_k08_whole_tables_as_tex K mg "BadTable" C_BadTable C_EquationError f0 :=
    { gC := PySem.W.mg_of X G a_BadTable, cls := ⟨_, _, _, _, _, _, _, _, _, _, _, _, _, _, _, x_BadTable, by rfl⟩, sa := sa_BadTable, ga := ga_BadTable, gg := gg_BadTable, noN := no_BadTable, iC := i_BadTable, tC := tf, kC := kC_BadTable, exC := eC_BadTable, tyC := tC_BadTable, hdC := hC_BadTable, sup := su_BadTable, hB := hB_BadTable, hsub := hs_BadTable, opq := opq, noS := PySem.W.mg_none_of X G noS,
      top := by decide +kernel, clsD := ⟨_, _, _, _, x_EquationError⟩, fn := ⟨_, _, _, _, _, _, _, _, _, _, _, _, _, _, _, _, _, _, l0, c0, lc0, v2, hfile, lcc⟩ }
  have ev_BadTable : ErrV K mg "BadTable" C_BadTable := ⟨PySem.W.mg_of X G a_BadTable, cl_BadTable, ga_BadTable, gg_BadTable, eC_BadTable, cc_BadTable, gsp, tkn, mo_BadTable, no_BadTable, hC_BadTable⟩
  have err_BadTableText : PySem.DErr.ErrT PySem.Challenge.pw_whatequationssay_k08_whole_tables_as_tex K mg "BadTableText" C_BadTableText C_EquationError f0 :=
    { gC := PySem.W.mg_of X G a_BadTableText, cls := ⟨_, _, _, _, _, _, _, _, _, _, _, _, _, _, _, x_BadTableText, by rfl⟩, sa := sa_BadTableText, ga := ga_BadTableText, gg := gg_BadTableText, noN := no_BadTableText, iC := i_BadTableText, tC := tf, kC := kC_BadTableText, exC := eC_BadTableText, tyC := tC_BadTableText, hdC := hC_BadTableText, sup := su_BadTableText, hB := hB_BadTableText, hsub := hs_BadTableText, opq := opq, noS := PySem.W.mg_none_of X G noS,
      top := by decide +kernel, clsD := ⟨_, _, _, _, x_EquationError⟩, fn := ⟨_, _, _, _, _, _, _, _, _, _, _, _, _, _, _, _, _, _, l0, c0, lc0, v2, hfile, lcc⟩ }
  have ev_BadTableText : ErrV K mg "BadTableText" C_BadTableText := ⟨PySem.W.mg_of X G a_BadTableText, cl_BadTableText, ga_BadTableText, gg_BadTableText, eC_BadTableText, cc_BadTableText, gsp, tkn, mo_BadTableText, no_BadTableText, hC_BadTableText⟩
  have memE : ∀ c ∈ errs, c = ("EquationError" : Str) ∨ c = ("BadSigns" : Str) ∨ c = ("BadTable" : Str) ∨ c = ("BadTableText" : Str) := fun c hc => by simpa [errs] using hc
  have v_errs : ∀ c ∈ errs, ∃ C, ErrV K mg c C := fun c hc => by
    rcases memE c hc with rfl | rfl | rfl | rfl
    · exact ⟨_, ev_EquationError⟩
    · exact ⟨_, ev_BadSigns⟩
    · exact ⟨_, ev_BadTable⟩
    · exact ⟨_, ev_BadTableText⟩
  have is_BadTableText : ∀ c ∈ errs, ∃ C, ErrV K mg c C ∧ PySem.W.kitOne K (.ref C) (.ref C_BadTableText) = some (c == ("BadTableText" : Str)) := fun c hc => by
    rcases memE c hc with rfl | rfl | rfl | rfl
    · exact ⟨_, ev_EquationError, ki_EquationError_BadTableText⟩
    · exact ⟨_, ev_BadSigns, ki_BadSigns_BadTableText⟩
    · exact ⟨_, ev_BadTable, ki_BadTable_BadTableText⟩
    · exact ⟨_, ev_BadTableText, ki_BadTableText_BadTableText⟩
  have fh := fun_mk (st := s__law_heard) l__law_heard d__law_heard k__law_heard
  have hh : HeardT K mg errs s__law_heard f__law_heard C_EquationError _ := ⟨fh, PySem.W.mg_of X G n__law_heard, fh.binds (ps := ["call"]) (fun _ _ _ _ _ _ us hl => match us, hl with | [_], _ => rfl), ⟨rfl, rfl, rfl, by decide +kernel, rfl, by decide +kernel, by decide +kernel⟩, PySem.W.mg_of X G a_EquationError, rfl, rfl, rfl, rfl, rfl, (fun c hc C hC => by
    rcases memE c hc with rfl | rfl | rfl | rfl
    · have q := (PySem.W.mg_of X G a_EquationError).symm.trans hC
      cases q
      exact xm_EquationError
    · have q := (PySem.W.mg_of X G a_BadSigns).symm.trans hC
      cases q
      exact xm_BadSigns
    · have q := (PySem.W.mg_of X G a_BadTable).symm.trans hC
      cases q
      exact xm_BadTable
    · have q := (PySem.W.mg_of X G a_BadTableText).symm.trans hC
      cases q
      exact xm_BadTableText
    ), ⟨_, _, _, _, _, _, _, _, _, _, _, _, _, _, _, _, _, _, _, _, _, _, _, _, _, _, rfl, fun _ _ _ => ⟨rfl, rfl, rfl, rfl⟩⟩⟩
  have tu__law_is_read : ∀ p ∈ tabsOf K, p.1 = P__law_is_read → p.2 = ("_law_is_read.<locals>.<lambda>" : Str) := by
    rw [tabs]; intro p hp e
    simp only [List.mem_cons, List.not_mem_nil, or_false] at hp
    rcases hp with rfl | rfl
    · rfl
    · exact absurd e.symm ne__law_is_read__law_right
  have tu__law_right : ∀ p ∈ tabsOf K, p.1 = P__law_right → p.2 = ("_law_right.<locals>.<lambda>" : Str) := by
    rw [tabs]; intro p hp e
    simp only [List.mem_cons, List.not_mem_nil, or_false] at hp
    rcases hp with rfl | rfl
    · exact absurd e ne__law_is_read__law_right
    · rfl
  have fl := fun_mk (st := s_law) l_law d_law k_law
  refine ⟨_, [(cd__law_is_read, P__law_is_read), (cd__law_right, P__law_right)], F_law, ?_, ?_, ?_, ?_, fun s u => .of_eq rfl, plain, fun base kB gB TB => ok_law (w := w) (base := base) (Txt.mk
    (PySem.W.mg_none_of X G b_abs)
    (PySem.W.mg_none_of X G b_all)
    (PySem.W.mg_none_of X G b_bool)
    (PySem.W.mg_none_of X G b_enumerate)
    (PySem.W.mg_none_of X G b_int)
    (PySem.W.mg_none_of X G b_isinstance)
    (PySem.W.mg_none_of X G b_len)
    (PySem.W.mg_none_of X G b_list)
    (PySem.W.mg_none_of X G b_max)
    (PySem.W.mg_none_of X G b_min)
    (PySem.W.mg_none_of X G b_range)
    (PySem.W.mg_none_of X G b_repr)
    (PySem.W.mg_none_of X G b_set)
    (PySem.W.mg_none_of X G b_sorted)
    (PySem.W.mg_none_of X G b_str)
    (PySem.W.mg_none_of X G b_sum)
    (PySem.W.mg_none_of X G b_tuple)
    (PySem.W.mg_none_of X G b_zip)
    (gc_str X G c_BLANK)
    (gc_str X G c_FEED)
    (gc_str X G c_FIGURES)
    (gc_str X G c_LETTERS)
    (gc_int X G c_MOST_NAMES)
    (gc_int X G c_MOST_PLACES)
    (gc_int X G c_MOST_SIGNS)
    (gc_int X G c_MOST_THINGS)
    (gc_str X G c_THINGS)
    (gc_tupS (ys := [("u" : Str), ("v" : Str), ("w" : Str), ("x" : Str), ("y" : Str), ("z" : Str)]) X G c_VARIABLES l_VARIABLES (.cons ⟨_, rfl⟩ (.cons ⟨_, rfl⟩ (.cons ⟨_, rfl⟩ (.cons ⟨_, rfl⟩ (.cons ⟨_, rfl⟩ (.cons ⟨_, rfl⟩ .nil)))))) (by show 6 ≤ sizeLine; decide))
    (⟨_, _, _, err_BadSigns⟩)
    (⟨_, _, _, err_BadTable⟩)
    (⟨_, _, _, err_BadTableText⟩)
    (⟨_, PySem.W.mg_of X G a_BadTableText, is_BadTableText, kn_BadTableText⟩)
    (v_errs)
    (⟨_, _, _, hh⟩)
    (f_mk X G n_is_integer l_is_integer d_is_integer k_is_integer)
    (f_mk X G n_is_between l_is_between d_is_between k_is_between)
    (f_mk X G n_are_between l_are_between d_are_between k_are_between)
    (f_mk X G n_is_name l_is_name d_is_name k_is_name)
    (f_mk X G n_power l_power d_power k_power)
    (f_mk X G n_is_sign l_is_sign d_is_sign k_is_sign)
    (f_mk X G n_is_signs l_is_signs d_is_signs k_is_signs)
    (f_mk X G n_check_signs l_check_signs d_check_signs k_check_signs)
    (f_mk X G n_is_size l_is_size d_is_size k_is_size)
    (f_mk X G n_is_table_of l_is_table_of d_is_table_of k_is_table_of)
    (f_mk X G n_check_its_table l_check_its_table d_check_its_table k_check_its_table)
    (f_mk X G n_check_table l_check_table d_check_table k_check_table)
    (f_mk X G n_table_lines l_table_lines d_table_lines k_table_lines)
    (f_mk X G n_table_text l_table_text d_table_text k_table_text)
    (f_mk X G n_thing_in l_thing_in d_thing_in k_thing_in)
    (f_mk X G n_row_in l_row_in d_row_in k_row_in)
    (f_mk X G n_things_in l_things_in d_things_in k_things_in)
    (f_mk X G n_read_table l_read_table d_read_table k_read_table)
    (f_mk X G n__law_pot l__law_pot d__law_pot k__law_pot)
    (f_mk X G n__law_take l__law_take d__law_take k__law_take)
    (f_mk X G n__law_of l__law_of d__law_of k__law_of)
    (f_mk X G n__law_cells l__law_cells d__law_cells k__law_cells)
    (f_mk X G n__law_signs l__law_signs d__law_signs k__law_signs)
    (f_mk X G n__law_rows l__law_rows d__law_rows k__law_rows)
    (f_mk X G n__law_known_row l__law_known_row d__law_known_row k__law_known_row)
    (f_mk X G n__law_table l__law_table d__law_table k__law_table)
    (f_mk X G n__law_line l__law_line d__law_line k__law_line)
    (f_mkC X G n__law_is_read l__law_is_read d__law_is_read k__law_is_read (TB (cd__law_is_read, P__law_is_read) (by simp)) (by rw [tabs]; simp) tu__law_is_read)
    (f_mkC X G n__law_right l__law_right d__law_right k__law_right (TB (cd__law_right, P__law_right) (by simp)) (by rw [tabs]; simp) tu__law_right)
    (f_mk X G n_law l_law d_law k_law)) fl⟩
  · exact (List.forall_mem_cons.mpr ⟨ht__law_is_read, (List.forall_mem_cons.mpr ⟨ht__law_right, (fun _ z => nomatch z)⟩)⟩)
  · exact (List.forall_mem_cons.mpr ⟨nt__law_is_read, (List.forall_mem_cons.mpr ⟨nt__law_right, (fun _ z => nomatch z)⟩)⟩)
  · exact (List.forall_mem_cons.mpr ⟨PySem.W.codeHd_of_K X hd__law_is_read, (List.forall_mem_cons.mpr ⟨PySem.W.codeHd_of_K X hd__law_right, (fun _ z => nomatch z)⟩)⟩)
  · rw [tabs]
    exact (List.forall_mem_cons.mpr ⟨by simp, (List.forall_mem_cons.mpr ⟨by simp, (fun _ z => nomatch z)⟩)⟩)
end G08
set_option Elab.async false
set_option linter.all false
set_option maxRecDepth 100000
set_option maxHeartbeats 4000000
namespace G08
open PySem PySem.Spec DL
theorem log2_small {i : Int} {k : Nat} (h0 : 0 ≤ i) (h : i < 2 ^ k) (hk : 0 < k) : i.natAbs.log2 < k := by
  have e : ((i.natAbs : Nat) : Int) = i := by omega
  have h2 : i.natAbs < 2 ^ k := by
    have : ((i.natAbs : Nat) : Int) < ((2 ^ k : Nat) : Int) := by rw [e]; push_cast; exact h
    exact_mod_cast this
  by_cases hz : i.natAbs = 0
  · rw [hz]
    have : Nat.log2 0 = 0 := by decide
    omega
  · exact (Nat.log2_lt hz).mpr h2
theorem mulW_small {i j : Int} (h0 : 0 ≤ i) (h : i < 2 ^ 400) (h1 : 0 ≤ j) (h2 : j < 2 ^ 400) : L2.CMulW i j := by
  have a := log2_small h0 h (by decide)
  have b := log2_small h1 h2 (by decide)
  unfold L2.CMulW
  omega
theorem powW3 {i : Int} (h0 : 0 ≤ i) (h : i < 2 ^ 400) : CPowW i 3 := by
  have a := log2_small h0 h (by decide)
  refine ⟨by decide, ?_⟩
  have : Builtin.Int.intBits i ≤ i.natAbs.log2 + 1 := by
    unfold Builtin.Int.intBits
    split <;> omega
  have q : ((Builtin.Int.intBits i : Nat) : Int) ≤ 401 := by exact_mod_cast (by omega : Builtin.Int.intBits i ≤ 401)
  have e : (2 : Int) ^ 27 = 134217728 := by decide
  rw [e]
  omega
/-- a draw by the pot's own number -/
theorem take_own {a b c u : Int} (ha : 0 < a) (hu : 0 < u) (hs : u < 2 ^ 400) : F__law_take [.lst [.int a, .int b, .int c], .int u] = .ok (.int (a % u)) [[.int (a / u), .int b, .int c]] := by
  have hl := log2_small (Int.le_of_lt hu) hs (by decide)
  have hd : L2.CDivW a u := ⟨hu, by omega⟩
  unfold F__law_take runF m__law_take enIn
  simp [argEn, ioSl, mSeq, mIfS, mT, asB, mBin, mV, mC, mXA, mVar, mFn, mFnF, getsO, valsO, Opd.get, R.bind, R.thenS, RS.bind, mSet, mSetF, mPut, mRet, mRetF, mL, mLst, mTup, mDrop, mIf, mUn, iNot, iNeg, mNotT, mAnd, mOr, mAndT, mOrT, mChain, mPub, pubE, iLt, iLe, iGt, iGe, isN, notN, ixD, iMod, iDiv, iMul, iPow, iSub, addD, cmpD, fInt, fLen, fAbs, fMax2, fMin2, fStr, fTuple, fList, maCons, maNil, ownAt, outOf, ioL, bin2, mPar, mpV, mpF, setP, mRaise, mCall, callV, mCallF, callVF, mCallIO, callIO, ioArgs, mAsg, gN, gT, gCs, gNs, sizeLine_eq, L2.atI, L2.ixN, ha, hu, hd]
theorem take_blend {b c u : Int} (hb : 0 ≤ b) (hb2 : b < 2 ^ 61) (hc : 0 ≤ c) (hc2 : c < 2 ^ 20) (hu : 0 < u) : ∃ r, 0 ≤ r ∧ r < u ∧ F__law_take [.lst [.int 0, .int b, .int c], .int u] = .ok (.int r) [[.int 0, .int b, .int (c + 1)]] := by
  have sq0 : 0 ≤ 105173 * (c + 1) := by omega
  have sq1 : 105173 * (c + 1) < 2 ^ 400 := by omega
  have sq2 : 0 ≤ 105173 * (c + 1) * (c + 1) := Int.mul_nonneg sq0 (by omega)
  have sq3 : 105173 * (c + 1) * (c + 1) ≤ 105173 * 2 ^ 20 * 2 ^ 20 := Int.mul_le_mul (by omega) (by omega) (by omega) (by decide)
  have w1 : L2.CMulW 105173 (c + 1) := mulW_small (by decide) (by decide) (by omega) (by omega)
  have w2 : L2.CMulW (105173 * (c + 1)) (c + 1) := mulW_small sq0 sq1 (by omega) (by omega)
  have w3 : CPowW (b + 105173 * (c + 1) * (c + 1) + 4519) 3 := powW3 (by omega) (by omega)
  have w4 : L2.CMulW 165 (c + 1) := mulW_small (by decide) (by decide) (by omega) (by omega)
  have fin : ∀ p : Int, 0 < p → p < 2 ^ 31 → ∀ n : Int, L2.CMulW (n % p) (n % p % 10335 + 165 * (c + 1)) := fun p hp hp2 n => by
    have a1 := Int.emod_nonneg n (by omega : p ≠ 0)
    have a2 := Int.emod_lt_of_pos n hp
    have a3 := Int.emod_nonneg (n % p) (by decide : (10335 : Int) ≠ 0)
    have a4 := Int.emod_lt_of_pos (n % p) (by decide : (0 : Int) < 10335)
    exact mulW_small a1 (by omega) (by omega) (by omega)
  have d155 : ∀ n : Int, L2.CDivW n 155 := fun n => ⟨by decide, by decide⟩
  have cases5 : (c + 1) % 5 = 0 ∨ (c + 1) % 5 = 1 ∨ (c + 1) % 5 = 2 ∨ (c + 1) % 5 = 3 ∨ (c + 1) % 5 = 4 := by omega
  generalize hn : (b + 105173 * (c + 1) * (c + 1) + 4519) ^ 3 = n at *
  have key : ∀ p : Int, 0 < p → p < 2 ^ 31 → (∃ r, 0 ≤ r ∧ r < u ∧ ((n % p * (n % p % 10335 + 165 * (c + 1)) % 2305843009213693907 / 155) % u = r)) := fun p hp hp2 =>
    ⟨_, Int.emod_nonneg _ (by omega), Int.emod_lt_of_pos _ hu, rfl⟩
  rcases cases5 with h | h | h | h | h
  · obtain ⟨r, r0, r1, er⟩ := key 2147483647 (by decide) (by decide)
    refine ⟨r, r0, r1, ?_⟩
    have w5 := fin 2147483647 (by decide) (by decide) n
    unfold F__law_take runF m__law_take enIn
    simp [argEn, ioSl, mSeq, mIfS, mT, asB, mBin, mV, mC, mXA, mVar, mFn, mFnF, getsO, valsO, Opd.get, R.bind, R.thenS, RS.bind, mSet, mSetF, mPut, mRet, mRetF, mL, mLst, mTup, mDrop, mIf, mUn, iNot, iNeg, mNotT, mAnd, mOr, mAndT, mOrT, mChain, mPub, pubE, iLt, iLe, iGt, iGe, isN, notN, ixD, iMod, iDiv, iMul, iPow, iSub, addD, cmpD, fInt, fLen, fAbs, fMax2, fMin2, fStr, fTuple, fList, maCons, maNil, ownAt, outOf, ioL, bin2, mPar, mpV, mpF, setP, mRaise, mCall, callV, mCallF, callVF, mCallIO, callIO, ioArgs, mAsg, gN, gT, gCs, gNs, sizeLine_eq, L2.atI, L2.ixN, hu, w1, w2, w3, w4, w5, d155, h, hn, er]
  · obtain ⟨r, r0, r1, er⟩ := key 2147483629 (by decide) (by decide)
    refine ⟨r, r0, r1, ?_⟩
    have w5 := fin 2147483629 (by decide) (by decide) n
    unfold F__law_take runF m__law_take enIn
    simp [argEn, ioSl, mSeq, mIfS, mT, asB, mBin, mV, mC, mXA, mVar, mFn, mFnF, getsO, valsO, Opd.get, R.bind, R.thenS, RS.bind, mSet, mSetF, mPut, mRet, mRetF, mL, mLst, mTup, mDrop, mIf, mUn, iNot, iNeg, mNotT, mAnd, mOr, mAndT, mOrT, mChain, mPub, pubE, iLt, iLe, iGt, iGe, isN, notN, ixD, iMod, iDiv, iMul, iPow, iSub, addD, cmpD, fInt, fLen, fAbs, fMax2, fMin2, fStr, fTuple, fList, maCons, maNil, ownAt, outOf, ioL, bin2, mPar, mpV, mpF, setP, mRaise, mCall, callV, mCallF, callVF, mCallIO, callIO, ioArgs, mAsg, gN, gT, gCs, gNs, sizeLine_eq, L2.atI, L2.ixN, hu, w1, w2, w3, w4, w5, d155, h, hn, er]
  · obtain ⟨r, r0, r1, er⟩ := key 2147483587 (by decide) (by decide)
    refine ⟨r, r0, r1, ?_⟩
    have w5 := fin 2147483587 (by decide) (by decide) n
    unfold F__law_take runF m__law_take enIn
    simp [argEn, ioSl, mSeq, mIfS, mT, asB, mBin, mV, mC, mXA, mVar, mFn, mFnF, getsO, valsO, Opd.get, R.bind, R.thenS, RS.bind, mSet, mSetF, mPut, mRet, mRetF, mL, mLst, mTup, mDrop, mIf, mUn, iNot, iNeg, mNotT, mAnd, mOr, mAndT, mOrT, mChain, mPub, pubE, iLt, iLe, iGt, iGe, isN, notN, ixD, iMod, iDiv, iMul, iPow, iSub, addD, cmpD, fInt, fLen, fAbs, fMax2, fMin2, fStr, fTuple, fList, maCons, maNil, ownAt, outOf, ioL, bin2, mPar, mpV, mpF, setP, mRaise, mCall, callV, mCallF, callVF, mCallIO, callIO, ioArgs, mAsg, gN, gT, gCs, gNs, sizeLine_eq, L2.atI, L2.ixN, hu, w1, w2, w3, w4, w5, d155, h, hn, er]
  · obtain ⟨r, r0, r1, er⟩ := key 2147483579 (by decide) (by decide)
    refine ⟨r, r0, r1, ?_⟩
    have w5 := fin 2147483579 (by decide) (by decide) n
    unfold F__law_take runF m__law_take enIn
    simp [argEn, ioSl, mSeq, mIfS, mT, asB, mBin, mV, mC, mXA, mVar, mFn, mFnF, getsO, valsO, Opd.get, R.bind, R.thenS, RS.bind, mSet, mSetF, mPut, mRet, mRetF, mL, mLst, mTup, mDrop, mIf, mUn, iNot, iNeg, mNotT, mAnd, mOr, mAndT, mOrT, mChain, mPub, pubE, iLt, iLe, iGt, iGe, isN, notN, ixD, iMod, iDiv, iMul, iPow, iSub, addD, cmpD, fInt, fLen, fAbs, fMax2, fMin2, fStr, fTuple, fList, maCons, maNil, ownAt, outOf, ioL, bin2, mPar, mpV, mpF, setP, mRaise, mCall, callV, mCallF, callVF, mCallIO, callIO, ioArgs, mAsg, gN, gT, gCs, gNs, sizeLine_eq, L2.atI, L2.ixN, hu, w1, w2, w3, w4, w5, d155, h, hn, er]
  · obtain ⟨r, r0, r1, er⟩ := key 2147483563 (by decide) (by decide)
    refine ⟨r, r0, r1, ?_⟩
    have w5 := fin 2147483563 (by decide) (by decide) n
    unfold F__law_take runF m__law_take enIn
    simp [argEn, ioSl, mSeq, mIfS, mT, asB, mBin, mV, mC, mXA, mVar, mFn, mFnF, getsO, valsO, Opd.get, R.bind, R.thenS, RS.bind, mSet, mSetF, mPut, mRet, mRetF, mL, mLst, mTup, mDrop, mIf, mUn, iNot, iNeg, mNotT, mAnd, mOr, mAndT, mOrT, mChain, mPub, pubE, iLt, iLe, iGt, iGe, isN, notN, ixD, iMod, iDiv, iMul, iPow, iSub, addD, cmpD, fInt, fLen, fAbs, fMax2, fMin2, fStr, fTuple, fList, maCons, maNil, ownAt, outOf, ioL, bin2, mPar, mpV, mpF, setP, mRaise, mCall, callV, mCallF, callVF, mCallIO, callIO, ioArgs, mAsg, gN, gT, gCs, gNs, sizeLine_eq, L2.atI, L2.ixN, hu, w1, w2, w3, w4, w5, d155, h, hn, er]
end G08
set_option Elab.async false
set_option linter.all false
set_option maxRecDepth 100000
set_option maxHeartbeats 1000000
/-! what the meanings compute: comprehensions, loops -/
namespace DL
open PySem PySem.Spec L2
abbrev mtYes : MT := fun ρ => .ok true ρ
theorem lcGo_map {f : MG} {S : List Nat} {me : ME} {g : D → D} {ρ0 : En} : ∀ (ds acc : List D), (∀ x ∈ ds, ∃ ρ1 ρ3, f x ρ0 = some ρ1 ∧ me ρ1 = .ok (g x) ρ3 ∧ wipeE ρ3 S = ρ0) → lcGo f S mtYes me ds acc ρ0 = .ok (acc ++ ds.map g) ρ0
  | [], acc, _ => by simp [lcGo]
  | x :: xs, acc, h => by
    obtain ⟨ρ1, ρ3, h1, h2, h3⟩ := h x List.mem_cons_self
    unfold lcGo
    rw [h1]
    simp only [R.bind, h2, h3]
    rw [lcGo_map xs _ fun y hy => h y (List.mem_cons_of_mem _ hy)]
    simp
/-- [e for x in xs], e told by g -/
theorem mLc_map {mi : MF} {f : MG} {S : List Nat} {me : ME} {g : D → D} {ds : List D} {ρ ρ1 ρ0 ρ2 : En} (hi : mi ρ = .ok ds ρ1) (hc : clearS ρ1 S = true) (hw : wipeE ρ1 S = ρ0) (hr : restE ρ1 S ρ0 = ρ2)
    (h : ∀ x ∈ ds, ∃ ρa ρb, f x ρ0 = some ρa ∧ me ρa = .ok (g x) ρb ∧ wipeE ρb S = ρ0) : mLc mi f S mtYes me ρ = .ok (ds.map g) ρ2 := by
  unfold mLc
  rw [hi]
  simp only [R.bind, hc, if_true, hw]
  rw [lcGo_map ds [] h]
  simp [noExc, hr]
theorem lcGo_inv {f : MG} {S : List Nat} {me : ME} {Inv : Nat → En → Prop} {Pd : D → Prop} : ∀ (ds : List D) (n : Nat) (ρ : En) (acc : List D), Inv n ρ → (∀ x ∈ ds, ∀ m ρ, m < n + ds.length → Inv m ρ → ∃ ρ1 y ρ3, f x ρ = some ρ1 ∧ me ρ1 = .ok y ρ3 ∧ Pd y ∧ Inv (m + 1) (wipeE ρ3 S)) →
    ∃ ys ρ', lcGo f S mtYes me ds acc ρ = .ok (acc ++ ys) ρ' ∧ ys.length = ds.length ∧ (∀ y ∈ ys, Pd y) ∧ Inv (n + ds.length) ρ'
  | [], n, ρ, acc, hi, _ => ⟨[], ρ, by simp [lcGo], rfl, by simp, hi⟩
  | x :: xs, n, ρ, acc, hi, h => by
    obtain ⟨ρ1, y, ρ3, h1, h2, h3, h4⟩ := h x List.mem_cons_self n ρ (by simp) hi
    obtain ⟨ys, ρ', g1, g2, g3, g4⟩ := lcGo_inv xs (n + 1) _ (acc ++ [y]) h4 fun z hz m ρ hm => h z (List.mem_cons_of_mem _ hz) m ρ (by simp; omega)
    refine ⟨y :: ys, ρ', ?_, by simp [g2], ?_, ?_⟩
    · unfold lcGo
      rw [h1]
      simp only [R.bind, h2]
      rw [g1]
      simp
    · intro z hz
      rcases List.mem_cons.mp hz with rfl | hz
      · exact h3
      · exact g3 z hz
    · have : n + (x :: xs).length = n + 1 + xs.length := by simp; omega
      rw [this]; exact g4
theorem mLc_inv {mi : MF} {f : MG} {S : List Nat} {me : ME} {Inv : Nat → En → Prop} {Pd : D → Prop} {ds : List D} {ρ ρ1 ρ0 : En} (n : Nat) (hi : mi ρ = .ok ds ρ1) (hc : clearS ρ1 S = true) (hw : wipeE ρ1 S = ρ0) (h0 : Inv n ρ0)
    (h : ∀ x ∈ ds, ∀ m ρ, m < n + ds.length → Inv m ρ → ∃ ρa y ρb, f x ρ = some ρa ∧ me ρa = .ok y ρb ∧ Pd y ∧ Inv (m + 1) (wipeE ρb S)) : ∃ ys ρ', mLc mi f S mtYes me ρ = .ok ys (restE ρ1 S ρ') ∧ ys.length = ds.length ∧ (∀ y ∈ ys, Pd y) ∧ Inv (n + ds.length) ρ' := by
  obtain ⟨ys, ρ', g1, g2, g3, g4⟩ := lcGo_inv ds n ρ0 [] h0 h
  refine ⟨ys, ρ', ?_, g2, g3, g4⟩
  unfold mLc
  rw [hi]
  simp only [R.bind, hc, if_true, hw]
  rw [g1]
  simp [noExc]
/-- place by place -/
inductive Al {α β : Type} (Rel : α → β → Prop) : List α → List β → Prop
  | nil : Al Rel [] []
  | cons {x : α} {y : β} {xs : List α} {ys : List β} : Rel x y → Al Rel xs ys → Al Rel (x :: xs) (y :: ys)
theorem Al.length {α β : Type} {Rel : α → β → Prop} : ∀ {xs : List α} {ys : List β}, Al Rel xs ys → xs.length = ys.length
  | _, _, .nil => rfl
  | _, _, .cons _ t => congrArg Nat.succ t.length
theorem lcGo_rel {f : MG} {S : List Nat} {me : ME} {Inv : Nat → En → Prop} {Rel : D → D → Prop} (c : Nat) : ∀ (ds : List D) (n : Nat) (ρ : En) (acc : List D), Inv n ρ → (∀ x ∈ ds, ∀ m ρ, m < n + c * ds.length → Inv m ρ → ∃ ρ1 y ρ3, f x ρ = some ρ1 ∧ me ρ1 = .ok y ρ3 ∧ Rel x y ∧ Inv (m + c) (wipeE ρ3 S)) → 0 < c →
    ∃ ys ρ', lcGo f S mtYes me ds acc ρ = .ok (acc ++ ys) ρ' ∧ Al Rel ds ys ∧ Inv (n + c * ds.length) ρ'
  | [], n, ρ, acc, hi, _, _ => ⟨[], ρ, by simp [lcGo], .nil, hi⟩
  | x :: xs, n, ρ, acc, hi, h, hc => by
    have e : n + c + c * xs.length = n + c * (x :: xs).length := by rw [List.length_cons, Nat.mul_succ]; omega
    obtain ⟨ρ1, y, ρ3, h1, h2, h3, h4⟩ := h x List.mem_cons_self n ρ (by rw [← e]; omega) hi
    obtain ⟨ys, ρ', g1, g2, g4⟩ := lcGo_rel c xs (n + c) _ (acc ++ [y]) h4 (fun z hz m ρ hm => h z (List.mem_cons_of_mem _ hz) m ρ (by rw [← e]; exact hm)) hc
    refine ⟨y :: ys, ρ', ?_, .cons h3 g2, by rw [← e]; exact g4⟩
    unfold lcGo
    rw [h1]
    simp only [R.bind, h2]
    rw [g1]
    simp
theorem mLc_rel {mi : MF} {f : MG} {S : List Nat} {me : ME} {Inv : Nat → En → Prop} {Rel : D → D → Prop} {ds : List D} {ρ ρ1 ρ0 : En} (c n : Nat) (hc0 : 0 < c) (hi : mi ρ = .ok ds ρ1) (hc : clearS ρ1 S = true) (hw : wipeE ρ1 S = ρ0) (h0 : Inv n ρ0)
    (h : ∀ x ∈ ds, ∀ m ρ, m < n + c * ds.length → Inv m ρ → ∃ ρa y ρb, f x ρ = some ρa ∧ me ρa = .ok y ρb ∧ Rel x y ∧ Inv (m + c) (wipeE ρb S)) : ∃ ys ρ', mLc mi f S mtYes me ρ = .ok ys (restE ρ1 S ρ') ∧ Al Rel ds ys ∧ Inv (n + c * ds.length) ρ' := by
  obtain ⟨ys, ρ', g1, g2, g4⟩ := lcGo_rel c ds n ρ0 [] h0 h hc0
  refine ⟨ys, ρ', ?_, g2, g4⟩
  unfold mLc
  rw [hi]
  simp only [R.bind, hc, if_true, hw]
  rw [g1]
  simp [noExc]
theorem forGo_inv {f : MG} {mb : MS} {Inv : Nat → En → Prop} : ∀ (ds : List D) (n : Nat) (ρ : En), Inv n ρ → (∀ x ∈ ds, ∀ m ρ, m < n + ds.length → Inv m ρ → ∃ ρ1 ρ2, f x ρ = some ρ1 ∧ mb ρ1 = .nx ρ2 ∧ Inv (m + 1) ρ2) → ∃ ρ', forGo f mb ds ρ = .nx ρ' ∧ Inv (n + ds.length) ρ'
  | [], n, ρ, hi, _ => ⟨ρ, rfl, hi⟩
  | x :: xs, n, ρ, hi, h => by
    obtain ⟨ρ1, ρ2, h1, h2, h3⟩ := h x List.mem_cons_self n ρ (by simp) hi
    obtain ⟨ρ', g1, g2⟩ := forGo_inv xs (n + 1) ρ2 h3 fun z hz m ρ hm => h z (List.mem_cons_of_mem _ hz) m ρ (by simp; omega)
    refine ⟨ρ', ?_, ?_⟩
    · unfold forGo
      rw [h1]
      simp only [h2]
      exact g1
    · have : n + (x :: xs).length = n + 1 + xs.length := by simp; omega
      rw [this]; exact g2
end DL
set_option Elab.async false
set_option linter.all false
set_option maxRecDepth 100000
set_option maxHeartbeats 4000000
namespace G08
open PySem PySem.Spec DL
/-- a pot, at most n draws behind it -/
def Pot (n : Nat) (p : List D) : Prop := ∃ a b k : Int, p = [.int a, .int b, .int k] ∧ 0 ≤ a ∧ 0 ≤ b ∧ b < 2 ^ 61 ∧ 0 ≤ k ∧ k ≤ n
theorem Pot.mono {n m : Nat} {p : List D} (h : Pot n p) (k : n ≤ m) : Pot m p := by
  obtain ⟨a, b, c, e, h1, h2, h3, h4, h5⟩ := h
  exact ⟨a, b, c, e, h1, h2, h3, h4, by omega⟩
theorem take_ok {n : Nat} {p : List D} {u : Int} (h : Pot n p) (hn : n < 2 ^ 20) (hu : 0 < u) (hs : u < 2 ^ 400) : ∃ r p', 0 ≤ r ∧ r < u ∧ F__law_take [.lst p, .int u] = .ok (.int r) [p'] ∧ Pot (n + 1) p' := by
  obtain ⟨a, b, c, rfl, h1, h2, h3, h4, h5⟩ := h
  by_cases ha : 0 < a
  · exact ⟨_, _, Int.emod_nonneg _ (by omega), Int.emod_lt_of_pos _ hu, take_own ha hu hs, _, b, c, rfl, Int.ediv_nonneg h1 (Int.le_of_lt hu), h2, h3, h4, by omega⟩
  · obtain rfl : a = 0 := by omega
    obtain ⟨r, r0, r1, e⟩ := take_blend h2 h3 h4 (by omega) hu
    exact ⟨r, _, r0, r1, e, 0, b, c + 1, rfl, by decide, h2, h3, by omega, by omega⟩
theorem of_lst {n : Nat} {p : List D} {xs : List D} (h : Pot n p) (hn : n < 2 ^ 20) (h0 : xs ≠ []) (hl : xs.length ≤ 1000) : ∃ x p', x ∈ xs ∧ F__law_of [.lst p, .lst xs] = .ok x [p'] ∧ Pot (n + 1) p' := by
  have hl0 : 0 < xs.length := List.length_pos_iff.mpr h0
  obtain ⟨r, p', r0, r1, e, hp⟩ := take_ok (u := xs.length) h hn (by omega) (Int.lt_of_le_of_lt (show (xs.length : Int) ≤ 1000 by omega) (by decide))
  have hr : r.toNat < xs.length := by omega
  refine ⟨xs[r.toNat], p', List.getElem_mem hr, ?_, hp⟩
  have hsz : xs.length ≤ 16777216 := by omega
  have g : xs[r.toNat]? = some xs[r.toNat] := List.getElem?_eq_getElem hr
  unfold F__law_of runF m__law_of enIn
  simp [argEn, ioSl, mSeq, mIfS, mT, asB, mBin, mV, mC, mXA, mVar, mFn, mFnF, getsO, valsO, Opd.get, R.bind, R.thenS, RS.bind, mSet, mSetF, mPut, mRet, mRetF, mL, mLst, mTup, mDrop, mIf, mUn, iNot, iNeg, mNotT, mAnd, mOr, mAndT, mOrT, mChain, mPub, pubE, iLt, iLe, iGt, iGe, isN, notN, ixD, iMod, iDiv, iMul, iPow, iSub, addD, cmpD, fInt, fLen, fAbs, fMax2, fMin2, fStr, fTuple, fList, maCons, maNil, ownAt, outOf, ioL, bin2, mPar, mpV, mpF, setP, mRaise, mCall, callV, mCallF, callVF, mCallIO, callIO, ioArgs, mAsg, gN, gT, gCs, gNs, sizeLine_eq, L2.atI, L2.ixN, e, r0, r1, g, hsz]
end G08
set_option Elab.async false
set_option linter.all false
set_option maxRecDepth 100000
set_option maxHeartbeats 4000000
namespace G08
open PySem PySem.Spec DL
abbrev Sg := List (Str × Int)
def sgD (sg : Sg) : D := .tup (sg.map fun q => .tup [.str q.1, .int q.2])
def sigs : List Sg := [[("m", 2)], [("m", 2), ("e", 0)], [("f", 1)], [("f", 1), ("c", 0)], [("a", 2), ("o", 2)], [("t", 3)], [("f", 1), ("m", 2), ("c", 0)]]
theorem signs_ok {n : Nat} {p : List D} (h : Pot n p) (hn : n < 2 ^ 20) : ∃ sg p', sg ∈ sigs ∧ F__law_signs [.lst p] = .ok (sgD sg) [p'] ∧ Pot (n + 1) p' := by
  obtain ⟨x, p', hx, e, hp⟩ := of_lst (xs := sigs.map sgD) h hn (by decide) (by decide)
  obtain ⟨sg, hs, rfl⟩ := List.mem_map.mp hx
  refine ⟨sg, p', hs, ?_, hp⟩
  simp [sigs, sgD] at e
  unfold F__law_signs runF m__law_signs enIn
  simp [argEn, ioSl, mSeq, mIfS, mT, asB, mBin, mV, mC, mXA, mVar, mFn, mFnF, getsO, valsO, Opd.get, R.bind, R.thenS, RS.bind, mSet, mSetF, mPut, mRet, mRetF, mL, mLst, mTup, mDrop, mIf, mUn, iNot, iNeg, mNotT, mAnd, mOr, mAndT, mOrT, mChain, mPub, pubE, iLt, iLe, iGt, iGe, isN, notN, ixD, iMod, iDiv, iMul, iPow, iSub, addD, cmpD, fInt, fLen, fAbs, fMax2, fMin2, fStr, fTuple, fList, maCons, maNil, ownAt, outOf, ioL, bin2, mPar, mpV, mpF, setP, mRaise, mCall, callV, mCallF, callVF, mCallIO, callIO, ioArgs, mAsg, gN, gT, gCs, gNs, sizeLine_eq, L2.atI, L2.ixN, e, sgD]
/-- rows: closed -/
def intIn (t : Int) : D → Bool
  | .int i => decide (0 ≤ i) && decide (i < t)
  | _ => false
def rowB (t : Int) (pl : Nat) : D → Bool
  | .tup xs => xs.length == pl && xs.all (intIn t)
  | _ => false
def rowsL (t pl : Int) : List D := match F__law_rows [.int t, .int pl] with
  | .ok (.lst rs) _ => rs
  | _ => []
def rowsB (t pl : Int) : Bool := match F__law_rows [.int t, .int pl] with
  | .ok (.lst rs) [] => rs.length == t.toNat ^ pl.toNat && rs.all (rowB t pl.toNat)
  | _ => false
theorem rows_all : ([1, 2, 3, 4, 5, 6] : List Int).all (fun t => ([0, 1, 2] : List Int).all fun pl => rowsB t pl) = true := by decide +kernel
theorem rows_all3 : ([1, 2] : List Int).all (fun t => rowsB t 3) = true := by decide +kernel
/-- things and places that come up -/
def TP (t pl : Int) : Prop := 1 ≤ t ∧ t ≤ 6 ∧ 0 ≤ pl ∧ pl ≤ 3 ∧ (pl = 3 → t ≤ 2)
theorem rows_ok {t pl : Int} (h : TP t pl) : F__law_rows [.int t, .int pl] = .ok (.lst (rowsL t pl)) [] ∧ (rowsL t pl).length = t.toNat ^ pl.toNat ∧ ∀ r ∈ rowsL t pl, rowB t pl.toNat r = true := by
  have hb : rowsB t pl = true := by
    obtain ⟨h1, h2, h3, h4, h5⟩ := h
    by_cases h6 : pl = 3
    · subst h6
      have q := rows_all3
      rw [List.all_eq_true] at q
      refine q t ?_
      have := h5 rfl
      have : t = 1 ∨ t = 2 := by omega
      rcases this with rfl | rfl <;> simp
    · have q := rows_all
      rw [List.all_eq_true] at q
      have q2 := q t (by have : t = 1 ∨ t = 2 ∨ t = 3 ∨ t = 4 ∨ t = 5 ∨ t = 6 := by omega
                         rcases this with rfl | rfl | rfl | rfl | rfl | rfl <;> simp)
      rw [List.all_eq_true] at q2
      refine q2 pl ?_
      have : pl = 0 ∨ pl = 1 ∨ pl = 2 := by omega
      rcases this with rfl | rfl | rfl <;> simp
  unfold rowsB at hb
  unfold rowsL
  split at hb
  · rename_i rs e
    rw [e]
    simp only [Bool.and_eq_true, beq_iff_eq, List.all_eq_true] at hb
    exact ⟨rfl, hb.1, hb.2⟩
  · cases hb
end G08
set_option Elab.async false
set_option linter.all false
set_option maxRecDepth 100000
set_option maxHeartbeats 4000000
namespace G08
open PySem PySem.Spec DL
def kr_1 : MS := (mSet 3 (mCallIO F__law_take 0 (maCons (mXA 0) (maCons (mV (mC (.int 6))) maNil))))
def kr_2 : MS := (mSet 4 (mCall F__law_rows (maCons (mXA 1) (maCons (mXA 2) maNil))))
def kr_3 : MS := (mIfS (mOrT (mT (mBin (cmpD eqD) (mXA 2) (mV (mC (.int 0))))) (mT (mBin iGt (mXA 3) (mV (mC (.int 3)))))) (mRet (mFn fTuple (maCons (mV (mL (mLc (mSeqI (mVar 4)) (gN 5) [5] (fun ρ => .ok true ρ) (mCallIO F__law_take 0 (maCons (mXA 0) (maCons (mXA 1) maNil)))))) maNil))) .nx)
def kr_tail : MS := (mSeq (mIfS (mT (mBin (cmpD eqD) (mXA 3) (mV (mC (.int 0))))) (mRet (mFn fTuple (maCons (mV (mL (mLc (mSeqI (mVar 4)) (gN 5) [5] (fun ρ => .ok true ρ) (mBin iMod (mV (mIf (mT (mBin (cmpD neD) (mXA 2) (mV (mC (.int 3))))) (mFn fSum (maCons (mXA 5) maNil)) (mBin addD (mV (mBin iSub (mV (mBin ixD (mXA 5) (mV (mC (.int 0))))) (mV (mBin ixD (mXA 5) (mV (mC (.int 1))))))) (mV (mBin ixD (mXA 5) (mV (mC (.int 2)))))))) (mXA 1))))) maNil))) .nx) (mSeq (mIfS (mT (mBin (cmpD eqD) (mXA 3) (mV (mC (.int 1))))) (mRet (mFn fTuple (maCons (mV (mL (mLc (mSeqI (mVar 4)) (gN 5) [5] (fun ρ => .ok true ρ) (mIf (mT (mBin (cmpD neD) (mXA 2) (mV (mC (.int 3))))) (mFn fMin (maCons (mXA 5) maNil)) (mBin ixD (mV (mL (mFnF fSorted (maCons (mXA 5) maNil)))) (mV (mC (.int 1)))))))) maNil))) .nx) (mRet (mFn fTuple (maCons (mV (mL (mLc (mSeqI (mVar 4)) (gN 5) [5] (fun ρ => .ok true ρ) (mIf (mT (mBin (cmpD eqD) (mXA 3) (mV (mC (.int 2))))) (mBin ixD (mXA 5) (mV (mC (.int 0)))) (mFn fMax (maCons (mXA 5) maNil)))))) maNil)))))
theorem kr_split : m__law_known_row = mSeq kr_1 (mSeq kr_2 (mSeq kr_3 kr_tail)) := rfl
def krE (p : List D) (t pl k : Int) : En := [.own p, .val (.int t), .val (.int pl), .val (.int k), .val (.lst (rowsL t pl)), .no]
def krV (t pl k : Int) : List D := match kr_tail (krE [.int 0, .int 0, .int 0] t pl k) with
  | .rt (.tup ys) _ => ys
  | _ => []
def krB (t pl k : Int) : Bool := (krV t pl k).length == t.toNat ^ pl.toNat && (krV t pl k).all (intIn t)
theorem kr_all : ([1, 2, 3, 4, 5, 6] : List Int).all (fun t => ([1, 2] : List Int).all fun pl => ([0, 1, 2, 3] : List Int).all fun k => krB t pl k) = true := by decide +kernel
theorem kr_all3 : ([1, 2] : List Int).all (fun t => ([0, 1, 2, 3] : List Int).all fun k => krB t 3 k) = true := by decide +kernel
def krP (t pl k : Int) : Prop := ∀ a b c : Int, kr_tail (krE [.int a, .int b, .int c] t pl k) = .rt (.tup (krV t pl k)) (krE [.int a, .int b, .int c] t pl k)
theorem kr_1_1_0 : krP 1 1 0 := fun a b c => by kernel_rfl
theorem kr_1_1_1 : krP 1 1 1 := fun a b c => by kernel_rfl
theorem kr_1_1_2 : krP 1 1 2 := fun a b c => by kernel_rfl
theorem kr_1_1_3 : krP 1 1 3 := fun a b c => by kernel_rfl
theorem kr_1_2_0 : krP 1 2 0 := fun a b c => by kernel_rfl
theorem kr_1_2_1 : krP 1 2 1 := fun a b c => by kernel_rfl
theorem kr_1_2_2 : krP 1 2 2 := fun a b c => by kernel_rfl
theorem kr_1_2_3 : krP 1 2 3 := fun a b c => by kernel_rfl
theorem kr_1_3_0 : krP 1 3 0 := fun a b c => by kernel_rfl
theorem kr_1_3_1 : krP 1 3 1 := fun a b c => by kernel_rfl
theorem kr_1_3_2 : krP 1 3 2 := fun a b c => by kernel_rfl
theorem kr_1_3_3 : krP 1 3 3 := fun a b c => by kernel_rfl
theorem kr_2_1_0 : krP 2 1 0 := fun a b c => by kernel_rfl
theorem kr_2_1_1 : krP 2 1 1 := fun a b c => by kernel_rfl
theorem kr_2_1_2 : krP 2 1 2 := fun a b c => by kernel_rfl
theorem kr_2_1_3 : krP 2 1 3 := fun a b c => by kernel_rfl
theorem kr_2_2_0 : krP 2 2 0 := fun a b c => by kernel_rfl
theorem kr_2_2_1 : krP 2 2 1 := fun a b c => by kernel_rfl
theorem kr_2_2_2 : krP 2 2 2 := fun a b c => by kernel_rfl
theorem kr_2_2_3 : krP 2 2 3 := fun a b c => by kernel_rfl
theorem kr_2_3_0 : krP 2 3 0 := fun a b c => by kernel_rfl
theorem kr_2_3_1 : krP 2 3 1 := fun a b c => by kernel_rfl
theorem kr_2_3_2 : krP 2 3 2 := fun a b c => by kernel_rfl
theorem kr_2_3_3 : krP 2 3 3 := fun a b c => by kernel_rfl
theorem kr_3_1_0 : krP 3 1 0 := fun a b c => by kernel_rfl
theorem kr_3_1_1 : krP 3 1 1 := fun a b c => by kernel_rfl
theorem kr_3_1_2 : krP 3 1 2 := fun a b c => by kernel_rfl
theorem kr_3_1_3 : krP 3 1 3 := fun a b c => by kernel_rfl
theorem kr_3_2_0 : krP 3 2 0 := fun a b c => by kernel_rfl
theorem kr_3_2_1 : krP 3 2 1 := fun a b c => by kernel_rfl
theorem kr_3_2_2 : krP 3 2 2 := fun a b c => by kernel_rfl
theorem kr_3_2_3 : krP 3 2 3 := fun a b c => by kernel_rfl
theorem kr_4_1_0 : krP 4 1 0 := fun a b c => by kernel_rfl
theorem kr_4_1_1 : krP 4 1 1 := fun a b c => by kernel_rfl
theorem kr_4_1_2 : krP 4 1 2 := fun a b c => by kernel_rfl
theorem kr_4_1_3 : krP 4 1 3 := fun a b c => by kernel_rfl
theorem kr_4_2_0 : krP 4 2 0 := fun a b c => by kernel_rfl
theorem kr_4_2_1 : krP 4 2 1 := fun a b c => by kernel_rfl
theorem kr_4_2_2 : krP 4 2 2 := fun a b c => by kernel_rfl
theorem kr_4_2_3 : krP 4 2 3 := fun a b c => by kernel_rfl
theorem kr_5_1_0 : krP 5 1 0 := fun a b c => by kernel_rfl
theorem kr_5_1_1 : krP 5 1 1 := fun a b c => by kernel_rfl
theorem kr_5_1_2 : krP 5 1 2 := fun a b c => by kernel_rfl
theorem kr_5_1_3 : krP 5 1 3 := fun a b c => by kernel_rfl
theorem kr_5_2_0 : krP 5 2 0 := fun a b c => by kernel_rfl
theorem kr_5_2_1 : krP 5 2 1 := fun a b c => by kernel_rfl
theorem kr_5_2_2 : krP 5 2 2 := fun a b c => by kernel_rfl
theorem kr_5_2_3 : krP 5 2 3 := fun a b c => by kernel_rfl
theorem kr_6_1_0 : krP 6 1 0 := fun a b c => by kernel_rfl
theorem kr_6_1_1 : krP 6 1 1 := fun a b c => by kernel_rfl
theorem kr_6_1_2 : krP 6 1 2 := fun a b c => by kernel_rfl
theorem kr_6_1_3 : krP 6 1 3 := fun a b c => by kernel_rfl
theorem kr_6_2_0 : krP 6 2 0 := fun a b c => by kernel_rfl
theorem kr_6_2_1 : krP 6 2 1 := fun a b c => by kernel_rfl
theorem kr_6_2_2 : krP 6 2 2 := fun a b c => by kernel_rfl
theorem kr_6_2_3 : krP 6 2 3 := fun a b c => by kernel_rfl
end G08
set_option Elab.async false
set_option linter.all false
set_option maxRecDepth 100000
set_option maxHeartbeats 4000000
namespace G08
open PySem PySem.Spec DL
theorem krP_all {t pl k : Int} (h : TP t pl) (h0 : pl ≠ 0) (k0 : 0 ≤ k) (k3 : k ≤ 3) : krP t pl k ∧ krB t pl k = true := by
  obtain ⟨h1, h2, h3, h4, h5⟩ := h
  have hk : k = 0 ∨ k = 1 ∨ k = 2 ∨ k = 3 := by omega
  by_cases h6 : pl = 3
  · subst h6
    have q := h5 rfl
    have ht : t = 1 ∨ t = 2 := by omega
    have z := kr_all3
    rw [List.all_eq_true] at z
    have z1 := z t (by rcases ht with rfl | rfl <;> simp)
    rw [List.all_eq_true] at z1
    refine ⟨?_, z1 k (by rcases hk with rfl | rfl | rfl | rfl <;> simp)⟩
    rcases ht with rfl | rfl
    · rcases hk with rfl | rfl | rfl | rfl
      · exact kr_1_3_0
      · exact kr_1_3_1
      · exact kr_1_3_2
      · exact kr_1_3_3
    · rcases hk with rfl | rfl | rfl | rfl
      · exact kr_2_3_0
      · exact kr_2_3_1
      · exact kr_2_3_2
      · exact kr_2_3_3
  · have hp : pl = 1 ∨ pl = 2 := by omega
    have ht : t = 1 ∨ t = 2 ∨ t = 3 ∨ t = 4 ∨ t = 5 ∨ t = 6 := by omega
    have z := kr_all
    rw [List.all_eq_true] at z
    have z1 := z t (by rcases ht with rfl | rfl | rfl | rfl | rfl | rfl <;> simp)
    rw [List.all_eq_true] at z1
    have z2 := z1 pl (by rcases hp with rfl | rfl <;> simp)
    rw [List.all_eq_true] at z2
    refine ⟨?_, z2 k (by rcases hk with rfl | rfl | rfl | rfl <;> simp)⟩
    rcases ht with rfl | rfl | rfl | rfl | rfl | rfl
    · rcases hp with rfl | rfl
      · rcases hk with rfl | rfl | rfl | rfl
        · exact kr_1_1_0
        · exact kr_1_1_1
        · exact kr_1_1_2
        · exact kr_1_1_3
      · rcases hk with rfl | rfl | rfl | rfl
        · exact kr_1_2_0
        · exact kr_1_2_1
        · exact kr_1_2_2
        · exact kr_1_2_3
    · rcases hp with rfl | rfl
      · rcases hk with rfl | rfl | rfl | rfl
        · exact kr_2_1_0
        · exact kr_2_1_1
        · exact kr_2_1_2
        · exact kr_2_1_3
      · rcases hk with rfl | rfl | rfl | rfl
        · exact kr_2_2_0
        · exact kr_2_2_1
        · exact kr_2_2_2
        · exact kr_2_2_3
    · rcases hp with rfl | rfl
      · rcases hk with rfl | rfl | rfl | rfl
        · exact kr_3_1_0
        · exact kr_3_1_1
        · exact kr_3_1_2
        · exact kr_3_1_3
      · rcases hk with rfl | rfl | rfl | rfl
        · exact kr_3_2_0
        · exact kr_3_2_1
        · exact kr_3_2_2
        · exact kr_3_2_3
    · rcases hp with rfl | rfl
      · rcases hk with rfl | rfl | rfl | rfl
        · exact kr_4_1_0
        · exact kr_4_1_1
        · exact kr_4_1_2
        · exact kr_4_1_3
      · rcases hk with rfl | rfl | rfl | rfl
        · exact kr_4_2_0
        · exact kr_4_2_1
        · exact kr_4_2_2
        · exact kr_4_2_3
    · rcases hp with rfl | rfl
      · rcases hk with rfl | rfl | rfl | rfl
        · exact kr_5_1_0
        · exact kr_5_1_1
        · exact kr_5_1_2
        · exact kr_5_1_3
      · rcases hk with rfl | rfl | rfl | rfl
        · exact kr_5_2_0
        · exact kr_5_2_1
        · exact kr_5_2_2
        · exact kr_5_2_3
    · rcases hp with rfl | rfl
      · rcases hk with rfl | rfl | rfl | rfl
        · exact kr_6_1_0
        · exact kr_6_1_1
        · exact kr_6_1_2
        · exact kr_6_1_3
      · rcases hk with rfl | rfl | rfl | rfl
        · exact kr_6_2_0
        · exact kr_6_2_1
        · exact kr_6_2_2
        · exact kr_6_2_3
theorem known_row_ok {n : Nat} {p : List D} {t pl : Int} (h : Pot n p) (hn : n + 300 < 2 ^ 20) (ht : TP t pl) : ∃ ys p', F__law_known_row [.lst p, .int t, .int pl] = .ok (.tup ys) [p'] ∧ Pot (n + 300) p' ∧ ys.length = t.toNat ^ pl.toNat ∧ ∀ y ∈ ys, intIn t y = true := by
  obtain ⟨k, p1, k0, k1, e, hp1⟩ := take_ok (u := 6) h (by omega) (by decide) (by decide)
  obtain ⟨r1, r2, r3⟩ := rows_ok ht
  have s1 : kr_1 [.own p, .val (.int t), .val (.int pl), .no, .no, .no] = .nx [.own p1, .val (.int t), .val (.int pl), .val (.int k), .no, .no] := by
    unfold kr_1
    simp [argEn, ioSl, mSeq, mIfS, mT, asB, mBin, mV, mC, mXA, mVar, mFn, mFnF, getsO, valsO, Opd.get, R.bind, R.thenS, RS.bind, mSet, mSetF, mPut, mRet, mRetF, mL, mLst, mTup, mDrop, mIf, mUn, iNot, iNeg, mNotT, mAnd, mOr, mAndT, mOrT, mChain, mPub, pubE, iLt, iLe, iGt, iGe, isN, notN, ixD, iMod, iDiv, iMul, iPow, iSub, addD, cmpD, fInt, fLen, fAbs, fMax2, fMin2, fStr, fTuple, fList, maCons, maNil, ownAt, outOf, ioL, bin2, mPar, mpV, mpF, setP, mRaise, mCall, callV, mCallF, callVF, mCallIO, callIO, ioArgs, mAsg, gN, gT, gCs, gNs, sizeLine_eq, L2.atI, L2.ixN, eqD, neD, flatD, eqFl, e]
  have s2 : kr_2 [.own p1, .val (.int t), .val (.int pl), .val (.int k), .no, .no] = .nx (krE p1 t pl k) := by
    unfold kr_2 krE
    simp [argEn, ioSl, mSeq, mIfS, mT, asB, mBin, mV, mC, mXA, mVar, mFn, mFnF, getsO, valsO, Opd.get, R.bind, R.thenS, RS.bind, mSet, mSetF, mPut, mRet, mRetF, mL, mLst, mTup, mDrop, mIf, mUn, iNot, iNeg, mNotT, mAnd, mOr, mAndT, mOrT, mChain, mPub, pubE, iLt, iLe, iGt, iGe, isN, notN, ixD, iMod, iDiv, iMul, iPow, iSub, addD, cmpD, fInt, fLen, fAbs, fMax2, fMin2, fStr, fTuple, fList, maCons, maNil, ownAt, outOf, ioL, bin2, mPar, mpV, mpF, setP, mRaise, mCall, callV, mCallF, callVF, mCallIO, callIO, ioArgs, mAsg, gN, gT, gCs, gNs, sizeLine_eq, L2.atI, L2.ixN, eqD, neD, flatD, eqFl, r1]
  have go : ∀ (ys : List D) (p2 : List D), mSeq kr_3 kr_tail (krE p1 t pl k) = .rt (.tup ys) (krE p2 t pl k) → F__law_known_row [.lst p, .int t, .int pl] = .ok (.tup ys) [p2] := fun ys p2 hm => by
    unfold F__law_known_row runF
    rw [kr_split]
    have e0 : enIn [0] 6 [D.lst p, .int t, .int pl] = [.own p, .val (.int t), .val (.int pl), .no, .no, .no] := by simp [enIn, argEn, ioSl]
    rw [e0]
    unfold mSeq at hm ⊢
    rw [s1]
    show outOf [0] false ((kr_2 _).bind _) = _
    rw [s2]
    show outOf [0] false (RS.bind (kr_3 _) _) = _
    rw [hm]
    simp [outOf, ioL, krE, ownAt]
  have pw : t.toNat ^ pl.toNat ≤ 216 := by
    obtain ⟨h1, h2, h3, h4, h5⟩ := ht
    have a : t.toNat ≤ 6 := by omega
    have b : pl.toNat ≤ 3 := by omega
    exact Nat.le_trans (Nat.pow_le_pow_left a _) (Nat.le_trans (Nat.pow_le_pow_right (by decide) b) (by decide))
  by_cases hk : pl = 0 ∨ 3 < k
  · obtain ⟨ys, ρ', g1, g2, g3, g4⟩ := mLc_inv (mi := mSeqI (mVar 4)) (f := gN 5) (S := [5]) (me := mCallIO F__law_take 0 (maCons (mXA 0) (maCons (mXA 1) maNil))) (ρ := krE p1 t pl k) (ρ1 := krE p1 t pl k) (ρ0 := krE p1 t pl k) (ds := rowsL t pl)
      (Inv := fun m ρ => ∃ p, ρ = krE p t pl k ∧ Pot m p) (Pd := fun y => intIn t y = true) (n + 1)
      (by simp [mSeqI, mVar, krE, R.bind, walkOf]) (by simp [clearS, krE, notOwn]) (by simp [wipeE, krE]) ⟨p1, rfl, hp1⟩ (fun x _ m ρ hm hI => by
        obtain ⟨p, rfl, hp⟩ := hI
        have htu := ht
        obtain ⟨t1, t2, _⟩ := htu
        obtain ⟨r, p', q0, q1, e', hp'⟩ := take_ok (u := t) hp (by omega) (by omega) (Int.lt_of_le_of_lt t2 (by decide))
        refine ⟨(krE p t pl k).set 5 (.val x), .int r, (krE p' t pl k).set 5 (.val x), rfl, ?_, ?_, p', ?_, hp'⟩
        · simp [argEn, ioSl, mSeq, mIfS, mT, asB, mBin, mV, mC, mXA, mVar, mFn, mFnF, getsO, valsO, Opd.get, R.bind, R.thenS, RS.bind, mSet, mSetF, mPut, mRet, mRetF, mL, mLst, mTup, mDrop, mIf, mUn, iNot, iNeg, mNotT, mAnd, mOr, mAndT, mOrT, mChain, mPub, pubE, iLt, iLe, iGt, iGe, isN, notN, ixD, iMod, iDiv, iMul, iPow, iSub, addD, cmpD, fInt, fLen, fAbs, fMax2, fMin2, fStr, fTuple, fList, maCons, maNil, ownAt, outOf, ioL, bin2, mPar, mpV, mpF, setP, mRaise, mCall, callV, mCallF, callVF, mCallIO, callIO, ioArgs, mAsg, gN, gT, gCs, gNs, sizeLine_eq, L2.atI, L2.ixN, eqD, neD, flatD, eqFl, krE, e']
        · simp [intIn, q0, q1]
        · simp [wipeE, krE])
    obtain ⟨p2, rfl, hp2⟩ := g4
    refine ⟨ys, p2, go ys p2 ?_, hp2.mono (by omega), g2.trans r2, g3⟩
    have ez : restE (krE p1 t pl k) [5] (krE p2 t pl k) = krE p2 t pl k := by simp [restE, krE]
    rw [ez] at g1
    have s3 : kr_3 (krE p1 t pl k) = .rt (.tup ys) (krE p2 t pl k) := by
      unfold kr_3
      have g1' : mLc (mSeqI (mVar 4)) (gN 5) [5] (fun ρ => .ok true ρ) (mCallIO F__law_take 0 (maCons (mXA 0) (maCons (mXA 1) maNil))) [.own p1, .val (.int t), .val (.int pl), .val (.int k), .val (.lst (rowsL t pl)), .no] = .ok ys (krE p2 t pl k) := g1
      have hz : ys.length ≤ 16777216 := by omega
      have hk2 : pl = 0 ∨ (pl ≠ 0 ∧ 3 < k) := by omega
      rcases hk2 with hk | hk
      · subst hk
        simp [argEn, ioSl, mSeq, mIfS, mT, asB, mBin, mV, mC, mXA, mVar, mFn, mFnF, getsO, valsO, Opd.get, R.bind, R.thenS, RS.bind, mSet, mSetF, mPut, mRet, mRetF, mL, mLst, mTup, mDrop, mIf, mUn, iNot, iNeg, mNotT, mAnd, mOr, mAndT, mOrT, mChain, mPub, pubE, iLt, iLe, iGt, iGe, isN, notN, ixD, iMod, iDiv, iMul, iPow, iSub, addD, cmpD, fInt, fLen, fAbs, fMax2, fMin2, fStr, fTuple, fList, maCons, maNil, ownAt, outOf, ioL, bin2, mPar, mpV, mpF, setP, mRaise, mCall, callV, mCallF, callVF, mCallIO, callIO, ioArgs, mAsg, gN, gT, gCs, gNs, sizeLine_eq, L2.atI, L2.ixN, eqD, neD, flatD, eqFl, krE, g1', hz]
      · have hb : (pl == (0 : Int)) = false := beq_false_of_ne hk.1
        simp [argEn, ioSl, mSeq, mIfS, mT, asB, mBin, mV, mC, mXA, mVar, mFn, mFnF, getsO, valsO, Opd.get, R.bind, R.thenS, RS.bind, mSet, mSetF, mPut, mRet, mRetF, mL, mLst, mTup, mDrop, mIf, mUn, iNot, iNeg, mNotT, mAnd, mOr, mAndT, mOrT, mChain, mPub, pubE, iLt, iLe, iGt, iGe, isN, notN, ixD, iMod, iDiv, iMul, iPow, iSub, addD, cmpD, fInt, fLen, fAbs, fMax2, fMin2, fStr, fTuple, fList, maCons, maNil, ownAt, outOf, ioL, bin2, mPar, mpV, mpF, setP, mRaise, mCall, callV, mCallF, callVF, mCallIO, callIO, ioArgs, mAsg, gN, gT, gCs, gNs, sizeLine_eq, L2.atI, L2.ixN, eqD, neD, flatD, eqFl, krE, g1', hz, hb, hk.2]
    unfold mSeq
    rw [s3]
    rfl
  · have hk' : pl ≠ 0 ∧ k ≤ 3 := by omega
    obtain ⟨a, b, c, rfl, hh⟩ := hp1
    obtain ⟨kp, kb⟩ := krP_all ht hk'.1 k0 hk'.2
    simp only [krB, Bool.and_eq_true, beq_iff_eq, List.all_eq_true] at kb
    refine ⟨krV t pl k, _, go _ [.int a, .int b, .int c] ?_, Pot.mono ⟨a, b, c, rfl, hh⟩ (by omega), kb.1, kb.2⟩
    have s3 : kr_3 (krE [.int a, .int b, .int c] t pl k) = .nx (krE [.int a, .int b, .int c] t pl k) := by
      have n3 : ¬ 3 < k := by omega
      have hb : (pl == (0 : Int)) = false := beq_false_of_ne hk'.1
      unfold kr_3
      simp [argEn, ioSl, mSeq, mIfS, mT, asB, mBin, mV, mC, mXA, mVar, mFn, mFnF, getsO, valsO, Opd.get, R.bind, R.thenS, RS.bind, mSet, mSetF, mPut, mRet, mRetF, mL, mLst, mTup, mDrop, mIf, mUn, iNot, iNeg, mNotT, mAnd, mOr, mAndT, mOrT, mChain, mPub, pubE, iLt, iLe, iGt, iGe, isN, notN, ixD, iMod, iDiv, iMul, iPow, iSub, addD, cmpD, fInt, fLen, fAbs, fMax2, fMin2, fStr, fTuple, fList, maCons, maNil, ownAt, outOf, ioL, bin2, mPar, mpV, mpF, setP, mRaise, mCall, callV, mCallF, callVF, mCallIO, callIO, ioArgs, mAsg, gN, gT, gCs, gNs, sizeLine_eq, L2.atI, L2.ixN, eqD, neD, flatD, eqFl, krE, hb, n3]
    unfold mSeq
    rw [s3]
    exact kp a b c
end G08
set_option Elab.async false
set_option linter.all false
set_option maxRecDepth 100000
set_option maxHeartbeats 4000000
namespace G08
open PySem PySem.Spec DL
/-- a row of the table for the sign x -/
def RowOf (t : Int) (x r : D) : Prop := ∃ nm pl ys, x = .tup [.str nm, .int pl] ∧ r = .tup ys ∧ ys.length = t.toNat ^ pl.toNat ∧ ∀ y ∈ ys, intIn t y = true
def sgL (sg : Sg) : List D := sg.map fun q => .tup [.str q.1, .int q.2]
theorem table_ok {n : Nat} {p : List D} {sg : Sg} {most : Int} (h : Pot n p) (hn : n + 2000 < 2 ^ 20) (m1 : 1 ≤ most) (m2 : most ≤ 6) (hs : sg.length ≤ 3) (hp : ∀ q ∈ sg, 0 ≤ q.2 ∧ q.2 ≤ 3 ∧ (q.2 = 3 → most ≤ 2)) :
    ∃ t rows p', 1 ≤ t ∧ t ≤ most ∧ F__law_table [.lst p, sgD sg, .int most] = .ok (.tup [.int t, .tup rows]) [p'] ∧ Al (RowOf t) (sgL sg) rows ∧ Pot (n + 1000) p' := by
  obtain ⟨k, p1, k0, k1, e, hp1⟩ := take_ok (u := most) h (by omega) (by omega) (Int.lt_of_le_of_lt m2 (by decide))
  generalize ht : 1 + k = t
  have t1 : 1 ≤ t := by omega
  have t2 : t ≤ most := by omega
  have hlen : (sgL sg).length = sg.length := by simp [sgL]
  obtain ⟨rows, ρ', g1, g2, p2, rfl, hp2⟩ := mLc_rel (mi := mSeqI (mVar 1)) (f := gT 2 (gCs (gN 4) (gCs (gN 5) gNs))) (S := [4, 5]) (me := mCallIO F__law_known_row 0 (maCons (mXA 0) (maCons (mXA 3) (maCons (mXA 5) maNil))))
    (ρ := [.own p1, .val (.tup (sgL sg)), .val (.int most), .val (.int t), .no, .no]) (ρ1 := [.own p1, .val (.tup (sgL sg)), .val (.int most), .val (.int t), .no, .no]) (ρ0 := [.own p1, .val (.tup (sgL sg)), .val (.int most), .val (.int t), .no, .no]) (ds := sgL sg)
    (Inv := fun m ρ => ∃ p, ρ = [.own p, .val (.tup (sgL sg)), .val (.int most), .val (.int t), .no, .no] ∧ Pot m p) (Rel := RowOf t) 300 (n + 1) (by decide)
    (by simp [mSeqI, mVar, R.bind, walkOf]) (by simp [clearS, notOwn]) (by simp [wipeE]) ⟨p1, rfl, hp1⟩ (fun x hx m ρ hm hI => by
      obtain ⟨p, rfl, hq⟩ := hI
      obtain ⟨⟨nm, pl⟩, hqs, rfl⟩ := List.mem_map.mp hx
      obtain ⟨q0, q3, qm⟩ := hp _ hqs
      obtain ⟨ys, p', e', hp', l, al⟩ := known_row_ok (t := t) (pl := pl) hq (by omega) ⟨t1, by omega, q0, q3, fun z => by have := qm z; omega⟩
      refine ⟨[.own p, .val (.tup (sgL sg)), .val (.int most), .val (.int t), .val (.str nm), .val (.int pl)], .tup ys, [.own p', .val (.tup (sgL sg)), .val (.int most), .val (.int t), .val (.str nm), .val (.int pl)], ?_, ?_, ⟨nm, pl, ys, rfl, rfl, l, al⟩, p', ?_, hp'⟩
      · simp [gT, gCs, gN, gNs]
      · simp [argEn, ioSl, mSeq, mIfS, mT, asB, mBin, mV, mC, mXA, mVar, mFn, mFnF, getsO, valsO, Opd.get, R.bind, R.thenS, RS.bind, mSet, mSetF, mPut, mRet, mRetF, mL, mLst, mTup, mDrop, mIf, mUn, iNot, iNeg, mNotT, mAnd, mOr, mAndT, mOrT, mChain, mPub, pubE, iLt, iLe, iGt, iGe, isN, notN, ixD, iMod, iDiv, iMul, iPow, iSub, addD, cmpD, fInt, fLen, fAbs, fMax2, fMin2, fStr, fTuple, fList, maCons, maNil, ownAt, outOf, ioL, bin2, mPar, mpV, mpF, setP, mRaise, mCall, callV, mCallF, callVF, mCallIO, callIO, ioArgs, mAsg, gN, gT, gCs, gNs, sizeLine_eq, L2.atI, L2.ixN, eqD, neD, flatD, eqFl, e']
      · simp [wipeE])
  refine ⟨t, rows, p2, t1, t2, ?_, g2, hp2.mono (by omega)⟩
  have hz : rows.length ≤ 16777216 := by rw [← g2.length]; omega
  have ez : restE [.own p1, .val (.tup (sgL sg)), .val (.int most), .val (.int t), .no, .no] [4, 5] [.own p2, .val (.tup (sgL sg)), .val (.int most), .val (.int t), .no, .no] = [.own p2, .val (.tup (sgL sg)), .val (.int most), .val (.int t), .no, .no] := by simp [restE]
  rw [ez] at g1
  have es : sgD sg = .tup (sgL sg) := rfl
  rw [es]
  unfold F__law_table runF m__law_table enIn
  have g1' := g1
  unfold mtYes at g1'
  simp [argEn, ioSl, mSeq, mIfS, mT, asB, mBin, mV, mC, mXA, mVar, mFn, mFnF, getsO, valsO, Opd.get, R.bind, R.thenS, RS.bind, mSet, mSetF, mPut, mRet, mRetF, mL, mLst, mTup, mDrop, mIf, mUn, iNot, iNeg, mNotT, mAnd, mOr, mAndT, mOrT, mChain, mPub, pubE, iLt, iLe, iGt, iGe, isN, notN, ixD, iMod, iDiv, iMul, iPow, iSub, addD, cmpD, fInt, fLen, fAbs, fMax2, fMin2, fStr, fTuple, fList, maCons, maNil, ownAt, outOf, ioL, bin2, mPar, mpV, mpF, setP, mRaise, mCall, callV, mCallF, callVF, mCallIO, callIO, ioArgs, mAsg, gN, gT, gCs, gNs, sizeLine_eq, L2.atI, L2.ixN, eqD, neD, flatD, eqFl, e, ht, g1', hz]
end G08
set_option Elab.async false
set_option linter.all false
set_option maxRecDepth 100000
set_option maxHeartbeats 4000000
namespace G08
open PySem PySem.Spec DL
/-- a figure -/
def dig (w : Str) : Option Int := match w.cps.toList with
  | [c] => if 48 ≤ c ∧ c ≤ 57 then some ((c : Int) - 48) else none
  | _ => none
theorem str_len (w : Str) : w.length = w.cps.toList.length := by
  rw [Array.length_toList]; rfl
theorem one_str {w : Str} {c : Nat} (h : w.cps.toList = [c]) : w = ⟨#[c]⟩ := by
  obtain ⟨cps⟩ := w
  have : cps = #[c] := Array.toList_inj.mp (by simpa using h)
  rw [this]
theorem figs_mem (c : Nat) : c ∈ ("0123456789" : Str).cps.toList ↔ 48 ≤ c ∧ c ≤ 57 := by
  have e : ("0123456789" : Str).cps.toList = [48, 49, 50, 51, 52, 53, 54, 55, 56, 57] := by decide +kernel
  rw [e]
  simp
  omega
theorem dig_int {c : Nat} (h : 48 ≤ c ∧ c ≤ 57) : PySem.intText? ⟨#[c]⟩ = some ((c : Int) - 48) := by
  have : c = 48 ∨ c = 49 ∨ c = 50 ∨ c = 51 ∨ c = 52 ∨ c = 53 ∨ c = 54 ∨ c = 55 ∨ c = 56 ∨ c = 57 := by omega
  rcases this with rfl | rfl | rfl | rfl | rfl | rfl | rfl | rfl | rfl | rfl <;> decide +kernel
/-- what thing_in tells -/
def thingV (w : Str) (n : Int) : D := match dig w with
  | some i => if i < n then .int i else .non
  | none => .non
theorem thing_in_ok {w : Str} {n : Int} (hw : w.length ≤ 16777216) : F_thing_in [.str w, .int n] = .ok (thingV w n) [] := by
  have hl := str_len w
  unfold F_thing_in runF m_thing_in enIn thingV dig
  cases h : w.cps.toList with
  | nil =>
    rw [h] at hl
    have z : (w.length : Int) = 0 := by rw [hl]; rfl
    simp [argEn, ioSl, mSeq, mIfS, mT, asB, mBin, mV, mC, mXA, mVar, mFn, mFnF, getsO, valsO, Opd.get, R.bind, R.thenS, RS.bind, mSet, mSetF, mPut, mRet, mRetF, mL, mLst, mTup, mDrop, mIf, mUn, iNot, iNeg, mNotT, mAnd, mOr, mAndT, mOrT, mChain, mPub, pubE, iLt, iLe, iGt, iGe, isN, notN, ixD, iMod, iDiv, iMul, iPow, iSub, addD, cmpD, fInt, fLen, fAbs, fMax2, fMin2, fStr, fTuple, fList, maCons, maNil, ownAt, outOf, ioL, bin2, mPar, mpV, mpF, setP, mRaise, mCall, callV, mCallF, callVF, mCallIO, callIO, ioArgs, mAsg, gN, gT, gCs, gNs, sizeLine_eq, L2.atI, L2.ixN, eqD, neD, flatD, eqFl, hw, z]
  | cons c r =>
    cases r with
    | cons d r =>
      rw [h] at hl
      have z : (((w.length : Nat) : Int) == 1) = false := beq_false_of_ne (by rw [hl]; simp; omega)
      simp [argEn, ioSl, mSeq, mIfS, mT, asB, mBin, mV, mC, mXA, mVar, mFn, mFnF, getsO, valsO, Opd.get, R.bind, R.thenS, RS.bind, mSet, mSetF, mPut, mRet, mRetF, mL, mLst, mTup, mDrop, mIf, mUn, iNot, iNeg, mNotT, mAnd, mOr, mAndT, mOrT, mChain, mPub, pubE, iLt, iLe, iGt, iGe, isN, notN, ixD, iMod, iDiv, iMul, iPow, iSub, addD, cmpD, fInt, fLen, fAbs, fMax2, fMin2, fStr, fTuple, fList, maCons, maNil, ownAt, outOf, ioL, bin2, mPar, mpV, mpF, setP, mRaise, mCall, callV, mCallF, callVF, mCallIO, callIO, ioArgs, mAsg, gN, gT, gCs, gNs, sizeLine_eq, L2.atI, L2.ixN, eqD, neD, flatD, eqFl, hw, z]
    | nil =>
      rw [h] at hl
      have z : w.length = 1 := hl
      by_cases hc : 48 ≤ c ∧ c ≤ 57
      · have e := one_str h
        subst e
        have hm : c ∈ (Str.ofString "0123456789").cps := Array.mem_toList_iff.mp ((figs_mem c).mpr hc)
        have z2 : ({ cps := #[c] } : Str).length ≤ 640 := by rw [z]; decide
        by_cases hn : (c : Int) - 48 < n
        · simp [argEn, ioSl, mSeq, mIfS, mT, asB, mBin, mV, mC, mXA, mVar, mFn, mFnF, getsO, valsO, Opd.get, R.bind, R.thenS, RS.bind, mSet, mSetF, mPut, mRet, mRetF, mL, mLst, mTup, mDrop, mIf, mUn, iNot, iNeg, mNotT, mAnd, mOr, mAndT, mOrT, mChain, mPub, pubE, iLt, iLe, iGt, iGe, isN, notN, ixD, iMod, iDiv, iMul, iPow, iSub, addD, cmpD, fInt, fLen, fAbs, fMax2, fMin2, fStr, fTuple, fList, maCons, maNil, ownAt, outOf, ioL, bin2, mPar, mpV, mpF, setP, mRaise, mCall, callV, mCallF, callVF, mCallIO, callIO, ioArgs, mAsg, gN, gT, gCs, gNs, sizeLine_eq, L2.atI, L2.ixN, eqD, neD, flatD, eqFl, notInD, inD, hw, z, hc, hm, dig_int hc, z2, hn]
        · simp [argEn, ioSl, mSeq, mIfS, mT, asB, mBin, mV, mC, mXA, mVar, mFn, mFnF, getsO, valsO, Opd.get, R.bind, R.thenS, RS.bind, mSet, mSetF, mPut, mRet, mRetF, mL, mLst, mTup, mDrop, mIf, mUn, iNot, iNeg, mNotT, mAnd, mOr, mAndT, mOrT, mChain, mPub, pubE, iLt, iLe, iGt, iGe, isN, notN, ixD, iMod, iDiv, iMul, iPow, iSub, addD, cmpD, fInt, fLen, fAbs, fMax2, fMin2, fStr, fTuple, fList, maCons, maNil, ownAt, outOf, ioL, bin2, mPar, mpV, mpF, setP, mRaise, mCall, callV, mCallF, callVF, mCallIO, callIO, ioArgs, mAsg, gN, gT, gCs, gNs, sizeLine_eq, L2.atI, L2.ixN, eqD, neD, flatD, eqFl, notInD, inD, hw, z, hc, hm, dig_int hc, z2, hn]
      · have hm : ¬ c ∈ ("0123456789" : Str).cps.toList := fun q => hc ((figs_mem c).mp q)
        simp only [hc, if_false]
        simp [argEn, ioSl, mSeq, mIfS, mT, asB, mBin, mV, mC, mXA, mVar, mFn, mFnF, getsO, valsO, Opd.get, R.bind, R.thenS, RS.bind, mSet, mSetF, mPut, mRet, mRetF, mL, mLst, mTup, mDrop, mIf, mUn, iNot, iNeg, mNotT, mAnd, mOr, mAndT, mOrT, mChain, mPub, pubE, iLt, iLe, iGt, iGe, isN, notN, ixD, iMod, iDiv, iMul, iPow, iSub, addD, cmpD, fInt, fLen, fAbs, fMax2, fMin2, fStr, fTuple, fList, maCons, maNil, ownAt, outOf, ioL, bin2, mPar, mpV, mpF, setP, mRaise, mCall, callV, mCallF, callVF, mCallIO, callIO, ioArgs, mAsg, gN, gT, gCs, gNs, sizeLine_eq, L2.atI, L2.ixN, eqD, neD, flatD, eqFl, notInD, inD, hw, z, h, hm]
end G08
set_option Elab.async false
set_option linter.all false
set_option maxRecDepth 100000
set_option maxHeartbeats 1000000
/-! words of a line -/
namespace DL
open PySem PySem.Spec L2 SX
theorem pre_one (c d : Nat) (r : List Nat) : TL.pre [c] (d :: r) = (d == c) := by
  unfold TL.pre
  simp
theorem spl_ne (c : Nat) : ∀ (a acc : List Nat), TL.spl [c] 0 acc a ≠ []
  | [], acc => by rw [TL.spl_nil]; simp
  | d :: r, acc => by
    by_cases h : d = c
    · rw [TL.spl_hit (by rw [pre_one]; simp [h])]; simp
    · rw [TL.spl_miss (by rw [pre_one]; simp [h])]; exact spl_ne c r _
/-- words joined again -/
theorem join_spl (c : Nat) : ∀ (a acc : List Nat), TL.joinL [c] (TL.spl [c] 0 acc a) = acc ++ a
  | [], acc => by rw [TL.spl_nil]; simp [TL.joinL]
  | d :: r, acc => by
    by_cases h : d = c
    · rw [TL.spl_hit (by rw [pre_one]; simp [h])]
      have ih := join_spl c r []
      cases q : TL.spl [c] 0 [] r with
      | nil => exact absurd q (spl_ne c r [])
      | cons w ws =>
        rw [q] at ih
        simp only [List.length_cons, List.length_nil] at *
        show TL.joinL [c] (acc :: TL.spl [c] 0 [] r) = _
        rw [q]
        simp [TL.joinL] at ih ⊢
        rw [ih, h]
        exact ⟨rfl, rfl⟩
    · rw [TL.spl_miss (by rw [pre_one]; simp [h])]
      rw [join_spl c r]
      simp
/-- the words of x, cut at the sign c -/
theorem words_join {x : Str} {c : Nat} (hc : c < 256) : Txt.join ⟨#[c]⟩ (Txt.split x ⟨#[c]⟩) = x := by
  have e1 : Txt.split (S x.cps.toList) (S [c]) = (TL.spl [c] 0 [] x.cps.toList).map S := split_S (by simp) (by simp [hc])
  have e2 := join_S [c] (TL.spl [c] 0 [] x.cps.toList)
  rw [S_tl] at e1
  rw [← e1, join_spl] at e2
  have e3 : S ([] ++ x.cps.toList) = x := by rw [List.nil_append, S_tl]
  rw [e3] at e2
  exact e2
theorem words_ne {x : Str} {c : Nat} (hc : c < 256) : Txt.split x ⟨#[c]⟩ ≠ [] := by
  have e1 : Txt.split (S x.cps.toList) (S [c]) = (TL.spl [c] 0 [] x.cps.toList).map S := split_S (by simp) (by simp [hc])
  rw [S_tl] at e1
  have e1 : Txt.split x ⟨#[c]⟩ = (TL.spl [c] 0 [] x.cps.toList).map S := e1
  rw [e1]
  intro z
  exact spl_ne c _ _ (List.map_eq_nil_iff.mp z)
theorem spl_len (c : Nat) : ∀ (a acc : List Nat), (TL.spl [c] 0 acc a).length ≤ a.length + 1 ∧ ∀ w ∈ TL.spl [c] 0 acc a, w.length ≤ acc.length + a.length
  | [], acc => by rw [TL.spl_nil]; simp
  | d :: r, acc => by
    by_cases h : d = c
    · rw [TL.spl_hit (by rw [pre_one]; simp [h])]
      obtain ⟨i1, i2⟩ := spl_len c r []
      refine ⟨?_, fun w hw => ?_⟩
      · show (acc :: TL.spl [c] 0 [] r).length ≤ _
        rw [List.length_cons, List.length_cons]
        omega
      · have hw : w ∈ acc :: TL.spl [c] 0 [] r := hw
        rw [List.length_cons]
        rcases List.mem_cons.mp hw with rfl | hw
        · omega
        · have := i2 w hw
          rw [List.length_nil] at this
          omega
    · rw [TL.spl_miss (by rw [pre_one]; simp [h])]
      obtain ⟨i1, i2⟩ := spl_len c r (acc ++ [d])
      refine ⟨by rw [List.length_cons]; omega, fun w hw => ?_⟩
      have := i2 w hw
      rw [List.length_append, List.length_cons, List.length_nil] at this
      rw [List.length_cons]
      omega
theorem words_len {x : Str} {c : Nat} (hc : c < 256) : (Txt.split x ⟨#[c]⟩).length ≤ x.length + 1 ∧ ∀ w ∈ Txt.split x ⟨#[c]⟩, w.length ≤ x.length := by
  have e1 : Txt.split (S x.cps.toList) (S [c]) = (TL.spl [c] 0 [] x.cps.toList).map S := split_S (by simp) (by simp [hc])
  rw [S_tl] at e1
  have e1 : Txt.split x ⟨#[c]⟩ = (TL.spl [c] 0 [] x.cps.toList).map S := e1
  obtain ⟨i1, i2⟩ := spl_len c x.cps.toList []
  have hl : x.length = x.cps.toList.length := by rw [Array.length_toList]; rfl
  rw [e1, List.length_map, hl]
  refine ⟨i1, fun w hw => ?_⟩
  obtain ⟨u, hu, rfl⟩ := List.mem_map.mp hw
  have := i2 u hu
  rw [S_len]
  simpa using this
end DL
set_option Elab.async false
set_option linter.all false
set_option maxRecDepth 100000
set_option maxHeartbeats 4000000
namespace G08
open PySem PySem.Spec DL
def powB (t pl : Int) : Bool := match F_power [.int t, .int pl] with
  | .ok (.int n) [] => n == (t.toNat ^ pl.toNat : Nat)
  | _ => false
theorem pow_all : ([1, 2, 3, 4, 5, 6] : List Int).all (fun t => ([0, 1, 2, 3] : List Int).all fun pl => powB t pl) = true := by decide +kernel
theorem power_ok {t pl : Int} (h1 : 1 ≤ t) (h2 : t ≤ 6) (h3 : 0 ≤ pl) (h4 : pl ≤ 3) : F_power [.int t, .int pl] = .ok (.int ((t.toNat ^ pl.toNat : Nat) : Int)) [] := by
  have hb : powB t pl = true := by
    have q := pow_all
    rw [List.all_eq_true] at q
    have q2 := q t (by have : t = 1 ∨ t = 2 ∨ t = 3 ∨ t = 4 ∨ t = 5 ∨ t = 6 := by omega
                       rcases this with rfl | rfl | rfl | rfl | rfl | rfl <;> simp)
    rw [List.all_eq_true] at q2
    exact q2 pl (by have : pl = 0 ∨ pl = 1 ∨ pl = 2 ∨ pl = 3 := by omega
                    rcases this with rfl | rfl | rfl | rfl <;> simp)
  unfold powB at hb
  split at hb
  · rename_i n e
    rw [e, eq_of_beq hb]
  · cases hb
/-- None among things found -/
def isNon : D → Bool
  | .non => true
  | _ => false
theorem thingV_flat (w : Str) (t : Int) : (∃ i, thingV w t = .int i) ∨ thingV w t = .non := by
  unfold thingV
  split
  · split
    · exact .inl ⟨_, rfl⟩
    · exact .inr rfl
  · exact .inr rfl
theorem inL_non (t : Int) : ∀ ws : List Str, inL .non (ws.map fun w => thingV w t) = some ((ws.map fun w => thingV w t).any isNon)
  | [] => rfl
  | w :: ws => by
    rw [List.map_cons]
    unfold inL
    rw [inL_non t ws]
    rcases thingV_flat w t with ⟨i, e⟩ | e
    · rw [e]; simp [eqD, flatD, eqFl, isNon]
    · rw [e]; simp [eqD, flatD, eqFl, isNon]
end G08
set_option Elab.async false
set_option linter.all false
set_option maxRecDepth 100000
set_option maxHeartbeats 4000000
namespace G08
open PySem PySem.Spec DL
theorem cutL_tail {α : Type} (x : α) (xs : List α) : cutL (x :: xs) (some 1) none = xs := by
  have e1 : HT.sIx (x :: xs).length 0 (some 1) = 1 := by
    simp [HT.sIx]
  have e2 : HT.sIx (x :: xs).length (x :: xs).length none = (x :: xs).length := by simp [HT.sIx]
  unfold cutL
  rw [e1, e2]
  simp
abbrev wordsOf (line : Str) : List Str := Txt.split line (" " : Str)
/-- what row_in finds -/
def rowV (nm : Str) (pl t : Int) (line : Str) : D := match wordsOf line with
  | [] => .non
  | w :: ws => if w ≠ nm ∨ (ws.map fun w => thingV w t).any isNon = true ∨ ws.length ≠ t.toNat ^ pl.toNat then .non else .tup (ws.map fun w => thingV w t)
theorem split_len {x : Str} : (wordsOf x).length ≤ x.length + 1 ∧ ∀ w ∈ wordsOf x, w.length ≤ x.length := words_len (c := 32) (by decide)
theorem row_in_ok {nm line : Str} {pl t : Int} (h1 : 1 ≤ t) (h2 : t ≤ 6) (h3 : 0 ≤ pl) (h4 : pl ≤ 3) (hn : nm.length ≤ 1000) (hl : line.length ≤ 100000) : F_row_in [.tup [.str nm, .int pl], .int t, .str line] = .ok (rowV nm pl t line) [] := by
  obtain ⟨l1, l2⟩ := split_len (x := line)
  have hs : line.length + 2 ≤ 16777216 := by omega
  have pw := power_ok h1 h2 h3 h4
  have sl : ((" " : Str).length == 0) = false := by decide +kernel
  cases hw : wordsOf line with
  | nil => exact absurd hw (words_ne (by decide))
  | cons w ws =>
    have hc := mLc_map (mi := mSeqI (mSl (mXA 3) (mPart (mC (.int 1))) (fun ρ => .ok none ρ))) (f := gN 5) (S := [5]) (me := mCall F_thing_in (maCons (mXA 5) (maCons (mXA 1) maNil))) (g := fun x => match x with | .str w => thingV w t | _ => .non)
      (ds := ws.map .str) (ρ := [.val (.tup [.str nm, .int pl]), .val (.int t), .val (.str line), .val (.lst (.str w :: ws.map .str)), .no, .no]) (ρ1 := [.val (.tup [.str nm, .int pl]), .val (.int t), .val (.str line), .val (.lst (.str w :: ws.map .str)), .no, .no])
      (ρ0 := [.val (.tup [.str nm, .int pl]), .val (.int t), .val (.str line), .val (.lst (.str w :: ws.map .str)), .no, .no]) (ρ2 := [.val (.tup [.str nm, .int pl]), .val (.int t), .val (.str line), .val (.lst (.str w :: ws.map .str)), .no, .no])
      (by simp [argEn, ioSl, mSeq, mIfS, mT, asB, mBin, mV, mC, mXA, mVar, mFn, mFnF, getsO, valsO, Opd.get, R.bind, R.thenS, RS.bind, mSet, mSetF, mPut, mRet, mRetF, mL, mLst, mTup, mDrop, mIf, mUn, iNot, iNeg, mNotT, mAnd, mOr, mAndT, mOrT, mChain, mPub, pubE, iLt, iLe, iGt, iGe, isN, notN, ixD, iMod, iDiv, iMul, iPow, iSub, addD, cmpD, fInt, fLen, fAbs, fMax2, fMin2, fStr, fTuple, fList, maCons, maNil, ownAt, outOf, ioL, bin2, mPar, mpV, mpF, setP, mRaise, mCall, callV, mCallF, callVF, mCallIO, callIO, ioArgs, mAsg, gN, gT, gCs, gNs, sizeLine_eq, L2.atI, L2.ixN, eqD, neD, flatD, eqFl, mSeqI, mSl, mPart, slD, walkOf, cutL_tail]) (by simp [clearS, notOwn]) (by simp [wipeE]) (by simp [restE]) (fun x hx => by
        obtain ⟨v, hv, rfl⟩ := List.mem_map.mp hx
        have hv2 : v.length ≤ 16777216 := by
          have := l2 v (by rw [hw]; exact List.mem_cons_of_mem _ hv)
          omega
        have e := thing_in_ok (w := v) (n := t) hv2
        refine ⟨[.val (.tup [.str nm, .int pl]), .val (.int t), .val (.str line), .val (.lst (.str w :: ws.map .str)), .no, .val (.str v)], [.val (.tup [.str nm, .int pl]), .val (.int t), .val (.str line), .val (.lst (.str w :: ws.map .str)), .no, .val (.str v)], ?_, ?_, ?_⟩
        · simp [gN]
        · simp [argEn, ioSl, mSeq, mIfS, mT, asB, mBin, mV, mC, mXA, mVar, mFn, mFnF, getsO, valsO, Opd.get, R.bind, R.thenS, RS.bind, mSet, mSetF, mPut, mRet, mRetF, mL, mLst, mTup, mDrop, mIf, mUn, iNot, iNeg, mNotT, mAnd, mOr, mAndT, mOrT, mChain, mPub, pubE, iLt, iLe, iGt, iGe, isN, notN, ixD, iMod, iDiv, iMul, iPow, iSub, addD, cmpD, fInt, fLen, fAbs, fMax2, fMin2, fStr, fTuple, fList, maCons, maNil, ownAt, outOf, ioL, bin2, mPar, mpV, mpF, setP, mRaise, mCall, callV, mCallF, callVF, mCallIO, callIO, ioArgs, mAsg, gN, gT, gCs, gNs, sizeLine_eq, L2.atI, L2.ixN, eqD, neD, flatD, eqFl, e]
        · simp [wipeE])
    have hz : ws.length ≤ 16777216 := by
      have : ws.length + 1 ≤ line.length + 1 := by rw [hw] at l1; exact l1
      omega
    have hw' : Txt.split line (Str.ofString " ") = w :: ws := hw
    have nn := inL_non t ws
    have nn' : inL .non (List.map (fun w => thingV w t) ws) = some (List.any (List.map (fun w => thingV w t) ws) isNon) := nn
    have eg : (ws.map D.str).map (fun x => match x with | .str w => thingV w t | _ => .non) = ws.map fun w => thingV w t := by
      rw [List.map_map]
      rfl
    rw [eg] at hc
    have e0 : F_row_in [.tup [.str nm, .int pl], .int t, .str line] = .ok (rowV nm pl t line) [] := by
      unfold F_row_in runF m_row_in enIn rowV
      rw [hw]
      generalize t.toNat ^ pl.toNat = N at pw
      by_cases c1 : w = nm
      · subst c1
        by_cases c2 : (List.any (List.map (fun w => thingV w t) ws) isNon) = true
        · simp [argEn, ioSl, mSeq, mIfS, mT, asB, mBin, mV, mC, mXA, mVar, mFn, mFnF, getsO, valsO, Opd.get, R.bind, R.thenS, RS.bind, mSet, mSetF, mPut, mRet, mRetF, mL, mLst, mTup, mDrop, mIf, mUn, iNot, iNeg, mNotT, mAnd, mOr, mAndT, mOrT, mChain, mPub, pubE, iLt, iLe, iGt, iGe, isN, notN, ixD, iMod, iDiv, iMul, iPow, iSub, addD, cmpD, fInt, fLen, fAbs, fMax2, fMin2, fStr, fTuple, fList, maCons, maNil, ownAt, outOf, ioL, bin2, mPar, mpV, mpF, setP, mRaise, mCall, callV, mCallF, callVF, mCallIO, callIO, ioArgs, mAsg, gN, gT, gCs, gNs, sizeLine_eq, L2.atI, L2.ixN, eqD, neD, flatD, eqFl, mSplit, hs, sl, hw', hc, inD, nn', c2]
        · have c2' : (List.any (List.map (fun w => thingV w t) ws) isNon) = false := by simpa using c2
          by_cases c3 : ws.length = N
          · subst c3
            simp [argEn, ioSl, mSeq, mIfS, mT, asB, mBin, mV, mC, mXA, mVar, mFn, mFnF, getsO, valsO, Opd.get, R.bind, R.thenS, RS.bind, mSet, mSetF, mPut, mRet, mRetF, mL, mLst, mTup, mDrop, mIf, mUn, iNot, iNeg, mNotT, mAnd, mOr, mAndT, mOrT, mChain, mPub, pubE, iLt, iLe, iGt, iGe, isN, notN, ixD, iMod, iDiv, iMul, iPow, iSub, addD, cmpD, fInt, fLen, fAbs, fMax2, fMin2, fStr, fTuple, fList, maCons, maNil, ownAt, outOf, ioL, bin2, mPar, mpV, mpF, setP, mRaise, mCall, callV, mCallF, callVF, mCallIO, callIO, ioArgs, mAsg, gN, gT, gCs, gNs, sizeLine_eq, L2.atI, L2.ixN, eqD, neD, flatD, eqFl, mSplit, hs, sl, hw', hc, inD, nn', c2', pw, hz]
          · have hb : ((ws.length : Int) == (N : Int)) = false := beq_false_of_ne (fun q => c3 (by exact_mod_cast q))
            simp [argEn, ioSl, mSeq, mIfS, mT, asB, mBin, mV, mC, mXA, mVar, mFn, mFnF, getsO, valsO, Opd.get, R.bind, R.thenS, RS.bind, mSet, mSetF, mPut, mRet, mRetF, mL, mLst, mTup, mDrop, mIf, mUn, iNot, iNeg, mNotT, mAnd, mOr, mAndT, mOrT, mChain, mPub, pubE, iLt, iLe, iGt, iGe, isN, notN, ixD, iMod, iDiv, iMul, iPow, iSub, addD, cmpD, fInt, fLen, fAbs, fMax2, fMin2, fStr, fTuple, fList, maCons, maNil, ownAt, outOf, ioL, bin2, mPar, mpV, mpF, setP, mRaise, mCall, callV, mCallF, callVF, mCallIO, callIO, ioArgs, mAsg, gN, gT, gCs, gNs, sizeLine_eq, L2.atI, L2.ixN, eqD, neD, flatD, eqFl, mSplit, hs, sl, hw', hc, inD, nn', c2', hb, c3, pw, hz]
      · have hb : (w == nm) = false := beq_false_of_ne c1
        simp [argEn, ioSl, mSeq, mIfS, mT, asB, mBin, mV, mC, mXA, mVar, mFn, mFnF, getsO, valsO, Opd.get, R.bind, R.thenS, RS.bind, mSet, mSetF, mPut, mRet, mRetF, mL, mLst, mTup, mDrop, mIf, mUn, iNot, iNeg, mNotT, mAnd, mOr, mAndT, mOrT, mChain, mPub, pubE, iLt, iLe, iGt, iGe, isN, notN, ixD, iMod, iDiv, iMul, iPow, iSub, addD, cmpD, fInt, fLen, fAbs, fMax2, fMin2, fStr, fTuple, fList, maCons, maNil, ownAt, outOf, ioL, bin2, mPar, mpV, mpF, setP, mRaise, mCall, callV, mCallF, callVF, mCallIO, callIO, ioArgs, mAsg, gN, gT, gCs, gNs, sizeLine_eq, L2.atI, L2.ixN, eqD, neD, flatD, eqFl, mSplit, hs, sl, hw', hc, c1, hb]
    exact e0
end G08
set_option Elab.async false
set_option linter.all false
set_option maxRecDepth 100000
set_option maxHeartbeats 4000000
namespace G08
open PySem PySem.Spec DL
/-- what things_in finds -/
def thingsV (line : Str) : D := match wordsOf line with
  | [a, b] => if a = "things" then (match dig b with
    | some i => if 0 < i ∧ i < 7 then .int i else .non
    | none => .non) else .non
  | _ => .non
theorem dig_nn {w : Str} {i : Int} (h : dig w = some i) : 0 ≤ i := by
  unfold dig at h
  split at h
  · split at h
    · cases h; omega
    · cases h
  · cases h
theorem things_in_ok {line : Str} (hl : line.length ≤ 100000) : F_things_in [.str line] = .ok (thingsV line) [] := by
  obtain ⟨l1, l2⟩ := split_len (x := line)
  have hs : line.length + 2 ≤ 16777216 := by omega
  have sl : ((" " : Str).length == 0) = false := by decide +kernel
  unfold F_things_in runF m_things_in enIn thingsV
  cases hw : wordsOf line with
  | nil => exact absurd hw (words_ne (by decide))
  | cons a r =>
    have hw' : Txt.split line (Str.ofString " ") = a :: r := hw
    cases r with
    | nil => simp [argEn, ioSl, mSeq, mIfS, mT, asB, mBin, mV, mC, mXA, mVar, mFn, mFnF, getsO, valsO, Opd.get, R.bind, R.thenS, RS.bind, mSet, mSetF, mPut, mRet, mRetF, mL, mLst, mTup, mDrop, mIf, mUn, iNot, iNeg, mNotT, mAnd, mOr, mAndT, mOrT, mChain, mPub, pubE, iLt, iLe, iGt, iGe, isN, notN, ixD, iMod, iDiv, iMul, iPow, iSub, addD, cmpD, fInt, fLen, fAbs, fMax2, fMin2, fStr, fTuple, fList, maCons, maNil, ownAt, outOf, ioL, bin2, mPar, mpV, mpF, setP, mRaise, mCall, callV, mCallF, callVF, mCallIO, callIO, ioArgs, mAsg, gN, gT, gCs, gNs, sizeLine_eq, L2.atI, L2.ixN, isNonD, eqD, neD, flatD, eqFl, mSplit, hs, sl, hw']
    | cons b r =>
      cases r with
      | cons c r =>
        have hb : (((r.length : Int) + 1 + 1 + 1) == 2) = false := beq_false_of_ne (by omega)
        have hz : r.length + 1 + 1 + 1 ≤ 16777216 := by
          have := l1
          rw [hw] at this
          simp at this
          omega
        simp [argEn, ioSl, mSeq, mIfS, mT, asB, mBin, mV, mC, mXA, mVar, mFn, mFnF, getsO, valsO, Opd.get, R.bind, R.thenS, RS.bind, mSet, mSetF, mPut, mRet, mRetF, mL, mLst, mTup, mDrop, mIf, mUn, iNot, iNeg, mNotT, mAnd, mOr, mAndT, mOrT, mChain, mPub, pubE, iLt, iLe, iGt, iGe, isN, notN, ixD, iMod, iDiv, iMul, iPow, iSub, addD, cmpD, fInt, fLen, fAbs, fMax2, fMin2, fStr, fTuple, fList, maCons, maNil, ownAt, outOf, ioL, bin2, mPar, mpV, mpF, setP, mRaise, mCall, callV, mCallF, callVF, mCallIO, callIO, ioArgs, mAsg, gN, gT, gCs, gNs, sizeLine_eq, L2.atI, L2.ixN, isNonD, eqD, neD, flatD, eqFl, mSplit, hs, sl, hw', hb, hz]
      | nil =>
        by_cases ha : a = "things"
        · subst ha
          have hb2 : b.length ≤ 16777216 := by
            have := l2 b (by rw [hw]; simp)
            omega
          have e := thing_in_ok (w := b) (n := 7) hb2
          unfold thingV at e
          cases hd : dig b with
          | none => simp [argEn, ioSl, mSeq, mIfS, mT, asB, mBin, mV, mC, mXA, mVar, mFn, mFnF, getsO, valsO, Opd.get, R.bind, R.thenS, RS.bind, mSet, mSetF, mPut, mRet, mRetF, mL, mLst, mTup, mDrop, mIf, mUn, iNot, iNeg, mNotT, mAnd, mOr, mAndT, mOrT, mChain, mPub, pubE, iLt, iLe, iGt, iGe, isN, notN, ixD, iMod, iDiv, iMul, iPow, iSub, addD, cmpD, fInt, fLen, fAbs, fMax2, fMin2, fStr, fTuple, fList, maCons, maNil, ownAt, outOf, ioL, bin2, mPar, mpV, mpF, setP, mRaise, mCall, callV, mCallF, callVF, mCallIO, callIO, ioArgs, mAsg, gN, gT, gCs, gNs, sizeLine_eq, L2.atI, L2.ixN, isNonD, eqD, neD, flatD, eqFl, mSplit, hs, sl, hw', e, hd]
          | some i =>
            have nn := dig_nn hd
            by_cases h7 : i < 7
            · by_cases h0 : 0 < i
              · simp [argEn, ioSl, mSeq, mIfS, mT, asB, mBin, mV, mC, mXA, mVar, mFn, mFnF, getsO, valsO, Opd.get, R.bind, R.thenS, RS.bind, mSet, mSetF, mPut, mRet, mRetF, mL, mLst, mTup, mDrop, mIf, mUn, iNot, iNeg, mNotT, mAnd, mOr, mAndT, mOrT, mChain, mPub, pubE, iLt, iLe, iGt, iGe, isN, notN, ixD, iMod, iDiv, iMul, iPow, iSub, addD, cmpD, fInt, fLen, fAbs, fMax2, fMin2, fStr, fTuple, fList, maCons, maNil, ownAt, outOf, ioL, bin2, mPar, mpV, mpF, setP, mRaise, mCall, callV, mCallF, callVF, mCallIO, callIO, ioArgs, mAsg, gN, gT, gCs, gNs, sizeLine_eq, L2.atI, L2.ixN, isNonD, eqD, neD, flatD, eqFl, mSplit, hs, sl, hw', e, hd, h7, h0]
              · simp [argEn, ioSl, mSeq, mIfS, mT, asB, mBin, mV, mC, mXA, mVar, mFn, mFnF, getsO, valsO, Opd.get, R.bind, R.thenS, RS.bind, mSet, mSetF, mPut, mRet, mRetF, mL, mLst, mTup, mDrop, mIf, mUn, iNot, iNeg, mNotT, mAnd, mOr, mAndT, mOrT, mChain, mPub, pubE, iLt, iLe, iGt, iGe, isN, notN, ixD, iMod, iDiv, iMul, iPow, iSub, addD, cmpD, fInt, fLen, fAbs, fMax2, fMin2, fStr, fTuple, fList, maCons, maNil, ownAt, outOf, ioL, bin2, mPar, mpV, mpF, setP, mRaise, mCall, callV, mCallF, callVF, mCallIO, callIO, ioArgs, mAsg, gN, gT, gCs, gNs, sizeLine_eq, L2.atI, L2.ixN, isNonD, eqD, neD, flatD, eqFl, mSplit, hs, sl, hw', e, hd, h7, h0]
            · simp [argEn, ioSl, mSeq, mIfS, mT, asB, mBin, mV, mC, mXA, mVar, mFn, mFnF, getsO, valsO, Opd.get, R.bind, R.thenS, RS.bind, mSet, mSetF, mPut, mRet, mRetF, mL, mLst, mTup, mDrop, mIf, mUn, iNot, iNeg, mNotT, mAnd, mOr, mAndT, mOrT, mChain, mPub, pubE, iLt, iLe, iGt, iGe, isN, notN, ixD, iMod, iDiv, iMul, iPow, iSub, addD, cmpD, fInt, fLen, fAbs, fMax2, fMin2, fStr, fTuple, fList, maCons, maNil, ownAt, outOf, ioL, bin2, mPar, mpV, mpF, setP, mRaise, mCall, callV, mCallF, callVF, mCallIO, callIO, ioArgs, mAsg, gN, gT, gCs, gNs, sizeLine_eq, L2.atI, L2.ixN, isNonD, eqD, neD, flatD, eqFl, mSplit, hs, sl, hw', e, hd, h7]
        · have hb : (a == ("things" : Str)) = false := beq_false_of_ne ha
          simp [argEn, ioSl, mSeq, mIfS, mT, asB, mBin, mV, mC, mXA, mVar, mFn, mFnF, getsO, valsO, Opd.get, R.bind, R.thenS, RS.bind, mSet, mSetF, mPut, mRet, mRetF, mL, mLst, mTup, mDrop, mIf, mUn, iNot, iNeg, mNotT, mAnd, mOr, mAndT, mOrT, mChain, mPub, pubE, iLt, iLe, iGt, iGe, isN, notN, ixD, iMod, iDiv, iMul, iPow, iSub, addD, cmpD, fInt, fLen, fAbs, fMax2, fMin2, fStr, fTuple, fList, maCons, maNil, ownAt, outOf, ioL, bin2, mPar, mpV, mpF, setP, mRaise, mCall, callV, mCallF, callVF, mCallIO, callIO, ioArgs, mAsg, gN, gT, gCs, gNs, sizeLine_eq, L2.atI, L2.ixN, isNonD, eqD, neD, flatD, eqFl, mSplit, hs, sl, hw', hb, ha]
end G08
set_option Elab.async false
set_option linter.all false
set_option maxRecDepth 100000
set_option maxHeartbeats 4000000
namespace G08
open PySem PySem.Spec DL
/-- a figure below t -/
def goodW (w : Str) (t : Int) : Bool := match dig w with
  | some i => decide (i < t)
  | none => false
theorem good_thing {w : Str} {t : Int} (h : goodW w t = true) : ∃ i, dig w = some i ∧ thingV w t = .int i := by
  unfold goodW at h
  unfold thingV
  cases hd : dig w with
  | none => rw [hd] at h; cases h
  | some i =>
    rw [hd] at h
    have h : i < t := of_decide_eq_true h
    exact ⟨i, rfl, by simp [h]⟩
theorem good_non (t : Int) : ∀ ws : List Str, (ws.map fun w => thingV w t).any isNon = !(ws.all fun w => goodW w t)
  | [] => rfl
  | w :: ws => by
    rw [List.map_cons, List.any_cons, List.all_cons, good_non t ws]
    unfold thingV goodW
    cases hd : dig w with
    | none => simp [isNon]
    | some i => by_cases h : i < t <;> simp [isNon, h]
/-- the law's own look at a word -/
theorem look_ok {w : Str} {t : Int} (hw : w.length ≤ 16777216) (ρ : En) (h5 : ρ[5]? = some (.val (.str w))) (h2 : ρ[2]? = some (.val (.int t))) :
    mAnd (mBin (cmpD eqD) (mV (mFn fLen (maCons (mXA 5) maNil))) (mV (mC (.int 1)))) (mAnd (mBin (cmpD inD) (mXA 5) (mV (mC (.str ("0123456789" : Str))))) (mBin iLt (mV (mFn fInt (maCons (mXA 5) maNil))) (mXA 2))) ρ = .ok (.bl (goodW w t)) ρ := by
  have hl := str_len w
  unfold goodW dig
  cases h : w.cps.toList with
  | nil =>
    rw [h] at hl
    have z : (w.length : Int) = 0 := by rw [hl]; rfl
    simp [argEn, ioSl, mSeq, mIfS, mT, asB, mBin, mV, mC, mXA, mVar, mFn, mFnF, getsO, valsO, Opd.get, R.bind, R.thenS, RS.bind, mSet, mSetF, mPut, mRet, mRetF, mL, mLst, mTup, mDrop, mIf, mUn, iNot, iNeg, mNotT, mAnd, mOr, mAndT, mOrT, mChain, mPub, pubE, iLt, iLe, iGt, iGe, isN, notN, ixD, iMod, iDiv, iMul, iPow, iSub, addD, cmpD, fInt, fLen, fAbs, fMax2, fMin2, fStr, fTuple, fList, maCons, maNil, ownAt, outOf, ioL, bin2, mPar, mpV, mpF, setP, mRaise, mCall, callV, mCallF, callVF, mCallIO, callIO, ioArgs, mAsg, gN, gT, gCs, gNs, sizeLine_eq, L2.atI, L2.ixN, isNonD, eqD, neD, flatD, eqFl, h5, h2, hw, z]
  | cons c r =>
    cases r with
    | cons d r =>
      rw [h] at hl
      have z : (((w.length : Nat) : Int) == 1) = false := beq_false_of_ne (by rw [hl]; simp; omega)
      simp [argEn, ioSl, mSeq, mIfS, mT, asB, mBin, mV, mC, mXA, mVar, mFn, mFnF, getsO, valsO, Opd.get, R.bind, R.thenS, RS.bind, mSet, mSetF, mPut, mRet, mRetF, mL, mLst, mTup, mDrop, mIf, mUn, iNot, iNeg, mNotT, mAnd, mOr, mAndT, mOrT, mChain, mPub, pubE, iLt, iLe, iGt, iGe, isN, notN, ixD, iMod, iDiv, iMul, iPow, iSub, addD, cmpD, fInt, fLen, fAbs, fMax2, fMin2, fStr, fTuple, fList, maCons, maNil, ownAt, outOf, ioL, bin2, mPar, mpV, mpF, setP, mRaise, mCall, callV, mCallF, callVF, mCallIO, callIO, ioArgs, mAsg, gN, gT, gCs, gNs, sizeLine_eq, L2.atI, L2.ixN, isNonD, eqD, neD, flatD, eqFl, h5, h2, hw, z]
    | nil =>
      rw [h] at hl
      have z : w.length = 1 := hl
      by_cases hc : 48 ≤ c ∧ c ≤ 57
      · have e := one_str h
        subst e
        have hm : c ∈ (Str.ofString "0123456789").cps := Array.mem_toList_iff.mp ((figs_mem c).mpr hc)
        have z2 : ({ cps := #[c] } : Str).length ≤ 640 := by rw [z]; decide
        simp [argEn, ioSl, mSeq, mIfS, mT, asB, mBin, mV, mC, mXA, mVar, mFn, mFnF, getsO, valsO, Opd.get, R.bind, R.thenS, RS.bind, mSet, mSetF, mPut, mRet, mRetF, mL, mLst, mTup, mDrop, mIf, mUn, iNot, iNeg, mNotT, mAnd, mOr, mAndT, mOrT, mChain, mPub, pubE, iLt, iLe, iGt, iGe, isN, notN, ixD, iMod, iDiv, iMul, iPow, iSub, addD, cmpD, fInt, fLen, fAbs, fMax2, fMin2, fStr, fTuple, fList, maCons, maNil, ownAt, outOf, ioL, bin2, mPar, mpV, mpF, setP, mRaise, mCall, callV, mCallF, callVF, mCallIO, callIO, ioArgs, mAsg, gN, gT, gCs, gNs, sizeLine_eq, L2.atI, L2.ixN, isNonD, eqD, neD, flatD, eqFl, h5, h2, inD, hw, z, hc, hm, dig_int hc, z2]
      · have hm : ¬ c ∈ ("0123456789" : Str).cps.toList := fun q => hc ((figs_mem c).mp q)
        simp only [hc, if_false]
        simp [argEn, ioSl, mSeq, mIfS, mT, asB, mBin, mV, mC, mXA, mVar, mFn, mFnF, getsO, valsO, Opd.get, R.bind, R.thenS, RS.bind, mSet, mSetF, mPut, mRet, mRetF, mL, mLst, mTup, mDrop, mIf, mUn, iNot, iNeg, mNotT, mAnd, mOr, mAndT, mOrT, mChain, mPub, pubE, iLt, iLe, iGt, iGe, isN, notN, ixD, iMod, iDiv, iMul, iPow, iSub, addD, cmpD, fInt, fLen, fAbs, fMax2, fMin2, fStr, fTuple, fList, maCons, maNil, ownAt, outOf, ioL, bin2, mPar, mpV, mpF, setP, mRaise, mCall, callV, mCallF, callVF, mCallIO, callIO, ioArgs, mAsg, gN, gT, gCs, gNs, sizeLine_eq, L2.atI, L2.ixN, isNonD, eqD, neD, flatD, eqFl, h5, h2, inD, hw, z, h, hm]
end G08
set_option Elab.async false
set_option linter.all false
set_option maxRecDepth 100000
set_option maxHeartbeats 4000000
namespace G08
open PySem PySem.Spec DL
theorem rows_all36 : ([3, 4, 5, 6] : List Int).all (fun t => rowsB t 3) = true := by decide +kernel
theorem rows_len {t pl : Int} (h1 : 1 ≤ t) (h2 : t ≤ 6) (h3 : 0 ≤ pl) (h4 : pl ≤ 3) : ∃ rs, F__law_rows [.int t, .int pl] = .ok (.lst rs) [] ∧ rs.length = t.toNat ^ pl.toNat := by
  by_cases h : TP t pl
  · obtain ⟨a, b, _⟩ := rows_ok h
    exact ⟨_, a, b⟩
  · have h5 : pl = 3 ∧ 3 ≤ t := by
      unfold TP at h
      omega
    obtain ⟨rfl, h6⟩ := h5
    have q := rows_all36
    rw [List.all_eq_true] at q
    have hb := q t (by have : t = 3 ∨ t = 4 ∨ t = 5 ∨ t = 6 := by omega
                       rcases this with rfl | rfl | rfl | rfl <;> simp)
    unfold rowsB at hb
    split at hb
    · rename_i rs e
      simp only [Bool.and_eq_true, beq_iff_eq] at hb
      exact ⟨rs, e, hb.1⟩
    · cases hb
end G08
set_option Elab.async false
set_option linter.all false
set_option maxRecDepth 100000
set_option maxHeartbeats 4000000
namespace G08
open PySem PySem.Spec DL
theorem dig_fint {w : Str} {i : Int} (h : dig w = some i) : fInt [.str w] = some (.int i) := by
  unfold dig at h
  split at h
  · rename_i c hc
    split at h
    · rename_i hh
      cases h
      have e := one_str hc
      subst e
      have z : ({ cps := #[c] } : Str).length ≤ 640 := by show (1 : Nat) ≤ 640; decide
      simp [fInt, z, dig_int hh]
    · cases h
  · cases h
theorem fAll_bools (bs : List Bool) : fAll [.lst (bs.map .bl)] = some (.bl (bs.all id)) := by
  have e : ∀ bs : List Bool, blsOf (bs.map .bl) = some bs := fun bs => by
    induction bs with
    | nil => rfl
    | cons b bs ih => rw [List.map_cons]; simp [blsOf, ih]
  unfold fAll
  simp [e]
theorem line_ok {nm line : Str} {pl t : Int} (h1 : 1 ≤ t) (h2 : t ≤ 6) (h3 : 0 ≤ pl) (h4 : pl ≤ 3) (hl : line.length ≤ 100000) : F__law_line [.str line, .tup [.str nm, .int pl], .int t] = .ok (rowV nm pl t line) [] := by
  obtain ⟨l1, l2⟩ := split_len (x := line)
  have hs : line.length + 2 ≤ 16777216 := by omega
  obtain ⟨rs, er, lr⟩ := rows_len h1 h2 h3 h4
  have sl : ((" " : Str).length == 0) = false := by decide +kernel
  cases hw : wordsOf line with
  | nil => exact absurd hw (words_ne (by decide))
  | cons w ws =>
    have hz : ws.length ≤ 16777216 := by
      have : ws.length + 1 ≤ line.length + 1 := by rw [hw] at l1; exact l1
      omega
    have hw' : Txt.split line (Str.ofString " ") = w :: ws := hw
    have lens : ∀ v ∈ ws, v.length ≤ 16777216 := fun v hv => by
      have := l2 v (by rw [hw]; exact List.mem_cons_of_mem _ hv)
      omega
    have hc := mLc_map (mi := mSeqI (mSl (mXA 3) (mPart (mC (.int 1))) (fun ρ => .ok none ρ))) (f := gN 5) (S := [5]) (me := mAnd (mBin (cmpD eqD) (mV (mFn fLen (maCons (mXA 5) maNil))) (mV (mC (.int 1)))) (mAnd (mBin (cmpD inD) (mXA 5) (mV (mC (.str ("0123456789" : Str))))) (mBin iLt (mV (mFn fInt (maCons (mXA 5) maNil))) (mXA 2)))) (g := fun x => match x with | .str w => .bl (goodW w t) | _ => .non)
      (ds := ws.map .str) (ρ := [.val (.str line), .val (.tup [.str nm, .int pl]), .val (.int t), .val (.lst (.str w :: ws.map .str)), .no, .no]) (ρ1 := [.val (.str line), .val (.tup [.str nm, .int pl]), .val (.int t), .val (.lst (.str w :: ws.map .str)), .no, .no])
      (ρ0 := [.val (.str line), .val (.tup [.str nm, .int pl]), .val (.int t), .val (.lst (.str w :: ws.map .str)), .no, .no]) (ρ2 := [.val (.str line), .val (.tup [.str nm, .int pl]), .val (.int t), .val (.lst (.str w :: ws.map .str)), .no, .no])
      (by simp [argEn, ioSl, mSeq, mIfS, mT, asB, mBin, mV, mC, mXA, mVar, mFn, mFnF, getsO, valsO, Opd.get, R.bind, R.thenS, RS.bind, mSet, mSetF, mPut, mRet, mRetF, mL, mLst, mTup, mDrop, mIf, mUn, iNot, iNeg, mNotT, mAnd, mOr, mAndT, mOrT, mChain, mPub, pubE, iLt, iLe, iGt, iGe, isN, notN, ixD, iMod, iDiv, iMul, iPow, iSub, addD, cmpD, fInt, fLen, fAbs, fMax2, fMin2, fStr, fTuple, fList, maCons, maNil, ownAt, outOf, ioL, bin2, mPar, mpV, mpF, setP, mRaise, mCall, callV, mCallF, callVF, mCallIO, callIO, ioArgs, mAsg, gN, gT, gCs, gNs, sizeLine_eq, L2.atI, L2.ixN, isNonD, eqD, neD, flatD, eqFl, mSeqI, mSl, mPart, slD, walkOf, cutL_tail]) (by simp [clearS, notOwn]) (by simp [wipeE]) (by simp [restE]) (fun x hx => by
        obtain ⟨v, hv, rfl⟩ := List.mem_map.mp hx
        refine ⟨[.val (.str line), .val (.tup [.str nm, .int pl]), .val (.int t), .val (.lst (.str w :: ws.map .str)), .no, .val (.str v)], [.val (.str line), .val (.tup [.str nm, .int pl]), .val (.int t), .val (.lst (.str w :: ws.map .str)), .no, .val (.str v)], ?_, ?_, ?_⟩
        · simp [gN]
        · exact look_ok (lens v hv) _ rfl rfl
        · simp [wipeE])
    have eg : (ws.map D.str).map (fun x => match x with | .str w => .bl (goodW w t) | _ => .non) = (ws.map fun w => goodW w t).map D.bl := by
      rw [List.map_map, List.map_map]
      rfl
    rw [eg] at hc
    have ea := fAll_bools (ws.map fun w => goodW w t)
    have ea2 : (ws.map fun w => goodW w t).all id = ws.all fun w => goodW w t := by rw [List.all_map]; rfl
    rw [ea2, List.map_map] at ea
    have gn := good_non t ws
    unfold F__law_line runF m__law_line enIn rowV
    rw [hw]
    simp only [gn]
    by_cases c1 : w = nm
    · subst c1
      cases c2 : (ws.all fun w => goodW w t) with
      | false =>
        rw [c2] at ea
        simp [argEn, ioSl, mSeq, mIfS, mT, asB, mBin, mV, mC, mXA, mVar, mFn, mFnF, getsO, valsO, Opd.get, R.bind, R.thenS, RS.bind, mSet, mSetF, mPut, mRet, mRetF, mL, mLst, mTup, mDrop, mIf, mUn, iNot, iNeg, mNotT, mAnd, mOr, mAndT, mOrT, mChain, mPub, pubE, iLt, iLe, iGt, iGe, isN, notN, ixD, iMod, iDiv, iMul, iPow, iSub, addD, cmpD, fInt, fLen, fAbs, fMax2, fMin2, fStr, fTuple, fList, maCons, maNil, ownAt, outOf, ioL, bin2, mPar, mpV, mpF, setP, mRaise, mCall, callV, mCallF, callVF, mCallIO, callIO, ioArgs, mAsg, gN, gT, gCs, gNs, sizeLine_eq, L2.atI, L2.ixN, isNonD, eqD, neD, flatD, eqFl, mSplit, hs, sl, hw', hc, ea, c2]
      | true =>
        rw [c2] at ea
        rw [List.all_eq_true] at c2
        have hc2 := mLc_map (mi := mSeqI (mSl (mXA 3) (mPart (mC (.int 1))) (fun ρ => .ok none ρ))) (f := gN 5) (S := [5]) (me := mFn fInt (maCons (mXA 5) maNil)) (g := fun x => match x with | .str w => thingV w t | _ => .non)
          (ds := ws.map .str) (ρ := [.val (.str line), .val (.tup [.str w, .int pl]), .val (.int t), .val (.lst (.str w :: ws.map .str)), .no, .no]) (ρ1 := [.val (.str line), .val (.tup [.str w, .int pl]), .val (.int t), .val (.lst (.str w :: ws.map .str)), .no, .no])
          (ρ0 := [.val (.str line), .val (.tup [.str w, .int pl]), .val (.int t), .val (.lst (.str w :: ws.map .str)), .no, .no]) (ρ2 := [.val (.str line), .val (.tup [.str w, .int pl]), .val (.int t), .val (.lst (.str w :: ws.map .str)), .no, .no])
          (by simp [argEn, ioSl, mSeq, mIfS, mT, asB, mBin, mV, mC, mXA, mVar, mFn, mFnF, getsO, valsO, Opd.get, R.bind, R.thenS, RS.bind, mSet, mSetF, mPut, mRet, mRetF, mL, mLst, mTup, mDrop, mIf, mUn, iNot, iNeg, mNotT, mAnd, mOr, mAndT, mOrT, mChain, mPub, pubE, iLt, iLe, iGt, iGe, isN, notN, ixD, iMod, iDiv, iMul, iPow, iSub, addD, cmpD, fInt, fLen, fAbs, fMax2, fMin2, fStr, fTuple, fList, maCons, maNil, ownAt, outOf, ioL, bin2, mPar, mpV, mpF, setP, mRaise, mCall, callV, mCallF, callVF, mCallIO, callIO, ioArgs, mAsg, gN, gT, gCs, gNs, sizeLine_eq, L2.atI, L2.ixN, isNonD, eqD, neD, flatD, eqFl, mSeqI, mSl, mPart, slD, walkOf, cutL_tail]) (by simp [clearS, notOwn]) (by simp [wipeE]) (by simp [restE]) (fun x hx => by
            obtain ⟨v, hv, rfl⟩ := List.mem_map.mp hx
            obtain ⟨i, hd, ht⟩ := good_thing (c2 v hv)
            refine ⟨[.val (.str line), .val (.tup [.str w, .int pl]), .val (.int t), .val (.lst (.str w :: ws.map .str)), .no, .val (.str v)], [.val (.str line), .val (.tup [.str w, .int pl]), .val (.int t), .val (.lst (.str w :: ws.map .str)), .no, .val (.str v)], ?_, ?_, ?_⟩
            · simp [gN]
            · have : fInt [.str v] = some (.int i) := dig_fint hd
              simp [mFn, maCons, maNil, mXA, R.bind, getsO, Opd.get, this, ht]
            · simp [wipeE])
        have eg2 : (ws.map D.str).map (fun x => match x with | .str w => thingV w t | _ => .non) = ws.map fun w => thingV w t := by
          rw [List.map_map]
          rfl
        rw [eg2] at hc2
        generalize t.toNat ^ pl.toNat = N at lr
        by_cases c3 : ws.length = N
        · subst c3
          simp [argEn, ioSl, mSeq, mIfS, mT, asB, mBin, mV, mC, mXA, mVar, mFn, mFnF, getsO, valsO, Opd.get, R.bind, R.thenS, RS.bind, mSet, mSetF, mPut, mRet, mRetF, mL, mLst, mTup, mDrop, mIf, mUn, iNot, iNeg, mNotT, mAnd, mOr, mAndT, mOrT, mChain, mPub, pubE, iLt, iLe, iGt, iGe, isN, notN, ixD, iMod, iDiv, iMul, iPow, iSub, addD, cmpD, fInt, fLen, fAbs, fMax2, fMin2, fStr, fTuple, fList, maCons, maNil, ownAt, outOf, ioL, bin2, mPar, mpV, mpF, setP, mRaise, mCall, callV, mCallF, callVF, mCallIO, callIO, ioArgs, mAsg, gN, gT, gCs, gNs, sizeLine_eq, L2.atI, L2.ixN, isNonD, eqD, neD, flatD, eqFl, mSplit, hs, sl, hw', hc, ea, hc2, hz, er, lr]
        · have hb : ((ws.length : Int) == (N : Int)) = false := beq_false_of_ne (fun q => c3 (by exact_mod_cast q))
          simp [argEn, ioSl, mSeq, mIfS, mT, asB, mBin, mV, mC, mXA, mVar, mFn, mFnF, getsO, valsO, Opd.get, R.bind, R.thenS, RS.bind, mSet, mSetF, mPut, mRet, mRetF, mL, mLst, mTup, mDrop, mIf, mUn, iNot, iNeg, mNotT, mAnd, mOr, mAndT, mOrT, mChain, mPub, pubE, iLt, iLe, iGt, iGe, isN, notN, ixD, iMod, iDiv, iMul, iPow, iSub, addD, cmpD, fInt, fLen, fAbs, fMax2, fMin2, fStr, fTuple, fList, maCons, maNil, ownAt, outOf, ioL, bin2, mPar, mpV, mpF, setP, mRaise, mCall, callV, mCallF, callVF, mCallIO, callIO, ioArgs, mAsg, gN, gT, gCs, gNs, sizeLine_eq, L2.atI, L2.ixN, isNonD, eqD, neD, flatD, eqFl, mSplit, hs, sl, hw', hc, ea, hc2, hz, er, lr, hb, c3]
    · have hb : (w == nm) = false := beq_false_of_ne c1
      simp [argEn, ioSl, mSeq, mIfS, mT, asB, mBin, mV, mC, mXA, mVar, mFn, mFnF, getsO, valsO, Opd.get, R.bind, R.thenS, RS.bind, mSet, mSetF, mPut, mRet, mRetF, mL, mLst, mTup, mDrop, mIf, mUn, iNot, iNeg, mNotT, mAnd, mOr, mAndT, mOrT, mChain, mPub, pubE, iLt, iLe, iGt, iGe, isN, notN, ixD, iMod, iDiv, iMul, iPow, iSub, addD, cmpD, fInt, fLen, fAbs, fMax2, fMin2, fStr, fTuple, fList, maCons, maNil, ownAt, outOf, ioL, bin2, mPar, mpV, mpF, setP, mRaise, mCall, callV, mCallF, callVF, mCallIO, callIO, ioArgs, mAsg, gN, gT, gCs, gNs, sizeLine_eq, L2.atI, L2.ixN, isNonD, eqD, neD, flatD, eqFl, mSplit, hs, sl, hw', hc, c1, hb]
end G08
set_option Elab.async false
set_option linter.all false
set_option maxRecDepth 100000
set_option maxHeartbeats 4000000
namespace G08
open PySem PySem.Spec DL
theorem check_signs_ok {sg : Sg} (h : sg ∈ sigs) : F_check_signs [sgD sg] = .ok .non [] := by
  simp only [sigs, List.mem_cons, List.not_mem_nil, or_false] at h
  rcases h with rfl | rfl | rfl | rfl | rfl | rfl | rfl <;> kernel_rfl
end G08
set_option Elab.async false
set_option linter.all false
set_option maxRecDepth 100000
set_option maxHeartbeats 1000000
/-! where repr(d) is told -/
namespace DL
open PySem PySem.Spec L2
mutual
/-- no part of d is too large to be told -/
def okD : D → Prop
  | .non => True
  | .bl _ => True
  | .int i => i.natAbs < 2 ^ 30
  | .str x => ∀ c ∈ x.cps.toList, c < 16 ^ 8
  | .tup xs => okL xs
  | .lst xs => okL xs
  | .err _ _ => False
  | .dct _ => False
  | .kl _ => False
  | .obj _ _ => False
def okL : List D → Prop
  | [] => True
  | x :: xs => okD x ∧ okL xs
end
mutual
def wtD : D → Nat
  | .int _ => 30
  | .str x => x.length
  | .tup xs => wtL xs
  | .lst xs => wtL xs
  | _ => 0
def wtL : List D → Nat
  | [] => 0
  | x :: xs => wtD x + 1 + wtL xs
end
mutual
def dpD : D → Nat
  | .tup xs => dpL xs + 1
  | .lst xs => dpL xs + 1
  | _ => 0
def dpL : List D → Nat
  | [] => 0
  | x :: xs => max (dpD x) (dpL xs)
end
structure Told (p : PyData) (dep wt : Nat) : Prop where
  sh : p.showable = true
  nd : p.hasDict = false
  dp : p.depth ≤ dep
  sm : p.leavesShort 13 = true
  wt : p.weight ≤ wt
structure ToldL (p : List PyData) (dep wt : Nat) : Prop where
  sh : PyData.showableAll p = true
  nd : PyData.hasDictAll p = false
  dp : PyData.depthAll p ≤ dep
  sm : PyData.leavesShortAll 13 p = true
  wt : PyData.weightAll p ≤ wt
mutual
theorem told : ∀ d : D, okD d → ∃ p, d.py = some p ∧ Told p (dpD d) (wtD d)
  | .non, _ => ⟨.none, rfl, rfl, rfl, Nat.le_refl _, rfl, Nat.le_refl _⟩
  | .bl b, _ => ⟨.bool b, rfl, rfl, rfl, Nat.le_refl _, rfl, Nat.le_refl _⟩
  | .int i, h => by
    have h : i.natAbs < 2 ^ 30 := by simpa [okD] using h
    have l : i.natAbs.log2 < 30 := by
      by_cases z : i.natAbs = 0
      · rw [z]; decide
      · exact (Nat.log2_lt z).mpr h
    refine ⟨.int i, rfl, ?_, rfl, Nat.le_refl _, ?_, ?_⟩
    · simp only [PyData.showable, decide_eq_true_eq]; omega
    · have e := int_text_length_le10 (a := i) (k := 10) (by decide) (Nat.lt_trans h (by decide))
      have e2 : (PyData.shown (.int i)).length = (toString i).length := by
        show (Str.ofString (toString i)).length = _
        rw [ofString_length]
      simp only [PyData.leavesShort, decide_eq_true_eq, e2]
      omega
    · show PyData.weight (.int i) ≤ 30
      unfold PyData.weight
      split <;> omega
  | .str x, h => by
    have h : ∀ c ∈ x.cps.toList, c < 16 ^ 8 := by simpa only [okD] using h
    refine ⟨.str x, rfl, rfl, rfl, Nat.le_refl _, ?_, Nat.le_refl _⟩
    simp only [PyData.leavesShort, List.all_eq_true, decide_eq_true_eq]
    exact h
  | .tup xs, h => by
    obtain ⟨ps, e, t⟩ := toldL xs (by simpa only [okD] using h)
    refine ⟨.tuple ps, by simp [D.py, e], ?_, ?_, ?_, ?_, ?_⟩
    · simpa only [PyData.showable] using t.sh
    · simpa only [PyData.hasDict] using t.nd
    · have := t.dp
      simp only [PyData.depth, dpD]; omega
    · simpa only [PyData.leavesShort] using t.sm
    · simpa only [PyData.weight, wtD] using t.wt
  | .lst xs, h => by
    obtain ⟨ps, e, t⟩ := toldL xs (by simpa only [okD] using h)
    refine ⟨.list ps, by simp [D.py, e], ?_, ?_, ?_, ?_, ?_⟩
    · simpa only [PyData.showable] using t.sh
    · simpa only [PyData.hasDict] using t.nd
    · have := t.dp
      simp only [PyData.depth, dpD]; omega
    · simpa only [PyData.leavesShort] using t.sm
    · simpa only [PyData.weight, wtD] using t.wt
  | .err _ _, h => by simp [okD] at h
  | .dct _, h => by simp [okD] at h
  | .kl _, h => by simp [okD] at h
  | .obj _ _, h => by simp [okD] at h
theorem toldL : ∀ ds : List D, okL ds → ∃ ps, pyAll ds = some ps ∧ ToldL ps (dpL ds) (wtL ds)
  | [], _ => ⟨[], rfl, rfl, rfl, Nat.le_refl _, rfl, Nat.le_refl _⟩
  | d :: ds, h => by
    have h : okD d ∧ okL ds := by simpa only [okL] using h
    obtain ⟨p, e1, t1⟩ := told d h.1
    obtain ⟨ps, e2, t2⟩ := toldL ds h.2
    refine ⟨p :: ps, by simp [pyAll, e1, e2], ?_, ?_, ?_, ?_, ?_⟩
    · simp only [PyData.showableAll, t1.sh, t2.sh, Bool.and_self]
    · simp only [PyData.hasDictAll, t1.nd, t2.nd, Bool.or_self]
    · have := t1.dp; have := t2.dp
      simp only [PyData.depthAll, dpL]; omega
    · simp only [PyData.leavesShortAll, t1.sm, t2.sm, Bool.and_self]
    · have := t1.wt; have := t2.wt
      simp only [PyData.weightAll, wtL]; omega
end
/-- repr of what is not too large -/
theorem repr_told {d : D} (h : okD d) (dp : dpD d ≤ 64) (wt : wtD d ≤ 2 ^ 20) : ∃ x, fRepr [d] = some (.str x) := by
  obtain ⟨p, e, t⟩ := told d h
  have ok : okShow p = true := by
    unfold okShow
    have a := t.dp
    have b := PyData.shown_fits (B := 13) (by decide) (by decide) t.sm (Nat.le_trans t.wt wt)
    simp [t.sh, t.nd, b, show p.depth ≤ 64 by omega]
  exact ⟨p.shown, by simp [fRepr, e, ok]⟩
theorem okL_all : ∀ {ds : List D}, (∀ d ∈ ds, okD d) → okL ds
  | [], _ => by simp [okL]
  | d :: ds, h => by
    rw [okL]
    exact ⟨h d List.mem_cons_self, okL_all fun x hx => h x (List.mem_cons_of_mem _ hx)⟩
theorem wtL_all {n : Nat} : ∀ {ds : List D}, (∀ d ∈ ds, wtD d ≤ n) → wtL ds ≤ ds.length * (n + 1)
  | [], _ => by simp [wtL]
  | d :: ds, h => by
    have a := h d List.mem_cons_self
    have b := wtL_all fun x hx => h x (List.mem_cons_of_mem d hx)
    rw [wtL, List.length_cons, Nat.succ_mul]; omega
theorem dpL_all {n : Nat} : ∀ {ds : List D}, (∀ d ∈ ds, dpD d ≤ n) → dpL ds ≤ n
  | [], _ => by simp [dpL]
  | d :: ds, h => by
    have a := h d List.mem_cons_self
    have b := dpL_all fun x hx => h x (List.mem_cons_of_mem d hx)
    rw [dpL]; omega
end DL
set_option Elab.async false
set_option linter.all false
set_option maxRecDepth 100000
set_option maxHeartbeats 1000000
/-! meanings run, step by step -/
namespace DL
open PySem PySem.Spec L2
variable {a b : MS} {mi : MF} {f : MG} {mb : MS} {ρ ρ1 ρ2 : En} {d x : D} {xs ds : List D} {c : Str}
theorem seq_nx (h : a ρ = .nx ρ1) : mSeq a b ρ = b ρ1 := by unfold mSeq; rw [h]; rfl
theorem seq_rt (h : a ρ = .rt d ρ1) : mSeq a b ρ = .rt d ρ1 := by unfold mSeq; rw [h]; rfl
theorem seq_ex (h : a ρ = .ex c d ρ1) : mSeq a b ρ = .ex c d ρ1 := by unfold mSeq; rw [h]; rfl
theorem for_go (h : mi ρ = .ok ds ρ1) : mFor mi f mb ρ = forGo f mb ds ρ1 := by unfold mFor; rw [h]; rfl
theorem go_nx (hf : f x ρ = some ρ1) (hb : mb ρ1 = .nx ρ2) : forGo f mb (x :: xs) ρ = forGo f mb xs ρ2 := by simp only [forGo, hf, hb]
theorem go_rt (hf : f x ρ = some ρ1) (hb : mb ρ1 = .rt d ρ2) : forGo f mb (x :: xs) ρ = .rt d ρ2 := by simp only [forGo, hf, hb]
theorem go_ex (hf : f x ρ = some ρ1) (hb : mb ρ1 = .ex c d ρ2) : forGo f mb (x :: xs) ρ = .ex c d ρ2 := by simp only [forGo, hf, hb]
theorem go_nil : forGo f mb [] ρ = .nx ρ := rfl
theorem str_ne {x y : Str} (h : x ≠ y) : (x == y) = false := beq_false_of_ne h
theorem int_ne {x y : Int} (h : x ≠ y) : (x == y) = false := beq_false_of_ne h
end DL
set_option Elab.async false
set_option linter.all false
set_option maxRecDepth 100000
set_option maxHeartbeats 4000000
namespace G08
open PySem PySem.Spec DL
def s_read_table_1 : MS := (mDrop (mCall F_check_signs (maCons (mXA 0) maNil)))
def s_read_table_2 : MS := (mIfS (mNotT (mT (mIsB "str" (mVar 1)))) (mRaise ("BadTableText" : Str) (mC (.int 0))) .nx)
def s_read_table_3 : MS := (mSet 2 (mL (mSplit (mVar 1) (mC (.str ("\n" : Str))))))
def s_read_table_4 : MS := (mPar [3, 4] (mpV (mCall F_things_in (maCons (mV (mBin ixD (mXA 2) (mV (mC (.int 0))))) maNil)) (mpF (mLst maNil) (fun ρ => .ok [] ρ))))
def s_read_table_5 : MS := (mIfS (mT (mBin isN (mXA 3) (mV (mC .non)))) (mRaise ("BadTableText" : Str) (mC (.int 1))) .nx)
def s_read_table_6_mi : MF := (mArgI enumOf (maCons (mV (mSl (mXA 2) (mPart (mC (.int 1))) (fun ρ => .ok none ρ))) maNil))
def s_read_table_6_f : MG := (gT 2 (gCs (gN 5) (gCs (gN 6) gNs)))
def s_read_table_6_b1 : MS := (mSet 7 (mIf (mT (mBin iLt (mXA 5) (mV (mFn fLen (maCons (mXA 0) maNil))))) (mCall F_row_in (maCons (mV (mBin ixD (mXA 0) (mXA 5))) (maCons (mXA 3) (maCons (mXA 6) maNil)))) (mC .non)))
def s_read_table_6_b2 : MS := (mIfS (mT (mBin isN (mXA 7) (mV (mC .non)))) (mRaise ("BadTableText" : Str) (mBin addD (mXA 5) (mV (mC (.int 2))))) .nx)
def s_read_table_6_b3 : MS := (mDrop (mAppend 4 (mVar 7)))
def s_read_table_6_b : MS := mSeq s_read_table_6_b1 (mSeq s_read_table_6_b2 (s_read_table_6_b3))
def s_read_table_6 : MS := mFor s_read_table_6_mi s_read_table_6_f s_read_table_6_b
def s_read_table_7 : MS := (mIfS (mT (mBin iLt (mV (mFn fLen (maCons (mXA 4) maNil))) (mV (mFn fLen (maCons (mXA 0) maNil))))) (mRaise ("BadTableText" : Str) (mBin addD (mV (mFn fLen (maCons (mXA 2) maNil))) (mV (mC (.int 1))))) .nx)
def s_read_table_8 : MS := (mRet (mTup (maCons (mXA 3) (maCons (mV (mFn fTuple (maCons (mXA 4) maNil))) maNil))))
def s_read_table_ : MS := mSeq s_read_table_1 (mSeq s_read_table_2 (mSeq s_read_table_3 (mSeq s_read_table_4 (mSeq s_read_table_5 (mSeq s_read_table_6 (mSeq s_read_table_7 (s_read_table_8)))))))
theorem s_read_table_split : m_read_table = s_read_table_ := rfl

/-- what the line at place i, behind the first one, tells -/
def rowAt (sg : Sg) (t : Int) (i : Nat) (line : Str) : D := match sg[i]? with
  | some q => rowV q.1 q.2 t line
  | none => .non
def firstBad (sg : Sg) (t : Int) : Nat → List Str → Option Nat
  | _, [] => none
  | i, l :: r => if isNonD (rowAt sg t i l) = true then some i else firstBad sg t (i + 1) r
def rowsAt (sg : Sg) (t : Int) : Nat → List Str → List D
  | _, [] => []
  | i, l :: r => rowAt sg t i l :: rowsAt sg t (i + 1) r
theorem rowsAt_len (sg : Sg) (t : Int) : ∀ (ls : List Str) (i : Nat), (rowsAt sg t i ls).length = ls.length
  | [], _ => rfl
  | l :: r, i => by rw [rowsAt, List.length_cons, List.length_cons, rowsAt_len]
structure SgOk (sg : Sg) : Prop where
  nm : ∀ q ∈ sg, q.1.length ≤ 1000
  pl : ∀ q ∈ sg, 0 ≤ q.2 ∧ q.2 ≤ 3
  few : sg.length ≤ 10
theorem sg_ok {sg : Sg} (h : sg ∈ sigs) : SgOk sg := by
  simp only [sigs, List.mem_cons, List.not_mem_nil, or_false] at h
  rcases h with rfl | rfl | rfl | rfl | rfl | rfl | rfl <;> exact ⟨by decide +kernel, by decide +kernel, by decide⟩
theorem rowV_cases (nm : Str) (pl t : Int) (line : Str) : rowV nm pl t line = .non ∨ ∃ xs, rowV nm pl t line = .tup xs := by
  unfold rowV
  split
  · exact .inl rfl
  · split
    · exact .inl rfl
    · exact .inr ⟨_, rfl⟩
theorem rowAt_cases (sg : Sg) (t : Int) (i : Nat) (line : Str) : rowAt sg t i line = .non ∨ ∃ xs, rowAt sg t i line = .tup xs := by
  unfold rowAt
  split
  · exact rowV_cases _ _ _ _
  · exact .inl rfl
theorem sgD_at {sg : Sg} {i : Nat} {q : Str × Int} (h : sg[i]? = some q) : ixD (sgD sg) (.int i) = some (.tup [.str q.1, .int q.2]) := by
  unfold sgD ixD
  exact L2.atI_nat (by rw [List.getElem?_map, h]; rfl)
theorem rt_body {sg : Sg} {t : Int} {i : Nat} {line : Str} {acc : List D} {x1 x2 x7 : Sl} (S : SgOk sg) (t1 : 1 ≤ t) (t6 : t ≤ 6) (hl : line.length ≤ 100000) (ha : acc.length ≤ 200000) :
    s_read_table_6_b [.val (sgD sg), x1, x2, .val (.int t), .own acc, .val (.int i), .val (.str line), x7] =
      if isNonD (rowAt sg t i line) = true then .ex "BadTableText" (.int (i + 2)) [.val (sgD sg), x1, x2, .val (.int t), .own acc, .val (.int i), .val (.str line), .val .non]
      else .nx [.val (sgD sg), x1, x2, .val (.int t), .own (acc ++ [rowAt sg t i line]), .val (.int i), .val (.str line), .val (rowAt sg t i line)] := by
  have hlen : ((sg.map fun q => D.tup [.str q.1, .int q.2]).length : Int) = sg.length := by simp
  have few := S.few
  have hz : sg.length ≤ 16777216 := by omega
  have e1 : s_read_table_6_b1 [.val (sgD sg), x1, x2, .val (.int t), .own acc, .val (.int i), .val (.str line), x7] = .nx [.val (sgD sg), x1, x2, .val (.int t), .own acc, .val (.int i), .val (.str line), .val (rowAt sg t i line)] := by
    unfold s_read_table_6_b1 rowAt
    cases h : sg[i]? with
    | none =>
      have : sg.length ≤ i := by simpa using h
      have hlt : ¬ ((i : Int) < (sg.length : Int)) := by omega
      simp [argEn, ioSl, mSeq, mIfS, mT, asB, mBin, mV, mC, mXA, mVar, mFn, mFnF, getsO, valsO, Opd.get, R.bind, R.thenS, RS.bind, mSet, mSetF, mPut, mRet, mRetF, mL, mLst, mTup, mDrop, mIf, mUn, iNot, iNeg, mNotT, mAnd, mOr, mAndT, mOrT, mChain, mPub, pubE, iLt, iLe, iGt, iGe, isN, notN, ixD, iMod, iDiv, iMul, iPow, iSub, addD, cmpD, fInt, fLen, fAbs, fMax2, fMin2, fStr, fTuple, fList, maCons, maNil, ownAt, outOf, ioL, bin2, mPar, mpV, mpF, setP, mRaise, mCall, callV, mCallF, callVF, mCallIO, callIO, ioArgs, mAsg, gN, gT, gCs, gNs, sizeLine_eq, L2.atI, L2.ixN, isNonD, eqD, neD, flatD, eqFl, sgD, hz, hlt]
    | some q =>
      have hi : i < sg.length := (List.getElem?_eq_some_iff.mp h).1
      have hlt : ((i : Int) < (sg.length : Int)) := by omega
      have hq := List.mem_of_getElem? h
      have r := row_in_ok (nm := q.1) (pl := q.2) t1 t6 (S.pl q hq).1 (S.pl q hq).2 (S.nm q hq) hl
      have ix := sgD_at h
      have hfl : fLen [sgD sg] = some (.int sg.length) := by simp [fLen, sgD, hz, sizeLine_eq]
      simp [argEn, ioSl, mSeq, mIfS, mT, asB, mBin, mV, mC, mXA, mVar, mFn, mFnF, getsO, valsO, Opd.get, R.bind, R.thenS, RS.bind, mSet, mSetF, mPut, mRet, mRetF, mL, mLst, mTup, mDrop, mIf, mUn, iNot, iNeg, mNotT, mAnd, mOr, mAndT, mOrT, mChain, mPub, pubE, iLt, iLe, iGt, iGe, isN, notN, iMod, iDiv, iMul, iPow, iSub, addD, cmpD, fInt, fAbs, fMax2, fMin2, fStr, fTuple, fList, maCons, maNil, ownAt, outOf, ioL, bin2, mPar, mpV, mpF, setP, mRaise, mCall, callV, mCallF, callVF, mCallIO, callIO, ioArgs, mAsg, gN, gT, gCs, gNs, sizeLine_eq, L2.atI, L2.ixN, isNonD, eqD, neD, flatD, eqFl, hfl, hlt, ix, r]
  unfold s_read_table_6_b
  rw [seq_nx e1]
  rcases rowAt_cases sg t i line with h | ⟨xs, h⟩
  · rw [h]
    unfold s_read_table_6_b2
    rw [seq_ex (c := "BadTableText") (d := .int (i + 2)) (by simp [argEn, ioSl, mSeq, mIfS, mT, asB, mBin, mV, mC, mXA, mVar, mFn, mFnF, getsO, valsO, Opd.get, R.bind, R.thenS, RS.bind, mSet, mSetF, mPut, mRet, mRetF, mL, mLst, mTup, mDrop, mIf, mUn, iNot, iNeg, mNotT, mAnd, mOr, mAndT, mOrT, mChain, mPub, pubE, iLt, iLe, iGt, iGe, isN, notN, ixD, iMod, iDiv, iMul, iPow, iSub, addD, cmpD, fInt, fLen, fAbs, fMax2, fMin2, fStr, fTuple, fList, maCons, maNil, ownAt, outOf, ioL, bin2, mPar, mpV, mpF, setP, mRaise, mCall, callV, mCallF, callVF, mCallIO, callIO, ioArgs, mAsg, gN, gT, gCs, gNs, sizeLine_eq, L2.atI, L2.ixN, isNonD, eqD, neD, flatD, eqFl]; rfl)]
    rfl
  · rw [h]
    have e2 : s_read_table_6_b2 [.val (sgD sg), x1, x2, .val (.int t), .own acc, .val (.int i), .val (.str line), .val (.tup xs)] = .nx [.val (sgD sg), x1, x2, .val (.int t), .own acc, .val (.int i), .val (.str line), .val (.tup xs)] := by
      unfold s_read_table_6_b2
      simp [argEn, ioSl, mSeq, mIfS, mT, asB, mBin, mV, mC, mXA, mVar, mFn, mFnF, getsO, valsO, Opd.get, R.bind, R.thenS, RS.bind, mSet, mSetF, mPut, mRet, mRetF, mL, mLst, mTup, mDrop, mIf, mUn, iNot, iNeg, mNotT, mAnd, mOr, mAndT, mOrT, mChain, mPub, pubE, iLt, iLe, iGt, iGe, isN, notN, ixD, iMod, iDiv, iMul, iPow, iSub, addD, cmpD, fInt, fLen, fAbs, fMax2, fMin2, fStr, fTuple, fList, maCons, maNil, ownAt, outOf, ioL, bin2, mPar, mpV, mpF, setP, mRaise, mCall, callV, mCallF, callVF, mCallIO, callIO, ioArgs, mAsg, gN, gT, gCs, gNs, sizeLine_eq, L2.atI, L2.ixN, isNonD, eqD, neD, flatD, eqFl]
    rw [seq_nx e2]
    unfold s_read_table_6_b3
    have hz2 : acc.length + 1 ≤ 16777216 := by omega
    simp [argEn, ioSl, mSeq, mIfS, mT, asB, mBin, mV, mC, mXA, mVar, mFn, mFnF, getsO, valsO, Opd.get, R.bind, R.thenS, RS.bind, mSet, mSetF, mPut, mRet, mRetF, mL, mLst, mTup, mDrop, mIf, mUn, iNot, iNeg, mNotT, mAnd, mOr, mAndT, mOrT, mChain, mPub, pubE, iLt, iLe, iGt, iGe, isN, notN, ixD, iMod, iDiv, iMul, iPow, iSub, addD, cmpD, fInt, fLen, fAbs, fMax2, fMin2, fStr, fTuple, fList, maCons, maNil, ownAt, outOf, ioL, bin2, mPar, mpV, mpF, setP, mRaise, mCall, callV, mCallF, callVF, mCallIO, callIO, ioArgs, mAsg, gN, gT, gCs, gNs, sizeLine_eq, L2.atI, L2.ixN, isNonD, eqD, neD, flatD, eqFl, mAppend, addTo, hz2]
end G08
set_option Elab.async false
set_option linter.all false
set_option maxRecDepth 100000
set_option maxHeartbeats 4000000
namespace G08
open PySem PySem.Spec DL
theorem rt_loop {sg : Sg} {t : Int} {x1 x2 : Sl} (S : SgOk sg) (t1 : 1 ≤ t) (t6 : t ≤ 6) : ∀ (ls : List Str) (i : Nat) (acc : List D) (x5 x6 x7 : Sl), (∀ l ∈ ls, l.length ≤ 100000) → acc.length + ls.length ≤ 200000 →
    (∃ j ρ', firstBad sg t i ls = some j ∧ forGo s_read_table_6_f s_read_table_6_b (enumL i (ls.map .str)) [.val (sgD sg), x1, x2, .val (.int t), .own acc, x5, x6, x7] = .ex "BadTableText" (.int (j + 2)) ρ') ∨
    (firstBad sg t i ls = none ∧ ∃ y5 y6 y7, forGo s_read_table_6_f s_read_table_6_b (enumL i (ls.map .str)) [.val (sgD sg), x1, x2, .val (.int t), .own acc, x5, x6, x7] = .nx [.val (sgD sg), x1, x2, .val (.int t), .own (acc ++ rowsAt sg t i ls), y5, y6, y7])
  | [], i, acc, x5, x6, x7, _, _ => .inr ⟨rfl, x5, x6, x7, by rw [rowsAt, List.append_nil]; rfl⟩
  | l :: r, i, acc, x5, x6, x7, hl, ha => by
    have hb := rt_body (x1 := x1) (x2 := x2) (x7 := x7) (i := i) (acc := acc) S t1 t6 (hl l List.mem_cons_self) (by rw [List.length_cons] at ha; omega)
    have hf : s_read_table_6_f (.tup [.int i, .str l]) [.val (sgD sg), x1, x2, .val (.int t), .own acc, x5, x6, x7] = some [.val (sgD sg), x1, x2, .val (.int t), .own acc, .val (.int i), .val (.str l), x7] := by
      simp [s_read_table_6_f, gT, gCs, gN, gNs]
    rw [List.map_cons]
    show (∃ j ρ', firstBad sg t i (l :: r) = some j ∧ forGo _ _ (.tup [.int i, .str l] :: enumL (i + 1) (r.map .str)) _ = _) ∨ (_ ∧ ∃ y5 y6 y7, forGo _ _ (.tup [.int i, .str l] :: enumL (i + 1) (r.map .str)) _ = _)
    by_cases h : isNonD (rowAt sg t i l) = true
    · rw [if_pos h] at hb
      exact .inl ⟨i, _, by rw [firstBad, if_pos h], go_ex hf hb⟩
    · rw [if_neg h] at hb
      rw [go_nx hf hb, firstBad, if_neg h]
      have ih := rt_loop (x1 := x1) (x2 := x2) S t1 t6 r (i + 1) (acc ++ [rowAt sg t i l]) (.val (.int i)) (.val (.str l)) (.val (rowAt sg t i l)) (fun k hk => hl k (List.mem_cons_of_mem _ hk)) (by rw [List.length_append]; rw [List.length_cons] at ha; simp; omega)
      rw [List.append_assoc] at ih
      exact ih
/-- what read_table does at a text whose lines are ls -/
def readV (sg : Sg) (ls : List Str) : Out := match ls with
  | [] => .bad
  | l0 :: rest => match thingsV l0 with
    | .int t => match firstBad sg t 0 rest with
      | some j => .exc "BadTableText" (.int (j + 2))
      | none => if rest.length < sg.length then .exc "BadTableText" (.int (rest.length + 2)) else .ok (.tup [.int t, .tup (rowsAt sg t 0 rest)]) []
    | _ => .exc "BadTableText" (.int 1)
theorem thingsV_cases (l : Str) : thingsV l = .non ∨ ∃ t, thingsV l = .int t ∧ 1 ≤ t ∧ t ≤ 6 := by
  unfold thingsV
  split
  · split
    · split
      · split
        · rename_i h
          exact .inr ⟨_, rfl, by omega, by omega⟩
        · exact .inl rfl
      · exact .inl rfl
    · exact .inl rfl
  · exact .inl rfl
abbrev linesOf (text : Str) : List Str := Txt.split text ("\n" : Str)
theorem lines_len {x : Str} : (linesOf x).length ≤ x.length + 1 ∧ ∀ w ∈ linesOf x, w.length ≤ x.length := words_len (c := 10) (by decide)
theorem lines_cons (x : Str) : ∃ l0 rest, linesOf x = l0 :: rest := by
  cases h : linesOf x with
  | nil => exact absurd h (words_ne (c := 10) (by decide))
  | cons a b => exact ⟨a, b, rfl⟩
theorem read_table_ok {sg : Sg} {text : Str} (h : sg ∈ sigs) (hl : text.length ≤ 90000) : F_read_table [sgD sg, .str text] = readV sg (linesOf text) := by
  have S := sg_ok h
  have few := S.few
  obtain ⟨l0, rest, e⟩ := lines_cons text
  obtain ⟨n1, n2⟩ := lines_len (x := text)
  rw [e] at n1 n2
  have n1 : rest.length + 1 ≤ text.length + 1 := n1
  have l0l : l0.length ≤ 100000 := by have := n2 l0 List.mem_cons_self; omega
  have hs : text.length + 2 ≤ 16777216 := by omega
  have sl : ((Str.ofString "\n").length == 0) = false := by decide +kernel
  have cs := check_signs_ok h
  have th := things_in_ok l0l
  have e' : Txt.split text (Str.ofString "\n") = l0 :: rest := e
  unfold F_read_table runF
  rw [s_read_table_split, e]
  unfold s_read_table_ readV
  have e0 : enIn [] 8 [sgD sg, .str text] = [.val (sgD sg), .val (.str text), .no, .no, .no, .no, .no, .no] := by simp [enIn, argEn, ioSl]
  rw [e0]
  rw [seq_nx (a := s_read_table_1) (ρ1 := [.val (sgD sg), .val (.str text), .no, .no, .no, .no, .no, .no]) (by unfold s_read_table_1; simp [argEn, ioSl, mSeq, mIfS, mT, asB, mBin, mV, mC, mXA, mVar, mFn, mFnF, getsO, valsO, Opd.get, R.bind, R.thenS, RS.bind, mSet, mSetF, mPut, mRet, mRetF, mL, mLst, mTup, mDrop, mIf, mUn, iNot, iNeg, mNotT, mAnd, mOr, mAndT, mOrT, mChain, mPub, pubE, iLt, iLe, iGt, iGe, isN, notN, ixD, iMod, iDiv, iMul, iPow, iSub, addD, cmpD, fInt, fLen, fAbs, fMax2, fMin2, fStr, fTuple, fList, maCons, maNil, ownAt, outOf, ioL, bin2, mPar, mpV, mpF, setP, mRaise, mCall, callV, mCallF, callVF, mCallIO, callIO, ioArgs, mAsg, gN, gT, gCs, gNs, sizeLine_eq, L2.atI, L2.ixN, isNonD, eqD, neD, flatD, eqFl, cs])]
  rw [seq_nx (a := s_read_table_2) (ρ1 := [.val (sgD sg), .val (.str text), .no, .no, .no, .no, .no, .no]) (by unfold s_read_table_2; simp [argEn, ioSl, mSeq, mIfS, mT, asB, mBin, mV, mC, mXA, mVar, mFn, mFnF, getsO, valsO, Opd.get, R.bind, R.thenS, RS.bind, mSet, mSetF, mPut, mRet, mRetF, mL, mLst, mTup, mDrop, mIf, mUn, iNot, iNeg, mNotT, mAnd, mOr, mAndT, mOrT, mChain, mPub, pubE, iLt, iLe, iGt, iGe, isN, notN, ixD, iMod, iDiv, iMul, iPow, iSub, addD, cmpD, fInt, fLen, fAbs, fMax2, fMin2, fStr, fTuple, fList, maCons, maNil, ownAt, outOf, ioL, bin2, mPar, mpV, mpF, setP, mRaise, mCall, callV, mCallF, callVF, mCallIO, callIO, ioArgs, mAsg, gN, gT, gCs, gNs, sizeLine_eq, L2.atI, L2.ixN, isNonD, eqD, neD, flatD, eqFl, mIsB, isB])]
  rw [seq_nx (a := s_read_table_3) (ρ1 := [.val (sgD sg), .val (.str text), .val (.lst (.str l0 :: rest.map .str)), .no, .no, .no, .no, .no]) (by unfold s_read_table_3; simp [argEn, ioSl, mSeq, mIfS, mT, asB, mBin, mV, mC, mXA, mVar, mFn, mFnF, getsO, valsO, Opd.get, R.bind, R.thenS, RS.bind, mSet, mSetF, mPut, mRet, mRetF, mL, mLst, mTup, mDrop, mIf, mUn, iNot, iNeg, mNotT, mAnd, mOr, mAndT, mOrT, mChain, mPub, pubE, iLt, iLe, iGt, iGe, isN, notN, ixD, iMod, iDiv, iMul, iPow, iSub, addD, cmpD, fInt, fLen, fAbs, fMax2, fMin2, fStr, fTuple, fList, maCons, maNil, ownAt, outOf, ioL, bin2, mPar, mpV, mpF, setP, mRaise, mCall, callV, mCallF, callVF, mCallIO, callIO, ioArgs, mAsg, gN, gT, gCs, gNs, sizeLine_eq, L2.atI, L2.ixN, isNonD, eqD, neD, flatD, eqFl, mSplit, hs, sl, e'])]
  rw [seq_nx (a := s_read_table_4) (ρ1 := [.val (sgD sg), .val (.str text), .val (.lst (.str l0 :: rest.map .str)), .val (thingsV l0), .own [], .no, .no, .no]) (by
    unfold s_read_table_4; simp [argEn, ioSl, mSeq, mIfS, mT, asB, mBin, mV, mC, mXA, mVar, mFn, mFnF, getsO, valsO, Opd.get, R.bind, R.thenS, RS.bind, mSet, mSetF, mPut, mRet, mRetF, mL, mLst, mTup, mDrop, mIf, mUn, iNot, iNeg, mNotT, mAnd, mOr, mAndT, mOrT, mChain, mPub, pubE, iLt, iLe, iGt, iGe, isN, notN, ixD, iMod, iDiv, iMul, iPow, iSub, addD, cmpD, fInt, fLen, fAbs, fMax2, fMin2, fStr, fTuple, fList, maCons, maNil, ownAt, outOf, ioL, bin2, mPar, mpV, mpF, setP, mRaise, mCall, callV, mCallF, callVF, mCallIO, callIO, ioArgs, mAsg, gN, gT, gCs, gNs, sizeLine_eq, L2.atI, L2.ixN, isNonD, eqD, neD, flatD, eqFl, th, noExc])]
  rcases thingsV_cases l0 with hv | ⟨t, hv, t1, t6⟩
  · simp only [hv]
    rw [seq_ex (a := s_read_table_5) (c := "BadTableText") (d := .int 1) (by unfold s_read_table_5; simp [argEn, ioSl, mSeq, mIfS, mT, asB, mBin, mV, mC, mXA, mVar, mFn, mFnF, getsO, valsO, Opd.get, R.bind, R.thenS, RS.bind, mSet, mSetF, mPut, mRet, mRetF, mL, mLst, mTup, mDrop, mIf, mUn, iNot, iNeg, mNotT, mAnd, mOr, mAndT, mOrT, mChain, mPub, pubE, iLt, iLe, iGt, iGe, isN, notN, ixD, iMod, iDiv, iMul, iPow, iSub, addD, cmpD, fInt, fLen, fAbs, fMax2, fMin2, fStr, fTuple, fList, maCons, maNil, ownAt, outOf, ioL, bin2, mPar, mpV, mpF, setP, mRaise, mCall, callV, mCallF, callVF, mCallIO, callIO, ioArgs, mAsg, gN, gT, gCs, gNs, sizeLine_eq, L2.atI, L2.ixN, isNonD, eqD, neD, flatD, eqFl]; rfl)]
    rfl
  · simp only [hv]
    rw [seq_nx (a := s_read_table_5) (ρ1 := [.val (sgD sg), .val (.str text), .val (.lst (.str l0 :: rest.map .str)), .val (.int t), .own [], .no, .no, .no]) (by unfold s_read_table_5; simp [argEn, ioSl, mSeq, mIfS, mT, asB, mBin, mV, mC, mXA, mVar, mFn, mFnF, getsO, valsO, Opd.get, R.bind, R.thenS, RS.bind, mSet, mSetF, mPut, mRet, mRetF, mL, mLst, mTup, mDrop, mIf, mUn, iNot, iNeg, mNotT, mAnd, mOr, mAndT, mOrT, mChain, mPub, pubE, iLt, iLe, iGt, iGe, isN, notN, ixD, iMod, iDiv, iMul, iPow, iSub, addD, cmpD, fInt, fLen, fAbs, fMax2, fMin2, fStr, fTuple, fList, maCons, maNil, ownAt, outOf, ioL, bin2, mPar, mpV, mpF, setP, mRaise, mCall, callV, mCallF, callVF, mCallIO, callIO, ioArgs, mAsg, gN, gT, gCs, gNs, sizeLine_eq, L2.atI, L2.ixN, isNonD, eqD, neD, flatD, eqFl])]
    have mi : s_read_table_6_mi [.val (sgD sg), .val (.str text), .val (.lst (.str l0 :: rest.map .str)), .val (.int t), .own [], .no, .no, .no] = .ok (enumL 0 (rest.map .str)) [.val (sgD sg), .val (.str text), .val (.lst (.str l0 :: rest.map .str)), .val (.int t), .own [], .no, .no, .no] := by
      unfold s_read_table_6_mi
      simp [argEn, ioSl, mSeq, mIfS, mT, asB, mBin, mV, mC, mXA, mVar, mFn, mFnF, getsO, valsO, Opd.get, R.bind, R.thenS, RS.bind, mSet, mSetF, mPut, mRet, mRetF, mL, mLst, mTup, mDrop, mIf, mUn, iNot, iNeg, mNotT, mAnd, mOr, mAndT, mOrT, mChain, mPub, pubE, iLt, iLe, iGt, iGe, isN, notN, ixD, iMod, iDiv, iMul, iPow, iSub, addD, cmpD, fInt, fLen, fAbs, fMax2, fMin2, fStr, fTuple, fList, maCons, maNil, ownAt, outOf, ioL, bin2, mPar, mpV, mpF, setP, mRaise, mCall, callV, mCallF, callVF, mCallIO, callIO, ioArgs, mAsg, gN, gT, gCs, gNs, sizeLine_eq, L2.atI, L2.ixN, isNonD, eqD, neD, flatD, eqFl, mArgI, mSl, mPart, slD, enumOf, cutL_tail]
    have lp := rt_loop (x1 := .val (.str text)) (x2 := .val (.lst (.str l0 :: rest.map .str))) S t1 t6 rest 0 [] .no .no .no (fun l hm => by have := n2 l (List.mem_cons_of_mem _ hm); omega) (by simp; omega)
    rcases lp with ⟨j, ρ', hb, hg⟩ | ⟨hb, y5, y6, y7, hg⟩
    · rw [seq_ex (a := s_read_table_6) (c := "BadTableText") (d := .int (j + 2)) (ρ1 := ρ') (by unfold s_read_table_6; rw [for_go mi]; exact hg)]
      simp only [hb]
      rfl
    · rw [seq_nx (a := s_read_table_6) (by unfold s_read_table_6; rw [for_go mi]; exact hg)]
      rw [List.nil_append]
      simp only [hb]
      have rl := rowsAt_len sg t rest 0
      have z1 : rest.length ≤ 16777216 := by omega
      have z1' : (rowsAt sg t 0 rest).length ≤ 16777216 := by rw [rl]; exact z1
      have z2 : rest.length + 1 ≤ 16777216 := by omega
      have z3 : List.length sg ≤ 16777216 := by omega
      by_cases hc : rest.length < List.length sg
      · rw [if_pos hc]
        rw [seq_ex (a := s_read_table_7) (c := "BadTableText") (d := .int (rest.length + 2)) (by
          unfold s_read_table_7
          simp [argEn, ioSl, mSeq, mIfS, mT, asB, mBin, mV, mC, mXA, mVar, mFn, mFnF, getsO, valsO, Opd.get, R.bind, R.thenS, RS.bind, mSet, mSetF, mPut, mRet, mRetF, mL, mLst, mTup, mDrop, mIf, mUn, iNot, iNeg, mNotT, mAnd, mOr, mAndT, mOrT, mChain, mPub, pubE, iLt, iLe, iGt, iGe, isN, notN, ixD, iMod, iDiv, iMul, iPow, iSub, addD, cmpD, fInt, fLen, fAbs, fMax2, fMin2, fStr, fTuple, fList, maCons, maNil, ownAt, outOf, ioL, bin2, mPar, mpV, mpF, setP, mRaise, mCall, callV, mCallF, callVF, mCallIO, callIO, ioArgs, mAsg, gN, gT, gCs, gNs, sizeLine_eq, L2.atI, L2.ixN, isNonD, eqD, neD, flatD, eqFl, sgD, z1', z1, z2, z3, rl, hc, Int.add_assoc]
          rfl)]
        rfl
      · rw [if_neg hc]
        rw [seq_nx (a := s_read_table_7) (ρ1 := [.val (sgD sg), .val (.str text), .val (.lst (.str l0 :: rest.map .str)), .val (.int t), .own (rowsAt sg t 0 rest), y5, y6, y7]) (by
          unfold s_read_table_7
          simp [argEn, ioSl, mSeq, mIfS, mT, asB, mBin, mV, mC, mXA, mVar, mFn, mFnF, getsO, valsO, Opd.get, R.bind, R.thenS, RS.bind, mSet, mSetF, mPut, mRet, mRetF, mL, mLst, mTup, mDrop, mIf, mUn, iNot, iNeg, mNotT, mAnd, mOr, mAndT, mOrT, mChain, mPub, pubE, iLt, iLe, iGt, iGe, isN, notN, ixD, iMod, iDiv, iMul, iPow, iSub, addD, cmpD, fInt, fLen, fAbs, fMax2, fMin2, fStr, fTuple, fList, maCons, maNil, ownAt, outOf, ioL, bin2, mPar, mpV, mpF, setP, mRaise, mCall, callV, mCallF, callVF, mCallIO, callIO, ioArgs, mAsg, gN, gT, gCs, gNs, sizeLine_eq, L2.atI, L2.ixN, isNonD, eqD, neD, flatD, eqFl, sgD, z1', z1, z2, z3, rl, hc])]
        unfold s_read_table_8
        simp [argEn, ioSl, mSeq, mIfS, mT, asB, mBin, mV, mC, mXA, mVar, mFn, mFnF, getsO, valsO, Opd.get, R.bind, R.thenS, RS.bind, mSet, mSetF, mPut, mRet, mRetF, mL, mLst, mTup, mDrop, mIf, mUn, iNot, iNeg, mNotT, mAnd, mOr, mAndT, mOrT, mChain, mPub, pubE, iLt, iLe, iGt, iGe, isN, notN, ixD, iMod, iDiv, iMul, iPow, iSub, addD, cmpD, fInt, fLen, fAbs, fMax2, fMin2, fStr, fTuple, fList, maCons, maNil, ownAt, outOf, ioL, bin2, mPar, mpV, mpF, setP, mRaise, mCall, callV, mCallF, callVF, mCallIO, callIO, ioArgs, mAsg, gN, gT, gCs, gNs, sizeLine_eq, L2.atI, L2.ixN, isNonD, eqD, neD, flatD, eqFl, z1']
end G08
set_option Elab.async false
set_option linter.all false
set_option maxRecDepth 100000
set_option maxHeartbeats 4000000
namespace G08
open PySem PySem.Spec DL
def s_law_is_read_1 : MS := (mAsg (mHeard errs (mCall F_read_table (maCons (mXA 0) (maCons (mXA 1) maNil)))) (gT 2 (gCs (gN 2) (gCs (gN 3) gNs))))
def s_law_is_read_2 : MS := (mPar [4, 5, 6] (mpV (mL (mSplit (mVar 1) (mC (.str ("\n" : Str))))) (mpV (mC .non) (mpF (mLst maNil) (fun ρ => .ok [] ρ)))))
def s_law_is_read_3 : MS := (mIfS (mT (mBin (cmpD notInD) (mV (mBin ixD (mXA 4) (mV (mC (.int 0))))) (mV (mL (mLc (mArgI rangeOf2 (maCons (mV (mC (.int 1))) (maCons (mV (mC (.int 7))) maNil))) (gN 10) [10] (fun ρ => .ok true ρ) (mBin addD (mV (mC (.str ("things " : Str)))) (mV (mFn fStr (maCons (mXA 10) maNil))))))))) (mSet 5 (mC (.int 1))) .nx)
def s_law_is_read_4_mi : MF := (mArgI enumOf (maCons (mV (mIf (mT (mBin isN (mXA 5) (mV (mC .non)))) (mSl (mXA 4) (mPart (mC (.int 1))) (fun ρ => .ok none ρ)) (mL (mLst maNil)))) maNil))
def s_law_is_read_4_f : MG := (gT 2 (gCs (gN 7) (gCs (gN 8) gNs)))
def s_law_is_read_4_b1 : MS := (mSet 9 (mIf (mT (mBin iLt (mXA 7) (mV (mFn fLen (maCons (mXA 0) maNil))))) (mCall F__law_line (maCons (mXA 8) (maCons (mV (mBin ixD (mXA 0) (mXA 7))) (maCons (mV (mFn fInt (maCons (mV (mSl (mV (mBin ixD (mXA 4) (mV (mC (.int 0))))) (mPart (mC (.int 7))) (fun ρ => .ok none ρ))) maNil))) maNil)))) (mC .non)))
def s_law_is_read_4_b2 : MS := (mSet 5 (mIf (mAndT (mT (mBin isN (mXA 9) (mV (mC .non)))) (mT (mBin isN (mXA 5) (mV (mC .non))))) (mBin addD (mXA 7) (mV (mC (.int 2)))) (mVar 5)))
def s_law_is_read_4_b3 : MS := (mDrop (mAppend 6 (mVar 9)))
def s_law_is_read_4_b : MS := mSeq s_law_is_read_4_b1 (mSeq s_law_is_read_4_b2 (s_law_is_read_4_b3))
def s_law_is_read_4 : MS := mFor s_law_is_read_4_mi s_law_is_read_4_f s_law_is_read_4_b
def s_law_is_read_5 : MS := (mIfS (mAndT (mT (mBin isN (mXA 5) (mV (mC .non)))) (mT (mBin iLt (mV (mFn fLen (maCons (mXA 6) maNil))) (mV (mFn fLen (maCons (mXA 0) maNil)))))) (mSet 5 (mBin addD (mV (mFn fLen (maCons (mXA 4) maNil))) (mV (mC (.int 1))))) .nx)
def s_law_is_read_6 : MS := (mIfS (mT (mBin notN (mXA 5) (mV (mC .non)))) (mRet (mAnd (mIsE errs (fun c => c == ("BadTableText" : Str)) (mVar 2)) (mBin (cmpD eqD) (mV (mFn fRepr (maCons (mV (mValue errs (mVar 2))) maNil))) (mV (mFn fRepr (maCons (mXA 5) maNil)))))) .nx)
def s_law_is_read_7 : MS := (mRet (mAnd (mBin isN (mXA 2) (mV (mC .non))) (mBin (cmpD eqD) (mV (mFn fRepr (maCons (mXA 3) maNil))) (mV (mFn fRepr (maCons (mV (mTup (maCons (mV (mFn fInt (maCons (mV (mSl (mV (mBin ixD (mXA 4) (mV (mC (.int 0))))) (mPart (mC (.int 7))) (fun ρ => .ok none ρ))) maNil))) (maCons (mV (mFn fTuple (maCons (mXA 6) maNil))) maNil)))) maNil))))))
def s_law_is_read_ : MS := mSeq s_law_is_read_1 (mSeq s_law_is_read_2 (mSeq s_law_is_read_3 (mSeq s_law_is_read_4 (mSeq s_law_is_read_5 (mSeq s_law_is_read_6 (s_law_is_read_7))))))
theorem s_law_is_read_split : m__law_is_read = s_law_is_read_ := rfl

/-- the first lines that may stand -/
abbrev heads : List (Str × Int) := [("things 1", 1), ("things 2", 2), ("things 3", 3), ("things 4", 4), ("things 5", 5), ("things 6", 6)]
theorem thingsV_of {l : Str} {t : Int} (h : thingsV l = .int t) : (l, t) ∈ heads := by
  unfold thingsV at h
  have j : Txt.join ⟨#[32]⟩ (wordsOf l) = l := words_join (c := 32) (by decide)
  split at h
  · rename_i a b hw
    split at h
    · rename_i ha
      split at h
      · rename_i i hd
        split at h
        · rename_i hi
          cases h
          rw [hw, ha] at j
          unfold dig at hd
          split at hd
          · rename_i c hc
            split at hd
            · rename_i hh
              have hb := one_str hc
              subst hb
              have e : (c : Int) - 48 = t := Option.some.inj hd
              rw [← j]
              have : c = 49 ∨ c = 50 ∨ c = 51 ∨ c = 52 ∨ c = 53 ∨ c = 54 := by omega
              rcases this with rfl | rfl | rfl | rfl | rfl | rfl <;> (rw [← e]; decide +kernel)
            · cases hd
          · cases hd
        · cases h
      · cases h
    · cases h
  · cases h
theorem thingsV_head {l : Str} {t : Int} (h : (l, t) ∈ heads) : thingsV l = .int t := by
  simp only [heads, List.mem_cons, List.not_mem_nil, or_false, Prod.mk.injEq] at h
  rcases h with ⟨rfl, rfl⟩ | ⟨rfl, rfl⟩ | ⟨rfl, rfl⟩ | ⟨rfl, rfl⟩ | ⟨rfl, rfl⟩ | ⟨rfl, rfl⟩ <;> kernel_rfl
/-- int(lines[0][7:]) -/
theorem head_int {l : Str} {t : Int} (h : (l, t) ∈ heads) : ∃ w, slD (.str l) (some 7) none = some (.str w) ∧ fInt [.str w] = some (.int t) := by
  simp only [heads, List.mem_cons, List.not_mem_nil, or_false, Prod.mk.injEq] at h
  rcases h with ⟨rfl, rfl⟩ | ⟨rfl, rfl⟩ | ⟨rfl, rfl⟩ | ⟨rfl, rfl⟩ | ⟨rfl, rfl⟩ | ⟨rfl, rfl⟩
  · exact ⟨"1", by kernel_rfl, by kernel_rfl⟩
  · exact ⟨"2", by kernel_rfl, by kernel_rfl⟩
  · exact ⟨"3", by kernel_rfl, by kernel_rfl⟩
  · exact ⟨"4", by kernel_rfl, by kernel_rfl⟩
  · exact ⟨"5", by kernel_rfl, by kernel_rfl⟩
  · exact ⟨"6", by kernel_rfl, by kernel_rfl⟩
/-- the law's own list of them -/
theorem heads_lc {s0 s1 s2 s3 s4 s5 s6 : Sl} : mLc (mArgI rangeOf2 (maCons (mV (mC (.int 1))) (maCons (mV (mC (.int 7))) maNil))) (gN 10) [10] (fun ρ => .ok true ρ) (mBin addD (mV (mC (.str ("things " : Str)))) (mV (mFn fStr (maCons (mXA 10) maNil)))) [s0, s1, s2, s3, s4, s5, s6, .no, .no, .no, .no] = .ok (heads.map fun q => .str q.1) [s0, s1, s2, s3, s4, s5, s6, .no, .no, .no, .no] := by
  kernel_rfl
theorem in_heads (l : Str) : inL (.str l) (heads.map fun q => D.str q.1) = some (heads.any fun q => q.1 == l) := by
  have g : ∀ hs : List (Str × Int), inL (.str l) (hs.map fun q => D.str q.1) = some (hs.any fun q => q.1 == l) := fun hs => by
    induction hs with
    | nil => rfl
    | cons q r ih => rw [List.map_cons]; unfold inL; rw [ih]; simp [eqD, flatD, eqFl]
  exact g _
theorem any_heads {l : Str} : (heads.any fun q => q.1 == l) = true ↔ ∃ t, (l, t) ∈ heads := by
  rw [List.any_eq_true]
  constructor
  · rintro ⟨q, hq, e⟩
    exact ⟨q.2, by rw [← eq_of_beq e]; exact hq⟩
  · rintro ⟨t, ht⟩
    exact ⟨(l, t), ht, beq_self_eq_true l⟩
/-- what a told or refused reading leaves -/
def caughtV : Out → D
  | .ok _ _ => .non
  | .exc c d => .err c d
  | .bad => .non
def toldV : Out → D
  | .ok d _ => d
  | _ => .non
/-- the law's loop, a turn -/
def wrongV (sg : Sg) (t : Int) (i : Nat) (line : Str) (w : D) : D := if isNonD (rowAt sg t i line) = true ∧ isNonD w = true then .int (i + 2) else w
theorem il_body {sg : Sg} {l0 : Str} {t : Int} {i : Nat} {line : Str} {acc rl : List D} {w : D} {x1 x2 x3 x9 x10 : Sl} (S : SgOk sg) (hh : (l0, t) ∈ heads) (t1 : 1 ≤ t) (t6 : t ≤ 6) (hl : line.length ≤ 100000) (ha : acc.length ≤ 200000) (hw : w = .non ∨ ∃ j, w = .int j) :
    s_law_is_read_4_b [.val (sgD sg), x1, x2, x3, .val (.lst (.str l0 :: rl)), .val w, .own acc, .val (.int i), .val (.str line), x9, x10] =
      .nx [.val (sgD sg), x1, x2, x3, .val (.lst (.str l0 :: rl)), .val (wrongV sg t i line w), .own (acc ++ [rowAt sg t i line]), .val (.int i), .val (.str line), .val (rowAt sg t i line), x10] := by
  have few := S.few
  have hz : sg.length ≤ 16777216 := by omega
  obtain ⟨u, hu1, hu2⟩ := head_int hh
  have hfl : fLen [sgD sg] = some (.int sg.length) := by simp [fLen, sgD, hz, sizeLine_eq]
  have ix0 : ixD (.lst (.str l0 :: rl)) (.int 0) = some (.str l0) := by simp [ixD, L2.atI, L2.ixN]
  have e1 : s_law_is_read_4_b1 [.val (sgD sg), x1, x2, x3, .val (.lst (.str l0 :: rl)), .val w, .own acc, .val (.int i), .val (.str line), x9, x10] = .nx [.val (sgD sg), x1, x2, x3, .val (.lst (.str l0 :: rl)), .val w, .own acc, .val (.int i), .val (.str line), .val (rowAt sg t i line), x10] := by
    unfold s_law_is_read_4_b1 rowAt
    cases h : sg[i]? with
    | none =>
      have : sg.length ≤ i := by simpa using h
      have hlt : ¬ ((i : Int) < (sg.length : Int)) := by omega
      simp [argEn, ioSl, mSeq, mIfS, mT, asB, mBin, mV, mC, mXA, mVar, mFn, mFnF, getsO, valsO, Opd.get, R.bind, R.thenS, RS.bind, mSet, mSetF, mPut, mRet, mRetF, mL, mLst, mTup, mDrop, mIf, mUn, iNot, iNeg, mNotT, mAnd, mOr, mAndT, mOrT, mChain, mPub, pubE, iLt, iLe, iGt, iGe, isN, notN, iMod, iDiv, iMul, iPow, iSub, addD, cmpD, fInt, fAbs, fMax2, fMin2, fStr, fTuple, fList, maCons, maNil, ownAt, outOf, ioL, bin2, mPar, mpV, mpF, setP, mRaise, mCall, callV, mCallF, callVF, mCallIO, callIO, ioArgs, mAsg, gN, gT, gCs, gNs, sizeLine_eq, L2.atI, L2.ixN, isNonD, eqD, neD, flatD, eqFl, hfl, hlt]
    | some q =>
      have hi : i < sg.length := (List.getElem?_eq_some_iff.mp h).1
      have hlt : ((i : Int) < (sg.length : Int)) := by omega
      have hq := List.mem_of_getElem? h
      have r := line_ok (nm := q.1) (pl := q.2) t1 t6 (S.pl q hq).1 (S.pl q hq).2 hl
      have ix := sgD_at h
      simp [argEn, ioSl, mSeq, mIfS, mT, asB, mBin, mV, mC, mXA, mVar, mFn, mFnF, getsO, valsO, Opd.get, R.bind, R.thenS, RS.bind, mSet, mSetF, mPut, mRet, mRetF, mL, mLst, mTup, mDrop, mIf, mUn, iNot, iNeg, mNotT, mAnd, mOr, mAndT, mOrT, mChain, mPub, pubE, iLt, iLe, iGt, iGe, isN, notN, iMod, iDiv, iMul, iPow, iSub, addD, cmpD, fAbs, fMax2, fMin2, fStr, fTuple, fList, maCons, maNil, ownAt, outOf, ioL, bin2, mPar, mpV, mpF, setP, mRaise, mCall, callV, mCallF, callVF, mCallIO, callIO, ioArgs, mAsg, gN, gT, gCs, gNs, sizeLine_eq, L2.atI, L2.ixN, isNonD, eqD, neD, flatD, eqFl, hfl, hlt, ix, ix0, r, mSl, mPart, hu1, hu2]
  unfold s_law_is_read_4_b
  rw [seq_nx e1]
  have e2 : s_law_is_read_4_b2 [.val (sgD sg), x1, x2, x3, .val (.lst (.str l0 :: rl)), .val w, .own acc, .val (.int i), .val (.str line), .val (rowAt sg t i line), x10] = .nx [.val (sgD sg), x1, x2, x3, .val (.lst (.str l0 :: rl)), .val (wrongV sg t i line w), .own acc, .val (.int i), .val (.str line), .val (rowAt sg t i line), x10] := by
    unfold s_law_is_read_4_b2 wrongV
    rcases rowAt_cases sg t i line with h | ⟨xs, h⟩ <;> rw [h] <;> rcases hw with rfl | ⟨j, rfl⟩ <;> simp [argEn, ioSl, mSeq, mIfS, mT, asB, mBin, mV, mC, mXA, mVar, mFn, mFnF, getsO, valsO, Opd.get, R.bind, R.thenS, RS.bind, mSet, mSetF, mPut, mRet, mRetF, mL, mLst, mTup, mDrop, mIf, mUn, iNot, iNeg, mNotT, mAnd, mOr, mAndT, mOrT, mChain, mPub, pubE, iLt, iLe, iGt, iGe, isN, notN, ixD, iMod, iDiv, iMul, iPow, iSub, addD, cmpD, fInt, fLen, fAbs, fMax2, fMin2, fStr, fTuple, fList, maCons, maNil, ownAt, outOf, ioL, bin2, mPar, mpV, mpF, setP, mRaise, mCall, callV, mCallF, callVF, mCallIO, callIO, ioArgs, mAsg, gN, gT, gCs, gNs, sizeLine_eq, L2.atI, L2.ixN, isNonD, eqD, neD, flatD, eqFl]
  rw [seq_nx e2]
  unfold s_law_is_read_4_b3
  have hz2 : acc.length + 1 ≤ 16777216 := by omega
  simp [argEn, ioSl, mSeq, mIfS, mT, asB, mBin, mV, mC, mXA, mVar, mFn, mFnF, getsO, valsO, Opd.get, R.bind, R.thenS, RS.bind, mSet, mSetF, mPut, mRet, mRetF, mL, mLst, mTup, mDrop, mIf, mUn, iNot, iNeg, mNotT, mAnd, mOr, mAndT, mOrT, mChain, mPub, pubE, iLt, iLe, iGt, iGe, isN, notN, ixD, iMod, iDiv, iMul, iPow, iSub, addD, cmpD, fInt, fLen, fAbs, fMax2, fMin2, fStr, fTuple, fList, maCons, maNil, ownAt, outOf, ioL, bin2, mPar, mpV, mpF, setP, mRaise, mCall, callV, mCallF, callVF, mCallIO, callIO, ioArgs, mAsg, gN, gT, gCs, gNs, sizeLine_eq, L2.atI, L2.ixN, isNonD, eqD, neD, flatD, eqFl, mAppend, addTo, hz2]
theorem il_loop {sg : Sg} {l0 : Str} {t : Int} {rl : List D} {x1 x2 x3 x10 : Sl} (S : SgOk sg) (hh : (l0, t) ∈ heads) (t1 : 1 ≤ t) (t6 : t ≤ 6) : ∀ (ls : List Str) (i : Nat) (acc : List D) (w : D) (x7 x8 x9 : Sl), (∀ l ∈ ls, l.length ≤ 100000) → acc.length + ls.length ≤ 200000 → (w = .non ∨ ∃ j, w = .int j) →
    ∃ y7 y8 y9, forGo s_law_is_read_4_f s_law_is_read_4_b (enumL i (ls.map .str)) [.val (sgD sg), x1, x2, x3, .val (.lst (.str l0 :: rl)), .val w, .own acc, x7, x8, x9, x10] =
      .nx [.val (sgD sg), x1, x2, x3, .val (.lst (.str l0 :: rl)), .val (if isNonD w = true then (match firstBad sg t i ls with | some j => .int (j + 2) | none => .non) else w), .own (acc ++ rowsAt sg t i ls), y7, y8, y9, x10]
  | [], i, acc, w, x7, x8, x9, _, _, hw => ⟨x7, x8, x9, by
    rw [rowsAt, List.append_nil]
    rcases hw with rfl | ⟨j, rfl⟩ <;> rfl⟩
  | l :: r, i, acc, w, x7, x8, x9, hl, ha, hw => by
    have hb := il_body (x1 := x1) (x2 := x2) (x3 := x3) (x9 := x9) (x10 := x10) (i := i) (acc := acc) (rl := rl) S hh t1 t6 (hl l List.mem_cons_self) (by rw [List.length_cons] at ha; omega) hw
    have hf : s_law_is_read_4_f (.tup [.int i, .str l]) [.val (sgD sg), x1, x2, x3, .val (.lst (.str l0 :: rl)), .val w, .own acc, x7, x8, x9, x10] = some [.val (sgD sg), x1, x2, x3, .val (.lst (.str l0 :: rl)), .val w, .own acc, .val (.int i), .val (.str l), x9, x10] := by
      simp [s_law_is_read_4_f, gT, gCs, gN, gNs]
    have hw2 : wrongV sg t i l w = .non ∨ ∃ j, wrongV sg t i l w = .int j := by
      unfold wrongV
      split
      · exact .inr ⟨_, rfl⟩
      · exact hw
    obtain ⟨y7, y8, y9, ih⟩ := il_loop (x1 := x1) (x2 := x2) (x3 := x3) (x10 := x10) (rl := rl) S hh t1 t6 r (i + 1) (acc ++ [rowAt sg t i l]) (wrongV sg t i l w) (.val (.int i)) (.val (.str l)) (.val (rowAt sg t i l)) (fun k hk => hl k (List.mem_cons_of_mem _ hk)) (by rw [List.length_append]; rw [List.length_cons] at ha; simp; omega) hw2
    refine ⟨y7, y8, y9, ?_⟩
    rw [List.map_cons]
    show forGo _ _ (.tup [.int i, .str l] :: enumL (i + 1) (r.map .str)) _ = _
    have n0 : isNonD D.non = true := rfl
    have ni : ∀ j, isNonD (D.int j) = false := fun _ => rfl
    have : (if isNonD (wrongV sg t i l w) = true then (match firstBad sg t (i + 1) r with | some j => D.int (j + 2) | none => .non) else wrongV sg t i l w) = (if isNonD w = true then (match firstBad sg t i (l :: r) with | some j => .int (j + 2) | none => .non) else w) := by
      unfold wrongV
      rw [firstBad]
      by_cases h : isNonD (rowAt sg t i l) = true
      · rcases hw with rfl | ⟨j, rfl⟩ <;> simp [h, n0, ni]
      · rcases hw with rfl | ⟨j, rfl⟩ <;> simp [h, n0, ni]
    rw [go_nx hf hb, ih, List.append_assoc, this]
    rfl
end G08
set_option Elab.async false
set_option linter.all false
set_option maxRecDepth 100000
set_option maxHeartbeats 4000000
namespace G08
open PySem PySem.Spec DL
theorem thingV_told (w : Str) (t : Int) : okD (thingV w t) ∧ wtD (thingV w t) ≤ 30 ∧ dpD (thingV w t) ≤ 0 := by
  unfold thingV
  cases h : dig w with
  | none => simp [okD, wtD, dpD]
  | some i =>
    have hi : 0 ≤ i ∧ i < 10 := by
      unfold dig at h
      split at h
      · split at h
        · cases h; omega
        · cases h
      · cases h
    by_cases hc : i < t
    · simp only [hc, if_true, okD, wtD, dpD]
      exact ⟨by omega, by omega, by omega⟩
    · simp [hc, okD, wtD, dpD]
theorem rowAt_told {sg : Sg} {t : Int} {i : Nat} {line : Str} (S : SgOk sg) (t1 : 1 ≤ t) (t6 : t ≤ 6) : okD (rowAt sg t i line) ∧ wtD (rowAt sg t i line) ≤ 7000 ∧ dpD (rowAt sg t i line) ≤ 1 := by
  have non : okD .non ∧ wtD .non ≤ 7000 ∧ dpD .non ≤ 1 := by simp [okD, wtD, dpD]
  unfold rowAt
  split
  · rename_i q hq
    obtain ⟨p0, p3⟩ := S.pl q (List.mem_of_getElem? hq)
    unfold rowV
    split
    · exact non
    · rename_i w ws hw
      split
      · exact non
      · rename_i hc
        have hl : ws.length = t.toNat ^ q.2.toNat := by
          by_cases h : ws.length = t.toNat ^ q.2.toNat
          · exact h
          · exact absurd (.inr (.inr h)) hc
        have pw : t.toNat ^ q.2.toNat ≤ 216 := Nat.le_trans (Nat.pow_le_pow_left (show t.toNat ≤ 6 by omega) _) (Nat.le_trans (Nat.pow_le_pow_right (by decide) (by omega : q.2.toNat ≤ 3)) (by decide))
        have a1 := okL_all (ds := ws.map fun w => thingV w t) (fun d hd => by
          obtain ⟨w, _, rfl⟩ := List.mem_map.mp hd
          exact (thingV_told w t).1)
        have a2 := wtL_all (n := 30) (ds := ws.map fun w => thingV w t) (fun d hd => by
          obtain ⟨w, _, rfl⟩ := List.mem_map.mp hd
          exact (thingV_told w t).2.1)
        have a3 := dpL_all (n := 0) (ds := ws.map fun w => thingV w t) (fun d hd => by
          obtain ⟨w, _, rfl⟩ := List.mem_map.mp hd
          exact (thingV_told w t).2.2)
        rw [List.length_map] at a2
        refine ⟨by simpa only [okD] using a1, ?_, ?_⟩
        · simp only [wtD]
          have : ws.length * 31 ≤ 216 * 31 := Nat.mul_le_mul_right _ (by omega)
          omega
        · simp only [dpD]; omega
  · exact non
theorem rowsAt_told {sg : Sg} {t : Int} (S : SgOk sg) (t1 : 1 ≤ t) (t6 : t ≤ 6) : ∀ (ls : List Str) (i : Nat), ∀ d ∈ rowsAt sg t i ls, okD d ∧ wtD d ≤ 7000 ∧ dpD d ≤ 1
  | [], _, d, h => by simp [rowsAt] at h
  | l :: r, i, d, h => by
    rw [rowsAt] at h
    rcases List.mem_cons.mp h with rfl | h
    · exact rowAt_told S t1 t6
    · exact rowsAt_told S t1 t6 r (i + 1) d h
theorem noBad_len {sg : Sg} {t : Int} : ∀ (ls : List Str) (i : Nat), firstBad sg t i ls = none → ls = [] ∨ i + ls.length ≤ sg.length
  | [], _, _ => .inl rfl
  | l :: r, i, h => by
    rw [firstBad] at h
    split at h
    · cases h
    · rename_i hn
      have hi : i < sg.length := by
        by_cases c : i < sg.length
        · exact c
        · have : sg[i]? = none := by simp; omega
          exact absurd (by simp [rowAt, this, isNonD]) hn
      rcases noBad_len r (i + 1) h with e | e
      · subst e
        exact .inr (by show i + 1 ≤ _; exact hi)
      · exact .inr (by rw [List.length_cons]; omega)
theorem int_told {z : Int} (h : z.natAbs < 2 ^ 30) : ∃ x, fRepr [.int z] = some (.str x) := repr_told (by simpa only [okD] using h) (by simp [dpD]) (by simp only [wtD]; omega)
theorem is_read_ok {sg : Sg} {text : Str} (h : sg ∈ sigs) (hl : text.length ≤ 90000) : F__law_is_read [sgD sg, .str text] = .ok (.bl true) [] := by
  have S := sg_ok h
  have few := S.few
  have rd := read_table_ok h hl
  obtain ⟨l0, rest, e⟩ := lines_cons text
  obtain ⟨n1, n2⟩ := lines_len (x := text)
  rw [e] at n1 n2 rd
  have n1 : rest.length + 1 ≤ text.length + 1 := n1
  have hs : text.length + 2 ≤ 16777216 := by omega
  have sl : ((Str.ofString "\n").length == 0) = false := by decide +kernel
  have e' : Txt.split text (Str.ofString "\n") = l0 :: rest := e
  have bt : (Str.ofString "BadTableText") ∈ errs := by decide +kernel
  have ix0 : ∀ rl, ixD (.lst (.str l0 :: rl)) (.int 0) = some (.str l0) := fun rl => by simp [ixD, L2.atI, L2.ixN]
  unfold F__law_is_read runF
  rw [s_law_is_read_split]
  unfold s_law_is_read_
  have e0 : enIn [] 11 [sgD sg, .str text] = [.val (sgD sg), .val (.str text), .no, .no, .no, .no, .no, .no, .no, .no, .no] := by simp [enIn, argEn, ioSl]
  rw [e0]
  have st1 : s_law_is_read_1 [.val (sgD sg), .val (.str text), .no, .no, .no, .no, .no, .no, .no, .no, .no] = .nx [.val (sgD sg), .val (.str text), .val (caughtV (readV sg (l0 :: rest))), .val (toldV (readV sg (l0 :: rest))), .no, .no, .no, .no, .no, .no, .no] := by
    unfold s_law_is_read_1
    have hv : ∃ d, readV sg (l0 :: rest) = .ok d [] ∨ readV sg (l0 :: rest) = .exc "BadTableText" d := by
      unfold readV
      rcases thingsV_cases l0 with z | ⟨t, z, _⟩
      · simp only [z]; exact ⟨_, .inr rfl⟩
      · simp only [z]
        split
        · exact ⟨_, .inr rfl⟩
        · split
          · exact ⟨_, .inr rfl⟩
          · exact ⟨_, .inl rfl⟩
    obtain ⟨d, hv | hv⟩ := hv
    · rw [hv] at rd ⊢
      simp [argEn, ioSl, mSeq, mIfS, mT, asB, mBin, mV, mC, mXA, mVar, mFn, mFnF, getsO, valsO, Opd.get, R.bind, R.thenS, RS.bind, mSet, mSetF, mPut, mRet, mRetF, mL, mLst, mTup, mDrop, mIf, mUn, iNot, iNeg, mNotT, mAnd, mOr, mAndT, mOrT, mChain, mPub, pubE, iLt, iLe, iGt, iGe, isN, notN, ixD, iMod, iDiv, iMul, iPow, iSub, addD, cmpD, fInt, fLen, fAbs, fMax2, fMin2, fStr, fTuple, fList, maCons, maNil, ownAt, outOf, ioL, bin2, mPar, mpV, mpF, setP, mRaise, mCall, callV, mCallF, callVF, mCallIO, callIO, ioArgs, mAsg, gN, gT, gCs, gNs, sizeLine_eq, L2.atI, L2.ixN, isNonD, eqD, neD, flatD, eqFl, mHeard, rd, caughtV, toldV]
    · rw [hv] at rd ⊢
      simp [argEn, ioSl, mSeq, mIfS, mT, asB, mBin, mV, mC, mXA, mVar, mFn, mFnF, getsO, valsO, Opd.get, R.bind, R.thenS, RS.bind, mSet, mSetF, mPut, mRet, mRetF, mL, mLst, mTup, mDrop, mIf, mUn, iNot, iNeg, mNotT, mAnd, mOr, mAndT, mOrT, mChain, mPub, pubE, iLt, iLe, iGt, iGe, isN, notN, ixD, iMod, iDiv, iMul, iPow, iSub, addD, cmpD, fInt, fLen, fAbs, fMax2, fMin2, fStr, fTuple, fList, maCons, maNil, ownAt, outOf, ioL, bin2, mPar, mpV, mpF, setP, mRaise, mCall, callV, mCallF, callVF, mCallIO, callIO, ioArgs, mAsg, gN, gT, gCs, gNs, sizeLine_eq, L2.atI, L2.ixN, isNonD, eqD, neD, flatD, eqFl, mHeard, rd, caughtV, toldV, bt]
  rw [seq_nx st1]
  generalize hV : readV sg (l0 :: rest) = V
  rw [seq_nx (a := s_law_is_read_2) (ρ1 := [.val (sgD sg), .val (.str text), .val (caughtV V), .val (toldV V), .val (.lst (.str l0 :: rest.map .str)), .val .non, .own [], .no, .no, .no, .no]) (by
    unfold s_law_is_read_2; simp [argEn, ioSl, mSeq, mIfS, mT, asB, mBin, mV, mC, mXA, mVar, mFn, mFnF, getsO, valsO, Opd.get, R.bind, R.thenS, RS.bind, mSet, mSetF, mPut, mRet, mRetF, mL, mLst, mTup, mDrop, mIf, mUn, iNot, iNeg, mNotT, mAnd, mOr, mAndT, mOrT, mChain, mPub, pubE, iLt, iLe, iGt, iGe, isN, notN, ixD, iMod, iDiv, iMul, iPow, iSub, addD, cmpD, fInt, fLen, fAbs, fMax2, fMin2, fStr, fTuple, fList, maCons, maNil, ownAt, outOf, ioL, bin2, mPar, mpV, mpF, setP, mRaise, mCall, callV, mCallF, callVF, mCallIO, callIO, ioArgs, mAsg, gN, gT, gCs, gNs, sizeLine_eq, L2.atI, L2.ixN, isNonD, eqD, neD, flatD, eqFl, mSplit, hs, sl, e', noExc])]
  have st3 : s_law_is_read_3 [.val (sgD sg), .val (.str text), .val (caughtV V), .val (toldV V), .val (.lst (.str l0 :: rest.map .str)), .val .non, .own [], .no, .no, .no, .no] =
      .nx [.val (sgD sg), .val (.str text), .val (caughtV V), .val (toldV V), .val (.lst (.str l0 :: rest.map .str)), .val (if (heads.any fun q => q.1 == l0) = true then .non else .int 1), .own [], .no, .no, .no, .no] := by
    unfold s_law_is_read_3
    have hlc := heads_lc (s0 := .val (sgD sg)) (s1 := .val (.str text)) (s2 := .val (caughtV V)) (s3 := .val (toldV V)) (s4 := .val (.lst (.str l0 :: rest.map .str))) (s5 := .val .non) (s6 := .own [])
    have hin : notInD (.str l0) (.lst (heads.map fun q => .str q.1)) = some (!(heads.any fun q => q.1 == l0)) := by
      have := in_heads l0
      simp only [notInD, inD]
      rw [this]; rfl
    generalize (heads.any fun q => q.1 == l0) = bb at hin ⊢
    generalize (heads.map fun q => D.str q.1) = hd at hin hlc
    have hp : mLc (mArgI rangeOf2 (maCons (mV (mC (.int 1))) (maCons (mV (mC (.int 7))) maNil))) (gN 10) [10] (fun ρ => .ok true ρ) (mBin addD (mV (mC (.str (Str.ofString "things ")))) (mV (mFn fStr (maCons (mXA 10) maNil)))) [.val (sgD sg), .val (.str text), .val (caughtV V), .val (toldV V), .val (.lst (.str l0 :: rest.map .str)), .val .non, .own [], .no, .no, .no, .no] = .ok hd [.val (sgD sg), .val (.str text), .val (caughtV V), .val (toldV V), .val (.lst (.str l0 :: rest.map .str)), .val .non, .own [], .no, .no, .no, .no] := hlc
    cases bb <;> simp [mIfS, mT, mBin, mXA, mV, mC, mL, R.bind, R.thenS, getsO, valsO, Opd.get, asB, cmpD, bin2, mSet, ix0, hp, hin]
  rw [seq_nx st3]
  rcases thingsV_cases l0 with z | ⟨t, z, t1, t6⟩
  · -- no first line
    have nh : (heads.any fun q => q.1 == l0) = false := by
      cases q : heads.any fun q => q.1 == l0 with
      | false => rfl
      | true =>
        obtain ⟨t, ht⟩ := any_heads.mp q
        rw [thingsV_head ht] at z; cases z
    have eV : V = .exc "BadTableText" (.int 1) := by rw [← hV]; simp only [readV, z]
    rw [nh, if_neg (by decide), eV]
    rw [seq_nx (a := s_law_is_read_4) (ρ1 := [.val (sgD sg), .val (.str text), .val (.err "BadTableText" (.int 1)), .val .non, .val (.lst (.str l0 :: rest.map .str)), .val (.int 1), .own [], .no, .no, .no, .no]) (by
      unfold s_law_is_read_4
      rw [for_go (ds := []) (ρ1 := [.val (sgD sg), .val (.str text), .val (.err "BadTableText" (.int 1)), .val .non, .val (.lst (.str l0 :: rest.map .str)), .val (.int 1), .own [], .no, .no, .no, .no]) (by
        unfold s_law_is_read_4_mi
        simp [argEn, ioSl, mSeq, mIfS, mT, asB, mBin, mV, mC, mXA, mVar, mFn, mFnF, getsO, valsO, Opd.get, R.bind, R.thenS, RS.bind, mSet, mSetF, mPut, mRet, mRetF, mL, mLst, mTup, mDrop, mIf, mUn, iNot, iNeg, mNotT, mAnd, mOr, mAndT, mOrT, mChain, mPub, pubE, iLt, iLe, iGt, iGe, isN, notN, ixD, iMod, iDiv, iMul, iPow, iSub, addD, cmpD, fInt, fLen, fAbs, fMax2, fMin2, fStr, fTuple, fList, maCons, maNil, ownAt, outOf, ioL, bin2, mPar, mpV, mpF, setP, mRaise, mCall, callV, mCallF, callVF, mCallIO, callIO, ioArgs, mAsg, gN, gT, gCs, gNs, sizeLine_eq, L2.atI, L2.ixN, isNonD, eqD, neD, flatD, eqFl, mArgI, enumOf, enumL, caughtV, toldV])]
      rfl)]
    rw [seq_nx (a := s_law_is_read_5) (ρ1 := [.val (sgD sg), .val (.str text), .val (.err "BadTableText" (.int 1)), .val .non, .val (.lst (.str l0 :: rest.map .str)), .val (.int 1), .own [], .no, .no, .no, .no]) (by
      unfold s_law_is_read_5; simp [argEn, ioSl, mSeq, mIfS, mT, asB, mBin, mV, mC, mXA, mVar, mFn, mFnF, getsO, valsO, Opd.get, R.bind, R.thenS, RS.bind, mSet, mSetF, mPut, mRet, mRetF, mL, mLst, mTup, mDrop, mIf, mUn, iNot, iNeg, mNotT, mAnd, mOr, mAndT, mOrT, mChain, mPub, pubE, iLt, iLe, iGt, iGe, isN, notN, ixD, iMod, iDiv, iMul, iPow, iSub, addD, cmpD, fInt, fLen, fAbs, fMax2, fMin2, fStr, fTuple, fList, maCons, maNil, ownAt, outOf, ioL, bin2, mPar, mpV, mpF, setP, mRaise, mCall, callV, mCallF, callVF, mCallIO, callIO, ioArgs, mAsg, gN, gT, gCs, gNs, sizeLine_eq, L2.atI, L2.ixN, isNonD, eqD, neD, flatD, eqFl])]
    obtain ⟨x, hx⟩ := int_told (z := 1) (by decide)
    rw [seq_rt (a := s_law_is_read_6) (d := .bl true) (ρ1 := [.val (sgD sg), .val (.str text), .val (.err "BadTableText" (.int 1)), .val .non, .val (.lst (.str l0 :: rest.map .str)), .val (.int 1), .own [], .no, .no, .no, .no]) (by
      unfold s_law_is_read_6; simp [argEn, ioSl, mSeq, mIfS, mT, asB, mBin, mV, mC, mXA, mVar, mFn, mFnF, getsO, valsO, Opd.get, R.bind, R.thenS, RS.bind, mSet, mSetF, mPut, mRet, mRetF, mL, mLst, mTup, mDrop, mIf, mUn, iNot, iNeg, mNotT, mAnd, mOr, mAndT, mOrT, mChain, mPub, pubE, iLt, iLe, iGt, iGe, isN, notN, ixD, iMod, iDiv, iMul, iPow, iSub, addD, cmpD, fInt, fLen, fAbs, fMax2, fMin2, fStr, fTuple, fList, maCons, maNil, ownAt, outOf, ioL, bin2, mPar, mpV, mpF, setP, mRaise, mCall, callV, mCallF, callVF, mCallIO, callIO, ioArgs, mAsg, gN, gT, gCs, gNs, sizeLine_eq, L2.atI, L2.ixN, isNonD, eqD, neD, flatD, eqFl, mIsE, mValue, bt, hx])]
    rfl
  · have hh := thingsV_of z
    have yh : (heads.any fun q => q.1 == l0) = true := any_heads.mpr ⟨t, hh⟩
    rw [yh, if_pos rfl]
    obtain ⟨y7, y8, y9, lp⟩ := il_loop (x1 := .val (.str text)) (x2 := .val (caughtV V)) (x3 := .val (toldV V)) (x10 := .no) (rl := rest.map .str) S hh t1 t6 rest 0 [] .non .no .no .no (fun l hm => by have := n2 l (List.mem_cons_of_mem _ hm); omega) (by simp; omega) (.inl rfl)
    have n0 : isNonD D.non = true := rfl
    rw [n0, if_pos rfl, List.nil_append] at lp
    have rl := rowsAt_len sg t rest 0
    rw [seq_nx (a := s_law_is_read_4) (by
      unfold s_law_is_read_4
      rw [for_go (ds := enumL 0 (rest.map .str)) (ρ1 := [.val (sgD sg), .val (.str text), .val (caughtV V), .val (toldV V), .val (.lst (.str l0 :: rest.map .str)), .val .non, .own [], .no, .no, .no, .no]) (by
        unfold s_law_is_read_4_mi
        simp [argEn, ioSl, mSeq, mIfS, mT, asB, mBin, mV, mC, mXA, mVar, mFn, mFnF, getsO, valsO, Opd.get, R.bind, R.thenS, RS.bind, mSet, mSetF, mPut, mRet, mRetF, mL, mLst, mTup, mDrop, mIf, mUn, iNot, iNeg, mNotT, mAnd, mOr, mAndT, mOrT, mChain, mPub, pubE, iLt, iLe, iGt, iGe, isN, notN, ixD, iMod, iDiv, iMul, iPow, iSub, addD, cmpD, fInt, fLen, fAbs, fMax2, fMin2, fStr, fTuple, fList, maCons, maNil, ownAt, outOf, ioL, bin2, mPar, mpV, mpF, setP, mRaise, mCall, callV, mCallF, callVF, mCallIO, callIO, ioArgs, mAsg, gN, gT, gCs, gNs, sizeLine_eq, L2.atI, L2.ixN, isNonD, eqD, neD, flatD, eqFl, mArgI, mSl, mPart, slD, enumOf, cutL_tail])]
      exact lp)]
    have z1 : rest.length ≤ 16777216 := by omega
    have z1' : (rowsAt sg t 0 rest).length ≤ 16777216 := by rw [rl]; exact z1
    have z2 : rest.length + 1 ≤ 16777216 := by omega
    have z3 : List.length sg ≤ 16777216 := by omega
    cases hb : firstBad sg t 0 rest with
    | some j =>
      have eV : V = .exc "BadTableText" (.int (j + 2)) := by rw [← hV]; simp only [readV, z, hb]
      have jl : j ≤ 100000 := by
        have g : ∀ (ls : List Str) (i : Nat), firstBad sg t i ls = some j → j < i + ls.length := fun ls => by
          induction ls with
          | nil => intro i h; cases h
          | cons l r ih =>
            intro i h
            rw [firstBad] at h
            split at h
            · cases h; simp
            · have := ih (i + 1) h; rw [List.length_cons]; omega
        have := g rest 0 hb; omega
      simp only [eV, caughtV, toldV]
      rw [seq_nx (a := s_law_is_read_5) (ρ1 := [.val (sgD sg), .val (.str text), .val (.err "BadTableText" (.int (j + 2))), .val .non, .val (.lst (.str l0 :: rest.map .str)), .val (.int (j + 2)), .own (rowsAt sg t 0 rest), y7, y8, y9, .no]) (by
        unfold s_law_is_read_5; simp [argEn, ioSl, mSeq, mIfS, mT, asB, mBin, mV, mC, mXA, mVar, mFn, mFnF, getsO, valsO, Opd.get, R.bind, R.thenS, RS.bind, mSet, mSetF, mPut, mRet, mRetF, mL, mLst, mTup, mDrop, mIf, mUn, iNot, iNeg, mNotT, mAnd, mOr, mAndT, mOrT, mChain, mPub, pubE, iLt, iLe, iGt, iGe, isN, notN, ixD, iMod, iDiv, iMul, iPow, iSub, addD, cmpD, fInt, fLen, fAbs, fMax2, fMin2, fStr, fTuple, fList, maCons, maNil, ownAt, outOf, ioL, bin2, mPar, mpV, mpF, setP, mRaise, mCall, callV, mCallF, callVF, mCallIO, callIO, ioArgs, mAsg, gN, gT, gCs, gNs, sizeLine_eq, L2.atI, L2.ixN, isNonD, eqD, neD, flatD, eqFl])]
      obtain ⟨x, hx⟩ := int_told (z := j + 2) (by omega)
      rw [seq_rt (a := s_law_is_read_6) (d := .bl true) (ρ1 := [.val (sgD sg), .val (.str text), .val (.err "BadTableText" (.int (j + 2))), .val .non, .val (.lst (.str l0 :: rest.map .str)), .val (.int (j + 2)), .own (rowsAt sg t 0 rest), y7, y8, y9, .no]) (by
        unfold s_law_is_read_6; simp [argEn, ioSl, mSeq, mIfS, mT, asB, mBin, mV, mC, mXA, mVar, mFn, mFnF, getsO, valsO, Opd.get, R.bind, R.thenS, RS.bind, mSet, mSetF, mPut, mRet, mRetF, mL, mLst, mTup, mDrop, mIf, mUn, iNot, iNeg, mNotT, mAnd, mOr, mAndT, mOrT, mChain, mPub, pubE, iLt, iLe, iGt, iGe, isN, notN, ixD, iMod, iDiv, iMul, iPow, iSub, addD, cmpD, fInt, fLen, fAbs, fMax2, fMin2, fStr, fTuple, fList, maCons, maNil, ownAt, outOf, ioL, bin2, mPar, mpV, mpF, setP, mRaise, mCall, callV, mCallF, callVF, mCallIO, callIO, ioArgs, mAsg, gN, gT, gCs, gNs, sizeLine_eq, L2.atI, L2.ixN, isNonD, eqD, neD, flatD, eqFl, mIsE, mValue, bt, hx])]
      rfl
    | none =>
      by_cases hc : rest.length < List.length sg
      · have eV : V = .exc "BadTableText" (.int (rest.length + 2)) := by rw [← hV]; simp only [readV, z, hb, if_pos hc]
        simp only [eV, caughtV, toldV]
        rw [seq_nx (a := s_law_is_read_5) (ρ1 := [.val (sgD sg), .val (.str text), .val (.err "BadTableText" (.int (rest.length + 2))), .val .non, .val (.lst (.str l0 :: rest.map .str)), .val (.int (rest.length + 2)), .own (rowsAt sg t 0 rest), y7, y8, y9, .no]) (by
          unfold s_law_is_read_5
          simp [argEn, ioSl, mSeq, mIfS, mT, asB, mBin, mV, mC, mXA, mVar, mFn, mFnF, getsO, valsO, Opd.get, R.bind, R.thenS, RS.bind, mSet, mSetF, mPut, mRet, mRetF, mL, mLst, mTup, mDrop, mIf, mUn, iNot, iNeg, mNotT, mAnd, mOr, mAndT, mOrT, mChain, mPub, pubE, iLt, iLe, iGt, iGe, isN, notN, ixD, iMod, iDiv, iMul, iPow, iSub, addD, cmpD, fInt, fLen, fAbs, fMax2, fMin2, fStr, fTuple, fList, maCons, maNil, ownAt, outOf, ioL, bin2, mPar, mpV, mpF, setP, mRaise, mCall, callV, mCallF, callVF, mCallIO, callIO, ioArgs, mAsg, gN, gT, gCs, gNs, sizeLine_eq, L2.atI, L2.ixN, isNonD, eqD, neD, flatD, eqFl, sgD, z1, z1', z2, z3, rl, hc, Int.add_assoc])]
        obtain ⟨x, hx⟩ := int_told (z := rest.length + 2) (by omega)
        rw [seq_rt (a := s_law_is_read_6) (d := .bl true) (ρ1 := [.val (sgD sg), .val (.str text), .val (.err "BadTableText" (.int (rest.length + 2))), .val .non, .val (.lst (.str l0 :: rest.map .str)), .val (.int (rest.length + 2)), .own (rowsAt sg t 0 rest), y7, y8, y9, .no]) (by
          unfold s_law_is_read_6; simp [argEn, ioSl, mSeq, mIfS, mT, asB, mBin, mV, mC, mXA, mVar, mFn, mFnF, getsO, valsO, Opd.get, R.bind, R.thenS, RS.bind, mSet, mSetF, mPut, mRet, mRetF, mL, mLst, mTup, mDrop, mIf, mUn, iNot, iNeg, mNotT, mAnd, mOr, mAndT, mOrT, mChain, mPub, pubE, iLt, iLe, iGt, iGe, isN, notN, ixD, iMod, iDiv, iMul, iPow, iSub, addD, cmpD, fInt, fLen, fAbs, fMax2, fMin2, fStr, fTuple, fList, maCons, maNil, ownAt, outOf, ioL, bin2, mPar, mpV, mpF, setP, mRaise, mCall, callV, mCallF, callVF, mCallIO, callIO, ioArgs, mAsg, gN, gT, gCs, gNs, sizeLine_eq, L2.atI, L2.ixN, isNonD, eqD, neD, flatD, eqFl, mIsE, mValue, bt, hx])]
        rfl
      · have eV : V = .ok (.tup [.int t, .tup (rowsAt sg t 0 rest)]) [] := by rw [← hV]; simp only [readV, z, hb, if_neg hc]
        simp only [eV, caughtV, toldV]
        rw [seq_nx (a := s_law_is_read_5) (ρ1 := [.val (sgD sg), .val (.str text), .val .non, .val (.tup [.int t, .tup (rowsAt sg t 0 rest)]), .val (.lst (.str l0 :: rest.map .str)), .val .non, .own (rowsAt sg t 0 rest), y7, y8, y9, .no]) (by
          unfold s_law_is_read_5; simp [argEn, ioSl, mSeq, mIfS, mT, asB, mBin, mV, mC, mXA, mVar, mFn, mFnF, getsO, valsO, Opd.get, R.bind, R.thenS, RS.bind, mSet, mSetF, mPut, mRet, mRetF, mL, mLst, mTup, mDrop, mIf, mUn, iNot, iNeg, mNotT, mAnd, mOr, mAndT, mOrT, mChain, mPub, pubE, iLt, iLe, iGt, iGe, isN, notN, ixD, iMod, iDiv, iMul, iPow, iSub, addD, cmpD, fInt, fLen, fAbs, fMax2, fMin2, fStr, fTuple, fList, maCons, maNil, ownAt, outOf, ioL, bin2, mPar, mpV, mpF, setP, mRaise, mCall, callV, mCallF, callVF, mCallIO, callIO, ioArgs, mAsg, gN, gT, gCs, gNs, sizeLine_eq, L2.atI, L2.ixN, isNonD, eqD, neD, flatD, eqFl, sgD, z1, z1', z2, z3, rl, hc])]
        rw [seq_nx (a := s_law_is_read_6) (ρ1 := [.val (sgD sg), .val (.str text), .val .non, .val (.tup [.int t, .tup (rowsAt sg t 0 rest)]), .val (.lst (.str l0 :: rest.map .str)), .val .non, .own (rowsAt sg t 0 rest), y7, y8, y9, .no]) (by
          unfold s_law_is_read_6; simp [argEn, ioSl, mSeq, mIfS, mT, asB, mBin, mV, mC, mXA, mVar, mFn, mFnF, getsO, valsO, Opd.get, R.bind, R.thenS, RS.bind, mSet, mSetF, mPut, mRet, mRetF, mL, mLst, mTup, mDrop, mIf, mUn, iNot, iNeg, mNotT, mAnd, mOr, mAndT, mOrT, mChain, mPub, pubE, iLt, iLe, iGt, iGe, isN, notN, ixD, iMod, iDiv, iMul, iPow, iSub, addD, cmpD, fInt, fLen, fAbs, fMax2, fMin2, fStr, fTuple, fList, maCons, maNil, ownAt, outOf, ioL, bin2, mPar, mpV, mpF, setP, mRaise, mCall, callV, mCallF, callVF, mCallIO, callIO, ioArgs, mAsg, gN, gT, gCs, gNs, sizeLine_eq, L2.atI, L2.ixN, isNonD, eqD, neD, flatD, eqFl])]
        obtain ⟨u, hu1, hu2⟩ := head_int hh
        have rr := rowsAt_told S t1 t6 rest 0
        have small : rest.length ≤ 10 := by
          rcases noBad_len rest 0 hb with q | q
          · rw [q]; simp
          · omega
        obtain ⟨x, hx⟩ := repr_told (d := .tup [.int t, .tup (rowsAt sg t 0 rest)]) (by
            simp only [okD, okL]
            exact ⟨by omega, okL_all fun d hd => (rr d hd).1, trivial⟩) (by
            have := dpL_all (n := 1) fun d hd => (rr d hd).2.2
            simp only [dpD, dpL]; omega) (by
            have a := wtL_all (n := 7000) fun d hd => (rr d hd).2.1
            rw [rl] at a
            have b : rest.length * 7001 ≤ 10 * 7001 := Nat.mul_le_mul_right _ small
            simp only [wtD, wtL]; omega)
        unfold s_law_is_read_7
        simp [argEn, ioSl, mSeq, mIfS, mT, asB, mBin, mV, mC, mXA, mVar, mFn, mFnF, getsO, valsO, Opd.get, R.bind, R.thenS, RS.bind, mSet, mSetF, mPut, mRet, mRetF, mL, mLst, mTup, mDrop, mIf, mUn, iNot, iNeg, mNotT, mAnd, mOr, mAndT, mOrT, mChain, mPub, pubE, iLt, iLe, iGt, iGe, isN, notN, iMod, iDiv, iMul, iPow, iSub, addD, cmpD, fLen, fAbs, fMax2, fMin2, fStr, fTuple, fList, maCons, maNil, ownAt, outOf, ioL, bin2, mPar, mpV, mpF, setP, mRaise, mCall, callV, mCallF, callVF, mCallIO, callIO, ioArgs, mAsg, gN, gT, gCs, gNs, sizeLine_eq, L2.atI, L2.ixN, isNonD, eqD, neD, flatD, eqFl, mSl, mPart, ix0, hu1, hu2, z1', hx]
end G08
set_option Elab.async false
set_option linter.all false
set_option maxRecDepth 100000
set_option maxHeartbeats 4000000
namespace G08
open PySem PySem.Spec DL
def s_is_between_ : MS := (mRet (mAnd (mCall F_is_integer (maCons (mXA 0) maNil)) (mChain iLe iLe (mXA 1) (mXA 0) (mXA 2))))
theorem s_is_between_split : m_is_between = s_is_between_ := rfl
def s_are_between_ : MS := (mRet (mAnd (mIsB "tuple" (mVar 0)) (mFn fAll (maCons (mV (mL (mLc (mSeqI (mVar 0)) (gN 3) [3] (fun ρ => .ok true ρ) (mCall F_is_between (maCons (mXA 3) (maCons (mXA 1) (maCons (mXA 2) maNil))))))) maNil))))
theorem s_are_between_split : m_are_between = s_are_between_ := rfl
def s_is_size_ : MS := (mRet (mCall F_is_between (maCons (mXA 0) (maCons (mV (mC (.int 1))) (maCons (mV (mC (.int 6))) maNil)))))
theorem s_is_size_split : m_is_size = s_is_size_ := rfl
def s_is_table_of_1 : MS := (mIfS (mOrT (mNotT (mT (mIsB "tuple" (mVar 1)))) (mOrT (mT (mBin (cmpD neD) (mV (mFn fLen (maCons (mXA 1) maNil))) (mV (mC (.int 2))))) (mOrT (mNotT (mT (mCall F_is_size (maCons (mV (mBin ixD (mXA 1) (mV (mC (.int 0))))) maNil)))) (mNotT (mT (mIsB "tuple" (mBin ixD (mXA 1) (mV (mC (.int 1)))))))))) (mRet (mC (.bl false))) .nx)
def s_is_table_of_2 : MS := (mIfS (mOrT (mT (mBin (cmpD neD) (mV (mFn fLen (maCons (mV (mBin ixD (mXA 1) (mV (mC (.int 1))))) maNil))) (mV (mFn fLen (maCons (mXA 0) maNil))))) (mNotT (mT (mFn fAll (maCons (mV (mL (mLc (mSeqI (mBin ixD (mXA 1) (mV (mC (.int 1))))) (gN 2) [2] (fun ρ => .ok true ρ) (mCall F_are_between (maCons (mXA 2) (maCons (mV (mC (.int 0))) (maCons (mV (mBin iSub (mV (mBin ixD (mXA 1) (mV (mC (.int 0))))) (mV (mC (.int 1))))) maNil))))))) maNil))))) (mRet (mC (.bl false))) .nx)
def s_is_table_of_3 : MS := (mRet (mFn fAll (maCons (mV (mL (mLc (mArgI zipOf (maCons (mXA 0) (maCons (mV (mBin ixD (mXA 1) (mV (mC (.int 1))))) maNil))) (gT 2 (gCs (gT 2 (gCs (gN 3) (gCs (gN 4) gNs))) (gCs (gN 2) gNs))) [3, 4, 2] (fun ρ => .ok true ρ) (mBin (cmpD eqD) (mV (mFn fLen (maCons (mXA 2) maNil))) (mV (mCall F_power (maCons (mV (mBin ixD (mXA 1) (mV (mC (.int 0))))) (maCons (mXA 4) maNil)))))))) maNil)))
def s_is_table_of_ : MS := mSeq s_is_table_of_1 (mSeq s_is_table_of_2 (s_is_table_of_3))
theorem s_is_table_of_split : m_is_table_of = s_is_table_of_ := rfl
def s_check_its_table_ : MS := (mIfS (mNotT (mT (mCall F_is_table_of (maCons (mXA 0) (maCons (mXA 1) maNil))))) (mRaise ("BadTable" : Str) (mVar 1)) .nx)
theorem s_check_its_table_split : m_check_its_table = s_check_its_table_ := rfl
def s_check_table_1 : MS := (mDrop (mCall F_check_signs (maCons (mXA 0) maNil)))
def s_check_table_2 : MS := (mDrop (mCall F_check_its_table (maCons (mXA 0) (maCons (mXA 1) maNil))))
def s_check_table_ : MS := mSeq s_check_table_1 (s_check_table_2)
theorem s_check_table_split : m_check_table = s_check_table_ := rfl
def s_table_lines_1 : MS := (mSetF 2 (mLc (mArgI zipOf (maCons (mXA 0) (maCons (mV (mBin ixD (mXA 1) (mV (mC (.int 1))))) maNil))) (gT 2 (gCs (gT 2 (gCs (gN 3) (gCs (gN 4) gNs))) (gCs (gN 5) gNs))) [3, 4, 5] (fun ρ => .ok true ρ) (mJoin (mC (.str (" " : Str))) (mV (mL (mLst (maCons (mXA 3) (maStar (mV (mL (mLc (mSeqI (mVar 5)) (gN 6) [6] (fun ρ => .ok true ρ) (mFn fStr (maCons (mXA 6) maNil))))) maNil))))))))
def s_table_lines_2 : MS := (mRet (mL (mLst (maCons (mV (mJoin (mC (.str (" " : Str))) (mV (mL (mLst (maCons (mV (mC (.str ("things" : Str)))) (maCons (mV (mFn fStr (maCons (mV (mBin ixD (mXA 1) (mV (mC (.int 0))))) maNil))) maNil))))))) (maStar (mXA 2) maNil)))))
def s_table_lines_ : MS := mSeq s_table_lines_1 (s_table_lines_2)
theorem s_table_lines_split : m_table_lines = s_table_lines_ := rfl
def s_table_text_1 : MS := (mDrop (mCall F_check_table (maCons (mXA 0) (maCons (mXA 1) maNil))))
def s_table_text_2 : MS := (mRet (mJoin (mC (.str ("\n" : Str))) (mV (mCall F_table_lines (maCons (mXA 0) (maCons (mXA 1) maNil))))))
def s_table_text_ : MS := mSeq s_table_text_1 (s_table_text_2)
theorem s_table_text_split : m_table_text = s_table_text_ := rfl

theorem is_between_ok (v lo hi : Int) : F_is_between [.int v, .int lo, .int hi] = .ok (.bl (decide (lo ≤ v) && decide (v ≤ hi))) [] := by
  have e : F_is_integer [.int v] = .ok (.bl true) [] := by
    unfold F_is_integer runF m_is_integer enIn
    simp [argEn, ioSl, mSeq, mIfS, mT, asB, mBin, mV, mC, mXA, mVar, mFn, mFnF, getsO, valsO, Opd.get, R.bind, R.thenS, RS.bind, mSet, mSetF, mPut, mRet, mRetF, mL, mLst, mTup, mDrop, mIf, mUn, iNot, iNeg, mNotT, mAnd, mOr, mAndT, mOrT, mChain, mPub, pubE, iLt, iLe, iGt, iGe, isN, notN, ixD, iMod, iDiv, iMul, iPow, iSub, addD, cmpD, fInt, fLen, fAbs, fMax2, fMin2, fStr, fTuple, fList, maCons, maNil, ownAt, outOf, ioL, bin2, mPar, mpV, mpF, setP, mRaise, mCall, callV, mCallF, callVF, mCallIO, callIO, ioArgs, mAsg, gN, gT, gCs, gNs, sizeLine_eq, L2.atI, L2.ixN, isNonD, eqD, neD, flatD, eqFl, mIsB, isB]
  unfold F_is_between runF m_is_between enIn
  by_cases h1 : lo ≤ v
  · by_cases h2 : v ≤ hi <;> simp [argEn, ioSl, mSeq, mIfS, mT, asB, mBin, mV, mC, mXA, mVar, mFn, mFnF, getsO, valsO, Opd.get, R.bind, R.thenS, RS.bind, mSet, mSetF, mPut, mRet, mRetF, mL, mLst, mTup, mDrop, mIf, mUn, iNot, iNeg, mNotT, mAnd, mOr, mAndT, mOrT, mChain, mPub, pubE, iLt, iLe, iGt, iGe, isN, notN, ixD, iMod, iDiv, iMul, iPow, iSub, addD, cmpD, fInt, fLen, fAbs, fMax2, fMin2, fStr, fTuple, fList, maCons, maNil, ownAt, outOf, ioL, bin2, mPar, mpV, mpF, setP, mRaise, mCall, callV, mCallF, callVF, mCallIO, callIO, ioArgs, mAsg, gN, gT, gCs, gNs, sizeLine_eq, L2.atI, L2.ixN, isNonD, eqD, neD, flatD, eqFl, e, h1, h2]
  · simp [argEn, ioSl, mSeq, mIfS, mT, asB, mBin, mV, mC, mXA, mVar, mFn, mFnF, getsO, valsO, Opd.get, R.bind, R.thenS, RS.bind, mSet, mSetF, mPut, mRet, mRetF, mL, mLst, mTup, mDrop, mIf, mUn, iNot, iNeg, mNotT, mAnd, mOr, mAndT, mOrT, mChain, mPub, pubE, iLt, iLe, iGt, iGe, isN, notN, ixD, iMod, iDiv, iMul, iPow, iSub, addD, cmpD, fInt, fLen, fAbs, fMax2, fMin2, fStr, fTuple, fList, maCons, maNil, ownAt, outOf, ioL, bin2, mPar, mpV, mpF, setP, mRaise, mCall, callV, mCallF, callVF, mCallIO, callIO, ioArgs, mAsg, gN, gT, gCs, gNs, sizeLine_eq, L2.atI, L2.ixN, isNonD, eqD, neD, flatD, eqFl, e, h1]
abbrev Rw := List Int
def rwD (r : Rw) : D := .tup (r.map .int)
/-- a row of the sign q -/
def RwOk (t : Int) (q : Str × Int) (r : Rw) : Prop := r.length = t.toNat ^ q.2.toNat ∧ ∀ i ∈ r, 0 ≤ i ∧ i < t
structure TabOk (t : Int) (sg : Sg) (rws : List Rw) : Prop where
  t1 : 1 ≤ t
  t6 : t ≤ 6
  al : Al (RwOk t) sg rws
theorem ints_of {t : Int} : ∀ {ys : List D}, (∀ y ∈ ys, intIn t y = true) → ∃ is : List Int, ys = is.map .int ∧ ∀ i ∈ is, 0 ≤ i ∧ i < t
  | [], _ => ⟨[], rfl, by simp⟩
  | y :: ys, h => by
    obtain ⟨is, e, hi⟩ := ints_of fun z hz => h z (List.mem_cons_of_mem y hz)
    have hy := h y List.mem_cons_self
    cases y with
    | int i =>
      simp only [intIn, Bool.and_eq_true, decide_eq_true_eq] at hy
      refine ⟨i :: is, by rw [e]; rfl, fun j hj => ?_⟩
      rcases List.mem_cons.mp hj with rfl | hj
      · exact hy
      · exact hi j hj
    | _ => cases hy
theorem rows_of {t : Int} : ∀ {sg : Sg} {rows : List D}, Al (RowOf t) (sgL sg) rows → ∃ rws : List Rw, rows = rws.map rwD ∧ Al (RwOk t) sg rws
  | [], rows, h => by
    cases h
    exact ⟨[], rfl, .nil⟩
  | q :: sg, rows, h => by
    cases h with
    | @cons x y xs ys' h1 h2 =>
      obtain ⟨nm, pl, ys, ex, ey, hl, hi⟩ := h1
      cases ex
      obtain ⟨is, e, hj⟩ := ints_of hi
      obtain ⟨rws, e2, h3⟩ := rows_of h2
      exact ⟨is :: rws, by rw [ey, e, e2]; rfl, .cons ⟨by rw [e, List.length_map] at hl; exact hl, hj⟩ h3⟩
theorem rw_len {t : Int} {q : Str × Int} {r : Rw} (t6 : t ≤ 6) (p3 : q.2 ≤ 3) (h : RwOk t q r) : r.length ≤ 216 := by
  rw [h.1]
  exact Nat.le_trans (Nat.pow_le_pow_left (show t.toNat ≤ 6 by omega) _) (Nat.le_trans (Nat.pow_le_pow_right (by decide) (by omega : q.2.toNat ≤ 3)) (by decide))
/-- what is walked by zip -/
def zipped (sg : Sg) (rws : List Rw) : List D := zipL (sgL sg) (rws.map rwD)
theorem zipped_mem {t : Int} : ∀ {sg : Sg} {rws : List Rw}, Al (RwOk t) sg rws → ∀ x ∈ zipped sg rws, ∃ q r, q ∈ sg ∧ RwOk t q r ∧ x = .tup [.tup [.str q.1, .int q.2], .tup (r.map .int)]
  | _, _, .nil, x, h => by simp [zipped, sgL, zipL] at h
  | _, _, .cons (x := q) (y := r) (xs := sg) (ys := rws) h1 h2, x, h => by
    have h : x ∈ D.tup [.tup [.str q.1, .int q.2], rwD r] :: zipped sg rws := h
    rcases List.mem_cons.mp h with rfl | h
    · exact ⟨q, r, List.mem_cons_self, h1, rfl⟩
    · obtain ⟨q', r', m, ok, e⟩ := zipped_mem h2 x h
      exact ⟨q', r', List.mem_cons_of_mem _ m, ok, e⟩
theorem fAll_true {xs : List D} : fAll [.lst (xs.map fun _ => .bl true)] = some (.bl true) := by
  have e := fAll_bools (xs.map fun _ => true)
  rw [List.map_map] at e
  have a : (xs.map fun _ => true).all id = true := by rw [List.all_map, List.all_eq_true]; intro _ _; rfl
  rw [a] at e
  exact e
theorem are_between_ok {r : Rw} {lo hi : Int} (h : ∀ i ∈ r, lo ≤ i ∧ i ≤ hi) : F_are_between [.tup (r.map .int), .int lo, .int hi] = .ok (.bl true) [] := by
  have hc := mLc_map (mi := mSeqI (mVar 0)) (f := gN 3) (S := [3]) (me := mCall F_is_between (maCons (mXA 3) (maCons (mXA 1) (maCons (mXA 2) maNil)))) (g := fun _ => .bl true) (ds := r.map .int)
    (ρ := [.val (.tup (r.map .int)), .val (.int lo), .val (.int hi), .no]) (ρ1 := [.val (.tup (r.map .int)), .val (.int lo), .val (.int hi), .no]) (ρ0 := [.val (.tup (r.map .int)), .val (.int lo), .val (.int hi), .no]) (ρ2 := [.val (.tup (r.map .int)), .val (.int lo), .val (.int hi), .no])
    (by simp [mSeqI, mVar, R.bind, walkOf]) (by simp [clearS, notOwn]) (by simp [wipeE]) (by simp [restE]) (fun x hx => by
      obtain ⟨i, hi', rfl⟩ := List.mem_map.mp hx
      obtain ⟨h1, h2⟩ := h i hi'
      refine ⟨[.val (.tup (r.map .int)), .val (.int lo), .val (.int hi), .val (.int i)], [.val (.tup (r.map .int)), .val (.int lo), .val (.int hi), .val (.int i)], by simp [gN], ?_, by simp [wipeE]⟩
      have e := is_between_ok i lo hi
      simp [argEn, ioSl, mSeq, mIfS, mT, asB, mBin, mV, mC, mXA, mVar, mFn, mFnF, getsO, valsO, Opd.get, R.bind, R.thenS, RS.bind, mSet, mSetF, mPut, mRet, mRetF, mL, mLst, mTup, mDrop, mIf, mUn, iNot, iNeg, mNotT, mAnd, mOr, mAndT, mOrT, mChain, mPub, pubE, iLt, iLe, iGt, iGe, isN, notN, ixD, iMod, iDiv, iMul, iPow, iSub, addD, cmpD, fInt, fLen, fAbs, fMax2, fMin2, fStr, fTuple, fList, maCons, maNil, ownAt, outOf, ioL, bin2, mPar, mpV, mpF, setP, mRaise, mCall, callV, mCallF, callVF, mCallIO, callIO, ioArgs, mAsg, gN, gT, gCs, gNs, sizeLine_eq, L2.atI, L2.ixN, isNonD, eqD, neD, flatD, eqFl, e, h1, h2])
  have fa := fAll_true (xs := r.map .int)
  unfold F_are_between runF m_are_between enIn
  have hc' := hc
  simp only [List.map_map] at hc' fa
  simp [argEn, ioSl, mSeq, mIfS, mT, asB, mBin, mV, mC, mXA, mVar, mFn, mFnF, getsO, valsO, Opd.get, R.bind, R.thenS, RS.bind, mSet, mSetF, mPut, mRet, mRetF, mL, mLst, mTup, mDrop, mIf, mUn, iNot, iNeg, mNotT, mAnd, mOr, mAndT, mOrT, mChain, mPub, pubE, iLt, iLe, iGt, iGe, isN, notN, ixD, iMod, iDiv, iMul, iPow, iSub, addD, cmpD, fInt, fLen, fAbs, fMax2, fMin2, fStr, fTuple, fList, maCons, maNil, ownAt, outOf, ioL, bin2, mPar, mpV, mpF, setP, mRaise, mCall, callV, mCallF, callVF, mCallIO, callIO, ioArgs, mAsg, gN, gT, gCs, gNs, sizeLine_eq, L2.atI, L2.ixN, isNonD, eqD, neD, flatD, eqFl, mIsB, isB, hc', fa]
theorem table_of_ok {sg : Sg} {t : Int} {rws : List Rw} (h : sg ∈ sigs) (T : TabOk t sg rws) : F_is_table_of [sgD sg, .tup [.int t, .tup (rws.map rwD)]] = .ok (.bl true) [] := by
  have S := sg_ok h
  have few := S.few
  have t1 := T.t1
  have t6 := T.t6
  have ln := T.al.length
  have sz : F_is_size [.int t] = .ok (.bl true) [] := by
    have e := is_between_ok t 1 6
    unfold F_is_size runF m_is_size enIn
    simp [argEn, ioSl, mSeq, mIfS, mT, asB, mBin, mV, mC, mXA, mVar, mFn, mFnF, getsO, valsO, Opd.get, R.bind, R.thenS, RS.bind, mSet, mSetF, mPut, mRet, mRetF, mL, mLst, mTup, mDrop, mIf, mUn, iNot, iNeg, mNotT, mAnd, mOr, mAndT, mOrT, mChain, mPub, pubE, iLt, iLe, iGt, iGe, isN, notN, ixD, iMod, iDiv, iMul, iPow, iSub, addD, cmpD, fInt, fLen, fAbs, fMax2, fMin2, fStr, fTuple, fList, maCons, maNil, ownAt, outOf, ioL, bin2, mPar, mpV, mpF, setP, mRaise, mCall, callV, mCallF, callVF, mCallIO, callIO, ioArgs, mAsg, gN, gT, gCs, gNs, sizeLine_eq, L2.atI, L2.ixN, isNonD, eqD, neD, flatD, eqFl, e, t1, t6]
  have z1 : sg.length ≤ 16777216 := by omega
  have z2 : rws.length ≤ 16777216 := by omega
  unfold F_is_table_of runF
  rw [s_is_table_of_split]
  unfold s_is_table_of_
  have e0 : enIn [] 5 [sgD sg, .tup [.int t, .tup (rws.map rwD)]] = [.val (sgD sg), .val (.tup [.int t, .tup (rws.map rwD)]), .no, .no, .no] := by simp [enIn, argEn, ioSl]
  rw [e0]
  rw [seq_nx (a := s_is_table_of_1) (ρ1 := [.val (sgD sg), .val (.tup [.int t, .tup (rws.map rwD)]), .no, .no, .no]) (by
    unfold s_is_table_of_1; simp [argEn, ioSl, mSeq, mIfS, mT, asB, mBin, mV, mC, mXA, mVar, mFn, mFnF, getsO, valsO, Opd.get, R.bind, R.thenS, RS.bind, mSet, mSetF, mPut, mRet, mRetF, mL, mLst, mTup, mDrop, mIf, mUn, iNot, iNeg, mNotT, mAnd, mOr, mAndT, mOrT, mChain, mPub, pubE, iLt, iLe, iGt, iGe, isN, notN, ixD, iMod, iDiv, iMul, iPow, iSub, addD, cmpD, fInt, fLen, fAbs, fMax2, fMin2, fStr, fTuple, fList, maCons, maNil, ownAt, outOf, ioL, bin2, mPar, mpV, mpF, setP, mRaise, mCall, callV, mCallF, callVF, mCallIO, callIO, ioArgs, mAsg, gN, gT, gCs, gNs, sizeLine_eq, L2.atI, L2.ixN, isNonD, eqD, neD, flatD, eqFl, mIsB, isB, sz])]
  have hc := mLc_map (mi := mSeqI (mBin ixD (mXA 1) (mV (mC (.int 1))))) (f := gN 2) (S := [2]) (me := mCall F_are_between (maCons (mXA 2) (maCons (mV (mC (.int 0))) (maCons (mV (mBin iSub (mV (mBin ixD (mXA 1) (mV (mC (.int 0))))) (mV (mC (.int 1))))) maNil)))) (g := fun _ => .bl true) (ds := rws.map rwD)
    (ρ := [.val (sgD sg), .val (.tup [.int t, .tup (rws.map rwD)]), .no, .no, .no]) (ρ1 := [.val (sgD sg), .val (.tup [.int t, .tup (rws.map rwD)]), .no, .no, .no]) (ρ0 := [.val (sgD sg), .val (.tup [.int t, .tup (rws.map rwD)]), .no, .no, .no]) (ρ2 := [.val (sgD sg), .val (.tup [.int t, .tup (rws.map rwD)]), .no, .no, .no])
    (by simp [argEn, ioSl, mSeq, mIfS, mT, asB, mBin, mV, mC, mXA, mVar, mFn, mFnF, getsO, valsO, Opd.get, R.bind, R.thenS, RS.bind, mSet, mSetF, mPut, mRet, mRetF, mL, mLst, mTup, mDrop, mIf, mUn, iNot, iNeg, mNotT, mAnd, mOr, mAndT, mOrT, mChain, mPub, pubE, iLt, iLe, iGt, iGe, isN, notN, ixD, iMod, iDiv, iMul, iPow, iSub, addD, cmpD, fInt, fLen, fAbs, fMax2, fMin2, fStr, fTuple, fList, maCons, maNil, ownAt, outOf, ioL, bin2, mPar, mpV, mpF, setP, mRaise, mCall, callV, mCallF, callVF, mCallIO, callIO, ioArgs, mAsg, gN, gT, gCs, gNs, sizeLine_eq, L2.atI, L2.ixN, isNonD, eqD, neD, flatD, eqFl, mSeqI, walkOf]) (by simp [clearS, notOwn]) (by simp [wipeE]) (by simp [restE]) (fun x hx => by
      obtain ⟨r, hr, rfl⟩ := List.mem_map.mp hx
      have ok : ∀ i ∈ r, 0 ≤ i ∧ i ≤ t - 1 := by
        have g : ∀ {sg : Sg} {rws : List Rw}, Al (RwOk t) sg rws → r ∈ rws → ∀ i ∈ r, 0 ≤ i ∧ i ≤ t - 1 := fun {sg rws} al => by
          induction al with
          | nil => intro m; cases m
          | cons h1 h2 ih =>
            intro m
            rcases List.mem_cons.mp m with rfl | m
            · exact fun i hi => ⟨(h1.2 i hi).1, by have := (h1.2 i hi).2; omega⟩
            · exact ih m
        exact g T.al hr
      have e := are_between_ok ok
      refine ⟨[.val (sgD sg), .val (.tup [.int t, .tup (rws.map rwD)]), .val (rwD r), .no, .no], [.val (sgD sg), .val (.tup [.int t, .tup (rws.map rwD)]), .val (rwD r), .no, .no], by simp [gN], ?_, by simp [wipeE]⟩
      simp [argEn, ioSl, mSeq, mIfS, mT, asB, mBin, mV, mC, mXA, mVar, mFn, mFnF, getsO, valsO, Opd.get, R.bind, R.thenS, RS.bind, mSet, mSetF, mPut, mRet, mRetF, mL, mLst, mTup, mDrop, mIf, mUn, iNot, iNeg, mNotT, mAnd, mOr, mAndT, mOrT, mChain, mPub, pubE, iLt, iLe, iGt, iGe, isN, notN, ixD, iMod, iDiv, iMul, iPow, iSub, addD, cmpD, fInt, fLen, fAbs, fMax2, fMin2, fStr, fTuple, fList, maCons, maNil, ownAt, outOf, ioL, bin2, mPar, mpV, mpF, setP, mRaise, mCall, callV, mCallF, callVF, mCallIO, callIO, ioArgs, mAsg, gN, gT, gCs, gNs, sizeLine_eq, L2.atI, L2.ixN, isNonD, eqD, neD, flatD, eqFl, rwD, e])
  have fa := fAll_true (xs := rws.map rwD)
  simp only [List.map_map] at hc fa
  have nlen : (((rws.length : Nat) : Int) == ((sg.length : Nat) : Int)) = true := by rw [← ln]; exact beq_self_eq_true _
  rw [seq_nx (a := s_is_table_of_2) (ρ1 := [.val (sgD sg), .val (.tup [.int t, .tup (rws.map rwD)]), .no, .no, .no]) (by
    unfold s_is_table_of_2
    have hc' := hc
    simp only [sgD] at hc' ⊢
    simp [argEn, ioSl, mSeq, mIfS, mT, asB, mBin, mV, mC, mXA, mVar, mFn, mFnF, getsO, valsO, Opd.get, R.bind, R.thenS, RS.bind, mSet, mSetF, mPut, mRet, mRetF, mL, mLst, mTup, mDrop, mIf, mUn, iNot, iNeg, mNotT, mAnd, mOr, mAndT, mOrT, mChain, mPub, pubE, iLt, iLe, iGt, iGe, isN, notN, ixD, iMod, iDiv, iMul, iPow, iSub, addD, cmpD, fInt, fLen, fAbs, fMax2, fMin2, fStr, fTuple, fList, maCons, maNil, ownAt, outOf, ioL, bin2, mPar, mpV, mpF, setP, mRaise, mCall, callV, mCallF, callVF, mCallIO, callIO, ioArgs, mAsg, gN, gT, gCs, gNs, sizeLine_eq, L2.atI, L2.ixN, isNonD, eqD, neD, flatD, eqFl, z1, z2, hc', fa, ln])]
  have hz : mArgI zipOf (maCons (mXA 0) (maCons (mV (mBin ixD (mXA 1) (mV (mC (.int 1))))) maNil)) [.val (sgD sg), .val (.tup [.int t, .tup (rws.map rwD)]), .no, .no, .no] = .ok (zipped sg rws) [.val (sgD sg), .val (.tup [.int t, .tup (rws.map rwD)]), .no, .no, .no] := by
    simp [argEn, ioSl, mSeq, mIfS, mT, asB, mBin, mV, mC, mXA, mVar, mFn, mFnF, getsO, valsO, Opd.get, R.bind, R.thenS, RS.bind, mSet, mSetF, mPut, mRet, mRetF, mL, mLst, mTup, mDrop, mIf, mUn, iNot, iNeg, mNotT, mAnd, mOr, mAndT, mOrT, mChain, mPub, pubE, iLt, iLe, iGt, iGe, isN, notN, ixD, iMod, iDiv, iMul, iPow, iSub, addD, cmpD, fInt, fLen, fAbs, fMax2, fMin2, fStr, fTuple, fList, maCons, maNil, ownAt, outOf, ioL, bin2, mPar, mpV, mpF, setP, mRaise, mCall, callV, mCallF, callVF, mCallIO, callIO, ioArgs, mAsg, gN, gT, gCs, gNs, sizeLine_eq, L2.atI, L2.ixN, isNonD, eqD, neD, flatD, eqFl, mArgI, zipOf, zipped, sgD, sgL]
  have hd := mLc_map (f := gT 2 (gCs (gT 2 (gCs (gN 3) (gCs (gN 4) gNs))) (gCs (gN 2) gNs))) (S := [3, 4, 2]) (me := mBin (cmpD eqD) (mV (mFn fLen (maCons (mXA 2) maNil))) (mV (mCall F_power (maCons (mV (mBin ixD (mXA 1) (mV (mC (.int 0))))) (maCons (mXA 4) maNil))))) (g := fun _ => .bl true)
    (ρ0 := [.val (sgD sg), .val (.tup [.int t, .tup (rws.map rwD)]), .no, .no, .no]) (ρ2 := [.val (sgD sg), .val (.tup [.int t, .tup (rws.map rwD)]), .no, .no, .no])
    hz (by simp [clearS, notOwn]) (by simp [wipeE]) (by simp [restE]) (fun x hx => by
      obtain ⟨q, r, hq, ok, rfl⟩ := zipped_mem T.al x hx
      obtain ⟨p0, p3⟩ := S.pl q hq
      have pw := power_ok t1 t6 p0 p3
      have rl := rw_len t6 p3 ok
      have rz : r.length ≤ 16777216 := by omega
      rw [← ok.1] at pw
      refine ⟨[.val (sgD sg), .val (.tup [.int t, .tup (rws.map rwD)]), .val (.tup (r.map .int)), .val (.str q.1), .val (.int q.2)], [.val (sgD sg), .val (.tup [.int t, .tup (rws.map rwD)]), .val (.tup (r.map .int)), .val (.str q.1), .val (.int q.2)], by simp [gT, gCs, gN, gNs], ?_, by simp [wipeE]⟩
      simp [argEn, ioSl, mSeq, mIfS, mT, asB, mBin, mV, mC, mXA, mVar, mFn, mFnF, getsO, valsO, Opd.get, R.bind, R.thenS, RS.bind, mSet, mSetF, mPut, mRet, mRetF, mL, mLst, mTup, mDrop, mIf, mUn, iNot, iNeg, mNotT, mAnd, mOr, mAndT, mOrT, mChain, mPub, pubE, iLt, iLe, iGt, iGe, isN, notN, ixD, iMod, iDiv, iMul, iPow, iSub, addD, cmpD, fInt, fLen, fAbs, fMax2, fMin2, fStr, fTuple, fList, maCons, maNil, ownAt, outOf, ioL, bin2, mPar, mpV, mpF, setP, mRaise, mCall, callV, mCallF, callVF, mCallIO, callIO, ioArgs, mAsg, gN, gT, gCs, gNs, sizeLine_eq, L2.atI, L2.ixN, isNonD, eqD, neD, flatD, eqFl, rz, pw])
  have fb := fAll_true (xs := zipped sg rws)
  unfold s_is_table_of_3
  simp [argEn, ioSl, mSeq, mIfS, mT, asB, mBin, mV, mC, mXA, mVar, mFn, mFnF, getsO, valsO, Opd.get, R.bind, R.thenS, RS.bind, mSet, mSetF, mPut, mRet, mRetF, mL, mLst, mTup, mDrop, mIf, mUn, iNot, iNeg, mNotT, mAnd, mOr, mAndT, mOrT, mChain, mPub, pubE, iLt, iLe, iGt, iGe, isN, notN, ixD, iMod, iDiv, iMul, iPow, iSub, addD, cmpD, fInt, fLen, fAbs, fMax2, fMin2, fStr, fTuple, fList, maCons, maNil, ownAt, outOf, ioL, bin2, mPar, mpV, mpF, setP, mRaise, mCall, callV, mCallF, callVF, mCallIO, callIO, ioArgs, mAsg, gN, gT, gCs, gNs, sizeLine_eq, L2.atI, L2.ixN, isNonD, eqD, neD, flatD, eqFl, hd, fb]
theorem check_table_ok {sg : Sg} {t : Int} {rws : List Rw} (h : sg ∈ sigs) (T : TabOk t sg rws) : F_check_table [sgD sg, .tup [.int t, .tup (rws.map rwD)]] = .ok .non [] := by
  have a := check_signs_ok h
  have b := table_of_ok h T
  have c : F_check_its_table [sgD sg, .tup [.int t, .tup (rws.map rwD)]] = .ok .non [] := by
    unfold F_check_its_table runF m_check_its_table enIn
    simp [argEn, ioSl, mSeq, mIfS, mT, asB, mBin, mV, mC, mXA, mVar, mFn, mFnF, getsO, valsO, Opd.get, R.bind, R.thenS, RS.bind, mSet, mSetF, mPut, mRet, mRetF, mL, mLst, mTup, mDrop, mIf, mUn, iNot, iNeg, mNotT, mAnd, mOr, mAndT, mOrT, mChain, mPub, pubE, iLt, iLe, iGt, iGe, isN, notN, ixD, iMod, iDiv, iMul, iPow, iSub, addD, cmpD, fInt, fLen, fAbs, fMax2, fMin2, fStr, fTuple, fList, maCons, maNil, ownAt, outOf, ioL, bin2, mPar, mpV, mpF, setP, mRaise, mCall, callV, mCallF, callVF, mCallIO, callIO, ioArgs, mAsg, gN, gT, gCs, gNs, sizeLine_eq, L2.atI, L2.ixN, isNonD, eqD, neD, flatD, eqFl, b]
  unfold F_check_table runF m_check_table enIn
  simp [argEn, ioSl, mSeq, mIfS, mT, asB, mBin, mV, mC, mXA, mVar, mFn, mFnF, getsO, valsO, Opd.get, R.bind, R.thenS, RS.bind, mSet, mSetF, mPut, mRet, mRetF, mL, mLst, mTup, mDrop, mIf, mUn, iNot, iNeg, mNotT, mAnd, mOr, mAndT, mOrT, mChain, mPub, pubE, iLt, iLe, iGt, iGe, isN, notN, ixD, iMod, iDiv, iMul, iPow, iSub, addD, cmpD, fInt, fLen, fAbs, fMax2, fMin2, fStr, fTuple, fList, maCons, maNil, ownAt, outOf, ioL, bin2, mPar, mpV, mpF, setP, mRaise, mCall, callV, mCallF, callVF, mCallIO, callIO, ioArgs, mAsg, gN, gT, gCs, gNs, sizeLine_eq, L2.atI, L2.ixN, isNonD, eqD, neD, flatD, eqFl, a, c]
end G08
set_option Elab.async false
set_option linter.all false
set_option maxRecDepth 100000
set_option maxHeartbeats 1000000
/-! how long joined texts are, their signs -/
namespace DL
open PySem PySem.Spec L2
theorem txt_join_le (a : Str) (ys : List Str) : (Txt.join a ys).length ≤ (ys.map (·.length)).sum + ys.length * a.length := by
  unfold Txt.join
  rw [StrLaws.glued_eq_join]
  exact StrLaws.join_length_le a ys
theorem txt_join_mem {a : Str} {ys : List Str} {c : Nat} (h : c ∈ (Txt.join a ys).cps.toList) : (∃ y ∈ ys, c ∈ y.cps.toList) ∨ c ∈ a.cps.toList := by
  unfold Txt.join at h
  rw [StrLaws.glued_eq_join] at h
  rcases (PyProof.Rows.mem_join a c ys).mp h with h | ⟨_, h⟩
  · exact .inl h
  · exact .inr h
theorem sum_le {n : Nat} : ∀ {ys : List Str}, (∀ y ∈ ys, y.length ≤ n) → (ys.map (·.length)).sum ≤ ys.length * n
  | [], _ => by simp
  | y :: ys, h => by
    have a := h y List.mem_cons_self
    have b := sum_le fun x hx => h x (List.mem_cons_of_mem y hx)
    rw [List.map_cons, List.sum_cons, List.length_cons, Nat.succ_mul]
    omega
theorem join_le {a : Str} {ys : List Str} {n : Nat} (h : ∀ y ∈ ys, y.length ≤ n) : (Txt.join a ys).length ≤ ys.length * (n + a.length) := by
  have h1 := txt_join_le a ys
  have h2 := sum_le h
  rw [Nat.mul_add]; omega
theorem joinD_ok {a : Str} {ys : List Str} {n : Nat} (h : ∀ y ∈ ys, y.length ≤ n) (hz : ys.length * (n + a.length) ≤ 16777216) : joinD a ys = some (.str (Txt.join a ys)) := by
  have h2 := sum_le h
  unfold joinD
  rw [if_pos]
  rw [Nat.mul_add] at hz; omega
theorem strsOf_ok : ∀ ys : List Str, strsOf (ys.map .str) = some ys
  | [] => rfl
  | y :: ys => by rw [List.map_cons]; simp [strsOf, strsOf_ok ys]
theorem len_append (x y : Str) : (x ++ y).length = x.length + y.length := strLen_append x y
theorem cutS_le (z : Str) (lo hi : Option Int) : (cutS z lo hi).length ≤ z.length := by
  have e : ∀ l : List Nat, ((⟨l.toArray⟩ : Str)).length = l.length := fun l => by show l.toArray.size = _; simp
  have e2 : z.length = z.cps.toList.length := by rw [Array.length_toList]; rfl
  unfold cutS
  rw [e, e2, List.length_take, List.length_drop]
  omega
theorem cutL_mem {α : Type} {xs : List α} {lo hi : Option Int} {x : α} (h : x ∈ cutL xs lo hi) : x ∈ xs := List.mem_of_mem_drop (List.mem_of_mem_take h)
theorem cutL_le {α : Type} (xs : List α) (lo hi : Option Int) : (cutL xs lo hi).length ≤ xs.length := by
  unfold cutL
  rw [List.length_take, List.length_drop]
  omega
end DL
set_option Elab.async false
set_option linter.all false
set_option maxRecDepth 100000
set_option maxHeartbeats 4000000
namespace G08
open PySem PySem.Spec DL
def strI (i : Int) : Str := Str.ofString (toString i)
theorem strI_ok {i t : Int} (h : 0 ≤ i ∧ i < t) (t6 : t ≤ 7) : (strI i).length = 1 ∧ (∀ c ∈ (strI i).cps.toList, c < 16 ^ 8) ∧ fStr [.int i] = some (.str (strI i)) := by
  have : i = 0 ∨ i = 1 ∨ i = 2 ∨ i = 3 ∨ i = 4 ∨ i = 5 ∨ i = 6 := by omega
  rcases this with rfl | rfl | rfl | rfl | rfl | rfl | rfl <;> exact ⟨by decide +kernel, by decide +kernel, by kernel_rfl⟩
def lineV (nm : Str) (r : Rw) : Str := Txt.join (Str.ofString " ") (nm :: r.map strI)
def linesV (sg : Sg) (rws : List Rw) : List Str := List.zipWith (fun q r => lineV q.1 r) sg rws
def headV (t : Int) : Str := Str.ofString "things " ++ strI t
theorem head_eq {t : Int} (t1 : 1 ≤ t) (t6 : t ≤ 6) : Txt.join (Str.ofString " ") [Str.ofString "things", strI t] = headV t ∧ (headV t).length = 8 ∧ ∀ c ∈ (headV t).cps.toList, c < 16 ^ 8 := by
  have : t = 1 ∨ t = 2 ∨ t = 3 ∨ t = 4 ∨ t = 5 ∨ t = 6 := by omega
  rcases this with rfl | rfl | rfl | rfl | rfl | rfl <;> exact ⟨by decide +kernel, by decide +kernel, by decide +kernel⟩
def gLine : D → D
  | .tup [.tup [.str nm, _], .tup ys] => .str (Txt.join (Str.ofString " ") (nm :: ys.map fun y => match y with | .int i => strI i | _ => Str.empty))
  | _ => .non
theorem gLine_zipped : ∀ (sg : Sg) (rws : List Rw), (zipped sg rws).map gLine = (linesV sg rws).map .str
  | [], _ => rfl
  | _ :: _, [] => rfl
  | q :: sg, r :: rws => by
    show gLine (.tup [.tup [.str q.1, .int q.2], .tup (r.map .int)]) :: (zipped sg rws).map gLine = .str (lineV q.1 r) :: (linesV sg rws).map .str
    rw [gLine_zipped sg rws]
    congr 1
    simp only [gLine, lineV, List.map_map]
    rfl
/-- names are short, of plain signs -/
structure NmOk (sg : Sg) : Prop where
  sh : ∀ q ∈ sg, q.1.length ≤ 1
  asc : ∀ q ∈ sg, ∀ c ∈ q.1.cps.toList, c < 16 ^ 8
  few : sg.length ≤ 3
theorem nm_ok {sg : Sg} (h : sg ∈ sigs) : NmOk sg := by
  simp only [sigs, List.mem_cons, List.not_mem_nil, or_false] at h
  rcases h with rfl | rfl | rfl | rfl | rfl | rfl | rfl <;> exact ⟨by decide +kernel, by decide +kernel, by decide⟩
theorem lineV_ok {t : Int} {q : Str × Int} {r : Rw} (t6 : t ≤ 6) (p3 : q.2 ≤ 3) (n1 : q.1.length ≤ 1) (na : ∀ c ∈ q.1.cps.toList, c < 16 ^ 8) (h : RwOk t q r) :
    (lineV q.1 r).length ≤ 500 ∧ (∀ c ∈ (lineV q.1 r).cps.toList, c < 16 ^ 8) ∧ joinD (Str.ofString " ") (q.1 :: r.map strI) = some (.str (lineV q.1 r)) := by
  have rl := rw_len t6 p3 h
  have one : ∀ y ∈ q.1 :: r.map strI, y.length ≤ 1 := fun y hy => by
    rcases List.mem_cons.mp hy with rfl | hy
    · exact n1
    · obtain ⟨i, hi, rfl⟩ := List.mem_map.mp hy
      rw [(strI_ok (h.2 i hi) (by omega)).1]; exact Nat.le_refl _
  have len : (q.1 :: r.map strI).length ≤ 217 := by rw [List.length_cons, List.length_map]; omega
  have bl : (Str.ofString " ").length = 1 := by decide +kernel
  have m : (q.1 :: r.map strI).length * (1 + (Str.ofString " ").length) ≤ 217 * 2 := by rw [bl]; exact Nat.mul_le_mul_right _ len
  refine ⟨?_, fun c hc => ?_, joinD_ok one (by omega)⟩
  · have := join_le (a := Str.ofString " ") one
    unfold lineV; omega
  · rcases txt_join_mem hc with ⟨y, hy, hc⟩ | hc
    · rcases List.mem_cons.mp hy with rfl | hy
      · exact na c hc
      · obtain ⟨i, hi, rfl⟩ := List.mem_map.mp hy
        exact (strI_ok (h.2 i hi) (by omega)).2.1 c hc
    · have b : ∀ c ∈ (Str.ofString " ").cps.toList, c < 16 ^ 8 := by decide +kernel
      exact b c hc
theorem linesV_ok {t : Int} (t6 : t ≤ 6) : ∀ {sg : Sg} {rws : List Rw}, Al (RwOk t) sg rws → (∀ q ∈ sg, q.2 ≤ 3) → (∀ q ∈ sg, q.1.length ≤ 1) → (∀ q ∈ sg, ∀ c ∈ q.1.cps.toList, c < 16 ^ 8) → (linesV sg rws).length = sg.length ∧ ∀ y ∈ linesV sg rws, y.length ≤ 500 ∧ ∀ c ∈ y.cps.toList, c < 16 ^ 8
  | _, _, .nil, _, _, _ => ⟨rfl, by simp [linesV]⟩
  | _, _, .cons (x := q) (y := r) (xs := sg) (ys := rws) h1 h2, p3, n1, na => by
    obtain ⟨e, ih⟩ := linesV_ok t6 h2 (fun q hq => p3 q (List.mem_cons_of_mem _ hq)) (fun q hq => n1 q (List.mem_cons_of_mem _ hq)) fun q hq => na q (List.mem_cons_of_mem _ hq)
    have l := lineV_ok t6 (p3 q List.mem_cons_self) (n1 q List.mem_cons_self) (na q List.mem_cons_self) h1
    refine ⟨by show (lineV q.1 r :: linesV sg rws).length = _; rw [List.length_cons, List.length_cons, e], fun y hy => ?_⟩
    have hy : y ∈ lineV q.1 r :: linesV sg rws := hy
    rcases List.mem_cons.mp hy with rfl | hy
    · exact ⟨l.1, l.2.1⟩
    · exact ih y hy
/-- a row's figures -/
theorem figs_lc {i5 i6 : Nat} {r : Rw} {t : Int} {ρ : En} (h5 : ρ[i5]? = some (.val (.tup (r.map .int)))) (h6 : ρ[i6]? = some .no) (ok : ∀ i ∈ r, 0 ≤ i ∧ i < t) (t6 : t ≤ 6) :
    mLc (mSeqI (mVar i5)) (gN i6) [i6] (fun ρ => .ok true ρ) (mFn fStr (maCons (mXA i6) maNil)) ρ = .ok (r.map fun i => .str (strI i)) ρ := by
  have hi6 : i6 < ρ.length := (List.getElem?_eq_some_iff.mp h6).1
  have wp : wipeE ρ [i6] = ρ := by
    simp only [wipeE]
    exact List.ext_getElem? fun j => by
      rw [List.getElem?_set]
      split
      · rename_i e; subst e; rw [h6]
      · rfl
  have ne : ∀ x : D, (ρ.set i6 (.val x))[i6]? = some (.val x) := fun x => by rw [List.getElem?_set]; simp [hi6]
  have hc := mLc_map (mi := mSeqI (mVar i5)) (f := gN i6) (S := [i6]) (me := mFn fStr (maCons (mXA i6) maNil)) (g := fun y => match y with | .int i => .str (strI i) | _ => .non) (ds := r.map .int) (ρ := ρ) (ρ1 := ρ) (ρ0 := ρ) (ρ2 := ρ)
    (by simp [mSeqI, mVar, R.bind, walkOf, h5]) (by simp [clearS, h6, notOwn]) wp (by
      simp only [restE, h6]
      exact List.ext_getElem? fun j => by
        rw [List.getElem?_set]
        split
        · rename_i e; subst e; rw [h6]
        · rfl) (fun x hx => by
      obtain ⟨i, hi, rfl⟩ := List.mem_map.mp hx
      have f := (strI_ok (ok i hi) (by omega)).2.2
      refine ⟨ρ.set i6 (.val (.int i)), ρ.set i6 (.val (.int i)), rfl, ?_, ?_⟩
      · simp [mFn, maCons, maNil, mXA, R.bind, getsO, Opd.get, ne, f]
      · simp only [wipeE]
        rw [List.set_set]
        simpa only [wipeE] using wp)
  rw [List.map_map] at hc
  exact hc
end G08
set_option Elab.async false
set_option linter.all false
set_option maxRecDepth 100000
set_option maxHeartbeats 4000000
namespace G08
open PySem PySem.Spec DL
theorem strs_line (nm : Str) (r : Rw) : strsOf (.str nm :: r.map fun i => D.str (strI i)) = some (nm :: r.map strI) := by
  have e := strsOf_ok (nm :: r.map strI)
  rw [List.map_cons, List.map_map] at e
  exact e
theorem table_lines_ok {sg : Sg} {t : Int} {rws : List Rw} (h : sg ∈ sigs) (T : TabOk t sg rws) : F_table_lines [sgD sg, .tup [.int t, .tup (rws.map rwD)]] = .ok (.lst ((headV t :: linesV sg rws).map .str)) [] := by
  have S := sg_ok h
  have N := nm_ok h
  have t1 := T.t1
  have t6 := T.t6
  obtain ⟨ll, lo⟩ := linesV_ok t6 T.al (fun q hq => (S.pl q hq).2) N.sh N.asc
  have few := N.few
  have z1 : (linesV sg rws).length + 1 ≤ 16777216 := by omega
  have z0 : (linesV sg rws).length ≤ 16777216 := by omega
  obtain ⟨he, hl, _⟩ := head_eq t1 t6
  have fs := (strI_ok (i := t) (t := 7) ⟨by omega, by omega⟩ (by decide)).2.2
  have sh := (strI_ok (i := t) (t := 7) ⟨by omega, by omega⟩ (by decide)).1
  have hj : joinD (Str.ofString " ") [Str.ofString "things", strI t] = some (.str (headV t)) := by
    rw [← he]
    exact joinD_ok (n := 6) (fun y hy => by
      simp only [List.mem_cons, List.not_mem_nil, or_false] at hy
      rcases hy with rfl | rfl
      · decide +kernel
      · omega) (by rw [show (Str.ofString " ").length = 1 by decide +kernel]; simp)
  unfold F_table_lines runF
  rw [s_table_lines_split]
  unfold s_table_lines_
  have e0 : enIn [] 7 [sgD sg, .tup [.int t, .tup (rws.map rwD)]] = [.val (sgD sg), .val (.tup [.int t, .tup (rws.map rwD)]), .no, .no, .no, .no, .no] := by simp [enIn, argEn, ioSl]
  rw [e0]
  have hz : mArgI zipOf (maCons (mXA 0) (maCons (mV (mBin ixD (mXA 1) (mV (mC (.int 1))))) maNil)) [.val (sgD sg), .val (.tup [.int t, .tup (rws.map rwD)]), .no, .no, .no, .no, .no] = .ok (zipped sg rws) [.val (sgD sg), .val (.tup [.int t, .tup (rws.map rwD)]), .no, .no, .no, .no, .no] := by
    simp [argEn, ioSl, mSeq, mIfS, mT, asB, mBin, mV, mC, mXA, mVar, mFn, mFnF, getsO, valsO, Opd.get, R.bind, R.thenS, RS.bind, mSet, mSetF, mPut, mRet, mRetF, mL, mLst, mTup, mDrop, mIf, mUn, iNot, iNeg, mNotT, mAnd, mOr, mAndT, mOrT, mChain, mPub, pubE, iLt, iLe, iGt, iGe, isN, notN, ixD, iMod, iDiv, iMul, iPow, iSub, addD, cmpD, fInt, fLen, fAbs, fMax2, fMin2, fStr, fTuple, fList, maCons, maNil, ownAt, outOf, ioL, bin2, mPar, mpV, mpF, setP, mRaise, mCall, callV, mCallF, callVF, mCallIO, callIO, ioArgs, mAsg, gN, gT, gCs, gNs, sizeLine_eq, L2.atI, L2.ixN, isNonD, eqD, neD, flatD, eqFl, mArgI, zipOf, zipped, sgD, sgL]
  have hd := mLc_map (f := gT 2 (gCs (gT 2 (gCs (gN 3) (gCs (gN 4) gNs))) (gCs (gN 5) gNs))) (S := [3, 4, 5]) (me := mJoin (mC (.str (Str.ofString " "))) (mV (mL (mLst (maCons (mXA 3) (maStar (mV (mL (mLc (mSeqI (mVar 5)) (gN 6) [6] (fun ρ => .ok true ρ) (mFn fStr (maCons (mXA 6) maNil))))) maNil)))))) (g := gLine)
    (ρ0 := [.val (sgD sg), .val (.tup [.int t, .tup (rws.map rwD)]), .no, .no, .no, .no, .no]) (ρ2 := [.val (sgD sg), .val (.tup [.int t, .tup (rws.map rwD)]), .no, .no, .no, .no, .no])
    hz (by simp [clearS, notOwn]) (by simp [wipeE]) (by simp [restE]) (fun x hx => by
      obtain ⟨q, r, hq, ok, rfl⟩ := zipped_mem T.al x hx
      obtain ⟨p0, p3⟩ := S.pl q hq
      have rl := rw_len t6 p3 ok
      have rz : r.length + 1 ≤ 16777216 := by omega
      have lv := (lineV_ok t6 p3 (N.sh q hq) (N.asc q hq) ok).2.2
      refine ⟨[.val (sgD sg), .val (.tup [.int t, .tup (rws.map rwD)]), .no, .val (.str q.1), .val (.int q.2), .val (.tup (r.map .int)), .no], [.val (sgD sg), .val (.tup [.int t, .tup (rws.map rwD)]), .no, .val (.str q.1), .val (.int q.2), .val (.tup (r.map .int)), .no], by simp [gT, gCs, gN, gNs], ?_, by simp [wipeE]⟩
      have fg := figs_lc (i5 := 5) (i6 := 6) (r := r) (t := t) (ρ := [.val (sgD sg), .val (.tup [.int t, .tup (rws.map rwD)]), .no, .val (.str q.1), .val (.int q.2), .val (.tup (r.map .int)), .no]) rfl rfl ok.2 t6
      have gl : gLine (.tup [.tup [.str q.1, .int q.2], .tup (r.map .int)]) = .str (lineV q.1 r) := by
        simp only [gLine, lineV, List.map_map]; rfl
      have st := strs_line q.1 r
      rw [gl]
      have vo : ∀ zs : List D, valsO (zs.map Opd.v) = some zs := fun zs => by
        induction zs with
        | nil => rfl
        | cons z zs ih => rw [List.map_cons]; simp [valsO, ih]
      have vo' := vo (r.map fun i => D.str (strI i))
      rw [List.map_map] at vo'
      simp only [Function.comp_def] at vo'
      simp [argEn, ioSl, mSeq, mIfS, mT, asB, mBin, mV, mC, mXA, mVar, mFn, mFnF, getsO, valsO, Opd.get, R.bind, R.thenS, RS.bind, mSet, mSetF, mPut, mRet, mRetF, mL, mLst, mTup, mDrop, mIf, mUn, iNot, iNeg, mNotT, mAnd, mOr, mAndT, mOrT, mChain, mPub, pubE, iLt, iLe, iGt, iGe, isN, notN, ixD, iMod, iDiv, iMul, iPow, iSub, addD, cmpD, fInt, fLen, fAbs, fMax2, fMin2, fStr, fTuple, fList, maCons, maNil, ownAt, outOf, ioL, bin2, mPar, mpV, mpF, setP, mRaise, mCall, callV, mCallF, callVF, mCallIO, callIO, ioArgs, mAsg, gN, gT, gCs, gNs, sizeLine_eq, L2.atI, L2.ixN, isNonD, eqD, neD, flatD, eqFl, mJoin, maStar, itemsOf, fg, rz, vo', st, lv, Function.comp_def])
  rw [gLine_zipped] at hd
  have e1 : s_table_lines_1 [.val (sgD sg), .val (.tup [.int t, .tup (rws.map rwD)]), .no, .no, .no, .no, .no] = .nx [.val (sgD sg), .val (.tup [.int t, .tup (rws.map rwD)]), .own ((linesV sg rws).map .str), .no, .no, .no, .no] := by
    unfold s_table_lines_1 mSetF
    rw [hd]
    rfl
  rw [seq_nx e1]
  unfold s_table_lines_2
  have st2 : strsOf [.str (Str.ofString "things"), .str (strI t)] = some [Str.ofString "things", strI t] := strsOf_ok [_, _]
  have vo : ∀ zs : List D, valsO (zs.map Opd.v) = some zs := fun zs => by
    induction zs with
    | nil => rfl
    | cons z zs ih => rw [List.map_cons]; simp [valsO, ih]
  have vo' := vo ((linesV sg rws).map D.str)
  rw [List.map_map] at vo'
  simp only [Function.comp_def] at vo'
  simp [argEn, ioSl, mSeq, mIfS, mT, asB, mBin, mV, mC, mXA, mVar, mFn, mFnF, getsO, valsO, Opd.get, R.bind, R.thenS, RS.bind, mSet, mSetF, mPut, mRet, mRetF, mL, mLst, mTup, mDrop, mIf, mUn, iNot, iNeg, mNotT, mAnd, mOr, mAndT, mOrT, mChain, mPub, pubE, iLt, iLe, iGt, iGe, isN, notN, ixD, iMod, iDiv, iMul, iPow, iSub, addD, cmpD, fInt, fLen, fAbs, fMax2, fMin2, fTuple, fList, maCons, maNil, ownAt, outOf, ioL, bin2, mPar, mpV, mpF, setP, mRaise, mCall, callV, mCallF, callVF, mCallIO, callIO, ioArgs, mAsg, gN, gT, gCs, gNs, sizeLine_eq, L2.atI, L2.ixN, isNonD, eqD, neD, flatD, eqFl, mJoin, maStar, itemsOf, z1, z0, vo', st2, hj, fs, Function.comp_def]
/-- the text that is drawn -/
def textV (ls : List Str) : Str := Txt.join (Str.ofString "\n") ls
theorem textV_ok {ls : List Str} (hn : ls.length ≤ 20) (hl : ∀ l ∈ ls, l.length ≤ 600) : joinD (Str.ofString "\n") ls = some (.str (textV ls)) ∧ (textV ls).length ≤ 90000 := by
  have fl : (Str.ofString "\n").length = 1 := by decide +kernel
  have m : ls.length * (600 + (Str.ofString "\n").length) ≤ 20 * 601 := by rw [fl]; exact Nat.mul_le_mul_right _ hn
  have := join_le (a := Str.ofString "\n") hl
  exact ⟨joinD_ok hl (by omega), by unfold textV; omega⟩
theorem table_text_ok {sg : Sg} {t : Int} {rws : List Rw} (h : sg ∈ sigs) (T : TabOk t sg rws) (lo : ∀ y ∈ linesV sg rws, y.length ≤ 500) (ll : (linesV sg rws).length ≤ 3) : F_table_text [sgD sg, .tup [.int t, .tup (rws.map rwD)]] = .ok (.str (textV (headV t :: linesV sg rws))) [] := by
  have a := check_table_ok h T
  have b := table_lines_ok h T
  obtain ⟨_, hl, _⟩ := head_eq T.t1 T.t6
  obtain ⟨j, _⟩ := textV_ok (ls := headV t :: linesV sg rws) (by rw [List.length_cons]; omega) (fun l hm => by
    rcases List.mem_cons.mp hm with rfl | hm
    · omega
    · have := lo l hm; omega)
  have st := strsOf_ok (headV t :: linesV sg rws)
  unfold F_table_text runF m_table_text enIn
  rw [List.map_cons] at st b
  simp [argEn, ioSl, mSeq, mIfS, mT, asB, mBin, mV, mC, mXA, mVar, mFn, mFnF, getsO, valsO, Opd.get, R.bind, R.thenS, RS.bind, mSet, mSetF, mPut, mRet, mRetF, mL, mLst, mTup, mDrop, mIf, mUn, iNot, iNeg, mNotT, mAnd, mOr, mAndT, mOrT, mChain, mPub, pubE, iLt, iLe, iGt, iGe, isN, notN, ixD, iMod, iDiv, iMul, iPow, iSub, addD, cmpD, fInt, fLen, fAbs, fMax2, fMin2, fStr, fTuple, fList, maCons, maNil, ownAt, outOf, ioL, bin2, mPar, mpV, mpF, setP, mRaise, mCall, callV, mCallF, callVF, mCallIO, callIO, ioArgs, mAsg, gN, gT, gCs, gNs, sizeLine_eq, L2.atI, L2.ixN, isNonD, eqD, neD, flatD, eqFl, mJoin, itemsOf, a, b, st, j]
end G08
set_option Elab.async false
set_option linter.all false
set_option maxRecDepth 100000
set_option maxHeartbeats 4000000
namespace G08
open PySem PySem.Spec DL
def s_law_right_1 : MS := (mSet 1 (mCallIO F__law_signs 0 (maCons (mXA 0) maNil)))
def s_law_right_2 : MS := (mSet 2 (mCallIO F__law_table 0 (maCons (mXA 0) (maCons (mXA 1) (maCons (mV (mIf (mT (mBin iLt (mV (mBin ixD (mV (mBin ixD (mXA 1) (mV (mC (.int 0))))) (mV (mC (.int 1))))) (mV (mC (.int 3))))) (mC (.int 6)) (mC (.int 2)))) maNil)))))
def s_law_right_3 : MS := (mSet 3 (mBin addD (mV (mL (mLst (maCons (mV (mBin addD (mV (mC (.str ("things " : Str)))) (mV (mFn fStr (maCons (mV (mBin ixD (mXA 2) (mV (mC (.int 0))))) maNil))))) maNil)))) (mV (mL (mLc (mArgI zipOf (maCons (mXA 1) (maCons (mV (mBin ixD (mXA 2) (mV (mC (.int 1))))) maNil))) (gT 2 (gCs (gT 2 (gCs (gN 10) (gCs (gN 11) gNs))) (gCs (gN 12) gNs))) [10, 11, 12] (fun ρ => .ok true ρ) (mJoin (mC (.str (" " : Str))) (mV (mBin addD (mV (mL (mLst (maCons (mXA 10) maNil)))) (mV (mL (mLc (mSeqI (mVar 12)) (gN 13) [13] (fun ρ => .ok true ρ) (mFn fStr (maCons (mXA 13) maNil)))))))))))))
def s_law_right_4 : MS := (mIfS (mOrT (mT (mBin (cmpD neD) (mV (mFn fRepr (maCons (mV (mCall F_table_text (maCons (mXA 1) (maCons (mXA 2) maNil)))) maNil))) (mV (mFn fRepr (maCons (mV (mJoin (mC (.str ("\n" : Str))) (mXA 3))) maNil))))) (mNotT (mT (mCall F__law_is_read (maCons (mXA 1) (maCons (mV (mJoin (mC (.str ("\n" : Str))) (mXA 3))) maNil)))))) (mRet (mC (.bl false))) .nx)
def s_law_right_5_mi : MF := (mArgI rangeOf1 (maCons (mV (mC (.int 8))) maNil))
def s_law_right_5_f : MG := (gN 4)
def s_law_right_5_b1 : MS := (mSet 5 (mCallIO F__law_take 0 (maCons (mXA 0) (maCons (mV (mFn fLen (maCons (mXA 3) maNil))) maNil))))
def s_law_right_5_b2 : MS := (mSet 6 (mCallIO F__law_of 0 (maCons (mXA 0) (maCons (mV (mL (mLst (maCons (mV (mC (.str ("" : Str)))) (maCons (mV (mC (.str ("things 1" : Str)))) (maCons (mV (mC (.str ("things 7" : Str)))) (maCons (mV (mC (.str ("things 0" : Str)))) (maCons (mV (mC (.str ("m 0" : Str)))) (maCons (mV (mC (.str ("e 0" : Str)))) (maCons (mV (mBin addD (mV (mBin ixD (mXA 3) (mXA 5))) (mV (mC (.str (" 0" : Str)))))) (maCons (mV (mBin addD (mV (mBin ixD (mXA 3) (mXA 5))) (mV (mC (.str (" " : Str)))))) (maCons (mV (mBin addD (mV (mSl (mV (mBin ixD (mXA 3) (mXA 5))) (fun ρ => .ok none ρ) (mPart (mUn iNeg (mC (.int 1)))))) (mV (mC (.str ("9" : Str)))))) (maCons (mV (mSl (mV (mBin ixD (mXA 3) (mXA 5))) (fun ρ => .ok none ρ) (mPart (mUn iNeg (mC (.int 2)))))) (maCons (mV (mBin addD (mV (mC (.str (" " : Str)))) (mV (mBin ixD (mXA 3) (mXA 5))))) maNil)))))))))))))) maNil))))
def s_law_right_5_b3 : MS := (mSet 7 (mCallIO F__law_of 0 (maCons (mXA 0) (maCons (mV (mL (mLst (maCons (mV (mBin addD (mV (mSl (mXA 3) (fun ρ => .ok none ρ) (mPart (mVar 5)))) (mV (mSl (mXA 3) (mPart (mBin addD (mXA 5) (mV (mC (.int 1))))) (fun ρ => .ok none ρ))))) (maCons (mV (mBin addD (mV (mSl (mXA 3) (fun ρ => .ok none ρ) (mPart (mBin addD (mXA 5) (mV (mC (.int 1))))))) (mV (mSl (mXA 3) (mPart (mVar 5)) (fun ρ => .ok none ρ))))) (maCons (mV (mRev (mXA 3))) (maCons (mV (mBin addD (mV (mBin addD (mV (mSl (mXA 3) (fun ρ => .ok none ρ) (mPart (mVar 5)))) (mV (mL (mLst (maCons (mXA 6) maNil)))))) (mV (mSl (mXA 3) (mPart (mBin addD (mXA 5) (mV (mC (.int 1))))) (fun ρ => .ok none ρ))))) (maCons (mV (mBin addD (mV (mBin addD (mV (mSl (mXA 3) (fun ρ => .ok none ρ) (mPart (mVar 5)))) (mV (mL (mLst (maCons (mXA 6) maNil)))))) (mV (mSl (mXA 3) (mPart (mVar 5)) (fun ρ => .ok none ρ))))) (maCons (mV (mBin addD (mXA 3) (mV (mL (mLst (maCons (mXA 6) maNil)))))) maNil))))))))) maNil))))
def s_law_right_5_b4 : MS := (mIfS (mNotT (mT (mCall F__law_is_read (maCons (mXA 1) (maCons (mV (mJoin (mC (.str ("\n" : Str))) (mXA 7))) maNil))))) (mRet (mC (.bl false))) .nx)
def s_law_right_5_b : MS := mSeq s_law_right_5_b1 (mSeq s_law_right_5_b2 (mSeq s_law_right_5_b3 (s_law_right_5_b4)))
def s_law_right_5 : MS := mFor s_law_right_5_mi s_law_right_5_f s_law_right_5_b
def s_law_right_6 : MS := (mSet 8 (mCallIO F__law_of 0 (maCons (mXA 0) (maCons (mV (mL (mLst (maCons (mV (mC .non)) (maCons (mV (mC (.int 0))) (maCons (mV (mTup (maCons (mV (mC (.str ("things 1" : Str)))) maNil))) (maCons (mV (mL (mLst (maCons (mV (mBin ixD (mXA 3) (mV (mC (.int 0))))) maNil)))) maNil))))))) maNil))))
def s_law_right_7 : MS := (mSet 9 (mBin ixD (mV (mHeard errs (mCall F_read_table (maCons (mXA 1) (maCons (mXA 8) maNil))))) (mV (mC (.int 0)))))
def s_law_right_8 : MS := (mRet (mAnd (mIsE errs (fun c => c == ("BadTableText" : Str)) (mVar 9)) (mBin (cmpD eqD) (mV (mFn fRepr (maCons (mV (mValue errs (mVar 9))) maNil))) (mV (mC (.str ("0" : Str)))))))
def s_law_right_ : MS := mSeq s_law_right_1 (mSeq s_law_right_2 (mSeq s_law_right_3 (mSeq s_law_right_4 (mSeq s_law_right_5 (mSeq s_law_right_6 (mSeq s_law_right_7 (s_law_right_8)))))))
theorem s_law_right_split : m__law_right = s_law_right_ := rfl

/-- lines -/
def LnOk (ls : List Str) : Prop := 0 < ls.length ∧ ls.length ≤ 5 ∧ ∀ l ∈ ls, l.length ≤ 500
theorem strs_of {n : Nat} : ∀ {T : List D}, (∀ x ∈ T, ∃ s : Str, x = .str s ∧ s.length ≤ n) → ∃ ts : List Str, T = ts.map .str ∧ ∀ s ∈ ts, s.length ≤ n
  | [], _ => ⟨[], rfl, by simp⟩
  | x :: T, h => by
    obtain ⟨ts, e, ht⟩ := strs_of fun y hy => h y (List.mem_cons_of_mem x hy)
    obtain ⟨s, es, hs⟩ := h x List.mem_cons_self
    refine ⟨s :: ts, by rw [es, e]; rfl, fun y hy => ?_⟩
    rcases List.mem_cons.mp hy with rfl | hy
    · exact hs
    · exact ht y hy
abbrev rE (p : List D) (sg : Sg) (tb : D) (ls : List Str) (x4 x5 x6 x7 : Sl) : En := [.own p, .val (sgD sg), .val tb, .val (.lst (ls.map .str)), x4, x5, x6, x7, .no, .no, .no, .no, .no, .no]
theorem turn_b1 {n : Nat} {p : List D} {sg : Sg} {tb : D} {ls : List Str} {x4 x5 x6 x7 : Sl} (h : Pot n p) (hn : n < 2 ^ 20) (L : LnOk ls) : ∃ (k : Nat) (p' : List D), k < ls.length ∧ Pot (n + 1) p' ∧ s_law_right_5_b1 (rE p sg tb ls x4 x5 x6 x7) = .nx (rE p' sg tb ls x4 (.val (.int k)) x6 x7) := by
  obtain ⟨l0, l5, _⟩ := L
  obtain ⟨r, p', r0, r1, e, hp⟩ := take_ok (u := (ls.length : Int)) h hn (by omega) (Int.lt_of_le_of_lt (show (ls.length : Int) ≤ 5 by omega) (by decide))
  obtain ⟨k, rfl⟩ : ∃ k : Nat, r = k := ⟨r.toNat, by omega⟩
  refine ⟨k, p', by omega, hp, ?_⟩
  have z : ls.length ≤ 16777216 := by omega
  unfold s_law_right_5_b1
  simp [argEn, ioSl, mSeq, mIfS, mT, asB, mBin, mV, mC, mXA, mVar, mFn, mFnF, getsO, valsO, Opd.get, R.bind, R.thenS, RS.bind, mSet, mSetF, mPut, mRet, mRetF, mL, mLst, mTup, mDrop, mIf, mUn, iNot, iNeg, mNotT, mAnd, mOr, mAndT, mOrT, mChain, mPub, pubE, iLt, iLe, iGt, iGe, isN, notN, ixD, iMod, iDiv, iMul, iPow, iSub, addD, cmpD, fInt, fLen, fAbs, fMax2, fMin2, fStr, fTuple, fList, maCons, maNil, ownAt, outOf, ioL, bin2, mPar, mpV, mpF, setP, mRaise, mCall, callV, mCallF, callVF, mCallIO, callIO, ioArgs, mAsg, gN, gT, gCs, gNs, sizeLine_eq, L2.atI, L2.ixN, isNonD, eqD, neD, flatD, eqFl, z, e]
theorem turn_b2 {n : Nat} {p : List D} {sg : Sg} {tb : D} {ls : List Str} {x4 x6 x7 : Sl} {k : Nat} (h : Pot n p) (hn : n < 2 ^ 20) (L : LnOk ls) (hk : k < ls.length) : ∃ (s : Str) (p' : List D), s.length ≤ 600 ∧ Pot (n + 1) p' ∧
    s_law_right_5_b2 (rE p sg tb ls x4 (.val (.int k)) x6 x7) = .nx (rE p' sg tb ls x4 (.val (.int k)) (.val (.str s)) x7) := by
  obtain ⟨_, _, lo⟩ := L
  have hl : ls[k]? = some ls[k] := List.getElem?_eq_getElem hk
  generalize hg : ls[k] = l at hl
  have l5 : l.length ≤ 500 := by rw [← hg]; exact lo _ (List.getElem_mem hk)
  have ix : ixD (.lst (ls.map .str)) (.int k) = some (.str l) := L2.atI_nat (by rw [List.getElem?_map, hl]; rfl)
  have c1 := cutS_le l none (some (-1))
  have c2 := cutS_le l none (some (-2))
  generalize e1 : L2.cutS l none (some (-1)) = m1 at c1
  generalize e2 : L2.cutS l none (some (-2)) = m2 at c2
  have n1 : (Str.ofString " 0").length = 2 := by decide +kernel
  have n2 : (Str.ofString " ").length = 1 := by decide +kernel
  have n3 : (Str.ofString "9").length = 1 := by decide +kernel
  have zl : l.length ≤ 16777216 := by omega
  have s1 : slD (.str l) none (some (-1)) = some (.str m1) := by simp [slD, e1, zl, sizeLine_eq]
  have s2 : slD (.str l) none (some (-2)) = some (.str m2) := by simp [slD, e2, zl, sizeLine_eq]
  have a1 : addD (.str l) (.str (Str.ofString " 0")) = some (.str (l ++ Str.ofString " 0")) := by simp only [addD]; rw [if_pos (by rw [sizeLine_eq]; omega)]
  have a2 : addD (.str l) (.str (Str.ofString " ")) = some (.str (l ++ Str.ofString " ")) := by simp only [addD]; rw [if_pos (by rw [sizeLine_eq]; omega)]
  have a3 : addD (.str m1) (.str (Str.ofString "9")) = some (.str (m1 ++ Str.ofString "9")) := by simp only [addD]; rw [if_pos (by rw [sizeLine_eq]; omega)]
  have a4 : addD (.str (Str.ofString " ")) (.str l) = some (.str (Str.ofString " " ++ l)) := by simp only [addD]; rw [if_pos (by rw [sizeLine_eq]; omega)]
  obtain ⟨x, p', hx, e, hp⟩ := of_lst (xs := [.str (Str.ofString ""), .str (Str.ofString "things 1"), .str (Str.ofString "things 7"), .str (Str.ofString "things 0"), .str (Str.ofString "m 0"), .str (Str.ofString "e 0"), .str (l ++ Str.ofString " 0"), .str (l ++ Str.ofString " "), .str (m1 ++ Str.ofString "9"), .str m2, .str (Str.ofString " " ++ l)]) h hn (by simp) (by simp)
  have hs : ∃ s : Str, x = .str s ∧ s.length ≤ 600 := by
    simp only [List.mem_cons, List.not_mem_nil, or_false] at hx
    rcases hx with rfl | rfl | rfl | rfl | rfl | rfl | rfl | rfl | rfl | rfl | rfl
    · exact ⟨_, rfl, by decide +kernel⟩
    · exact ⟨_, rfl, by decide +kernel⟩
    · exact ⟨_, rfl, by decide +kernel⟩
    · exact ⟨_, rfl, by decide +kernel⟩
    · exact ⟨_, rfl, by decide +kernel⟩
    · exact ⟨_, rfl, by decide +kernel⟩
    · exact ⟨_, rfl, by rw [len_append]; omega⟩
    · exact ⟨_, rfl, by rw [len_append]; omega⟩
    · exact ⟨_, rfl, by rw [len_append]; omega⟩
    · exact ⟨_, rfl, by omega⟩
    · exact ⟨_, rfl, by rw [len_append]; omega⟩
  obtain ⟨s, rfl, hs⟩ := hs
  refine ⟨s, p', hs, hp, ?_⟩
  unfold s_law_right_5_b2
  simp [argEn, ioSl, mSeq, mIfS, mT, asB, mBin, mV, mC, mXA, mVar, mFn, mFnF, getsO, valsO, Opd.get, R.bind, R.thenS, RS.bind, mSet, mSetF, mPut, mRet, mRetF, mL, mLst, mTup, mDrop, mIf, mUn, iNot, iNeg, mNotT, mAnd, mOr, mAndT, mOrT, mChain, mPub, pubE, iLt, iLe, iGt, iGe, isN, notN, iMod, iDiv, iMul, iPow, iSub, cmpD, fInt, fLen, fAbs, fMax2, fMin2, fStr, fTuple, fList, maCons, maNil, ownAt, outOf, ioL, bin2, mPar, mpV, mpF, setP, mRaise, mCall, callV, mCallF, callVF, mCallIO, callIO, ioArgs, mAsg, gN, gT, gCs, gNs, sizeLine_eq, L2.atI, L2.ixN, isNonD, eqD, neD, flatD, eqFl, mSl, mPart, ix, s1, s2, a1, a2, a3, a4, e]
theorem turn_b3 {n : Nat} {p : List D} {sg : Sg} {tb : D} {ls : List Str} {x4 x7 : Sl} {k : Nat} {s : Str} (h : Pot n p) (hn : n < 2 ^ 20) (L : LnOk ls) (hk : k < ls.length) (hs : s.length ≤ 600) : ∃ (ts : List Str) (p' : List D), ts.length ≤ 11 ∧ (∀ t ∈ ts, t.length ≤ 600) ∧ Pot (n + 1) p' ∧
    s_law_right_5_b3 (rE p sg tb ls x4 (.val (.int k)) (.val (.str s)) x7) = .nx (rE p' sg tb ls x4 (.val (.int k)) (.val (.str s)) (.val (.lst (ts.map .str)))) := by
  obtain ⟨_, l5, lo⟩ := L
  have inL : ∀ x ∈ ls.map D.str, ∃ s : Str, x = .str s ∧ s.length ≤ 600 := fun x hx => by
    obtain ⟨y, hy, rfl⟩ := List.mem_map.mp hx
    exact ⟨y, rfl, by have := lo y hy; omega⟩
  have lL : (ls.map D.str).length ≤ 5 := by rw [List.length_map]; exact l5
  generalize hL : ls.map D.str = M at inL lL
  have q1 := cutL_le M none (some (k : Int))
  have q2 := cutL_le M (some ((k : Int) + 1)) none
  have q3 := cutL_le M none (some ((k : Int) + 1))
  have q4 := cutL_le M (some (k : Int)) none
  have r1 : ∀ x ∈ cutL M none (some (k : Int)), ∃ s : Str, x = .str s ∧ s.length ≤ 600 := fun x hx => inL x (cutL_mem hx)
  have r2 : ∀ x ∈ cutL M (some ((k : Int) + 1)) none, ∃ s : Str, x = .str s ∧ s.length ≤ 600 := fun x hx => inL x (cutL_mem hx)
  have r3 : ∀ x ∈ cutL M none (some ((k : Int) + 1)), ∃ s : Str, x = .str s ∧ s.length ≤ 600 := fun x hx => inL x (cutL_mem hx)
  have r4 : ∀ x ∈ cutL M (some (k : Int)) none, ∃ s : Str, x = .str s ∧ s.length ≤ 600 := fun x hx => inL x (cutL_mem hx)
  generalize e1 : cutL M none (some (k : Int)) = A at q1 r1
  generalize e2 : cutL M (some ((k : Int) + 1)) none = B at q2 r2
  generalize e3 : cutL M none (some ((k : Int) + 1)) = A1 at q3 r3
  generalize e4 : cutL M (some (k : Int)) none = B0 at q4 r4
  have s1 : slD (.lst M) none (some (k : Int)) = some (.lst A) := by simp [slD, e1]
  have s2 : slD (.lst M) (some ((k : Int) + 1)) none = some (.lst B) := by simp [slD, e2]
  have s3 : slD (.lst M) none (some ((k : Int) + 1)) = some (.lst A1) := by simp [slD, e3]
  have s4 : slD (.lst M) (some (k : Int)) none = some (.lst B0) := by simp [slD, e4]
  have add : ∀ a b : List D, a.length ≤ 100 → b.length ≤ 100 → addD (.lst a) (.lst b) = some (.lst (a ++ b)) := fun a b ha hb => by
    simp only [addD]
    rw [if_pos (by rw [sizeLine_eq]; omega)]
  have a0 : addD (.int k) (.int 1) = some (.int (k + 1)) := rfl
  have a1 := add A B (by omega) (by omega)
  have a2 := add A1 B0 (by omega) (by omega)
  have a3 := add A [.str s] (by omega) (by simp)
  have a4 := add (A ++ [.str s]) B (by rw [List.length_append]; simp; omega) (by omega)
  have a5 := add (A ++ [.str s]) B0 (by rw [List.length_append]; simp; omega) (by omega)
  have a6 := add M [.str s] (by omega) (by simp)
  obtain ⟨x, p', hx, e, hp⟩ := of_lst (xs := [.lst (A ++ B), .lst (A1 ++ B0), .lst M.reverse, .lst (A ++ [.str s] ++ B), .lst (A ++ [.str s] ++ B0), .lst (M ++ [.str s])]) h hn (by simp) (by simp)
  have one : ∀ x ∈ [D.str s], ∃ s : Str, x = .str s ∧ s.length ≤ 600 := fun x hx => ⟨s, List.mem_singleton.mp hx, hs⟩
  have app : ∀ {a b : List D}, (∀ x ∈ a, ∃ s : Str, x = .str s ∧ s.length ≤ 600) → (∀ x ∈ b, ∃ s : Str, x = .str s ∧ s.length ≤ 600) → ∀ x ∈ a ++ b, ∃ s : Str, x = .str s ∧ s.length ≤ 600 := fun ha hb x hx => (List.mem_append.mp hx).elim (ha x) (hb x)
  have hT : ∃ T, x = .lst T ∧ T.length ≤ 11 ∧ ∀ x ∈ T, ∃ s : Str, x = .str s ∧ s.length ≤ 600 := by
    simp only [List.mem_cons, List.not_mem_nil, or_false] at hx
    rcases hx with rfl | rfl | rfl | rfl | rfl | rfl
    · exact ⟨_, rfl, by rw [List.length_append]; omega, app r1 r2⟩
    · exact ⟨_, rfl, by rw [List.length_append]; omega, app r3 r4⟩
    · exact ⟨_, rfl, by rw [List.length_reverse]; omega, fun x hx => inL x (List.mem_reverse.mp hx)⟩
    · exact ⟨_, rfl, by rw [List.length_append, List.length_append]; simp; omega, app (app r1 one) r2⟩
    · exact ⟨_, rfl, by rw [List.length_append, List.length_append]; simp; omega, app (app r1 one) r4⟩
    · exact ⟨_, rfl, by rw [List.length_append]; simp; omega, app inL one⟩
  obtain ⟨T, rfl, lT, hT⟩ := hT
  obtain ⟨ts, rfl, ht⟩ := strs_of hT
  rw [List.length_map] at lT
  refine ⟨ts, p', ?_, ht, hp, ?_⟩
  · exact lT
  · unfold s_law_right_5_b3 rE
    rw [hL]
    simp only [List.append_assoc, List.cons_append, List.nil_append] at e
    simp [argEn, ioSl, mSeq, mIfS, mT, asB, mBin, mV, mC, mXA, mVar, mFn, mFnF, getsO, valsO, Opd.get, R.bind, R.thenS, RS.bind, mSet, mSetF, mPut, mRet, mRetF, mL, mLst, mTup, mDrop, mIf, mUn, iNot, iNeg, mNotT, mAnd, mOr, mAndT, mOrT, mChain, mPub, pubE, iLt, iLe, iGt, iGe, isN, notN, iMod, iDiv, iMul, iPow, iSub, cmpD, fInt, fLen, fAbs, fMax2, fMin2, fStr, fTuple, fList, maCons, maNil, ownAt, outOf, ioL, bin2, mPar, mpV, mpF, setP, mRaise, mCall, callV, mCallF, callVF, mCallIO, callIO, ioArgs, mAsg, gN, gT, gCs, gNs, sizeLine_eq, L2.atI, L2.ixN, isNonD, eqD, neD, flatD, eqFl, mSl, mPart, mRev, s1, s2, s3, s4, a0, a1, a2, a3, a4, a5, a6, e]
end G08
set_option Elab.async false
set_option linter.all false
set_option maxRecDepth 100000
set_option maxHeartbeats 4000000
namespace G08
open PySem PySem.Spec DL
theorem turn_ok {n : Nat} {p : List D} {sg : Sg} {tb : D} {ls : List Str} {x4 x5 x6 x7 : Sl} (h : Pot n p) (hn : n + 10 < 2 ^ 20) (L : LnOk ls) (hs : sg ∈ sigs) : ∃ (p' : List D) (y5 y6 y7 : Sl), Pot (n + 3) p' ∧ s_law_right_5_b (rE p sg tb ls x4 x5 x6 x7) = .nx (rE p' sg tb ls x4 y5 y6 y7) := by
  obtain ⟨k, p1, hk, h1, e1⟩ := turn_b1 (sg := sg) (tb := tb) (x4 := x4) (x5 := x5) (x6 := x6) (x7 := x7) h (by omega) L
  obtain ⟨s, p2, ls2, h2, e2⟩ := turn_b2 (sg := sg) (tb := tb) (x4 := x4) (x6 := x6) (x7 := x7) h1 (by omega) L hk
  obtain ⟨ts, p3, lt, lo, h3, e3⟩ := turn_b3 (sg := sg) (tb := tb) (x4 := x4) (x7 := x7) (s := s) h2 (by omega) L hk ls2
  obtain ⟨j, tl⟩ := textV_ok (ls := ts) (by omega) lo
  have r := is_read_ok hs tl
  have st := strsOf_ok ts
  refine ⟨p3, .val (.int k), .val (.str s), .val (.lst (ts.map .str)), h3, ?_⟩
  unfold s_law_right_5_b
  rw [seq_nx e1, seq_nx e2, seq_nx e3]
  unfold s_law_right_5_b4
  simp [argEn, ioSl, mSeq, mIfS, mT, asB, mBin, mV, mC, mXA, mVar, mFn, mFnF, getsO, valsO, Opd.get, R.bind, R.thenS, RS.bind, mSet, mSetF, mPut, mRet, mRetF, mL, mLst, mTup, mDrop, mIf, mUn, iNot, iNeg, mNotT, mAnd, mOr, mAndT, mOrT, mChain, mPub, pubE, iLt, iLe, iGt, iGe, isN, notN, ixD, iMod, iDiv, iMul, iPow, iSub, addD, cmpD, fInt, fLen, fAbs, fMax2, fMin2, fStr, fTuple, fList, maCons, maNil, ownAt, outOf, ioL, bin2, mPar, mpV, mpF, setP, mRaise, mCall, callV, mCallF, callVF, mCallIO, callIO, ioArgs, mAsg, gN, gT, gCs, gNs, sizeLine_eq, L2.atI, L2.ixN, isNonD, eqD, neD, flatD, eqFl, mJoin, itemsOf, st, j, r]
theorem read_bad {sg : Sg} {d : D} (h : sg ∈ sigs) (hb : isB "str" d = some false) : F_read_table [sgD sg, d] = .exc "BadTableText" (.int 0) := by
  have cs := check_signs_ok h
  unfold F_read_table runF
  rw [s_read_table_split]
  unfold s_read_table_
  have e0 : enIn [] 8 [sgD sg, d] = [.val (sgD sg), .val d, .no, .no, .no, .no, .no, .no] := by simp [enIn, argEn, ioSl]
  rw [e0]
  rw [seq_nx (a := s_read_table_1) (ρ1 := [.val (sgD sg), .val d, .no, .no, .no, .no, .no, .no]) (by unfold s_read_table_1; simp [argEn, ioSl, mSeq, mIfS, mT, asB, mBin, mV, mC, mXA, mVar, mFn, mFnF, getsO, valsO, Opd.get, R.bind, R.thenS, RS.bind, mSet, mSetF, mPut, mRet, mRetF, mL, mLst, mTup, mDrop, mIf, mUn, iNot, iNeg, mNotT, mAnd, mOr, mAndT, mOrT, mChain, mPub, pubE, iLt, iLe, iGt, iGe, isN, notN, ixD, iMod, iDiv, iMul, iPow, iSub, addD, cmpD, fInt, fLen, fAbs, fMax2, fMin2, fStr, fTuple, fList, maCons, maNil, ownAt, outOf, ioL, bin2, mPar, mpV, mpF, setP, mRaise, mCall, callV, mCallF, callVF, mCallIO, callIO, ioArgs, mAsg, gN, gT, gCs, gNs, sizeLine_eq, L2.atI, L2.ixN, isNonD, eqD, neD, flatD, eqFl, cs])]
  rw [seq_ex (a := s_read_table_2) (c := "BadTableText") (d := .int 0) (by unfold s_read_table_2; simp [argEn, ioSl, mSeq, mIfS, mT, asB, mBin, mV, mC, mXA, mVar, mFn, mFnF, getsO, valsO, Opd.get, R.bind, R.thenS, RS.bind, mSet, mSetF, mPut, mRet, mRetF, mL, mLst, mTup, mDrop, mIf, mUn, iNot, iNeg, mNotT, mAnd, mOr, mAndT, mOrT, mChain, mPub, pubE, iLt, iLe, iGt, iGe, isN, notN, ixD, iMod, iDiv, iMul, iPow, iSub, addD, cmpD, fInt, fLen, fAbs, fMax2, fMin2, fStr, fTuple, fList, maCons, maNil, ownAt, outOf, ioL, bin2, mPar, mpV, mpF, setP, mRaise, mCall, callV, mCallF, callVF, mCallIO, callIO, ioArgs, mAsg, gN, gT, gCs, gNs, sizeLine_eq, L2.atI, L2.ixN, isNonD, eqD, neD, flatD, eqFl, mIsB, hb]; rfl)]
  rfl
def mostOf : Sg → Int
  | q :: _ => if q.2 < 3 then 6 else 2
  | [] => 6
theorem most_ok {sg : Sg} (h : sg ∈ sigs) : 1 ≤ mostOf sg ∧ mostOf sg ≤ 6 ∧ ∀ q ∈ sg, 0 ≤ q.2 ∧ q.2 ≤ 3 ∧ (q.2 = 3 → mostOf sg ≤ 2) := by
  simp only [sigs, List.mem_cons, List.not_mem_nil, or_false] at h
  rcases h with rfl | rfl | rfl | rfl | rfl | rfl | rfl <;> exact ⟨by decide +kernel, by decide +kernel, by decide +kernel⟩
theorem most_eval {sg : Sg} (h : sg ∈ sigs) {p : List D} : mIf (mT (mBin iLt (mV (mBin ixD (mV (mBin ixD (mXA 1) (mV (mC (.int 0))))) (mV (mC (.int 1))))) (mV (mC (.int 3))))) (mC (.int 6)) (mC (.int 2)) [.own p, .val (sgD sg), .no, .no, .no, .no, .no, .no, .no, .no, .no, .no, .no, .no] =
    .ok (.int (mostOf sg)) [.own p, .val (sgD sg), .no, .no, .no, .no, .no, .no, .no, .no, .no, .no, .no, .no] := by
  simp only [sigs, List.mem_cons, List.not_mem_nil, or_false] at h
  rcases h with rfl | rfl | rfl | rfl | rfl | rfl | rfl <;> kernel_rfl
theorem right_ok {n : Nat} {p : List D} (h : Pot n p) (hn : n + 4000 < 2 ^ 20) : ∃ p', F__law_right [.lst p] = .ok (.bl true) [p'] ∧ Pot (n + 1100) p' := by
  obtain ⟨sg, p1, hs, e1, h1⟩ := signs_ok h (by omega)
  have S := sg_ok hs
  have N := nm_ok hs
  obtain ⟨m1, m2, m3⟩ := most_ok hs
  obtain ⟨t, rows, p2, t1, t2, e2, al0, h2⟩ := table_ok (sg := sg) (most := mostOf sg) h1 (by omega) m1 m2 N.few m3
  obtain ⟨rws, er, al⟩ := rows_of al0
  subst er
  have t6 : t ≤ 6 := by omega
  have T : TabOk t sg rws := ⟨t1, t6, al⟩
  obtain ⟨ll, lo⟩ := linesV_ok t6 al (fun q hq => (S.pl q hq).2) N.sh N.asc
  obtain ⟨he, hl, ha⟩ := head_eq t1 t6
  have few := N.few
  have tt := table_text_ok hs T (fun y hy => (lo y hy).1) (by omega)
  have Lo : ∀ l ∈ headV t :: linesV sg rws, l.length ≤ 500 := fun l hm => by
    rcases List.mem_cons.mp hm with rfl | hm
    · omega
    · exact (lo l hm).1
  have L : LnOk (headV t :: linesV sg rws) := ⟨by simp, by rw [List.length_cons]; omega, Lo⟩
  obtain ⟨j, tl⟩ := textV_ok (ls := headV t :: linesV sg rws) (by rw [List.length_cons]; omega) fun l hm => by have := Lo l hm; omega
  have ir := is_read_ok hs tl
  have asc : ∀ c ∈ (textV (headV t :: linesV sg rws)).cps.toList, c < 16 ^ 8 := fun c hc => by
    rcases txt_join_mem hc with ⟨y, hy, hc⟩ | hc
    · rcases List.mem_cons.mp hy with rfl | hy
      · exact ha c hc
      · exact (lo y hy).2 c hc
    · have b : ∀ c ∈ (Str.ofString "\n").cps.toList, c < 16 ^ 8 := by decide +kernel
      exact b c hc
  obtain ⟨x, hx⟩ := repr_told (d := .str (textV (headV t :: linesV sg rws))) (by simpa only [okD] using asc) (by simp [dpD]) (by simp only [wtD]; omega)
  unfold F__law_right runF
  rw [s_law_right_split]
  unfold s_law_right_
  have e0 : enIn [0] 14 [D.lst p] = [.own p, .no, .no, .no, .no, .no, .no, .no, .no, .no, .no, .no, .no, .no] := by simp [enIn, argEn, ioSl]
  rw [e0]
  rw [seq_nx (a := s_law_right_1) (ρ1 := [.own p1, .val (sgD sg), .no, .no, .no, .no, .no, .no, .no, .no, .no, .no, .no, .no]) (by unfold s_law_right_1; simp [argEn, ioSl, mSeq, mIfS, mT, asB, mBin, mV, mC, mXA, mVar, mFn, mFnF, getsO, valsO, Opd.get, R.bind, R.thenS, RS.bind, mSet, mSetF, mPut, mRet, mRetF, mL, mLst, mTup, mDrop, mIf, mUn, iNot, iNeg, mNotT, mAnd, mOr, mAndT, mOrT, mChain, mPub, pubE, iLt, iLe, iGt, iGe, isN, notN, ixD, iMod, iDiv, iMul, iPow, iSub, addD, cmpD, fInt, fLen, fAbs, fMax2, fMin2, fStr, fTuple, fList, maCons, maNil, ownAt, outOf, ioL, bin2, mPar, mpV, mpF, setP, mRaise, mCall, callV, mCallF, callVF, mCallIO, callIO, ioArgs, mAsg, gN, gT, gCs, gNs, sizeLine_eq, L2.atI, L2.ixN, isNonD, eqD, neD, flatD, eqFl, e1])]
  generalize htb : D.tup [.int t, .tup (rws.map rwD)] = tb at e2 tt
  rw [seq_nx (a := s_law_right_2) (ρ1 := [.own p2, .val (sgD sg), .val tb, .no, .no, .no, .no, .no, .no, .no, .no, .no, .no, .no]) (by
    unfold s_law_right_2
    have me := most_eval hs (p := p1)
    generalize mIf (mT (mBin iLt (mV (mBin ixD (mV (mBin ixD (mXA 1) (mV (mC (.int 0))))) (mV (mC (.int 1))))) (mV (mC (.int 3))))) (mC (.int 6)) (mC (.int 2)) = mm at me ⊢
    simp [argEn, ioSl, mSeq, mIfS, mT, asB, mBin, mV, mC, mXA, mVar, mFn, mFnF, getsO, valsO, Opd.get, R.bind, R.thenS, RS.bind, mSet, mSetF, mPut, mRet, mRetF, mL, mLst, mTup, mDrop, mIf, mUn, iNot, iNeg, mNotT, mAnd, mOr, mAndT, mOrT, mChain, mPub, pubE, iLt, iLe, iGt, iGe, isN, notN, ixD, iMod, iDiv, iMul, iPow, iSub, addD, cmpD, fInt, fLen, fAbs, fMax2, fMin2, fStr, fTuple, fList, maCons, maNil, ownAt, outOf, ioL, bin2, mPar, mpV, mpF, setP, mRaise, mCall, callV, mCallF, callVF, mCallIO, callIO, ioArgs, mAsg, gN, gT, gCs, gNs, sizeLine_eq, L2.atI, L2.ixN, isNonD, eqD, neD, flatD, eqFl, me, e2])]
  subst htb
  -- the law's own lines
  have fs := (strI_ok (i := t) (t := 7) ⟨by omega, by omega⟩ (by decide)).2.2
  have hz : mArgI zipOf (maCons (mXA 1) (maCons (mV (mBin ixD (mXA 2) (mV (mC (.int 1))))) maNil)) [.own p2, .val (sgD sg), .val (.tup [.int t, .tup (rws.map rwD)]), .no, .no, .no, .no, .no, .no, .no, .no, .no, .no, .no] = .ok (zipped sg rws) [.own p2, .val (sgD sg), .val (.tup [.int t, .tup (rws.map rwD)]), .no, .no, .no, .no, .no, .no, .no, .no, .no, .no, .no] := by
    simp [argEn, ioSl, mSeq, mIfS, mT, asB, mBin, mV, mC, mXA, mVar, mFn, mFnF, getsO, valsO, Opd.get, R.bind, R.thenS, RS.bind, mSet, mSetF, mPut, mRet, mRetF, mL, mLst, mTup, mDrop, mIf, mUn, iNot, iNeg, mNotT, mAnd, mOr, mAndT, mOrT, mChain, mPub, pubE, iLt, iLe, iGt, iGe, isN, notN, ixD, iMod, iDiv, iMul, iPow, iSub, addD, cmpD, fInt, fLen, fAbs, fMax2, fMin2, fStr, fTuple, fList, maCons, maNil, ownAt, outOf, ioL, bin2, mPar, mpV, mpF, setP, mRaise, mCall, callV, mCallF, callVF, mCallIO, callIO, ioArgs, mAsg, gN, gT, gCs, gNs, sizeLine_eq, L2.atI, L2.ixN, isNonD, eqD, neD, flatD, eqFl, mArgI, zipOf, zipped, sgD, sgL]
  have hd := mLc_map (f := gT 2 (gCs (gT 2 (gCs (gN 10) (gCs (gN 11) gNs))) (gCs (gN 12) gNs))) (S := [10, 11, 12]) (me := mJoin (mC (.str (Str.ofString " "))) (mV (mBin addD (mV (mL (mLst (maCons (mXA 10) maNil)))) (mV (mL (mLc (mSeqI (mVar 12)) (gN 13) [13] (fun ρ => .ok true ρ) (mFn fStr (maCons (mXA 13) maNil)))))))) (g := gLine)
    (ρ0 := [.own p2, .val (sgD sg), .val (.tup [.int t, .tup (rws.map rwD)]), .no, .no, .no, .no, .no, .no, .no, .no, .no, .no, .no]) (ρ2 := [.own p2, .val (sgD sg), .val (.tup [.int t, .tup (rws.map rwD)]), .no, .no, .no, .no, .no, .no, .no, .no, .no, .no, .no])
    hz (by simp [clearS, notOwn]) (by simp [wipeE]) (by simp [restE]) (fun x hx => by
      obtain ⟨q, r, hq, ok, rfl⟩ := zipped_mem al x hx
      obtain ⟨p0, p3⟩ := S.pl q hq
      have rl := rw_len t6 p3 ok
      have rz : r.length + 1 ≤ 16777216 := by omega
      have rz' : 1 + r.length ≤ 16777216 := by omega
      have lv := (lineV_ok t6 p3 (N.sh q hq) (N.asc q hq) ok).2.2
      have fg := figs_lc (i5 := 12) (i6 := 13) (r := r) (t := t) (ρ := [.own p2, .val (sgD sg), .val (.tup [.int t, .tup (rws.map rwD)]), .no, .no, .no, .no, .no, .no, .no, .val (.str q.1), .val (.int q.2), .val (.tup (r.map .int)), .no]) rfl rfl ok.2 t6
      refine ⟨[.own p2, .val (sgD sg), .val (.tup [.int t, .tup (rws.map rwD)]), .no, .no, .no, .no, .no, .no, .no, .val (.str q.1), .val (.int q.2), .val (.tup (r.map .int)), .no], [.own p2, .val (sgD sg), .val (.tup [.int t, .tup (rws.map rwD)]), .no, .no, .no, .no, .no, .no, .no, .val (.str q.1), .val (.int q.2), .val (.tup (r.map .int)), .no], by simp [gT, gCs, gN, gNs], ?_, by simp [wipeE]⟩
      have gl : gLine (.tup [.tup [.str q.1, .int q.2], .tup (r.map .int)]) = .str (lineV q.1 r) := by
        simp only [gLine, lineV, List.map_map]; rfl
      have st := strs_line q.1 r
      rw [gl]
      simp [argEn, ioSl, mSeq, mIfS, mT, asB, mBin, mV, mC, mXA, mVar, mFn, mFnF, getsO, valsO, Opd.get, R.bind, R.thenS, RS.bind, mSet, mSetF, mPut, mRet, mRetF, mL, mLst, mTup, mDrop, mIf, mUn, iNot, iNeg, mNotT, mAnd, mOr, mAndT, mOrT, mChain, mPub, pubE, iLt, iLe, iGt, iGe, isN, notN, ixD, iMod, iDiv, iMul, iPow, iSub, addD, cmpD, fInt, fLen, fAbs, fMax2, fMin2, fStr, fTuple, fList, maCons, maNil, ownAt, outOf, ioL, bin2, mPar, mpV, mpF, setP, mRaise, mCall, callV, mCallF, callVF, mCallIO, callIO, ioArgs, mAsg, gN, gT, gCs, gNs, sizeLine_eq, L2.atI, L2.ixN, isNonD, eqD, neD, flatD, eqFl, mJoin, itemsOf, fg, rz, rz', st, lv])
  rw [gLine_zipped] at hd
  have z1 : (linesV sg rws).length + 1 ≤ 16777216 := by omega
  have z1' : 1 + (linesV sg rws).length ≤ 16777216 := by omega
  have ln : (Str.ofString "things ").length = 7 := by decide +kernel
  have ls1 : (strI t).length = 1 := (strI_ok (i := t) (t := 7) ⟨by omega, by omega⟩ (by decide)).1
  have ad : addD (.str (Str.ofString "things ")) (.str (strI t)) = some (.str (headV t)) := by
    simp only [addD]
    rw [if_pos (by rw [sizeLine_eq]; omega)]
    rfl
  have ad2 : addD (.lst [.str (headV t)]) (.lst ((linesV sg rws).map .str)) = some (.lst ((headV t :: linesV sg rws).map .str)) := by
    simp only [addD]
    rw [if_pos (by rw [sizeLine_eq, List.length_map]; simp; omega)]
    rfl
  rw [seq_nx (a := s_law_right_3) (ρ1 := rE p2 sg (.tup [.int t, .tup (rws.map rwD)]) (headV t :: linesV sg rws) .no .no .no .no) (by
    unfold s_law_right_3 rE
    simp [argEn, ioSl, mSeq, mIfS, mT, asB, mBin, mV, mC, mXA, mVar, mFn, mFnF, getsO, valsO, Opd.get, R.bind, R.thenS, RS.bind, mSet, mSetF, mPut, mRet, mRetF, mL, mLst, mTup, mDrop, mIf, mUn, iNot, iNeg, mNotT, mAnd, mOr, mAndT, mOrT, mChain, mPub, pubE, iLt, iLe, iGt, iGe, isN, notN, ixD, iMod, iDiv, iMul, iPow, iSub, cmpD, fInt, fLen, fAbs, fMax2, fMin2, fTuple, fList, maCons, maNil, ownAt, outOf, ioL, bin2, mPar, mpV, mpF, setP, mRaise, mCall, callV, mCallF, callVF, mCallIO, callIO, ioArgs, mAsg, gN, gT, gCs, gNs, sizeLine_eq, L2.atI, L2.ixN, isNonD, eqD, neD, flatD, eqFl, hd, ad, fs]
    rw [ad2]
    simp)]
  have st := strsOf_ok (headV t :: linesV sg rws)
  rw [seq_nx (a := s_law_right_4) (ρ1 := rE p2 sg (.tup [.int t, .tup (rws.map rwD)]) (headV t :: linesV sg rws) .no .no .no .no) (by
    unfold s_law_right_4 rE
    rw [List.map_cons] at st ⊢
    simp [argEn, ioSl, mSeq, mIfS, mT, asB, mBin, mV, mC, mXA, mVar, mFn, mFnF, getsO, valsO, Opd.get, R.bind, R.thenS, RS.bind, mSet, mSetF, mPut, mRet, mRetF, mL, mLst, mTup, mDrop, mIf, mUn, iNot, iNeg, mNotT, mAnd, mOr, mAndT, mOrT, mChain, mPub, pubE, iLt, iLe, iGt, iGe, isN, notN, ixD, iMod, iDiv, iMul, iPow, iSub, addD, cmpD, fInt, fLen, fAbs, fMax2, fMin2, fStr, fTuple, fList, maCons, maNil, ownAt, outOf, ioL, bin2, mPar, mpV, mpF, setP, mRaise, mCall, callV, mCallF, callVF, mCallIO, callIO, ioArgs, mAsg, gN, gT, gCs, gNs, sizeLine_eq, L2.atI, L2.ixN, isNonD, eqD, neD, flatD, eqFl, mJoin, itemsOf, tt, st, j, hx, ir])]
  obtain ⟨ρ5, g1, p5, y4, y5, y6, y7, eρ, h5⟩ := forGo_inv (f := s_law_right_5_f) (mb := s_law_right_5_b) (Inv := fun m ρ => ∃ p y4 y5 y6 y7, ρ = rE p sg (.tup [.int t, .tup (rws.map rwD)]) (headV t :: linesV sg rws) y4 y5 y6 y7 ∧ Pot (n + 1 + 1000 + 3 * m) p)
    (rangeL 0 8) 0 (rE p2 sg (.tup [.int t, .tup (rws.map rwD)]) (headV t :: linesV sg rws) .no .no .no .no) ⟨p2, .no, .no, .no, .no, rfl, h2⟩ (fun d hd m ρ hm hI => by
      obtain ⟨q, y4, y5, y6, y7, rfl, hq⟩ := hI
      have hm : m < 8 := by simpa [rangeL] using hm
      obtain ⟨q', z5, z6, z7, hq', eb⟩ := turn_ok (sg := sg) (tb := .tup [.int t, .tup (rws.map rwD)]) (x4 := .val d) (x5 := y5) (x6 := y6) (x7 := y7) hq (by omega) L hs
      exact ⟨rE q sg _ _ (.val d) y5 y6 y7, rE q' sg _ _ (.val d) z5 z6 z7, rfl, eb, q', _, _, _, _, rfl, hq'.mono (by omega)⟩)
  subst eρ
  have h5 : Pot (n + 1025) p5 := h5.mono (by simp [rangeL])
  rw [seq_nx (a := s_law_right_5) (by
    unfold s_law_right_5
    rw [for_go (ds := rangeL 0 8) (ρ1 := rE p2 sg (.tup [.int t, .tup (rws.map rwD)]) (headV t :: linesV sg rws) .no .no .no .no) (by
      unfold s_law_right_5_mi rE
      have ok8 : okR 0 8 := by decide
      simp [argEn, ioSl, mSeq, mIfS, mT, asB, mBin, mV, mC, mXA, mVar, mFn, mFnF, getsO, valsO, Opd.get, R.bind, R.thenS, RS.bind, mSet, mSetF, mPut, mRet, mRetF, mL, mLst, mTup, mDrop, mIf, mUn, iNot, iNeg, mNotT, mAnd, mOr, mAndT, mOrT, mChain, mPub, pubE, iLt, iLe, iGt, iGe, isN, notN, ixD, iMod, iDiv, iMul, iPow, iSub, addD, cmpD, fInt, fLen, fAbs, fMax2, fMin2, fStr, fTuple, fList, maCons, maNil, ownAt, outOf, ioL, bin2, mPar, mpV, mpF, setP, mRaise, mCall, callV, mCallF, callVF, mCallIO, callIO, ioArgs, mAsg, gN, gT, gCs, gNs, sizeLine_eq, L2.atI, L2.ixN, isNonD, eqD, neD, flatD, eqFl, mArgI, rangeOf1, ok8])]
    exact g1)]
  obtain ⟨bad, p6, hb, e6, h6⟩ := of_lst (xs := [.non, .int 0, .tup [.str (Str.ofString "things 1")], .lst [.str (headV t)]]) h5 (by omega) (by simp) (by simp)
  have ib : isB "str" bad = some false := by
    simp only [List.mem_cons, List.not_mem_nil, or_false] at hb
    rcases hb with rfl | rfl | rfl | rfl <;> rfl
  have rb := read_bad hs ib
  have bt : (Str.ofString "BadTableText") ∈ errs := by decide +kernel
  rw [seq_nx (a := s_law_right_6) (ρ1 := [.own p6, .val (sgD sg), .val (.tup [.int t, .tup (rws.map rwD)]), .val (.lst ((headV t :: linesV sg rws).map .str)), y4, y5, y6, y7, .val bad, .no, .no, .no, .no, .no]) (by
    unfold s_law_right_6 rE
    simp [argEn, ioSl, mSeq, mIfS, mT, asB, mBin, mV, mC, mXA, mVar, mFn, mFnF, getsO, valsO, Opd.get, R.bind, R.thenS, RS.bind, mSet, mSetF, mPut, mRet, mRetF, mL, mLst, mTup, mDrop, mIf, mUn, iNot, iNeg, mNotT, mAnd, mOr, mAndT, mOrT, mChain, mPub, pubE, iLt, iLe, iGt, iGe, isN, notN, ixD, iMod, iDiv, iMul, iPow, iSub, addD, cmpD, fInt, fLen, fAbs, fMax2, fMin2, fStr, fTuple, fList, maCons, maNil, ownAt, outOf, ioL, bin2, mPar, mpV, mpF, setP, mRaise, mCall, callV, mCallF, callVF, mCallIO, callIO, ioArgs, mAsg, gN, gT, gCs, gNs, sizeLine_eq, L2.atI, L2.ixN, isNonD, eqD, neD, flatD, eqFl, e6])]
  rw [seq_nx (a := s_law_right_7) (ρ1 := [.own p6, .val (sgD sg), .val (.tup [.int t, .tup (rws.map rwD)]), .val (.lst ((headV t :: linesV sg rws).map .str)), y4, y5, y6, y7, .val bad, .val (.err "BadTableText" (.int 0)), .no, .no, .no, .no]) (by
    unfold s_law_right_7
    simp [argEn, ioSl, mSeq, mIfS, mT, asB, mBin, mV, mC, mXA, mVar, mFn, mFnF, getsO, valsO, Opd.get, R.bind, R.thenS, RS.bind, mSet, mSetF, mPut, mRet, mRetF, mL, mLst, mTup, mDrop, mIf, mUn, iNot, iNeg, mNotT, mAnd, mOr, mAndT, mOrT, mChain, mPub, pubE, iLt, iLe, iGt, iGe, isN, notN, ixD, iMod, iDiv, iMul, iPow, iSub, addD, cmpD, fInt, fLen, fAbs, fMax2, fMin2, fStr, fTuple, fList, maCons, maNil, ownAt, outOf, ioL, bin2, mPar, mpV, mpF, setP, mRaise, mCall, callV, mCallF, callVF, mCallIO, callIO, ioArgs, mAsg, gN, gT, gCs, gNs, sizeLine_eq, L2.atI, L2.ixN, isNonD, eqD, neD, flatD, eqFl, mHeard, rb, bt])]
  have r0 : fRepr [.int 0] = some (.str (Str.ofString "0")) := by kernel_rfl
  refine ⟨p6, ?_, h6.mono (by omega)⟩
  unfold s_law_right_8
  simp [argEn, ioSl, mSeq, mIfS, mT, asB, mBin, mV, mC, mXA, mVar, mFn, mFnF, getsO, valsO, Opd.get, R.bind, R.thenS, RS.bind, mSet, mSetF, mPut, mRet, mRetF, mL, mLst, mTup, mDrop, mIf, mUn, iNot, iNeg, mNotT, mAnd, mOr, mAndT, mOrT, mChain, mPub, pubE, iLt, iLe, iGt, iGe, isN, notN, ixD, iMod, iDiv, iMul, iPow, iSub, addD, cmpD, fInt, fLen, fAbs, fMax2, fMin2, fStr, fTuple, fList, maCons, maNil, ownAt, outOf, ioL, bin2, mPar, mpV, mpF, setP, mRaise, mCall, callV, mCallF, callVF, mCallIO, callIO, ioArgs, mAsg, gN, gT, gCs, gNs, sizeLine_eq, L2.atI, L2.ixN, isNonD, eqD, neD, flatD, eqFl, mIsE, mValue, bt, r0]
end G08
set_option Elab.async false
set_option linter.all false
set_option maxRecDepth 100000
set_option maxHeartbeats 4000000
namespace G08
open PySem PySem.Spec DL
def s_law_pot_1 : MS := (mSet 2 (mIf (mT (mBin iLt (mXA 1) (mV (mFn fLen (maCons (mXA 0) maNil))))) (mBin ixD (mXA 0) (mXA 1)) (mBin addD (mV (mBin iMul (mV (mC (.int 3931))) (mXA 1))) (mV (mC (.int 3701))))))
def s_law_pot_2 : MS := (mSet 3 (mBin iMul (mV (mBin iMod (mV (mFn fInt (maCons (mV (mFn fAbs (maCons (mXA 2) maNil))) maNil))) (mV (mBin iPow (mV (mBin iPow (mV (mC (.int 10))) (mV (mC (.int 60))))) (mV (mC (.int 5))))))) (mV (mFn fInt (maCons (mV (mBin iGe (mV (mFn fAbs (maCons (mXA 2) maNil))) (mV (mBin iPow (mV (mC (.int 10))) (mV (mC (.int 18))))))) maNil)))))
def s_law_pot_3 : MS := (mSet 4 (mBin iMod (mV (mFn fInt (maCons (mXA 2) maNil))) (mV (mC (.int 2305843009213693951)))))
def s_law_pot_4 : MS := (mRetF (mLst (maCons (mXA 3) (maCons (mV (mBin iMod (mV (mFn fInt (maCons (mV (mBin addD (mV (mBin addD (mV (mBin iMul (mXA 4) (mV (mC (.int 92419))))) (mV (mBin iMul (mV (mBin iMul (mV (mC (.int 8191))) (mXA 1))) (mXA 1))))) (mV (mC (.int 4463))))) maNil))) (mV (mC (.int 2305843009213693921))))) (maCons (mV (mC (.int 0))) maNil)))))
def s_law_pot_ : MS := mSeq s_law_pot_1 (mSeq s_law_pot_2 (mSeq s_law_pot_3 (s_law_pot_4)))
theorem s_law_pot_split : m__law_pot = s_law_pot_ := rfl
def s_law_1 : MS := (mIfS (mT (mBin (cmpD neD) (mV (mFn fRepr (maCons (mV (mCall F_table_text (maCons (mV (mTup (maCons (mV (mTup (maCons (mV (mC (.str ("m" : Str)))) (maCons (mV (mC (.int 2))) maNil)))) (maCons (mV (mTup (maCons (mV (mC (.str ("e" : Str)))) (maCons (mV (mC (.int 0))) maNil)))) maNil)))) (maCons (mV (mTup (maCons (mV (mC (.int 2))) (maCons (mV (mTup (maCons (mV (mTup (maCons (mV (mC (.int 0))) (maCons (mV (mC (.int 1))) (maCons (mV (mC (.int 1))) (maCons (mV (mC (.int 0))) maNil)))))) (maCons (mV (mTup (maCons (mV (mC (.int 0))) maNil))) maNil)))) maNil)))) maNil)))) maNil))) (mV (mFn fRepr (maCons (mV (mC (.str ("things 2\nm 0 1 1 0\ne 0" : Str)))) maNil))))) (mRet (mC (.bl false))) .nx)
def s_law_2_mi : MF := (mSeqI (mCall F__law_cells (maCons (mXA 0) (maCons (mV (mC (.int 3))) maNil))))
def s_law_2_f : MG := (gN 1)
def s_law_2_b1 : MS := (mSetF 2 (mCallF F__law_pot (maCons (mXA 0) (maCons (mXA 1) maNil))))
def s_law_2_b2 : MS := (mIfS (mNotT (mT (mFn fAll (maCons (mV (mL (mLc (mArgI rangeOf1 (maCons (mV (mC (.int 6))) maNil)) (gN 3) [3] (fun ρ => .ok true ρ) (mCallIO F__law_right 0 (maCons (mXA 2) maNil))))) maNil)))) (mRet (mC (.bl false))) .nx)
def s_law_2_b : MS := mSeq s_law_2_b1 (s_law_2_b2)
def s_law_2 : MS := mFor s_law_2_mi s_law_2_f s_law_2_b
def s_law_3 : MS := (mRet (mC (.bl true)))
def s_law_ : MS := mSeq s_law_1 (mSeq s_law_2 (s_law_3))
theorem s_law_split : m_law = s_law_ := rfl

theorem powers : ∃ Q P T : Int, 0 < P ∧ P < 2 ^ 1000 ∧ iPow (.int 10) (.int 60) = some (.int Q) ∧ iPow (.int Q) (.int 5) = some (.int P) ∧ iPow (.int 10) (.int 18) = some (.int T) :=
  ⟨10 ^ 60, 10 ^ 300, 10 ^ 18, by decide +kernel, by decide +kernel, by kernel_rfl, by kernel_rfl, by kernel_rfl⟩
theorem pot_ok {ns : List Int} {k : Nat} (hl : ns.length ≤ 63) (hk : k < 3) : ∃ p, F__law_pot [.kl (ns.map .int), .int k] = .ok (.lst p) [] ∧ Pot 0 p := by
  obtain ⟨Q, P, T, P0, P1, q1, q2, q3⟩ := powers
  have zl : ns.length ≤ 16777216 := by omega
  unfold F__law_pot runF
  rw [s_law_pot_split]
  unfold s_law_pot_
  have e0 : enIn [] 5 [.kl (ns.map .int), .int k] = [.val (.kl (ns.map .int)), .val (.int k), .no, .no, .no] := by simp [enIn, argEn, ioSl]
  rw [e0]
  have st1 : ∃ c : Int, s_law_pot_1 [.val (.kl (ns.map .int)), .val (.int k), .no, .no, .no] = .nx [.val (.kl (ns.map .int)), .val (.int k), .val (.int c), .no, .no] := by
    unfold s_law_pot_1
    by_cases h : k < ns.length
    · have hi : ((k : Int) < (ns.length : Int)) := by omega
      have ix : ixD (.kl (ns.map .int)) (.int k) = some (.int ns[k]) := L2.atI_nat (by rw [List.getElem?_map, List.getElem?_eq_getElem h]; rfl)
      exact ⟨ns[k], by simp [argEn, ioSl, mSeq, mIfS, mT, asB, mBin, mV, mC, mXA, mVar, mFn, mFnF, getsO, valsO, Opd.get, R.bind, R.thenS, RS.bind, mSet, mSetF, mPut, mRet, mRetF, mL, mLst, mTup, mDrop, mIf, mUn, iNot, iNeg, mNotT, mAnd, mOr, mAndT, mOrT, mChain, mPub, pubE, iLt, iLe, iGt, iGe, isN, notN, iMod, iDiv, iMul, iPow, iSub, addD, cmpD, fInt, fLen, fAbs, fMax2, fMin2, fStr, fTuple, fList, maCons, maNil, ownAt, outOf, ioL, bin2, mPar, mpV, mpF, setP, mRaise, mCall, callV, mCallF, callVF, mCallIO, callIO, ioArgs, mAsg, gN, gT, gCs, gNs, sizeLine_eq, L2.atI, L2.ixN, isNonD, eqD, neD, flatD, eqFl, zl, hi, ix]⟩
    · have hi : ¬ ((k : Int) < (ns.length : Int)) := by omega
      have w : L2.CMulW 3931 (k : Int) := mulW_small (by decide) (by decide) (by omega) (by omega)
      exact ⟨3931 * k + 3701, by simp [argEn, ioSl, mSeq, mIfS, mT, asB, mBin, mV, mC, mXA, mVar, mFn, mFnF, getsO, valsO, Opd.get, R.bind, R.thenS, RS.bind, mSet, mSetF, mPut, mRet, mRetF, mL, mLst, mTup, mDrop, mIf, mUn, iNot, iNeg, mNotT, mAnd, mOr, mAndT, mOrT, mChain, mPub, pubE, iLt, iLe, iGt, iGe, isN, notN, ixD, iMod, iDiv, iMul, iPow, iSub, addD, cmpD, fInt, fLen, fAbs, fMax2, fMin2, fStr, fTuple, fList, maCons, maNil, ownAt, outOf, ioL, bin2, mPar, mpV, mpF, setP, mRaise, mCall, callV, mCallF, callVF, mCallIO, callIO, ioArgs, mAsg, gN, gT, gCs, gNs, sizeLine_eq, L2.atI, L2.ixN, isNonD, eqD, neD, flatD, eqFl, zl, hi, w]⟩
  obtain ⟨c, e1⟩ := st1
  rw [seq_nx e1]
  generalize ha : (if c < 0 then -c else c) = a
  have a0 : 0 ≤ a := by rw [← ha]; split <;> omega
  have st2 : ∃ o : Int, 0 ≤ o ∧ s_law_pot_2 [.val (.kl (ns.map .int)), .val (.int k), .val (.int c), .no, .no] = .nx [.val (.kl (ns.map .int)), .val (.int k), .val (.int c), .val (.int o), .no] := by
    have m0 := Int.emod_nonneg a (show P ≠ 0 by omega)
    have m1 := Int.emod_lt_of_pos a P0
    have lg := log2_small m0 (Int.lt_trans m1 P1) (by decide)
    refine ⟨a % P * (if T ≤ a then 1 else 0), Int.mul_nonneg m0 (by split <;> decide), ?_⟩
    have w : L2.CMulW (a % P) (if T ≤ a then 1 else 0) := by
      have : (if T ≤ a then (1 : Int) else 0).natAbs.log2 ≤ 1 := by split <;> decide
      unfold L2.CMulW
      omega
    have fa : fAbs [.int c] = some (.int a) := by simp [fAbs, ha]
    unfold s_law_pot_2
    simp [argEn, ioSl, mSeq, mIfS, mT, asB, mBin, mV, mC, mXA, mVar, mFn, mFnF, getsO, valsO, Opd.get, R.bind, R.thenS, RS.bind, mSet, mSetF, mPut, mRet, mRetF, mL, mLst, mTup, mDrop, mIf, mUn, iNot, iNeg, mNotT, mAnd, mOr, mAndT, mOrT, mChain, mPub, pubE, iLt, iLe, iGt, iGe, isN, notN, ixD, iMod, iDiv, iMul, iSub, addD, cmpD, fInt, fLen, fMax2, fMin2, fStr, fTuple, fList, maCons, maNil, ownAt, outOf, ioL, bin2, mPar, mpV, mpF, setP, mRaise, mCall, callV, mCallF, callVF, mCallIO, callIO, ioArgs, mAsg, gN, gT, gCs, gNs, sizeLine_eq, L2.atI, L2.ixN, isNonD, eqD, neD, flatD, eqFl, q1, q2, q3, P0, fa, w]
  obtain ⟨o, o0, e2⟩ := st2
  rw [seq_nx e2]
  have m0 := Int.emod_nonneg c (show (2305843009213693951 : Int) ≠ 0 by decide)
  have m1 := Int.emod_lt_of_pos c (show (0 : Int) < 2305843009213693951 by decide)
  generalize hm : c % 2305843009213693951 = m at m0 m1
  rw [seq_nx (a := s_law_pot_3) (ρ1 := [.val (.kl (ns.map .int)), .val (.int k), .val (.int c), .val (.int o), .val (.int m)]) (by unfold s_law_pot_3; simp [argEn, ioSl, mSeq, mIfS, mT, asB, mBin, mV, mC, mXA, mVar, mFn, mFnF, getsO, valsO, Opd.get, R.bind, R.thenS, RS.bind, mSet, mSetF, mPut, mRet, mRetF, mL, mLst, mTup, mDrop, mIf, mUn, iNot, iNeg, mNotT, mAnd, mOr, mAndT, mOrT, mChain, mPub, pubE, iLt, iLe, iGt, iGe, isN, notN, ixD, iMod, iDiv, iMul, iPow, iSub, addD, cmpD, fInt, fLen, fAbs, fMax2, fMin2, fStr, fTuple, fList, maCons, maNil, ownAt, outOf, ioL, bin2, mPar, mpV, mpF, setP, mRaise, mCall, callV, mCallF, callVF, mCallIO, callIO, ioArgs, mAsg, gN, gT, gCs, gNs, sizeLine_eq, L2.atI, L2.ixN, isNonD, eqD, neD, flatD, eqFl, hm])]
  have w1 : L2.CMulW m 92419 := mulW_small m0 (Int.lt_trans m1 (by decide)) (by decide) (by decide)
  have w2 : L2.CMulW 8191 (k : Int) := mulW_small (by decide) (by decide) (by omega) (by omega)
  have w3 : L2.CMulW (8191 * (k : Int)) (k : Int) := mulW_small (by omega) (by omega) (by omega) (by omega)
  generalize hb : (m * 92419 + 8191 * (k : Int) * k + 4463) % 2305843009213693921 = b
  have b0 : 0 ≤ b := by rw [← hb]; exact Int.emod_nonneg _ (by decide)
  have b1 : b < 2 ^ 61 := by
    rw [← hb]
    exact Int.lt_trans (Int.emod_lt_of_pos _ (by decide)) (by decide)
  refine ⟨[.int o, .int b, .int 0], ?_, o, b, 0, rfl, o0, b0, b1, by decide, by decide⟩
  unfold s_law_pot_4
  simp [argEn, ioSl, mSeq, mIfS, mT, asB, mBin, mV, mC, mXA, mVar, mFn, mFnF, getsO, valsO, Opd.get, R.bind, R.thenS, RS.bind, mSet, mSetF, mPut, mRet, mRetF, mL, mLst, mTup, mDrop, mIf, mUn, iNot, iNeg, mNotT, mAnd, mOr, mAndT, mOrT, mChain, mPub, pubE, iLt, iLe, iGt, iGe, isN, notN, ixD, iMod, iDiv, iMul, iPow, iSub, addD, cmpD, fInt, fLen, fAbs, fMax2, fMin2, fStr, fTuple, fList, maCons, maNil, ownAt, outOf, ioL, bin2, mPar, mpV, mpF, setP, mRaise, mCall, callV, mCallF, callVF, mCallIO, callIO, ioArgs, mAsg, gN, gT, gCs, gNs, sizeLine_eq, L2.atI, L2.ixN, isNonD, eqD, neD, flatD, eqFl, w1, w2, w3, hb]
theorem cells_run {sc : D} {n L M : Int} {xs : List D} (fl : fLen [sc] = some (.int L)) (f1 : fMin2 [.int 3, .int L] = some (.int M)) (f2 : fMax2 [.int 1, .int M] = some (.int n)) (rg : rgD 0 n = some xs) : F__law_cells [sc, .int 3] = .ok (.lst xs) [] := by
  unfold F__law_cells runF
  have e0 : enIn [] 2 [sc, .int 3] = [.val sc, .val (.int 3)] := by simp [enIn, argEn, ioSl]
  rw [e0]
  unfold m__law_cells mRet mL mRg1
  have q : mFn fMax2 (maCons (mV (mC (.int 1))) (maCons (mV (mFn fMin2 (maCons (mXA 1) (maCons (mV (mFn fLen (maCons (mXA 0) maNil))) maNil)))) maNil)) [.val sc, .val (.int 3)] = .ok (.int n) [.val sc, .val (.int 3)] := by
    simp [mFn, maCons, maNil, mV, mC, mXA, R.bind, getsO, Opd.get, fl, f1, f2]
  simp only [q, R.bind, rg, R.thenS, noExc]
  rfl
theorem cells_ok {ns : List Int} (hl : ns.length ≤ 63) : ∃ xs : List D, F__law_cells [.kl (ns.map .int), .int 3] = .ok (.lst xs) [] ∧ xs.length ≤ 3 ∧ ∀ x ∈ xs, ∃ k : Nat, x = .int k ∧ k < 3 := by
  have zl : ns.length ≤ 16777216 := by omega
  have hn : ∃ n : Nat, n ≤ 3 ∧ max (1 : Int) (min 3 (ns.length : Int)) = n := ⟨max 1 (min 3 ns.length), by omega, by omega⟩
  obtain ⟨n, n3, en⟩ := hn
  refine ⟨rangeL 0 n, ?_, by simp [rangeL]; omega, fun x hx => ?_⟩
  · have ok : okR 0 (n : Int) := by
      have : n = 0 ∨ n = 1 ∨ n = 2 ∨ n = 3 := by omega
      rcases this with rfl | rfl | rfl | rfl <;> decide
    have f1 : fMin2 [.int 3, .int (ns.length : Int)] = some (.int (min 3 (ns.length : Int))) := by
      simp only [fMin2]
      congr 2
      split <;> omega
    have f2 : fMax2 [.int 1, .int (min 3 (ns.length : Int))] = some (.int n) := by
      simp only [fMax2]
      congr 2
      split <;> omega
    have rg : rgD 0 (n : Int) = some (rangeL 0 n) := by unfold rgD; rw [if_pos ok]
    have fl : fLen [.kl (ns.map .int)] = some (.int (ns.length : Int)) := by simp [fLen, zl, sizeLine_eq]
    exact cells_run fl f1 f2 rg
  · unfold rangeL at hx
    obtain ⟨k, hk, rfl⟩ := List.mem_map.mp hx
    rw [List.mem_range] at hk
    exact ⟨k, by simp, by omega⟩
theorem all_trues : ∀ {ys : List D}, (∀ y ∈ ys, y = .bl true) → fAll [.lst ys] = some (.bl true) := fun {ys} h => by
  have e : ys = ys.map fun _ => .bl true := by
    induction ys with
    | nil => rfl
    | cons y ys ih => rw [List.map_cons, ← ih fun z hz => h z (List.mem_cons_of_mem _ hz), h y List.mem_cons_self]
  rw [e]
  exact fAll_true
theorem law_ok {ns : List Int} (hl : ns.length ≤ 63) : F_law [.kl (ns.map .int)] = .ok (.bl true) [] := by
  unfold F_law runF
  rw [s_law_split]
  unfold s_law_
  have e0 : enIn [] 4 [.kl (ns.map .int)] = [.val (.kl (ns.map .int)), .no, .no, .no] := by simp [enIn, argEn, ioSl]
  rw [e0]
  generalize hS : D.kl (ns.map .int) = sc
  have e1 : s_law_1 [.val sc, .no, .no, .no] = .nx [.val sc, .no, .no, .no] := by kernel_rfl
  rw [seq_nx e1]
  obtain ⟨xs, ec, l3, hx⟩ := cells_ok hl
  rw [hS] at ec
  have mi : s_law_2_mi [.val sc, .no, .no, .no] = .ok xs [.val sc, .no, .no, .no] := by
    unfold s_law_2_mi
    simp [argEn, ioSl, mSeq, mIfS, mT, asB, mBin, mV, mC, mXA, mVar, mFn, mFnF, getsO, valsO, Opd.get, R.bind, R.thenS, RS.bind, mSet, mSetF, mPut, mRet, mRetF, mL, mLst, mTup, mDrop, mIf, mUn, iNot, iNeg, mNotT, mAnd, mOr, mAndT, mOrT, mChain, mPub, pubE, iLt, iLe, iGt, iGe, isN, notN, ixD, iMod, iDiv, iMul, iPow, iSub, addD, cmpD, fInt, fLen, fAbs, fMax2, fMin2, fStr, fTuple, fList, maCons, maNil, ownAt, outOf, ioL, bin2, mPar, mpV, mpF, setP, mRaise, mCall, callV, mCallF, callVF, mCallIO, callIO, ioArgs, mAsg, gN, gT, gCs, gNs, sizeLine_eq, L2.atI, L2.ixN, isNonD, eqD, neD, flatD, eqFl, mSeqI, ec, walkOf]
  obtain ⟨ρ', g1, y1, y2, rfl⟩ := forGo_inv (f := s_law_2_f) (mb := s_law_2_b) (Inv := fun _ ρ => ∃ y1 y2, ρ = [.val sc, y1, y2, .no]) xs 0 [.val sc, .no, .no, .no] ⟨_, _, rfl⟩ (fun x hm m ρ _ hI => by
    obtain ⟨y1, y2, rfl⟩ := hI
    obtain ⟨k, rfl, hk⟩ := hx x hm
    obtain ⟨p, ep, hp⟩ := pot_ok hl hk
    rw [hS] at ep
    obtain ⟨ys, ρ2, h1, h2, h3, p2, e2, _⟩ := mLc_inv (mi := mArgI rangeOf1 (maCons (mV (mC (.int 6))) maNil)) (f := gN 3) (S := [3]) (me := mCallIO F__law_right 0 (maCons (mXA 2) maNil)) (Inv := fun m ρ => ∃ p, ρ = [.val sc, .val (.int k), .own p, .no] ∧ Pot (1100 * m) p) (Pd := fun y => y = .bl true) (ds := rangeL 0 6)
      (ρ := [.val sc, .val (.int k), .own p, .no]) (ρ1 := [.val sc, .val (.int k), .own p, .no]) (ρ0 := [.val sc, .val (.int k), .own p, .no]) 0 (by
        have ok6 : okR 0 6 := by decide
        simp [argEn, ioSl, mSeq, mIfS, mT, asB, mBin, mV, mC, mXA, mVar, mFn, mFnF, getsO, valsO, Opd.get, R.bind, R.thenS, RS.bind, mSet, mSetF, mPut, mRet, mRetF, mL, mLst, mTup, mDrop, mIf, mUn, iNot, iNeg, mNotT, mAnd, mOr, mAndT, mOrT, mChain, mPub, pubE, iLt, iLe, iGt, iGe, isN, notN, ixD, iMod, iDiv, iMul, iPow, iSub, addD, cmpD, fInt, fLen, fAbs, fMax2, fMin2, fStr, fTuple, fList, maCons, maNil, ownAt, outOf, ioL, bin2, mPar, mpV, mpF, setP, mRaise, mCall, callV, mCallF, callVF, mCallIO, callIO, ioArgs, mAsg, gN, gT, gCs, gNs, sizeLine_eq, L2.atI, L2.ixN, isNonD, eqD, neD, flatD, eqFl, mArgI, rangeOf1, ok6]) (by simp [clearS, notOwn]) (by simp [wipeE]) ⟨p, rfl, hp⟩ (fun y _ m ρ hm hI => by
        obtain ⟨q, rfl, hq⟩ := hI
        have hm : m < 6 := by simpa [rangeL] using hm
        obtain ⟨q', er, hq'⟩ := right_ok hq (by omega)
        refine ⟨[.val sc, .val (.int k), .own q, .val y], .bl true, [.val sc, .val (.int k), .own q', .val y], rfl, ?_, rfl, q', by simp [wipeE], hq'.mono (by omega)⟩
        simp [argEn, ioSl, mSeq, mIfS, mT, asB, mBin, mV, mC, mXA, mVar, mFn, mFnF, getsO, valsO, Opd.get, R.bind, R.thenS, RS.bind, mSet, mSetF, mPut, mRet, mRetF, mL, mLst, mTup, mDrop, mIf, mUn, iNot, iNeg, mNotT, mAnd, mOr, mAndT, mOrT, mChain, mPub, pubE, iLt, iLe, iGt, iGe, isN, notN, ixD, iMod, iDiv, iMul, iPow, iSub, addD, cmpD, fInt, fLen, fAbs, fMax2, fMin2, fStr, fTuple, fList, maCons, maNil, ownAt, outOf, ioL, bin2, mPar, mpV, mpF, setP, mRaise, mCall, callV, mCallF, callVF, mCallIO, callIO, ioArgs, mAsg, gN, gT, gCs, gNs, sizeLine_eq, L2.atI, L2.ixN, isNonD, eqD, neD, flatD, eqFl, er])
    subst e2
    refine ⟨[.val sc, .val (.int k), y2, .no], [.val sc, .val (.int k), .own p2, .no], rfl, ?_, _, _, rfl⟩
    unfold s_law_2_b
    rw [seq_nx (a := s_law_2_b1) (ρ1 := [.val sc, .val (.int k), .own p, .no]) (by
      unfold s_law_2_b1
      simp [argEn, ioSl, mSeq, mIfS, mT, asB, mBin, mV, mC, mXA, mVar, mFn, mFnF, getsO, valsO, Opd.get, R.bind, R.thenS, RS.bind, mSet, mSetF, mPut, mRet, mRetF, mL, mLst, mTup, mDrop, mIf, mUn, iNot, iNeg, mNotT, mAnd, mOr, mAndT, mOrT, mChain, mPub, pubE, iLt, iLe, iGt, iGe, isN, notN, ixD, iMod, iDiv, iMul, iPow, iSub, addD, cmpD, fInt, fLen, fAbs, fMax2, fMin2, fStr, fTuple, fList, maCons, maNil, ownAt, outOf, ioL, bin2, mPar, mpV, mpF, setP, mRaise, mCall, callV, mCallF, callVF, mCallIO, callIO, ioArgs, mAsg, gN, gT, gCs, gNs, sizeLine_eq, L2.atI, L2.ixN, isNonD, eqD, neD, flatD, eqFl, ep])]
    have al := all_trues h3
    have re : restE [.val sc, .val (.int k), .own p, .no] [3] [.val sc, .val (.int k), .own p2, .no] = [.val sc, .val (.int k), .own p2, .no] := by simp [restE]
    rw [re] at h1
    unfold s_law_2_b2
    simp [argEn, ioSl, mSeq, mIfS, mT, asB, mBin, mV, mC, mXA, mVar, mFn, mFnF, getsO, valsO, Opd.get, R.bind, R.thenS, RS.bind, mSet, mSetF, mPut, mRet, mRetF, mL, mLst, mTup, mDrop, mIf, mUn, iNot, iNeg, mNotT, mAnd, mOr, mAndT, mOrT, mChain, mPub, pubE, iLt, iLe, iGt, iGe, isN, notN, ixD, iMod, iDiv, iMul, iPow, iSub, addD, cmpD, fInt, fLen, fAbs, fMax2, fMin2, fStr, fTuple, fList, maCons, maNil, ownAt, outOf, ioL, bin2, mPar, mpV, mpF, setP, mRaise, mCall, callV, mCallF, callVF, mCallIO, callIO, ioArgs, mAsg, gN, gT, gCs, gNs, sizeLine_eq, L2.atI, L2.ixN, isNonD, eqD, neD, flatD, eqFl, h1, al])
  rw [seq_nx (a := s_law_2) (by unfold s_law_2; rw [for_go mi]; exact g1)]
  rfl
end G08
set_option Elab.async false
set_option linter.all false
set_option maxRecDepth 100000
set_option maxHeartbeats 0
open PySem PySem.Spec PySem.W PyProof.Rows L2 DL
theorem PySem.Challenge.cw_whatequationssay_k08_whole_tables_as_tex_holds : PySem.Challenge.rw_whatequationssay_k08_whole_tables_as_tex.Holds := by
  w_on; o_law; k_head; (case hw => w_witness2)
  k_fill
  refine DL.walk_D (l := PySem.Challenge.rw_whatequationssay_k08_whole_tables_as_tex) (n := 63) (k := 11) rfl (by decide) rfl ⟨⟨rfl, by decide, by decide⟩, rfl⟩ (fun w h Y => PySem.W.km_in_of Y) ?F
  case F =>
    intro w mg fa h Y KX G hmg
    have hT := PySem.W.km_tabs_of Y
    refine' G08.all_mk KX G hmg (fun _ h _ => G08.law_ok h) ?b_abs ?b_all ?b_bool ?b_enumerate ?b_int ?b_isinstance ?b_len ?b_list ?b_max ?b_min ?b_range ?b_repr ?b_set ?b_sorted ?b_str ?b_sum ?b_tuple ?b_zip ?c_BLANK ?c_FEED ?c_FIGURES ?c_LETTERS ?c_MOST_NAMES ?c_MOST_PLACES ?c_MOST_SIGNS ?c_MOST_THINGS ?c_THINGS ?c_VARIABLES ?l_VARIABLES ?a_EquationError ?a_BadSigns ?a_BadTable ?a_BadTableText ?x_EquationError ?sa_EquationError ?ga_EquationError ?gg_EquationError ?no_EquationError ?i_EquationError ?kC_EquationError ?eC_EquationError ?tC_EquationError ?hC_EquationError ?su_EquationError ?hB_EquationError ?hs_EquationError ?cl_EquationError ?cc_EquationError ?mo_EquationError ?xm_EquationError ?ki_EquationError_BadTableText ?x_BadSigns ?sa_BadSigns ?ga_BadSigns ?gg_BadSigns ?no_BadSigns ?i_BadSigns ?kC_BadSigns ?eC_BadSigns ?tC_BadSigns ?hC_BadSigns ?su_BadSigns ?hB_BadSigns ?hs_BadSigns ?cl_BadSigns ?cc_BadSigns ?mo_BadSigns ?xm_BadSigns ?ki_BadSigns_BadTableText ?x_BadTable ?sa_BadTable ?ga_BadTable ?gg_BadTable ?no_BadTable ?i_BadTable ?kC_BadTable ?eC_BadTable ?tC_BadTable ?hC_BadTable ?su_BadTable ?hB_BadTable ?hs_BadTable ?cl_BadTable ?cc_BadTable ?mo_BadTable ?xm_BadTable ?ki_BadTable_BadTableText ?x_BadTableText ?sa_BadTableText ?ga_BadTableText ?gg_BadTableText ?no_BadTableText ?i_BadTableText ?kC_BadTableText ?eC_BadTableText ?tC_BadTableText ?hC_BadTableText ?su_BadTableText ?hB_BadTableText ?hs_BadTableText ?cl_BadTableText ?cc_BadTableText ?mo_BadTableText ?xm_BadTableText ?ki_BadTableText_BadTableText ?kn_BadTableText ?tf ?opq ?noS ?l0 ?c0 ?lc0 ?lcc ?v2 ?hfile ?gsp ?tkn ?n_is_integer ?l_is_integer ?d_is_integer ?k_is_integer ?n_is_between ?l_is_between ?d_is_between ?k_is_between ?n_are_between ?l_are_between ?d_are_between ?k_are_between ?n_is_name ?l_is_name ?d_is_name ?k_is_name ?n_power ?l_power ?d_power ?k_power ?n_is_sign ?l_is_sign ?d_is_sign ?k_is_sign ?n_is_signs ?l_is_signs ?d_is_signs ?k_is_signs ?n_check_signs ?l_check_signs ?d_check_signs ?k_check_signs ?n_is_size ?l_is_size ?d_is_size ?k_is_size ?n_is_table_of ?l_is_table_of ?d_is_table_of ?k_is_table_of ?n_check_its_table ?l_check_its_table ?d_check_its_table ?k_check_its_table ?n_check_table ?l_check_table ?d_check_table ?k_check_table ?n_table_lines ?l_table_lines ?d_table_lines ?k_table_lines ?n_table_text ?l_table_text ?d_table_text ?k_table_text ?n_thing_in ?l_thing_in ?d_thing_in ?k_thing_in ?n_row_in ?l_row_in ?d_row_in ?k_row_in ?n_things_in ?l_things_in ?d_things_in ?k_things_in ?n_read_table ?l_read_table ?d_read_table ?k_read_table ?n__law_pot ?l__law_pot ?d__law_pot ?k__law_pot ?n__law_take ?l__law_take ?d__law_take ?k__law_take ?n__law_of ?l__law_of ?d__law_of ?k__law_of ?n__law_cells ?l__law_cells ?d__law_cells ?k__law_cells ?n__law_signs ?l__law_signs ?d__law_signs ?k__law_signs ?n__law_rows ?l__law_rows ?d__law_rows ?k__law_rows ?n__law_known_row ?l__law_known_row ?d__law_known_row ?k__law_known_row ?n__law_table ?l__law_table ?d__law_table ?k__law_table ?n__law_line ?l__law_line ?d__law_line ?k__law_line ?n__law_is_read ?l__law_is_read ?d__law_is_read ?k__law_is_read ?lk__law_is_read ?pp__law_is_read ?hd__law_is_read ?nt__law_is_read ?ht__law_is_read ?n__law_right ?l__law_right ?d__law_right ?k__law_right ?lk__law_right ?pp__law_right ?hd__law_right ?nt__law_right ?ht__law_right ?n_law ?l_law ?d_law ?k_law ?n__law_heard ?l__law_heard ?d__law_heard ?k__law_heard ?tabs ?ne__law_is_read__law_right
    (case b_abs => k_is)
    (case b_all => k_is)
    (case b_bool => k_is)
    (case b_enumerate => k_is)
    (case b_int => k_is)
    (case b_isinstance => k_is)
    (case b_len => k_is)
    (case b_list => k_is)
    (case b_max => k_is)
    (case b_min => k_is)
    (case b_range => k_is)
    (case b_repr => k_is)
    (case b_set => k_is)
    (case b_sorted => k_is)
    (case b_str => k_is)
    (case b_sum => k_is)
    (case b_tuple => k_is)
    (case b_zip => k_is)
    (case c_BLANK => k_is)
    (case c_FEED => k_is)
    (case c_FIGURES => k_is)
    (case c_LETTERS => k_is)
    (case c_MOST_NAMES => k_is)
    (case c_MOST_PLACES => k_is)
    (case c_MOST_SIGNS => k_is)
    (case c_MOST_THINGS => k_is)
    (case c_THINGS => k_is)
    (case c_VARIABLES => k_is)
    (case l_VARIABLES => k_is)
    (case a_EquationError => k_is)
    (case a_BadSigns => k_is)
    (case a_BadTable => k_is)
    (case a_BadTableText => k_is)
    (case x_EquationError => k_is)
    (case sa_EquationError => k_is)
    (case ga_EquationError => k_is)
    (case gg_EquationError => k_is)
    (case no_EquationError => k_is)
    (case i_EquationError => k_is)
    (case kC_EquationError => k_is)
    (case eC_EquationError => k_is)
    (case tC_EquationError => k_is)
    (case hC_EquationError => k_is)
    (case su_EquationError => kernel_rfl)
    (case hB_EquationError => k_is)
    (case hs_EquationError => k_is)
    (case cl_EquationError => kernel_rfl)
    (case cc_EquationError => k_is)
    (case mo_EquationError => k_is)
    (case xm_EquationError => kernel_rfl)
    (case ki_EquationError_BadTableText => kernel_rfl)
    (case x_BadSigns => k_is)
    (case sa_BadSigns => k_is)
    (case ga_BadSigns => k_is)
    (case gg_BadSigns => k_is)
    (case no_BadSigns => k_is)
    (case i_BadSigns => k_is)
    (case kC_BadSigns => k_is)
    (case eC_BadSigns => k_is)
    (case tC_BadSigns => k_is)
    (case hC_BadSigns => k_is)
    (case su_BadSigns => kernel_rfl)
    (case hB_BadSigns => k_is)
    (case hs_BadSigns => k_is)
    (case cl_BadSigns => kernel_rfl)
    (case cc_BadSigns => k_is)
    (case mo_BadSigns => k_is)
    (case xm_BadSigns => kernel_rfl)
    (case ki_BadSigns_BadTableText => kernel_rfl)
    (case x_BadTable => k_is)
    (case sa_BadTable => k_is)
    (case ga_BadTable => k_is)
    (case gg_BadTable => k_is)
    (case no_BadTable => k_is)
    (case i_BadTable => k_is)
    (case kC_BadTable => k_is)
    (case eC_BadTable => k_is)
    (case tC_BadTable => k_is)
    (case hC_BadTable => k_is)
    (case su_BadTable => kernel_rfl)
    (case hB_BadTable => k_is)
    (case hs_BadTable => k_is)
    (case cl_BadTable => kernel_rfl)
    (case cc_BadTable => k_is)
    (case mo_BadTable => k_is)
    (case xm_BadTable => kernel_rfl)
    (case ki_BadTable_BadTableText => kernel_rfl)
    (case x_BadTableText => k_is)
    (case sa_BadTableText => k_is)
    (case ga_BadTableText => k_is)
    (case gg_BadTableText => k_is)
    (case no_BadTableText => k_is)
    (case i_BadTableText => k_is)
    (case kC_BadTableText => k_is)
    (case eC_BadTableText => k_is)
    (case tC_BadTableText => k_is)
    (case hC_BadTableText => k_is)
    (case su_BadTableText => kernel_rfl)
    (case hB_BadTableText => k_is)
    (case hs_BadTableText => k_is)
    (case cl_BadTableText => kernel_rfl)
    (case cc_BadTableText => k_is)
    (case mo_BadTableText => k_is)
    (case xm_BadTableText => kernel_rfl)
    (case ki_BadTableText_BadTableText => kernel_rfl)
    (case kn_BadTableText => kernel_rfl)
    (case tf => k_is)
    (case opq => k_is)
    (case noS => k_is)
    (case l0 => k_is)
    (case c0 => k_is)
    (case lc0 => k_is)
    (case lcc => k_is)
    (case v2 => rfl)
    (case hfile => first | rfl | decide +kernel)
    (case gsp => k_is)
    (case tkn => k_is)
    (case n_is_integer => k_is)
    (case l_is_integer => k_is)
    (case d_is_integer => k_is)
    (case k_is_integer => k_is)
    (case n_is_between => k_is)
    (case l_is_between => k_is)
    (case d_is_between => k_is)
    (case k_is_between => k_is)
    (case n_are_between => k_is)
    (case l_are_between => k_is)
    (case d_are_between => k_is)
    (case k_are_between => k_is)
    (case n_is_name => k_is)
    (case l_is_name => k_is)
    (case d_is_name => k_is)
    (case k_is_name => k_is)
    (case n_power => k_is)
    (case l_power => k_is)
    (case d_power => k_is)
    (case k_power => k_is)
    (case n_is_sign => k_is)
    (case l_is_sign => k_is)
    (case d_is_sign => k_is)
    (case k_is_sign => k_is)
    (case n_is_signs => k_is)
    (case l_is_signs => k_is)
    (case d_is_signs => k_is)
    (case k_is_signs => k_is)
    (case n_check_signs => k_is)
    (case l_check_signs => k_is)
    (case d_check_signs => k_is)
    (case k_check_signs => k_is)
    (case n_is_size => k_is)
    (case l_is_size => k_is)
    (case d_is_size => k_is)
    (case k_is_size => k_is)
    (case n_is_table_of => k_is)
    (case l_is_table_of => k_is)
    (case d_is_table_of => k_is)
    (case k_is_table_of => k_is)
    (case n_check_its_table => k_is)
    (case l_check_its_table => k_is)
    (case d_check_its_table => k_is)
    (case k_check_its_table => k_is)
    (case n_check_table => k_is)
    (case l_check_table => k_is)
    (case d_check_table => k_is)
    (case k_check_table => k_is)
    (case n_table_lines => k_is)
    (case l_table_lines => k_is)
    (case d_table_lines => k_is)
    (case k_table_lines => k_is)
    (case n_table_text => k_is)
    (case l_table_text => k_is)
    (case d_table_text => k_is)
    (case k_table_text => k_is)
    (case n_thing_in => k_is)
    (case l_thing_in => k_is)
    (case d_thing_in => k_is)
    (case k_thing_in => k_is)
    (case n_row_in => k_is)
    (case l_row_in => k_is)
    (case d_row_in => k_is)
    (case k_row_in => k_is)
    (case n_things_in => k_is)
    (case l_things_in => k_is)
    (case d_things_in => k_is)
    (case k_things_in => k_is)
    (case n_read_table => k_is)
    (case l_read_table => k_is)
    (case d_read_table => k_is)
    (case k_read_table => k_is)
    (case n__law_pot => k_is)
    (case l__law_pot => k_is)
    (case d__law_pot => k_is)
    (case k__law_pot => k_is)
    (case n__law_take => k_is)
    (case l__law_take => k_is)
    (case d__law_take => k_is)
    (case k__law_take => k_is)
    (case n__law_of => k_is)
    (case l__law_of => k_is)
    (case d__law_of => k_is)
    (case k__law_of => k_is)
    (case n__law_cells => k_is)
    (case l__law_cells => k_is)
    (case d__law_cells => k_is)
    (case k__law_cells => k_is)
    (case n__law_signs => k_is)
    (case l__law_signs => k_is)
    (case d__law_signs => k_is)
    (case k__law_signs => k_is)
    (case n__law_rows => k_is)
    (case l__law_rows => k_is)
    (case d__law_rows => k_is)
    (case k__law_rows => k_is)
    (case n__law_known_row => k_is)
    (case l__law_known_row => k_is)
    (case d__law_known_row => k_is)
    (case k__law_known_row => k_is)
    (case n__law_table => k_is)
    (case l__law_table => k_is)
    (case d__law_table => k_is)
    (case k__law_table => k_is)
    (case n__law_line => k_is)
    (case l__law_line => k_is)
    (case d__law_line => k_is)
    (case k__law_line => k_is)
    (case n__law_is_read => k_is)
    (case l__law_is_read => k_is)
    (case d__law_is_read => k_is)
    (case k__law_is_read => k_is)
    (case lk__law_is_read => k_is)
    (case pp__law_is_read => rfl)
    (case hd__law_is_read => kernel_rfl)
    (case nt__law_is_read => kernel_rfl)
    (case ht__law_is_read => exact hT _ (by simp))
    (case n__law_right => k_is)
    (case l__law_right => k_is)
    (case d__law_right => k_is)
    (case k__law_right => k_is)
    (case lk__law_right => k_is)
    (case pp__law_right => rfl)
    (case hd__law_right => kernel_rfl)
    (case nt__law_right => kernel_rfl)
    (case ht__law_right => exact hT _ (by simp))
    (case n_law => k_is)
    (case l_law => k_is)
    (case d_law => k_is)
    (case k_law => k_is)
    (case n__law_heard => k_is)
    (case l__law_heard => k_is)
    (case d__law_heard => k_is)
    (case k__law_heard => k_is)
    (case tabs => kernel_rfl)
    (case ne__law_is_read__law_right => decide)
