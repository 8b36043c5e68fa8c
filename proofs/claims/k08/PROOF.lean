import PyProof.Rows.All
import Wide.All
import OpenK.AllK
import Wide.FinOn
import HandS.ForMost
import HandS.ForExc
import HandS.Deep
import HandS.Lambda
import HandS.TupAny
import HandS.TupMul
import HandS.Style
import HandS.Wide
import HandS.ExcCtx
import HandS.Defaults
import HandS.IsInst
import KE.SortData
import KE.DataMinMax
import KE.DataFind
import KE.DataCmp
import HandS.Zip
import HandS.HotCalls
import HandS.ExcIs
import KE.DataEq
import HandS.Conv
import PyProof.StrOps2
import HandS.Head0
import HandS.Head1
import HandS.Head2
import HandS.HeadEnd
import HandS.HeadHook1
import HandS.HeadHook2
import HandS.EndTab
import KE.KNestM
import PyProof.ExcBaseAll.ValueError
import HandS.TupSets
import HandS.StrMore
import HandS.TryOnly
import HandS.Keys
import HandS.FStr
import HandS.HeadHook4
import HandS.HeadWalk
import PySem.Challenge.RW_scaledpulls_k08_texts_of_webs
set_option Elab.async false
set_option linter.all false
set_option maxRecDepth 100000
/-! DLa: data (PyData) over the hand layer: what stands for which data, owned places, states, steps. -/
namespace DL
open PySem PySem.Spec PyProof.Rows L2
abbrev D := PyData
abbrev St := L2.St
/-- sets of addresses -/
abbrev AS := Addr → Prop
/-! ### what is read as which data; M: the places that no data touches -/
def KL (K : PySem.W.Frag) (a : Addr) (xs : List V) : Prop :=
  ∃ (o : Obj) (its : Array Value) (n : Nat), K.lookup a = some o ∧ o.cls = .type "list" ∧ o.dict = none ∧ o.data = .seq its n ∧ its.size ≤ sizeLine ∧ Vals xs its.toList
def KT (K : PySem.W.Frag) (a : Addr) (xs : List V) : Prop :=
  ∃ (o : Obj) (its : Array Value) (n : Nat), K.lookup a = some o ∧ o.cls = .type "tuple" ∧ o.data = .seq its n ∧ its.size ≤ sizeLine ∧ Vals xs its.toList
def LsM (K : PySem.W.Frag) (M : AS) (H : Hp) (a : Addr) (xs : List V) : Prop := (¬ M a ∧ Rd H a (.lst xs)) ∨ KL K a xs
def TuM (K : PySem.W.Frag) (M : AS) (H : Hp) (a : Addr) (xs : List V) : Prop := (¬ M a ∧ Rd H a (.tup xs)) ∨ KT K a xs
theorem LsM.sq {K : PySem.W.Frag} {M : AS} {H : Hp} {a : Addr} {xs : List V} (h : LsM K M H a xs) : SqL K H a xs := h.elim (fun z => .inl z.2) .inr
theorem TuM.sq {K : PySem.W.Frag} {M : AS} {H : Hp} {a : Addr} {xs : List V} (h : TuM K M H a xs) : SqT K H a xs := h.elim (fun z => .inl z.2) .inr
mutual
inductive Rp (K : PySem.W.Frag) (M : AS) (H : Hp) : V → D → Prop
  | non : Rp K M H .non .none
  | bl (b : Bool) : Rp K M H (.bl b) (.bool b)
  | int (i : Int) : Rp K M H (.int i) (.int i)
  | str (x : Str) : Rp K M H (.str x) (.str x)
  | lst {a : Addr} {xs : List V} {ds : List D} : LsM K M H a xs → RpA K M H xs ds → Rp K M H (.ref a) (.list ds)
  | tup {a : Addr} {xs : List V} {ds : List D} : TuM K M H a xs → RpA K M H xs ds → Rp K M H (.ref a) (.tuple ds)
inductive RpA (K : PySem.W.Frag) (M : AS) (H : Hp) : List V → List D → Prop
  | nil : RpA K M H [] []
  | cons {v : V} {vs : List V} {d : D} {ds : List D} : Rp K M H v d → RpA K M H vs ds → RpA K M H (v :: vs) (d :: ds)
end
/-- what of an object stays: itself, or (a table of code objects) more of it -/
def OKeep (o : HO) (x : Option HO) : Prop := x = some o ∨ ∃ ps more, o = .tbl ps ∧ x = some (.tbl (ps ++ more))
theorem OKeep.some {o : HO} {x : Option HO} (h : OKeep o x) : x ≠ none := by
  rcases h with h | ⟨_, _, _, h⟩ <;> rw [h] <;> simp
theorem OKeep.eq {o : HO} {x : Option HO} (h : OKeep o x) (n : ∀ ps, o ≠ .tbl ps) : x = Option.some o := by
  rcases h with h | ⟨_, _, e, _⟩
  · exact h
  · exact absurd e (n _)
theorem OKeep.trans {o : HO} {x y : Option HO} (h : OKeep o x) (g : ∀ u, x = Option.some u → OKeep u y) : OKeep o y := by
  rcases h with h | ⟨ps, m1, e, h⟩
  · exact g o h
  · rcases g _ h with g | ⟨qs, m2, e2, g⟩
    · exact .inr ⟨ps, m1, e, g⟩
    · cases e2
      exact .inr ⟨ps, m1 ++ m2, e, by rw [g, Array.append_assoc]⟩
/-- a step of the machine: what is not writable stays -/
def Kp (W : AS) (H H' : Hp) : Prop := ∀ a o, ¬ W a → H a = some o → OKeep o (H' a)
theorem Kp.refl (W : AS) (H : Hp) : Kp W H H := fun _ _ _ h => .inl h
theorem Kp.trans {W : AS} {H1 H2 H3 : Hp} (a : Kp W H1 H2) (b : Kp W H2 H3) : Kp W H1 H3 := fun x o n h => (a x o n h).trans fun u e => b x u n e
theorem Kp.imp {W W' : AS} {H H' : Hp} (k : Kp W H H') (s : ∀ a, W a → W' a) : Kp W' H H' := fun a o n h => k a o (fun z => n (s a z)) h
/-- .. and what is writable then was so ahead, or is new -/
structure Step (W : AS) (H : Hp) (W' : AS) (H' : Hp) : Prop where
  kp : Kp W H H'
  nw : ∀ a, W' a → W a ∨ H a = none
theorem Step.refl (W : AS) (H : Hp) : Step W H W H := ⟨Kp.refl W H, fun _ h => .inl h⟩
theorem Step.trans {W1 W2 W3 : AS} {H1 H2 H3 : Hp} (a : Step W1 H1 W2 H2) (b : Step W2 H2 W3 H3) : Step W1 H1 W3 H3 where
  kp := fun x o n h => (a.kp x o n h).trans fun u e => b.kp x u (fun q => by
    rcases a.nw x q with z | z
    · exact n z
    · rw [h] at z; cases z) e
  nw := fun x h => by
    rcases b.nw x h with z | z
    · exact a.nw x z
    · by_cases n : W1 x
      · exact .inl n
      · refine .inr ?_
        cases e : H1 x with
        | none => rfl
        | some o => exact absurd z (a.kp x o n e).some
section
variable {K : PySem.W.Frag} {M M' : AS} {H H' : Hp}
theorem Rd.kp {W : AS} {a : Addr} {u : HO} (k : Kp W H H') (n : ¬ W a) (nt : ∀ ps, u ≠ .tbl ps) (h : Rd H a u) : Rd H' a u := by
  rcases h with h | ⟨o, h⟩
  · exact .inl ((k a _ n h).eq nt)
  · exact .inr ⟨o, (k a _ n h).eq fun ps => by intro z; cases z⟩
theorem LsM.keep {a : Addr} {xs : List V} (h : LsM K M H a xs) (k : ∀ b o, ¬ M b → H b = some o → OKeep o (H' b)) (nw : ∀ b, M' b → M b ∨ H b = none) : LsM K M' H' a xs := by
  rcases h with ⟨n, h⟩ | h
  · refine .inl ⟨fun z => ?_, Rd.kp (W := M) k n (fun _ z => by cases z) h⟩
    rcases nw a z with q | q
    · exact n q
    · rcases h with h | ⟨o, h⟩ <;> rw [h] at q <;> cases q
  · exact .inr h
theorem TuM.keep {a : Addr} {xs : List V} (h : TuM K M H a xs) (k : ∀ b o, ¬ M b → H b = some o → OKeep o (H' b)) (nw : ∀ b, M' b → M b ∨ H b = none) : TuM K M' H' a xs := by
  rcases h with ⟨n, h⟩ | h
  · refine .inl ⟨fun z => ?_, Rd.kp (W := M) k n (fun _ z => by cases z) h⟩
    rcases nw a z with q | q
    · exact n q
    · rcases h with h | ⟨o, h⟩ <;> rw [h] at q <;> cases q
  · exact .inr h
mutual
theorem Rp.dp : ∀ {d : D} {v : V}, Rp K M H v d → Dp K H v d
  | _, _, .non => .non
  | _, _, .bl b => .bl b
  | _, _, .int i => .int i
  | _, _, .str x => .str x
  | _, _, .lst h r => .lst h.sq (RpA.dp r)
  | _, _, .tup h r => .tup h.sq (RpA.dp r)
theorem RpA.dp : ∀ {ds : List D} {vs : List V}, RpA K M H vs ds → DpAll K H vs ds
  | _, _, .nil => .nil
  | _, _, .cons h r => .cons (Rp.dp h) (RpA.dp r)
end
mutual
theorem Rp.keep (k : ∀ b o, ¬ M b → H b = some o → OKeep o (H' b)) (nw : ∀ b, M' b → M b ∨ H b = none) : ∀ {d : D} {v : V}, Rp K M H v d → Rp K M' H' v d
  | _, _, .non => .non
  | _, _, .bl b => .bl b
  | _, _, .int i => .int i
  | _, _, .str x => .str x
  | _, _, .lst h r => .lst (h.keep k nw) (RpA.keep k nw r)
  | _, _, .tup h r => .tup (h.keep k nw) (RpA.keep k nw r)
theorem RpA.keep (k : ∀ b o, ¬ M b → H b = some o → OKeep o (H' b)) (nw : ∀ b, M' b → M b ∨ H b = none) : ∀ {ds : List D} {vs : List V}, RpA K M H vs ds → RpA K M' H' vs ds
  | _, _, .nil => .nil
  | _, _, .cons h r => .cons (Rp.keep k nw h) (RpA.keep k nw r)
end
theorem RpA.length : ∀ {ds : List D} {vs : List V}, RpA K M H vs ds → vs.length = ds.length
  | _, _, .nil => rfl
  | _, _, .cons _ r => by rw [List.length_cons, List.length_cons, RpA.length r]
theorem RpA.get : ∀ {ds : List D} {vs : List V} {i : Nat} {d : D}, RpA K M H vs ds → ds[i]? = some d → ∃ v, vs[i]? = some v ∧ Rp K M H v d
  | _, _, _, _, .nil, e => by simp at e
  | _, _, 0, _, .cons h _, e => by simp at e; subst e; exact ⟨_, rfl, h⟩
  | _, _, i + 1, d, .cons _ r, e => by
    obtain ⟨v, h1, h2⟩ := RpA.get (i := i) (d := d) r (by simpa using e)
    exact ⟨v, by simpa using h1, h2⟩
theorem RpA.getV : ∀ {ds : List D} {vs : List V} {i : Nat} {v : V}, RpA K M H vs ds → vs[i]? = some v → ∃ d, ds[i]? = some d ∧ Rp K M H v d
  | _, _, _, _, .nil, e => by simp at e
  | _, _, 0, _, .cons h _, e => by simp at e; subst e; exact ⟨_, rfl, h⟩
  | _, _, i + 1, v, .cons _ r, e => by
    obtain ⟨d, h1, h2⟩ := RpA.getV (i := i) (v := v) r (by simpa using e)
    exact ⟨d, by simpa using h1, h2⟩
theorem RpA.append : ∀ {ds es : List D} {vs us : List V}, RpA K M H vs ds → RpA K M H us es → RpA K M H (vs ++ us) (ds ++ es)
  | _, _, _, _, .nil, s => s
  | _, _, _, _, .cons h r, s => .cons h (RpA.append r s)
theorem RpA.take : ∀ {ds : List D} {vs : List V} (n : Nat), RpA K M H vs ds → RpA K M H (vs.take n) (ds.take n)
  | _, _, 0, _ => .nil
  | _, _, _ + 1, .nil => .nil
  | _, _, n + 1, .cons h r => .cons h (RpA.take n r)
theorem RpA.drop : ∀ {ds : List D} {vs : List V} (n : Nat), RpA K M H vs ds → RpA K M H (vs.drop n) (ds.drop n)
  | _, _, 0, r => r
  | _, _, _ + 1, .nil => .nil
  | _, _, n + 1, .cons _ r => RpA.drop n r
theorem RpA.reverse : ∀ {ds : List D} {vs : List V}, RpA K M H vs ds → RpA K M H vs.reverse ds.reverse
  | _, _, .nil => .nil
  | _, _, .cons h r => by
    rw [List.reverse_cons, List.reverse_cons]
    exact (RpA.reverse r).append (.cons h .nil)
theorem RpA.replicate {d : D} {v : V} (h : Rp K M H v d) : ∀ n, RpA K M H (List.replicate n v) (List.replicate n d)
  | 0 => .nil
  | n + 1 => .cons h (RpA.replicate h n)
theorem RpA.flatten_rep {ds : List D} {vs : List V} (h : RpA K M H vs ds) : ∀ n, RpA K M H (List.replicate n vs).flatten (List.replicate n ds).flatten
  | 0 => .nil
  | n + 1 => h.append (RpA.flatten_rep h n)
theorem RpA.set : ∀ {ds : List D} {vs : List V} (i : Nat) {d : D} {v : V}, RpA K M H vs ds → Rp K M H v d → RpA K M H (vs.set i v) (ds.set i d)
  | _, _, _, _, _, .nil, _ => .nil
  | _, _, 0, _, _, .cons _ r, g => .cons g r
  | _, _, i + 1, _, _, .cons h r, g => .cons h (RpA.set i r g)
theorem RpA.ints : ∀ {ns : List Int} {vs : List V}, RpA K M H vs (ns.map PyData.int) → vs = ns.map V.int
  | [], _, .nil => rfl
  | _ :: _, _, .cons h r => by cases h; rw [List.map_cons, RpA.ints r]
theorem RpA.strs : ∀ {ns : List Str} {vs : List V}, RpA K M H vs (ns.map PyData.str) → vs = ns.map V.str
  | [], _, .nil => rfl
  | _ :: _, _, .cons h r => by cases h; rw [List.map_cons, RpA.strs r]
theorem RpA.bools : ∀ {ns : List Bool} {vs : List V}, RpA K M H vs (ns.map PyData.bool) → vs = ns.map V.bl
  | [], _, .nil => rfl
  | _ :: _, _, .cons h r => by cases h; rw [List.map_cons, RpA.bools r]
end
/-! ### owned things, contents of slots, environments -/
inductive MO where
  | lst (ds : List D)
  | dK (kvs : List (Key × D))
  | dT (kvs : List (List Key × D))
  | ins (C : Addr) (fs : List (Str × D))
def MOk (K : PySem.W.Frag) (M : AS) (H : Hp) (a : Addr) : MO → Prop
  | .lst ds => ∃ xs, H a = some (.lst xs) ∧ RpA K M H xs ds
  | .dK kvs => ∃ xs : List (Key × V), H a = some (.dK xs) ∧ xs.map (·.1) = kvs.map (·.1) ∧ RpA K M H (xs.map (·.2)) (kvs.map (·.2))
  | .dT kvs => ∃ xs : List (List Key × V), H a = some (.dT xs) ∧ xs.map (·.1) = kvs.map (·.1) ∧ RpA K M H (xs.map (·.2)) (kvs.map (·.2))
  | .ins C fs => ∃ (dx : Addr) (xs : List (Str × V)), H a = some (.ins C dx xs) ∧ xs.map (·.1) = fs.map (·.1) ∧ RpA K M H (xs.map (·.2)) (fs.map (·.2))
section
variable {K : PySem.W.Frag} {M M' : AS} {H H' : Hp}
theorem MOk.there {a : Addr} {m : MO} (h : MOk K M H a m) : ∃ o, H a = some o ∧ ∀ ps, o ≠ .tbl ps := by
  cases m with
  | lst ds => obtain ⟨xs, h, _⟩ := h; exact ⟨_, h, fun _ z => by cases z⟩
  | dK kvs => obtain ⟨xs, h, _⟩ := h; exact ⟨_, h, fun _ z => by cases z⟩
  | dT kvs => obtain ⟨xs, h, _⟩ := h; exact ⟨_, h, fun _ z => by cases z⟩
  | ins C fs => obtain ⟨dx, xs, h, _⟩ := h; exact ⟨_, h, fun _ z => by cases z⟩
theorem MOk.keep {a : Addr} {m : MO} (h : MOk K M H a m) (k : ∀ b o, ¬ M b → H b = some o → OKeep o (H' b)) (nw : ∀ b, M' b → M b ∨ H b = none) (e : H' a = H a) : MOk K M' H' a m := by
  cases m with
  | lst ds => obtain ⟨xs, h, r⟩ := h; exact ⟨xs, e.trans h, r.keep k nw⟩
  | dK kvs => obtain ⟨xs, h, q, r⟩ := h; exact ⟨xs, e.trans h, q, r.keep k nw⟩
  | dT kvs => obtain ⟨xs, h, q, r⟩ := h; exact ⟨xs, e.trans h, q, r.keep k nw⟩
  | ins C fs => obtain ⟨dx, xs, h, q, r⟩ := h; exact ⟨dx, xs, e.trans h, q, r.keep k nw⟩
end
/-- a slot's content: data, an owned thing, a value as it is -/
inductive C where
  | dat (d : D)
  | own (a : Addr) (m : MO)
  | raw (v : V)
abbrev Env := List (Option C)
def CR (K : PySem.W.Frag) (M : AS) (H : Hp) (v : V) : C → Prop
  | .dat d => Rp K M H v d
  | .own a m => v = .ref a ∧ M a ∧ MOk K M H a m
  | .raw x => v = x
/-- the places that slots own -/
def Mo (ρ : Env) : AS := fun a => ∃ (i : Nat) (m : MO), ρ[i]? = some (some (C.own a m))
/-- an object that data may be: no table, no code object -/
def Solid (o : HO) : Prop := (∀ φ, o ≠ .ext φ) ∧ ∀ ps, o ≠ .tbl ps
theorem solid_lst {xs : List V} : Solid (.lst xs) := ⟨(fun _ z => by cases z), (fun _ z => by cases z)⟩
theorem MOk.solid {K : PySem.W.Frag} {M : AS} {H : Hp} {a : Addr} {m : MO} (h : MOk K M H a m) : ∃ o, H a = some o ∧ Solid o := by
  cases m with
  | lst ds => obtain ⟨xs, h, _⟩ := h; exact ⟨_, h, (fun _ z => by cases z), (fun _ z => by cases z)⟩
  | dK kvs => obtain ⟨xs, h, _⟩ := h; exact ⟨_, h, (fun _ z => by cases z), (fun _ z => by cases z)⟩
  | dT kvs => obtain ⟨xs, h, _⟩ := h; exact ⟨_, h, (fun _ z => by cases z), (fun _ z => by cases z)⟩
  | ins C fs => obtain ⟨dx, xs, h, _⟩ := h; exact ⟨_, h, (fun _ z => by cases z), (fun _ z => by cases z)⟩
/-- the tables of code objects stay, where what changes is solid -/
theorem tabs_keep {T : List (Addr × Str)} {H H' : Hp} (t : LamX.Tabs T H) (k : ∀ a o, H a = some o → ¬ Solid o → H' a = some o) : LamX.Tabs T H' := fun p hp => by
  obtain ⟨ps, a1, a2, a3⟩ := t p hp
  refine ⟨ps, k _ _ a1 (fun z => z.2 ps rfl), a2, fun pos cv w => ?_⟩
  obtain ⟨c, e1, e2⟩ := a3 pos cv w
  exact ⟨c, e1, k _ _ e2 fun z => z.1 _ rfl⟩
/-- the slots σ and the heap H bear the environment ρ; M: what data does not touch -/
structure StS (K : PySem.W.Frag) (T : List (Addr × Str)) (M : AS) (ρ : Env) (σ : St) (H : Hp) : Prop where
  len : ρ.length = σ.length
  own : ∀ a, Mo ρ a → M a
  lv : ∀ a, M a → ∃ o, H a = some o ∧ Solid o
  at_ : ∀ (i : Nat) (c : C), ρ[i]? = some (some c) → ∃ v, σ[i]? = some (some v) ∧ CR K M H v c
  inj : ∀ (i j : Nat) (m n : MO) (a : Addr), ρ[i]? = some (some (C.own a m)) → ρ[j]? = some (some (C.own a n)) → i = j
  tab : LamX.Tabs T H
section
variable {K : PySem.W.Frag} {T : List (Addr × Str)} {M M' : AS} {H H' : Hp} {ρ ρ' : Env} {σ : St}
theorem CR.keep {v : V} {c : C} (h : CR K M H v c) (k : ∀ b o, ¬ M b → H b = some o → OKeep o (H' b)) (nw : ∀ b, M' b → M b ∨ H b = none) (e : ∀ (a : Addr) (m : MO), c = C.own a m → M' a ∧ H' a = H a) : CR K M' H' v c := by
  cases c with
  | dat d => exact Rp.keep k nw h
  | own a m =>
    obtain ⟨hv, _, h⟩ := h
    obtain ⟨h1, h2⟩ := e a m rfl
    exact ⟨hv, h1, h.keep k nw h2⟩
  | raw x => exact h
theorem StS.liv (h : StS K T M ρ σ H) : ∀ a, M a → H a ≠ none := fun a z => by
  obtain ⟨o, e, _⟩ := h.lv a z
  rw [e]; simp
/-- fewer places are avoided -/
theorem StS.less (h : StS K T M ρ σ H) (o : ∀ a, Mo ρ a → M' a) (s : ∀ a, M' a → M a) : StS K T M' ρ σ H :=
  ⟨h.len, o, fun a q => h.lv a (s a q), fun i c e => by
    obtain ⟨v, e1, r⟩ := h.at_ i c e
    refine ⟨v, e1, r.keep (fun _ _ _ q => .inl q) (fun b q => .inl (s b q)) fun a m z => ⟨o a ⟨i, m, by rw [e, z]⟩, rfl⟩⟩, h.inj, h.tab⟩
theorem codeO_nt {c : Addr} {q : Str} (ps : Array Value) : LamX.CodeO c q ≠ .tbl ps := fun z => by
  unfold LamX.CodeO at z
  cases z
end
end DL
set_option Elab.async false
set_option linter.all false
set_option maxRecDepth 100000
/-! DLb: results, judgements over data. -/
namespace DL
open PySem PySem.Spec PyProof.Rows L2
/-- the context of a judgement: the code's, the tables, what may be written at the entry (W0), what is avoided (M0), the heap at the entry, what is wanted of an exception -/
structure Ct where
  X : Cx
  T : List (Addr × Str)
  W0 : AS
  M0 : AS
  H0 : Hp
  ε : Value → Env → Prop
/-- slots as they were, owned things owned still -/
structure Sim (ρ ρ' : Env) : Prop where
  len : ρ'.length = ρ.length
  keep : ∀ (i : Nat) (c : Option C), ρ[i]? = some c → (∀ a m, c ≠ some (C.own a m)) → ρ'[i]? = some c
  own : ∀ (i : Nat) (a : Addr) (m : MO), ρ[i]? = some (some (C.own a m)) → ∃ m', ρ'[i]? = some (some (C.own a m'))
theorem Sim.refl (ρ : Env) : Sim ρ ρ := ⟨rfl, fun _ _ h _ => h, fun _ _ m h => ⟨m, h⟩⟩
theorem Sim.trans {a b c : Env} (x : Sim a b) (y : Sim b c) : Sim a c :=
  ⟨y.len.trans x.len, fun i v h n => y.keep i v (x.keep i v h n) n, fun i a m h => let ⟨m', h'⟩ := x.own i a m h; y.own i a m' h'⟩
theorem Sim.mo {ρ ρ' : Env} (x : Sim ρ ρ') : Mo ρ' = Mo ρ := by
  funext a
  apply propext
  constructor
  · rintro ⟨i, m, h⟩
    cases q : ρ[i]? with
    | none =>
      have h1 := List.getElem?_eq_none_iff.mp q
      have h2 := (List.getElem?_eq_some_iff.mp h).1
      rw [x.len] at h2
      omega
    | some c =>
      by_cases n : ∃ a' m', c = some (C.own a' m')
      · obtain ⟨a', m', rfl⟩ := n
        obtain ⟨m2, h2⟩ := x.own i a' m' q
        rw [h] at h2
        cases h2
        exact ⟨i, m', q⟩
      · have := x.keep i c q fun a' m' z => n ⟨a', m', z⟩
        rw [h] at this
        cases this
        exact absurd ⟨a, m, rfl⟩ n
  · rintro ⟨i, m, h⟩
    obtain ⟨m', h'⟩ := x.own i a m h
    exact ⟨i, m', h'⟩
/-- a result: data, a value as it is, what a slot owns, a new owned thing -/
inductive Rv where
  | dat (d : D)
  | raw (v : V)
  | slot (i : Nat)
  | frs (m : MO)
def MO.toD : MO → Option D
  | .lst ds => some (.list ds)
  | _ => none
/-- the data that a result stands for -/
def vw (ρ : Env) : Rv → Option D
  | .dat d => some d
  | .raw _ => none
  | .slot i => match ρ[i]? with
    | some (some (C.own _ m)) => m.toD
    | _ => none
  | .frs m => m.toD
/-- the value v is the result r; N: what was avoided ahead -/
def Pd (K : PySem.W.Frag) (N M : AS) (ρ : Env) (σ : St) (H : Hp) (v : V) : Rv → Prop
  | .dat d => Rp K M H v d
  | .raw x => v = x
  | .slot i => (∃ a m, ρ[i]? = some (some (C.own a m))) ∧ σ[i]? = some (some v)
  | .frs m => ∃ a, v = V.ref a ∧ M a ∧ ¬ N a ∧ MOk K M H a m
structure Pre (Z : Ct) (M : AS) (ρ : Env) (σ : St) (H : Hp) : Prop where
  m0 : ∀ a, Z.M0 a → M a
  st : StS Z.X.K Z.T M ρ σ H
  base : Step Z.W0 Z.H0 (Mo ρ) H
  w0 : ∀ a, Z.W0 a → Z.M0 a
  mu : ∀ a, M a → Z.M0 a ∨ Z.H0 a = none
theorem Pre.more {Z : Ct} {M M' : AS} {ρ : Env} {σ : St} {H : Hp} (q : Pre Z M ρ σ H) (n : ∀ a, M' a → M a ∨ H a = none) : ∀ a, M' a → Z.M0 a ∨ Z.H0 a = none := fun a z => by
  rcases n a z with w | w
  · exact q.mu a w
  · by_cases x : Z.W0 a
    · exact .inl (q.w0 a x)
    · refine .inr ?_
      cases e : Z.H0 a with
      | none => rfl
      | some o => exact absurd w (q.base.kp a o x e).some
/-- behind an expression -/
structure PostO (Z : Ct) (M : AS) (ρ : Env) (σ : St) (H : Hp) (v : V) (H' : Hp) (r : Rv) (ρ' : Env) (M' : AS) : Prop where
  sim : Sim ρ ρ'
  kp : Kp (Mo ρ) H H'
  more : ∀ a, M a → M' a
  new : ∀ a, M' a → M a ∨ H a = none
  st : StS Z.X.K Z.T M' ρ' σ H'
  pd : Pd Z.X.K M M' ρ' σ H' v r
def Post (Z : Ct) (M : AS) (ρ : Env) (σ : St) (H : Hp) (Φ : Rv → Env → Prop) : VK := fun v H' => ∃ r ρ' M', Φ r ρ' ∧ PostO Z M ρ σ H v H' r ρ' M'
theorem PostO.pre {Z : Ct} {M M' : AS} {ρ ρ' : Env} {σ : St} {H H' : Hp} {v : V} {r : Rv} (p : PostO Z M ρ σ H v H' r ρ' M') (q : Pre Z M ρ σ H) : Pre Z M' ρ' σ H' :=
  ⟨fun a h => p.more a (q.m0 a h), p.st, by rw [p.sim.mo]; exact q.base.trans ⟨p.kp, fun _ h => .inl h⟩, q.w0, q.more p.new⟩
theorem Post.imp {Z : Ct} {M : AS} {ρ : Env} {σ : St} {H : Hp} {Φ Ψ : Rv → Env → Prop} (h : ∀ r ρ', Φ r ρ' → Ψ r ρ') {v : V} {H' : Hp} (p : Post Z M ρ σ H Φ v H') : Post Z M ρ σ H Ψ v H' := by
  obtain ⟨r, ρ', M', a, b⟩ := p
  exact ⟨r, ρ', M', h r ρ' a, b⟩
section
variable {K : PySem.W.Frag} {T : List (Addr × Str)} {N M M' : AS} {H H' : Hp} {ρ ρ' : Env} {σ : St} {v : V} {r : Rv}
/-- what waits stays -/
theorem Pd.keep (h : Pd K N M ρ σ H v r) (S : StS K T M ρ σ H) (hN : ∀ a, Mo ρ a → N a) (sim : Sim ρ ρ') (k : Kp (Mo ρ) H H') (nw : ∀ a, M' a → M a ∨ H a = none) (mo : ∀ a, M a → M' a) : Pd K N M' ρ' σ H' v r := by
  have kk : ∀ b o, ¬ M b → H b = some o → OKeep o (H' b) := fun b o n e => k b o (fun z => n (S.own b z)) e
  cases r with
  | dat d => exact Rp.keep kk nw h
  | raw x => exact h
  | slot i =>
    obtain ⟨⟨a, m, e⟩, q⟩ := h
    exact ⟨⟨a, sim.own i a m e⟩, q⟩
  | frs m =>
    obtain ⟨a, e, ma, na, ok⟩ := h
    refine ⟨a, e, mo a ma, na, ok.keep kk nw ?_⟩
    obtain ⟨o, e1, nt⟩ := ok.there
    rw [(k a o (fun z => na (hN a z)) e1).eq nt, e1]
theorem Rp.less {d : D} (h : Rp K M H v d) (s : ∀ a, M' a → M a) : Rp K M' H v d := Rp.keep (fun _ _ _ q => .inl q) (fun b q => .inl (s b q)) h
theorem RpA.less {ds : List D} {vs : List V} (h : RpA K M H vs ds) (s : ∀ a, M' a → M a) : RpA K M' H vs ds := RpA.keep (fun _ _ _ q => .inl q) (fun b q => .inl (s b q)) h
/-- a result read as a list, a tuple: its place and items -/
inductive SeqR (K : PySem.W.Frag) (M : AS) (H : Hp) : V → D → Prop
  | lst {a : Addr} {xs : List V} {ds : List D} : SqL K H a xs → RpA K M H xs ds → SeqR K M H (.ref a) (.list ds)
  | tup {a : Addr} {xs : List V} {ds : List D} : SqT K H a xs → RpA K M H xs ds → SeqR K M H (.ref a) (.tuple ds)
  | oth {v : V} {d : D} : Rp K M H v d → SeqR K M H v d
theorem SeqR.dp {d : D} (h : SeqR K M H v d) : Dp K H v d := by
  cases h with
  | lst q r => exact .lst q r.dp
  | tup q r => exact .tup q r.dp
  | oth r => exact r.dp
theorem SeqR.list {ds : List D} (h : SeqR K M H v (.list ds)) : ∃ a xs, v = .ref a ∧ SqL K H a xs ∧ RpA K M H xs ds := by
  cases h with
  | lst q r => exact ⟨_, _, rfl, q, r⟩
  | oth r => cases r with | lst q r => exact ⟨_, _, rfl, q.sq, r⟩
theorem SeqR.tuple {ds : List D} (h : SeqR K M H v (.tuple ds)) : ∃ a xs, v = .ref a ∧ SqT K H a xs ∧ RpA K M H xs ds := by
  cases h with
  | tup q r => exact ⟨_, _, rfl, q, r⟩
  | oth r => cases r with | tup q r => exact ⟨_, _, rfl, q.sq, r⟩
theorem SeqR.int {i : Int} (h : SeqR K M H v (.int i)) : v = .int i := by cases h with | oth r => cases r; rfl
theorem SeqR.str {x : Str} (h : SeqR K M H v (.str x)) : v = .str x := by cases h with | oth r => cases r; rfl
theorem SeqR.bool {b : Bool} (h : SeqR K M H v (.bool b)) : v = .bl b := by cases h with | oth r => cases r; rfl
theorem SeqR.none (h : SeqR K M H v .none) : v = .non := by cases h with | oth r => cases r; rfl
theorem Pd.view {d : D} (h : Pd K N M ρ σ H v r) (S : StS K T M ρ σ H) (e : vw ρ r = some d) : SeqR K M H v d := by
  cases r with
  | dat d' => cases e; exact .oth h
  | raw x => cases e
  | slot i =>
    obtain ⟨⟨a, m, q⟩, s⟩ := h
    unfold vw at e
    simp only [q] at e
    obtain ⟨v', e1, e2, _, ok⟩ := S.at_ i _ q
    rw [s] at e1
    cases e1
    subst e2
    cases m with
    | lst ds =>
      cases e
      obtain ⟨xs, h1, h2⟩ := ok
      exact .lst (SqL.of h1) h2
    | dK _ => cases e
    | dT _ => cases e
    | ins _ _ => cases e
  | frs m =>
    obtain ⟨a, e2, _, _, ok⟩ := h
    subst e2
    cases m with
    | lst ds =>
      cases e
      obtain ⟨xs, h1, h2⟩ := ok
      exact .lst (SqL.of h1) h2
    | dK _ => cases e
    | dT _ => cases e
    | ins _ _ => cases e
/-- what is no slot's, as data, with what was avoided ahead -/
def vwd : Rv → Option D
  | .dat d => some d
  | .frs m => m.toD
  | _ => none
theorem vwd_vw {ρ : Env} {r : Rv} {d : D} (h : vwd r = some d) : vw ρ r = some d := by
  cases r with
  | dat d' => exact h
  | raw _ => cases h
  | slot _ => cases h
  | frs m => exact h
theorem Pd.data {d : D} (h : Pd K N M ρ σ H v r) (s : ∀ a, N a → M a) (e : vwd r = some d) : Rp K N H v d := by
  cases r with
  | dat d' => cases e; exact Rp.less h s
  | raw x => cases e
  | slot i => cases e
  | frs m =>
    obtain ⟨a, e2, _, na, ok⟩ := h
    subst e2
    cases m with
    | lst ds =>
      cases e
      obtain ⟨xs, h1, h2⟩ := ok
      exact .lst (.inl ⟨na, .inl h1⟩) (h2.less s)
    | dK _ => cases e
    | dT _ => cases e
    | ins _ _ => cases e
end
/-! ### universal readings -/
def uE (X : Cx) (e : Expr) : TE := fun σ H Q => ∀ pins s, Inv X pins σ H s → wpAny (model X.prog X.w) X.A (eval e X.env) (EP X pins σ Q) X.xe s
theorem pe_u (X : Cx) (e : Expr) : PE X e (uE X e) := ⟨fun pins s _ _ _ I h => h pins s I⟩
theorem uE.mono {X : Cx} {e : Expr} {σ : St} {H : Hp} {Q Q' : VK} (h : uE X e σ H Q) (f : ∀ v H', Q v H' → Q' v H') : uE X e σ H Q' := fun pins s I =>
  thn (h pins s I) fun u s' ⟨v, H', I', r, q⟩ => ⟨v, H', I', r, f v H' q⟩
def uT (X : Cx) (e : Expr) : TT := fun σ H Q => ∀ pins s, Inv X pins σ H s → wpAny (model X.prog X.w) X.A (isTrue e X.env (eval e X.env)) (TP X pins σ Q) X.xe s
theorem pt_u (X : Cx) (e : Expr) : PT X e (uT X e) := ⟨fun pins s _ _ _ I h => h pins s I⟩
theorem uT.mono {X : Cx} {e : Expr} {σ : St} {H : Hp} {Q Q' : Bool → Hp → Prop} (h : uT X e σ H Q) (f : ∀ v H', Q v H' → Q' v H') : uT X e σ H Q' := fun pins s I =>
  thn (h pins s I) fun u s' ⟨H', I', q⟩ => ⟨H', I', f u H' q⟩
def uW (X : Cx) (e : Expr) : TT := fun σ H Q => ∀ whole pins s, Inv X pins σ H s → wpAny (model X.prog X.w) X.A (isTrue e X.env whole) (TP X pins σ Q) X.xe s
theorem pw_u (X : Cx) (e : Expr) : PW X e (uW X e) := ⟨fun whole pins s _ _ _ I h => h whole pins s I⟩
def uA (X : Cx) (es : List Expr) : TA := fun σ H Q => ∀ pos pins s, Inv X pins σ H s → wpAny (model X.prog X.w) X.A (spliced (backTo pos (starEach es X.env))) (AP X pins σ Q) X.xe s
theorem pa_u (X : Cx) (es : List Expr) : PA X es (uA X es) := ⟨fun pos pins s _ _ _ I h => h pos pins s I⟩
theorem uA.mono {X : Cx} {es : List Expr} {σ : St} {H : Hp} {Q Q' : List V → Hp → Prop} (h : uA X es σ H Q) (f : ∀ v H', Q v H' → Q' v H') : uA X es σ H Q' := fun pos pins s I =>
  thn (h pos pins s I) fun u s' ⟨v, H', I', r, q⟩ => ⟨v, H', I', r, f v H' q⟩
def uS (X : Cx) (st : Stmt) : TS := fun D σ H => ∀ pins s, Inv X pins σ H s → wpAny (model X.prog X.w) X.A (exec st X.env) (SP X pins D) X.xe s
theorem ps_u (X : Cx) (st : Stmt) : PS X st (uS X st) := ⟨fun pins s _ _ _ I h => h pins s I⟩
def uSs (X : Cx) (st : List Stmt) : TS := fun D σ H => ∀ pins s, Inv X pins σ H s → wpAny (model X.prog X.w) X.A (execs st X.env) (SP X pins D) X.xe s
theorem pss_u (X : Cx) (st : List Stmt) : PSs X st (uSs X st) := ⟨fun pins s _ _ _ I h => h pins s I⟩
structure EndsLe (D D' : Ends) : Prop where
  nx : ∀ σ H, D.nx σ H → D'.nx σ H
  rt : ∀ v H, D.rt v H → D'.rt v H
  bk : ∀ σ H, D.bk σ H → D'.bk σ H
  ct : ∀ σ H, D.ct σ H → D'.ct σ H
theorem SP.mono {X : Cx} {pins : List (Addr × Obj)} {D D' : Ends} (l : EndsLe D D') {f : Flow} {s' : Shared} (h : SP X pins D f s') : SP X pins D' f s' := by
  cases f with
  | next => obtain ⟨σ', H', I, q⟩ := h; exact ⟨σ', H', I, l.nx _ _ q⟩
  | brk => obtain ⟨σ', H', I, q⟩ := h; exact ⟨σ', H', I, l.bk _ _ q⟩
  | cont => obtain ⟨σ', H', I, q⟩ := h; exact ⟨σ', H', I, l.ct _ _ q⟩
  | ret u => obtain ⟨v, σ', H', I, r, q⟩ := h; exact ⟨v, σ', H', I, r, l.rt _ _ q⟩
theorem uSs.mono {X : Cx} {st : List Stmt} {σ : St} {H : Hp} {D D' : Ends} (h : uSs X st D σ H) (l : EndsLe D D') : uSs X st D' σ H := fun pins s I => thn (h pins s I) fun _ _ q => SP.mono l q
theorem uS.mono {X : Cx} {st : Stmt} {σ : St} {H : Hp} {D D' : Ends} (h : uS X st D σ H) (l : EndsLe D D') : uS X st D' σ H := fun pins s I => thn (h pins s I) fun _ _ q => SP.mono l q
/-! ### the judgements over data -/
def DE (Z : Ct) (e : Expr) (ρ : Env) (Φ : Rv → Env → Prop) : Prop := ∀ M σ H, Pre Z M ρ σ H → uE Z.X e σ H (Post Z M ρ σ H Φ)
/-- a test -/
structure PostT (Z : Ct) (M : AS) (ρ : Env) (σ : St) (H : Hp) (H' : Hp) (ρ' : Env) : Prop where
  sim : Sim ρ ρ'
  kp : Kp (Mo ρ) H H'
  st : StS Z.X.K Z.T M ρ' σ H'
def PostB (Z : Ct) (M : AS) (ρ : Env) (σ : St) (H : Hp) (Φ : Bool → Env → Prop) (b : Bool) (H' : Hp) : Prop := ∃ ρ', Φ b ρ' ∧ PostT Z M ρ σ H H' ρ'
theorem PostT.pre {Z : Ct} {M : AS} {ρ ρ' : Env} {σ : St} {H H' : Hp} (p : PostT Z M ρ σ H H' ρ') (q : Pre Z M ρ σ H) : Pre Z M ρ' σ H' :=
  ⟨q.m0, p.st, by rw [p.sim.mo]; exact q.base.trans ⟨p.kp, fun _ h => .inl h⟩, q.w0, q.mu⟩
def DT (Z : Ct) (e : Expr) (ρ : Env) (Φ : Bool → Env → Prop) : Prop := ∀ M σ H, Pre Z M ρ σ H → uT Z.X e σ H (PostB Z M ρ σ H Φ)
def DW (Z : Ct) (e : Expr) (ρ : Env) (Φ : Bool → Env → Prop) : Prop := ∀ M σ H, Pre Z M ρ σ H → uW Z.X e σ H (PostB Z M ρ σ H Φ)
/-- arguments; the new owned things among them stand apart -/
def frsA (r : Rv) (v : V) : AS := fun a => (∃ m, r = .frs m) ∧ v = .ref a
inductive PdA (K : PySem.W.Frag) (M : AS) (ρ : Env) (σ : St) (H : Hp) : AS → List V → List Rv → Prop
  | nil {N : AS} : PdA K M ρ σ H N [] []
  | cons {N : AS} {v : V} {vs : List V} {r : Rv} {rs : List Rv} : Pd K N M ρ σ H v r → PdA K M ρ σ H (fun a => N a ∨ frsA r v a) vs rs → PdA K M ρ σ H N (v :: vs) (r :: rs)
structure PostL (Z : Ct) (M : AS) (ρ : Env) (σ : St) (H : Hp) (vs : List V) (H' : Hp) (rs : List Rv) (ρ' : Env) (M' : AS) : Prop where
  sim : Sim ρ ρ'
  kp : Kp (Mo ρ) H H'
  more : ∀ a, M a → M' a
  new : ∀ a, M' a → M a ∨ H a = none
  st : StS Z.X.K Z.T M' ρ' σ H'
  pd : PdA Z.X.K M' ρ' σ H' M vs rs
def PostA (Z : Ct) (M : AS) (ρ : Env) (σ : St) (H : Hp) (Φ : List Rv → Env → Prop) (vs : List V) (H' : Hp) : Prop := ∃ rs ρ' M', Φ rs ρ' ∧ PostL Z M ρ σ H vs H' rs ρ' M'
theorem PostL.pre {Z : Ct} {M M' : AS} {ρ ρ' : Env} {σ : St} {H H' : Hp} {v : List V} {r : List Rv} (p : PostL Z M ρ σ H v H' r ρ' M') (q : Pre Z M ρ σ H) : Pre Z M' ρ' σ H' :=
  ⟨fun a h => p.more a (q.m0 a h), p.st, by rw [p.sim.mo]; exact q.base.trans ⟨p.kp, fun _ h => .inl h⟩, q.w0, q.more p.new⟩
def DA (Z : Ct) (es : List Expr) (ρ : Env) (Φ : List Rv → Env → Prop) : Prop := ∀ M σ H, Pre Z M ρ σ H → uA Z.X es σ H (PostA Z M ρ σ H Φ)
/-- statements -/
structure DN where
  nx : Env → Prop
  rt : Rv → Env → Prop
  bk : Env → Prop := fun _ => False
  ct : Env → Prop := fun _ => False
/-- what is avoided between statements -/
def Ct.mz (Z : Ct) (ρ : Env) : AS := fun a => Z.M0 a ∨ Mo ρ a
def NxP (Z : Ct) (ρ : Env) (H : Hp) (Φ : Env → Prop) (σ' : St) (H' : Hp) : Prop := ∃ ρ', Φ ρ' ∧ StS Z.X.K Z.T (Z.mz ρ') ρ' σ' H' ∧ Step (Mo ρ) H (Mo ρ') H'
def RtP (Z : Ct) (ρ : Env) (H : Hp) (Φ : Rv → Env → Prop) (v : V) (H' : Hp) : Prop := ∃ r ρ' σ' M', Φ r ρ' ∧ StS Z.X.K Z.T M' ρ' σ' H' ∧ Step (Mo ρ) H (Mo ρ') H' ∧ (∀ a, Z.mz ρ' a → M' a) ∧ Pd Z.X.K (Z.mz ρ') M' ρ' σ' H' v r ∧ (∀ a, M' a → Z.mz ρ' a ∨ Z.H0 a = none)
def conc (Z : Ct) (ρ : Env) (H : Hp) (E : DN) : Ends where
  nx := NxP Z ρ H E.nx
  rt := RtP Z ρ H E.rt
  bk := NxP Z ρ H E.bk
  ct := NxP Z ρ H E.ct
structure PreS (Z : Ct) (ρ : Env) (σ : St) (H : Hp) : Prop where
  w0 : ∀ a, Z.W0 a → Z.M0 a
  st : StS Z.X.K Z.T (Z.mz ρ) ρ σ H
  base : Step Z.W0 Z.H0 (Mo ρ) H
def DS (Z : Ct) (st : Stmt) (ρ : Env) (E : DN) : Prop := ∀ σ H, PreS Z ρ σ H → uS Z.X st (conc Z ρ H E) σ H
def DSs (Z : Ct) (st : List Stmt) (ρ : Env) (E : DN) : Prop := ∀ σ H, PreS Z ρ σ H → uSs Z.X st (conc Z ρ H E) σ H
theorem PreS.pre {Z : Ct} {ρ : Env} {σ : St} {H : Hp} (p : PreS Z ρ σ H) : Pre Z (Z.mz ρ) ρ σ H := ⟨fun _ h => .inl h, p.st, p.base, p.w0, fun a z => z.elim .inl fun z => (p.base.nw a z).imp (p.w0 a) id⟩
end DL
set_option Elab.async false
set_option linter.all false
set_option maxRecDepth 100000
/-! DLc: rules: names, constants, operators, comparisons, tests, arguments, displays. -/
namespace DL
open PySem PySem.Spec PyProof.Rows L2
section
variable {Z : Ct} {ρ : Env} {Φ : Rv → Env → Prop} {Ψ : Bool → Env → Prop} {e a b c : Expr} {pos : Pos}
theorem Pre.post {M : AS} {σ : St} {H : Hp} {v : V} {r : Rv} (p : Pre Z M ρ σ H) (h : Φ r ρ) (d : Pd Z.X.K M M ρ σ H v r) : Post Z M ρ σ H Φ v H :=
  ⟨r, ρ, M, h, Sim.refl ρ, Kp.refl _ H, fun _ h => h, fun _ h => .inl h, p.st, d⟩
/-- a reading of the layer, at every state -/
theorem de_pe {t : TE} (h : PE Z.X e t) (k : ∀ M σ H, Pre Z M ρ σ H → t σ H (Post Z M ρ σ H Φ)) : DE Z e ρ Φ := fun M σ H p pins s I => h.run pins s σ H _ I (k M σ H p)
theorem dt_pt {t : TT} (h : PT Z.X e t) (k : ∀ M σ H, Pre Z M ρ σ H → t σ H (PostB Z M ρ σ H Ψ)) : DT Z e ρ Ψ := fun M σ H p pins s I => h.run pins s σ H _ I (k M σ H p)
theorem DE.imp {Φ' : Rv → Env → Prop} (h : DE Z e ρ Φ) (f : ∀ r ρ', Φ r ρ' → Φ' r ρ') : DE Z e ρ Φ' := fun M σ H p => (h M σ H p).mono fun _ _ q => q.imp f
theorem DT.imp {Ψ' : Bool → Env → Prop} (h : DT Z e ρ Ψ) (f : ∀ r ρ', Ψ r ρ' → Ψ' r ρ') : DT Z e ρ Ψ' := fun M σ H p => (h M σ H p).mono fun _ _ ⟨ρ', q, o⟩ => ⟨ρ', f _ _ q, o⟩
/-! ### names, constants -/
def rvOf (i : Nat) : C → Rv
  | .dat d => .dat d
  | .own _ _ => .slot i
  | .raw v => .raw v
theorem de_var (i : Nat) {x : Str} {c : C} (he : ρ[i]? = some (some c)) (k : Φ (rvOf i c) ρ) (hN : Z.X.N[i]? = some x := by rfl) (hv : Vis Z.X.env.scope x := by first | exact Or.inl rfl | exact Or.inr (Or.inl rfl) | exact Or.inr (Or.inr rfl))
    (hd : (x == ("__debug__" : Str)) = false := by decide) (hcd : (x == ("__classdict__" : Str)) = false := by decide) : DE Z (.Name x pos) ρ Φ :=
  de_pe (pe_var hN hv hd hcd) fun M σ H p => by
    obtain ⟨v, e, r⟩ := p.st.at_ i c he
    refine ⟨v, e, p.post k ?_⟩
    cases c with
    | dat d => exact r
    | own a m => exact ⟨⟨a, m, he⟩, e⟩
    | raw x => exact r
theorem de_int {i : Int} {j : Nat} (k : Φ (.dat (.int i)) ρ) : DE Z (.Constant (.int i) j pos) ρ Φ := de_pe pe_int fun M σ H p => p.post k (.int i)
theorem de_bl {i : Bool} {j : Nat} (k : Φ (.dat (.bool i)) ρ) : DE Z (.Constant (.bool i) j pos) ρ Φ := de_pe pe_bl fun M σ H p => p.post k (.bl i)
theorem de_str {x : Str} {j : Nat} (k : Φ (.dat (.str x)) ρ) : DE Z (.Constant (.str x) j pos) ρ Φ := de_pe pe_str fun M σ H p => p.post k (.str x)
theorem de_non {j : Nat} (k : Φ (.dat .none) ρ) : DE Z (.Constant .none j pos) ρ Φ := de_pe pe_non fun M σ H p => p.post k .non
/-- a name of the module: a class, a def, a number, a text -/
theorem de_globR {x : Str} {v : V} {u : Value} (hm : Z.X.mg x = some u) (r : RelV v u) (k : Φ (.raw v) ρ) (hg : Gl Z.X x := by rfl) (hd : (x == ("__debug__" : Str)) = false := by decide) : DE Z (.Name x pos) ρ Φ :=
  de_pe (pe_glob hg hm r hd) fun M σ H p => p.post k rfl
theorem de_globI {x : Str} {i : Int} (hm : ∃ t, Z.X.mg x = some (.int i t)) (k : Φ (.dat (.int i)) ρ) (hg : Gl Z.X x := by rfl) (hd : (x == ("__debug__" : Str)) = false := by decide) : DE Z (.Name x pos) ρ Φ := by
  obtain ⟨t, hm⟩ := hm
  exact de_pe (pe_glob (v := .int i) hg hm ⟨t, rfl⟩ hd) fun M σ H p => p.post k (.int i)
theorem de_globS {x y : Str} (hm : ∃ t, Z.X.mg x = some (.str y t)) (k : Φ (.dat (.str y)) ρ) (hg : Gl Z.X x := by rfl) (hd : (x == ("__debug__" : Str)) = false := by decide) : DE Z (.Name x pos) ρ Φ := by
  obtain ⟨t, hm⟩ := hm
  exact de_pe (pe_glob (v := .str y) hg hm ⟨t, rfl⟩ hd) fun M σ H p => p.post k (.str y)
/-- a tuple of the module's top -/
theorem de_globT {x : Str} {f : Addr} {xs : List V} {ds : List D} (hm : Z.X.mg x = some (.ref f)) (ht : KT Z.X.K f xs) (hr : ∀ M H, RpA Z.X.K M H xs ds) (k : Φ (.dat (.tuple ds)) ρ) (hg : Gl Z.X x := by rfl) (hd : (x == ("__debug__" : Str)) = false := by decide) : DE Z (.Name x pos) ρ Φ :=
  de_pe (pe_glob (v := .ref f) hg hm rfl hd) fun M σ H p => p.post k (.tup (.inr ht) (hr M H))
/-- a built-in class -/
theorem de_ty {x : Str} {T : String} (hm : Z.X.mg x = none) (hv : bootBuiltins x = some (.type T)) (k : Φ (.raw (.ty T)) ρ) (hg : Gl Z.X x := by rfl) (hn : x ≠ "__name__" := by decide) (hd : (x == ("__debug__" : Str)) = false := by decide) : DE Z (.Name x pos) ρ Φ :=
  de_pe (pe_bltn (v := .ty T) hg hm hv rfl hn hd) fun M σ H p => p.post k rfl
/-! ### two operands -/
/-- both results, as they stand behind the second -/
structure Two (Z : Ct) (M M2 : AS) (ρ ρ2 : Env) (σ : St) (H H2 : Hp) (x y : V) (r1 r2 : Rv) : Prop where
  sim : Sim ρ ρ2
  kp : Kp (Mo ρ) H H2
  more : ∀ a, M a → M2 a
  new : ∀ a, M2 a → M a ∨ H a = none
  st : StS Z.X.K Z.T M2 ρ2 σ H2
  p1 : Pd Z.X.K M M2 ρ2 σ H2 x r1
  p2 : Pd Z.X.K M M2 ρ2 σ H2 y r2
theorem fresh_back {W : AS} {H H1 : Hp} (k : Kp W H H1) {a : Addr} (n : ¬ W a) (h : H1 a = none) : H a = none := by
  cases e : H a with
  | none => rfl
  | some o => exact absurd h (k a o n e).some
theorem two {M : AS} {σ : St} {H : Hp} {Θ : Rv → Rv → Env → Prop} (p : Pre Z M ρ σ H) (h : DE Z a ρ fun r1 ρ1 => DE Z b ρ1 fun r2 ρ2 => Θ r1 r2 ρ2) {Q : V → V → Hp → Prop}
    (q : ∀ x y H2 r1 r2 ρ2 M2, Θ r1 r2 ρ2 → Two Z M M2 ρ ρ2 σ H H2 x y r1 r2 → Q x y H2) : uE Z.X a σ H fun x H1 => uE Z.X b σ H1 fun y H2 => Q x y H2 := by
  refine (h M σ H p).mono fun x H1 ⟨r1, ρ1, M1, h1, o1⟩ => ?_
  refine (h1 M1 σ H1 (o1.pre p)).mono fun y H2 ⟨r2, ρ2, M2, h2, o2⟩ => ?_
  have mo1 := o1.sim.mo
  have kp2 : Kp (Mo ρ) H1 H2 := by rw [← mo1]; exact o2.kp
  have nw : ∀ a, M2 a → M1 a ∨ H1 a = none := o2.new
  refine q x y H2 r1 r2 ρ2 M2 h2 ⟨o1.sim.trans o2.sim, o1.kp.trans kp2, fun a h => o2.more a (o1.more a h), fun a h => ?_, o2.st, ?_, ?_⟩
  · by_cases n : M a
    · exact .inl n
    · refine .inr ?_
      rcases o2.new a h with z | z
      · rcases o1.new a z with w | w
        · exact absurd w n
        · exact w
      · exact fresh_back o1.kp (fun w => n (p.st.own a w)) z
  · exact o1.pd.keep o1.st (fun a h => p.st.own a (by rw [← mo1]; exact h)) o2.sim o2.kp nw o2.more
  · cases r2 with
    | dat d => exact o2.pd
    | raw x => exact o2.pd
    | slot i => exact o2.pd
    | frs m =>
      obtain ⟨a, e, ma, na, ok⟩ := o2.pd
      exact ⟨a, e, ma, fun z => na (o1.more a z), ok⟩
/-- the end of an operation that changes nothing -/
theorem Two.post {M M2 : AS} {ρ2 : Env} {σ : St} {H H2 : Hp} {x y v : V} {r1 r2 r : Rv} (t : Two Z M M2 ρ ρ2 σ H H2 x y r1 r2) (h : Φ r ρ2) (d : Pd Z.X.K M M2 ρ2 σ H2 v r) : Post Z M ρ σ H Φ v H2 :=
  ⟨r, ρ2, M2, h, t.sim, t.kp, t.more, t.new, t.st, d⟩
/-- a new object laid: all that was borne is borne -/
theorem kp_new {W : AS} {H : Hp} {q : Addr} {o : HO} (n : H q = none) : Kp W H (upd H q o) := fun a u _ e => .inl (by rw [upd_ne (ne_of_none e n)]; exact e)
theorem StS.laid {K : PySem.W.Frag} {T : List (Addr × Str)} {M M' : AS} {σ : St} {H H' : Hp} (S : StS K T M ρ σ H) (k : ∀ a o, H a = some o → H' a = some o) (nw : ∀ a, M' a → M a ∨ (H a = none ∧ ∃ o, H' a = some o ∧ Solid o)) (mo : ∀ a, M a → M' a) : StS K T M' ρ σ H' :=
  have nw' : ∀ a, M' a → M a ∨ H a = none := fun a z => (nw a z).imp id And.left
  ⟨S.len, fun a h => mo a (S.own a h), fun a z => by
    rcases nw a z with w | w
    · obtain ⟨o, e, so⟩ := S.lv a w
      exact ⟨o, k a o e, so⟩
    · exact w.2, fun i c e => by
    obtain ⟨v, e1, r⟩ := S.at_ i c e
    refine ⟨v, e1, r.keep (fun b o _ q => .inl (k b o q)) nw' fun a m z => ?_⟩
    subst z
    obtain ⟨e2, ma, ok⟩ := r
    obtain ⟨o, e3, _⟩ := ok.there
    exact ⟨mo a ma, by rw [k a o e3, e3]⟩, S.inj, S.tab.ext k⟩
theorem up_new {H : Hp} {q : Addr} {o : HO} (n : H q = none) : ∀ a u, H a = some u → (upd H q o) a = some u := fun a u e => by rw [upd_ne (ne_of_none e n)]; exact e
/-- what was not there now was not there ahead -/
theorem StS.back {K : PySem.W.Frag} {T : List (Addr × Str)} {M : AS} {σ : St} {H H' : Hp} (S : StS K T M ρ σ H) {W : AS} (hw : ∀ a, W a → M a) (lv : ∀ a, M a → H' a ≠ none) (k : Kp W H H') {a : Addr} (h : H' a = none) : H a = none := by
  by_cases w : W a
  · exact absurd h (lv a (hw a w))
  · exact fresh_back k w h
/-- a new object q behind an expression's end: a list to be owned, a tuple -/
structure EndO (Z : Ct) (M M2 : AS) (ρ ρ2 : Env) (σ : St) (H H2 : Hp) : Prop where
  sim : Sim ρ ρ2
  kp : Kp (Mo ρ) H H2
  more : ∀ a, M a → M2 a
  new : ∀ a, M2 a → M a ∨ H a = none
  st : StS Z.X.K Z.T M2 ρ2 σ H2
theorem Two.endO {M M2 : AS} {ρ2 : Env} {σ : St} {H H2 : Hp} {x y : V} {r1 r2 : Rv} (t : Two Z M M2 ρ ρ2 σ H H2 x y r1 r2) : EndO Z M M2 ρ ρ2 σ H H2 := ⟨t.sim, t.kp, t.more, t.new, t.st⟩
theorem PostO.endO {M M2 : AS} {ρ2 : Env} {σ : St} {H H2 : Hp} {x : V} {r1 : Rv} (t : PostO Z M ρ σ H x H2 r1 ρ2 M2) : EndO Z M M2 ρ ρ2 σ H H2 := ⟨t.sim, t.kp, t.more, t.new, t.st⟩
theorem PostL.endO {M M2 : AS} {ρ2 : Env} {σ : St} {H H2 : Hp} {x : List V} {r1 : List Rv} (t : PostL Z M ρ σ H x H2 r1 ρ2 M2) : EndO Z M M2 ρ ρ2 σ H H2 := ⟨t.sim, t.kp, t.more, t.new, t.st⟩
theorem EndO.post {M M2 : AS} {ρ2 : Env} {σ : St} {H H2 : Hp} {v : V} {r : Rv} (t : EndO Z M M2 ρ ρ2 σ H H2) (h : Φ r ρ2) (d : Pd Z.X.K M M2 ρ2 σ H2 v r) : Post Z M ρ σ H Φ v H2 :=
  ⟨r, ρ2, M2, h, t.sim, t.kp, t.more, t.new, t.st, d⟩
theorem EndO.back {M M2 : AS} {ρ2 : Env} {σ : St} {H H2 : Hp} (t : EndO Z M M2 ρ ρ2 σ H H2) {q : Addr} (hq : H2 q = none) : H q = none ∧ ¬ M q ∧ ¬ M2 q := by
  have n2 : ¬ M2 q := fun z => t.st.liv q z hq
  have w : ¬ Mo ρ q := fun z => n2 (t.st.own q (by rw [t.sim.mo]; exact z))
  exact ⟨fresh_back t.kp w hq, fun z => n2 (t.more q z), n2⟩
theorem EndO.laid {M M2 : AS} {ρ2 : Env} {σ : St} {H H2 : Hp} (t : EndO Z M M2 ρ ρ2 σ H H2) {q : Addr} {o : HO} (hq : H2 q = none) : Kp (Mo ρ) H (upd H2 q o) :=
  t.kp.trans fun a u _ e => .inl (up_new hq a u e)
/-- a new owned thing -/
theorem EndO.frs {M M2 : AS} {ρ2 : Env} {σ : St} {H H2 : Hp} {q : Addr} {o : HO} {m : MO} (t : EndO Z M M2 ρ ρ2 σ H H2) (h : Φ (.frs m) ρ2) (hq : H2 q = none) (ok : MOk Z.X.K (fun a => M2 a ∨ a = q) (upd H2 q o) q m) : Post Z M ρ σ H Φ (.ref q) (upd H2 q o) := by
  obtain ⟨b1, b2, b3⟩ := t.back hq
  refine ⟨.frs m, ρ2, fun a => M2 a ∨ a = q, h, t.sim, t.laid hq, fun a z => .inl (t.more a z), fun a z => ?_, t.st.laid (up_new hq) (fun a z => ?_) fun a z => .inl z, q, rfl, .inr rfl, b2, ok⟩
  · rcases z with z | z
    · exact t.new a z
    · subst z; exact .inr b1
  · rcases z with z | z
    · exact .inl z
    · subst z
      obtain ⟨o', e, so⟩ := ok.solid
      exact .inr ⟨hq, o', e, so⟩
theorem RpA.laid {K : PySem.W.Frag} {M : AS} {H : Hp} {q : Addr} {o : HO} {xs : List V} {ds : List D} (r : RpA K M H xs ds) (hq : H q = none) : RpA K (fun a => M a ∨ a = q) (upd H q o) xs ds :=
  r.keep (fun b u _ e => .inl (up_new hq b u e)) fun b z => by
    rcases z with z | z
    · exact .inl z
    · subst z; exact .inr hq
theorem RpA.laid0 {K : PySem.W.Frag} {M : AS} {H : Hp} {q : Addr} {o : HO} {xs : List V} {ds : List D} (r : RpA K M H xs ds) (hq : H q = none) : RpA K M (upd H q o) xs ds :=
  r.keep (fun b u _ e => .inl (up_new hq b u e)) fun b z => .inl z
theorem EndO.list {M M2 : AS} {ρ2 : Env} {σ : St} {H H2 : Hp} {q : Addr} {xs : List V} {ds : List D} (t : EndO Z M M2 ρ ρ2 σ H H2) (h : Φ (.frs (.lst ds)) ρ2) (hq : H2 q = none) (r : RpA Z.X.K M2 H2 xs ds) : Post Z M ρ σ H Φ (.ref q) (upd H2 q (.lst xs)) :=
  t.frs h hq ⟨xs, upd_same, r.laid hq⟩
theorem EndO.tuple {M M2 : AS} {ρ2 : Env} {σ : St} {H H2 : Hp} {q : Addr} {xs : List V} {ds : List D} (t : EndO Z M M2 ρ ρ2 σ H H2) (h : Φ (.dat (.tuple ds)) ρ2) (hq : H2 q = none) (r : RpA Z.X.K M2 H2 xs ds) : Post Z M ρ σ H Φ (.ref q) (upd H2 q (.tup xs)) := by
  obtain ⟨b1, b2, b3⟩ := t.back hq
  exact ⟨.dat (.tuple ds), ρ2, M2, h, t.sim, t.laid hq, t.more, t.new, t.st.laid (up_new hq) (fun a z => .inl z) fun a z => z, .tup (.inl ⟨b3, .inl upd_same⟩) (r.laid0 hq)⟩
end
end DL
set_option Elab.async false
set_option linter.all false
set_option maxRecDepth 100000
/-! DLd: operators over data. -/
namespace DL
open PySem PySem.Spec PyProof.Rows L2
section
variable {Z : Ct} {ρ ρ2 : Env} {Φ : Rv → Env → Prop} {Ψ : Bool → Env → Prop} {e a b c : Expr} {pos : Pos} {r1 r2 : Rv}
/-- an operation on two results -/
def OpD (Z : Ct) (f : Value → Value → Sem Value) (ρ2 : Env) (r1 r2 : Rv) (Φ : Rv → Env → Prop) : Prop := ∀ M M2 ρ σ H H2 x y, Pre Z M ρ σ H → Two Z M M2 ρ ρ2 σ H H2 x y r1 r2 →
  ∀ pins s v u, Inv Z.X pins σ H2 s → RelV x v → RelV y u → wpAny (model Z.X.prog Z.X.w) Z.X.A (f v u) (EP Z.X pins σ (Post Z M ρ σ H Φ)) Z.X.xe s
theorem OpD.of {f : Value → Value → Sem Value} {r : R2} (ho : OpR Z.X f r) (k : ∀ M M2 ρ σ H H2 x y, Pre Z M ρ σ H → Two Z M M2 ρ ρ2 σ H H2 x y r1 r2 → r x y H2 (Post Z M ρ σ H Φ)) : OpD Z f ρ2 r1 r2 Φ :=
  fun M M2 ρ σ H H2 x y p t pins s v u I rx ry => ho pins s σ H2 x y v u _ I rx ry (k M M2 ρ σ H H2 x y p t)
theorem de_bin {op : Operator} (h : DE Z a ρ fun r1 ρ1 => DE Z b ρ1 fun r2 ρ2 => OpD Z (binaryOp op) ρ2 r1 r2 Φ) : DE Z (.BinOp a op b pos) ρ Φ := fun M σ H p pins s I => by
  refine wpAny_BinOp (binT (pe_u Z.X a) (pe_u Z.X b) (R := fun x y H2 => ∃ r1 r2 ρ2 M2, OpD Z (binaryOp op) ρ2 r1 r2 Φ ∧ Two Z M M2 ρ ρ2 σ H H2 x y r1 r2) I (two p h fun x y H2 r1 r2 ρ2 M2 k t => ⟨r1, r2, ρ2, M2, k, t⟩) fun v u s2 x y H2 I2 rx ry q => ?_)
  obtain ⟨r1, r2, ρ2, M2, k, t⟩ := q
  exact k M M2 ρ σ H H2 x y p t pins s2 v u I2 rx ry
theorem de_cmp {op : CmpOp} (h : DE Z a ρ fun r1 ρ1 => DE Z b ρ1 fun r2 ρ2 => OpD Z (compareOp op) ρ2 r1 r2 Φ) (h1 : behindInMarks op b = false := by first | exact nobehind _ (by decide) (by decide) | rfl) : DE Z (.Compare a [op] [b] pos) ρ Φ := fun M σ H p pins s I => by
  refine wpAny_Compare1 (binT (pe_u Z.X a) (pe_u Z.X b) (R := fun x y H2 => ∃ r1 r2 ρ2 M2, OpD Z (compareOp op) ρ2 r1 r2 Φ ∧ Two Z M M2 ρ ρ2 σ H H2 x y r1 r2) I (two p h fun x y H2 r1 r2 ρ2 M2 k t => ⟨r1, r2, ρ2, M2, k, t⟩) fun v u s2 x y H2 I2 rx ry q => ?_) h1
  obtain ⟨r1, r2, ρ2, M2, k, t⟩ := q
  exact k M M2 ρ σ H H2 x y p t pins s2 v u I2 rx ry
/-- .. as a test -/
def boolR (Ψ : Bool → Env → Prop) : Rv → Env → Prop := fun r ρ' => ∃ b, r = .dat (.bool b) ∧ Ψ b ρ'
theorem Post.bool {M : AS} {σ : St} {H H' : Hp} {x : V} (q : Post Z M ρ σ H (boolR Ψ) x H') (p : Pre Z M ρ σ H) : ∃ k, x = .bl k ∧ PostB Z M ρ σ H Ψ k H' := by
  obtain ⟨r, ρ', M', ⟨b, rfl, h⟩, o⟩ := q
  have o5 : Rp Z.X.K M' H' x (.bool b) := o.pd
  cases o5
  exact ⟨b, rfl, ρ', h, o.sim, o.kp, o.st.less (fun a z => p.st.own a (by rw [← o.sim.mo]; exact z)) o.more⟩
theorem dt_val (h : DE Z e ρ (boolR Ψ)) (he : ∀ whole, isTrue e Z.X.env whole = (do let v ← whole; standAt e.pos; holding [v] (truthy v)) := by intro _; rfl) : DT Z e ρ Ψ := fun M σ H p pins s I =>
  (pt_val (pe_u Z.X e) he).run pins s σ H _ I ((h M σ H p).mono fun x H' q => q.bool p)
theorem dt_cmp {op : CmpOp} (h : DE Z a ρ fun r1 ρ1 => DE Z b ρ1 fun r2 ρ2 => OpD Z (compareOp op) ρ2 r1 r2 (boolR Ψ)) (h1 : behindInMarks op b = false := by first | exact nobehind _ (by decide) (by decide) | rfl) : DT Z (.Compare a [op] [b] pos) ρ Ψ := fun M σ H p pins s I => by
  refine wpAny_isTrue_Compare1 (binT (pe_u Z.X a) (pe_u Z.X b) (R := fun x y H2 => ∃ r1 r2 ρ2 M2, OpD Z (compareOp op) ρ2 r1 r2 (boolR Ψ) ∧ Two Z M M2 ρ ρ2 σ H H2 x y r1 r2) I (two p h fun x y H2 r1 r2 ρ2 M2 k t => ⟨r1, r2, ρ2, M2, k, t⟩) fun v u s2 x y H2 I2 rx ry q => ?_) h1
  obtain ⟨r1, r2, ρ2, M2, k, t⟩ := q
  refine thn (k M M2 ρ σ H H2 x y p t pins s2 v u I2 rx ry) fun c s3 ⟨z, H3, I3, rz, q3⟩ => ?_
  obtain ⟨k3, rfl, q4⟩ := q3.bool p
  cases rz
  exact wpAny_truthy_bool ⟨H3, I3, q4⟩
/-! ### what the operators do -/
theorem Two.v1 {M M2 : AS} {σ : St} {H H2 : Hp} {x y : V} {d : D} (t : Two Z M M2 ρ ρ2 σ H H2 x y r1 r2) (e : vw ρ2 r1 = some d) : SeqR Z.X.K M2 H2 x d := t.p1.view t.st e
theorem Two.v2 {M M2 : AS} {σ : St} {H H2 : Hp} {x y : V} {d : D} (t : Two Z M M2 ρ ρ2 σ H H2 x y r1 r2) (e : vw ρ2 r2 = some d) : SeqR Z.X.K M2 H2 y d := t.p2.view t.st e
variable {d1 d2 : D}
/-- ints -/
theorem od_int {f : Value → Value → Sem Value} {C : Int → Int → Prop} {g : Int → Int → V} {g' : Int → Int → D} {i j : Int} (ho : OpR Z.X f (rI C g)) (e1 : vw ρ2 r1 = some (.int i)) (e2 : vw ρ2 r2 = some (.int j)) (hc : C i j) (hg : ∀ M H, Rp Z.X.K M H (g i j) (g' i j)) (k : Φ (.dat (g' i j)) ρ2) : OpD Z f ρ2 r1 r2 Φ :=
  OpD.of ho fun M M2 ρ σ H H2 x y p t => by
    have h1 := (t.v1 e1).int
    have h2 := (t.v2 e2).int
    exact ⟨i, j, h1, h2, hc, t.post k (hg _ _)⟩
theorem od_int0 {f : Value → Value → Sem Value} {g : Int → Int → V} {g' : Int → Int → D} {i j : Int} (ho : OpR Z.X f (rI0 g)) (e1 : vw ρ2 r1 = some (.int i)) (e2 : vw ρ2 r2 = some (.int j)) (hg : ∀ M H, Rp Z.X.K M H (g i j) (g' i j)) (k : Φ (.dat (g' i j)) ρ2) : OpD Z f ρ2 r1 r2 Φ :=
  OpD.of ho fun M M2 ρ σ H H2 x y p t => by
    have h1 := (t.v1 e1).int
    have h2 := (t.v2 e2).int
    exact ⟨i, j, h1, h2, t.post k (hg _ _)⟩
theorem od_addI {i j : Int} (e1 : vw ρ2 r1 = some (.int i)) (e2 : vw ρ2 r2 = some (.int j)) (k : Φ (.dat (.int (i + j))) ρ2) : OpD Z (binaryOp .Add) ρ2 r1 r2 Φ := od_int0 (g' := fun i j => .int (i + j)) op_add e1 e2 (fun _ _ => .int _) k
theorem od_subI {i j : Int} (e1 : vw ρ2 r1 = some (.int i)) (e2 : vw ρ2 r2 = some (.int j)) (k : Φ (.dat (.int (i - j))) ρ2) : OpD Z (binaryOp .Sub) ρ2 r1 r2 Φ := od_int0 (g' := fun i j => .int (i - j)) op_sub e1 e2 (fun _ _ => .int _) k
theorem od_mulI {i j : Int} (e1 : vw ρ2 r1 = some (.int i)) (e2 : vw ρ2 r2 = some (.int j)) (hc : CMul i j) (k : Φ (.dat (.int (i * j))) ρ2) : OpD Z (binaryOp .Mult) ρ2 r1 r2 Φ := od_int (g' := fun i j => .int (i * j)) op_mul e1 e2 hc (fun _ _ => .int _) k
theorem od_mod {i j : Int} (e1 : vw ρ2 r1 = some (.int i)) (e2 : vw ρ2 r2 = some (.int j)) (hc : 0 < j) (k : Φ (.dat (.int (i % j))) ρ2) : OpD Z (binaryOp .Mod) ρ2 r1 r2 Φ := od_int (g' := fun i j => .int (i % j)) op_mod e1 e2 hc (fun _ _ => .int _) k
theorem od_fdiv {i j : Int} (e1 : vw ρ2 r1 = some (.int i)) (e2 : vw ρ2 r2 = some (.int j)) (hc : CDiv i j) (k : Φ (.dat (.int (i / j))) ρ2) : OpD Z (binaryOp .FloorDiv) ρ2 r1 r2 Φ := od_int (g' := fun i j => .int (i / j)) op_fdiv e1 e2 hc (fun _ _ => .int _) k
theorem od_pow {i j : Int} (e1 : vw ρ2 r1 = some (.int i)) (e2 : vw ρ2 r2 = some (.int j)) (hc : CPow i j) (k : Φ (.dat (.int (i ^ j.toNat))) ρ2) : OpD Z (binaryOp .Pow) ρ2 r1 r2 Φ := od_int (g' := fun i j => .int (i ^ j.toNat)) op_pow e1 e2 hc (fun _ _ => .int _) k
theorem od_lt {i j : Int} (e1 : vw ρ2 r1 = some (.int i)) (e2 : vw ρ2 r2 = some (.int j)) (k : Φ (.dat (.bool (decide (i < j)))) ρ2) : OpD Z (compareOp .Lt) ρ2 r1 r2 Φ := od_int0 (g' := fun i j => .bool (decide (i < j))) op_lt e1 e2 (fun _ _ => .bl _) k
theorem od_le {i j : Int} (e1 : vw ρ2 r1 = some (.int i)) (e2 : vw ρ2 r2 = some (.int j)) (k : Φ (.dat (.bool (decide (i ≤ j)))) ρ2) : OpD Z (compareOp .LtE) ρ2 r1 r2 Φ := od_int0 (g' := fun i j => .bool (decide (i ≤ j))) op_le e1 e2 (fun _ _ => .bl _) k
theorem od_gt {i j : Int} (e1 : vw ρ2 r1 = some (.int i)) (e2 : vw ρ2 r2 = some (.int j)) (k : Φ (.dat (.bool (decide (j < i)))) ρ2) : OpD Z (compareOp .Gt) ρ2 r1 r2 Φ := od_int0 (g' := fun i j => .bool (decide (j < i))) op_gt e1 e2 (fun _ _ => .bl _) k
theorem od_ge {i j : Int} (e1 : vw ρ2 r1 = some (.int i)) (e2 : vw ρ2 r2 = some (.int j)) (k : Φ (.dat (.bool (decide (j ≤ i)))) ρ2) : OpD Z (compareOp .GtE) ρ2 r1 r2 Φ := od_int0 (g' := fun i j => .bool (decide (j ≤ i))) op_ge e1 e2 (fun _ _ => .bl _) k
/-- texts -/
theorem od_addS {i j : Str} (e1 : vw ρ2 r1 = some (.str i)) (e2 : vw ρ2 r2 = some (.str j)) (hc : i.length + j.length ≤ sizeLine) (k : Φ (.dat (.str (i ++ j))) ρ2) : OpD Z (binaryOp .Add) ρ2 r1 r2 Φ :=
  OpD.of op_add_str fun M M2 ρ σ H H2 x y p t => ⟨i, j, (t.v1 e1).str, (t.v2 e2).str, hc, t.post k (.str _)⟩
/-- lists -/
theorem op_catL : OpR Z.X (binaryOp .Add) (fun x y H Q => ∃ l b xs zs, x = .ref l ∧ y = .ref b ∧ SqL Z.X.K H l xs ∧ SqL Z.X.K H b zs ∧ xs.length + zs.length ≤ sizeLine ∧ ∀ p, H p = none → Q (.ref p) (upd H p (.lst (xs ++ zs)))) := by
  intro pins s σ H x y v u Q I rx ry h
  obtain ⟨l, b, xs, zs, rfl, rfl, hH, hB, hz, q⟩ := h
  cases rx
  cases ry
  obtain ⟨its, r, ⟨⟨cls, dd, data, sl⟩, n, ho, hc, _, hd⟩, _⟩ := I.list hH
  obtain ⟨its2, r2, ⟨⟨cls2, dd2, data2, sl2⟩, n2, ho2, hc2, _, hd2⟩, _⟩ := I.list hB
  simp only at hc hd hc2 hd2
  subst hc hd hc2 hd2
  have hl := r.length
  have hl2 := r2.length
  have ea : its.toArray ++ its2.toArray = (its ++ its2).toArray := by simp
  refine concat_meets ⟨_, ho, rfl⟩ ⟨_, ho2, rfl⟩ noFill_list_add seq_list_add PySem.F.slot_list_add PySem.F.entry_list_add (PySem.F.args_list_add_2 _ _) (list_addW l b its.toArray its2.toArray n n2 dd dd2 sl sl2 (by simp only [List.size_toArray]; omega)) ⟨ho, ho2, ?_⟩
  rw [ea]
  exact ⟨.ref _, _, I.lnew (t' := s.toks) (r.append r2) (by rw [List.length_append]; omega), rfl, q _ I.fresh⟩
theorem od_addL {i j : List D} (e1 : vw ρ2 r1 = some (.list i)) (e2 : vw ρ2 r2 = some (.list j)) (hc : i.length + j.length ≤ sizeLine) (k : Φ (.frs (.lst (i ++ j))) ρ2) : OpD Z (binaryOp .Add) ρ2 r1 r2 Φ :=
  OpD.of op_catL fun M M2 ρ σ H H2 x y p t => by
    obtain ⟨l, xs, rfl, h1, g1⟩ := (t.v1 e1).list
    obtain ⟨b, zs, rfl, h2, g2⟩ := (t.v2 e2).list
    exact ⟨l, b, xs, zs, rfl, rfl, h1, h2, by rw [g1.length, g2.length]; exact hc, fun q hq => t.endO.list k hq (g1.append g2)⟩
/-- tuples -/
theorem MO.toD_list {m : MO} {d : D} (h : m.toD = some d) : ∃ ds, d = .list ds ∧ m = .lst ds := by
  cases m with
  | lst ds => exact ⟨ds, (Option.some.inj h).symm, rfl⟩
  | dK _ => cases h
  | dT _ => cases h
  | ins _ _ => cases h
theorem vw_tuple {r : Rv} {ds : List D} (e : vw ρ2 r = some (.tuple ds)) : r = .dat (.tuple ds) := by
  cases r with
  | dat d => exact congrArg Rv.dat (Option.some.inj e)
  | raw x => cases e
  | slot i =>
    have e' : (match ρ2[i]? with | some (some (C.own _ m)) => m.toD | _ => none) = some (PyData.tuple ds) := e
    split at e'
    · obtain ⟨z, h, _⟩ := MO.toD_list e'
      cases h
    · cases e'
  | frs m =>
    obtain ⟨z, h, _⟩ := MO.toD_list (show m.toD = some (PyData.tuple ds) from e)
    cases h
theorem Two.tupD {M M2 : AS} {σ : St} {H H2 : Hp} {x y : V} {ds : List D} (t : Two Z M M2 ρ ρ2 σ H H2 x y r1 r2) (e : vw ρ2 r1 = some (.tuple ds)) : Rp Z.X.K M2 H2 x (.tuple ds) := by
  have := t.p1
  rw [vw_tuple e] at this
  exact this
theorem Two.tupD2 {M M2 : AS} {σ : St} {H H2 : Hp} {x y : V} {ds : List D} (t : Two Z M M2 ρ ρ2 σ H H2 y x r1 r2) (e : vw ρ2 r2 = some (.tuple ds)) : Rp Z.X.K M2 H2 x (.tuple ds) := by
  have := t.p2
  rw [vw_tuple e] at this
  exact this
theorem RpA.nil_iff {K : PySem.W.Frag} {M : AS} {H : Hp} {xs : List V} {ds : List D} (r : RpA K M H xs ds) : xs = [] ↔ ds = [] := by
  cases r with
  | nil => simp
  | cons _ _ => simp
theorem od_addT {i j : List D} (e1 : vw ρ2 r1 = some (.tuple i)) (e2 : vw ρ2 r2 = some (.tuple j)) (hc : i.length + j.length ≤ sizeLine) (k : Φ (.dat (.tuple (i ++ j))) ρ2) : OpD Z (binaryOp .Add) ρ2 r1 r2 Φ :=
  OpD.of op_catA fun M M2 ρ σ H H2 x y p t => by
    obtain ⟨l, xs, rfl, h1, g1⟩ := (t.v1 e1).tuple
    obtain ⟨b, zs, rfl, h2, g2⟩ := (t.v2 e2).tuple
    refine ⟨l, b, xs, zs, rfl, rfl, h1, h2, by rw [g1.length, g2.length]; exact hc, fun q => ?_, fun _ q => ?_, fun _ _ q hq => t.endO.tuple k hq (g1.append g2)⟩
    · have : i = [] := g1.nil_iff.mp q
      subst this
      exact t.post k (show Rp _ _ _ _ (.tuple ([] ++ j)) from t.tupD2 e2)
    · have : j = [] := g2.nil_iff.mp q
      subst this
      rw [List.append_nil] at k
      exact t.post k (t.tupD e1)
theorem od_mulT {i : List D} {n : Int} (e1 : vw ρ2 r1 = some (.tuple i)) (e2 : vw ρ2 r2 = some (.int n)) (h0 : i ≠ []) (h1 : 2 ≤ n) (h2 : n ≤ 1000) (h3 : i.length ≤ 1000) (k : Φ (.dat (.tuple (List.replicate n.toNat i).flatten)) ρ2) : OpD Z (binaryOp .Mult) ρ2 r1 r2 Φ :=
  OpD.of op_repT fun M M2 ρ σ H H2 x y p t => by
    obtain ⟨l, xs, rfl, h4, g1⟩ := (t.v1 e1).tuple
    exact ⟨l, n, xs, rfl, (t.v2 e2).int, h4, fun z => h0 (g1.nil_iff.mp z), h1, h2, by rw [g1.length]; exact h3, fun q hq => t.endO.tuple k hq (g1.flatten_rep _)⟩
/-- == of data -/
theorem od_eq (e1 : vw ρ2 r1 = some d1) (e2 : vw ρ2 r2 = some d2) (s1 : SeqAt.shaped d1 = true) (s2 : SeqAt.shaped d2 = true) (hu : Z.X.A.units + 64 < cLine) (k : Φ (.dat (.bool (PyData.eqv d1 d2))) ρ2) : OpD Z (compareOp .Eq) ρ2 r1 r2 Φ :=
  OpD.of (op_eqD hu) fun M M2 ρ σ H H2 x y p t => ⟨d1, d2, (t.v1 e1).dp, (t.v2 e2).dp, s1, s2, t.post k (.bl _)⟩
theorem od_ne (e1 : vw ρ2 r1 = some d1) (e2 : vw ρ2 r2 = some d2) (s1 : SeqAt.shaped d1 = true) (s2 : SeqAt.shaped d2 = true) (hu : Z.X.A.units + 64 < cLine) (k : Φ (.dat (.bool (!PyData.eqv d1 d2))) ρ2) : OpD Z (compareOp .NotEq) ρ2 r1 r2 Φ :=
  OpD.of (op_neD hu) fun M M2 ρ σ H H2 x y p t => ⟨d1, d2, (t.v1 e1).dp, (t.v2 e2).dp, s1, s2, t.post k (.bl _)⟩
/-- is None, is True -/
def isNone : D → Bool
  | .none => true
  | _ => false
theorem SeqR.isNon {K : PySem.W.Frag} {M : AS} {H : Hp} {x : V} {d : D} (h : SeqR K M H x d) : decide (x = .non) = isNone d := by
  cases h with
  | lst _ _ => simp [isNone]
  | tup _ _ => simp [isNone]
  | oth r => cases r <;> simp [isNone]
theorem od_isN (e1 : vw ρ2 r1 = some d1) (e2 : vw ρ2 r2 = some .none) (k : Φ (.dat (.bool (isNone d1))) ρ2) : OpD Z (compareOp .Is) ρ2 r1 r2 Φ :=
  OpD.of op_isN fun M M2 ρ σ H H2 x y p t => ⟨(t.v2 e2).none, by rw [(t.v1 e1).isNon]; exact t.post k (.bl _)⟩
theorem od_isnotN (e1 : vw ρ2 r1 = some d1) (e2 : vw ρ2 r2 = some .none) (k : Φ (.dat (.bool (!isNone d1))) ρ2) : OpD Z (compareOp .IsNot) ρ2 r1 r2 Φ :=
  OpD.of op_notN fun M M2 ρ σ H H2 x y p t => ⟨(t.v2 e2).none, by rw [(t.v1 e1).isNon]; exact t.post k (.bl _)⟩
theorem od_isB {i j : Bool} (e1 : vw ρ2 r1 = some (.bool i)) (e2 : vw ρ2 r2 = some (.bool j)) (k : Φ (.dat (.bool (decide (i = j)))) ρ2) : OpD Z (compareOp .Is) ρ2 r1 r2 Φ :=
  OpD.of op_isBl fun M M2 ρ σ H H2 x y p t => ⟨i, j, (t.v1 e1).bool, (t.v2 e2).bool, t.post k (.bl _)⟩
theorem od_isnotB {i j : Bool} (e1 : vw ρ2 r1 = some (.bool i)) (e2 : vw ρ2 r2 = some (.bool j)) (k : Φ (.dat (.bool (!decide (i = j)))) ρ2) : OpD Z (compareOp .IsNot) ρ2 r1 r2 Φ :=
  OpD.of op_notBl fun M M2 ρ σ H H2 x y p t => ⟨i, j, (t.v1 e1).bool, (t.v2 e2).bool, t.post k (.bl _)⟩
/-- in a list of data -/
theorem od_inL {ds : List D} (e1 : vw ρ2 r1 = some d1) (e2 : vw ρ2 r2 = some (.list ds)) (s1 : SeqAt.shaped d1 = true) (s2 : SeqAt.shaped (.list ds) = true) (hu : Z.X.A.units + 65 < cLine) (k : Φ (.dat (.bool (ds.any fun z => PyData.eqv z d1))) ρ2) : OpD Z (compareOp .In) ρ2 r1 r2 Φ :=
  OpD.of (op_inD hu) fun M M2 ρ σ H H2 x y p t => ⟨d1, ds, (t.v1 e1).dp, (t.v2 e2).dp, s1, s2, t.post k (.bl _)⟩
theorem od_notInL {ds : List D} (e1 : vw ρ2 r1 = some d1) (e2 : vw ρ2 r2 = some (.list ds)) (s1 : SeqAt.shaped d1 = true) (s2 : SeqAt.shaped (.list ds) = true) (hu : Z.X.A.units + 65 < cLine) (k : Φ (.dat (.bool (!ds.any fun z => PyData.eqv z d1))) ρ2) : OpD Z (compareOp .NotIn) ρ2 r1 r2 Φ :=
  OpD.of (op_notInD hu) fun M M2 ρ σ H H2 x y p t => ⟨d1, ds, (t.v1 e1).dp, (t.v2 e2).dp, s1, s2, t.post k (.bl _)⟩
end
end DL
set_option Elab.async false
set_option linter.all false
set_option maxRecDepth 100000
/-! DLe: and, or, not, if-expressions, truth, chains, arguments, displays, subscripts, slices. -/
namespace DL
open PySem PySem.Spec PyProof.Rows L2
/-- by a bool's two cases -/
def bcase (b : Bool) (P Q : Prop) : Prop := (b = true → P) ∧ (b = false → Q)
theorem bcase.ite {b : Bool} {P Q : Prop} (h : bcase b P Q) : if b = true then P else Q := by
  cases b with
  | true => rw [if_pos rfl]; exact h.1 rfl
  | false => rw [if_neg Bool.false_ne_true]; exact h.2 rfl
theorem bcase_t {P Q : Prop} (h : P) : bcase true P Q := ⟨fun _ => h, fun z => Bool.noConfusion z⟩
theorem bcase_f {P Q : Prop} (h : Q) : bcase false P Q := ⟨fun z => Bool.noConfusion z, fun _ => h⟩
section
variable {Z : Ct} {ρ ρ1 ρ2 : Env} {Φ : Rv → Env → Prop} {Ψ : Bool → Env → Prop} {e a b c : Expr} {pos : Pos} {r1 r2 : Rv} {M M1 : AS} {σ : St} {H H1 H2 : Hp}
theorem PostT.trans (p : PostT Z M ρ σ H H1 ρ1) (q : PostT Z M ρ1 σ H1 H2 ρ2) : PostT Z M ρ σ H H2 ρ2 :=
  ⟨p.sim.trans q.sim, p.kp.trans (by rw [← p.sim.mo]; exact q.kp), q.st⟩
theorem PostT.toB {b : Bool} (p : PostT Z M ρ σ H H1 ρ1) (q : PostB Z M ρ1 σ H1 Ψ b H2) : PostB Z M ρ σ H Ψ b H2 := by
  obtain ⟨ρ2, h, o⟩ := q
  exact ⟨ρ2, h, p.trans o⟩
theorem new_back {W : AS} (k : Kp W H H1) (hw : ∀ a, W a → M a) (n1 : ∀ a, M1 a → M a ∨ H1 a = none) : ∀ a, M1 a → M a ∨ H a = none := fun a z => by
  by_cases n : M a
  · exact .inl n
  · rcases n1 a z with w | w
    · exact .inl w
    · exact .inr (fresh_back k (fun y => n (hw a y)) w)
theorem PostT.to (p : PostT Z M ρ σ H H1 ρ1) (pr : Pre Z M ρ σ H) {v : V} (q : Post Z M ρ1 σ H1 Φ v H2) : Post Z M ρ σ H Φ v H2 := by
  obtain ⟨r, ρ2, M2, h, o⟩ := q
  exact ⟨r, ρ2, M2, h, p.sim.trans o.sim, p.kp.trans (by rw [← p.sim.mo]; exact o.kp), o.more, new_back p.kp pr.st.own o.new, o.st, o.pd⟩
theorem EndO.trans {M2 : AS} (x : EndO Z M M1 ρ ρ1 σ H H1) (p : Pre Z M ρ σ H) (y : EndO Z M1 M2 ρ1 ρ2 σ H1 H2) : EndO Z M M2 ρ ρ2 σ H H2 :=
  ⟨x.sim.trans y.sim, x.kp.trans (by rw [← x.sim.mo]; exact y.kp), fun a h => y.more a (x.more a h), fun a h => by
    by_cases n : M a
    · exact .inl n
    · refine .inr ?_
      rcases y.new a h with z | z
      · rcases x.new a z with w | w
        · exact absurd w n
        · exact w
      · exact fresh_back x.kp (fun w => n (p.st.own a w)) z, y.st⟩
theorem EndO.pre (x : EndO Z M M1 ρ ρ1 σ H H1) (p : Pre Z M ρ σ H) : Pre Z M1 ρ1 σ H1 := ⟨fun a w => x.more a (p.m0 a w), x.st, by rw [x.sim.mo]; exact p.base.trans ⟨x.kp, fun _ w => .inl w⟩, p.w0, p.more x.new⟩
theorem PostT.endO (p : PostT Z M ρ σ H H1 ρ1) : EndO Z M M ρ ρ1 σ H H1 := ⟨p.sim, p.kp, fun _ h => h, fun _ h => .inl h, p.st⟩
/-! ### not, and, or -/
theorem dt_not (h : DT Z a ρ fun b ρ' => Ψ (!b) ρ') : DT Z (.UnaryOp .Not a pos) ρ Ψ := fun M σ H p pins s I => (pt_not (pt_u Z.X a)).run pins s σ H _ I (h M σ H p)
theorem dw_and1 (h : DT Z a ρ Ψ) : DW Z (.BoolOp .And [a] pos) ρ Ψ := fun M σ H p wh pins s I => (pw_and1 (pt_u Z.X a)).run wh pins s σ H _ I (h M σ H p)
theorem dw_or1 (h : DT Z a ρ Ψ) : DW Z (.BoolOp .Or [a] pos) ρ Ψ := fun M σ H p wh pins s I => (pw_or1 (pt_u Z.X a)).run wh pins s σ H _ I (h M σ H p)
theorem dw_and {rest : List Expr} (h : DT Z a ρ fun x ρ1 => bcase x (DW Z (.BoolOp .And (b :: rest) pos) ρ1 Ψ) (Ψ false ρ1)) : DW Z (.BoolOp .And (a :: b :: rest) pos) ρ Ψ := fun M σ H p wh pins s I =>
  (pw_and (pt_u Z.X a) (pw_u Z.X (.BoolOp .And (b :: rest) pos))).run wh pins s σ H _ I ((h M σ H p).mono fun x H1 ⟨ρ1, k, o⟩ => bcase.ite ⟨fun e => fun wh pins s I => by
    subst e
    exact thn (k.1 rfl M σ H1 (o.pre p) wh pins s I) fun y s1 ⟨H2, I2, q⟩ => ⟨H2, I2, o.toB q⟩, fun e => by subst e; exact ⟨ρ1, k.2 rfl, o⟩⟩)
theorem dw_or {rest : List Expr} (h : DT Z a ρ fun x ρ1 => bcase x (Ψ true ρ1) (DW Z (.BoolOp .Or (b :: rest) pos) ρ1 Ψ)) : DW Z (.BoolOp .Or (a :: b :: rest) pos) ρ Ψ := fun M σ H p wh pins s I =>
  (pw_or (pt_u Z.X a) (pw_u Z.X (.BoolOp .Or (b :: rest) pos))).run wh pins s σ H _ I ((h M σ H p).mono fun x H1 ⟨ρ1, k, o⟩ => bcase.ite ⟨fun e => by subst e; exact ⟨ρ1, k.1 rfl, o⟩, fun e => fun wh pins s I => by
    subst e
    exact thn (k.2 rfl M σ H1 (o.pre p) wh pins s I) fun y s1 ⟨H2, I2, q⟩ => ⟨H2, I2, o.toB q⟩⟩)
theorem dt_w (h : DW Z e ρ Ψ) : DT Z e ρ Ψ := fun M σ H p pins s I => h M σ H p _ pins s I
/-- as values -/
theorem Post.boolV {M : AS} {x : V} (q : Post Z M ρ σ H (fun r ρ' => ∃ b, r = .dat (.bool b) ∧ Ψ b ρ') x H1) (p : Pre Z M ρ σ H) : ∃ k, x = .bl k ∧ PostB Z M ρ σ H Ψ k H1 := Post.bool q p
theorem de_one {op : BoolOp} (h : DE Z a ρ Φ) : DE Z (.BoolOp op [a] pos) ρ Φ := fun M σ H p pins s I => (pe_one (pe_u Z.X a)).run pins s σ H _ I (h M σ H p)
theorem de_and {rest : List Expr} (h : DE Z a ρ (boolR fun x ρ1 => bcase x (DE Z (.BoolOp .And (b :: rest) pos) ρ1 Φ) (Φ (.dat (.bool false)) ρ1))) : DE Z (.BoolOp .And (a :: b :: rest) pos) ρ Φ := fun M σ H p pins s I =>
  (pe_and (pe_u Z.X a) (pe_u Z.X (.BoolOp .And (b :: rest) pos))).run pins s σ H _ I ((h M σ H p).mono fun x H1 q => by
    obtain ⟨k, e, ρ1, t, o⟩ := q.bool p
    refine ⟨k, e, bcase.ite ⟨fun z => ?_, fun z => ?_⟩⟩
    · subst z
      exact (t.1 rfl M σ H1 (o.pre p)).mono fun v H2 w => o.to p w
    · subst z
      exact o.to p ((o.pre p).post (t.2 rfl) (.bl false)))
theorem de_or {rest : List Expr} (h : DE Z a ρ (boolR fun x ρ1 => bcase x (Φ (.dat (.bool true)) ρ1) (DE Z (.BoolOp .Or (b :: rest) pos) ρ1 Φ))) : DE Z (.BoolOp .Or (a :: b :: rest) pos) ρ Φ := fun M σ H p pins s I =>
  (pe_or (pe_u Z.X a) (pe_u Z.X (.BoolOp .Or (b :: rest) pos))).run pins s σ H _ I ((h M σ H p).mono fun x H1 q => by
    obtain ⟨k, e, ρ1, t, o⟩ := q.bool p
    refine ⟨k, e, bcase.ite ⟨fun z => ?_, fun z => ?_⟩⟩
    · subst z
      exact o.to p ((o.pre p).post (t.1 rfl) (.bl true))
    · subst z
      exact (t.2 rfl M σ H1 (o.pre p)).mono fun v H2 w => o.to p w)
theorem de_not (h : DE Z a ρ (boolR fun b ρ' => Φ (.dat (.bool (!b))) ρ')) : DE Z (.UnaryOp .Not a pos) ρ Φ := fun M σ H p pins s I => (pe_not (pe_u Z.X a)).run pins s σ H _ I ((h M σ H p).mono fun x H1 q => by
  obtain ⟨k, e, ρ1, t, o⟩ := q.bool p
  exact ⟨k, e, o.to p ((o.pre p).post t (.bl _))⟩)
/-- a if c else b -/
theorem de_if (h : DT Z c ρ fun x ρ1 => bcase x (DE Z a ρ1 Φ) (DE Z b ρ1 Φ)) : DE Z (.IfExp c a b pos) ρ Φ := fun M σ H p pins s I =>
  (pe_ifExp (pt_u Z.X c) (pe_u Z.X a) (pe_u Z.X b)).run pins s σ H _ I ((h M σ H p).mono fun x H1 ⟨ρ1, t, o⟩ => bcase.ite ⟨fun z => (t.1 z M σ H1 (o.pre p)).mono fun v H2 w => o.to p w, fun z => (t.2 z M σ H1 (o.pre p)).mono fun v H2 w => o.to p w⟩)
/-- one operand, one rule -/
theorem PostO.v {v : V} {r : Rv} {d : D} {M' : AS} {H' : Hp} {ρ' : Env} (o : PostO Z M ρ σ H v H' r ρ' M') (e : vw ρ' r = some d) : SeqR Z.X.K M' H' v d := o.pd.view o.st e
theorem de_neg (h : DE Z a ρ fun r ρ' => ∃ i, vw ρ' r = some (.int i) ∧ Φ (.dat (.int (-i))) ρ') : DE Z (.UnaryOp .USub a pos) ρ Φ := fun M σ H p pins s I => (pe_un un_neg (pe_u Z.X a)).run pins s σ H _ I ((h M σ H p).mono fun x H1 ⟨r, ρ1, M1, ⟨i, e, t⟩, o⟩ =>
  ⟨i, (o.v e).int, o.endO.post t (.int _)⟩)
/-- low <= value <= high, of ints -/
theorem de_chain {op op' : CmpOp} {g g' : Int → Int → Bool} (ho : OpR Z.X (compareOp op) (rI0 fun i j => .bl (g i j))) (ho' : OpR Z.X (compareOp op') (rI0 fun i j => .bl (g' i j)))
    (h : DE Z a ρ fun r1 ρ1 => DE Z b ρ1 fun r2 ρ2 => ∃ i j, vw ρ2 r1 = some (.int i) ∧ vw ρ2 r2 = some (.int j) ∧ bcase (g i j) (DE Z c ρ2 fun r3 ρ3 => ∃ k, vw ρ3 r3 = some (.int k) ∧ Φ (.dat (.bool (g' j k))) ρ3) (Φ (.dat (.bool false)) ρ2))
    (hm : lastMarks [op, op'] [b, c] = false := by with_unfolding_all rfl) : DE Z (.Compare a [op, op'] [b, c] pos) ρ Φ := fun M σ H p pins s I =>
  (pe_chain ho ho' (pe_u Z.X a) (pe_u Z.X b) (pe_u Z.X c) hm).run pins s σ H _ I (two (Q := fun x y H2 => rI0 (fun i j => .bl (g i j)) x y H2 fun z H3 => ∃ k, z = .bl k ∧ if k = true then uE Z.X c σ H3 (fun z' H4 => rI0 (fun i j => .bl (g' i j)) y z' H4 (Post Z M ρ σ H Φ)) else Post Z M ρ σ H Φ (.bl false) H3) p h fun x y H2 r1 r2 ρ2 M2 ⟨i, j, e1, e2, k⟩ t => by
    have v1 := (t.v1 e1).int
    have v2 := (t.v2 e2).int
    refine ⟨i, j, v1, v2, g i j, rfl, bcase.ite ⟨fun z => ?_, fun z => ?_⟩⟩
    · exact (k.1 z M2 σ H2 (t.endO.pre p)).mono fun z' H4 ⟨r3, ρ3, M3, ⟨n, e3, w⟩, o⟩ => ⟨j, n, v2, (o.v e3).int, (t.endO.trans p o.endO).post w (.bl _)⟩
    · exact t.post (k.2 z) (.bl false))
end
end DL
set_option Elab.async false
set_option linter.all false
set_option maxRecDepth 100000
/-! DLf: arguments, displays, subscripts, slices, built-in calls. -/
namespace DL
open PySem PySem.Spec PyProof.Rows L2
section
variable {Z : Ct} {ρ ρ1 ρ2 : Env} {Φ : Rv → Env → Prop} {Θ : List Rv → Env → Prop} {e a b c : Expr} {es : List Expr} {pos : Pos} {r1 r2 : Rv} {M M1 : AS} {σ : St} {H H1 H2 : Hp}
/-! ### arguments -/
theorem da_nil (k : Θ [] ρ) : DA Z [] ρ Θ := fun M σ H p pos pins s I => pa_nil.run pos pins s σ H _ I ⟨[], ρ, M, k, Sim.refl ρ, Kp.refl _ H, fun _ h => h, fun _ h => .inl h, p.st, .nil⟩
theorem PdA.keep {K : PySem.W.Frag} {T : List (Addr × Str)} {M M' : AS} {H H' : Hp} {ρ ρ' : Env} {σ : St} : ∀ {N : AS} {vs : List V} {rs : List Rv}, PdA K M ρ σ H N vs rs → StS K T M ρ σ H → (∀ a, Mo ρ a → N a) → Sim ρ ρ' → Kp (Mo ρ) H H' → (∀ a, M' a → M a ∨ H a = none) → (∀ a, M a → M' a) → PdA K M' ρ' σ H' N vs rs
  | _, _, _, .nil, _, _, _, _, _, _ => .nil
  | _, _, _, .cons h r, S, hN, sim, k, nw, mo => .cons (h.keep S hN sim k nw mo) (PdA.keep r S (fun a z => .inl (hN a z)) sim k nw mo)
theorem PdA.imp {K : PySem.W.Frag} {M : AS} {H : Hp} {ρ : Env} {σ : St} : ∀ {N N' : AS} {vs : List V} {rs : List Rv}, PdA K M ρ σ H N vs rs → (∀ a, N' a → N a) → PdA K M ρ σ H N' vs rs
  | _, _, _, _, .nil, _ => .nil
  | _, _, _, _, .cons h r, s => .cons (by
      rename_i v vs rr rs
      cases rr with
      | dat d => exact h
      | raw x => exact h
      | slot i => exact h
      | frs m =>
        obtain ⟨a, e, ma, na, ok⟩ := h
        exact ⟨a, e, ma, fun z => na (s a z), ok⟩) (PdA.imp r fun a z => z.imp (s a) id)
theorem da_cons (h : DE Z e ρ fun r ρ1 => DA Z es ρ1 fun rs ρ2 => Θ (r :: rs) ρ2) (hs : starEach (e :: es) Z.X.env = (false, eval e Z.X.env) :: starEach es Z.X.env := by rfl) : DA Z (e :: es) ρ Θ := fun M σ H p pos pins s I =>
  (pa_cons (pe_u Z.X e) (pa_u Z.X es) hs).run pos pins s σ H _ I ((h M σ H p).mono fun x H1 ⟨r, ρ1, M1, h1, o⟩ => (h1 M1 σ H1 (o.pre p)).mono fun xs H2 ⟨rs, ρ2, M2, h2, o2⟩ => by
    have c := o.endO.trans p o2.endO
    refine ⟨r :: rs, ρ2, M2, h2, c.sim, c.kp, c.more, c.new, c.st, .cons (o.pd.keep o.st (fun a z => p.st.own a (by rw [← o.sim.mo]; exact z)) o2.sim o2.kp o2.new o2.more) (o2.pd.imp fun a z => ?_)⟩
    rcases z with z | ⟨⟨m, e1⟩, e2⟩
    · exact o.more a z
    · have q := o.pd
      rw [e1] at q
      obtain ⟨b, e3, mb, _⟩ := q
      rw [e2] at e3
      cases e3
      exact mb)
theorem DA.imp {Θ' : List Rv → Env → Prop} (h : DA Z es ρ Θ) (f : ∀ r ρ', Θ r ρ' → Θ' r ρ') : DA Z es ρ Θ' := fun M σ H p => (h M σ H p).mono fun _ _ ⟨rs, ρ', M', q, o⟩ => ⟨rs, ρ', M', f _ _ q, o⟩
/-! ### displays: all items as data -/
def vwds : List Rv → Option (List D)
  | [] => some []
  | r :: rs => match vwd r, vwds rs with
    | some d, some ds => some (d :: ds)
    | _, _ => none
theorem PdA.data {K : PySem.W.Frag} {M : AS} {H : Hp} {ρ : Env} {σ : St} : ∀ {N : AS} {vs : List V} {rs : List Rv} {ds : List D}, PdA K M ρ σ H N vs rs → (∀ a, N a → M a) → vwds rs = some ds → RpA K N H vs ds
  | _, _, _, _, .nil, _, e => by cases e; exact .nil
  | N, _, _, ds, .cons (v := v) (r := r) (rs := rs) h q, s, e => by
    have e' : (match vwd r, vwds rs with
      | some d, some ds => some (d :: ds)
      | _, _ => none) = some ds := e
    cases e1 : vwd r with
    | none => rw [e1] at e'; cases e'
    | some d =>
      cases e2 : vwds rs with
      | none => rw [e1, e2] at e'; cases e'
      | some ds' =>
        rw [e1, e2] at e'
        cases e'
        have s' : ∀ a, (N a ∨ frsA r v a) → M a := fun a z => by
          rcases z with z | ⟨⟨m, f1⟩, f2⟩
          · exact s a z
          · rw [f1] at h
            obtain ⟨b, f3, mb, _⟩ := h
            rw [f2] at f3
            cases f3
            exact mb
        exact .cons (h.data s e1) (RpA.less (q.data s' e2) fun a z => .inl z)
/-- the end of an argument list, its new things given up -/
theorem PostL.less {vs : List V} {rs : List Rv} {M' : AS} (o : PostL Z M ρ σ H vs H1 rs ρ1 M') (p : Pre Z M ρ σ H) : EndO Z M M ρ ρ1 σ H H1 :=
  ⟨o.sim, o.kp, fun _ h => h, fun _ h => .inl h, o.st.less (fun a z => p.st.own a (by rw [← o.sim.mo]; exact z)) o.more⟩
theorem PostO.less {v : V} {r : Rv} {M' : AS} (o : PostO Z M ρ σ H v H1 r ρ1 M') (p : Pre Z M ρ σ H) : EndO Z M M ρ ρ1 σ H H1 :=
  ⟨o.sim, o.kp, fun _ h => h, fun _ h => .inl h, o.st.less (fun a z => p.st.own a (by rw [← o.sim.mo]; exact z)) o.more⟩
theorem de_tup {n : Nat} (h : DA Z es ρ fun rs ρ' => ∃ ds, vwds rs = some ds ∧ ds.length ≤ sizeLine ∧ Φ (.dat (.tuple ds)) ρ') : DE Z (.Tuple es n pos) ρ Φ := fun M σ H p pins s I =>
  (pe_tup (pa_u Z.X es)).run pins s σ H _ I ((h M σ H p).mono fun xs H1 ⟨rs, ρ1, M1, ⟨ds, e, hz, k⟩, o⟩ => by
    have r := o.pd.data o.more e
    exact ⟨by rw [r.length]; exact hz, fun q hq => (o.less p).tuple k hq r⟩)
theorem de_lst (h : DA Z es ρ fun rs ρ' => ∃ ds, vwds rs = some ds ∧ ds.length ≤ sizeLine ∧ Φ (.frs (.lst ds)) ρ') : DE Z (.List es pos) ρ Φ := fun M σ H p pins s I =>
  (pe_lst (pa_u Z.X es)).run pins s σ H _ I ((h M σ H p).mono fun xs H1 ⟨rs, ρ1, M1, ⟨ds, e, hz, k⟩, o⟩ => by
    have r := o.pd.data o.more e
    exact ⟨by rw [r.length]; exact hz, fun q hq => (o.less p).list k hq r⟩)
/-! ### subscripts -/
theorem atI_get {α : Type} {xs : List α} {i : Int} {x : α} (h : atI xs i = some x) : ∃ j, ixN xs.length i = some j ∧ xs[j]? = some x := by
  unfold atI at h
  cases e : ixN xs.length i with
  | none => rw [e] at h; cases h
  | some j => rw [e] at h; exact ⟨j, rfl, h⟩
theorem RpA.atI {K : PySem.W.Frag} {M : AS} {H : Hp} {vs : List V} {ds : List D} {i : Int} {d : D} (r : RpA K M H vs ds) (h : L2.atI ds i = some d) : ∃ v, L2.atI vs i = some v ∧ Rp K M H v d := by
  obtain ⟨j, e1, e2⟩ := atI_get h
  obtain ⟨v, e3, rv⟩ := r.get e2
  refine ⟨v, ?_, rv⟩
  unfold L2.atI
  rw [r.length, e1]
  exact e3
/-- xs[i] -/
def dIx : D → Int → Option D
  | .list ds, i => atI ds i
  | .tuple ds, i => atI ds i
  | .str z, i => (atI z.cps.toList i).map fun c => .str ⟨#[c]⟩
  | _, _ => none
theorem Two.ix {M2 : AS} {x y : V} {d v : D} {i : Int} (t : Two Z M M2 ρ ρ2 σ H H2 x y r1 r2) (e1 : vw ρ2 r1 = some d) (e2 : vw ρ2 r2 = some (.int i)) (h : dIx d i = some v) (hz : ∀ z, d = .str z → z.length ≤ sizeLine) (k : Φ (.dat v) ρ2) : rIx Z.X.K x y H2 (Post Z M ρ σ H Φ) := by
  have y2 := (t.v2 e2).int
  cases d with
  | list ds =>
    obtain ⟨l, xs, rfl, h1, g1⟩ := (t.v1 e1).list
    obtain ⟨u, a1, ru⟩ := g1.atI h
    exact .inl ⟨l, xs, i, u, rfl, y2, h1, a1, t.post k ru⟩
  | tuple ds =>
    obtain ⟨l, xs, rfl, h1, g1⟩ := (t.v1 e1).tuple
    obtain ⟨u, a1, ru⟩ := g1.atI h
    exact .inr (.inl ⟨l, xs, i, u, rfl, y2, h1, a1, t.post k ru⟩)
  | str z =>
    have x1 := (t.v1 e1).str
    have h' : (atI z.cps.toList i).map (fun c => PyData.str ⟨#[c]⟩) = some v := h
    cases q : atI z.cps.toList i with
    | none => rw [q] at h'; cases h'
    | some c =>
      rw [q] at h'
      cases h'
      exact .inr (.inr ⟨z, i, c, x1, y2, hz z rfl, q, t.post k (.str _)⟩)
  | none => cases h
  | bool _ => cases h
  | int _ => cases h
  | dict _ => cases h
theorem de_ix (h : DE Z a ρ fun r1 ρ1 => DE Z b ρ1 fun r2 ρ2 => ∃ d i v, vw ρ2 r1 = some d ∧ vw ρ2 r2 = some (.int i) ∧ dIx d i = some v ∧ (∀ z, d = .str z → z.length ≤ sizeLine) ∧ Φ (.dat v) ρ2) (hs : PlainIx b := by exact fun _ _ => rfl) : DE Z (.Subscript a b pos) ρ Φ := fun M σ H p pins s I =>
  (pe_ix ix_seq (pe_u Z.X a) (pe_u Z.X b) hs).run pins s σ H _ I (two p h fun x y H2 r1 r2 ρ2 M2 ⟨d, i, v, e1, e2, h1, hz, k⟩ t => t.ix e1 e2 h1 hz k)
/-! ### calls of built-ins -/
/-- a built-in's call on results -/
def CallD (Z : Ct) (f : Value) (rs : List Rv) (ρ2 : Env) (Φ : Rv → Env → Prop) : Prop := ∀ M M2 ρ σ H H2 vs, Pre Z M ρ σ H → PostL Z M ρ σ H vs H2 rs ρ2 M2 → ∀ pins s us, Inv Z.X pins σ H2 s → Vals vs us → wpAny (model Z.X.prog Z.X.w) Z.X.A (call f us) (EP Z.X pins σ (Post Z M ρ σ H Φ)) Z.X.xe s
theorem CallD.of {f : Value} {rs : List Rv} {r : List V → Hp → VK → Prop} (ho : CallR Z.X f r) (k : ∀ M M2 ρ σ H H2 vs, Pre Z M ρ σ H → PostL Z M ρ σ H vs H2 rs ρ2 M2 → r vs H2 (Post Z M ρ σ H Φ)) : CallD Z f rs ρ2 Φ :=
  fun M M2 ρ σ H H2 vs p t pins s us I rv => ho pins s σ H2 vs us _ I rv (k M M2 ρ σ H H2 vs p t)
theorem de_callB {x : Str} {id : String} {p1 : Pos} (hm : Z.X.mg x = none) (hv : bootBuiltins x = some (.builtin id)) (h : DA Z (e :: es) ρ fun rs ρ' => CallD Z (.builtin id) rs ρ' Φ) (hg : Gl Z.X x := by rfl) (hn : x ≠ "__name__" := by decide) (hdb : (x == ("__debug__" : Str)) = false := by decide)
    (he : starEach (e :: es) Z.X.env = (false, eval e Z.X.env) :: starEach es Z.X.env := by rfl) (hpl : (backTo pos (starEach es Z.X.env)).any (·.1) = false := by rfl) : DE Z (.Call (.Name x p1) (e :: es) [] pos) ρ Φ := fun M σ H p pins s I => by
  refine wpAny_Call_Name_kw (ld_blt I hg hm hv ?_ hn hdb)
  exact PyProof.Rows.callWith_builtin1 (thn (h M σ H p pos pins s I) fun us s1 ⟨vs, H1, I1, r1, rs, ρ1, M1, k, o⟩ => k M M1 ρ σ H H1 vs p o pins s1 us I1 r1) he hpl
theorem de_callT {x : Str} {T : String} {p1 : Pos} (hm : Z.X.mg x = none) (hv : bootBuiltins x = some (.type T)) (h : DA Z (e :: es) ρ fun rs ρ' => CallD Z (.type T) rs ρ' Φ) (hg : Gl Z.X x := by rfl) (hn : x ≠ "__name__" := by decide) (hdb : (x == ("__debug__" : Str)) = false := by decide)
    (he : starEach (e :: es) Z.X.env = (false, eval e Z.X.env) :: starEach es Z.X.env := by rfl) (hpl : (backTo pos (starEach es Z.X.env)).any (·.1) = false := by rfl) : DE Z (.Call (.Name x p1) (e :: es) [] pos) ρ Φ := fun M σ H p pins s I => by
  refine wpAny_Call_Name_kw (ld_blt I hg hm hv ?_ hn hdb)
  exact PyProof.Rows.callWith_type1 (thn (h M σ H p pos pins s I) fun us s1 ⟨vs, H1, I1, r1, rs, ρ1, M1, k, o⟩ => k M M1 ρ σ H H1 vs p o pins s1 us I1 r1) he hpl
/-- methods of built-in types: which results may stand ahead of the dot -/
def TyR (T : String) (ρ : Env) (r : Rv) : Prop := match T with
  | "str" => ∃ z, vw ρ r = some (.str z)
  | "list" => ∃ ds, vw ρ r = some (.list ds)
  | "dict" => ∃ i, r = .slot i ∧ ((∃ a kvs, ρ[i]? = some (some (C.own a (.dK kvs)))) ∨ ∃ a kvs, ρ[i]? = some (some (C.own a (.dT kvs))))
  | _ => False
theorem PostO.tyV {v : V} {r : Rv} {M' : AS} {T : String} (o : PostO Z M ρ σ H v H1 r ρ1 M') (h : TyR T ρ1 r) : L2.tyV Z.X.K T v H1 := by
  unfold TyR at h
  split at h
  · obtain ⟨z, e⟩ := h
    rw [(o.v e).str]
    rfl
  · obtain ⟨ds, e⟩ := h
    obtain ⟨a, xs, rfl, q, _⟩ := (o.v e).list
    exact .inl ⟨rfl, xs, q⟩
  · obtain ⟨i, rfl, h⟩ := h
    obtain ⟨_, e⟩ := o.pd
    rcases h with ⟨a, kvs, h⟩ | ⟨a, kvs, h⟩
    · obtain ⟨v', e1, rfl, _, xs, q, _⟩ := o.st.at_ i _ h
      rw [e] at e1
      cases e1
      exact .inr (.inr (.inl ⟨rfl, .inl ⟨xs, q⟩⟩))
    · obtain ⟨v', e1, rfl, _, xs, q, _⟩ := o.st.at_ i _ h
      rw [e] at e1
      cases e1
      exact .inr (.inr (.inl ⟨rfl, .inr ⟨xs, q⟩⟩))
  · cases h
theorem PostL.cons {v : V} {r : Rv} {M' M2 : AS} {vs : List V} {rs : List Rv} (o : PostO Z M ρ σ H v H1 r ρ1 M') (o2 : PostL Z M' ρ1 σ H1 vs H2 rs ρ2 M2) (p : Pre Z M ρ σ H) : PostL Z M ρ σ H (v :: vs) H2 (r :: rs) ρ2 M2 := by
  have c := o.endO.trans p o2.endO
  refine ⟨c.sim, c.kp, c.more, c.new, c.st, .cons (o.pd.keep o.st (fun a z => p.st.own a (by rw [← o.sim.mo]; exact z)) o2.sim o2.kp o2.new o2.more) (o2.pd.imp fun a z => ?_)⟩
  rcases z with z | ⟨⟨m, e1⟩, e2⟩
  · exact o.more a z
  · have q := o.pd
    rw [e1] at q
    obtain ⟨b, e3, mb, _⟩ := q
    rw [e2] at e3
    cases e3
    exact mb
theorem de_bm {o : Expr} {name : Str} {apos cpos : Pos} {T id : String} (pa : PlainAttrs T) (slot : Slot T name id) (hty : typeOf (.builtin id) = pure (.type "method_descriptor"))
    (h : DE Z o ρ fun r0 ρ1 => TyR T ρ1 r0 ∧ DA Z (e :: es) ρ1 fun rs ρ2 => CallD Z (.builtin id) (r0 :: rs) ρ2 Φ)
    (hbase : attributeBase o name Z.X.env (eval o Z.X.env) = eval o Z.X.env := by rfl)
    (hfew : ((backTo cpos (starEach (e :: es) Z.X.env)).all (fun x => !x.1) && (backToKw cpos (keywordEach [] Z.X.env)).all (fun x => x.1.isSome)
      && decide ((e :: es).length + ([] : List Keyword).length + (if ([] : List Keyword).isEmpty then 0 else 1) < 30)) = true := by rfl)
    (hline : (apos.endLine == cpos.line) = true := by rfl) (hs : starEach (e :: es) Z.X.env = (false, eval e Z.X.env) :: starEach es Z.X.env := by rfl) (hplain : (backTo cpos (starEach es Z.X.env)).any (·.1) = false := by rfl) :
    DE Z (.Call (.Attribute o name apos) (e :: es) [] cpos) ρ Φ := fun M σ H p pins s I => by
  refine wpAny_Call_method_late hbase hfew hline rfl (thn (h M σ H p pins s I) fun v s1 ⟨x, H1, I1, r1, r, ρ1, M1, ⟨ty, k⟩, o⟩ => ?_)
  obtain ⟨h1, h2⟩ := tyV_is I1 r1 (o.tyV ty)
  refine ⟨T, id, pa, slot, hty, h1, h2, ?_⟩
  have hA := k M1 σ H1 (o.pre p) cpos pins s1 I1
  rw [hs] at hA ⊢
  refine Calls.callWith_builtin (by show (false || (backTo cpos (starEach es Z.X.env)).any (·.1)) = false; rw [hplain] <;> rfl) (Calls.evalArgs_plain ?_)
  exact thn hA fun us s2 ⟨vs, H2, I2, r2, rs, ρ2, M2, k2, o2⟩ => k2 M M2 ρ σ H H2 (x :: vs) p (PostL.cons o o2 p) pins s2 (v :: us) I2 (.cons r1 r2)
theorem de_bm0 {o : Expr} {name : Str} {apos cpos : Pos} {T id : String} (pa : PlainAttrs T) (slot : Slot T name id) (hty : typeOf (.builtin id) = pure (.type "method_descriptor"))
    (h : DE Z o ρ fun r0 ρ1 => TyR T ρ1 r0 ∧ CallD Z (.builtin id) [r0] ρ1 Φ)
    (hbase : attributeBase o name Z.X.env (eval o Z.X.env) = eval o Z.X.env := by rfl) (hline : (apos.endLine == cpos.line) = true := by rfl) : DE Z (.Call (.Attribute o name apos) [] [] cpos) ρ Φ := fun M σ H p pins s I => by
  refine wpAny_Call_method0_late hbase hline (thn (h M σ H p pins s I) fun v s1 ⟨x, H1, I1, r1, r, ρ1, M1, ⟨ty, k⟩, o⟩ => ?_)
  obtain ⟨h1, h2⟩ := tyV_is I1 r1 (o.tyV ty)
  refine ⟨T, id, pa, slot, hty, h1, h2, Calls.callWith_builtin rfl (PySem.evalArgs_none ?_)⟩
  exact k M M1 ρ σ H H1 [x] p ⟨o.sim, o.kp, o.more, o.new, o.st, .cons o.pd .nil⟩ pins s1 [v] I1 (.cons r1 .nil)
/-- from a method's rule by values -/
theorem CallD.ofM {id : String} {rs : List Rv} {r0 : Rv} {r : V → List V → Hp → VK → Prop} (ho : MtR Z.X id r) (k : ∀ M M2 ρ σ H H2 v vs, Pre Z M ρ σ H → PostL Z M ρ σ H (v :: vs) H2 (r0 :: rs) ρ2 M2 → r v vs H2 (Post Z M ρ σ H Φ)) : CallD Z (.builtin id) (r0 :: rs) ρ2 Φ :=
  fun M M2 ρ σ H H2 vs p t pins s us I rv => by
    cases rv with
    | nil => cases t.pd
    | cons r1 r2 => exact ho pins s σ H2 _ _ _ _ _ I r1 r2 (k M M2 ρ σ H H2 _ _ p t)
/-- one, two results -/
theorem PostL.one {vs : List V} {r : Rv} {M2 : AS} (t : PostL Z M ρ σ H vs H2 [r] ρ2 M2) : ∃ v, vs = [v] ∧ PostO Z M ρ σ H v H2 r ρ2 M2 := by
  have q := t.pd
  cases q with
  | cons h r => cases r; exact ⟨_, rfl, t.sim, t.kp, t.more, t.new, t.st, h⟩
theorem PdA.view {K : PySem.W.Frag} {T : List (Addr × Str)} : ∀ {N : AS} {vs : List V} {rs : List Rv} {i : Nat} {r : Rv} {d : D}, PdA K M ρ σ H N vs rs → StS K T M ρ σ H → rs[i]? = some r → vw ρ r = some d → ∃ v, vs[i]? = some v ∧ SeqR K M H v d
  | _, _, _, _, _, _, .nil, _, e, _ => by simp at e
  | _, _, _, 0, _, _, .cons h _, S, e, f => by simp at e; subst e; exact ⟨_, rfl, h.view S f⟩
  | _, _, _, i + 1, r, d, .cons _ q, S, e, f => by
    obtain ⟨v, h1, h2⟩ := PdA.view (i := i) (r := r) (d := d) q S (by simpa using e) f
    exact ⟨v, by simpa using h1, h2⟩
theorem PdA.length {K : PySem.W.Frag} : ∀ {N : AS} {vs : List V} {rs : List Rv}, PdA K M ρ σ H N vs rs → vs.length = rs.length
  | _, _, _, .nil => rfl
  | _, _, _, .cons _ q => by rw [List.length_cons, List.length_cons, PdA.length q]
theorem PostL.two {vs : List V} {r1 r2 : Rv} {d1 d2 : D} {M2 : AS} (t : PostL Z M ρ σ H vs H2 [r1, r2] ρ2 M2) (e1 : vw ρ2 r1 = some d1) (e2 : vw ρ2 r2 = some d2) : ∃ v u, vs = [v, u] ∧ SeqR Z.X.K M2 H2 v d1 ∧ SeqR Z.X.K M2 H2 u d2 := by
  have q := t.pd
  cases q with
  | cons h r => cases r with
    | cons h' r => cases r; exact ⟨_, _, rfl, h.view t.st e1, h'.view t.st e2⟩
theorem EndO.data {v : V} {d : D} {M2 : AS} (t : EndO Z M M2 ρ ρ2 σ H H2) (k : Φ (.dat d) ρ2) (r : Rp Z.X.K M2 H2 v d) : Post Z M ρ σ H Φ v H2 := t.post k r
end
end DL
set_option Elab.async false
set_option linter.all false
set_option maxRecDepth 100000
/-! DLg: statements. -/
namespace DL
open PySem PySem.Spec PyProof.Rows L2
section
variable {Z : Ct} {ρ ρ1 ρ2 : Env} {Φ : Rv → Env → Prop} {Ψ : Bool → Env → Prop} {E : DN} {e a b c : Expr} {st : Stmt} {sts rest : List Stmt} {pos : Pos} {M M1 : AS} {σ σ1 : St} {H H1 H2 : Hp}
theorem NxP.from {Θ : Env → Prop} {σ2 : St} (s : Step (Mo ρ) H (Mo ρ1) H1) (q : NxP Z ρ1 H1 Θ σ2 H2) : NxP Z ρ H Θ σ2 H2 := by
  obtain ⟨ρ', k, S, s2⟩ := q
  exact ⟨ρ', k, S, s.trans s2⟩
theorem conc_le (s : Step (Mo ρ) H (Mo ρ1) H1) : EndsLe (conc Z ρ1 H1 E) (conc Z ρ H E) :=
  ⟨fun _ _ q => NxP.from s q, fun v H' ⟨r, ρ', σ', M', k, S, s2, c⟩ => ⟨r, ρ', σ', M', k, S, s.trans s2, c⟩, fun _ _ q => NxP.from s q, fun _ _ q => NxP.from s q⟩
theorem PreS.next (p : PreS Z ρ σ H) (S : StS Z.X.K Z.T (Z.mz ρ1) ρ1 σ1 H1) (s : Step (Mo ρ) H (Mo ρ1) H1) : PreS Z ρ1 σ1 H1 := ⟨p.w0, S, p.base.trans s⟩
/-- behind an expression, between statements -/
theorem PostO.nx {v : V} {r : Rv} {M' : AS} (o : PostO Z (Z.mz ρ) ρ σ H v H1 r ρ1 M') (p : PreS Z ρ σ H) : StS Z.X.K Z.T (Z.mz ρ1) ρ1 σ H1 ∧ Step (Mo ρ) H (Mo ρ1) H1 := by
  have em : Z.mz ρ1 = Z.mz ρ := by unfold Ct.mz; rw [o.sim.mo]
  exact ⟨o.st.less (fun a z => .inr z) (by rw [em]; exact o.more), ⟨o.kp, fun a z => .inl (by rw [← o.sim.mo]; exact z)⟩⟩
theorem PostT.nx (o : PostT Z (Z.mz ρ) ρ σ H H1 ρ1) (p : PreS Z ρ σ H) : StS Z.X.K Z.T (Z.mz ρ1) ρ1 σ H1 ∧ Step (Mo ρ) H (Mo ρ1) H1 := by
  have em : Z.mz ρ1 = Z.mz ρ := by unfold Ct.mz; rw [o.sim.mo]
  exact ⟨by rw [em]; exact o.st, ⟨o.kp, fun a z => .inl (by rw [← o.sim.mo]; exact z)⟩⟩
/-! ### blocks -/
theorem dss_nil (k : E.nx ρ) : DSs Z [] ρ E := fun σ H p pins s I => pss_nil.run pins s σ H _ I ⟨ρ, k, p.st, Step.refl _ _⟩
theorem dss_cons (h : DS Z st ρ { nx := fun ρ1 => DSs Z rest ρ1 E, rt := E.rt, bk := E.bk, ct := E.ct }) : DSs Z (st :: rest) ρ E := fun σ H p pins s I =>
  (pss_cons (ps_u Z.X st) (pss_u Z.X rest)).run pins s σ H _ I ((h σ H p).mono ⟨fun σ1 H1 ⟨ρ1, k, S, s1⟩ => (k σ1 H1 (p.next S s1)).mono (conc_le s1), fun _ _ q => q, fun _ _ q => q, fun _ _ q => q⟩)
theorem dss_one (h : DS Z st ρ E) : DSs Z [st] ρ E := fun σ H p pins s I => (pss_one (ps_u Z.X st)).run pins s σ H _ I (h σ H p)
theorem ds_pass (k : E.nx ρ) : DS Z (.Pass pos) ρ E := fun σ H p pins s I => ps_pass.run pins s σ H _ I ⟨ρ, k, p.st, Step.refl _ _⟩
theorem ds_break (k : E.bk ρ) : DS Z (.Break pos) ρ E := fun σ H p pins s I => ps_break.run pins s σ H _ I ⟨ρ, k, p.st, Step.refl _ _⟩
theorem ds_expr (h : DE Z e ρ fun _ ρ1 => E.nx ρ1) (hs : swapsWith e none pos.line Z.X.env = pure false := by rfl) : DS Z (.Expr e pos) ρ E := fun σ H p pins s I =>
  (ps_expr (pe_u Z.X e) hs).run pins s σ H _ I ((h _ σ H p.pre).mono fun v H1 ⟨r, ρ1, M1, k, o⟩ => ⟨ρ1, k, (o.nx p).1, (o.nx p).2⟩)
theorem PostO.rt {v : V} {r : Rv} {M' : AS} (o : PostO Z (Z.mz ρ) ρ σ H v H1 r ρ1 M') (p : PreS Z ρ σ H) (k : Φ r ρ1) : RtP Z ρ H Φ v H1 := by
  have em : Z.mz ρ1 = Z.mz ρ := by unfold Ct.mz; rw [o.sim.mo]
  refine ⟨r, ρ1, σ, M', k, o.st, (o.nx p).2, by rw [em]; exact o.more, by rw [em]; exact o.pd, fun a z => ?_⟩
  rcases o.new a z with w | w
  · exact .inl (by rw [em]; exact w)
  · by_cases w0 : Z.W0 a
    · exact .inl (.inl (p.w0 a w0))
    · exact .inr (fresh_back p.base.kp w0 w)
theorem ds_ret (h : DE Z e ρ E.rt) : DS Z (.Return (some e) pos) ρ E := fun σ H p pins s I =>
  (ps_ret (pe_u Z.X e)).run pins s σ H _ I ((h _ σ H p.pre).mono fun v H1 ⟨r, ρ1, M1, k, o⟩ => o.rt p k)
theorem ds_retN (k : E.rt (.dat .none) ρ) : DS Z (.Return none pos) ρ E := fun σ H p pins s I =>
  ps_retN.run pins s σ H _ I ⟨.dat .none, ρ, σ, Z.mz ρ, k, p.st, Step.refl _ _, fun _ h => h, .non, fun a z => .inl z⟩
theorem ds_if {A B : List Stmt} (h : DT Z c ρ fun x ρ1 => bcase x (DSs Z A ρ1 E) (DSs Z B ρ1 E)) : DS Z (.If c A B pos) ρ E := fun σ H p pins s I =>
  (ps_if (pt_u Z.X c) (pss_u Z.X A) (pss_u Z.X B)).run pins s σ H _ I ((h _ σ H p.pre).mono fun x H1 ⟨ρ1, k, o⟩ => bcase.ite
    ⟨fun z => (k.1 z σ H1 (p.next (o.nx p).1 (o.nx p).2)).mono (conc_le (o.nx p).2), fun z => (k.2 z σ H1 (p.next (o.nx p).1 (o.nx p).2)).mono (conc_le (o.nx p).2)⟩)
/-! ### stores to names -/
theorem get_set {α : Type} {xs : List α} {i j : Nat} {x y : α} (h : (xs.set i x)[j]? = some y) : (j = i ∧ y = x) ∨ (j ≠ i ∧ xs[j]? = some y) := by
  by_cases e : i = j
  · subst e
    by_cases hl : i < xs.length
    · rw [List.getElem?_set_self hl] at h
      exact .inl ⟨rfl, (Option.some.inj h).symm⟩
    · rw [List.getElem?_eq_none (by simpa using hl)] at h
      cases h
  · rw [List.getElem?_set_ne e] at h
    exact .inr ⟨Ne.symm e, h⟩
theorem mo_set {i : Nat} {c : C} (n : ∀ a m, c ≠ C.own a m) : ∀ a, Mo (ρ.set i (some c)) a → Mo ρ a := fun a ⟨j, m, e⟩ => by
  rcases get_set e with ⟨_, z⟩ | ⟨_, z⟩
  · exact absurd (Option.some.inj z).symm (n a m)
  · exact ⟨j, m, z⟩
theorem mo_setO {i : Nat} {b : Addr} {m : MO} : ∀ a, Mo (ρ.set i (some (.own b m))) a → Mo ρ a ∨ a = b := fun a ⟨j, n, e⟩ => by
  rcases get_set e with ⟨_, z⟩ | ⟨_, z⟩
  · cases z
    exact .inr rfl
  · exact .inl ⟨j, n, z⟩
/-- data, a value into a slot -/
theorem StS.set {K : PySem.W.Frag} {T : List (Addr × Str)} {i : Nat} {v : V} {c : C} (S : StS K T M ρ σ H) (n : ∀ a m, c ≠ C.own a m) (r : CR K M H v c) : StS K T M (ρ.set i (some c)) (σ.set i (some v)) H :=
  ⟨by rw [List.length_set, List.length_set]; exact S.len, fun a z => S.own a (mo_set n a z), S.lv, fun j c' e => by
    rcases get_set e with ⟨rfl, z⟩ | ⟨hj, z⟩
    · cases z
      have hl : j < ρ.length := by
        have := (List.getElem?_eq_some_iff.mp e).1
        rwa [List.length_set] at this
      exact ⟨v, List.getElem?_set_self (by rw [← S.len]; exact hl), r⟩
    · obtain ⟨v', e1, r'⟩ := S.at_ j c' z
      exact ⟨v', by rw [List.getElem?_set_ne (Ne.symm hj)]; exact e1, r'⟩, fun x y m n' a h1 h2 => by
    rcases get_set h1 with ⟨rfl, z⟩ | ⟨hx, z⟩
    · exact absurd (Option.some.inj z).symm (n a m)
    · rcases get_set h2 with ⟨rfl, w⟩ | ⟨hy, w⟩
      · exact absurd (Option.some.inj w).symm (n a n')
      · exact S.inj x y m n' a z w, S.tab⟩
/-- a new owned thing into a slot -/
theorem StS.setO {K : PySem.W.Frag} {T : List (Addr × Str)} {i : Nat} {b : Addr} {m : MO} (S : StS K T M ρ σ H) (mb : M b) (nb : ¬ Mo ρ b) (ok : MOk K M H b m) : StS K T M (ρ.set i (some (.own b m))) (σ.set i (some (.ref b))) H :=
  ⟨by rw [List.length_set, List.length_set]; exact S.len, fun a z => by
    rcases mo_setO a z with w | w
    · exact S.own a w
    · subst w; exact mb, S.lv, fun j c' e => by
    rcases get_set e with ⟨rfl, z⟩ | ⟨hj, z⟩
    · cases z
      have hl : j < ρ.length := by
        have := (List.getElem?_eq_some_iff.mp e).1
        rwa [List.length_set] at this
      exact ⟨.ref b, List.getElem?_set_self (by rw [← S.len]; exact hl), rfl, mb, ok⟩
    · obtain ⟨v', e1, r'⟩ := S.at_ j c' z
      exact ⟨v', by rw [List.getElem?_set_ne (Ne.symm hj)]; exact e1, r'⟩, fun x y m1 n' a h1 h2 => by
    rcases get_set h1 with ⟨rfl, z⟩ | ⟨hx, z⟩
    · cases z
      rcases get_set h2 with ⟨rfl, w⟩ | ⟨hy, w⟩
      · rfl
      · exact absurd ⟨y, n', w⟩ nb
    · rcases get_set h2 with ⟨rfl, w⟩ | ⟨hy, w⟩
      · cases w
        exact absurd ⟨x, m1, z⟩ nb
      · exact S.inj x y m1 n' a z w, S.tab⟩
/-- what a result is as a slot's content (a new list given up as data) -/
def asC : Rv → Option C
  | .dat d => some (.dat d)
  | .raw v => some (.raw v)
  | .frs m => m.toD.map .dat
  | .slot _ => none
theorem asC_n {r : Rv} {c : C} (h : asC r = some c) : ∀ a m, c ≠ C.own a m := by
  intro a m z
  subst z
  cases r with
  | dat d => cases h
  | raw v => cases h
  | slot i => cases h
  | frs m =>
    cases m <;> simp [asC, MO.toD] at h
theorem Pd.asC {K : PySem.W.Frag} {N : AS} {v : V} {r : Rv} {c : C} (h : Pd K N M ρ σ H v r) (s : ∀ a, N a → M a) (e : asC r = some c) : CR K N H v c := by
  cases r with
  | dat d => cases e; exact Rp.less h s
  | raw x => cases e; exact h
  | slot i => cases e
  | frs m =>
    have e' : m.toD.map C.dat = some c := e
    cases q : m.toD with
    | none => rw [q] at e'; cases e'
    | some d =>
      rw [q] at e'
      cases e'
      exact Pd.data (r := .frs m) h s q
theorem nx_set {i : Nat} {v : V} {r : Rv} {M' : AS} {c : C} {Θ : Env → Prop} (p : PreS Z ρ σ H) (o : PostO Z (Z.mz ρ) ρ σ H v H1 r ρ1 M') (e : asC r = some c) (k : Θ (ρ1.set i (some c))) : NxP Z ρ H Θ (σ.set i (some v)) H1 := by
  have em : Z.mz ρ1 = Z.mz ρ := by unfold Ct.mz; rw [o.sim.mo]
  obtain ⟨S, s⟩ := o.nx p
  have rc : CR Z.X.K (Z.mz ρ1) H1 v c := by rw [em]; exact o.pd.asC o.more e
  have n := asC_n e
  refine ⟨_, k, (S.set n rc).less (fun a z => .inr z) fun a z => z.imp id (mo_set n a), s.trans ⟨Kp.refl _ _, fun a z => .inl (mo_set n a z)⟩⟩
theorem nx_setO {i : Nat} {v : V} {m : MO} {M' : AS} {Θ : Env → Prop} (p : PreS Z ρ σ H) (o : PostO Z (Z.mz ρ) ρ σ H v H1 (.frs m) ρ1 M') (k : ∀ a, Θ (ρ1.set i (some (.own a m)))) : NxP Z ρ H Θ (σ.set i (some v)) H1 := by
  have em : Z.mz ρ1 = Z.mz ρ := by unfold Ct.mz; rw [o.sim.mo]
  obtain ⟨S, s⟩ := o.nx p
  obtain ⟨b, rfl, mb, nb, ok⟩ := o.pd
  have nb1 : ¬ Mo ρ1 b := fun z => nb (.inr (by rw [← o.sim.mo]; exact z))
  have hb : H b = none := (o.new b mb).elim (fun z => absurd z nb) id
  refine ⟨_, k b, (o.st.setO mb nb1 ok).less (fun a z => .inr z) fun a z => ?_, ⟨s.kp, fun a z => ?_⟩⟩
  · rcases z with z | z
    · exact o.more a (.inl z)
    · rcases mo_setO a z with w | w
      · exact o.more a (.inr (by rw [← o.sim.mo]; exact w))
      · subst w; exact mb
  · rcases mo_setO a z with w | w
    · exact s.nw a w
    · subst w; exact .inr hb
/-- name = e -/
theorem ds_set (i : Nat) {x : Str} {pos' : Pos} (h : DE Z e ρ fun r ρ1 => ∃ c, asC r = some c ∧ E.nx (ρ1.set i (some c))) (hi : Z.X.N[i]? = some x := by rfl) (hN : Z.X.N.Nodup := by assumption) (hx : Loc Z.X.env.scope x := by first | exact Or.inl rfl | exact Or.inr rfl)
    (hs : swapsWith e (some (.Name x pos')) pos.line Z.X.env = pure false := by rfl) (hf : Z.X.fn x = true ∨ Z.X.env.scope.names.lookup x = some .local := by first | exact .inl rfl | exact .inr rfl) : DS Z (.Assign [.Name x pos'] e pos) ρ E := fun σ H p pins s I =>
  (ps_set hN hi hx (pe_u Z.X e) hs hf).run pins s σ H _ I ((h _ σ H p.pre).mono fun v H1 ⟨r, ρ1, M1, ⟨c, q, k⟩, o⟩ => nx_set p o q k)
/-- name = a new thing, owned -/
theorem ds_own (i : Nat) {x : Str} {pos' : Pos} (h : DE Z e ρ fun r ρ1 => ∃ m, r = .frs m ∧ ∀ a, E.nx (ρ1.set i (some (.own a m)))) (hi : Z.X.N[i]? = some x := by rfl) (hN : Z.X.N.Nodup := by assumption) (hx : Loc Z.X.env.scope x := by first | exact Or.inl rfl | exact Or.inr rfl)
    (hs : swapsWith e (some (.Name x pos')) pos.line Z.X.env = pure false := by rfl) (hf : Z.X.fn x = true ∨ Z.X.env.scope.names.lookup x = some .local := by first | exact .inl rfl | exact .inr rfl) : DS Z (.Assign [.Name x pos'] e pos) ρ E := fun σ H p pins s I =>
  (ps_set hN hi hx (pe_u Z.X e) hs hf).run pins s σ H _ I ((h _ σ H p.pre).mono fun v H1 ⟨r, ρ1, M1, ⟨m, q, k⟩, o⟩ => by subst q; exact nx_setO p o k)
/-! ### exceptions -/
/-- what the context wishes of an exception -/
def wz (Z : Ct) : WX := fun cls d σ H => d = none ∧ ∃ ρ, Z.ε cls ρ ∧ StS Z.X.K Z.T (Z.mz ρ) ρ σ H ∧ Step Z.W0 Z.H0 (Mo ρ) H
theorem ds_raise {C : Addr} {bmB : List Value} {B newId initId : String} {x m : Str} {j : Nat} {p1 p2 p3 : Pos} (hz : L2N.Takes Z.X (wz Z)) (F : ExcBaseFacts B newId initId bmB) (q : PySem.W.excIn Z.X.K C bmB newId = true) (gC : Z.X.mg x = some (.ref C)) (kC : PySem.W.keepIn Z.X.K (.ref C) = true)
    (r : Raises Z.X (.ref C)) (k : Z.ε (.ref C) ρ) (hc : Z.X.calm = true := by rfl) (hg : Gl Z.X x := by rfl) (hdb : (x == ("__debug__" : Str)) = false := by decide) : DS Z (.Raise (some (.Call (.Name x p1) [.Constant (.str m) j p2] [] p3)) none pos) ρ E := fun σ H p pins s I =>
  (L2N.ps_raise hc hz (L2N.pmk_own F q gC kC r hg hdb)).run pins s σ H _ I ⟨rfl, ρ, k, p.st, p.base⟩
end
end DL
set_option Elab.async false
set_option linter.all false
set_option maxRecDepth 100000
/-! DLh: own defs: their promises over data, their calls, their bodies. -/
namespace DL
open PySem PySem.Spec PyProof.Rows L2
/-- a def's promise over data: from the contents of the parameters, what is wanted of a result (and of the contents behind), what is wanted of an exception -/
abbrev FS := List C → (Rv → List C → Prop) → (Value → List C → Prop) → Prop
abbrev up (cs : List C) : Env := cs.map some
abbrev upV (vs : List V) : St := vs.map some
structure EndF (K : PySem.W.Frag) (T : List (Addr × Str)) (M : AS) (cs : List C) (vs : List V) (H : Hp) (v : V) (H' : Hp) (r : Rv) (cs' : List C) (M' : AS) : Prop where
  sim : Sim (up cs) (up cs')
  kp : Kp (Mo (up cs)) H H'
  more : ∀ a, M a → M' a
  new : ∀ a, M' a → M a ∨ H a = none
  st : StS K T M' (up cs') (upV vs) H'
  pd : Pd K M M' (up cs') (upV vs) H' v r
structure EndX (K : PySem.W.Frag) (T : List (Addr × Str)) (M : AS) (cs : List C) (vs : List V) (H : Hp) (H' : Hp) (cs' : List C) : Prop where
  sim : Sim (up cs) (up cs')
  kp : Kp (Mo (up cs)) H H'
  st : StS K T M (up cs') (upV vs) H'
def spD (K : PySem.W.Frag) (T : List (Addr × Str)) (F : FS) : Sp := fun vs H Q E => ∃ (cs : List C) (M : AS), StS K T M (up cs) (upV vs) H ∧
  F cs (fun r cs' => ∀ v H' M', EndF K T M cs vs H v H' r cs' M' → Q v H') (fun cls cs' => ∀ H', EndX K T M cs vs H H' cs' → E cls none H')
/-- the def x of the text keeps its promise F -/
def DefOk (P : Program) (w : World) (K : PySem.W.Frag) (mg : Str → Option Value) (base : Heap) (T : List (Addr × Str)) (x : Str) (k : Nat) (F : FS) : Prop :=
  ∃ (f : Addr) (fd : FuncData) (ps : List Str), FnOk P w K mg base (L2N.CX P w) k f fd ps (spD K T F) ∧ mg x = some (.ref f) ∧ PySem.W.keepIn K (.ref f) = true ∧ Binds K fd ps []
/-! ### the call -/
def argC (ρ : Env) : Rv → Option C
  | .dat d => some (.dat d)
  | .raw v => some (.raw v)
  | .frs m => m.toD.map .dat
  | .slot i => match ρ[i]? with
    | some (some (.own a m)) => some (.own a m)
    | _ => none
def argCs (ρ : Env) : List Rv → Option (List C)
  | [] => some []
  | r :: rs => match argC ρ r, argCs ρ rs with
    | some c, some cs => some (c :: cs)
    | _, _ => none
/-- the slots that are lent -/
def lent : List Rv → List Nat
  | [] => []
  | .slot i :: rs => i :: lent rs
  | _ :: rs => lent rs
/-- the lent slots' contents behind the call -/
def backE : Env → List Rv → List C → Env
  | ρ, .slot i :: rs, c :: cs => backE (ρ.set i (some c)) rs cs
  | ρ, _ :: rs, _ :: cs => backE ρ rs cs
  | ρ, _, _ => ρ
section
variable {K : PySem.W.Frag} {T : List (Addr × Str)} {M M' N : AS} {ρ ρ' : Env} {σ : St} {H H' : Hp}
theorem argC_slot {i : Nat} {c : C} (h : argC ρ (.slot i) = some c) : ∃ a m, ρ[i]? = some (some (.own a m)) ∧ c = .own a m := by
  have h' : (match ρ[i]? with | some (some (C.own a m)) => some (C.own a m) | _ => none) = some c := h
  split at h'
  · rename_i a m e
    cases h'
    exact ⟨a, m, e, rfl⟩
  · cases h'
theorem argC_asC {r : Rv} {c : C} (h : argC ρ r = some c) (n : ∀ i, r ≠ .slot i) : asC r = some c := by
  cases r with
  | dat d => exact h
  | raw v => exact h
  | frs m => exact h
  | slot i => exact absurd rfl (n i)
theorem argCs_cons {r : Rv} {rs : List Rv} {cs : List C} (h : argCs ρ (r :: rs) = some cs) : ∃ c cs', argC ρ r = some c ∧ argCs ρ rs = some cs' ∧ cs = c :: cs' := by
  have h' : (match argC ρ r, argCs ρ rs with | some c, some cs => some (c :: cs) | _, _ => none) = some cs := h
  split at h'
  · rename_i c cs' e1 e2
    cases h'
    exact ⟨c, cs', e1, e2, rfl⟩
  · cases h'
theorem argCs_own : ∀ {rs : List Rv} {cs : List C} {i : Nat} {a : Addr} {m : MO}, argCs ρ rs = some cs → cs[i]? = some (.own a m) → ∃ j : Nat, rs[i]? = some (.slot j) ∧ ρ[j]? = some (some (C.own a m))
  | [], _, i, _, _, e, h => by cases e; simp at h
  | r :: rs, cs, i, a, m, e, h => by
    obtain ⟨c2, cs2, f1, f2, rfl⟩ := argCs_cons e
    cases i with
    | zero =>
      simp at h
      subst h
      cases r with
      | slot j => obtain ⟨a', m', g1, g2⟩ := argC_slot f1; cases g2; exact ⟨j, rfl, g1⟩
      | dat d => exact absurd rfl (asC_n (argC_asC f1 fun i z => by cases z) a m)
      | raw x => exact absurd rfl (asC_n (argC_asC f1 fun i z => by cases z) a m)
      | frs m' => exact absurd rfl (asC_n (argC_asC f1 fun i z => by cases z) a _)
    | succ i =>
      obtain ⟨j, g1, g2⟩ := argCs_own (i := i) f2 (by simpa using h)
      exact ⟨j, by simpa using g1, g2⟩
theorem argCs_slot : ∀ {rs : List Rv} {cs : List C} {i j : Nat} {c : C}, argCs ρ rs = some cs → rs[i]? = some (.slot j) → cs[i]? = some c → ∃ a m, c = .own a m ∧ ρ[j]? = some (some (C.own a m))
  | [], _, _, _, _, _, h, _ => by simp at h
  | r :: rs, cs, i, j, c, e, h, hc => by
    obtain ⟨c2, cs2, f1, f2, rfl⟩ := argCs_cons e
    cases i with
    | zero =>
      simp at h hc
      subst h hc
      obtain ⟨a, m, g1, g2⟩ := argC_slot f1
      exact ⟨a, m, g2, g1⟩
    | succ i => exact argCs_slot (i := i) f2 (by simpa using h) (by simpa using hc)
theorem argCs_len : ∀ {rs : List Rv} {cs : List C}, argCs ρ rs = some cs → rs.length = cs.length
  | [], _, e => by cases e; rfl
  | r :: rs, _, e => by
    obtain ⟨c2, cs2, f1, f2, rfl⟩ := argCs_cons e
    rw [List.length_cons, List.length_cons, argCs_len f2]
/-- the arguments as the callee's contents -/
theorem argCs_at : ∀ {N : AS} {vs : List V} {rs : List Rv} {cs : List C}, PdA K M ρ σ H N vs rs → StS K T M ρ σ H → (∀ a, Mo ρ a → N a) → (∀ a, N a → M a) → argCs ρ rs = some cs → vs.length = cs.length ∧ ∀ (i : Nat) (c : C), cs[i]? = some c → ∃ v, vs[i]? = some v ∧ CR K N H v c
  | _, _, _, _, .nil, _, _, _, e => by cases e; exact ⟨rfl, fun i c h => by simp at h⟩
  | N, _, _, _, .cons (v := v) (r := r) (vs := vs) (rs := rs) h q, S, hN, s, e => by
    obtain ⟨c, cs', e1, e2, rfl⟩ := argCs_cons e
    have s' : ∀ a, (N a ∨ frsA r v a) → M a := fun a z => by
      rcases z with z | ⟨⟨m, f1⟩, f2⟩
      · exact s a z
      · rw [f1] at h
        obtain ⟨b, f3, mb, _⟩ := h
        rw [f2] at f3
        cases f3
        exact mb
    obtain ⟨hl, ht⟩ := argCs_at q S (fun a z => .inl (hN a z)) s' e2
    refine ⟨by rw [List.length_cons, List.length_cons, hl], fun i c0 h0 => ?_⟩
    cases i with
    | zero =>
      cases h0
      refine ⟨v, rfl, ?_⟩
      cases r with
      | slot j =>
        obtain ⟨a, m, e3, rfl⟩ := argC_slot e1
        obtain ⟨_, e4⟩ := h
        obtain ⟨v', e5, r5, ma, ok⟩ := S.at_ j _ e3
        rw [e4] at e5
        cases e5
        exact ⟨r5, hN a ⟨j, m, e3⟩, ok.keep (fun _ _ _ z => .inl z) (fun b z => .inl (s b z)) rfl⟩
      | dat d => exact Pd.asC h s (argC_asC e1 fun i z => by cases z)
      | raw x => exact Pd.asC h s (argC_asC e1 fun i z => by cases z)
      | frs m => exact Pd.asC h s (argC_asC e1 fun i z => by cases z)
    | succ i =>
      obtain ⟨v', e3, r3⟩ := ht i c0 (by simpa using h0)
      refine ⟨v', by simpa using e3, r3.keep (fun _ _ _ z => .inl z) (fun b z => .inl (.inl z)) fun a m z => ?_⟩
      subst z
      obtain ⟨j, _, g⟩ := argCs_own (i := i) e2 (by simpa using h0)
      exact ⟨hN a ⟨j, m, g⟩, rfl⟩
theorem up_get {cs : List C} {i : Nat} {c : C} (h : (up cs)[i]? = some (some c)) : cs[i]? = some c := by
  rw [List.getElem?_map] at h
  cases e : cs[i]? with
  | none => rw [e] at h; cases h
  | some c' => rw [e] at h; cases h; rfl
theorem up_of {cs : List C} {i : Nat} {c : C} (h : cs[i]? = some c) : (up cs)[i]? = some (some c) := by rw [List.getElem?_map, h]; rfl
theorem upV_of {vs : List V} {i : Nat} {c : V} (h : vs[i]? = some c) : (upV vs)[i]? = some (some c) := by rw [List.getElem?_map, h]; rfl
theorem upV_get {cs : List V} {i : Nat} {c : V} (h : (upV cs)[i]? = some (some c)) : cs[i]? = some c := by
  rw [List.getElem?_map] at h
  cases e : cs[i]? with
  | none => rw [e] at h; cases h
  | some c' => rw [e] at h; cases h; rfl
/-- a slot stands once among the lent -/
theorem lent_at : ∀ {rs : List Rv} {i j : Nat}, rs[i]? = some (.slot j) → j ∈ lent rs
  | [], _, _, h => by simp at h
  | r :: rs, 0, j, h => by simp at h; subst h; simp [lent]
  | r :: rs, i + 1, j, h => by
    have := lent_at (rs := rs) (i := i) (j := j) (by simpa using h)
    cases r <;> simp [lent, this]
theorem lent_inj : ∀ {rs : List Rv} {i j s : Nat}, (lent rs).Nodup → rs[i]? = some (.slot s) → rs[j]? = some (.slot s) → i = j
  | [], _, _, _, _, h, _ => by simp at h
  | r :: rs, 0, 0, s, _, _, _ => rfl
  | r :: rs, 0, j + 1, s, nd, h1, h2 => by
    simp at h1
    subst h1
    have := lent_at (rs := rs) (i := j) (j := s) (by simpa using h2)
    simp [lent] at nd
    exact absurd this nd.1
  | r :: rs, i + 1, 0, s, nd, h1, h2 => by
    simp at h2
    subst h2
    have := lent_at (rs := rs) (i := i) (j := s) (by simpa using h1)
    simp [lent] at nd
    exact absurd this nd.1
  | r :: rs, i + 1, j + 1, s, nd, h1, h2 => by
    have nd' : (lent rs).Nodup := by
      cases r with
      | slot j => simp [lent] at nd; exact nd.2
      | dat d => exact nd
      | raw x => exact nd
      | frs m => exact nd
    have := lent_inj (rs := rs) (i := i) (j := j) (s := s) nd' (by simpa using h1) (by simpa using h2)
    omega
theorem StS.args {vs : List V} {rs : List Rv} {cs : List C} (q : PdA K M ρ σ H N vs rs) (S : StS K T M ρ σ H) (hN : ∀ a, Mo ρ a → N a) (s : ∀ a, N a → M a) (e : argCs ρ rs = some cs) (nd : (lent rs).Nodup) : StS K T N (up cs) (upV vs) H := by
  obtain ⟨hl, ht⟩ := argCs_at q S hN s e
  refine ⟨by rw [List.length_map, List.length_map, hl], fun a ⟨i, m, h⟩ => ?_, fun a z => S.lv a (s a z), fun i c h => ?_, fun i j m n a h1 h2 => ?_, S.tab⟩
  · obtain ⟨j, _, g⟩ := argCs_own e (up_get h)
    exact hN a ⟨j, m, g⟩
  · obtain ⟨v, h1, h2⟩ := ht i c (up_get h)
    exact ⟨v, upV_of h1, h2⟩
  · obtain ⟨j1, g1, g2⟩ := argCs_own e (up_get h1)
    obtain ⟨j2, g3, g4⟩ := argCs_own e (up_get h2)
    have := S.inj j1 j2 m n a g2 g4
    subst this
    exact lent_inj nd g1 g3
/-- what backE leaves -/
theorem backE_len : ∀ {rs : List Rv} {cs : List C} {ρ : Env}, (backE ρ rs cs).length = ρ.length
  | [], [], _ => rfl
  | [], _ :: _, _ => rfl
  | r :: rs, [], _ => by cases r <;> rfl
  | r :: rs, c :: cs, ρ => by
    cases r with
    | slot i => show (backE (ρ.set i (some c)) rs cs).length = _; rw [backE_len, List.length_set]
    | dat d => exact backE_len (rs := rs)
    | raw x => exact backE_len (rs := rs)
    | frs m => exact backE_len (rs := rs)
theorem backE_out : ∀ {rs : List Rv} {cs : List C} {ρ : Env} {j : Nat}, j ∉ lent rs → (backE ρ rs cs)[j]? = ρ[j]?
  | [], [], _, _, _ => rfl
  | [], _ :: _, _, _, _ => rfl
  | r :: rs, [], _, _, _ => by cases r <;> rfl
  | r :: rs, c :: cs, ρ, j, h => by
    cases r with
    | slot i =>
      simp [lent] at h
      show (backE (ρ.set i (some c)) rs cs)[j]? = _
      rw [backE_out h.2, List.getElem?_set_ne (Ne.symm h.1)]
    | dat d => exact backE_out (rs := rs) h
    | raw x => exact backE_out (rs := rs) h
    | frs m => exact backE_out (rs := rs) h
theorem backE_in : ∀ {rs : List Rv} {cs : List C} {ρ : Env} {i j : Nat} {c : C}, (lent rs).Nodup → rs[i]? = some (.slot j) → cs[i]? = some c → j < ρ.length → (backE ρ rs cs)[j]? = some (some c)
  | [], _, _, _, _, _, _, h, _, _ => by simp at h
  | _ :: _, [], _, i, _, _, _, _, h, _ => by simp at h
  | r :: rs, c0 :: cs, ρ, 0, j, c, nd, h1, h2, hl => by
    simp at h1 h2
    subst h1 h2
    simp [lent] at nd
    show (backE (ρ.set j (some c0)) rs cs)[j]? = _
    rw [backE_out nd.1, List.getElem?_set_self hl]
  | r :: rs, c0 :: cs, ρ, i + 1, j, c, nd, h1, h2, hl => by
    cases r with
    | slot k =>
      simp [lent] at nd
      show (backE (ρ.set k (some c0)) rs cs)[j]? = _
      exact backE_in (i := i) nd.2 (by simpa using h1) (by simpa using h2) (by simpa using hl)
    | dat d => exact backE_in (rs := rs) (i := i) nd (by simpa using h1) (by simpa using h2) hl
    | raw x => exact backE_in (rs := rs) (i := i) nd (by simpa using h1) (by simpa using h2) hl
    | frs m => exact backE_in (rs := rs) (i := i) nd (by simpa using h1) (by simpa using h2) hl
theorem lent_mem : ∀ {rs : List Rv} {j : Nat}, j ∈ lent rs → ∃ i : Nat, rs[i]? = some (.slot j)
  | [], _, h => by simp [lent] at h
  | r :: rs, j, h => by
    cases r with
    | slot k =>
      simp [lent] at h
      rcases h with rfl | h
      · exact ⟨0, rfl⟩
      · obtain ⟨i, e⟩ := lent_mem h
        exact ⟨i + 1, by simpa using e⟩
    | dat d => obtain ⟨i, e⟩ := lent_mem (rs := rs) h; exact ⟨i + 1, by simpa using e⟩
    | raw x => obtain ⟨i, e⟩ := lent_mem (rs := rs) h; exact ⟨i + 1, by simpa using e⟩
    | frs m => obtain ⟨i, e⟩ := lent_mem (rs := rs) h; exact ⟨i + 1, by simpa using e⟩
/-- the caller's state behind a call; x: the caller's owned places are as the callee left them -/
theorem StS.behind {vs : List V} {rs : List Rv} {cs cs' : List C} (q : PdA K M ρ σ H N vs rs) (S : StS K T M ρ σ H) (hN : ∀ a, Mo ρ a → N a) (s : ∀ a, N a → M a) (e : argCs ρ rs = some cs) (nd : (lent rs).Nodup)
    (sim : Sim (up cs) (up cs')) (kp : Kp (Mo (up cs)) H H') (more : ∀ a, N a → M' a) (new : ∀ a, M' a → N a ∨ H a = none) (S' : StS K T M' (up cs') (upV vs) H') :
    Sim ρ (backE ρ rs cs') ∧ Kp (Mo ρ) H H' ∧ StS K T M' (backE ρ rs cs') σ H' := by
  have S0 := S.less hN s
  have hlc : cs'.length = cs.length := by have := sim.len; rwa [List.length_map, List.length_map] at this
  have hlr : rs.length = cs.length := argCs_len e
  have moS : ∀ a, Mo (up cs) a → Mo ρ a := fun a ⟨i, m, h⟩ => by
    obtain ⟨j, _, g⟩ := argCs_own e (up_get h)
    exact ⟨j, m, g⟩
  -- a lent slot
  have at_ : ∀ {j : Nat}, j ∈ lent rs → ∃ (i : Nat) (a : Addr) (m m' : MO), rs[i]? = some (.slot j) ∧ cs[i]? = some (.own a m) ∧ ρ[j]? = some (some (C.own a m)) ∧ cs'[i]? = some (.own a m') ∧ (backE ρ rs cs')[j]? = some (some (C.own a m')) := fun {j} hj => by
    obtain ⟨i, e1⟩ := lent_mem hj
    have hi : i < cs.length := by
      rw [← hlr]
      exact (List.getElem?_eq_some_iff.mp e1).1
    obtain ⟨c, hc⟩ : ∃ c, cs[i]? = some c := ⟨_, List.getElem?_eq_getElem hi⟩
    have := argCs_slot e e1 hc
    obtain ⟨a, m, rfl, g⟩ := this
    obtain ⟨m', hm⟩ := sim.own i a m (up_of hc)
    have hm' := up_get hm
    exact ⟨i, a, m, m', e1, hc, g, hm', backE_in nd e1 hm' (List.getElem?_eq_some_iff.mp g).1⟩
  have sm : Sim ρ (backE ρ rs cs') := ⟨backE_len, fun j c h n => by
    by_cases hj : j ∈ lent rs
    · obtain ⟨i, a, m, m', _, _, g, _, _⟩ := at_ hj
      rw [h] at g
      cases g
      exact absurd rfl (n a m)
    · rw [backE_out hj]; exact h, fun j a m h => by
    by_cases hj : j ∈ lent rs
    · obtain ⟨i, a', m2, m', _, _, g, _, g2⟩ := at_ hj
      rw [h] at g
      cases g
      exact ⟨m', g2⟩
    · exact ⟨m, by rw [backE_out hj]; exact h⟩⟩
  have kk : Kp (Mo ρ) H H' := kp.imp moS
  refine ⟨sm, kk, ⟨by rw [backE_len]; exact S.len, fun a z => more a (hN a (by rw [← sm.mo]; exact z)), S'.lv, fun j c h => ?_, fun i j m n a h1 h2 => ?_, S'.tab⟩⟩
  · by_cases hj : j ∈ lent rs
    · obtain ⟨i, a, m, m', e1, e2, g, e3, e4⟩ := at_ hj
      rw [h] at e4
      cases e4
      obtain ⟨v, f1, f2, f3, f4⟩ := S'.at_ i _ (up_of e3)
      obtain ⟨v', h1, h2, _⟩ := S.at_ j _ g
      exact ⟨v', h1, h2, f3, f4⟩
    · rw [backE_out hj] at h
      obtain ⟨v, h1, r⟩ := S0.at_ j c h
      refine ⟨v, h1, r.keep (fun b o n e => kk b o (fun z => n (hN b z)) e) new fun a m z => ?_⟩
      subst z
      refine ⟨more a (hN a ⟨j, m, h⟩), ?_⟩
      obtain ⟨_, _, ok⟩ := r
      obtain ⟨o, e3, nt⟩ := ok.there
      have na : ¬ Mo (up cs) a := fun ⟨i, n, w⟩ => by
        obtain ⟨j2, g1, g2⟩ := argCs_own e (up_get w)
        have := S.inj j j2 m n a h g2
        subst this
        exact hj (lent_at g1)
      rw [(kp a o na e3).eq nt, e3]
  · -- owned places stay apart
    have back : ∀ {j : Nat} {m : MO}, (backE ρ rs cs')[j]? = some (some (C.own a m)) → ∃ m0, ρ[j]? = some (some (C.own a m0)) := fun {j m} h => by
      by_cases hj : j ∈ lent rs
      · obtain ⟨i, a', m2, m', _, _, g, _, g2⟩ := at_ hj
        rw [h] at g2
        cases g2
        exact ⟨m2, g⟩
      · rw [backE_out hj] at h
        exact ⟨m, h⟩
    obtain ⟨m1, g1⟩ := back h1
    obtain ⟨m2, g2⟩ := back h2
    exact S.inj i j m1 m2 a g1 g2
end
section
variable {Z : Ct} {ρ ρ1 ρ2 : Env} {Φ : Rv → Env → Prop} {e : Expr} {es : List Expr} {pos : Pos} {M M1 : AS} {σ σ1 : St} {H H1 H2 : Hp}
/-- a result that a def hands back: no slot -/
def noSlot : Rv → Prop
  | .slot _ => False
  | _ => True
/-- what a call needs -/
def CallF (Z : Ct) (F : FS) (rs : List Rv) (ρ : Env) (Φ : Rv → Env → Prop) : Prop := ∃ cs, argCs ρ rs = some cs ∧ (lent rs).Nodup ∧ F cs (fun r cs' => noSlot r ∧ Φ r (backE ρ rs cs')) (fun cls cs' => Z.ε cls (backE ρ rs cs'))
def MonoF (F : FS) : Prop := ∀ cs k k' x x', F cs k x → (∀ r cs', k r cs' → k' r cs') → (∀ c cs', x c cs' → x' c cs') → F cs k' x'
theorem sp_of {F : FS} (mono : MonoF F) {vs : List V} {rs : List Rv} {M2 : AS} (p : Pre Z M ρ σ H) (o : PostL Z M ρ σ H vs H2 rs ρ2 M2) (h : CallF Z F rs ρ2 Φ) : spD Z.X.K Z.T F vs H2 (Post Z M ρ σ H Φ) (WE (wz Z) σ) := by
  obtain ⟨cs, e, nd, hf⟩ := h
  have hN : ∀ a, Mo ρ2 a → M a := fun a z => p.st.own a (by rw [← o.sim.mo]; exact z)
  refine ⟨cs, M, o.st.args o.pd hN o.more e nd, mono cs _ _ _ _ hf (fun r cs' ⟨ns, k⟩ v H' M' E => ?_) fun cls cs' k H' E => ?_⟩
  · obtain ⟨sm, kk, S'⟩ := StS.behind o.pd o.st hN o.more e nd E.sim E.kp E.more E.new E.st
    refine ⟨r, backE ρ2 rs cs', M', k, o.sim.trans sm, o.kp.trans (by rw [← o.sim.mo]; exact kk), E.more, new_back o.kp p.st.own E.new, S', ?_⟩
    have pd := E.pd
    cases r with
    | dat d => exact pd
    | raw x => exact pd
    | slot i => exact ns.elim
    | frs m => exact pd
  · obtain ⟨sm, kk, S'⟩ := StS.behind o.pd o.st hN o.more e nd E.sim E.kp (fun _ h => h) (fun _ h => .inl h) E.st
    have mo2 : Mo (backE ρ2 rs cs') = Mo ρ := by rw [sm.mo, o.sim.mo]
    refine ⟨rfl, _, k, S'.less (fun a z => .inr z) fun a z => ?_, ?_⟩
    · rcases z with z | z
      · exact p.m0 a z
      · exact p.st.own a (by rw [← mo2]; exact z)
    · rw [mo2]
      exact p.base.trans ⟨o.kp.trans (by rw [← o.sim.mo]; exact kk), fun _ z => .inl z⟩
/-- f(e, ..) -/
theorem de_call {x : Str} {k : Nat} {F : FS} {p1 : Pos} (D : DefOk Z.X.prog Z.X.w Z.X.K Z.X.mg Z.X.base Z.T x k F) (mono : MonoF F) (hr : Room k Z.X.A) (hz : L2N.Takes Z.X (wz Z)) (h : DA Z (e :: es) ρ fun rs ρ' => CallF Z F rs ρ' Φ) (hg : Gl Z.X x := by rfl)
    (hdb : (x == ("__debug__" : Str)) = false := by decide) (he : starEach (e :: es) Z.X.env = (false, eval e Z.X.env) :: starEach es Z.X.env := by rfl) (hpl : (backTo pos (starEach es Z.X.env)).any (·.1) = false := by rfl) : DE Z (.Call (.Name x p1) (e :: es) [] pos) ρ Φ := by
  obtain ⟨f, fd, ps, FO, hm, hk, hb⟩ := D
  intro M σ H p pins s I
  exact (pe_callS FO hr hg hm hk hb (E := fun σ => WE (wz Z) σ) (fun σ => L2N.passAt hz σ) (pa_u Z.X (e :: es)) hdb he hpl).run pins s σ H _ I ((h M σ H p).mono fun vs H1 ⟨rs, ρ1, M1, k, o⟩ => sp_of mono p o k)
end
end DL
set_option Elab.async false
set_option linter.all false
set_option maxRecDepth 100000
/-! DLi: a def's body keeps its promise. -/
namespace DL
open PySem PySem.Spec PyProof.Rows L2
/-- the parameters' contents behind the body -/
inductive RetC : List C → Env → List C → Prop
  | nil {ρ : Env} : RetC [] ρ []
  | own {a : Addr} {m m' : MO} {cs cs' : List C} {ρ : Env} : RetC cs ρ cs' → RetC (.own a m :: cs) (some (.own a m') :: ρ) (.own a m' :: cs')
  | dat {d : D} {x : Option C} {cs cs' : List C} {ρ : Env} : RetC cs ρ cs' → RetC (.dat d :: cs) (x :: ρ) (.dat d :: cs')
  | raw {v : V} {x : Option C} {cs cs' : List C} {ρ : Env} : RetC cs ρ cs' → RetC (.raw v :: cs) (x :: ρ) (.raw v :: cs')
/-- the result, what a slot owns given out -/
def OutR (n : Nat) (ρ : Env) (k : Rv → Prop) : Rv → Prop
  | .slot i => n ≤ i ∧ ∃ a m, ρ[i]? = some (some (.own a m)) ∧ k (.frs m)
  | r => k r
theorem RetC.length : ∀ {cs cs' : List C} {ρ : Env}, RetC cs ρ cs' → cs'.length = cs.length
  | _, _, _, .nil => rfl
  | _, _, _, .own r => by rw [List.length_cons, List.length_cons, RetC.length r]
  | _, _, _, .dat r => by rw [List.length_cons, List.length_cons, RetC.length r]
  | _, _, _, .raw r => by rw [List.length_cons, List.length_cons, RetC.length r]
theorem RetC.own_at : ∀ {cs cs' : List C} {ρ : Env} {i : Nat} {a : Addr} {m : MO}, RetC cs ρ cs' → cs[i]? = some (.own a m) → ∃ m', ρ[i]? = some (some (.own a m')) ∧ cs'[i]? = some (.own a m')
  | _, _, _, _, _, _, .nil, h => by simp at h
  | _, _, _, 0, _, _, .own r, h => by simp at h; obtain ⟨rfl, rfl⟩ := h; exact ⟨_, rfl, rfl⟩
  | _, _, _, 0, _, _, .dat r, h => by simp at h
  | _, _, _, 0, _, _, .raw r, h => by simp at h
  | _, _, _, i + 1, a, m, .own r, h => by obtain ⟨m', h1, h2⟩ := RetC.own_at (i := i) r (by simpa using h); exact ⟨m', by simpa using h1, by simpa using h2⟩
  | _, _, _, i + 1, a, m, .dat r, h => by obtain ⟨m', h1, h2⟩ := RetC.own_at (i := i) r (by simpa using h); exact ⟨m', by simpa using h1, by simpa using h2⟩
  | _, _, _, i + 1, a, m, .raw r, h => by obtain ⟨m', h1, h2⟩ := RetC.own_at (i := i) r (by simpa using h); exact ⟨m', by simpa using h1, by simpa using h2⟩
theorem RetC.oth : ∀ {cs cs' : List C} {ρ : Env} {i : Nat} {c : C}, RetC cs ρ cs' → cs[i]? = some c → (∀ a m, c ≠ .own a m) → cs'[i]? = some c
  | _, _, _, _, _, .nil, h, _ => by simp at h
  | _, _, _, 0, _, .own r, h, n => by simp at h; subst h; exact absurd rfl (n _ _)
  | _, _, _, 0, _, .dat r, h, n => by simp at h; subst h; rfl
  | _, _, _, 0, _, .raw r, h, n => by simp at h; subst h; rfl
  | _, _, _, i + 1, c, .own r, h, n => by have := RetC.oth (i := i) r (by simpa using h) n; simpa using this
  | _, _, _, i + 1, c, .dat r, h, n => by have := RetC.oth (i := i) r (by simpa using h) n; simpa using this
  | _, _, _, i + 1, c, .raw r, h, n => by have := RetC.oth (i := i) r (by simpa using h) n; simpa using this
theorem RetC.sim {cs cs' : List C} {ρ : Env} (r : RetC cs ρ cs') : Sim (up cs) (up cs') :=
  ⟨by rw [List.length_map, List.length_map, r.length], fun i c h n => by
    cases c with
    | none =>
      rw [List.getElem?_map] at h
      cases e : cs[i]? with
      | none => rw [e] at h; cases h
      | some c => rw [e] at h; cases h
    | some c => exact up_of (r.oth (up_get h) fun a m z => n a m (by rw [z])), fun i a m h => by
    obtain ⟨m', _, h2⟩ := r.own_at (up_get h)
    exact ⟨m', up_of h2⟩⟩
/-- the environment at the entry -/
def ent (n : Nat) (cs : List C) : Env := up cs ++ List.replicate (n - cs.length) none
theorem ent_get {n : Nat} {cs : List C} {i : Nat} {c : C} (h : (ent n cs)[i]? = some (some c)) : cs[i]? = some c := by
  unfold ent at h
  by_cases hi : i < cs.length
  · rw [List.getElem?_append_left (by rw [List.length_map]; exact hi)] at h
    exact up_get h
  · rw [List.getElem?_append_right (by rw [List.length_map]; omega), List.getElem?_replicate] at h
    split at h <;> cases h
theorem ent_of {n : Nat} {cs : List C} {i : Nat} {c : C} (h : cs[i]? = some c) : (ent n cs)[i]? = some (some c) := by
  unfold ent
  have hi : i < cs.length := (List.getElem?_eq_some_iff.mp h).1
  rw [List.getElem?_append_left (by rw [List.length_map]; exact hi)]
  exact up_of h
theorem ent_mo {n : Nat} {cs : List C} : Mo (ent n cs) = Mo (up cs) := by
  funext a
  apply propext
  constructor
  · rintro ⟨i, m, h⟩
    exact ⟨i, m, up_of (ent_get h)⟩
  · rintro ⟨i, m, h⟩
    exact ⟨i, m, ent_of (up_get h)⟩
theorem start_of {N : List Str} {vs : List V} {i : Nat} {v : V} (h : vs[i]? = some v) : (L2.start N vs)[i]? = some (some v) := by
  unfold L2.start
  have hi : i < vs.length := (List.getElem?_eq_some_iff.mp h).1
  rw [List.getElem?_append_left (by rw [List.length_map]; exact hi)]
  exact upV_of h
theorem StS.entry {K : PySem.W.Frag} {T : List (Addr × Str)} {M : AS} {cs : List C} {vs : List V} {H : Hp} {N : List Str} (S : StS K T M (up cs) (upV vs) H) : StS K T M (ent N.length cs) (L2.start N vs) H := by
  have hl : cs.length = vs.length := by have := S.len; rwa [List.length_map, List.length_map] at this
  refine ⟨?_, by rw [ent_mo]; exact S.own, S.lv, fun i c h => ?_, fun i j m n a h1 h2 => S.inj i j m n a (up_of (ent_get h1)) (up_of (ent_get h2)), S.tab⟩
  · unfold ent L2.start
    rw [List.length_append, List.length_append, List.length_map, List.length_map, List.length_replicate, List.length_replicate, hl]
  · obtain ⟨v, h1, r⟩ := S.at_ i c (up_of (ent_get h))
    exact ⟨v, start_of (upV_get h1), r⟩
section
variable {K : PySem.W.Frag} {T : List (Addr × Str)} {M M' : AS} {cs cs' : List C} {vs : List V} {H H' : Hp} {N : List Str} {ρ' : Env} {σ' : St}
/-- behind the body: the parameters' contents -/
theorem StS.exit (S : StS K T M (up cs) (upV vs) H) (r : RetC cs ρ' cs') (s : Step (Mo (up cs)) H (Mo ρ') H') (S' : StS K T M' ρ' σ' H') (more : ∀ a, M a → M' a) (new : ∀ a, M' a → M a ∨ H a = none) : StS K T M' (up cs') (upV vs) H' := by
  have hl := S.len
  rw [List.length_map, List.length_map] at hl
  refine ⟨by rw [List.length_map, List.length_map, r.length, hl], fun a z => more a (S.own a (by rw [← r.sim.mo]; exact z)), S'.lv, fun i c h => ?_, fun i j m n a h1 h2 => ?_, S'.tab⟩
  · have h := up_get h
    have hi : i < cs.length := by rw [← r.length]; exact (List.getElem?_eq_some_iff.mp h).1
    obtain ⟨c0, hc⟩ : ∃ c0, cs[i]? = some c0 := ⟨_, List.getElem?_eq_getElem hi⟩
    obtain ⟨v, h1, rv⟩ := S.at_ i c0 (up_of hc)
    refine ⟨v, h1, ?_⟩
    by_cases n : ∃ a m, c0 = .own a m
    · obtain ⟨a, m, rfl⟩ := n
      obtain ⟨m', e1, e2⟩ := r.own_at hc
      rw [h] at e2
      cases e2
      obtain ⟨v', f1, f2, f3, f4⟩ := S'.at_ i _ e1
      exact ⟨rv.1, f3, f4⟩
    · have := r.oth hc fun a m z => n ⟨a, m, z⟩
      rw [h] at this
      cases this
      exact rv.keep (fun b o nb e => s.kp b o (fun z => nb (S.own b z)) e) new fun a m z => absurd ⟨a, m, z⟩ n
  · -- owned places stay apart
    have back : ∀ {j : Nat} {m : MO}, (up cs')[j]? = some (some (C.own a m)) → ∃ m0, (up cs)[j]? = some (some (C.own a m0)) := fun {j m} h => by
      have h := up_get h
      have hi : j < cs.length := by rw [← r.length]; exact (List.getElem?_eq_some_iff.mp h).1
      obtain ⟨c0, hc⟩ : ∃ c0, cs[j]? = some c0 := ⟨_, List.getElem?_eq_getElem hi⟩
      by_cases n : ∃ a m, c0 = .own a m
      · obtain ⟨a', m', rfl⟩ := n
        obtain ⟨m2, e1, e2⟩ := r.own_at hc
        rw [h] at e2
        cases e2
        exact ⟨m', up_of hc⟩
      · have := r.oth hc fun a m z => n ⟨a, m, z⟩
        rw [h] at this
        cases this
        exact absurd ⟨_, _, rfl⟩ n
    obtain ⟨m1, g1⟩ := back h1
    obtain ⟨m2, g2⟩ := back h2
    exact S.inj i j m1 m2 a g1 g2
end
/-- the ends of a body -/
def bodyE (cs : List C) (kk : Rv → List C → Prop) : DN where
  nx := fun ρ => ∃ cs', RetC cs ρ cs' ∧ kk (.dat .none) cs'
  rt := fun r ρ => ∃ cs', RetC cs ρ cs' ∧ OutR cs.length ρ (fun r' => kk r' cs') r
def bodyX (cs : List C) (ee : Value → List C → Prop) : Value → Env → Prop := fun cls ρ => ∃ cs', RetC cs ρ cs' ∧ ee cls cs'
section
variable {P : Program} {w : World} {K : PySem.W.Frag} {mg : Str → Option Value} {base : Heap} {T : List (Addr × Str)}
/-- what the body's judgement stands in -/
abbrev ctOf (P : Program) (w : World) (K : PySem.W.Frag) (mg : Str → Option Value) (base : Heap) (T : List (Addr × Str)) (N : List Str) (qual : Str) (scope : Scope) (f : Addr) (cdv : Value) (A : Around) (outer : List PySem.Env) (s : Shared) (H : Hp) (E : XK) (W0 M0 : AS) (ε : Value → Env → Prop) : Ct :=
  ⟨cxOf (L2N.CX P w) P w K mg base N qual scope f cdv A outer s H E, T, W0, M0, H, ε⟩
/-- a body, in any context that is entered with these contents -/
theorem body_core {Z : Ct} {N : List Str} {body : List Stmt} {cs : List C} {vs : List V} {M : AS} {H : Hp} {Q : VK} (hK : Z.X.K = K) (hT : Z.T = T) (hW : Z.W0 = Mo (up cs)) (hM : Z.M0 = M) (hH : Z.H0 = H) (S0 : StS K T M (up cs) (upV vs) H)
    (main : DSs Z body (ent N.length cs) (bodyE cs fun r cs' => ∀ v H' M', EndF K T M cs vs H v H' r cs' M' → Q v H')) : uSs Z.X body { nx := fun _ H' => Q .non H', rt := Q } (L2.start N vs) H := by
  have nwOf : ∀ {ρ' : Env} {M' : AS} {H' : Hp}, Step (Mo (up cs)) H (Mo ρ') H' → (∀ a, M' a → (M a ∨ Mo ρ' a) ∨ H a = none) → ∀ a, M' a → M a ∨ H a = none := fun {ρ' M' H'} s q a z => by
    rcases q a z with (w | w) | w
    · exact .inl w
    · exact (s.nw a w).imp (S0.own a) id
    · exact .inr w
  have pre : PreS Z (ent N.length cs) (L2.start N vs) H := ⟨by rw [hW, hM]; exact S0.own, by
    rw [hK, hT]
    exact (S0.entry (N := N)).less (fun a z => .inr z) fun a z => by
      rcases z with z | z
      · rw [hM] at z; exact z
      · rw [ent_mo] at z; exact S0.own a z, by rw [hW, hH, ent_mo]; exact Step.refl _ _⟩
  refine (main (L2.start N vs) H pre).mono ⟨fun σ' H' ⟨ρ', ⟨cs', rc, q⟩, S', s'⟩ => ?_, fun v H' ⟨r, ρ', σ', M', ⟨cs', rc, q⟩, S', s', m1, pd, nw⟩ => ?_, fun _ _ ⟨_, z, _⟩ => z, fun _ _ ⟨_, z, _⟩ => z⟩
  · rw [hK, hT] at S'
    rw [ent_mo] at s'
    have nw := nwOf s' (M' := Z.mz ρ') (by intro a z; rcases z with z | z; exact .inl (.inl (by rw [← hM]; exact z)); exact .inl (.inr z))
    have more : ∀ a, M a → Z.mz ρ' a := fun a z => .inl (by rw [hM]; exact z)
    exact q .non H' (Z.mz ρ') ⟨rc.sim, s'.kp, more, nw, S0.exit rc s' S' more nw, .non⟩
  · rw [hK, hT] at S'
    rw [ent_mo] at s'
    rw [hK] at pd
    have nw := nwOf s' (M' := M') (by
      intro a z
      rcases nw a z with w | w
      · rcases w with w | w
        · exact .inl (.inl (by rw [← hM]; exact w))
        · exact .inl (.inr w)
      · exact .inr (by rw [← hH]; exact w))
    have more : ∀ a, M a → M' a := fun a z => m1 a (.inl (by rw [hM]; exact z))
    have SE := S0.exit rc s' S' more nw
    cases r with
    | dat d => exact q v H' M' ⟨rc.sim, s'.kp, more, nw, SE, pd⟩
    | raw x => exact q v H' M' ⟨rc.sim, s'.kp, more, nw, SE, pd⟩
    | frs m =>
      obtain ⟨a, e, ma, na, ok⟩ := pd
      exact q v H' M' ⟨rc.sim, s'.kp, more, nw, SE, a, e, ma, fun z => na (.inl (by rw [hM]; exact z)), ok⟩
    | slot i =>
      obtain ⟨hi, a, m, e, q⟩ := q
      obtain ⟨v', e1, e2, ma, ok⟩ := S'.at_ i _ e
      obtain ⟨_, e3⟩ := pd
      rw [e3] at e1
      cases e1
      refine q v H' M' ⟨rc.sim, s'.kp, more, nw, SE, a, e2, ma, fun z => ?_, ok⟩
      rcases s'.nw a ⟨i, m, e⟩ with ⟨j, m0, w⟩ | w
      · have w := up_get w
        obtain ⟨m', g1, _⟩ := rc.own_at w
        have := S'.inj i j m m' a e g1
        have hj := (List.getElem?_eq_some_iff.mp w).1
        omega
      · exact S0.liv a z w
theorem fn_ok {x qual : Str} {params : Arguments} {body : List Stmt} {scope : Scope} {f : Addr} {fd : FuncData} {N ps : List Str} {k : Nat} {F : FS} (FD : FunD K x qual params body scope [] [] f fd) (S : FnScope N ps scope) (len : ∀ cs kk ee, F cs kk ee → cs.length = ps.length)
    (hbody : ∀ (cdv : Value), (∃ o fd, K.lookup f = some o ∧ o.data = .func fd ∧ fd.code = cdv) → ∀ (A : Around) (outer : List PySem.Env) (s : Shared) (H : Hp) (E : XK) (W0 M0 : AS) (cs : List C) (kk : Rv → List C → Prop) (ee : Value → List C → Prop), F cs kk ee →
      Room k (ctOf P w K mg base T N qual scope f cdv A outer s H E W0 M0 (bodyX cs ee)).X.A → L2N.Takes (ctOf P w K mg base T N qual scope f cdv A outer s H E W0 M0 (bodyX cs ee)).X (wz (ctOf P w K mg base T N qual scope f cdv A outer s H E W0 M0 (bodyX cs ee))) →
      DSs (ctOf P w K mg base T N qual scope f cdv A outer s H E W0 M0 (bodyX cs ee)) body (ent N.length cs) (bodyE cs kk)) : FnOk P w K mg base (L2N.CX P w) (k + 1) f fd ps (spD K T F) := by
  obtain ⟨oc, od, dV, kV, doc, pm, an, cdv, ct, osl, rfl, lk, hcd, _, _⟩ := FD.ex
  refine fn_of lk hcd S (fun vs H Q E h => ?_) fun A outer s H vs Q E hr h => ?_
  · obtain ⟨cs, M, S0, hf⟩ := h
    have := S0.len
    rw [List.length_map, List.length_map] at this
    rw [← this]
    exact len _ _ _ hf
  · obtain ⟨cs, M, S0, hf⟩ := h
    refine ⟨uSs _ body, pss_u _ body, ?_⟩
    generalize hZ : ctOf P w K mg base T N qual scope f cdv A outer s H E (Mo (up cs)) M (bodyX cs fun cls cs' => ∀ H', EndX K T M cs vs H H' cs' → E cls none H') = Z
    have hX : Z.X = cxOf (L2N.CX P w) P w K mg base N qual scope f cdv A outer s H E := by rw [← hZ]
    have hK : Z.X.K = K := by rw [hX]; rfl
    have hT : Z.T = T := by rw [← hZ]
    have hW : Z.W0 = Mo (up cs) := by rw [← hZ]
    have hM : Z.M0 = M := by rw [← hZ]
    have hH : Z.H0 = H := by rw [← hZ]
    have hE : Z.ε = bodyX cs fun cls cs' => ∀ H', EndX K T M cs vs H H' cs' → E cls none H' := by rw [← hZ]
    have nwOf : ∀ {ρ' : Env} {M' : AS} {H' : Hp}, Step (Mo (up cs)) H (Mo ρ') H' → (∀ a, M' a → (M a ∨ Mo ρ' a) ∨ H a = none) → ∀ a, M' a → M a ∨ H a = none := fun {ρ' M' H'} s q a z => by
      rcases q a z with (w | w) | w
      · exact .inl w
      · exact (s.nw a w).imp (S0.own a) id
      · exact .inr w
    have tk : L2N.Takes Z.X (wz Z) := by
      rw [hX]
      refine (L2N.takes_of rfl rfl rfl rfl).imp fun cls d σ' H' ⟨ed, ρ', q, S', s'⟩ => ?_
      subst ed
      rw [hE] at q
      obtain ⟨cs', rc, q⟩ := q
      rw [hK, hT] at S'
      rw [hW, hH] at s'
      have SE := S0.exit rc s' S' (fun a z => .inl (by rw [hM]; exact z)) (nwOf s' (fun a z => .inl (by rcases z with z | z; exact .inl (by rw [← hM]; exact z); exact .inr z)))
      exact q H' ⟨rc.sim, s'.kp, SE.less (fun a z => S0.own a (by rw [← rc.sim.mo]; exact z)) fun a z => .inl (by rw [hM]; exact z)⟩
    have main := hbody cdv ⟨_, _, lk, rfl, rfl⟩ A outer s H E (Mo (up cs)) M cs _ _ hf (by rw [hZ, hX]; exact hr) (by rw [hZ]; exact tk)
    rw [hZ] at main
    rw [← hX]
    exact body_core hK hT hW hM hH S0 main
end
end DL
set_option Elab.async false
set_option linter.all false
set_option maxRecDepth 100000
/-! DLk: built-in functions and methods over data. -/
namespace DL
open PySem PySem.Spec PyProof.Rows L2
section
variable {Z : Ct} {ρ ρ1 ρ2 : Env} {Φ : Rv → Env → Prop} {M M1 : AS} {σ σ1 : St} {H H1 H2 : Hp} {r r0 r1 r2 : Rv} {d d1 d2 : D}
theorem PostL.view1 {vs : List V} {M2 : AS} (t : PostL Z M ρ σ H vs H2 [r] ρ2 M2) (e : vw ρ2 r = some d) : ∃ v, vs = [v] ∧ SeqR Z.X.K M2 H2 v d := by
  obtain ⟨v, rfl, o⟩ := t.one
  exact ⟨v, rfl, o.v e⟩
/-! ### len, sum, all, abs, int, bool, str -/
def dLen : D → Option Nat
  | .list ds => some ds.length
  | .tuple ds => some ds.length
  | .str z => some z.length
  | _ => none
def strFits : D → Prop
  | .str z => z.length ≤ sizeLine
  | _ => True
theorem cd_len {n : Nat} (e : vw ρ2 r = some d) (h : dLen d = some n) (hz : strFits d) (k : Φ (.dat (.int n)) ρ2) : CallD Z (.builtin "len") [r] ρ2 Φ :=
  CallD.of (call_len_seq.or call_len_str) fun M M2 ρ σ H H2 vs p t => by
    obtain ⟨v, rfl, q⟩ := t.view1 e
    cases d with
    | list ds =>
      cases h
      obtain ⟨a, xs, rfl, h1, g⟩ := q.list
      exact .inl ⟨a, xs, rfl, .inl h1, by rw [g.length]; exact t.endO.post k (.int _)⟩
    | tuple ds =>
      cases h
      obtain ⟨a, xs, rfl, h1, g⟩ := q.tuple
      exact .inl ⟨a, xs, rfl, .inr h1, by rw [g.length]; exact t.endO.post k (.int _)⟩
    | str z =>
      cases h
      cases q.str
      exact .inr ⟨z, rfl, hz, t.endO.post k (.int _)⟩
    | none => cases h
    | bool _ => cases h
    | int _ => cases h
    | dict _ => cases h
theorem cd_sum {ns : List Int} (e : vw ρ2 r = some (.list (ns.map PyData.int))) (k : Φ (.dat (.int ns.sum)) ρ2) (hc : Z.X.calm = true := by rfl) : CallD Z (.builtin "sum") [r] ρ2 Φ :=
  CallD.of (cr_sum hc) fun M M2 ρ σ H H2 vs p t => by
    obtain ⟨v, rfl, q⟩ := t.view1 e
    obtain ⟨a, xs, rfl, h1, g⟩ := q.list
    cases g.ints
    exact ⟨a, ns, rfl, h1, t.endO.post k (.int _)⟩
theorem cd_all {bs : List Bool} (e : vw ρ2 r = some (.list (bs.map PyData.bool))) (k : Φ (.dat (.bool (bs.all id))) ρ2) (hc : Z.X.calm = true := by rfl) : CallD Z (.builtin "all") [r] ρ2 Φ :=
  CallD.of (cr_all hc) fun M M2 ρ σ H H2 vs p t => by
    obtain ⟨v, rfl, q⟩ := t.view1 e
    obtain ⟨a, xs, rfl, h1, g⟩ := q.list
    cases g.bools
    exact ⟨a, bs, rfl, h1, t.endO.post k (.bl _)⟩
theorem cd_abs {i : Int} (e : vw ρ2 r = some (.int i)) (k : Φ (.dat (.int (if i < 0 then -i else i))) ρ2) : CallD Z (.builtin "abs") [r] ρ2 Φ :=
  CallD.of call_abs fun M M2 ρ σ H H2 vs p t => by
    obtain ⟨v, rfl, q⟩ := t.view1 e
    cases q.int
    exact ⟨i, rfl, t.endO.post k (.int _)⟩
theorem cd_intI {i : Int} (e : vw ρ2 r = some (.int i)) (k : Φ (.dat (.int i)) ρ2) : CallD Z (.type "int") [r] ρ2 Φ :=
  CallD.of call_int1 fun M M2 ρ σ H H2 vs p t => by
    obtain ⟨v, rfl, q⟩ := t.view1 e
    cases q.int
    exact .inl ⟨i, rfl, t.endO.post k (.int _)⟩
theorem cd_intB {b : Bool} (e : vw ρ2 r = some (.bool b)) (k : Φ (.dat (.int (if b then 1 else 0))) ρ2) : CallD Z (.type "int") [r] ρ2 Φ :=
  CallD.of call_int1 fun M M2 ρ σ H H2 vs p t => by
    obtain ⟨v, rfl, q⟩ := t.view1 e
    cases q.bool
    exact .inr ⟨b, rfl, t.endO.post k (.int _)⟩
theorem cd_intS {z : Str} {n : Int} (e : vw ρ2 r = some (.str z)) (h : PySem.intText? z = some n) (hz : z.length ≤ 640) (k : Φ (.dat (.int n)) ρ2) : CallD Z (.type "int") [r] ρ2 Φ :=
  CallD.of call_int_str fun M M2 ρ σ H H2 vs p t => by
    obtain ⟨v, rfl, q⟩ := t.view1 e
    cases q.str
    exact ⟨z, n, rfl, h, hz, t.endO.post k (.int _)⟩
theorem cd_boolB {b : Bool} (e : vw ρ2 r = some (.bool b)) (k : Φ (.dat (.bool b)) ρ2) : CallD Z (.type "bool") [r] ρ2 Φ :=
  CallD.of call_bool1 fun M M2 ρ σ H H2 vs p t => by
    obtain ⟨v, rfl, q⟩ := t.view1 e
    cases q.bool
    exact .inr ⟨b, rfl, t.endO.post k (.bl _)⟩
theorem cd_strI {i : Int} (e : vw ρ2 r = some (.int i)) (hz : i.natAbs.log2 < 1920) (k : Φ (.dat (.str (toString i))) ρ2) : CallD Z (.type "str") [r] ρ2 Φ :=
  CallD.of call_str_int fun M M2 ρ σ H H2 vs p t => by
    obtain ⟨v, rfl, q⟩ := t.view1 e
    cases q.int
    exact ⟨i, rfl, hz, t.endO.post k (.str _)⟩
theorem cd_max2 {i j : Int} (e1 : vw ρ2 r1 = some (.int i)) (e2 : vw ρ2 r2 = some (.int j)) (k : Φ (.dat (.int (if j > i then j else i))) ρ2) (hc : Z.X.calm = true := by rfl) : CallD Z (.builtin "max") [r1, r2] ρ2 Φ :=
  CallD.of (call_max2 hc) fun M M2 ρ σ H H2 vs p t => by
    obtain ⟨v, u, rfl, q1, q2⟩ := t.two e1 e2
    cases q1.int
    cases q2.int
    exact ⟨i, j, rfl, t.endO.post k (.int _)⟩
/-! ### list(..), tuple(..) -/
theorem cd_listOf {ds : List D} (e : vw ρ2 r = some (.list ds) ∨ vw ρ2 r = some (.tuple ds)) (k : Φ (.frs (.lst ds)) ρ2) : CallD Z (.type "list") [r] ρ2 Φ :=
  CallD.of call_list_of fun M M2 ρ σ H H2 vs p t => by
    rcases e with e | e
    · obtain ⟨v, rfl, q⟩ := t.view1 e
      obtain ⟨a, xs, rfl, h1, g⟩ := q.list
      exact ⟨a, xs, rfl, .inl h1, fun l hl => t.endO.list k hl g⟩
    · obtain ⟨v, rfl, q⟩ := t.view1 e
      obtain ⟨a, xs, rfl, h1, g⟩ := q.tuple
      exact ⟨a, xs, rfl, .inr h1, fun l hl => t.endO.list k hl g⟩
theorem cd_tupleOf {ds : List D} (e : vw ρ2 r = some (.list ds)) (k : Φ (.dat (.tuple ds)) ρ2) : CallD Z (.type "tuple") [r] ρ2 Φ :=
  CallD.of call_tuple_of fun M M2 ρ σ H H2 vs p t => by
    obtain ⟨v, rfl, q⟩ := t.view1 e
    obtain ⟨a, xs, rfl, h1, g⟩ := q.list
    exact ⟨a, xs, rfl, .inl ⟨h1, fun l hl => t.endO.tuple k hl g⟩⟩
/-! ### isinstance -/
def tyD : D → String
  | .none => "NoneType"
  | .bool _ => "bool"
  | .int _ => "int"
  | .str _ => "str"
  | .list _ => "list"
  | .tuple _ => "tuple"
  | .dict _ => "dict"
theorem SeqR.ty {K : PySem.W.Frag} {v : V} (q : SeqR K M H v d) (h : ∀ kvs, d ≠ .dict kvs) : TyX K H v (.type (tyD d)) := by
  have rl : ∀ {a : Addr} {xs : List V}, SqL K H a xs → TyX K H (.ref a) (.type "list") := fun {a xs} q => by
    rcases q with (q | ⟨o, q⟩) | ⟨o, its, n, q, c, _⟩
    · exact .base (.lst q)
    · exact .base (.frz q)
    · exact .kList q c
  have rt : ∀ {a : Addr} {xs : List V}, SqT K H a xs → TyX K H (.ref a) (.type "tuple") := fun {a xs} q => by
    rcases q with (q | ⟨o, q⟩) | ⟨o, its, n, q, c, _⟩
    · exact .base (.tup q)
    · exact .fTuple q
    · exact .kTuple q c
  cases q with
  | lst q _ => exact rl q
  | tup q _ => exact rt q
  | oth q => cases q with
    | non => exact .base .non
    | bl b => exact .base (.bl b)
    | int i => exact .base (.int i)
    | str x => exact .base (.str x)
    | lst q _ => exact rl q.sq
    | tup q _ => exact rt q.sq
def isTup : D → Bool
  | .tuple _ => true
  | _ => false
def isStr : D → Bool
  | .str _ => true
  | _ => false
def isInt : D → Bool
  | .int _ => true
  | .bool _ => true
  | _ => false
def isBool : D → Bool
  | .bool _ => true
  | _ => false
def isLst : D → Bool
  | .list _ => true
  | _ => false
def isTy (T : String) (d : D) : Bool := match T with
  | "tuple" => isTup d
  | "str" => isStr d
  | "int" => isInt d
  | "bool" => isBool d
  | "list" => isLst d
  | _ => false
theorem kit_tuple (h : ∀ kvs, d ≠ .dict kvs) : kitB (tyD d) "tuple" = some (isTup d) := by cases d <;> first | exact absurd rfl (h _) | (simp only [tyD, isTup]; decide +kernel)
theorem kit_str (h : ∀ kvs, d ≠ .dict kvs) : kitB (tyD d) "str" = some (isStr d) := by cases d <;> first | exact absurd rfl (h _) | (simp only [tyD, isStr]; decide +kernel)
theorem kit_int (h : ∀ kvs, d ≠ .dict kvs) : kitB (tyD d) "int" = some (isInt d) := by cases d <;> first | exact absurd rfl (h _) | (simp only [tyD, isInt]; decide +kernel)
theorem kit_bool (h : ∀ kvs, d ≠ .dict kvs) : kitB (tyD d) "bool" = some (isBool d) := by cases d <;> first | exact absurd rfl (h _) | (simp only [tyD, isBool]; decide +kernel)
theorem Rp.nodict {K : PySem.W.Frag} {v : V} (q : Rp K M H v d) : ∀ kvs, d ≠ .dict kvs := by cases q <;> exact fun _ z => by cases z
theorem SeqR.nodict {K : PySem.W.Frag} {v : V} (q : SeqR K M H v d) : ∀ kvs, d ≠ .dict kvs := by
  cases q with
  | lst _ _ => exact fun _ z => by cases z
  | tup _ _ => exact fun _ z => by cases z
  | oth q => exact q.nodict
theorem cd_isi {T : String} {b : Bool} (e : vw ρ2 r = some d) (hb : (∀ kvs, d ≠ .dict kvs) → kitB (tyD d) T = some b) (k : Φ (.dat (.bool b)) ρ2) : CallD Z (.builtin "isinstance") [r, .raw (.ty T)] ρ2 Φ :=
  CallD.of call_isi fun M M2 ρ σ H H2 vs p t => by
    have q := t.pd
    cases q with
    | cons h1 q => cases q with
      | cons h2 q =>
        cases q
        cases (show _ = V.ty T from h2)
        have s := h1.view t.st e
        exact ⟨_, _, _, .type T, b, rfl, .ty T, s.ty s.nodict, kit_ty (hb s.nodict), t.endO.post k (.bl _)⟩
theorem cd_isTup (e : vw ρ2 r = some d) (k : Φ (.dat (.bool (isTup d))) ρ2) : CallD Z (.builtin "isinstance") [r, .raw (.ty "tuple")] ρ2 Φ := cd_isi e kit_tuple k
theorem cd_isStr (e : vw ρ2 r = some d) (k : Φ (.dat (.bool (isStr d))) ρ2) : CallD Z (.builtin "isinstance") [r, .raw (.ty "str")] ρ2 Φ := cd_isi e kit_str k
theorem cd_isInt (e : vw ρ2 r = some d) (k : Φ (.dat (.bool (isInt d))) ρ2) : CallD Z (.builtin "isinstance") [r, .raw (.ty "int")] ρ2 Φ := cd_isi e kit_int k
theorem cd_isBool (e : vw ρ2 r = some d) (k : Φ (.dat (.bool (isBool d))) ρ2) : CallD Z (.builtin "isinstance") [r, .raw (.ty "bool")] ρ2 Φ := cd_isi e kit_bool k
/-! ### sorted -/
/-- values with their V's and their data -/
inductive Tri (K : PySem.W.Frag) (M : AS) (H : Hp) (h : Heap) : List Value → List (V × D) → Prop
  | nil : Tri K M H h [] []
  | cons {u : Value} {v : V} {d : D} {us : List Value} {bs : List (V × D)} : RelV v u → Rp K M H v d → (∃ as, Reads h u d as) → Tri K M H h us bs → Tri K M H h (u :: us) ((v, d) :: bs)
theorem tri_of {X : Cx} {pins : List (Addr × Obj)} {s : Shared} (I : Inv X pins σ H s) : ∀ {xs : List V} {ds : List D} {us : List Value}, RpA X.K M H xs ds → Vals xs us → Tri X.K M H s.heap us (xs.zip ds)
  | _, _, _, .nil, .nil => .nil
  | _, _, _, .cons h g, .cons r rr => .cons r h (Dp.reads I _ _ _ h.dp r) (tri_of I g rr)
theorem Tri.rel {K : PySem.W.Frag} {h : Heap} : ∀ {us : List Value} {bs : List (V × D)}, Tri K M H h us bs → PySem.W.EachIs (fun u b => RelV b.1 u) us bs
  | _, _, .nil => .nil
  | _, _, .cons r _ _ q => .cons r q.rel
theorem Tri.reads {K : PySem.W.Frag} {h : Heap} : ∀ {us : List Value} {bs : List (V × D)}, Tri K M H h us bs → PySem.W.EachIs (fun u b => ∃ as, Reads h u b.2 as) us bs
  | _, _, .nil => .nil
  | _, _, .cons _ _ r q => .cons r q.reads
theorem Tri.rp {K : PySem.W.Frag} {h : Heap} : ∀ {us : List Value} {bs : List (V × D)}, Tri K M H h us bs → ∀ b ∈ bs, Rp K M H b.1 b.2
  | _, _, .nil, _, z => by cases z
  | _, _, .cons _ g _ q, b, z => by
    rcases List.mem_cons.mp z with rfl | z
    · exact g
    · exact q.rp b z
theorem RpA.zip_snd {K : PySem.W.Frag} : ∀ {xs : List V} {ds : List D}, RpA K M H xs ds → (xs.zip ds).map (·.2) = ds
  | _, _, .nil => rfl
  | _, _, .cons _ g => by rw [List.zip_cons_cons, List.map_cons, RpA.zip_snd g]
theorem RpA.of_all {K : PySem.W.Frag} : ∀ {bs : List (V × D)}, (∀ b ∈ bs, Rp K M H b.1 b.2) → RpA K M H (bs.map (·.1)) (bs.map (·.2))
  | [], _ => .nil
  | b :: bs, h => .cons (h b List.mem_cons_self) (RpA.of_all fun c hc => h c (List.mem_cons_of_mem _ hc))
theorem each_vals : ∀ {us : List Value} {bs : List (V × D)}, PySem.W.EachIs (fun u b => RelV b.1 u) us bs → Vals (bs.map (·.1)) us
  | _, _, .nil => .nil
  | _, _, .cons r q => .cons r (each_vals q)
/-- sorted(l) of data -/
theorem cd_sorted {ds : List D} (e : vw ρ2 r = some (.list ds)) (hal : PySem.W.AllAlike ds) (hk : PySem.W.Sortable ds) (hu : ∀ d, d ∈ ds → Z.X.A.units + 2 + d.depth < cLine) (k : Φ (.frs (.lst (ds.mergeSort (PySem.W.dataLe false id)))) ρ2) : CallD Z (.builtin "sorted") [r] ρ2 Φ := fun M M2 ρ σ H H2 vs p t pins s us I rv => by
  obtain ⟨v, rfl, q⟩ := t.view1 e
  obtain ⟨a, xs, rfl, h1, g⟩ := q.list
  obtain ⟨its, ri, hl, hz⟩ := I.list h1
  rw [Vals.ref1 rv]
  have T := tri_of I g ri
  have em := g.zip_snd
  refine PySem.W.sorted_data (enc := fun b : V × D => b.2) hl.isList T.rel T.reads (by rw [em]; exact hal) (by rw [em]; exact hk) (by rw [List.length_zip, ← g.length, Nat.min_self]; exact hz) (fun b hb => hu b.2 (by rw [← em]; exact List.mem_map.mpr ⟨b, hb, rfl⟩)) fun out hlen ho => ?_
  obtain ⟨ep, he'⟩ := PyProof.Rows.sortedAll_at s.heap its out.toArray
  have ho' := each_vals ho
  have hsnd : ((xs.zip ds).mergeSort (PySem.W.dataLe false fun b : V × D => b.2)).map (·.2) = ds.mergeSort (PySem.W.dataLe false id) := by
    rw [List.map_mergeSort (r := PySem.W.dataLe false fun b : V × D => b.2) (s := PySem.W.dataLe false id) fun a _ b _ => rfl, em]
  have hrp : RpA Z.X.K M2 H2 (((xs.zip ds).mergeSort (PySem.W.dataLe false fun b : V × D => b.2)).map (·.1)) (ds.mergeSort (PySem.W.dataLe false id)) := by
    rw [← hsnd]
    exact RpA.of_all fun b hb => T.rp b (List.mem_mergeSort.mp hb)
  have hfr := I.hok.fresh (Nat.le_succ s.heap.objs.size)
  exact ⟨.ref _, upd H2 (s.heap.objs.size + 1) (.lst _), I.laid (t' := s.toks) (fun _ _ => PyProof.Rows.sortedAll_old) (Nat.le_succ _) ⟨by rw [List.length_map, List.length_mergeSort, List.length_zip, ← g.length, Nat.min_self]; exact hz, out, ep, ho', he'⟩, rfl, t.endO.list k hfr hrp⟩
/-! ### methods -/
/-- what a slot owns, written -/
theorem StS.write {K : PySem.W.Frag} {T : List (Addr × Str)} {i : Nat} {a : Addr} {m m' : MO} {H' : Hp} (S : StS K T M ρ σ H) (e : ρ[i]? = some (some (C.own a m))) (k : ∀ b, b ≠ a → H' b = H b) (ok : MOk K M H' a m') : StS K T M (ρ.set i (some (.own a m'))) σ H' := by
  have ma : M a := S.own a ⟨i, m, e⟩
  have hk : ∀ b o, ¬ M b → H b = some o → OKeep o (H' b) := fun b o n q => .inl (by rw [k b (fun z => n (by rw [z]; exact ma))]; exact q)
  refine ⟨by rw [List.length_set]; exact S.len, fun b z => ?_, fun b z => ?_, fun j c h => ?_, fun x y m1 n1 b h1 h2 => ?_, tabs_keep S.tab fun b o q ns => ?_⟩
  · rcases mo_setO b z with w | w
    · exact S.own b w
    · subst w; exact ma
  · by_cases hb : b = a
    · subst hb
      exact ok.solid
    · rw [k b hb]
      exact S.lv b z
  · rcases get_set h with ⟨rfl, z⟩ | ⟨hj, z⟩
    · cases z
      obtain ⟨v, e1, e2, _⟩ := S.at_ j _ e
      exact ⟨v, e1, e2, ma, ok⟩
    · obtain ⟨v, e1, r⟩ := S.at_ j c z
      refine ⟨v, e1, r.keep hk (fun b z => .inl z) fun b m2 w => ?_⟩
      subst w
      have hb : b ≠ a := fun y => by
        subst y
        exact hj (S.inj j i m2 m b z e)
      exact ⟨S.own b ⟨j, m2, z⟩, k b hb⟩
  · have back : ∀ {j : Nat} {m2 : MO}, (ρ.set i (some (C.own a m')))[j]? = some (some (C.own b m2)) → ∃ m3, ρ[j]? = some (some (C.own b m3)) := fun {j m2} h => by
      rcases get_set h with ⟨rfl, z⟩ | ⟨_, z⟩
      · cases z
        exact ⟨m, e⟩
      · exact ⟨m2, z⟩
    obtain ⟨_, g1⟩ := back h1
    obtain ⟨_, g2⟩ := back h2
    exact S.inj x y _ _ b g1 g2
  · rw [k b fun z => ?_]
    · exact q
    · obtain ⟨o', e', so⟩ := S.lv a ma
      rw [← z, q] at e'
      cases e'
      exact ns so
theorem sim_set {i : Nat} {a : Addr} {m m' : MO} (e : ρ[i]? = some (some (C.own a m))) : Sim ρ (ρ.set i (some (.own a m'))) := by
  have hl : i < ρ.length := (List.getElem?_eq_some_iff.mp e).1
  refine ⟨List.length_set, fun j c h n => ?_, fun j b m2 h => ?_⟩
  · by_cases hj : i = j
    · subst hj
      rw [e] at h
      cases h
      exact absurd rfl (n a m)
    · rw [List.getElem?_set_ne hj]; exact h
  · by_cases hj : i = j
    · subst hj
      rw [e] at h
      cases h
      exact ⟨m', List.getElem?_set_self hl⟩
    · exact ⟨m2, by rw [List.getElem?_set_ne hj]; exact h⟩
/-- behind a write to what slot i owns -/
theorem EndO.write {M2 : AS} {H3 : Hp} {i : Nat} {a : Addr} {m m' : MO} {v : V} {d : D} (t : EndO Z M M2 ρ ρ2 σ H H2) (e : ρ2[i]? = some (some (C.own a m))) (hk : ∀ b, b ≠ a → H3 b = H2 b) (ok : MOk Z.X.K M2 H3 a m') (k : Φ (.dat d) (ρ2.set i (some (.own a m')))) (rv : Rp Z.X.K M2 H3 v d) : Post Z M ρ σ H Φ v H3 := by
  have mo : Mo ρ a := by rw [← t.sim.mo]; exact ⟨i, m, e⟩
  refine ⟨.dat d, _, M2, k, t.sim.trans (sim_set e), t.kp.trans fun b o n q => .inl (by rw [hk b fun z => n (z ▸ mo)]; exact q), t.more, t.new, t.st.write e hk ok, rv⟩
theorem Pd.slot {K : PySem.W.Frag} {T : List (Addr × Str)} {N : AS} {v : V} {i : Nat} {a : Addr} {m : MO} (h : Pd K N M ρ σ H v (.slot i)) (S : StS K T M ρ σ H) (e : ρ[i]? = some (some (C.own a m))) : v = .ref a ∧ M a ∧ MOk K M H a m := by
  obtain ⟨_, q⟩ := h
  obtain ⟨v', e1, r⟩ := S.at_ i _ e
  rw [q] at e1
  cases e1
  exact r
theorem RpA.upd {K : PySem.W.Frag} {a : Addr} {o : HO} {xs : List V} {ds : List D} (r : RpA K M H xs ds) (ma : M a) : RpA K M (L2.upd H a o) xs ds :=
  r.keep (fun b u n e => .inl (by rw [upd_ne (fun z => n (by rw [z]; exact ma))]; exact e)) fun b z => .inl z
theorem Rp.upd {K : PySem.W.Frag} {a : Addr} {o : HO} {v : V} (r : Rp K M H v d) (ma : M a) : Rp K M (L2.upd H a o) v d :=
  r.keep (fun b u n e => .inl (by rw [upd_ne (fun z => n (by rw [z]; exact ma))]; exact e)) fun b z => .inl z
theorem MtR.of_MtM {X : Cx} {id : String} {r : V → List V → Hp → VK → Prop} (h : MtM X id r) : MtR X id r := h
/-- xs.append(x) -/
theorem cd_append {i : Nat} {a : Addr} {ds : List D} (e : ρ2[i]? = some (some (C.own a (.lst ds)))) (ex : vwd r = some d) (hz : ds.length < sizeLine) (k : Φ (.dat .none) (ρ2.set i (some (.own a (.lst (ds ++ [d])))))) : CallD Z (.builtin "list.append") [.slot i, r] ρ2 Φ :=
  CallD.ofM (MtR.of_MtM mt_append) fun M M2 ρ σ H H2 v vs p t => by
    have q := t.pd
    have tl := t.less p
    have ma' : Mo ρ a := by rw [← t.sim.mo]; exact ⟨i, _, e⟩
    cases q with
    | cons h1 q => cases q with
      | cons h2 q =>
        cases q
        obtain ⟨rfl, _, xs, hx, g⟩ := h1.slot t.st e
        have ma : M a := p.st.own a ma'
        have rx : Rp Z.X.K M H2 _ d := Rp.less (h2.data (fun b z => by
          rcases z with z | ⟨⟨m, z⟩, _⟩
          · exact t.more b z
          · cases z) ex) fun b z => .inl z
        have g' := g.less t.more
        refine ⟨a, xs, _, rfl, rfl, hx, by rw [g.length]; exact hz, tl.write (m' := .lst _) e (fun b hb => upd_ne hb) ⟨_, upd_same, (g'.upd ma).append (.cons (rx.upd ma) .nil)⟩ k .non⟩
/-- xs.pop(i) -/
theorem RpA.eraseIdx {K : PySem.W.Frag} : ∀ {xs : List V} {ds : List D} (i : Nat), RpA K M H xs ds → RpA K M H (xs.eraseIdx i) (ds.eraseIdx i)
  | _, _, _, .nil => .nil
  | _, _, 0, .cons _ g => g
  | _, _, i + 1, .cons h g => .cons h (RpA.eraseIdx i g)
theorem cd_pop {i : Nat} {a : Addr} {ds : List D} {n : Int} {j : Nat} (e : ρ2[i]? = some (some (C.own a (.lst ds)))) (ex : vw ρ2 r = some (.int n)) (h1 : -(2 ^ 63) ≤ n) (h2 : n < 2 ^ 63) (hj : seqIndex? n ds.length = some j) (hd : ds[j]? = some d) (k : Φ (.dat d) (ρ2.set i (some (.own a (.lst (ds.eraseIdx j)))))) : CallD Z (.builtin "list.pop") [.slot i, r] ρ2 Φ :=
  CallD.ofM (MtR.of_MtM mt_popAt) fun M M2 ρ σ H H2 v vs p t => by
    have q := t.pd
    have ma' : Mo ρ a := by rw [← t.sim.mo]; exact ⟨i, _, e⟩
    cases q with
    | cons q1 q => cases q with
      | cons q2 q =>
        cases q
        obtain ⟨rfl, ma, xs, hx, g⟩ := q1.slot t.st e
        obtain ⟨y, ey, ry⟩ := g.get hd
        refine ⟨a, xs, n, j, y, rfl, by rw [(q2.view t.st ex).int], hx, h1, h2, by rw [g.length]; exact hj, ey, t.endO.write (m' := .lst _) e (fun b hb => upd_ne hb) ⟨_, upd_same, (g.eraseIdx j).upd ma⟩ k (ry.upd ma)⟩
/-- xs.index(x) -/
theorem cd_index {ds : List D} {j : Nat} {z : D} (e1 : vw ρ2 r0 = some (.list ds)) (e2 : vw ρ2 r = some d) (s1 : SeqAt.shaped (.list ds) = true) (s2 : SeqAt.shaped d = true) (hz : ds[j]? = some z) (hq : PyData.eqv z d = true) (hn : ∀ (m : Nat) (z' : D), m < j → ds[m]? = some z' → PyData.eqv z' d = false)
    (hu : Z.X.A.units + 65 < cLine) (k : Φ (.dat (.int j)) ρ2) : CallD Z (.builtin "list.index") [r0, r] ρ2 Φ :=
  CallD.ofM (mt_indexD hu) fun M M2 ρ σ H H2 v vs p t => by
    have q := t.pd
    cases q with
    | cons q1 q => cases q with
      | cons q2 q =>
        cases q
        have v1 := q1.view t.st e1
        obtain ⟨a, xs, rfl, _, _⟩ := v1.list
        exact ⟨a, _, d, ds, j, z, rfl, rfl, v1.dp, (q2.view t.st e2).dp, s1, s2, hz, hq, hn, t.endO.post k (.int _)⟩
/-- sep.join(xs) -/
theorem cd_join {a : Str} {ys : List Str} (e1 : vw ρ2 r0 = some (.str a)) (e2 : vw ρ2 r = some (.list (ys.map PyData.str))) (hz : (ys.map (·.length)).sum + ys.length * a.length ≤ 16777216) (k : Φ (.dat (.str (Txt.join a ys))) ρ2) : CallD Z (.builtin "str.join") [r0, r] ρ2 Φ :=
  CallD.ofM mt_join fun M M2 ρ σ H H2 v vs p t => by
    have q := t.pd
    cases q with
    | cons q1 q => cases q with
      | cons q2 q =>
        cases q
        cases (q1.view t.st e1).str
        obtain ⟨l, xs, rfl, hl, g⟩ := (q2.view t.st e2).list
        cases g.strs
        exact ⟨a, l, ys, rfl, rfl, .inl hl, hz, t.endO.post k (.str _)⟩
end
end DL
set_option Elab.async false
set_option linter.all false
set_option maxRecDepth 100000
/-! DLl: targets, iterators, for, while. -/
namespace DL
open PySem PySem.Spec PyProof.Rows L2
section
variable {Z : Ct} {ρ ρ1 ρ2 : Env} {Φ : Rv → Env → Prop} {Ψ : Env → Prop} {M M1 M' : AS} {σ σ1 : St} {H H1 H2 H' : Hp} {r r0 r1 r2 : Rv} {d d1 d2 : D} {e a b tg it : Expr} {es : List Expr} {pos : Pos} {E : DN} {K : PySem.W.Frag} {T : List (Addr × Str)}
/-! ### targets -/
def uG (X : Cx) (tg : Expr) : TG := fun v σ H Q => ∀ pins s u, Inv X pins σ H s → RelV v u → wpAny (model X.prog X.w) X.A (assign tg X.env u) (fun _ s' => ∃ σ' H', Inv X pins σ' H' s' ∧ Q σ' H') X.xe s
theorem pg_u (X : Cx) (tg : Expr) : PG X tg (uG X tg) := ⟨fun pins s σ H v u Q I r h => h pins s u I r⟩
theorem uG.mono {X : Cx} {v : V} {Q Q' : St → Hp → Prop} (h : uG X tg v σ H Q) (f : ∀ σ' H', Q σ' H' → Q' σ' H') : uG X tg v σ H Q' := fun pins s u I r =>
  thn (h pins s u I r) fun _ _ ⟨σ', H', I', q⟩ => ⟨σ', H', I', f _ _ q⟩
def uGs (X : Cx) (ts : List Expr) : TGs := fun vs σ H Q => ∀ pins s us, Inv X pins σ H s → Vals vs us → wpAny (model X.prog X.w) X.A (assignInOrder ((assignEach ts X.env).map (·.2)) us) (fun _ s' => ∃ σ' H', Inv X pins σ' H' s' ∧ Q σ' H') X.xe s
theorem pgs_u (X : Cx) (ts : List Expr) : PGs X ts (uGs X ts) := ⟨fun pins s σ H v u Q I r h => h pins s u I r⟩
structure PostG (K : PySem.W.Frag) (T : List (Addr × Str)) (W : Nat → Bool) (M : AS) (ρ : Env) (σ : St) (H : Hp) (Ψ : Env → Prop) (σ2 : St) (H2 : Hp) : Prop where
  hp : H2 = H
  wp : ∀ vs : List Nat, (∀ i, W i = true → i ∈ vs) → wipe σ2 vs = wipe σ vs
  ex : ∃ ρ2, Ψ ρ2 ∧ StS K T M ρ2 σ2 H ∧ (∀ a, Mo ρ2 a → Mo ρ a) ∧ ρ2.length = ρ.length ∧ ∀ i : Nat, W i = false → ρ2[i]? = ρ[i]?
/-- data stored to a target; W: the slots that may be written -/
def DG (Z : Ct) (W : Nat → Bool) (tg : Expr) (d : D) (ρ : Env) (Ψ : Env → Prop) : Prop := ∀ M σ H v, StS Z.X.K Z.T M ρ σ H → Rp Z.X.K M H v d → uG Z.X tg v σ H (PostG Z.X.K Z.T W M ρ σ H Ψ)
def DGs (Z : Ct) (W : Nat → Bool) (ts : List Expr) (ds : List D) (ρ : Env) (Ψ : Env → Prop) : Prop := ∀ M σ H vs, StS Z.X.K Z.T M ρ σ H → RpA Z.X.K M H vs ds → uGs Z.X ts vs σ H (PostG Z.X.K Z.T W M ρ σ H Ψ)
theorem wipe_set : ∀ {vs : List Nat} {i : Nat} {v : V}, i ∈ vs → wipe (σ.set i (some v)) vs = wipe σ vs
  | w :: vs, i, v, h => by
    unfold wipe
    by_cases hm : i ∈ vs
    · rw [wipe_set hm]
    · have e : i = w := by
        rcases List.mem_cons.mp h with z | z
        · exact z
        · exact absurd z hm
      subst e
      have key : ∀ {vs : List Nat} {σ : St}, i ∉ vs → wipe (σ.set i (some v)) vs = (wipe σ vs).set i (some v) := by
        intro vs
        induction vs with
        | nil => intro σ _; rfl
        | cons u us ih =>
          intro σ hn
          unfold wipe
          rw [ih (fun z => hn (List.mem_cons_of_mem _ z))]
          exact List.set_comm _ _ (fun z => hn (by rw [z]; exact List.mem_cons_self))
      rw [key hm, List.set_set]
theorem wipe_none : ∀ {vs : List Nat} {i : Nat}, i ∈ vs → (wipe σ vs).set i none = wipe σ vs
  | w :: vs, i, h => by
    unfold wipe
    by_cases e : i = w
    · subst e; rw [List.set_set]
    · have hm : i ∈ vs := (List.mem_cons.mp h).resolve_left e
      rw [List.set_comm _ _ (fun z => e z.symm), wipe_none hm]
theorem wipe_wipe : ∀ {vs us : List Nat}, (∀ i ∈ us, i ∈ vs) → wipe (wipe σ vs) us = wipe σ vs
  | _, [], _ => rfl
  | vs, u :: us, h => by
    show (wipe (wipe σ vs) us).set u none = wipe σ vs
    rw [wipe_wipe (vs := vs) (us := us) fun i hi => h i (List.mem_cons_of_mem _ hi)]
    exact wipe_none (h u List.mem_cons_self)
theorem dg_name {W : Nat → Bool} (i : Nat) {x : Str} {p : Pos} (k : Ψ (ρ.set i (some (.dat d)))) (hi : Z.X.N[i]? = some x := by rfl) (hN : Z.X.N.Nodup := by assumption) (hx : Loc Z.X.env.scope x := by first | exact Or.inl rfl | exact Or.inr rfl) (hW : W i = true := by rfl)
    (hf : Z.X.fn x = true ∨ Z.X.env.scope.names.lookup x = some .local := by first | exact .inl rfl | exact .inr rfl) : DG Z W (.Name x p) d ρ Ψ := fun M σ H v S r pins s u I rv =>
  (pg_name hN hi hx hf).run pins s σ H v u _ I rv ⟨rfl, fun vs h => wipe_set (h i hW), _, k, S.set (fun _ _ z => by cases z) r, mo_set (fun _ _ z => by cases z), List.length_set, fun j hj => List.getElem?_set_ne fun z => by rw [z, hj] at hW; cases hW⟩
theorem dgs_nil {W : Nat → Bool} (k : Ψ ρ) : DGs Z W [] [] ρ Ψ := fun M σ H vs S r pins s us I rv => by
  cases r
  exact pgs_nil.run pins s σ H [] us _ I rv ⟨rfl, rfl, fun _ _ => rfl, ρ, k, S, fun _ z => z, rfl, fun _ _ => rfl⟩
theorem PostG.and {W : Nat → Bool} {Ψ1 : Env → Prop} {σ2 σ3 : St} {H2 H3 : Hp} (o : PostG K T W M ρ σ H Ψ1 σ2 H2) (f : ∀ ρ1, Ψ1 ρ1 → StS K T M ρ1 σ2 H → PostG K T W M ρ1 σ2 H Ψ σ3 H3) : PostG K T W M ρ σ H Ψ σ3 H3 := by
  obtain ⟨rfl, w, ρ1, k, S, m, l1, f1⟩ := o
  obtain ⟨rfl, w2, ρ2, k2, S2, m2, l2, f2⟩ := f ρ1 k S
  exact ⟨rfl, fun vs h => (w2 vs h).trans (w vs h), ρ2, k2, S2, fun a z => m a (m2 a z), l2.trans l1, fun i hi => (f2 i hi).trans (f1 i hi)⟩
theorem dgs_cons {W : Nat → Bool} {ds : List D} (h : DG Z W e d ρ fun ρ1 => DGs Z W es ds ρ1 Ψ) (hs : (assignEach (e :: es) Z.X.env).map (·.2) = assign e Z.X.env :: (assignEach es Z.X.env).map (·.2) := by rfl) : DGs Z W (e :: es) (d :: ds) ρ Ψ := fun M σ H vs S r pins s us I rv => by
  cases r with
  | cons r1 r2 =>
    refine (pgs_cons (pg_u Z.X e) (pgs_u Z.X es) hs).run pins s σ H _ us _ I rv ⟨_, _, rfl, (h M σ H _ S r1).mono fun σ2 H2 o => ?_⟩
    obtain ⟨rfl, w, ρ1, k, S2, m, l1, f1⟩ := o
    exact (fun pins s us I rv => thn (k M σ2 H2 _ S2 r2 pins s us I rv) fun _ _ ⟨σ3, H3, I3, q⟩ => ⟨σ3, H3, I3, by
      obtain ⟨e3, w2, ρ2, k2, S3, m2, l2, f2⟩ := q
      exact ⟨e3, fun vs h => (w2 vs h).trans (w vs h), ρ2, k2, S3, fun a z => m a (m2 a z), l2.trans l1, fun i hi => (f2 i hi).trans (f1 i hi)⟩⟩)
theorem dg_tup {W : Nat → Bool} {k : Nat} {n : Nat} {ds : List D} (h : DGs Z W es ds ρ Ψ) (hl : ds.length = n) (hc : Z.X.calm = true := by rfl) (hn : (assignEach es Z.X.env).length = n := by rfl) (hst : (assignEach es Z.X.env).findIdx? (·.1) = none := by rfl) : DG Z W (.Tuple es k pos) (.tuple ds) ρ Ψ := fun M σ H v S r pins s u I rv => by
  cases r with
  | tup q g => exact (pg_tup hc (pgs_u Z.X es) hn hst).run pins s σ H _ u _ I rv ⟨_, _, rfl, q.sq, by rw [g.length]; exact hl, h M σ H _ S g⟩
/-! ### iterators -/
structure ItOk (K : PySem.W.Frag) (T : List (Addr × Str)) (J : It) (ds : List D) (κ : Env → Prop) (S : AS → Hp → Prop) : Prop where
  go : ∀ {M : AS} {ρ : Env} {σ : St} {H : Hp} {i : Nat} {d : D}, StS K T M ρ σ H → κ ρ → S M H → ds[i]? = some d → J.go i H ∧ ∀ x H', J.yld i H x H' → Rp K M H' x d ∧ ∀ a o, H a = some o → H' a = some o
  stop : ∀ {M : AS} {ρ : Env} {σ : St} {H : Hp} {i : Nat}, StS K T M ρ σ H → κ ρ → S M H → ds[i]? = none → J.stop i H
  keep : ∀ {M M' : AS} {H H' : Hp}, S M H → (∀ b o, ¬ M b → H b = some o → OKeep o (H' b)) → (∀ b, M' b → M b ∨ H b = none) → S M' H'
def uI (X : Cx) (tg e : Expr) : TI := fun σ H R => ∀ pins s, Inv X pins σ H s → wpAny (model X.prog X.w) X.A (eval e X.env) (fun v s1 => wpAny (model X.prog X.w) X.A (pyIter v) (PIE X pins σ tg R) X.xe s1) X.xe s
theorem pi_u (X : Cx) (tg e : Expr) : PI X tg e (uI X tg e) := ⟨fun pins s σ H R I h => h pins s I⟩
theorem uI.mono {X : Cx} {R R' : It → Hp → Prop} (h : uI X tg e σ H R) (f : ∀ J H', R J H' → R' J H') : uI X tg e σ H R' := fun pins s I =>
  thn (h pins s I) fun v s1 q => thn q fun iv s2 ⟨it, fp, tn, J, H', a1, a2, a3, a4, a5, a6⟩ => ⟨it, fp, tn, J, H', a1, a2, a3, a4, a5, f _ _ a6⟩
def PostI (Z : Ct) (M : AS) (ρ : Env) (σ : St) (H : Hp) (Φ : List D → (Env → Prop) → Env → Prop) (J : It) (H1 : Hp) : Prop := ∃ ds κ S ρ1, Φ ds κ ρ1 ∧ PostT Z M ρ σ H H1 ρ1 ∧ ItOk Z.X.K Z.T J ds κ S ∧ S M H1
def DI (Z : Ct) (tg e : Expr) (ρ : Env) (Φ : List D → (Env → Prop) → Env → Prop) : Prop := ∀ M σ H, Pre Z M ρ σ H → uI Z.X tg e σ H (PostI Z M ρ σ H Φ)
abbrev yes : Env → Prop := fun _ => True
theorem EndO.t (x : EndO Z M M ρ ρ1 σ H H1) : PostT Z M ρ σ H H1 ρ1 := ⟨x.sim, x.kp, x.st⟩
theorem PostO.lst {v : V} {ds : List D} (o : PostO Z M ρ σ H v H1 r ρ1 M1) (e : vwd r = some (.list ds)) : ∃ a xs, v = .ref a ∧ LsM Z.X.K M H1 a xs ∧ RpA Z.X.K M H1 xs ds := by
  have q := o.pd.data o.more e
  cases q with
  | lst h g => exact ⟨_, _, rfl, h, g⟩
theorem PostO.tpl {v : V} {ds : List D} (o : PostO Z M ρ σ H v H1 r ρ1 M1) (e : vwd r = some (.tuple ds)) : ∃ a xs, v = .ref a ∧ TuM Z.X.K M H1 a xs ∧ RpA Z.X.K M H1 xs ds := by
  have q := o.pd.data o.more e
  cases q with
  | tup h g => exact ⟨_, _, rfl, h, g⟩
theorem SqL.fn {K : PySem.W.Frag} {a : Addr} {xs : List V} (h : SqL K H a xs) : SqL K H a xs := h
theorem itl_ok {a : Addr} {ds : List D} : ItOk K T (Itl K a) ds yes (fun M H => ∃ xs, LsM K M H a xs ∧ RpA K M H xs ds) where
  go := fun S _ ⟨xs, h, g⟩ e => by
    obtain ⟨v, ev, rv⟩ := g.get e
    exact ⟨⟨xs, v, h.sq, ev⟩, fun x H' ⟨e1, e2⟩ => by
      have := e2 xs h.sq
      rw [ev] at this
      cases this
      subst e1
      exact ⟨rv, fun _ _ z => z⟩⟩
  stop := fun S _ ⟨xs, h, g⟩ e => ⟨xs, h.sq, by rw [g.length]; exact List.getElem?_eq_none_iff.mp e⟩
  keep := fun ⟨xs, h, g⟩ k nw => ⟨xs, h.keep k nw, g.keep k nw⟩
theorem itt_ok {a : Addr} {ds : List D} : ItOk K T (Itt K a) ds yes (fun M H => ∃ xs, TuM K M H a xs ∧ RpA K M H xs ds) where
  go := fun S _ ⟨xs, h, g⟩ e => by
    obtain ⟨v, ev, rv⟩ := g.get e
    exact ⟨⟨xs, v, h.sq, ev⟩, fun x H' ⟨e1, e2⟩ => by
      have := e2 xs h.sq
      rw [ev] at this
      cases this
      subst e1
      exact ⟨rv, fun _ _ z => z⟩⟩
  stop := fun S _ ⟨xs, h, g⟩ e => ⟨xs, h.sq, by rw [g.length]; exact List.getElem?_eq_none_iff.mp e⟩
  keep := fun ⟨xs, h, g⟩ k nw => ⟨xs, h.keep k nw, g.keep k nw⟩
theorem its_ok {j : Nat} {a : Addr} {ds : List D} : ItOk K T (Itl K a) ds (fun ρ => ρ[j]? = some (some (.own a (.lst ds)))) (fun _ _ => True) where
  go := fun S q _ e => by
    obtain ⟨v, _, _, _, xs, h, g⟩ := S.at_ j _ q
    obtain ⟨v, ev, rv⟩ := g.get e
    exact ⟨⟨xs, v, SqL.of h, ev⟩, fun x H' ⟨e1, e2⟩ => by
      have := e2 xs (SqL.of h)
      rw [ev] at this
      cases this
      subst e1
      exact ⟨rv, fun _ _ z => z⟩⟩
  stop := fun S q _ e => by
    obtain ⟨v, _, _, _, xs, h, g⟩ := S.at_ j _ q
    exact ⟨xs, SqL.of h, by rw [g.length]; exact List.getElem?_eq_none_iff.mp e⟩
  keep := fun _ _ _ => trivial
def rng (lo : Int) (n : Nat) : List D := (List.range n).map fun i => PyData.int (lo + (i : Nat))
theorem rng_get {lo : Int} {n i : Nat} {d : D} (h : (rng lo n)[i]? = some d) : i < n ∧ d = .int (lo + (i : Nat)) := by
  unfold rng at h
  rw [List.getElem?_map] at h
  by_cases hi : i < n
  · rw [List.getElem?_range hi] at h
    cases h
    exact ⟨hi, rfl⟩
  · rw [List.getElem?_eq_none (by simpa using hi)] at h
    cases h
theorem itr_ok {lo : Int} {n : Nat} : ItOk K T (Itr lo n) (rng lo n) yes (fun _ _ => True) where
  go := fun S _ _ e => by
    obtain ⟨hi, rfl⟩ := rng_get e
    exact ⟨hi, fun x H' ⟨e1, e2⟩ => by subst e1; subst e2; exact ⟨.int _, fun _ _ z => z⟩⟩
  stop := fun S _ _ e => by
    have := List.getElem?_eq_none_iff.mp e
    show n ≤ _
    simpa [rng] using this
  keep := fun _ _ _ => trivial
def signs (z : Str) : List D := z.cps.toList.map fun c => PyData.str ⟨#[c]⟩
theorem itc_ok {z : Str} : ItOk K T (Its z) (signs z) yes (fun _ _ => True) where
  go := fun {M ρ σ H i d} S _ _ e => by
    unfold signs at e
    rw [List.getElem?_map] at e
    cases q : z.cps.toList[i]? with
    | none => rw [q] at e; cases e
    | some c =>
      rw [q] at e
      cases e
      have hi := (List.getElem?_eq_some_iff.mp q).1
      exact ⟨by show i < z.cps.size; simpa using hi, fun x H' ⟨e1, c', e2, e3⟩ => by
        subst e1
        have : z.cps.toList[i]? = some c' := by rw [← e2]; simp
        rw [q] at this
        cases this
        subst e3
        exact ⟨.str _, fun _ _ z => z⟩⟩
  stop := fun S _ _ e => by
    have := List.getElem?_eq_none_iff.mp e
    show z.cps.size ≤ _
    simpa [signs] using this
  keep := fun _ _ _ => trivial
/-- pairs -/
def pairs (xs ys : List D) : List D := List.zipWith (fun x y => PyData.tuple [x, y]) xs ys
theorem pairs_get : ∀ {xs ys : List D} {i : Nat} {d : D}, (pairs xs ys)[i]? = some d → ∃ x y, xs[i]? = some x ∧ ys[i]? = some y ∧ d = .tuple [x, y]
  | xs, ys, i, d, h => by
    unfold pairs at h
    rw [List.getElem?_zipWith] at h
    cases h1 : xs[i]? with
    | none => rw [h1] at h; cases h
    | some x =>
      cases h2 : ys[i]? with
      | none => rw [h1, h2] at h; cases h
      | some y => rw [h1, h2] at h; cases h; exact ⟨x, y, rfl, rfl, rfl⟩
theorem pair_fresh {K : PySem.W.Frag} {x y : V} {d1 d2 : D} {t : Addr} {σ : St} (S : StS K T M ρ σ H) (ht : H t = none) (h1 : Rp K M H x d1) (h2 : Rp K M H y d2) : Rp K M (upd H t (.tup [x, y])) (.ref t) (.tuple [d1, d2]) := by
  have kk : ∀ b o, ¬ M b → H b = some o → OKeep o (upd H t (.tup [x, y]) b) := fun b o n e => .inl (by rw [upd_ne (fun z => by rw [z, ht] at e; cases e)]; exact e)
  have k1 := Rp.keep kk (fun b z => .inl z) h1
  have k2 := Rp.keep kk (fun b z => .inl z) h2
  exact .tup (.inl ⟨fun z => S.liv t z ht, .inl upd_same⟩) (.cons k1 (.cons k2 .nil))
theorem grow {t : Addr} {o : HO} (ht : H t = none) : ∀ a u, H a = some u → upd H t o a = some u := fun a u e => by
  rw [upd_ne (fun z => by rw [z, ht] at e; cases e)]; exact e
theorem itz_ok {a b : Addr} {ds es : List D} : ItOk K T (Itz K a b) (pairs ds es) yes (fun M H => ∃ xs ys, (LsM K M H a xs ∧ RpA K M H xs ds) ∧ LsM K M H b ys ∧ RpA K M H ys es) where
  go := fun S _ ⟨xs, ys, ⟨h, g⟩, h', g'⟩ e => by
    obtain ⟨x, y, e1, e2, rfl⟩ := pairs_get e
    obtain ⟨v, ev, rv⟩ := g.get e1
    obtain ⟨v', ev', rv'⟩ := g'.get e2
    exact ⟨⟨xs, ys, v, v', h.sq, h'.sq, ev, ev'⟩, fun x H' ⟨t, x1, y1, e3, ht, e4, q1, q2⟩ => by
      have z1 := q1 xs h.sq
      have z2 := q2 ys h'.sq
      rw [ev] at z1; cases z1
      rw [ev'] at z2; cases z2
      subst e3; subst e4
      exact ⟨pair_fresh S ht rv rv', grow ht⟩⟩
  stop := fun S _ ⟨xs, ys, ⟨h, g⟩, h', g'⟩ e => by
    refine ⟨xs, ys, h.sq, h'.sq, ?_⟩
    have := List.getElem?_eq_none_iff.mp e
    unfold pairs at this
    rw [List.length_zipWith] at this
    rw [g.length, g'.length]
    omega
  keep := fun ⟨xs, ys, ⟨h, g⟩, h', g'⟩ k nw => ⟨xs, ys, ⟨h.keep k nw, g.keep k nw⟩, h'.keep k nw, g'.keep k nw⟩
theorem itzT_ok {a b : Addr} {ds es : List D} : ItOk K T (RZ.ItzT K a b) (pairs ds es) yes (fun M H => ∃ xs ys, (TuM K M H a xs ∧ RpA K M H xs ds) ∧ TuM K M H b ys ∧ RpA K M H ys es) where
  go := fun S _ ⟨xs, ys, ⟨h, g⟩, h', g'⟩ e => by
    obtain ⟨x, y, e1, e2, rfl⟩ := pairs_get e
    obtain ⟨v, ev, rv⟩ := g.get e1
    obtain ⟨v', ev', rv'⟩ := g'.get e2
    exact ⟨⟨xs, ys, v, v', h.sq, h'.sq, ev, ev'⟩, fun x H' ⟨t, x1, y1, e3, ht, e4, q1, q2⟩ => by
      have z1 := q1 xs h.sq
      have z2 := q2 ys h'.sq
      rw [ev] at z1; cases z1
      rw [ev'] at z2; cases z2
      subst e3; subst e4
      exact ⟨pair_fresh S ht rv rv', grow ht⟩⟩
  stop := fun S _ ⟨xs, ys, ⟨h, g⟩, h', g'⟩ e => by
    refine ⟨xs, ys, h.sq, h'.sq, ?_⟩
    have := List.getElem?_eq_none_iff.mp e
    unfold pairs at this
    rw [List.length_zipWith] at this
    rw [g.length, g'.length]
    omega
  keep := fun ⟨xs, ys, ⟨h, g⟩, h', g'⟩ k nw => ⟨xs, ys, ⟨h.keep k nw, g.keep k nw⟩, h'.keep k nw, g'.keep k nw⟩
variable {Θ : List D → (Env → Prop) → Env → Prop}
theorem di_list (h : DE Z e ρ fun r ρ1 => ∃ ds, vwd r = some (.list ds) ∧ Θ ds yes ρ1) : DI Z tg e ρ Θ := fun M σ H p pins s I =>
  (pi_list (pe_u Z.X e)).run pins s σ H _ I ((h M σ H p).mono fun v H1 ⟨r, ρ1, M1, ⟨ds, q, k⟩, o⟩ => by
    obtain ⟨a, xs, rfl, hl, g⟩ := o.lst q
    exact ⟨a, rfl, ⟨xs, hl.sq⟩, ds, _, _, ρ1, k, (o.less p).t, itl_ok, xs, hl, g⟩)
theorem di_tup (h : DE Z e ρ fun r ρ1 => ∃ ds, vwd r = some (.tuple ds) ∧ Θ ds yes ρ1) : DI Z tg e ρ Θ := fun M σ H p pins s I =>
  (pi_tup (pe_u Z.X e)).run pins s σ H _ I ((h M σ H p).mono fun v H1 ⟨r, ρ1, M1, ⟨ds, q, k⟩, o⟩ => by
    obtain ⟨a, xs, rfl, hl, g⟩ := o.tpl q
    exact ⟨a, rfl, ⟨xs, hl.sq⟩, ds, _, _, ρ1, k, (o.less p).t, itt_ok, xs, hl, g⟩)
/-- an owned list, that the loop leaves as it is -/
theorem di_slot (j : Nat) (h : DE Z e ρ fun r ρ1 => ∃ a ds, r = .slot j ∧ ρ1[j]? = some (some (.own a (.lst ds))) ∧ Θ ds (fun ρ => ρ[j]? = some (some (.own a (.lst ds)))) ρ1) : DI Z tg e ρ Θ := fun M σ H p pins s I =>
  (pi_list (pe_u Z.X e)).run pins s σ H _ I ((h M σ H p).mono fun v H1 ⟨r, ρ1, M1, ⟨a, ds, q, w, k⟩, o⟩ => by
    subst q
    obtain ⟨rfl, _, xs, hx, g⟩ := o.pd.slot o.st w
    exact ⟨a, rfl, ⟨xs, SqL.of hx⟩, ds, _, _, ρ1, k, (o.less p).t, its_ok, trivial⟩)
theorem di_str (h : DE Z e ρ fun r ρ1 => ∃ z, vw ρ1 r = some (.str z) ∧ Θ (signs z) yes ρ1) : DI Z tg e ρ Θ := fun M σ H p pins s I =>
  (pi_str (pe_u Z.X e)).run pins s σ H _ I ((h M σ H p).mono fun v H1 ⟨r, ρ1, M1, ⟨z, q, k⟩, o⟩ => ⟨z, (o.pd.view o.st q).str, signs z, _, _, ρ1, k, (o.less p).t, itc_ok, trivial⟩)
theorem di_range1 {p1 : Pos} (hm : Z.X.mg "range" = none) (h : DA Z [e] ρ fun rs ρ1 => ∃ j, vwds rs = some [.int j] ∧ -(2 ^ 62) ≤ j ∧ j < 2 ^ 62 ∧ Θ (rng 0 j.toNat) yes ρ1) (hg : Gl Z.X "range" := by rfl) (hs : starEach [e] Z.X.env = [(false, eval e Z.X.env)] := by rfl) : DI Z tg (.Call (.Name "range" p1) [e] [] pos) ρ Θ := fun M σ H p pins s I =>
  (pi_range1 hg hm (pa_u Z.X [e]) hs).run pins s σ H _ I ((h M σ H p).mono fun vs H1 ⟨rs, ρ1, M1, ⟨j, q, h1, h2, k⟩, o⟩ => by
    cases RpA.ints (ns := [j]) (o.pd.data o.more q)
    exact ⟨j, rfl, h1, h2, _, _, _, ρ1, k, (o.less p).t, itr_ok, trivial⟩)
theorem di_range2 {p1 : Pos} (hm : Z.X.mg "range" = none) (h : DA Z [a, b] ρ fun rs ρ1 => ∃ i j, vwds rs = some [.int i, .int j] ∧ (-(2 ^ 62) ≤ i ∧ i < 2 ^ 62 ∧ -(2 ^ 62) ≤ j ∧ j < 2 ^ 62) ∧ Θ (rng i (j - i).toNat) yes ρ1) (hg : Gl Z.X "range" := by rfl)
    (hs : starEach [a, b] Z.X.env = [(false, eval a Z.X.env), (false, eval b Z.X.env)] := by rfl) (hs2 : starEach [b] Z.X.env = [(false, eval b Z.X.env)] := by rfl) : DI Z tg (.Call (.Name "range" p1) [a, b] [] pos) ρ Θ := fun M σ H p pins s I =>
  (pi_range2 hg hm (pa_u Z.X [a, b]) hs hs2).run pins s σ H _ I ((h M σ H p).mono fun vs H1 ⟨rs, ρ1, M1, ⟨i, j, q, hh, k⟩, o⟩ => by
    cases RpA.ints (ns := [i, j]) (o.pd.data o.more q)
    exact ⟨i, j, rfl, hh, _, _, _, ρ1, k, (o.less p).t, itr_ok, trivial⟩)
theorem di_zip {elts : List Expr} {kk : Nat} {tpos p1 : Pos} (hm : Z.X.mg "zip" = none) (h : DA Z [a, b] ρ fun rs ρ1 => ∃ xs ys, (vwds rs = some [.list xs, .list ys] ∨ vwds rs = some [.tuple xs, .tuple ys]) ∧ Θ (pairs xs ys) yes ρ1) (hg : Gl Z.X "zip" := by rfl)
    (hs : starEach [a, b] Z.X.env = (false, eval a Z.X.env) :: starEach [b] Z.X.env := by rfl) (hpl : (backTo pos (starEach [b] Z.X.env)).any (·.1) = false := by rfl) : DI Z (.Tuple elts kk tpos) (.Call (.Name "zip" p1) [a, b] [] pos) ρ Θ := fun M σ H p pins s I =>
  (RZ.pi_zipA hg hm (pa_u Z.X [a, b]) hs hpl).run pins s σ H _ I ((h M σ H p).mono fun vs H1 ⟨rs, ρ1, M1, ⟨xs, ys, q, k⟩, o⟩ => by
    rcases q with q | q
    · have g := o.pd.data o.more q
      cases g with
      | cons g1 g => cases g with
        | cons g2 g =>
          cases g
          cases g1 with
          | lst a1 b1 => cases g2 with
            | lst a2 b2 => exact ⟨_, _, _, _, rfl, .inl ⟨a1.sq, a2.sq, _, _, _, ρ1, k, (o.less p).t, itz_ok, _, _, ⟨a1, b1⟩, a2, b2⟩⟩
    · have g := o.pd.data o.more q
      cases g with
      | cons g1 g => cases g with
        | cons g2 g =>
          cases g
          cases g1 with
          | tup a1 b1 => cases g2 with
            | tup a2 b2 => exact ⟨_, _, _, _, rfl, .inr ⟨a1.sq, a2.sq, _, _, _, ρ1, k, (o.less p).t, itzT_ok, _, _, ⟨a1, b1⟩, a2, b2⟩⟩)
/-! ### for, while -/
theorem Rp.grow {v : V} (h : Rp K M H v d) (g : ∀ a o, H a = some o → H' a = some o) : Rp K M H' v d := Rp.keep (fun b o _ e => .inl (g b o e)) (fun b z => .inl z) h
theorem StS.grow (S : StS K T M ρ σ H) (g : ∀ a o, H a = some o → H' a = some o) : StS K T M ρ σ H' := by
  have kk : ∀ b o, ¬ M b → H b = some o → OKeep o (H' b) := fun b o _ e => .inl (g b o e)
  refine ⟨S.len, S.own, fun a z => ?_, fun i c h => ?_, S.inj, S.tab.ext g⟩
  · obtain ⟨o, e, so⟩ := S.lv a z
    exact ⟨o, g a o e, so⟩
  · obtain ⟨v, e1, r⟩ := S.at_ i c h
    refine ⟨v, e1, r.keep kk (fun b z => .inl z) fun a m w => ?_⟩
    subst w
    obtain ⟨_, ma, ok⟩ := r
    obtain ⟨o, e2, _⟩ := ok.there
    exact ⟨ma, by rw [g a o e2, e2]⟩
theorem ds_for {body : List Stmt} (h : DI Z tg it ρ fun ds κ ρ1 => ∃ P : List D → Env → Prop, P ds ρ1 ∧ (∀ r ρ', P r ρ' → κ ρ') ∧ (∀ ρ', P [] ρ' → E.nx ρ') ∧
      ∀ d r ρ', P (d :: r) ρ' → DG Z (fun _ => true) tg d ρ' fun ρ2 => DSs Z body ρ2 { nx := P r, ct := P r, bk := E.nx, rt := E.rt })
    (hp : PassesOwn (model Z.X.prog Z.X.w) Z.X.A Z.X.env Z.X.xe := by first | assumption | exact passes_of rfl) (hc : Z.X.calm = true := by rfl) (hs : ∀ x, foldedSetIterable it Z.X.env x = pure x := by intro _; rfl) : DS Z (.For tg it body [] pos) ρ E := fun σ H p pins s I =>
  (ps_for hp hc (pi_u Z.X tg it) (pg_u Z.X tg) (pss_u Z.X body) hs).run pins s σ H _ I ((h _ σ H p.pre).mono fun J H1 ⟨ds, κ, S, ρ1, ⟨P, k0, kκ, kend, kstep⟩, o, ok, s1⟩ => by
    obtain ⟨st1, step1⟩ := o.nx p
    have em : Z.mz ρ1 = Z.mz ρ := by unfold Ct.mz; rw [o.sim.mo]
    refine ⟨fun i m σ' H' => ∃ r ρ', m = r.length ∧ ds.drop i = r ∧ P r ρ' ∧ StS Z.X.K Z.T (Z.mz ρ') ρ' σ' H' ∧ Step (Mo ρ) H (Mo ρ') H' ∧ S (Z.mz ρ') H', ⟨ds.length, ds, ρ1, rfl, rfl, k0, st1, step1, by rw [em]; exact s1⟩, fun i m σ' H' ⟨r, ρ', em, er, k, st, stp, sS⟩ => ?_⟩
    cases r with
    | nil =>
      have hn : ds[i]? = none := List.getElem?_eq_none_iff.mpr (List.drop_eq_nil_iff.mp er)
      exact .inl ⟨ok.stop st (kκ _ _ k) sS hn, ρ', kend ρ' k, st, stp⟩
    | cons d r =>
      have hd : ds[i]? = some d := by
        have := congrArg (fun l => l[0]?) er
        simpa using this
      have hr : ds.drop (i + 1) = r := by
        rw [← List.drop_drop, er]
        rfl
      obtain ⟨go, yl⟩ := ok.go st (kκ _ _ k) sS hd
      refine .inr ⟨go, fun σ'' H'' => ∃ ρ'', P r ρ'' ∧ StS Z.X.K Z.T (Z.mz ρ'') ρ'' σ'' H'' ∧ Step (Mo ρ) H (Mo ρ'') H'' ∧ S (Z.mz ρ'') H'', fun σ'' H'' ⟨ρ'', a1, a2, a3, a4⟩ => ⟨r.length, by rw [em]; exact Nat.lt_succ_self _, r, ρ'', rfl, hr, a1, a2, a3, a4⟩, fun x H2 hy => ?_⟩
      obtain ⟨rx, gr⟩ := yl x H2 hy
      have gp : Kp (Mo ρ') H' H2 := fun a o _ e => .inl (gr a o e)
      refine (kstep d r ρ' k (Z.mz ρ') σ' H2 x (st.grow gr) rx).mono fun σ2 H3 ⟨eh, _, ρ2, kb, st2, m2, _, _⟩ => ?_
      subst eh
      have s12 : Step (Mo ρ') H' (Mo ρ2) H3 := ⟨gp, fun a z => .inl (m2 a z)⟩
      have st2' : StS Z.X.K Z.T (Z.mz ρ2) ρ2 σ2 H3 := st2.less (fun a z => .inr z) fun a z => z.imp id (m2 a)
      have sS2 : S (Z.mz ρ2) H3 := ok.keep sS (fun b o _ e => .inl (gr b o e)) fun b z => .inl (z.imp id (m2 b))
      have pre2 : PreS Z ρ2 σ2 H3 := ⟨p.w0, st2', p.base.trans (stp.trans s12)⟩
      have tot : Step (Mo ρ) H (Mo ρ2) H3 := stp.trans s12
      refine uSs.mono (kb σ2 H3 pre2) ?_
      have again : ∀ σ4 H4, NxP Z ρ2 H3 (P r) σ4 H4 → ∃ ρ'', P r ρ'' ∧ StS Z.X.K Z.T (Z.mz ρ'') ρ'' σ4 H4 ∧ Step (Mo ρ) H (Mo ρ'') H4 ∧ S (Z.mz ρ'') H4 := fun σ4 H4 ⟨ρ4, k4, st4, s4⟩ => by
        refine ⟨ρ4, k4, st4, tot.trans s4, ok.keep sS2 (fun b o n e => s4.kp b o (fun z => n (.inr z)) e) fun b z => ?_⟩
        rcases z with z | z
        · exact .inl (.inl z)
        · exact (s4.nw b z).imp .inr id
      exact ⟨again, fun v H4 q => (conc_le (E := E) tot).rt v H4 q, fun σ4 H4 q => NxP.from tot q, again⟩)
theorem ds_while {c : Expr} {body : List Stmt} (P : Nat → Env → Prop) (n : Nat) (h0 : P n ρ) (h : ∀ m ρ', P m ρ' → DT Z c ρ' fun x ρ1 => bcase x (DSs Z body ρ1 { nx := fun ρ2 => ∃ m', m' < m ∧ P m' ρ2, ct := fun ρ2 => ∃ m', m' < m ∧ P m' ρ2, bk := E.nx, rt := E.rt }) (E.nx ρ1))
    (hp : PassesOwn (model Z.X.prog Z.X.w) Z.X.A Z.X.env Z.X.xe := by first | assumption | exact passes_of rfl) : DS Z (.While c body [] pos) ρ E := fun σ H p pins s I =>
  (ps_while hp (pt_u Z.X c) (pss_u Z.X body)).run pins s σ H _ I ⟨fun m σ' H' => ∃ ρ', P m ρ' ∧ StS Z.X.K Z.T (Z.mz ρ') ρ' σ' H' ∧ Step (Mo ρ) H (Mo ρ') H', ⟨n, ρ, h0, p.st, Step.refl _ _⟩, fun m σ' H' ⟨ρ', k, st, stp⟩ => by
    have p' : PreS Z ρ' σ' H' := p.next st stp
    refine (h m ρ' k _ σ' H' p'.pre).mono fun x H1 ⟨ρ1, q, o⟩ => bcase.ite ⟨fun e => ?_, fun e => ?_⟩
    · obtain ⟨st1, s1⟩ := o.nx p'
      have tot := stp.trans s1
      have again : ∀ σ4 H4, NxP Z ρ1 H1 (fun ρ2 => ∃ m', m' < m ∧ P m' ρ2) σ4 H4 → ∃ ρ'', (∃ m', m' < m ∧ P m' ρ'') ∧ StS Z.X.K Z.T (Z.mz ρ'') ρ'' σ4 H4 ∧ Step (Mo ρ) H (Mo ρ'') H4 := fun σ4 H4 ⟨ρ4, k4, st4, s4⟩ => ⟨ρ4, k4, st4, tot.trans s4⟩
      exact ⟨fun σ4 H4 => ∃ ρ'', (∃ m', m' < m ∧ P m' ρ'') ∧ StS Z.X.K Z.T (Z.mz ρ'') ρ'' σ4 H4 ∧ Step (Mo ρ) H (Mo ρ'') H4, fun σ4 H4 ⟨ρ4, ⟨m', hm, k4⟩, a, b⟩ => ⟨m', hm, ρ4, k4, a, b⟩, uSs.mono (q.1 e σ' H1 (p'.next st1 s1)) ⟨again, fun v H4 q => (conc_le (E := E) tot).rt v H4 q, fun σ4 H4 q => NxP.from tot q, again⟩⟩
    · obtain ⟨st1, s1⟩ := o.nx p'
      exact ⟨ρ1, q.2 e, st1, stp.trans s1⟩⟩
end
end DL
set_option Elab.async false
set_option linter.all false
set_option maxRecDepth 100000
/-! DLm: list comprehensions of one clause. -/
namespace DL
open PySem PySem.Spec PyProof.Rows L2
/-- the context of a comprehension's block -/
abbrev Ct.blk (Z : Ct) (scope : Scope) (s : Shared) (H : Hp) (C : Addr) (cl : List (Str × Addr)) (fp : List Addr) : Ct :=
  ⟨Z.X.blk s H scope (compEnvC scope cl C Z.X.env) fp, Z.T, Z.W0, Z.M0, Z.H0, fun _ _ => False⟩
/-- the block's own names' slots forgotten; as they were again -/
def wipeE (ρ : Env) : List Nat → Env
  | [] => ρ
  | v :: vs => (wipeE ρ vs).set v none
def backW (ρ ρ' : Env) : List Nat → Env
  | [] => ρ'
  | v :: vs => (backW ρ ρ' vs).set v (ρ[v]?.getD none)
def noOwn (ρ : Env) : List Nat → Bool
  | [] => true
  | v :: vs => (match ρ[v]? with
    | some (some (.own _ _)) => false
    | _ => true) && noOwn ρ vs
section
variable {Z : Ct} {ρ ρ' ρ1 ρ2 ρ3 : Env} {Φ : Rv → Env → Prop} {Ψ : Env → Prop} {M M1 M' : AS} {σ σ1 σ2 : DL.St} {H H1 H2 H' : Hp} {r r0 r1 r2 : Rv} {d d1 d2 : D} {e a b tg it : Expr} {es : List Expr} {pos : Pos} {E : DN} {K : PySem.W.Frag} {T : List (Addr × Str)}
theorem noOwn_of : ∀ {vs : List Nat} {i : Nat} {a : Addr} {m : MO}, noOwn ρ vs = true → i ∈ vs → ρ[i]? = some (some (C.own a m)) → False
  | v :: vs, i, a, m, h, hi, e => by
    have h : ((match ρ[v]? with
      | some (some (C.own _ _)) => false
      | _ => true) && noOwn ρ vs) = true := h
    rw [Bool.and_eq_true] at h
    rcases List.mem_cons.mp hi with rfl | hi
    · rw [e] at h
      cases h.1
    · exact noOwn_of h.2 hi e
theorem wipeE_len : ∀ {vs : List Nat}, (wipeE ρ vs).length = ρ.length
  | [] => rfl
  | v :: vs => by unfold wipeE; rw [List.length_set, wipeE_len]
theorem wipeE_out : ∀ {vs : List Nat} {i : Nat}, i ∉ vs → (wipeE ρ vs)[i]? = ρ[i]?
  | [], _, _ => rfl
  | v :: vs, i, h => by
    unfold wipeE
    rw [List.getElem?_set_ne (fun z => h (by rw [z]; exact List.mem_cons_self)), wipeE_out fun z => h (List.mem_cons_of_mem _ z)]
theorem wipeE_some : ∀ {vs : List Nat} {i : Nat} {c : C}, (wipeE ρ vs)[i]? = some (some c) → i ∉ vs ∧ ρ[i]? = some (some c)
  | [], _, _, h => ⟨by simp, h⟩
  | v :: vs, i, c, h => by
    unfold wipeE at h
    rcases get_set h with ⟨_, z⟩ | ⟨n, z⟩
    · cases z
    · obtain ⟨a, b⟩ := wipeE_some z
      exact ⟨by simp only [List.mem_cons, not_or]; exact ⟨n, a⟩, b⟩
theorem backW_len : ∀ {vs : List Nat}, (backW ρ ρ' vs).length = ρ'.length
  | [] => rfl
  | v :: vs => by unfold backW; rw [List.length_set, backW_len]
theorem backW_out : ∀ {vs : List Nat} {i : Nat}, i ∉ vs → (backW ρ ρ' vs)[i]? = ρ'[i]?
  | [], _, _ => rfl
  | v :: vs, i, h => by
    unfold backW
    rw [List.getElem?_set_ne (fun z => h (by rw [z]; exact List.mem_cons_self)), backW_out fun z => h (List.mem_cons_of_mem _ z)]
theorem backW_in : ∀ {vs : List Nat} {i : Nat}, ρ'.length = ρ.length → i ∈ vs → (backW ρ ρ' vs)[i]? = ρ[i]?
  | v :: vs, i, hl, h => by
    unfold backW
    by_cases e : v = i
    · subst e
      by_cases hv : v < ρ.length
      · rw [List.getElem?_set_self (by rw [backW_len, hl]; exact hv)]
        rw [List.getElem?_eq_getElem hv]
        rfl
      · rw [List.getElem?_eq_none (by rw [List.length_set, backW_len, hl]; omega), List.getElem?_eq_none (by omega)]
    · rw [List.getElem?_set_ne e]
      exact backW_in hl ((List.mem_cons.mp h).resolve_left (Ne.symm e))
theorem mo_wipe {vs : List Nat} : ∀ a, Mo (wipeE ρ vs) a → Mo ρ a := fun a ⟨i, m, h⟩ => ⟨i, m, (wipeE_some h).2⟩
theorem wipe_out : ∀ {vs : List Nat} {i : Nat}, i ∉ vs → (wipe σ vs)[i]? = σ[i]?
  | [], _, _ => rfl
  | v :: vs, i, h => by
    unfold wipe
    rw [List.getElem?_set_ne (fun z => h (by rw [z]; exact List.mem_cons_self)), wipe_out fun z => h (List.mem_cons_of_mem _ z)]
theorem StS.wipe {vs : List Nat} (S : StS K T M ρ σ H) : StS K T M (wipeE ρ vs) (L2.wipe σ vs) H :=
  ⟨by rw [wipeE_len, wipe_length]; exact S.len, fun a z => S.own a (mo_wipe a z), S.lv, fun i c h => by
    obtain ⟨hn, h⟩ := wipeE_some h
    obtain ⟨v, e, r⟩ := S.at_ i c h
    exact ⟨v, by rw [wipe_out hn]; exact e, r⟩, fun i j m n a h1 h2 => S.inj i j m n a (wipeE_some h1).2 (wipeE_some h2).2, S.tab⟩
/-- what is avoided and owned by no slot may change -/
theorem StS.updM {a : Addr} {o : HO} (S : StS K T M ρ σ H) (ma : M a) (n : ¬ Mo ρ a) (so : Solid o) : StS K T M ρ σ (upd H a o) := by
  have kk : ∀ b u, ¬ M b → H b = some u → OKeep u (upd H a o b) := fun b u q e => .inl (by rw [upd_ne (fun z => q (by rw [z]; exact ma))]; exact e)
  refine ⟨S.len, S.own, fun b z => ?_, fun i c h => ?_, S.inj, tabs_keep S.tab fun b u q ns => ?_⟩
  · by_cases e : b = a
    · subst e; exact ⟨o, upd_same, so⟩
    · rw [upd_ne e]; exact S.lv b z
  · obtain ⟨v, e1, r⟩ := S.at_ i c h
    refine ⟨v, e1, r.keep kk (fun b z => .inl z) fun b m w => ?_⟩
    subst w
    exact ⟨r.2.1, upd_ne fun z => n (by rw [← z]; exact ⟨i, m, h⟩)⟩
  · rw [upd_ne fun z => ?_]
    · exact q
    · obtain ⟨o', e', so'⟩ := S.lv a ma
      rw [← z, q] at e'
      cases e'
      exact ns so'
/-- behind a turn: the block's own names' slots as they were -/
theorem StS.backW {vs : List Nat} {ρ4 : Env} (S : StS K T M ρ σ H) (no : noOwn ρ vs = true) (S4 : StS K T M ρ4 σ2 H') (kp : Kp (Mo ρ) H H') (sim : Sim ρ2 ρ4) (hl : ρ2.length = ρ.length) (same : ∀ i : Nat, i ∉ vs → ρ2[i]? = ρ[i]?) (hw : L2.wipe σ2 vs = L2.wipe σ vs) :
    StS K T M (DL.backW ρ ρ4 vs) σ H' ∧ Sim ρ (DL.backW ρ ρ4 vs) := by
  have l4 : ρ4.length = ρ.length := sim.len.trans hl
  have sm : Sim ρ (DL.backW ρ ρ4 vs) := ⟨by rw [backW_len, l4], fun i c h n => by
    by_cases hi : i ∈ vs
    · rw [backW_in l4 hi]; exact h
    · rw [backW_out hi]; exact sim.keep i c (by rw [same i hi]; exact h) n, fun i a m h => by
    by_cases hi : i ∈ vs
    · exact (noOwn_of no hi h).elim
    · rw [backW_out hi]; exact sim.own i a m (by rw [same i hi]; exact h)⟩
  refine ⟨⟨by rw [backW_len, l4]; exact S.len, fun a z => S.own a (by rw [← sm.mo]; exact z), S4.lv, fun i c h => ?_, fun i j m n a h1 h2 => ?_, S4.tab⟩, sm⟩
  · by_cases hi : i ∈ vs
    · rw [backW_in l4 hi] at h
      obtain ⟨v, e, r⟩ := S.at_ i c h
      exact ⟨v, e, r.keep (fun b o q w => kp b o (fun z => q (S.own b z)) w) (fun b z => .inl z) fun a m z => (noOwn_of no hi (by rw [h, z])).elim⟩
    · rw [backW_out hi] at h
      obtain ⟨v, e, r⟩ := S4.at_ i c h
      refine ⟨v, ?_, r⟩
      have h1 := wipe_out (σ := σ2) hi
      have h2 := wipe_out (σ := σ) hi
      rw [← h2, ← hw, h1]
      exact e
  · have key : ∀ {i : Nat} {m : MO}, (DL.backW ρ ρ4 vs)[i]? = some (some (C.own a m)) → i ∉ vs ∧ ρ4[i]? = some (some (C.own a m)) := fun {i m} h => by
      by_cases hi : i ∈ vs
      · rw [backW_in l4 hi] at h
        exact (noOwn_of no hi h).elim
      · exact ⟨hi, by rw [← backW_out hi]; exact h⟩
    exact S4.inj i j m n a (key h1).2 (key h2).2
theorem noOwn_back : ∀ {vs us : List Nat} {ρ4 : Env}, ρ4.length = ρ.length → (∀ i ∈ us, i ∈ vs) → noOwn ρ us = true → noOwn (backW ρ ρ4 vs) us = true
  | _, [], _, _, _, _ => rfl
  | vs, u :: us, ρ4, hl, hs, h => by
    have h : ((match ρ[u]? with
      | some (some (C.own _ _)) => false
      | _ => true) && noOwn ρ us) = true := h
    show ((match (backW ρ ρ4 vs)[u]? with
      | some (some (C.own _ _)) => false
      | _ => true) && noOwn (backW ρ ρ4 vs) us) = true
    rw [backW_in hl (hs u List.mem_cons_self)]
    rw [Bool.and_eq_true] at h ⊢
    exact ⟨h.1, noOwn_back hl (fun i hi => hs i (List.mem_cons_of_mem _ hi)) h.2⟩
/-- a clause's tests -/
def uTs (X : Cx) (ifs : List Expr) : TT := fun σ H Q => ∀ pins s, Inv X pins σ H s →
    wpAny (model X.prog X.w) X.A (forIn ifs true fun c r => if r = true then do let ok ← isTrue c X.env (eval c X.env); pure (ForInStep.yield ok) else pure (ForInStep.yield r)) (TP X pins σ Q) X.xe s
theorem pts_u (X : Cx) (ifs : List Expr) : PTs X ifs (uTs X ifs) := ⟨fun pins s _ _ _ I h => h pins s I⟩
theorem uTs.mono {X : Cx} {ifs : List Expr} {Q Q' : Bool → Hp → Prop} (h : uTs X ifs σ H Q) (f : ∀ v H', Q v H' → Q' v H') : uTs X ifs σ H Q' := fun pins s I =>
  thn (h pins s I) fun u s' ⟨H', I', q⟩ => ⟨H', I', f u H' q⟩
def DTs (Z : Ct) : List Expr → Env → (Bool → Env → Prop) → Prop
  | [], ρ, Ψ => Ψ true ρ
  | [c], ρ, Ψ => DT Z c ρ Ψ
  | _ :: _ :: _, _, _ => False
theorem DTs.run {ifs : List Expr} {Ψ : Bool → Env → Prop} (h : DTs Z ifs ρ Ψ) (p : Pre Z M ρ σ H) : uTs Z.X ifs σ H (PostB Z M ρ σ H Ψ) := by
  match ifs, h with
  | [], h => exact fun pins s I => pts_nil.run pins s σ H _ I ⟨ρ, h, Sim.refl _, Kp.refl _ _, p.st⟩
  | [c], h => exact fun pins s I => (pts_one (pt_u Z.X c)).run pins s σ H _ I (h M σ H p)
theorem takes_blk {scope : Scope} {s : Shared} {C : Addr} {cl : List (Str × Addr)} {fp : List Addr} : L2N.Takes (Z.blk scope s H C cl fp).X (wz (Z.blk scope s H C cl fp)) := fun u s' ⟨_, _, _, _, _, _, _, _, _, _, _, _, _, _, _, _, _, ρ, h, _⟩ => h.elim
/-- the premises of a comprehension over data: rest, what is made so far, the environment -/
def LcD (Z : Ct) (scope : Scope) (vs : List Nat) (tg elt : Expr) (ifs : List Expr) (P : List D → List D → Env → Prop) : Prop :=
  ∀ d r acc ρ', P (d :: r) acc ρ' → acc.length < sizeLine ∧ ∀ s H C cl fp, DG (Z.blk scope s H C cl fp) (fun i => vs.contains i) tg d (wipeE ρ' vs) fun ρ2 =>
    ∀ s H C cl fp, DTs (Z.blk scope s H C cl fp) ifs ρ2 fun b ρ3 => bcase b
      (∀ s H C cl fp, DE (Z.blk scope s H C cl fp) elt ρ3 fun x ρ4 => ∃ y, vwd x = some y ∧ P r (acc ++ [y]) (backW ρ' ρ4 vs))
      (P r acc (backW ρ' ρ3 vs))
def gBlk (Z : Ct) (scope : Scope) (tg : Expr) : TG := fun v σ H Q => ∀ s H' C cl fp, uG (Z.blk scope s H' C cl fp).X tg v σ H Q
def tBlk (Z : Ct) (scope : Scope) (ifs : List Expr) : TT := fun σ H Q => ∀ s H' C cl fp, uTs (Z.blk scope s H' C cl fp).X ifs σ H Q
def eBlk (Z : Ct) (scope : Scope) (e : Expr) : TE := fun σ H Q => ∀ s H' C cl fp, uE (Z.blk scope s H' C cl fp).X e σ H Q
theorem DI.imp {Θ Θ' : List D → (Env → Prop) → Env → Prop} (h : DI Z tg it ρ Θ) (f : ∀ ds κ ρ', Θ ds κ ρ' → Θ' ds κ ρ') : DI Z tg it ρ Θ' := fun M σ H p => (h M σ H p).mono fun _ _ ⟨ds, κ, S, ρ1, k, o⟩ => ⟨ds, κ, S, ρ1, f _ _ _ k, o⟩
theorem lc_run {scope : Scope} {vs : List Nat} {elt : Expr} {ifs : List Expr} {Q : VK} (p : Pre Z M ρ σ H)
    (h : DI Z tg it ρ fun ds κ ρ1 => noOwn ρ1 vs = true ∧ ∃ P : List D → List D → Env → Prop, P ds [] ρ1 ∧ (∀ r acc ρ', P r acc ρ' → κ ρ') ∧ (∀ acc ρ', P [] acc ρ' → Φ (.frs (.lst acc)) ρ') ∧ LcD Z scope vs tg elt ifs P)
    (hQ : ∀ v H', Post Z M ρ σ H Φ v H' → Q v H') : tLc (uI Z.X tg it) (gBlk Z scope tg) (tBlk Z scope ifs) (eBlk Z scope elt) vs σ H Q :=
  (h M σ H p).mono fun J H1 ⟨ds, κ, S, ρ1, ⟨no, P, k0, kκ, kend, step⟩, o, ok, s1⟩ => fun D hD => by
    have nD : ¬ M D := fun z => o.st.liv D z hD
    have nmD : ¬ Mo ρ D := fun z => nD (p.st.own D z)
    have hD0 : H D = none := fresh_back o.kp nmD hD
    refine ⟨fun i m H' => ∃ r acc ρ', m = r.length ∧ ds.drop i = r ∧ P r acc ρ' ∧ noOwn ρ' vs = true ∧ Sim ρ ρ' ∧ Kp (Mo ρ) H H' ∧ StS Z.X.K Z.T (fun a => M a ∨ a = D) ρ' σ H' ∧ S (fun a => M a ∨ a = D) H' ∧ MOk Z.X.K (fun a => M a ∨ a = D) H' D (.lst acc), ⟨ds.length, ds, [], ρ1, rfl, rfl, k0, no, o.sim, ?_, ?_, ?_, ?_⟩, ?_⟩
    · exact o.kp.trans (kp_new hD)
    · refine o.st.laid (up_new hD) (fun a z => ?_) fun a z => .inl z
      rcases z with z | z
      · exact .inl z
      · subst z; exact .inr ⟨hD, _, upd_same, solid_lst⟩
    · exact ok.keep s1 (fun b u _ e => .inl (up_new hD b u e)) fun b z => by
        rcases z with z | z
        · exact .inl z
        · subst z; exact .inr hD
    · exact ⟨[], upd_same, .nil⟩
    rintro i m H2 ⟨r, acc, ρ', em, er, k, no', sim, kp, st, sS, okD⟩
    cases r with
    | nil =>
      have hn : ds[i]? = none := List.getElem?_eq_none_iff.mpr (List.drop_eq_nil_iff.mp er)
      refine .inl ⟨ok.stop st (kκ _ _ _ k) sS hn, hQ _ _ ⟨.frs (.lst acc), ρ', _, kend acc ρ' k, sim, kp, fun a z => .inl z, fun a z => ?_, st, D, rfl, .inr rfl, nD, okD⟩⟩
      rcases z with z | z
      · exact .inl z
      · subst z; exact .inr hD0
    | cons d r =>
      have hd : ds[i]? = some d := by
        have := congrArg (fun l => l[0]?) er
        simpa using this
      have hr : ds.drop (i + 1) = r := by
        rw [← List.drop_drop, er]
        rfl
      obtain ⟨go, yl⟩ := ok.go st (kκ _ _ _ k) sS hd
      obtain ⟨hz, turn⟩ := step d r acc ρ' k
      refine .inr ⟨go, fun H' => ∃ acc' ρ'', P r acc' ρ'' ∧ noOwn ρ'' vs = true ∧ Sim ρ ρ'' ∧ Kp (Mo ρ) H H' ∧ StS Z.X.K Z.T (fun a => M a ∨ a = D) ρ'' σ H' ∧ S (fun a => M a ∨ a = D) H' ∧ MOk Z.X.K (fun a => M a ∨ a = D) H' D (.lst acc'),
        fun H' ⟨acc', ρ'', q⟩ => ⟨r.length, by rw [em]; exact Nat.lt_succ_self _, r, acc', ρ'', rfl, hr, q⟩, fun x H3 hy => ?_⟩
      obtain ⟨rx, gr⟩ := yl x H3 hy
      have kp3 : Kp (Mo ρ) H H3 := kp.trans fun a u _ e => .inl (gr a u e)
      have st3 := st.grow gr
      have moE : Mo ρ' = Mo ρ := sim.mo
      have kk3 : ∀ b u, ¬ (M b ∨ b = D) → H2 b = some u → OKeep u (H3 b) := fun b u _ e => .inl (gr b u e)
      have sS3 := ok.keep sS kk3 fun b z => .inl z
      have okD3 : MOk Z.X.K (fun a => M a ∨ a = D) H3 D (.lst acc) := by
        obtain ⟨xs, e, g⟩ := okD
        exact ⟨xs, gr _ _ e, g.keep kk3 fun b z => .inl z⟩
      intro s0 H0 C0 cl0 fp0
      refine (turn s0 H0 C0 cl0 fp0 (fun a => M a ∨ a = D) _ H3 x st3.wipe (Rp.grow rx fun a o e => e)).mono fun σ2 H4 ⟨eh, hw, ρ2, kt, st2, m2, l2, f2⟩ => ?_
      subst eh
      have hww : L2.wipe σ2 vs = L2.wipe σ vs := by rw [hw vs fun i hi => by simpa using hi]; exact wipe_wipe fun i hi => hi
      refine ⟨hww, fun s1 H1' C1 cl1 fp1 => ?_⟩
      have m2' : ∀ a, Mo ρ2 a → Mo ρ a := fun a z => by rw [← moE]; exact mo_wipe a (m2 a z)
      have pre2 : Pre (Z.blk scope s1 H1' C1 cl1 fp1) (fun a => M a ∨ a = D) ρ2 σ2 H4 := ⟨fun a z => .inl (p.m0 a z), st2, p.base.trans ⟨kp3, fun a z => .inl (m2' a z)⟩, p.w0, p.more fun a z => z.imp id fun z => by rw [z]; exact hD0⟩
      have l2' : ρ2.length = ρ'.length := by rw [l2, wipeE_len]
      have same : ∀ i : Nat, i ∉ vs → ρ2[i]? = ρ'[i]? := fun i hi => by rw [f2 i (by simpa using hi), wipeE_out hi]
      have kpM : ∀ {W : AS} {Ha Hb : Hp}, (∀ a, W a → Mo ρ2 a) → Kp W Ha Hb → Kp (Mo ρ) Ha Hb := fun f k => k.imp fun a z => m2' a (f a z)
      -- the list that is made stays as it is
      have keepD : ∀ {Hb : Hp}, Kp (Mo ρ2) H4 Hb → S (fun a => M a ∨ a = D) Hb ∧ MOk Z.X.K (fun a => M a ∨ a = D) Hb D (.lst acc) := fun {Hb} kb => by
        have kb' : ∀ b u, ¬ (M b ∨ b = D) → H4 b = some u → OKeep u (Hb b) := fun b u n e => kb b u (fun z => n (.inl (p.st.own b (m2' b z)))) e
        refine ⟨ok.keep sS3 kb' fun b z => .inl z, okD3.keep kb' (fun b z => .inl z) ?_⟩
        obtain ⟨o2, e, nt⟩ := okD3.there
        rw [(kb D o2 (fun z => nmD (m2' D z)) e).eq nt, e]
      refine uTs.mono ((kt s1 H1' C1 cl1 fp1).run pre2) fun b H5 ⟨ρ3, q, o3⟩ => bcase.ite ⟨fun eb => ?_, fun eb => ?_⟩
      · intro s4 H4' C4 cl4 fp4
        have pre3 : Pre (Z.blk scope s4 H4' C4 cl4 fp4) (fun a => M a ∨ a = D) ρ3 σ2 H5 := by
          have := o3.pre pre2
          exact ⟨this.m0, this.st, this.base, this.w0, this.mu⟩
        refine (q.1 eb s4 H4' C4 cl4 fp4 _ σ2 H5 pre3).mono fun v H6 ⟨rv, ρ4, M6, ⟨y, ey, k6⟩, o6⟩ => ?_
        have kp6 : Kp (Mo ρ2) H4 H6 := o3.kp.trans (by rw [← o3.sim.mo]; exact o6.kp)
        obtain ⟨sS6, xs, eD, g⟩ := keepD kp6
        have y6 : Rp Z.X.K (fun a => M a ∨ a = D) H6 v y := o6.pd.data o6.more ey
        have st6 : StS Z.X.K Z.T (fun a => M a ∨ a = D) ρ4 σ2 H6 := o6.st.less (fun a z => .inl (p.st.own a (m2' a (by rw [← o3.sim.mo, ← o6.sim.mo]; exact z)))) o6.more
        obtain ⟨stB, simB⟩ := st3.backW no' st6 (kp6.imp fun a z => by rw [moE]; exact m2' a z) (o3.sim.trans o6.sim) l2' same hww
        refine ⟨xs, eD, by rw [g.length]; exact hz, acc ++ [y], _, k6, noOwn_back ((o6.sim.len.trans o3.sim.len).trans l2') (fun i hi => hi) no', sim.trans simB, ?_, stB.updM (.inr rfl) (by rw [simB.mo, moE]; exact nmD) solid_lst, ?_, ?_⟩
        · exact fun a u n e => by
            rw [upd_ne (fun z => by rw [z, hD0] at e; cases e)]
            exact (kp3.trans (kpM (fun a z => z) kp6)) a u n e
        · exact ok.keep sS6 (fun b u n e => .inl (by rw [upd_ne (fun z => n (.inr z))]; exact e)) fun b z => .inl z
        · exact ⟨_, upd_same, (g.upd (.inr rfl)).append (.cons (y6.upd (.inr rfl)) .nil)⟩
      · have kp5 : Kp (Mo ρ2) H4 H5 := o3.kp
        obtain ⟨sS5, okD5⟩ := keepD kp5
        obtain ⟨stB, simB⟩ := st3.backW no' o3.st (kp5.imp fun a z => by rw [moE]; exact m2' a z) o3.sim l2' same hww
        exact ⟨acc, _, q.2 eb, noOwn_back (o3.sim.len.trans l2') (fun i hi => hi) no', sim.trans simB, kp3.trans (kpM (fun a z => z) kp5), stB, sS5, okD5⟩
theorem de_lc {scope : Scope} (own : List (Str × Nat)) {elt : Expr} {ifs : List Expr}
    (h : DI Z tg it ρ fun ds κ ρ1 => noOwn ρ1 (own.map (·.2)) = true ∧ ∃ P : List D → List D → Env → Prop, P ds [] ρ1 ∧ (∀ r acc ρ', P r acc ρ' → κ ρ') ∧ (∀ acc ρ', P [] acc ρ' → Φ (.frs (.lst acc)) ρ') ∧ LcD Z scope (own.map (·.2)) tg elt ifs P)
    (ok : BlkOk Z.X.N Z.X.env.scope scope own) (hN : Z.X.N.Nodup := by assumption) (hc : Z.X.calm = true := by rfl) (hs : ∀ x, foldedSetIterable it Z.X.env x = pure x := by intro _; rfl) : DE Z (.ListComp elt [⟨tg, it, ifs, 0⟩] scope pos) ρ Φ := fun M σ H p pins s I =>
  (pe_lc hc hN (pi_u Z.X tg it) ok (g := gBlk Z scope tg) (tt := tBlk Z scope ifs) (te := eBlk Z scope elt)
    (fun s H C cl fp => ⟨fun pins s' σ H' v u Q I r h => h s H C cl fp pins s' u I r⟩) (fun s H C cl fp => ⟨fun pins s' σ H' Q I h => h s H C cl fp pins s' I⟩) (fun s H C cl fp => ⟨fun pins s' σ H' Q I h => h s H C cl fp pins s' I⟩) hs).run pins s σ H _ I
    (lc_run p h fun v H' q => q)
/-- name = [..] on one line: data, the list given up; owned -/
theorem ds_setLc (i : Nat) {y : Str} {py spos : Pos} {scope : Scope} (own : List (Str × Nat)) {elt : Expr} {ifs : List Expr}
    (h : DI Z tg it ρ fun ds κ ρ1 => noOwn ρ1 (own.map (·.2)) = true ∧ ∃ P : List D → List D → Env → Prop, P ds [] ρ1 ∧ (∀ r acc ρ', P r acc ρ' → κ ρ') ∧ (∀ acc ρ', P [] acc ρ' → E.nx (ρ'.set i (some (.dat (.list acc))))) ∧ LcD Z scope (own.map (·.2)) tg elt ifs P)
    (ok : BlkOk Z.X.N Z.X.env.scope scope own) (hy : Z.X.N[i]? = some y := by rfl) (hN : Z.X.N.Nodup := by assumption) (hyl : Z.X.env.scope.names.lookup y = some .local := by rfl) (hsw : swapsWith (.ListComp elt [⟨tg, it, ifs, 0⟩] scope pos) (some (.Name y py)) spos.line Z.X.env = pure true := by rfl) (hc : Z.X.calm = true := by rfl) (hs : ∀ x, foldedSetIterable it Z.X.env x = pure x := by intro _; rfl) :
    DS Z (.Assign [.Name y py] (.ListComp elt [⟨tg, it, ifs, 0⟩] scope pos) spos) ρ E := fun σ H p pins s I =>
  (ps_setLc hc hN hy hyl hsw (pi_u Z.X tg it) ok (g := gBlk Z scope tg) (tt := tBlk Z scope ifs) (te := eBlk Z scope elt)
    (fun s H C cl fp => ⟨fun pins s' σ H' v u Q I r h => h s H C cl fp pins s' u I r⟩) (fun s H C cl fp => ⟨fun pins s' σ H' Q I h => h s H C cl fp pins s' I⟩) (fun s H C cl fp => ⟨fun pins s' σ H' Q I h => h s H C cl fp pins s' I⟩) hs).run pins s σ H _ I
    (lc_run (Φ := fun r ρ' => ∃ acc, r = .frs (.lst acc) ∧ E.nx (ρ'.set i (some (.dat (.list acc))))) p.pre (h.imp fun ds κ ρ1 ⟨no, P, k0, a, b, c⟩ => ⟨no, P, k0, a, fun acc ρ' z => ⟨acc, rfl, b acc ρ' z⟩, c⟩) fun v H1 ⟨r, ρ1, M1, ⟨acc, e, k⟩, o⟩ => by
      subst e
      exact nx_set p o rfl k)
theorem ds_ownLc (i : Nat) {y : Str} {py spos : Pos} {scope : Scope} (own : List (Str × Nat)) {elt : Expr} {ifs : List Expr}
    (h : DI Z tg it ρ fun ds κ ρ1 => noOwn ρ1 (own.map (·.2)) = true ∧ ∃ P : List D → List D → Env → Prop, P ds [] ρ1 ∧ (∀ r acc ρ', P r acc ρ' → κ ρ') ∧ (∀ acc ρ', P [] acc ρ' → ∀ a, E.nx (ρ'.set i (some (.own a (.lst acc))))) ∧ LcD Z scope (own.map (·.2)) tg elt ifs P)
    (ok : BlkOk Z.X.N Z.X.env.scope scope own) (hy : Z.X.N[i]? = some y := by rfl) (hN : Z.X.N.Nodup := by assumption) (hyl : Z.X.env.scope.names.lookup y = some .local := by rfl) (hsw : swapsWith (.ListComp elt [⟨tg, it, ifs, 0⟩] scope pos) (some (.Name y py)) spos.line Z.X.env = pure true := by rfl) (hc : Z.X.calm = true := by rfl) (hs : ∀ x, foldedSetIterable it Z.X.env x = pure x := by intro _; rfl) :
    DS Z (.Assign [.Name y py] (.ListComp elt [⟨tg, it, ifs, 0⟩] scope pos) spos) ρ E := fun σ H p pins s I =>
  (ps_setLc hc hN hy hyl hsw (pi_u Z.X tg it) ok (g := gBlk Z scope tg) (tt := tBlk Z scope ifs) (te := eBlk Z scope elt)
    (fun s H C cl fp => ⟨fun pins s' σ H' v u Q I r h => h s H C cl fp pins s' u I r⟩) (fun s H C cl fp => ⟨fun pins s' σ H' Q I h => h s H C cl fp pins s' I⟩) (fun s H C cl fp => ⟨fun pins s' σ H' Q I h => h s H C cl fp pins s' I⟩) hs).run pins s σ H _ I
    (lc_run (Φ := fun r ρ' => ∃ acc, r = .frs (.lst acc) ∧ ∀ a, E.nx (ρ'.set i (some (.own a (.lst acc))))) p.pre (h.imp fun ds κ ρ1 ⟨no, P, k0, a, b, c⟩ => ⟨no, P, k0, a, fun acc ρ' z => ⟨acc, rfl, b acc ρ' z⟩, c⟩) fun v H1 ⟨r, ρ1, M1, ⟨acc, e, k⟩, o⟩ => by
      subst e
      exact nx_setO p o k)
end
end DL
set_option Elab.async false
set_option linter.all false
set_option maxRecDepth 100000
/-! DLn: slices, assignments to several names, small rules. -/
namespace DL
open PySem PySem.Spec PyProof.Rows L2
section
variable {Z : Ct} {ρ ρ1 ρ2 : Env} {Φ : Rv → Env → Prop} {Ψ : Bool → Env → Prop} {M M1 M' : AS} {σ σ1 : DL.St} {H H1 H2 H' : Hp} {r r0 r1 r2 : Rv} {d d1 d2 : D} {e a b tg it : Expr} {es : List Expr} {pos p2 : Pos} {E : DN} {K : PySem.W.Frag} {T : List (Addr × Str)}
theorem boolR_i {x : Bool} (k : Ψ x ρ) : boolR Ψ (.dat (.bool x)) ρ := ⟨x, rfl, k⟩
theorem bcase_not {x : Bool} {A B : Prop} (h : bcase x B A) : bcase (!x) A B := by
  cases x with
  | true => exact ⟨(fun z => by cases z), fun _ => h.1 rfl⟩
  | false => exact ⟨fun _ => h.2 rfl, (fun z => by cases z)⟩
theorem bcase_m {x : Bool} {A B : Prop} (h1 : x = true → A) (h2 : x = false → B) : bcase x A B := ⟨h1, h2⟩
/-! ### slices -/
def cutD (xs : List D) (lo hi : Option Int) : List D := (xs.drop (HT.sIx xs.length 0 lo)).take (HT.sIx xs.length xs.length hi - HT.sIx xs.length 0 lo)
theorem RpA.cut {xs : List V} {ds : List D} (g : RpA K M H xs ds) (lo hi : Option Int) : RpA K M H (cutV xs lo hi) (cutD ds lo hi) := by
  unfold cutV cutD
  rw [g.length]
  exact (g.drop _).take _
theorem cutD_full {ds : List D} {lo hi : Option Int} (h : HT.sIx ds.length 0 lo = 0 ∧ HT.sIx ds.length ds.length hi = ds.length) : cutD ds lo hi = ds := by
  unfold cutD
  rw [h.1, h.2]
  simp
/-- a slice's part -/
def DP (Z : Ct) (e : Option Expr) (ρ : Env) (Φ : Option Int → Env → Prop) : Prop := match e with
  | none => Φ none ρ
  | some e => DE Z e ρ fun r ρ' => ∃ i, vw ρ' r = some (.int i) ∧ Φ (some i) ρ'
def uP (X : Cx) (e : Option Expr) : TO := fun σ H Q => ∀ pins s, Inv X pins σ H s → wpAny (model X.prog X.w) X.A (evalPart e X.env) (fun u s' => ∃ o H', Inv X pins σ H' s' ∧ IsPart u o ∧ Q o H') X.xe s
theorem po_u (X : Cx) (e : Option Expr) : PO X e (uP X e) := ⟨fun pins s σ H Q I h => h pins s I⟩
theorem DP.run {Ξ : Option Int → Env → Prop} {eo : Option Expr} {Q : Option Int → Hp → Prop} (h : DP Z eo ρ Ξ) (p : Pre Z M ρ σ H) (k : ∀ o H1 ρ1 M1, Ξ o ρ1 → EndO Z M M1 ρ ρ1 σ H H1 → Q o H1) : uP Z.X eo σ H Q := by
  cases eo with
  | none => exact fun pins s I => po_none.run pins s σ H _ I (k none H ρ M h ⟨Sim.refl _, Kp.refl _ _, fun _ z => z, fun _ z => .inl z, p.st⟩)
  | some e =>
    exact fun pins s I => (po_some (pe_u Z.X e)).run pins s σ H _ I ((DE.imp h fun _ _ z => z) M σ H p |>.mono fun v H1 ⟨r, ρ1, M1, ⟨i, e1, q⟩, o⟩ => ⟨i, (o.v e1).int, k (some i) H1 ρ1 M1 q o.endO⟩)
def rSl (K : PySem.W.Frag) : V → Option Int → Option Int → Hp → VK → Prop := fun x lo hi H Q => (rSlL K x lo hi H Q ∨ rSlA K x lo hi H Q) ∨ rSlS x lo hi H Q
theorem sl_any {X : Cx} : SlR X (rSl X.K) := (sl_list.or sl_tupA).or sl_str
/-- what a slice is -/
def slK (ρ : Env) (d : D) (lo hi : Option Int) (Φ : Rv → Env → Prop) : Prop := match d with
  | .list ds => Φ (.frs (.lst (cutD ds lo hi))) ρ
  | .tuple ds => Φ (.dat (.tuple (cutD ds lo hi))) ρ
  | .str z => z.length ≤ sizeLine ∧ Φ (.dat (.str (cutS z lo hi))) ρ
  | _ => False
theorem RpA.nil_or {xs : List V} {ds : List D} (g : RpA K M H xs ds) : xs.length = ds.length := g.length
/-- e[lo:hi] -/
theorem de_sl {lo hi : Option Expr} (h : DE Z e ρ fun r ρ1 => DP Z lo ρ1 fun l ρ2 => DP Z hi ρ2 fun u ρ3 => ∃ d, vw ρ3 r = some d ∧ (∀ ds, d = .tuple ds → r = .dat d) ∧ slK ρ3 d l u Φ) : DE Z (.Subscript e (.Slice lo hi none p2) pos) ρ Φ := fun M σ H p pins s I =>
  (pe_slice sl_any (pe_u Z.X e) (po_u Z.X lo) (po_u Z.X hi)).run pins s σ H _ I ((h M σ H p).mono fun v H1 ⟨r, ρ1, M1, q1, o1⟩ => DP.run q1 (o1.pre p) fun l H2 ρ2 M2 q2 o2 => DP.run q2 (o2.pre (o1.pre p)) fun u H3 ρ3 M3 ⟨d, ed, et, q3⟩ o3 => by
    have c12 := o1.endO.trans p o2
    have c := c12.trans p o3
    have pr2 := o2.pre (o1.pre p)
    have pd : Pd Z.X.K M M3 ρ3 σ H3 v r := by
      have a1 := o1.pd.keep (M' := M2) o1.st (fun a z => p.st.own a (by rw [← o1.sim.mo]; exact z)) o2.sim o2.kp o2.new o2.more
      exact a1.keep (M' := M3) o2.st (fun a z => p.st.own a (by rw [← o1.sim.mo, ← o2.sim.mo]; exact z)) o3.sim o3.kp o3.new o3.more
    have w := pd.view o3.st ed
    cases d with
    | list ds =>
      obtain ⟨a, xs, rfl, hx, g⟩ := w.list
      exact .inl (.inl ⟨a, xs, rfl, hx, fun q hq => c.list q3 hq (g.cut l u)⟩)
    | tuple ds =>
      obtain ⟨a, xs, rfl, hx, g⟩ := w.tuple
      refine .inl (.inr ⟨a, xs, rfl, hx, fun hw => ?_, fun hw q hq => c.tuple q3 hq (g.cut l u)⟩)
      have er := et ds rfl
      subst er
      rw [g.length] at hw
      have ec := cutD_full hw
      have q3 : Φ (.dat (.tuple (cutD ds l u))) ρ3 := q3
      rw [ec] at q3
      exact c.post q3 pd
    | str z =>
      exact .inr ⟨z, w.str, q3.1, c.post q3.2 (.str _)⟩
    | none => exact q3.elim
    | bool _ => exact q3.elim
    | int _ => exact q3.elim
    | dict _ => exact q3.elim)
/-- e[::-1], a list -/
theorem de_revL {k : Nat} {p1 p2 p3 : Pos} (h : DE Z e ρ fun r ρ1 => ∃ ds, vw ρ1 r = some (.list ds) ∧ Φ (.frs (.lst ds.reverse)) ρ1) : DE Z (.Subscript e (.Slice none none (some (.UnaryOp .USub (.Constant (.int 1) k p1) p2)) p3) pos) ρ Φ := fun M σ H p pins s I =>
  (pe_revL (pe_u Z.X e)).run pins s σ H _ I ((h M σ H p).mono fun v H1 ⟨r, ρ1, M1, ⟨ds, e1, k⟩, o⟩ => by
    obtain ⟨a, xs, rfl, hx, g⟩ := (o.v e1).list
    exact ⟨a, xs, rfl, hx, fun q hq => o.endO.list k hq g.reverse⟩)
/-! ### equality of ints, texts -/
theorem od_eqI {i j : Int} (e1 : vw ρ2 r1 = some (.int i)) (e2 : vw ρ2 r2 = some (.int j)) (hu : Z.X.A.units + 64 < cLine) (k : Φ (.dat (.bool (decide (i = j)))) ρ2) : OpD Z (compareOp .Eq) ρ2 r1 r2 Φ :=
  od_eq e1 e2 rfl rfl hu (by have : PyData.eqv (.int i) (.int j) = decide (i = j) := by { show (i == j) = _; rw [Bool.eq_iff_iff]; simp }
                             rw [this]; exact k)
theorem od_neI {i j : Int} (e1 : vw ρ2 r1 = some (.int i)) (e2 : vw ρ2 r2 = some (.int j)) (hu : Z.X.A.units + 64 < cLine) (k : Φ (.dat (.bool (decide (i ≠ j)))) ρ2) : OpD Z (compareOp .NotEq) ρ2 r1 r2 Φ :=
  od_ne e1 e2 rfl rfl hu (by have : (!PyData.eqv (.int i) (.int j)) = decide (i ≠ j) := by { show (!(i == j)) = _; rw [Bool.eq_iff_iff]; simp }
                             rw [this]; exact k)
/-! ### a, b = x, y -/
theorem ds_par (i j : Nat) {x y : Str} {px py pt : Pos} {kt k2 : Nat} {pt2 : Pos} (h : DA Z [a, b] ρ fun rs ρ1 => ∃ d1 d2, vwds rs = some [d1, d2] ∧ E.nx ((ρ1.set i (some (.dat d1))).set j (some (.dat d2))))
    (hi : Z.X.N[i]? = some x := by rfl) (hj : Z.X.N[j]? = some y := by rfl) (hij : i ≠ j := by decide) (hN : Z.X.N.Nodup := by assumption) (hx : Z.X.env.scope.names.lookup x = some .local := by rfl) (hy : Z.X.env.scope.names.lookup y = some .local := by rfl)
    (hw : swappedStores [.Tuple [.Name x px, .Name y py] kt pt] (.Tuple [a, b] k2 pt2) Z.X.env = pure (some [x, y]) := by rfl) (hs : swapsWithSole [.Tuple [.Name x px, .Name y py] kt pt] (.Tuple [a, b] k2 pt2) pos.line Z.X.env = pure false := by rfl) (hc : Z.X.calm = true := by rfl) :
    DS Z (.Assign [.Tuple [.Name x px, .Name y py] kt pt] (.Tuple [a, b] k2 pt2) pos) ρ E := fun σ H p pins s I =>
  (ps_par hc hN hi hj hij hx hy (pa_u Z.X [a, b]) hw hs).run pins s σ H _ I ((h _ σ H p.pre).mono fun vs H1 ⟨rs, ρ1, M1, ⟨d1, d2, e, k⟩, o⟩ => by
    have em : Z.mz ρ1 = Z.mz ρ := by unfold Ct.mz; rw [o.sim.mo]
    have g := o.pd.data o.more e
    cases g with
    | cons g1 g => cases g with
      | cons g2 g =>
        cases g
        have L := o.less p.pre
        have S1 : StS Z.X.K Z.T (Z.mz ρ) ρ1 σ H1 := L.st
        have S2 := S1.set (i := i) (fun _ _ z => by cases z) (show CR Z.X.K _ H1 _ (.dat d1) from g1)
        have S3 := S2.set (i := j) (fun _ _ z => by cases z) (show CR Z.X.K _ H1 _ (.dat d2) from g2)
        have m3 : ∀ a, Mo ((ρ1.set i (some (.dat d1))).set j (some (.dat d2))) a → Mo ρ a := fun a z => by
          rw [← o.sim.mo]
          exact mo_set (fun _ _ z => by cases z) a (mo_set (fun _ _ z => by cases z) a z)
        exact ⟨_, _, rfl, _, k, S3.less (fun a z => .inr z) (fun a z => z.imp id (m3 a)), ⟨o.kp, fun a z => .inl (m3 a z)⟩⟩)
/-- a, b = x, y: a new thing that the first name owns, data -/
theorem ds_parO (i j : Nat) {x y : Str} {px py pt : Pos} {kt k2 : Nat} {pt2 : Pos} (h : DA Z [a, b] ρ fun rs ρ1 => ∃ m d2, rs = [.frs m, .dat d2] ∧ ∀ a, E.nx ((ρ1.set i (some (.own a m))).set j (some (.dat d2))))
    (hi : Z.X.N[i]? = some x := by rfl) (hj : Z.X.N[j]? = some y := by rfl) (hij : i ≠ j := by decide) (hN : Z.X.N.Nodup := by assumption) (hx : Z.X.env.scope.names.lookup x = some .local := by rfl) (hy : Z.X.env.scope.names.lookup y = some .local := by rfl)
    (hw : swappedStores [.Tuple [.Name x px, .Name y py] kt pt] (.Tuple [a, b] k2 pt2) Z.X.env = pure (some [x, y]) := by rfl) (hs : swapsWithSole [.Tuple [.Name x px, .Name y py] kt pt] (.Tuple [a, b] k2 pt2) pos.line Z.X.env = pure false := by rfl) (hc : Z.X.calm = true := by rfl) :
    DS Z (.Assign [.Tuple [.Name x px, .Name y py] kt pt] (.Tuple [a, b] k2 pt2) pos) ρ E := fun σ H p pins s I =>
  (ps_par hc hN hi hj hij hx hy (pa_u Z.X [a, b]) hw hs).run pins s σ H _ I ((h _ σ H p.pre).mono fun vs H1 ⟨rs, ρ1, M1, ⟨m, d2, e, k⟩, o⟩ => by
    subst e
    have em : Z.mz ρ1 = Z.mz ρ := by unfold Ct.mz; rw [o.sim.mo]
    have g := o.pd
    cases g with
    | cons g1 g => cases g with
      | cons g2 g =>
        cases g
        obtain ⟨b, rfl, mb, nb, ok⟩ := g1
        have nb1 : ¬ Mo ρ1 b := fun z => nb (.inr (by rw [← o.sim.mo]; exact z))
        have hb : H b = none := (o.new b mb).elim (fun z => absurd z nb) id
        have S2 := o.st.setO (i := i) mb nb1 ok
        have S3 := S2.set (i := j) (fun _ _ z => by cases z) (show CR Z.X.K _ H1 _ (.dat d2) from g2)
        have m3 : ∀ a, Mo ((ρ1.set i (some (.own b m))).set j (some (.dat d2))) a → Mo ρ a ∨ a = b := fun a z => by
          rw [← o.sim.mo]
          exact mo_setO a (mo_set (fun _ _ z => by cases z) a z)
        refine ⟨_, _, rfl, _, k b, S3.less (fun a z => .inr z) (fun a z => ?_), ⟨o.kp, fun a z => ?_⟩⟩
        · rcases z with z | z
          · exact o.more a (.inl z)
          · rcases m3 a z with w | w
            · exact o.more a (.inr w)
            · subst w; exact mb
        · rcases m3 a z with w | w
          · exact .inl w
          · subst w; exact .inr hb)
/-- .. data, a new thing that the second name owns -/
theorem ds_parO2 (i j : Nat) {x y : Str} {px py pt : Pos} {kt k2 : Nat} {pt2 : Pos} (h : DA Z [a, b] ρ fun rs ρ1 => ∃ m r1 d1, rs = [r1, .frs m] ∧ vwd r1 = some d1 ∧ ∀ a, E.nx ((ρ1.set i (some (.dat d1))).set j (some (.own a m))))
    (hi : Z.X.N[i]? = some x := by rfl) (hj : Z.X.N[j]? = some y := by rfl) (hij : i ≠ j := by decide) (hN : Z.X.N.Nodup := by assumption) (hx : Z.X.env.scope.names.lookup x = some .local := by rfl) (hy : Z.X.env.scope.names.lookup y = some .local := by rfl)
    (hw : swappedStores [.Tuple [.Name x px, .Name y py] kt pt] (.Tuple [a, b] k2 pt2) Z.X.env = pure (some [x, y]) := by rfl) (hs : swapsWithSole [.Tuple [.Name x px, .Name y py] kt pt] (.Tuple [a, b] k2 pt2) pos.line Z.X.env = pure false := by rfl) (hc : Z.X.calm = true := by rfl) :
    DS Z (.Assign [.Tuple [.Name x px, .Name y py] kt pt] (.Tuple [a, b] k2 pt2) pos) ρ E := fun σ H p pins s I =>
  (ps_par hc hN hi hj hij hx hy (pa_u Z.X [a, b]) hw hs).run pins s σ H _ I ((h _ σ H p.pre).mono fun vs H1 ⟨rs, ρ1, M1, ⟨m, r1, d1, e, ed, k⟩, o⟩ => by
    subst e
    have em : Z.mz ρ1 = Z.mz ρ := by unfold Ct.mz; rw [o.sim.mo]
    have g := o.pd
    cases g with
    | @cons _ v1 _ _ _ g1 g => cases g with
      | cons g2 g =>
        cases g
        obtain ⟨b, rfl, mb, nb, ok⟩ := g2
        have nb0 : ¬ Z.mz ρ b := fun z => nb (.inl z)
        have nb1 : ¬ Mo ρ1 b := fun z => nb0 (.inr (by rw [← o.sim.mo]; exact z))
        have hb : H b = none := (o.new b mb).elim (fun z => absurd z nb0) id
        have S2 := o.st.setO (i := j) mb nb1 ok
        -- the data do not touch b
        have sub : ∀ z, (Z.mz ρ z ∨ z = b) → M1 z := fun z q => q.elim (o.more z) fun q => by rw [q]; exact mb
        have c1 : Rp Z.X.K (fun z => Z.mz ρ z ∨ z = b) H1 v1 d1 := by
          cases r1 with
          | dat d => cases ed; exact Rp.less g1 sub
          | raw x => cases ed
          | slot i => cases ed
          | frs m1 =>
            obtain ⟨a1, rfl, ma1, na1, ok1⟩ := g1
            cases m1 with
            | lst ds =>
              cases ed
              obtain ⟨xs, e1, e2⟩ := ok1
              refine .lst (.inl ⟨fun q => q.elim na1 fun q => ?_, .inl e1⟩) (e2.less sub)
              exact nb (.inr ⟨⟨_, rfl⟩, by rw [q]⟩)
            | dK _ => cases ed
            | dT _ => cases ed
            | ins _ _ => cases ed
        have S2' := S2.less (M' := fun z => Z.mz ρ z ∨ z = b) (fun a z => by
          rcases mo_setO a z with w | w
          · exact .inl (.inr (by rw [← o.sim.mo]; exact w))
          · exact .inr w) sub
        have S3 := S2'.set (i := i) (fun _ _ z => by cases z) (show CR Z.X.K _ H1 _ (.dat d1) from c1)
        rw [List.set_comm _ _ (Ne.symm hij), List.set_comm (some (V.ref b)) (some v1) (Ne.symm hij)] at S3
        have m3 : ∀ a, Mo ((ρ1.set i (some (.dat d1))).set j (some (.own b m))) a → Mo ρ a ∨ a = b := fun a z => by
          rw [← o.sim.mo]
          rcases mo_setO a z with w | w
          · exact .inl (mo_set (fun _ _ z => by cases z) a w)
          · exact .inr w
        refine ⟨_, _, rfl, _, k b, S3.less (fun a z => .inr z) (fun a z => ?_), ⟨o.kp, fun a z => ?_⟩⟩
        · rcases z with z | z
          · exact .inl (.inl z)
          · rcases m3 a z with w | w
            · exact .inl (.inr w)
            · exact .inr w
        · rcases m3 a z with w | w
          · exact .inl w
          · subst w; exact .inr hb)
/-- (a, b, ..) = e -/
theorem ds_asg (h : DE Z e ρ fun r ρ1 => ∃ d, vwd r = some d ∧ DG Z (fun _ => true) tg d ρ1 E.nx) (hs : swapsWithSole [tg] e pos.line Z.X.env = pure false := by rfl) (hw : swappedStores [tg] e Z.X.env = pure none := by rfl)
    (h1 : (assignEach [tg] Z.X.env).map (·.2) = [assign tg Z.X.env] := by rfl) : DS Z (.Assign [tg] e pos) ρ E := fun σ H p pins s I =>
  (ps_asg (pe_u Z.X e) (pg_u Z.X tg) hs hw h1).run pins s σ H _ I ((h _ σ H p.pre).mono fun v H1 ⟨r, ρ1, M1, ⟨d, ed, g⟩, o⟩ => by
    have em : Z.mz ρ1 = Z.mz ρ := by unfold Ct.mz; rw [o.sim.mo]
    have L := o.less p.pre
    refine (g (Z.mz ρ) σ H1 v L.st (o.pd.data o.more ed)).mono fun σ2 H2 ⟨eh, _, ρ2, k, S2, m2, _, _⟩ => ?_
    subst eh
    have m3 : ∀ a, Mo ρ2 a → Mo ρ a := fun a z => by rw [← o.sim.mo]; exact m2 a z
    exact ⟨ρ2, k, S2.less (fun a z => .inr z) (fun a z => z.imp id (m3 a)), ⟨o.kp, fun a z => .inl (m3 a z)⟩⟩)
end
end DL
set_option Elab.async false
set_option linter.all false
set_option maxRecDepth 100000
/-! DLo: while an exception is handled: iterators that end, pairs unpacked. -/
namespace DL
open PySem PySem.Spec PyProof.Rows L2 HotX L2H
section
variable {prog : Program} {w : World} {A : Around} {E : Value → Shared → Prop} {s : Shared}
/-- the end of an iteration is told by a new exception, whose context is the handled one -/
theorem stop_hot {α : Type} {x1 : Addr} {Q : α → Shared → Prop} (hot : HotAt A x1 s.heap)
    (h : ∀ h' e, (∀ b o, s.heap.get? b = some o → h'.get? b = some o) → (∃ o, h'.get? e = some o ∧ o.cls = .type "StopIteration") → E (.ref e) { s with heap := h' }) :
    wpAny (model prog w) A (newExc (.type "StopIteration") [] >>= fun e => (raiseNew e : Sem α)) Q E s := by
  obtain ⟨hd, ob, fs, hg, hf, hn⟩ := hot
  refine wpAny_bind ?_
  simp only [newExc, newTuple]
  refine wpAny_bind (wpAny_newObj_type ?_ (by size_fits))
  refine wpAny_bind (m := firstArgMember _ _) (wpAny_of_eq (a := Value.none) (by first | rfl | (simp only [firstArgMember]; rfl)) ?_)
  refine wpAny_newObj_type ?_ (by size_fits)
  have g2 : ∀ (u v : Obj) b o, s.heap.get? b = some o → ((s.heap.push u).push v).get? b = some o := fun u v b o e => Heap.get?_push_of_some _ (Heap.get?_push_of_some _ e)
  refine raiseNew_hot (x1 := x1) ⟨hd, ob, fs, g2 _ _ _ _ hg, hf, hn⟩ (fun z => ?_) (Heap.get?_push_size _ rfl) rfl (by first | (simp; done) | (simp; omega) | (simp only [Array.size_append]; simp; omega)) (h _ _ (fun b o e => ?_) ⟨_, Heap.get?_update_self _ (Heap.get?_push_size _ rfl) rfl, rfl⟩)
  · have hl := Heap.lt_size hg
    have z2 : x1 = (s.heap.push { cls := .type "tuple", data := .seq #[] }).objs.size := z
    rw [Heap.size_push] at z2
    exact absurd hl (by rw [z2]; exact Nat.not_lt.mpr (Nat.le_succ _))
  · rw [Heap.get?_update_other _ _ (fun z => ?_)]
    · exact g2 _ _ b o e
    · have hl := Heap.lt_size e
      have z2 : (s.heap.push { cls := .type "tuple", data := .seq #[] }).objs.size = b := z
      rw [Heap.size_push] at z2
      exact absurd hl (by rw [← z2]; exact Nat.not_lt.mpr (Nat.le_succ _))
theorem HotAt.up {x1 : Addr} {h h' : Heap} (hot : HotAt A x1 h) (k : ∀ o, h.get? x1 = some o → h'.get? x1 = some o) : HotAt A x1 h' := by
  obtain ⟨hd, ob, fs, hg, hf, hn⟩ := hot
  exact ⟨hd, ob, fs, k _ hg, hf, hn⟩
/-- a tuple's iterator at its end -/
theorem tupEnd_hot {x1 it t : Addr} {i : Nat} {items : Array Value} {Q : Option Value → Shared → Prop} (hot : HotAt A x1 s.heap) (ne : it ≠ x1) (hit : IsTupIter s.heap it t i) (ht : IsTup s.heap t items) (hx : items[i]? = none)
    (hQ : ∀ h', (∀ b o, b ≠ it → s.heap.get? b = some o → h'.get? b = some o) → Q none { s with heap := h' }) : wpAny (model prog w) A (pyNext (.ref it)) Q E s := by
  obtain ⟨oi, gi, ci, di⟩ := id hit
  obtain ⟨ot, gt, _, nt, dt⟩ := ht
  have run : wpAny (model prog w) A (pyNext (.ref it)) Q E s := by
    unfold pyNext
    refine wpAny_bind (wpAny_attempt (wpAny_callSpecial?_slot (name := Str.ofString "__next__") hit.typeIs slot_tupleiter_next (wpAny_call_entry slot_tupleiter_next hit.typeIs entry_tupleiter_next ?_ (args_tupleiter_next _))))
    change wpAny _ _ (field (.ref it) 0 >>= _) _ _ s
    refine wpAny_bind (wpAny_field gi di (x := .ref t) rfl ?_)
    have nn : ¬ ((Value.ref t == Value.none) = true) := Bool.false_ne_true
    change wpAny _ _ (if (Value.ref t == Value.none) = true then _ else _) _ _ s
    rw [if_neg nn]
    change wpAny _ _ (field (.ref it) 1 >>= _) _ _ s
    refine wpAny_bind (wpAny_field gi di (x := .int i 0) rfl ?_)
    change wpAny _ _ (seqItems? (.ref t) >>= _) _ _ s
    refine wpAny_bind (wpAny_seqItems gt dt ?_)
    simp only [Int.toNat_natCast, hx]
    refine wpAny_bind (wpAny_rule (wpAny_bind (wpAny_setField gi di (by simp) ?_)))
    refine stop_hot (x1 := x1) (HotAt.up hot fun o e => ?_) fun h' e k he => ?_
    · exact (Heap.get?_update_other _ _ ne).trans e
    · obtain ⟨o, ho, hc⟩ := he
      exact wpAny_bind (wpAny_isInstance (T := "StopIteration") (b := true) ⟨o, ho, hc⟩ isSubtype_stop (wpAny_pure (hQ _ fun b u hb eb => k b u ((Heap.get?_update_other _ _ (Ne.symm hb)).trans eb))))
  exact run
/-- a tuple's items handed out, one each -/
theorem unpackT_hot {x1 t : Addr} {items : Array Value} {Q : List Value → Shared → Prop} (hot : HotAt A x1 s.heap) (ht : IsTup s.heap t items)
    (hQ : ∀ h', (∀ b o, s.heap.get? b = some o → h'.get? b = some o) → Q items.toList { s with heap := h' }) : wpAny (model prog w) A (unpackItems (.ref t) items.size none) Q E s := by
  have lt : t < s.heap.objs.size := by obtain ⟨o, e, _⟩ := ht; exact Heap.lt_size e
  have lx : x1 < s.heap.objs.size := by obtain ⟨_, o, _, e, _⟩ := hot; exact Heap.lt_size e
  unfold unpackItems
  refine wpAny_bind ?_
  · unfold notIterableAtAll
    refine wpAny_bind (wpAny_specialOf ht.typeIs slot_tuple_iter.lookup (wpAny_pure ?_))
    simp only [Bool.false_eq_true, if_false]
    refine wpAny_bind (wpAny_holding (iter_tuple ht ?_))
    refine wpAny_bind (wpAny_holding (draw_tuple (Nat.ne_of_lt lt) items.size 0 _ _ ⟨_, Heap.get?_push_size _ rfl, rfl, rfl⟩ (ht.push _) (by omega) fun h1 st1 sb1 => ?_))
    rw [List.drop_zero, List.take_of_length_le (by simp), if_neg (by simp)]
    refine wpAny_bind (wpAny_holding (tupEnd_hot (x1 := x1) (HotAt.up hot fun o e => ?_) (Nat.ne_of_gt lx) st1 ((ht.push _).extBut sb1.extBut (Nat.ne_of_lt lt)) (by simp) fun h2 k2 => ?_))
    · exact sb1.extBut _ _ (Nat.ne_of_lt lx) (Heap.get?_push_of_some _ e)
    · simp only [Option.isSome_none, Bool.false_eq_true, if_false]
      refine wpAny_pure (hQ h2 fun b o e => ?_)
      have nb : b ≠ s.heap.objs.size := Nat.ne_of_lt (Heap.lt_size e)
      exact k2 b o nb (sb1.extBut b o nb (Heap.get?_push_of_some _ e))
/-- a list's iterator asked past the end, within another iterator's step -/
theorem nextOfEnd_hot {x1 it l : Addr} {i : Nat} {items : Array Value} {Q : Value → Shared → Prop} (hot : HotAt A x1 s.heap) (ne : it ≠ x1) (hit : s.heap.IsListIter it l i) (hl : s.heap.IsList l items) (hx : items[i]? = none)
    (hE : ∀ h' e, (∀ b o, b ≠ it → s.heap.get? b = some o → h'.get? b = some o) → (∃ o, h'.get? e = some o ∧ o.cls = .type "StopIteration") → E (.ref e) { s with heap := h' }) :
    wpAny (model prog w) A (Builtin.SmallTypes.nextOf (.ref it)) Q E s := by
  obtain ⟨oi, gi, ci, di⟩ := id hit
  obtain ⟨ot, gt, _, nt, dt⟩ := hl
  unfold Builtin.SmallTypes.nextOf
  refine wpAny_bind (wpAny_callSpecial?_slot (name := Str.ofString "__next__") hit.typeIs slot_listiter_next (wpAny_call_entry slot_listiter_next hit.typeIs entry_listiter_next ?_ (args_listiter_next _)))
  change wpAny _ _ (field (.ref it) 0 >>= _) _ _ s
  refine wpAny_bind (wpAny_field gi di (x := .ref l) rfl ?_)
  have nn : ¬ ((Value.ref l == Value.none) = true) := Bool.false_ne_true
  change wpAny _ _ (if (Value.ref l == Value.none) = true then _ else _) _ _ s
  rw [if_neg nn]
  change wpAny _ _ (field (.ref it) 1 >>= _) _ _ s
  refine wpAny_bind (wpAny_field gi di (x := .int i 0) rfl ?_)
  change wpAny _ _ (seqItems? (.ref l) >>= _) _ _ s
  refine wpAny_bind (wpAny_seqItems gt dt ?_)
  simp only [Int.toNat_natCast, hx]
  refine wpAny_bind (wpAny_rule (wpAny_bind (wpAny_setField gi di (by simp) ?_)))
  refine stop_hot (x1 := x1) (HotAt.up hot fun o e => (Heap.get?_update_other _ _ ne).trans e) fun h' e k he => ?_
  exact hE h' e (fun b u hb eb => k b u ((Heap.get?_update_other _ _ (Ne.symm hb)).trans eb)) he
/-- zip of two lists, the first at its end -/
theorem zipEnd_hot {x1 z TI TO i1 i2 l1 l2 : Addr} {k1 : Nat} {xs : Array Value} {a b : Value} {Q : Option Value → Shared → Prop} (hot : HotAt A x1 s.heap) (nz : z ≠ x1) (n1 : i1 ≠ x1) (D : ZipApart z TI TO i1 i2 l1 l2)
    (hz : IsZip s.heap z TI TO .none) (hI : IsPair s.heap TI (.ref i1) (.ref i2)) (hO : IsPair s.heap TO a b) (h1 : s.heap.IsListIter i1 l1 k1) (hl : s.heap.IsList l1 xs) (hx : xs[k1]? = none)
    (hQ : ∀ h', (∀ c o, c ≠ z → c ≠ i1 → s.heap.get? c = some o → h'.get? c = some o) → Q none { s with heap := h' }) : wpAny (model prog w) A (pyNext (.ref z)) Q E s := by
  have ty : s.TypeIs (.ref z) "zip" := ⟨_, hz, rfl⟩
  unfold pyNext
  refine wpAny_bind (wpAny_attempt (wpAny_callSpecial?_slot (name := Str.ofString "__next__") ty F.slot_zip_next (wpAny_call_entry F.slot_zip_next ty F.entry_zip_next ?_ (F.args_zip_next_1 _))))
  change wpAny _ _ (field (.ref z) 2 >>= _) _ _ _
  refine wpAny_bind (wpAny_field hz rfl (x := .bool false) rfl ?_)
  change wpAny _ _ (field (.ref z) 3 >>= _) _ _ _
  refine wpAny_bind (wpAny_field hz rfl (x := .ref TI) rfl (wpAny_bind (wpAny_seqItems hI rfl ?_)))
  change wpAny _ _ (Builtin.SmallTypes.ownedTupleIsFree (.ref z) >>= _) _ _ _
  refine wpAny_bind ?_
  unfold Builtin.SmallTypes.ownedTupleIsFree
  refine wpAny_bind (wpAny_field hz rfl (x := .none) rfl (wpAny_pure ?_))
  simp only [if_true]
  refine wpAny_bind (wpAny_rule (wpAny_bind (wpAny_field hz rfl (x := .ref TO) rfl (wpAny_bind (wpAny_setField_rec hz (by simp) fun g1 gz sb1 => ?_)))))
  have gz : IsZip g1 z TI TO .ellipsis := gz
  refine wpAny_bind ?_
  simp only [List.zipIdx_cons, List.zipIdx_nil, List.forIn_cons, List.forIn_nil]
  refine wpAny_bind (wpAny_bind (wpAny_onRaise ?_))
  change wpAny _ _ (Builtin.SmallTypes.nextOf (.ref i1) >>= _) _ _ _
  refine wpAny_bind (nextOfEnd_hot (x1 := x1) (HotAt.up hot fun o e => sb1.extBut _ _ (Ne.symm nz) e) n1 (h1.extBut sb1.extBut D.i1z) (hl.extBut sb1.extBut D.l1z) hx fun g2 e k2 he => ?_)
  obtain ⟨oe, ge, ce⟩ := he
  have gz2 : IsZip g2 z TI TO .ellipsis := k2 _ _ (Ne.symm D.i1z) gz
  have ez : e ≠ z := by
    rintro rfl
    rw [gz2] at ge
    cases ge
    simp at ce
  refine wpAny_setField_rec gz2 (by simp) fun g3 _ sb3 => ?_
  refine wpAny_bind (wpAny_isInstance (T := "StopIteration") (b := true) ⟨oe, sb3.extBut _ _ ez ge, ce⟩ isSubtype_stop (wpAny_pure (hQ g3 fun c o c1 c2 q => ?_)))
  exact sb3.extBut _ _ c1 (k2 _ _ c2 (sb1.extBut _ _ c1 q))
end
/-! ### [l for l, g in zip(a, b) if g], while an exception is handled -/
/-- a zip's own objects at turn i -/
structure ZSt (z TI TO i1 i2 a b : Addr) (i : Nat) (h : Heap) : Prop where
  hz : IsZip h z TI TO .none
  hI : IsPair h TI (.ref i1) (.ref i2)
  hO : ∃ x y, IsPair h TO x y
  h1 : h.IsListIter i1 a i
  h2 : h.IsListIter i2 b i
theorem mem5 {c z TI TO i1 i2 : Addr} (h : c ∈ [z, TI, TO, i1, i2]) : c = z ∨ c = TI ∨ c = TO ∨ c = i1 ∨ c = i2 := by simpa using h
theorem ZSt.lt {z TI TO i1 i2 a b : Addr} {i : Nat} {h : Heap} (S : ZSt z TI TO i1 i2 a b i h) : ∀ c ∈ [z, TI, TO, i1, i2], ∃ o, h.get? c = some o ∧ ∀ v, o.data ≠ .cell v := fun c hc => by
  obtain ⟨x, y, hO⟩ := S.hO
  obtain ⟨o1, e1, _, d1⟩ := S.h1
  obtain ⟨o2, e2, _, d2⟩ := S.h2
  rcases mem5 hc with q | q | q | q | q <;> subst q
  · exact ⟨_, S.hz, fun v q => nomatch q⟩
  · exact ⟨_, S.hI, fun v q => nomatch q⟩
  · exact ⟨_, hO, fun v q => nomatch q⟩
  · exact ⟨o1, e1, fun v q => by rw [d1] at q; cases q⟩
  · exact ⟨o2, e2, fun v q => by rw [d2] at q; cases q⟩
theorem ZSt.keep {z TI TO i1 i2 a b : Addr} {i : Nat} {h h' : Heap} (S : ZSt z TI TO i1 i2 a b i h) (k : ∀ c ∈ [z, TI, TO, i1, i2], ∀ o, h.get? c = some o → h'.get? c = some o) : ZSt z TI TO i1 i2 a b i h' := by
  obtain ⟨x, y, hO⟩ := S.hO
  exact ⟨k z (by simp) _ S.hz, k TI (by simp) _ S.hI, ⟨x, y, k TO (by simp) _ hO⟩, S.h1.at fun o q => k i1 (by simp) o q, S.h2.at fun o q => k i2 (by simp) o q⟩
section
variable {X : Cx} {pins : List (Addr × Obj)} {σ : DL.St} {H : Hp} {s : Shared} {p : Addr × Obj}
/-- the context bears the handled exception p -/
structure HotP (X : Cx) (p : Addr × Obj) : Prop where
  hot : Hot1 X.A p
  pn : p ∈ X.pn
theorem HotP.at {X : Cx} (c : HotP X p) (I : Inv X pins σ H s) : HotAt X.A p.1 s.heap := by
  obtain ⟨hd, fs, e, n⟩ := c.hot
  exact ⟨hd, p.2, fs, (I.pin p (List.mem_append_left _ c.pn)).1, e, n⟩
theorem z_item {E : Value → Shared → Prop} {elts : List Expr} {kk : Nat} {tp : Pos} {z TI TO i1 i2 a b : Addr} {i : Nat} {xs ys : List V} {x y : V} {Q : Unit → Shared → Prop} {R : Option Value → Shared → Prop} (D : ZipApart z TI TO i1 i2 a b) (I : Inv X pins σ H s) (S : ZSt z TI TO i1 i2 a b i s.heap)
    (hf : ∀ c ∈ [z, TI, TO, i1, i2], FpOk X pins H c) (ha : SqL X.K H a xs) (hb : SqL X.K H b ys) (hx : xs[i]? = some x) (hy : ys[i]? = some y)
    (hR : ∀ (T : Addr) (h' : Heap), wpAny (model X.prog X.w) X.A (letOwnedTupleGo (.Tuple elts kk tp) (.ref z) (.ref T)) (fun _ s2 => H T = none ∧ Inv X pins σ (upd H T (.tup [x, y])) s2 ∧ ZSt z TI TO i1 i2 a b (i + 1) s2.heap ∧ ∀ c ∈ [z, TI, TO, i1, i2], upd H T (.tup [x, y]) c = none) E { s with heap := h' } → R (some (.ref T)) { s with heap := h' }) :
    wpAny (model X.prog X.w) X.A (pyNext (.ref z)) R E s := by
  obtain ⟨x0, y0, hO⟩ := S.hO
  obtain ⟨us, ru, pa, _⟩ := I.list ha
  obtain ⟨ws, rw1, pb, _⟩ := I.list hb
  obtain ⟨u, hu, r1⟩ := ru.get hx
  obtain ⟨w', hw, r2⟩ := rw1.get hy
  have lt5 : ∀ c ∈ [z, TI, TO, i1, i2], c < s.heap.objs.size := fun c hc => by obtain ⟨o, e, _⟩ := S.lt c hc; exact Heap.lt_size e
  have zl := lt5 z (by simp)
  refine wpAny_pyNext_zip_item D S.hz S.hI hO S.h1 S.h2 pa.isList pb.isList (x := u) (y := w') (by simpa using hu) (by simpa using hw) fun h1 z1 O1 a1 b1 hT _ k1 => hR _ _ ?_
  refine wpAny_letOwnedTupleGo_zip (s := { s with heap := h1 }) z1 fun h2 z2 sb => ?_
  have keep : ∀ c o, c ∉ [z, TI, TO, i1, i2] → s.heap.get? c = some o → h2.get? c = some o := fun c o hc e => by
    have n : c ≠ z ∧ c ≠ TI ∧ c ≠ TO ∧ c ≠ i1 ∧ c ≠ i2 := by simpa using hc
    exact (sb.2 c n.1).trans (k1 c o n.1 n.2.2.1 n.2.2.2.1 n.2.2.2.2 e)
  have hT2 : h2.get? s.heap.objs.size = some { cls := .type "tuple", data := .seq #[u, w'] } := (sb.2 _ (Nat.ne_of_gt zl)).trans hT
  have new : ObjOk X.prog X.w (upd H s.heap.objs.size (.tup [x, y])) h2 s.heap.objs.size (.tup [x, y]) := ⟨by show 2 ≤ sizeLine; decide, [u, w'], .cons r1 (.cons r2 .nil), ⟨_, hT2, rfl, _, rfl⟩⟩
  refine ⟨I.hok.fresh (Nat.le_refl _), I.turnedNew (t' := s.toks) keep hf (Nat.le_refl _) new, ⟨z2, ?_, ⟨u, w', ?_⟩, ?_, ?_⟩, fun c hc => ?_⟩
  · exact (sb.2 _ D.TIz).trans (k1 _ _ D.TIz D.TITO D.TIi1 D.TIi2 S.hI)
  · exact (sb.2 _ D.TOz).trans O1
  · exact a1.at fun o q => (sb.2 _ D.i1z).trans q
  · exact b1.at fun o q => (sb.2 _ D.i2z).trans q
  · rw [upd_ne (Nat.ne_of_lt (lt5 c hc))]
    exact (hf c hc).1
theorem z_end {E : Value → Shared → Prop} {z TI TO i1 i2 a b : Addr} {i : Nat} {xs : List V} {R : Option Value → Shared → Prop} (hp : HotP X p) (D : ZipApart z TI TO i1 i2 a b) (I : Inv X pins σ H s) (S : ZSt z TI TO i1 i2 a b i s.heap)
    (hf : ∀ c ∈ [z, TI, TO, i1, i2], FpOk X pins H c) (ha : SqL X.K H a xs) (hx : xs.length ≤ i) (hR : ∀ h', Inv X pins σ H { s with heap := h' } → R none { s with heap := h' }) :
    wpAny (model X.prog X.w) X.A (pyNext (.ref z)) R E s := by
  obtain ⟨x0, y0, hO⟩ := S.hO
  obtain ⟨us, ru, pa, _⟩ := I.list ha
  have hl := ru.length
  have apart : ∀ c ∈ [z, TI, TO, i1, i2], c ≠ p.1 := fun c hc q => (hf c hc).2.2.2.2.2 p (List.mem_append_left _ hp.pn) q.symm
  refine zipEnd_hot (x1 := p.1) (hp.at I) (apart z (by simp)) (apart i1 (by simp)) D S.hz S.hI hO S.h1 pa.isList (by simp; omega) fun h' k => hR h' ?_
  refine I.turnedL (t' := s.toks) (ch := [z, TI, TO, i1, i2]) (fun c o hc e => ?_) hf
  have n : c ≠ z ∧ c ≠ TI ∧ c ≠ TO ∧ c ≠ i1 ∧ c ≠ i2 := by simpa using hc
  exact k c o n.1 n.2.2.2.1 e
/-- a pair into two names, while an exception is handled -/
theorem pair_hot {l g : Str} {il ig : Nat} {kk : Nat} {q1 q2 q3 : Pos} {T : Addr} {x y : V} {Q : Unit → Shared → Prop} {E : Value → Shared → Prop} (hp : HotP X p) (hN : X.N.Nodup) (h1 : X.N[il]? = some l) (h2 : X.N[ig]? = some g) (s1 : X.env.scope.names.lookup l = some .local) (s2 : X.env.scope.names.lookup g = some .local)
    (I : Inv X pins σ H s) (hT : H T = some (.tup [x, y])) (k : ∀ s', Inv X pins ((σ.set il (some x)).set ig (some y)) H s' → Q () s') (ea : (assignEach [.Name l q1, .Name g q2] X.env).map (·.2) = [assign (.Name l q1) X.env, assign (.Name g q2) X.env] := by rfl)
    (en : (assignEach [.Name l q1, .Name g q2] X.env).length = 2 := by rfl) (est : (assignEach [.Name l q1, .Name g q2] X.env).findIdx? (·.1) = none := by rfl) :
    wpAny (model X.prog X.w) X.A (assign (.Tuple [.Name l q1, .Name g q2] kk q3) X.env (.ref T)) Q E s := by
  obtain ⟨us, ru, ht, _⟩ := I.tuple (SqT.of hT)
  rw [assign_Tuple]
  refine wpAny_bind (wpAny_standAt ?_)
  unfold unpack
  have hsz : us.toArray.size = 2 := by rw [List.size_toArray, ← ru.length]; rfl
  rw [en, est, ea, ← hsz]
  refine wpAny_bind (wpAny_holding (unpackT_hot (hp.at I) ht fun h' hk => ?_))
  have I1 : Inv X pins σ H { s with heap := h' } := I.kept (t' := s.toks) hk
  cases ru with
  | cons r1 ru => cases ru with
    | cons r2 ru =>
      cases ru
      refine assignInOrder_cons (wpAny_assign_Name (store_ok I1 hN h1 (.inl s1) r1 (fun s' I2 => ?_) (.inr s1)))
      exact assignInOrder_cons (wpAny_assign_Name (store_ok I2 hN h2 (.inl s2) r2 (fun s'' I3 => assignInOrder_nil (k s'' I3)) (.inr s2)))
end
end DL
set_option Elab.async false
set_option linter.all false
set_option maxRecDepth 100000
/-! DLp: a comprehension over a zip of two lists, while an exception is handled. -/
namespace DL
open PySem PySem.Spec PyProof.Rows L2 HotX L2H
/-- what the marks let through -/
def sel : List V → List Bool → List V
  | x :: xs, b :: bs => if b then x :: sel xs bs else sel xs bs
  | _, _ => []
theorem sel_snoc : ∀ (xs : List V) (bs : List Bool) (i : Nat) (x : V) (b : Bool), xs[i]? = some x → bs[i]? = some b → sel (xs.take (i + 1)) (bs.take (i + 1)) = sel (xs.take i) (bs.take i) ++ (if b then [x] else [])
  | [], _, i, x, b, h, _ => by simp at h
  | _ :: _, [], i, x, b, _, h => by simp at h
  | y :: xs, c :: bs, 0, x, b, h, h' => by
    simp at h h'
    subst h h'
    cases c <;> simp [sel]
  | y :: xs, c :: bs, i + 1, x, b, h, h' => by
    have ih := sel_snoc xs bs i x b (by simpa using h) (by simpa using h')
    simp only [List.take_succ_cons, sel]
    rw [ih]
    cases c <;> simp
section
variable {X : Cx} {pins : List (Addr × Obj)} {σ : DL.St} {H H1 : Hp} {s : Shared} {p : Addr × Obj}
/-- the block's context, the handled exception pinned -/
abbrev blkH (X : Cx) (p : Addr × Obj) (s : Shared) (H : Hp) (scope : Scope) (cenv : PySem.Env) (fp : List Addr) : Cx := { X.blk s H scope cenv fp with pn := [p] }
theorem inv_blkH {scope : Scope} {cenv : PySem.Env} {fp : List Addr} {s0 : Shared} {H0 : Hp} (I : Inv (X.blk s0 H0 scope cenv fp) [] σ H s) (h : s.heap.get? p.1 = some p.2 ∧ H p.1 = none ∧ p.1 ≠ cenv.locals ∧ p.1 ∉ L2.frs X.stack ∧ ∀ v, p.2.data ≠ .cell v) : Inv (blkH X p s0 H0 scope cenv fp) [] σ H s := by
  obtain ⟨o1, o2, o3, o4, o5, o6, o7, o8, o9, o10, o11, o12, o13, o14, o15, o16, o17, o18⟩ := I.ok
  refine ⟨⟨o1, o2, o3, o4, o5, o6, o7, o8, o9, o10, o11, o12, o13, o14, o15, o16, o17, o18⟩, I.os, I.bare, I.base, I.loc, I.cell, I.free, I.freeC, fun q hq => ?_, I.hok, I.len⟩
  have e : q = p := by simpa using hq
  subst e
  exact h
theorem lcZip_hot {l g : Str} {il ig : Nat} {kk : Nat} {q1 q2 q3 q4 q5 qz qc pos : Pos} {e1 e2 : Expr} {scope : Scope} {ta : TA} {Q : VK} (hp : HotP X p) (hN : X.N.Nodup) (ok : BlkOk X.N X.env.scope scope [(l, il), (g, ig)])
    (hl : (relS scope X.env.scope).names.lookup l = some .local) (hg : (relS scope X.env.scope).names.lookup g = some .local) (hne : l ≠ g) (hd1 : (l == ("__debug__" : Str)) = false) (hd2 : (l == ("__classdict__" : Str)) = false) (hd3 : (g == ("__debug__" : Str)) = false) (hd4 : (g == ("__classdict__" : Str)) = false)
    (hgz : Gl X "zip") (hmz : X.mg "zip" = none) (ha : PA X [e1, e2] ta) (I : Inv X pins σ H s)
    (hs : starEach [e1, e2] X.env = (false, eval e1 X.env) :: starEach [e2] X.env) (hpl : (backTo qc (starEach [e2] X.env)).any (·.1) = false)
    (h : ta σ H fun vs H1 => ∃ a b xs bs, vs = [.ref a, .ref b] ∧ SqL X.K H1 a xs ∧ SqL X.K H1 b (bs.map V.bl) ∧ xs.length = bs.length ∧
      ∀ D Hn, H1 D = none → Hn D = some (.lst (sel xs bs)) → (∀ c o, H1 c = some o → Hn c = some o) → Q (.ref D) Hn) :
    wpAny (model X.prog X.w) X.A (eval (.ListComp (.Name l q1) [⟨.Tuple [.Name l q2, .Name g q3] kk q4, .Call (.Name "zip" qz) [e1, e2] [] qc, [.Name g q5], 0⟩] scope pos) X.env) (EP X pins σ Q) X.xe s := by
  rw [eval_ListComp]
  have hfree : ∀ y ∈ scope.names, y.2 = .free → ∃ c, X.env.cells.lookup y.1 = some c := fun y hy e => (ok.free y hy e).elim (fun k => I.ok.has _ (.inl k)) fun k => I.ok.has _ (.inr k)
  refine wpAny_comprehension_free (use := none) rfl (by intro _; rfl) (closure_ok hfree) ok.kind (fun y hy e => by rw [ok.uniq y hy, e]) ?_
  refine Call_ (ld_blt I hgz hmz PyProof.Rows.boot_zip (PyProof.Rows.callWith_type1 (thn (ha.run qc pins s σ H _ I h) fun us s1 ⟨vs, H1, I1, r1, hq⟩ => ?_) hs hpl))
  obtain ⟨a, b, xs, bs, ev, hqa, hqb, hlen, hend⟩ := hq
  subst ev
  have eu : us = [Value.ref a, Value.ref b] := by
    cases r1 with
    | cons r r1 => cases r1 with
      | cons r' r1 =>
        cases r1
        cases r
        cases r'
        rfl
  subst eu
  obtain ⟨us1, ru, pa, za⟩ := I1.list hqa
  obtain ⟨us2, rw1, pb, _⟩ := I1.list hqb
  refine call_zip_2 pa.isList pb.isList fun h1 hz hI hO st1 st2 _ hk => wpAny_pyIter_zip hz ?_
  refine wpAny_newObj_type (newEnv_comp ?_) (by show 0 ≤ sizeLine; decide)
  -- the objects
  have I2 : Inv X pins σ H1 { s1 with heap := h1 } := I1.kept (t' := s1.toks) hk
  generalize hn : s1.heap.objs.size = n at *
  have D : ZipApart (n + 4) (n + 2) (n + 3) n (n + 1) a b := by rw [← hn]; exact PySem.W.ktu_apart s1.heap.objs.size a b pa.lt pb.lt
  have S0 : ZSt (n + 4) (n + 2) (n + 3) n (n + 1) a b 0 h1 := ⟨hz, hI, ⟨_, _, hO⟩, st1, st2⟩
  generalize hfp : [n + 4, n + 2, n + 3, n, n + 1] = fp at *
  have old : ∀ c ∈ fp, n ≤ c := fun c hc => by
    rw [← hfp] at hc
    rcases mem5 hc with q | q | q | q | q <;> rw [q] <;> omega
  have free1 : ∀ c ∈ fp, FpOk X pins H1 c := fun c hc => I1.fpOk (by rw [hn]; exact old c hc) (I1.hok.fresh (by rw [hn]; exact old c hc))
  have lt1 : ∀ c ∈ fp, c < h1.objs.size := fun c hc => by
    obtain ⟨o, e, _⟩ := S0.lt c (by rw [hfp]; exact hc)
    exact Heap.lt_size e
  -- the new list
  generalize hD : h1.objs.size = Dn
  have nD : H1 Dn = none := I2.hok.fresh (Nat.le_of_eq hD)
  generalize hh2 : h1.push { cls := .type "list", data := .seq ([] : List Value).toArray } = h2
  have I3 : Inv X pins σ (upd H1 Dn (.lst [])) { s1 with heap := h2 } := by
    rw [← hh2]
    refine I2.laid (t' := s1.toks) (fun c o e => Heap.get?_push_of_some _ e) (Nat.le_of_eq hD) ⟨Nat.zero_le _, [], 0, .nil, ?_⟩
    rw [← hD]
    exact Heap.get?_push_size _ rfl
  have sz2 : h2.objs.size = Dn + 1 := by rw [← hh2, Heap.size_push, hD]
  have f3 : ∀ c ∈ fp, FpOk X pins (upd H1 Dn (.lst [])) c ∧ c < h2.objs.size := fun c hc => by
    have l := lt1 c hc
    rw [hD] at l
    exact ⟨⟨by rw [upd_ne (Nat.ne_of_lt l)]; exact (free1 c hc).1, (free1 c hc).2⟩, by rw [sz2]; exact Nat.lt_succ_of_lt l⟩
  have S2 : ZSt (n + 4) (n + 2) (n + 3) n (n + 1) a b 0 h2 := S0.keep fun c _ o e => by rw [← hh2]; exact Heap.get?_push_of_some _ e
  have I4 := block_start I3 ok hN f3
  -- the block
  have I5 := inv_blkH (p := p) I4 (by
    obtain ⟨pg, p0, pl, pf, pd⟩ := I3.pin p (List.mem_append_left _ hp.pn)
    refine ⟨pushCells_keeps _ _ _ _ (Heap.get?_push_of_some _ pg), p0, Nat.ne_of_lt (Heap.lt_size pg), fun z => ?_, pd⟩
    exact (List.mem_cons.mp (I3.stkSub p.1 z)).elim pl pf)
  generalize hce : compEnvC scope (cellsFrom (h2.objs.size + 1) scope.names (cloFrom X.env.cells scope.names [])) h2.objs.size X.env = ce at I5
  generalize hs3 : ({ s1 with heap := h2 } : Shared) = s3 at *
  have eh2 : s3.heap = h2 := by rw [← hs3]
  generalize hH3 : upd H1 Dn (.lst []) = H3 at *
  have hpb : HotP (blkH X p s3 H3 scope ce fp) p := ⟨hp.hot, List.mem_singleton.mpr rfl⟩
  generalize hs4 : ({ s3 with heap := pushCells (s3.heap.push { cls := .type "dict", data := .dict #[] }) scope.names } : Shared) = s4 at *
  have S4 : ZSt (n + 4) (n + 2) (n + 3) n (n + 1) a b 0 s4.heap := S2.keep fun c _ o e => by rw [← hs4, eh2]; exact pushCells_keeps _ _ _ _ (Heap.get?_push_of_some _ e)
  have cL : ce.locals = h2.objs.size := by rw [← hce]; rfl
  have cS : ce.scope = relS scope X.env.scope := by rw [← hce]; rfl
  have stat : ∀ {σ' : DL.St} {H' : Hp} {s' : Shared}, Inv (blkH X p s3 H3 scope ce fp) [] σ' H' s' → (∀ c ∈ fp, H' c = none) → ∀ c ∈ fp, FpOk (blkH X p s3 H3 scope ce fp) [] H' c := fun {σ' H' s'} J nn c hc => by
    refine ⟨nn c hc, (J.ok.exf c hc).1, J.ok.exfs c hc, .inl hc, (J.ok.exf c hc).2, fun q hq => ?_⟩
    have e : q = p := by simpa using hq
    subst e
    exact (f3 c hc).1.2.2.2.2.2 q (List.mem_append_left _ hp.pn)
  show codeAny (model X.prog X.w) X.A (.compStart (.ListComp (.Name l q1) [⟨.Tuple [.Name l q2, .Name g q3] kk q4, .Call (.Name "zip" qz) [e1, e2] [] qc, [.Name g q5], 0⟩] scope pos) 0 (.ref (n + 4)) (.ref Dn) (compEnvC scope (cellsFrom (s3.heap.objs.size + 1) scope.names (cloFrom X.env.cells scope.names [])) s3.heap.objs.size X.env)) (compPost (model X.prog X.w) X.A X.xe none (EP X pins σ Q) (.ref Dn) s3.heap.objs.size) s4
  rw [eh2, hce]
  suffices loop : codeAny (model X.prog X.w) X.A (.compLoop (.ListComp (.Name l q1) [⟨.Tuple [.Name l q2, .Name g q3] kk q4, .Call (.Name "zip" qz) [e1, e2] [] qc, [.Name g q5], 0⟩] scope pos) 0 (.ref (n + 4)) (.ref Dn) ce) (compPost (model X.prog X.w) X.A X.xe none (EP X pins σ Q) (.ref Dn) h2.objs.size) s4 from codeAny_compStart_list loop (wpAny_pyIter_zip S4.hz loop)
  refine compLoop_any (fun m s' => ∃ i H', Inv (blkH X p s3 H3 scope ce fp) [] (wipe σ [il, ig]) H' s' ∧ ZSt (n + 4) (n + 2) (n + 3) n (n + 1) a b i s'.heap ∧ (∀ c ∈ fp, H' c = none) ∧ m = xs.length - i ∧ i ≤ xs.length ∧ H' Dn = some (.lst (sel (xs.take i) (bs.take i))) ∧ ∀ c o, H1 c = some o → H' c = some o) ?_ xs.length ⟨0, H3, I5, S4, fun c hc => (f3 c hc).1.1, rfl, Nat.zero_le _, by rw [← hH3, upd_same]; rfl, fun c o e => by rw [← hH3]; exact up_new nD c o e⟩
  rintro m s5 ⟨i, H5, J, S5, n5, em, hi, hDn, ext⟩
  have rd : ∀ {u : HO} {c : Addr}, Rd H1 c u → Rd H5 c u := fun z => z.elim (fun z => .inl (ext _ _ z)) fun ⟨o, z⟩ => .inr ⟨o, ext _ _ z⟩
  have hqa5 : SqL X.K H5 a xs := hqa.imp rd id
  have hqb5 : SqL X.K H5 b (bs.map V.bl) := hqb.imp rd id
  have f5 := stat J n5
  have XN : X.N.Nodup := hN
  have il1 : X.N[il]? = some l := ok.ix (l, il) (by simp)
  have ig1 : X.N[ig]? = some g := ok.ix (g, ig) (by simp)
  have hlen2 : il < σ.length ∧ ig < σ.length := by
    rw [I.len]
    exact ⟨(List.getElem?_eq_some_iff.mp il1).1, (List.getElem?_eq_some_iff.mp ig1).1⟩
  have nij : il ≠ ig := fun z => by
    rw [z, ig1] at il1
    exact hne (Option.some.inj il1).symm
  by_cases hlt : i < xs.length
  · have hx : xs[i]? = some xs[i] := List.getElem?_eq_getElem hlt
    have hltb : i < bs.length := by omega
    have hb : bs[i]? = some bs[i] := List.getElem?_eq_getElem hltb
    have hy : (bs.map V.bl)[i]? = some (.bl bs[i]) := by rw [List.getElem?_map, hb]; rfl
    have zl : (sel (xs.take i) (bs.take i)).length < sizeLine := by
      have sl : ∀ (ys : List V) (cs : List Bool), (sel ys cs).length ≤ ys.length := by
        intro ys
        induction ys with
        | nil => intro cs; cases cs <;> simp [sel]
        | cons y ys ih =>
          intro cs
          cases cs with
          | nil => simp [sel]
          | cons c cs => cases c <;> simp [sel] <;> have := ih cs <;> omega
      have := sl (xs.take i) (bs.take i)
      rw [List.length_take] at this
      omega
    refine z_item (X := blkH X p s3 H3 scope ce fp) (pins := []) (Q := fun _ _ => True) (elts := [.Name l q2, .Name g q3]) (kk := kk) (tp := q4) D J S5 (by rw [hfp]; exact f5) hqa5 hqb5 hx hy fun T h' go => ?_
    refine thn go fun _ s6 ⟨nT, J6, S6, n6⟩ => ?_
    rw [hfp] at n6
    have J7 := J6.pinned (fp := fp) (stat J6 n6) (fun c hc => S6.lt c (by rw [hfp]; exact hc))
    have hDn6 : upd H5 T (.tup [xs[i], .bl bs[i]]) Dn = some (.lst (sel (xs.take i) (bs.take i))) := up_new nT _ _ hDn
    have nTD : Dn ≠ T := ne_of_none hDn nT
    have extT : ∀ c o, H1 c = some o → upd H5 T (.tup [xs[i], .bl bs[i]]) c = some o := fun c o e => up_new nT _ _ (ext c o e)
    have back : ∀ {s' : Shared} {H' : Hp}, Inv (blkH X p s3 H3 scope ce fp) ([] ++ pinsAt fp s6.heap) (((wipe σ [il, ig]).set il (some xs[i])).set ig (some (.bl bs[i]))) H' s' → H' Dn = some (.lst (sel (xs.take (i + 1)) (bs.take (i + 1)))) → (∀ c o, H1 c = some o → H' c = some o) →
        ∃ m', m' < m ∧ ∃ i H', Inv (blkH X p s3 H3 scope ce fp) [] (wipe σ [il, ig]) H' s' ∧ ZSt (n + 4) (n + 2) (n + 3) n (n + 1) a b i s'.heap ∧ (∀ c ∈ fp, H' c = none) ∧ m' = xs.length - i ∧ i ≤ xs.length ∧ H' Dn = some (.lst (sel (xs.take i) (bs.take i))) ∧ ∀ c o, H1 c = some o → H' c = some o := fun {s' H'} J' hd' ex' => by
      have pinc : ∀ c ∈ fp, ∀ o, s6.heap.get? c = some o → s'.heap.get? c = some o ∧ H' c = none := fun c hc o e =>
        have z := J'.pin (c, o) (List.mem_append_right _ (List.mem_append_right _ (mem_pinsAt hc e)))
        ⟨z.1, z.2.1⟩
      refine ⟨xs.length - (i + 1), by omega, i + 1, H', (J'.unpinned (pins := [])).weak (by simp) (fun j v e => ?_), S6.keep fun c hc o e => (pinc c (by rw [← hfp]; exact hc) o e).1, fun c hc => ?_, rfl, hlt, hd', ex'⟩
      · obtain ⟨_, nj⟩ := wipe_some e
        have n1 : il ≠ j := fun z => nj (by rw [← z]; simp)
        have n2 : ig ≠ j := fun z => nj (by rw [← z]; simp)
        rw [List.getElem?_set_ne n2, List.getElem?_set_ne n1]
        exact e
      · obtain ⟨o, e, _⟩ := S6.lt c (by rw [hfp]; exact hc)
        exact (pinc c hc o e).2
    have vl : (blkH X p s3 H3 scope ce fp).env.scope.names.lookup l = some .local := by show ce.scope.names.lookup l = _; rw [cS]; exact hl
    have vg : (blkH X p s3 H3 scope ce fp).env.scope.names.lookup g = some .local := by show ce.scope.names.lookup g = _; rw [cS]; exact hg
    refine pair_hot (X := blkH X p s3 H3 scope ce fp) hpb hN il1 ig1 vl vg J7 upd_same fun s7 J8 => ?_
    have sg : (((wipe σ [il, ig]).set il (some xs[i])).set ig (some (.bl bs[i])))[ig]? = some (some (.bl bs[i])) := List.getElem?_set_self (by rw [List.length_set, wipe_length]; exact hlen2.2)
    have sl : (((wipe σ [il, ig]).set il (some xs[i])).set ig (some (.bl bs[i])))[il]? = some (some xs[i]) := by
      rw [List.getElem?_set_ne (Ne.symm nij)]
      exact List.getElem?_set_self (by rw [wipe_length]; exact hlen2.1)
    refine thnF ((pts_one (pt_val (pe_var (X := blkH X p s3 H3 scope ce fp) (i := ig) ig1 (.inl vg) hd3 hd4))).run _ s7 _ _ (fun bb H' => bb = bs[i] ∧ H' = upd H5 T (.tup [xs[i], .bl bs[i]])) J8 ⟨_, sg, _, rfl, rfl, rfl⟩) fun bb s8 ⟨H8, J9, eb, eH⟩ => ?_
    subst eb eH
    cases hbb : bs[i] with
    | false =>
      simp only [Bool.false_eq_true, if_false]
      exact back J9 (by rw [sel_snoc xs bs i _ _ hx hb, if_neg (by rw [hbb]; exact Bool.false_ne_true), List.append_nil]; exact hDn6) extT
    | true =>
      simp only [if_true]
      refine thnF ((pe_var (X := blkH X p s3 H3 scope ce fp) (i := il) il1 (.inl vl) hd1 hd2).run _ s8 _ _ (fun v H' => v = xs[i] ∧ H' = upd H5 T (.tup [xs[i], .bl bs[i]])) J9 ⟨_, sl, rfl, rfl⟩) fun z s9 ⟨yv, H9, J10, r10, ey, eH⟩ => ?_
      subst ey eH
      exact app_ok (X := blkH X p s3 H3 scope ce fp) J10 hDn6 zl r10 fun s10 J11 => back J11 (by rw [upd_same, sel_snoc xs bs i _ _ hx hb, if_pos hbb]) fun c o e => by
        rw [upd_ne (fun z => by rw [z, nD] at e; cases e)]
        exact extT c o e
  · have ei : i = xs.length := by omega
    refine z_end (X := blkH X p s3 H3 scope ce fp) hpb D J S5 (by rw [hfp]; exact f5) hqa5 (by omega) fun h' J6 => ?_
    have I7 : Inv X pins σ H5 _ := I3.call' (ch := fp) J6.os J6.base J6.hok J6.bare fun c hc => ⟨(f3 c hc).1.2.2.2.1, (f3 c hc).1.2.1, (f3 c hc).1.2.2.2.2.1, (f3 c hc).1.2.2.2.2.2⟩
    have nC : H5 s3.heap.objs.size = none := by
      have z : H5 ce.locals = none := J6.free
      rw [cL, ← eh2] at z
      exact z
    obtain ⟨mm, hnn, _⟩ := J6.loc
    have hnn : Heap.Ns h' ce.locals mm := hnn
    rw [cL] at hnn
    obtain ⟨_, f1, f2, f4, f5', f6⟩ := I3.fpOk (Nat.le_refl _) nC
    rw [eh2] at f1 f2 f4 f5' f6 nC
    refine ⟨mm, hnn, fun h'' sb => ⟨.ref Dn, H5, I7.turned (it := h2.objs.size) (t' := s5.toks) (fun c o hc e => (sb.2 c hc).trans e) nC f1 f4 f5' f6, rfl, hend Dn H5 nD ?_ ext⟩⟩
    rw [ei, List.take_length, show bs.take xs.length = bs by rw [hlen]; exact List.take_length] at hDn
    exact hDn
end
end DL
set_option Elab.async false
set_option linter.all false
set_option maxRecDepth 100000
/-! DLq: a def called within an except suite, that asks what the caught exception is. -/
namespace DL
open PySem PySem.Spec PyProof.Rows L2 HotX L2H
/-- such a def run at this very state, its body in the context that bears the exception p -/
theorem run_hot {CX : CXT} {P : Program} {w : World} {K : PySem.W.Frag} {mg : Str → Option Value} {base : Heap} {k : Nat} {f : Addr} {fd : FuncData} {x qual : Str} {params : Arguments} {body : List Stmt} {scope : Scope} {N ps : List Str} (FD : FunD K x qual params body scope [] [] f fd) (S : FnScope N ps scope)
    {A : Around} {outer : List PySem.Env} {s : Shared} {H : Hp} {us : List Value} {vs : List V} {Q : VK} {E : XK} {p : Addr × Obj} (hr : RoomH (k + 1) A) (hpin : PinOk outer H s p) (e0 : Env0 P w K mg base A outer s H)
    (hb : BindsTo s fd ⟨us, []⟩ (ps.zip us)) (r : Vals vs us) (hl : vs.length = ps.length)
    (hbody : ∀ cdv, RoomH k (A.deeper (envOfC qual scope s.heap.objs.size f cdv)) → uSs (cxH CX P w K mg base N qual scope f cdv A outer s H E p) body { nx := fun _ H' => Q .non H', rt := Q } (L2.start N vs) H) :
    codeAny (model P w) A (.call (.ref f) ⟨us, []⟩) (L2.CR CX outer P w H s Q E) s := by
  obtain ⟨oc, od, dV, kV, doc, pm, an, cdv, ct, osl, rfl, lk, hcd, _, _⟩ := FD.ex
  have inK : K.In s.heap := e0.mod.kin.keeps fun b o e => (e0.bs b o e).1
  have kinds : ∀ y ∈ ps.zip us, scope.names.lookup y.1 = some .local ∨ (scope.names.lookup y.1 = some .cell ∧ ((cellsFrom (s.heap.objs.size + 1) scope.names []).lookup y.1).isSome = true) := fun y hy => by
    refine (S.par y.1 (List.of_mem_zip (b := y.2) hy).1).imp id fun q => ⟨q, PySem.W.cellsFrom_some _ _ _ (.inl q)⟩
  refine codeAny_call_function hr.depth (inK _ _ lk) rfl S.co S.gen rfl (PySem.W.codeRec_of inK hcd) (hb _ _ _ _ (wpAny_newFunctionEnv_cells S.kind kinds fun env he s1 q => ?_))
  subst he
  refine ⟨(e0.mod.nolimit.keeps fun b o e => (e0.bs b o e).1).keeps q.toInCall.keep, codeAny_func ?_⟩
  have J : Inv (cxH CX P w K mg base N qual scope f cdv A outer s H E p) [] (L2.start N vs) H s1 := inv_startH S hpin e0 hl r q
  refine wpAny_mono (hbody cdv (hr.deeper _) [] s1 J) (fun fl s' h => ?_) fun e s' h => h
  cases fl with
  | ret u => obtain ⟨v, σ', H', I', rv, k⟩ := h; exact ⟨v, H', I'.os, I'.bare, I'.base, I'.hok, rv, k⟩
  | next => obtain ⟨σ', H', I', k⟩ := h; exact ⟨.non, H', I'.os, I'.bare, I'.base, I'.hok, rfl, k⟩
  | brk => obtain ⟨_, _, _, k⟩ := h; exact k.elim
  | cont => obtain ⟨_, _, _, k⟩ := h; exact k.elim
/-- the context of such a body over data -/
abbrev ctH (P : Program) (w : World) (K : PySem.W.Frag) (mg : Str → Option Value) (base : Heap) (T : List (Addr × Str)) (N : List Str) (qual : Str) (scope : Scope) (f : Addr) (cdv : Value) (A : Around) (outer : List PySem.Env) (s : Shared) (H : Hp) (E : XK) (p : Addr × Obj) (W0 M0 : AS) : Ct :=
  ⟨cxH (L2N.CX P w) P w K mg base N qual scope f cdv A outer s H E p, T, W0, M0, H, fun _ _ => False⟩
section
variable {Z : Ct} {ρ ρ1 ρ2 : Env} {Φ : Rv → Env → Prop} {M M1 : AS} {σ σ1 : DL.St} {H H1 H2 : Hp} {r : Rv} {e : Expr} {es : List Expr} {pos : Pos} {p : Addr × Obj}
/-- isinstance(e, C), e the exception p -/
theorem cd_isE {D : Addr} {c : V} {cv : Value} {b : Bool} (hp : HotP Z.X p) (C : ExcC Z.X.K D) (hz : Zc (.ref D) none p.2) (hc : ∀ u, RelV c u → u = cv) (hk : PySem.W.kitOne Z.X.K (.ref D) cv = some b) (k : Φ (.dat (.bool b)) ρ2) : CallD Z (.builtin "isinstance") [.raw (.ref p.1), .raw c] ρ2 Φ :=
  fun M M2 ρ σ H H2 vs pr t pins s us I rv => by
    have q := t.pd
    cases q with
    | cons h1 q => cases q with
      | cons h2 q =>
        cases q
        cases (show _ = V.ref p.1 from h1)
        cases (show _ = c from h2)
        cases rv with
        | cons rx rv => cases rv with
          | cons ry rv =>
            cases rv
            cases rx
            have ec := hc _ ry
            subst ec
            obtain ⟨_, fs, dt, _⟩ := hp.hot
            have gp := (I.pin p (List.mem_append_left _ hp.pn)).1
            have J : PySem.W.InstAt s.heap p.1 p.2 D none := by
              obtain ⟨a, ⟨oc, od, oda, osl⟩⟩ := p
              obtain ⟨z1, z2⟩ := hz
              dsimp only at z1 z2 dt gp
              subst z1 z2 dt
              exact ⟨gp, rfl, rfl, trivial⟩
            exact PySem.W.kia_one (PySem.W.handS_kitx_exc C.hg C.hk C.hs C.hd C.ha C.hn C.ht C.hm) I.kIn J hk (fun z => nomatch z) fun tk => ⟨.bl b, H2, I.kept (t' := tk) fun _ _ z => z, rfl, t.endO.post k (.bl _)⟩
/-- the call of such a def, from a context that bears p -/
theorem de_callHot {x : Str} {k : Nat} {F : FS} {p1 : Pos} {f : Addr} {fd : FuncData} {qual : Str} {params : Arguments} {body : List Stmt} {scope : Scope} {N ps : List Str} (FD : FunD Z.X.K x qual params body scope [] [] f fd) (S : FnScope N ps scope) (hb : Binds Z.X.K fd ps []) (hm : Z.X.mg x = some (.ref f)) (mono : MonoF F) (hr : RoomH (k + 1) Z.X.A) (hp : HotP Z.X p)
    (hz : L2N.Takes Z.X (wz Z)) (len : ∀ cs kk ee, F cs kk ee → cs.length = ps.length)
    (hbody : ∀ (cdv : Value) (A : Around) (outer : List PySem.Env) (s : Shared) (H : Hp) (E : XK) (W0 M0 : AS) (cs : List C) (kk : Rv → List C → Prop) (ee : Value → List C → Prop), F cs kk ee → RoomH k A → Hot1 A p →
      DSs (ctH Z.X.prog Z.X.w Z.X.K Z.X.mg Z.X.base Z.T N qual scope f cdv A outer s H E p W0 M0) body (ent N.length cs) (bodyE cs kk))
    (h : DA Z (e :: es) ρ fun rs ρ' => CallF Z F rs ρ' Φ) (hg : Gl Z.X x := by rfl)
    (hdb : (x == ("__debug__" : Str)) = false := by decide) (he : starEach (e :: es) Z.X.env = (false, eval e Z.X.env) :: starEach es Z.X.env := by rfl) (hpl : (backTo pos (starEach es Z.X.env)).any (·.1) = false := by rfl) : DE Z (.Call (.Name x p1) (e :: es) [] pos) ρ Φ := fun M σ H pr pins s I => by
  refine wpAny_Call_Name_kw (ld_glob I hg hm ?_ hdb)
  refine PySem.W.callWith_K (h₀ := Z.X.base) I.ok.mod.kin FD.kp (thn (h M σ H pr pos pins s I) fun us s1 ⟨vs, H1, I1, rv, rs, ρ1, M1, k1, o⟩ => ⟨I1.kIn, ?_⟩) he hpl
  have sp := sp_of mono pr o k1
  obtain ⟨cs, M', S0, hf⟩ := sp
  have hl0 := S0.len
  rw [List.length_map, List.length_map] at hl0
  have hl : vs.length = ps.length := by rw [← hl0]; exact len _ _ _ hf
  have bt := hb s1 us I1.kIn (by rw [List.append_nil, ← rv.length]; exact hl)
  rw [List.append_nil] at bt
  obtain ⟨g1, g2, g3, g4, g5⟩ := I1.pin p (List.mem_append_left _ hp.pn)
  have hpin : PinOk Z.X.stack H1 s1 p := ⟨g1, g2, fun z => (List.mem_cons.mp (I1.stkSub p.1 z)).elim g3 g4, g5⟩
  have rc := run_hot (CX := L2N.CX Z.X.prog Z.X.w) (E := WE (wz Z) σ) (Q := Post Z M ρ σ H Φ) (k := k) FD S hr hpin I1.env0 bt rv hl fun cdv hr' => by
    obtain ⟨hd, fs, e1, e2⟩ := hp.hot
    exact body_core (Z := ctH Z.X.prog Z.X.w Z.X.K Z.X.mg Z.X.base Z.T N qual scope f cdv Z.X.A Z.X.stack s1 H1 (WE (wz Z) σ) p (Mo (up cs)) M') rfl rfl rfl rfl rfl S0 (hbody cdv _ _ _ _ _ _ _ cs _ _ hf (hr.mono (Nat.le_succ _)) ⟨hd, fs, e1, e2⟩)
  refine wpAny_call (codeAny_mono rc fun r s2 hq => ?_)
  cases r with
  | error e => exact L2N.passAt hz σ pins H1 s1 e s2 I1 hq
  | ok fl =>
    cases fl with
    | ret u => exact I1.after hq
    | next => exact False.elim hq
    | brk => exact False.elim hq
    | cont => exact False.elim hq
/-- [l for l, g in zip(a, b) if g] over data -/
def selD : List D → List Bool → List D
  | x :: xs, b :: bs => if b then x :: selD xs bs else selD xs bs
  | _, _ => []
theorem RpA.sel {K : PySem.W.Frag} : ∀ {xs : List V} {ds : List D} (bs : List Bool), RpA K M H xs ds → RpA K M H (DL.sel xs bs) (selD ds bs)
  | _, _, bs, .nil => by cases bs <;> exact .nil
  | _, _, [], .cons _ _ => .nil
  | _, _, b :: bs, .cons h g => by
    cases b
    · exact RpA.sel bs g
    · exact .cons h (RpA.sel bs g)
theorem de_lcZipH {l g : Str} {kk : Nat} {q1 q2 q3 q4 q5 qz qc : Pos} {e1 e2 : Expr} {scope : Scope} (il ig : Nat) (hp : HotP Z.X p) (hmz : Z.X.mg "zip" = none)
    (h : DA Z [e1, e2] ρ fun rs ρ1 => ∃ r1 r2 ls bs, rs = [r1, r2] ∧ vw ρ1 r1 = some (.list ls) ∧ vw ρ1 r2 = some (.list (bs.map PyData.bool)) ∧ ls.length = bs.length ∧ Φ (.frs (.lst (selD ls bs))) ρ1)
    (ok : BlkOk Z.X.N Z.X.env.scope scope [(l, il), (g, ig)]) (hl : (relS scope Z.X.env.scope).names.lookup l = some .local := by rfl) (hg : (relS scope Z.X.env.scope).names.lookup g = some .local := by rfl) (hN : Z.X.N.Nodup := by assumption) (hne : l ≠ g := by decide)
    (hd1 : (l == ("__debug__" : Str)) = false := by decide) (hd2 : (l == ("__classdict__" : Str)) = false := by decide) (hd3 : (g == ("__debug__" : Str)) = false := by decide) (hd4 : (g == ("__classdict__" : Str)) = false := by decide)
    (hgz : Gl Z.X "zip" := by rfl) (hs : starEach [e1, e2] Z.X.env = (false, eval e1 Z.X.env) :: starEach [e2] Z.X.env := by rfl) (hpl : (backTo qc (starEach [e2] Z.X.env)).any (·.1) = false := by rfl) :
    DE Z (.ListComp (.Name l q1) [⟨.Tuple [.Name l q2, .Name g q3] kk q4, .Call (.Name "zip" qz) [e1, e2] [] qc, [.Name g q5], 0⟩] scope pos) ρ Φ := fun M σ H pr pins s I =>
  lcZip_hot hp hN ok hl hg hne hd1 hd2 hd3 hd4 hgz hmz (pa_u Z.X [e1, e2]) I hs hpl ((h M σ H pr).mono fun vs H1 ⟨rs, ρ1, M1, ⟨r1, r2, ls, bs, er, v1, v2, hlen, k⟩, o⟩ => by
    subst er
    obtain ⟨v, u, rfl, w1, w2⟩ := o.two v1 v2
    obtain ⟨a, xs, rfl, ha, ga⟩ := w1.list
    obtain ⟨b, ys, rfl, hb, gb⟩ := w2.list
    cases gb.bools
    refine ⟨a, b, xs, bs, rfl, ha, hb, by rw [ga.length]; exact hlen, fun D Hn nD hD ext => ?_⟩
    obtain ⟨n1, n2, n3⟩ := o.endO.back nD
    refine ⟨.frs (.lst (selD ls bs)), ρ1, fun c => M1 c ∨ c = D, k, o.sim, o.kp.trans fun c u _ e => .inl (ext c u e), fun c z => .inl (o.more c z), fun c z => ?_, o.st.laid ext (fun c z => ?_) fun c z => .inl z, D, rfl, .inr rfl, n2, sel xs bs, hD, ?_⟩
    · rcases z with z | z
      · exact o.new c z
      · subst z; exact .inr n1
    · rcases z with z | z
      · exact .inl z
      · subst z; exact .inr ⟨nD, _, hD, solid_lst⟩
    · exact (ga.sel bs).keep (fun c u _ e => .inl (ext c u e)) fun c z => by
        rcases z with z | z
        · exact .inl z
        · subst z; exact .inr nD)
end
end DL
set_option Elab.async false
set_option linter.all false
set_option maxRecDepth 100000
/-! DLr: lambdas: their making, their run. -/
namespace DL
open PySem PySem.Spec PyProof.Rows L2 HotX L2H LamX
section
variable {X : Cx} {pins : List (Addr × Obj)} {σ : DL.St} {H : Hp} {s : Shared}
/-- a lambda is made; what the tables know grows -/
theorem lam_mk {T : List (Addr × Str)} {c P : Addr} {params : Arguments} {body : Expr} {scope : Scope} {pos : Pos} {E : Value → Shared → Prop} {Q : Value → Shared → Prop} (I : Inv X pins σ H s) (TB : TabB X.base X.mg c P) (hcode : X.env.code = .ref c)
    (hm : (P, X.env.qual ++ "<lambda>") ∈ T) (hu : ∀ p ∈ T, p.1 = P → p.2 = X.env.qual ++ "<lambda>") (hT : Tabs T H) (hdef : defaultsOf params X.env = ([], [])) (hfree : ∀ y ∈ scope.names, y.2 = .free → ∃ c, X.env.cells.lookup y.1 = some c)
    (h : ∀ (f c' : Addr) (pm ctv : Value) (H1 : Hp) (s' : Shared), Inv X pins σ H1 s' → (∀ a o, H a = some o → OKeep o (H1 a)) → Tabs T H1 → s.heap.objs.size ≤ f →
      s'.heap.get? f = some (PySem.W.kla_obj "<lambda>" (X.env.qual ++ "<lambda>") params body scope (cloFrom X.env.cells scope.names []) pm c' ctv) → H1 f = none → H1 c' = some (CodeO c' (X.env.qual ++ "<lambda>")) → Q (.ref f) s') :
    wpAny (model X.prog X.w) X.A (eval (.Lambda params body scope pos) X.env) Q E s := by
  obtain ⟨ps, tP, tr, am⟩ := hT _ hm
  have oP : s.heap.get? P = some { cls := .none, data := .fields ps } := I.hok P _ tP
  refine PySem.W.kla_eval hdef ?_
  cases look : codeAmong pos ps.toList with
  | some cv =>
    obtain ⟨c', rfl, hc'⟩ := am pos cv look
    refine PySem.W.kla_makeFunctionHit (mg := X.mg) (c := c) (P := P) (ps := ps) (closure_ok hfree) I.ok.glob (I.mod.glob.keeps I.bk) hcode (TB.code.keeps I.bk) oP tr look (TB.bm.keeps I.bk) fun ctv h' tk k sz => ?_
    exact h h'.objs.size c' _ ctv H _ (I.kept (t' := tk) fun b o e => Heap.get?_push_of_some _ (k b o e)) (fun a o e => .inl e) hT sz (Heap.get?_push_size _ rfl) (I.hok.fresh sz) hc'
  | none =>
    refine PySem.W.kla_makeFunction (mg := X.mg) (c := c) (P := P) (ps := ps) (closure_ok hfree) I.ok.glob (I.mod.glob.keeps I.bk) hcode (TB.code.keeps I.bk) oP tr look TB.gP (TB.bm.keeps I.bk) fun c' ctv h' tk k ge lt rec tb => ?_
    obtain ⟨c2, oc, vs, t, e2, hoc, hd, hv⟩ := rec
    cases e2
    have nC : H c' = none := I.hok.fresh ge
    have sz : s.heap.objs.size ≤ h'.objs.size := Nat.le_trans ge (Nat.le_of_lt lt)
    have nCP : P ≠ c' := ne_of_none tP nC
    generalize hmore : (#[rawInt pos.line, rawInt pos.col, .ref c'] : Array Value) = more at *
    generalize hq : X.env.qual ++ "<lambda>" = q at *
    generalize hob : PySem.W.kla_obj "<lambda>" q params body scope (cloFrom X.env.cells scope.names []) ((X.mg "__name__").getD .none) c' ctv = ob at *
    have I1 := inv_table (t' := tk) (more := more) (h' := h'.push ob) I tP (fun b o n e => Heap.get?_push_of_some _ (k b o n e)) (Heap.get?_push_of_some _ tb) ge ⟨oc, vs, t, Heap.get?_push_of_some _ hoc, hd, hv⟩
    have at_ : ∀ b, b ≠ P → b ≠ c' → upd (upd H P (.tbl (ps ++ more))) c' (CodeO c' q) b = H b := fun b n1 n2 => by rw [upd_ne n2, upd_ne n1]
    have grown : ∀ a o, H a = some o → OKeep o (upd (upd H P (.tbl (ps ++ more))) c' (CodeO c' q) a) := fun a o e => by
      have na : a ≠ c' := ne_of_none e nC
      by_cases ha : a = P
      · subst ha
        rw [tP] at e
        cases e
        exact .inr ⟨ps, more, rfl, by rw [upd_ne na, upd_same]⟩
      · exact .inl (by rw [at_ a ha na]; exact e)
    have codes : ∀ (x : Addr) (z : Str), H x = some (CodeO x z) → upd (upd H P (.tbl (ps ++ more))) c' (CodeO c' q) x = some (CodeO x z) := fun x z e => (grown x _ e).eq fun qs w => codeO_ne qs w
    have T1 : Tabs T (upd (upd H P (.tbl (ps ++ more))) c' (CodeO c' q)) := fun p hp => by
      obtain ⟨qs, b1, b2, b3⟩ := hT p hp
      by_cases hb : p.1 = P
      · have e2 := hu p hp hb
        rw [hb] at b1
        rw [tP] at b1
        cases b1
        rw [hb, e2]
        rw [← hmore]
        have eL : (ps ++ #[rawInt pos.line, rawInt pos.col, .ref c']).toList = ps.toList ++ [rawInt pos.line, rawInt pos.col, .ref c'] := by simp
        refine ⟨_, by rw [upd_ne nCP, upd_same], by rw [eL]; exact PySem.TriplesOk_snoc _ _ _ _ tr, fun p' cv w => ?_⟩
        rw [eL] at w
        rcases among_app _ tr w with z | z
        · obtain ⟨c0, e3, e4⟩ := am p' cv z
          rw [hmore]
          exact ⟨c0, e3, codes c0 q e4⟩
        · rw [hmore]
          exact ⟨c', z, upd_same⟩
      · refine ⟨qs, ?_, b2, fun p' cv w => ?_⟩
        · rw [at_ _ hb (ne_of_none b1 nC)]; exact b1
        · obtain ⟨c0, e3, e4⟩ := b3 p' cv w
          exact ⟨c0, e3, codes c0 p.2 e4⟩
    refine h h'.objs.size c' _ ctv _ _ I1 grown T1 sz (by rw [hob]; exact Heap.get?_push_size _ (by subst hob; rfl)) ?_ upd_same
    have n1 : h'.objs.size ≠ c' := Nat.ne_of_gt lt
    have n2 : h'.objs.size ≠ P := Nat.ne_of_gt (Nat.lt_of_lt_of_le (Heap.lt_size oP) sz)
    rw [upd_ne n1, upd_ne n2]
    exact I.hok.fresh sz
end
/-! ### a function object of an expression, called -/
/-- the context of its body -/
def clCx (P : Program) (w : World) (K : PySem.W.Frag) (mg : Str → Option Value) (base : Heap) (N : List Str) (q : Str) (scope : Scope) (f c' : Addr) (cl : List (Str × Addr)) (A : Around) (outer : List PySem.Env) (s : Shared) (H : Hp) (E : XK) : Cx where
  prog := P
  w := w
  K := K
  mg := mg
  base := base
  A := A.deeper (PySem.W.envX q scope s.heap.objs.size f (.ref c') cl)
  N := N
  s_0 := s
  H_0 := H
  env := PySem.W.envX q scope s.heap.objs.size f (.ref c') cl
  outer := outer
  stack := PySem.W.envX q scope s.heap.objs.size f (.ref c') cl :: outer
  ex := []
  fn := fun _ => false
  calm := true
  pn := []
  xe := fun e s' => wpAny (model P w) (A.deeper (PySem.W.envX q scope s.heap.objs.size f (.ref c') cl)) (leaving (PySem.W.envX q scope s.heap.objs.size f (.ref c') cl) e) (fun _ s'' => L2N.CX P w outer H s E e s'') (fun e' s'' => L2N.CX P w outer H s E e' s'') s'
/-- its names: parameters ps, captured ones -/
structure ClS (scope : Scope) (ps : List Str) (cl : List (Str × Addr)) : Prop where
  kind : scope.kind = .function
  co : scope.isCoroutine = false
  gen : scope.isGenerator = false
  nocell : ∀ y ∈ scope.names, y.2 ≠ .cell
  par : ∀ x ∈ ps, scope.names.lookup x = some .local
  inj : ∀ x y c, cl.lookup x = some c → cl.lookup y = some c → x = y
  has : ∀ x, scope.names.lookup x = some .free → ∃ c, cl.lookup x = some c
/-- what the slots tell of parameters and captured cells -/
structure ClV (N : List Str) (scope : Scope) (ps : List Str) (us : List Value) (cl : List (Str × Addr)) (h : Heap) (H : Hp) (σ : DL.St) : Prop where
  len : σ.length = N.length
  cell : ∀ x c, cl.lookup x = some c → H c = none ∧ ∃ v, h.IsCell c v
  loc : ∀ (i : Nat) (y : Str) (v : V), N[i]? = some y → σ[i]? = some (some v) → scope.names.lookup y = some .local → ∃ u, RelV v u ∧ (ps.zip us).reverse.lookup y = some u
  free : ∀ (i : Nat) (y : Str) (v : V), N[i]? = some y → σ[i]? = some (some v) → scope.names.lookup y = some .free → ∃ u c, RelV v u ∧ cl.lookup y = some c ∧ h.IsCell c (some u)
section
variable {P : Program} {w : World} {K : PySem.W.Frag} {mg : Str → Option Value} {base : Heap} {N ps : List Str} {q : Str} {scope : Scope} {f c' : Addr} {cl : List (Str × Addr)} {A : Around} {outer : List PySem.Env} {s : Shared} {H : Hp} {E : XK} {us : List Value} {σ : DL.St}
theorem cl_enter {h1 : Heap} {tk : Nat} (S : ClS scope ps cl) (V : ClV N scope ps us cl s.heap H σ) (e0 : Env0 P w K mg base A outer s H) (hd : A.handled = none) (hns : h1.Ns s.heap.objs.size fun y => (ps.zip us).reverse.lookup y) (kp : ∀ b o, s.heap.get? b = some o → h1.get? b = some o) :
    Inv (clCx P w K mg base N q scope f c' cl A outer s H E) [] σ H { s with heap := h1, toks := tk } := by
  have keepC : ∀ {c : Addr} {v : Option Value}, s.heap.IsCell c v → h1.IsCell c v := fun ⟨o, e, d⟩ => ⟨o, kp _ _ e, d⟩
  have noA : ∀ b : Addr, b ∉ (clCx P w K mg base N q scope f c' cl A outer s H E).ex := fun b z => absurd (show b ∈ ([] : List Addr) from z) (by simp)
  have cells : ∀ y, scope.names.lookup y = some .cell ∨ scope.names.lookup y = some .free → ∃ c, cl.lookup y = some c := fun y hy => by
    rcases hy with hy | hy
    · exact absurd rfl (S.nocell _ (PySem.mem_of_lookup hy))
    · exact S.has y hy
  refine ⟨⟨e0.mod, S.kind, rfl, rfl, Nat.le_refl _, S.inj, fun y hy => cells y hy, fun y c z _ => Bool.noConfusion (show false = true from z), fun _ => hd, Around.frames_deeper e0.frames, .inr ⟨rfl, rfl⟩, fun b z => absurd z (noA b), e0.bs, e0.bsz, fun b _ _ => noA b, fun b z => absurd z (noA b), e0.funs, e0.frf⟩,
    rfl, e0.bare, Un.kept kp, ⟨_, hns, fun i y v e1 e2 vis => ?_⟩, fun y c e => ?_, e0.hok.fresh (Nat.le_refl _), fun y c e => (V.cell y c e).1, fun z hz => absurd (show z ∈ ([] : List (Addr × Obj)) ++ [] from hz) (by simp), e0.hok.kept kp, V.len⟩
  · have vis : Vis scope y := vis
    rcases vis with k | k | k
    · obtain ⟨u, r, l⟩ := V.loc i y v e1 e2 k
      exact ⟨u, r, .inl ⟨k, l⟩⟩
    · exact absurd rfl (S.nocell _ (PySem.mem_of_lookup k))
    · obtain ⟨u, c, r, l, z⟩ := V.free i y v e1 e2 k
      exact ⟨u, r, .inr ⟨.inr k, c, l, keepC z⟩⟩
  · obtain ⟨_, v, z⟩ := V.cell y c e
    exact ⟨v, keepC z⟩
/-- the run of its body -/
theorem cl_run {k : Nat} {name : Str} {params : Arguments} {body : Expr} {pm ctv : Value} {Q : VK} (S : ClS scope ps cl) (V : ClV N scope ps us cl s.heap H σ) (e0 : Env0 P w K mg base A outer s H) (hr : Room (k + 1) A) (hf : s.heap.get? f = some (PySem.W.kla_obj name q params body scope cl pm c' ctv)) (hc : H c' = some (CodeO c' q))
    (hb : bindArgs (PySem.W.kla_fn name q params body scope cl pm (.ref c') ctv) ⟨us, []⟩ = pure (ps.zip us)) (lim : s.heap.NoLimit)
    (hbody : Room k (clCx P w K mg base N q scope f c' cl A outer s H E).A → uE (clCx P w K mg base N q scope f c' cl A outer s H E) body σ H Q) :
    codeAny (model P w) A (.call (.ref f) ⟨us, []⟩) (L2.CR (L2N.CX P w) outer P w H s Q E) s := by
  obtain ⟨⟨oc, vs, t, hoc, hdc, hvc⟩, _, _⟩ := e0.hok c' _ hc
  refine PySem.W.kla_callFunE hr.depth hf rfl S.co S.gen rfl ⟨c', oc, vs, t, rfl, hoc, hdc, hvc⟩ ?_
  rw [hb]
  refine wpAny_pure (wpAny_newFunctionEnv S.nocell (fun y hy => S.par y.1 (List.of_mem_zip (b := y.2) hy).1) (fun h1 hns sb => ⟨lim.fresh _ sb, ?_⟩) S.kind)
  have kp : ∀ b o, s.heap.get? b = some o → h1.get? b = some o := fun b o e => sb.extBut b o (Nat.ne_of_lt (Heap.lt_size e)) (Heap.get?_push_of_some _ e)
  have J := cl_enter (q := q) (f := f) (c' := c') (E := E) (tk := s.toks + (ps.zip us).length) S V e0 hr.hd hns kp
  refine PySem.W.kla_codeExpr (wpAny_mono (hbody (hr.deeper _) [] _ J) (fun v s' h => ?_) fun e s' h => h)
  obtain ⟨x, H', J', rv, k'⟩ := h
  exact ⟨x, H', J'.os, J'.bare, J'.base, J'.hok, rv, k'⟩
end
/-! ### a lambda, as it stands -/
structure Lam where
  q : Str
  params : Arguments
  body : Expr
  scope : Scope
  cl : List (Str × Addr)
  pm : Value
  ctv : Value
  f : Addr
  c' : Addr
def Lam.mem (L : Lam) (a : Addr) : Prop := a = L.f ∨ ∃ x, L.cl.lookup x = some a
/-- its object, its cells: they hold what the slots σ of the maker's frame hold -/
structure Lam.At (L : Lam) (N : List Str) (σ : DL.St) (h : Heap) : Prop where
  obj : h.get? L.f = some (PySem.W.kla_obj "<lambda>" L.q L.params L.body L.scope L.cl L.pm L.c' L.ctv)
  cell : ∀ x c, L.cl.lookup x = some c → ∃ v, h.IsCell c v
  val : ∀ (i : Nat) (x : Str) (v : V), N[i]? = some x → σ[i]? = some (some v) → (∃ c, L.cl.lookup x = some c) → ∃ u c, RelV v u ∧ L.cl.lookup x = some c ∧ h.IsCell c (some u)
theorem Lam.At.keep {L : Lam} {N : List Str} {σ : DL.St} {h h' : Heap} (A : L.At N σ h) (kf : ∀ o, h.get? L.f = some o → h'.get? L.f = some o) (k : ∀ x c, L.cl.lookup x = some c → ∀ o, h.get? c = some o → ∃ sl, h'.get? c = some { o with slots := sl }) : L.At N σ h' :=
  have kc : ∀ {x : Str} {c : Addr} {v : Option Value}, L.cl.lookup x = some c → h.IsCell c v → h'.IsCell c v := fun {x c v} e ⟨o, g, d⟩ => by
    obtain ⟨sl, q⟩ := k x c e o g
    exact ⟨_, q, d⟩
  ⟨kf _ A.obj, fun x c e => (A.cell x c e).imp fun v z => kc e z, fun i x v e1 e2 e3 => by
    obtain ⟨u, c, r, l, z⟩ := A.val i x v e1 e2 e3
    exact ⟨u, c, r, l, kc l z⟩⟩
theorem Lam.At.there {L : Lam} {N : List Str} {σ : DL.St} {h : Heap} (A : L.At N σ h) {a : Addr} (m : L.mem a) : ∃ o, h.get? a = some o := by
  rcases m with rfl | ⟨x, e⟩
  · exact ⟨_, A.obj⟩
  · obtain ⟨v, o, g, _⟩ := A.cell x a e
    exact ⟨o, g⟩
/-- known at a state, out of the reach of what runs from there -/
structure LamNow (L : Lam) (N : List Str) (σ : DL.St) (stack : List PySem.Env) (h : Heap) (H : Hp) : Prop where
  at_ : L.At N σ h
  free : ∀ a, L.mem a → H a = none
  nof : L.f ∉ L2.frs stack
/-- known at a context's entry -/
structure LamGr (X : Cx) (L : Lam) (N : List Str) (σ : DL.St) : Prop where
  now : LamNow L N σ X.outer X.s_0.heap X.H_0
  noex : ∀ a, L.mem a → a ∉ X.ex
section
variable {X : Cx} {pins : List (Addr × Obj)} {σ σ' : DL.St} {H : Hp} {s : Shared} {L : Lam} {N : List Str}
theorem LamGr.here (g : LamGr X L N σ) (I : Inv X pins σ' H s) : LamNow L N σ X.stack s.heap H where
  at_ := g.now.at_.keep (fun o e => I.base.keep _ o e (g.now.free _ (.inl rfl)) g.now.nof (g.noex _ (.inl rfl))) fun x c e o q => I.base.any q (g.now.free c (.inr ⟨x, e⟩)) (g.noex c (.inr ⟨x, e⟩))
  free := fun a m => by
    obtain ⟨o, e⟩ := g.now.at_.there m
    exact I.base.free a o e (g.now.free a m) (g.noex a m)
  nof := fun z => by
    rcases List.mem_cons.mp (I.stkSub _ z) with q | q
    · have l := Heap.lt_size g.now.at_.obj
      rw [q] at l
      exact Nat.lt_irrefl _ (Nat.lt_of_lt_of_le l I.ok.above)
    · exact g.now.nof q
theorem LamNow.into {Y : Cx} {stack : List PySem.Env} (n : LamNow L N σ stack Y.s_0.heap Y.H_0) (ho : Y.outer = stack) (hx : ∀ a, L.mem a → a ∉ Y.ex) : LamGr Y L N σ := ⟨by rw [ho]; exact n, hx⟩
/-- it has just been made -/
theorem lam_now {params : Arguments} {body : Expr} {scope : Scope} {f c' : Addr} {pm ctv : Value} (I : Inv X pins σ H s) (hfree : ∀ y ∈ scope.names, y.2 = .free → X.env.scope.names.lookup y.1 = some .cell ∨ X.env.scope.names.lookup y.1 = some .free)
    (hf : s.heap.get? f = some (PySem.W.kla_obj "<lambda>" (X.env.qual ++ "<lambda>") params body scope (cloFrom X.env.cells scope.names []) pm c' ctv)) (hn : H f = none) (hfr : f ∉ L2.frs X.stack) :
    LamNow ⟨X.env.qual ++ "<lambda>", params, body, scope, cloFrom X.env.cells scope.names [], pm, ctv, f, c'⟩ X.N σ X.stack s.heap H := by
  have cm : ∀ {y c}, (cloFrom X.env.cells scope.names []).lookup y = some c → X.env.cells.lookup y = some c ∧ (y, NameKind.free) ∈ scope.names := fun {y c} e => by
    rcases cloFrom_mem (PySem.mem_of_lookup e) with hm | ⟨h1, h2⟩
    · cases hm
    · obtain ⟨c1, hc⟩ := I.ok.has y (hfree _ h1 rfl)
      have e2 : c = c1 := by rw [h2, hc]; rfl
      rw [e2]
      exact ⟨hc, h1⟩
  refine ⟨⟨hf, fun x c e => I.cell x c (cm e).1, fun i x v e1 e2 ⟨c, e3⟩ => ?_⟩, fun a m => ?_, hfr⟩
  · obtain ⟨m, _, hl⟩ := I.loc
    have k := hfree _ (cm e3).2 rfl
    obtain ⟨u, r, q⟩ := hl i x v e1 e2 (k.elim (fun z => .inr (.inl z)) fun z => .inr (.inr z))
    refine ⟨u, c, r, e3, ?_⟩
    rcases q with ⟨k', _⟩ | ⟨_, c3, e', z⟩
    · have k' : X.env.scope.names.lookup x = some .local := k'
      rcases k with k | k <;> rw [show X.env.scope.names.lookup x = _ from k] at k' <;> cases k'
    · rw [(cm e3).1] at e'
      cases e'
      exact z
  · rcases m with m | ⟨x, e⟩
    · have m : a = f := m
      rw [m]; exact hn
    · exact I.freeC x a (cm e).1
/-- what a lambda's text must be like -/
structure LamT (sc scope : Scope) (ps : List Str) : Prop where
  kind : scope.kind = .function
  co : scope.isCoroutine = false
  gen : scope.isGenerator = false
  own : ∀ y ∈ scope.names, (y.2 = .local → y.1 ∈ ps) ∧ y.2 ≠ .cell
  free : ∀ y ∈ scope.names, y.2 = .free → sc.names.lookup y.1 = some .cell ∨ sc.names.lookup y.1 = some .free
  par : ∀ x ∈ ps, scope.names.lookup x = some .local
def lamTB (sc scope : Scope) (ps : List Str) : Bool :=
  decide (scope.kind = .function) && !scope.isCoroutine && !scope.isGenerator && (scope.names.all fun y => (!decide (y.2 = .local) || ps.contains y.1) && !decide (y.2 = .cell) && (!decide (y.2 = .free) || decide (sc.names.lookup y.1 = some .cell) || decide (sc.names.lookup y.1 = some .free))) && ps.all fun x => decide (scope.names.lookup x = some .local)
theorem lamT_by {sc scope : Scope} {ps : List Str} (h : lamTB sc scope ps = true) : LamT sc scope ps := by
  unfold lamTB at h
  simp only [Bool.and_eq_true, Bool.or_eq_true, Bool.not_eq_true', decide_eq_true_eq, decide_eq_false_iff_not, List.all_eq_true, List.contains_iff_mem] at h
  obtain ⟨⟨⟨⟨h1, h2⟩, h3⟩, h4⟩, h5⟩ := h
  refine ⟨h1, h2, h3, fun y hy => ⟨fun e => ?_, (h4 y hy).1.2⟩, fun y hy e => ?_, h5⟩
  · exact ((h4 y hy).1.1).resolve_left fun n => n e
  · rcases (h4 y hy).2 with (z | z) | z
    · exact absurd e z
    · exact .inl z
    · exact .inr z
theorem LamT.cls {scope : Scope} {ps : List Str} (t : LamT X.env.scope scope ps) (ok : X.Ok) : ClS scope ps (cloFrom X.env.cells scope.names []) := by
  have cm : ∀ {y c}, (cloFrom X.env.cells scope.names []).lookup y = some c → X.env.cells.lookup y = some c := fun {y c} e => by
    rcases cloFrom_mem (PySem.mem_of_lookup e) with hm | ⟨h1, h2⟩
    · cases hm
    · obtain ⟨c1, hc⟩ := ok.has y (t.free _ h1 rfl)
      rw [h2, hc]; rfl
  exact ⟨t.kind, t.co, t.gen, fun y hy => (t.own y hy).2, t.par, fun x y c e1 e2 => ok.inj x y c (cm e1) (cm e2), fun x e => mem_lookup (cloFrom_has (cells := X.env.cells) (acc := []) (PySem.mem_of_lookup e))⟩
/-- called without arguments -/
theorem LamNow.clv0 {stack : List PySem.Env} {h : Heap} (n : LamNow L N σ stack h H) (t : ClS L.scope [] L.cl) (own : ∀ y ∈ L.scope.names, y.2 ≠ .local) (hl : σ.length = N.length) : ClV N L.scope [] [] L.cl h H σ :=
  ⟨hl, fun x c e => ⟨n.free c (.inr ⟨x, e⟩), n.at_.cell x c e⟩, fun i y v _ _ e => absurd rfl (own _ (PySem.mem_of_lookup e)), fun i y v e1 e2 e => n.at_.val i y v e1 e2 (t.has y e)⟩
/-- .. with one -/
theorem LamNow.clv1 {stack : List PySem.Env} {h : Heap} {a : Str} {x : V} {u : Value} (n : LamNow L N σ stack h H) (t : ClS L.scope [a] L.cl) (own : ∀ y ∈ L.scope.names, y.2 = .local → y.1 ∈ [a]) (hl : σ.length = N.length) (na : a ∉ N) (r : RelV x u) : ClV (N ++ [a]) L.scope [a] [u] L.cl h H (σ ++ [some x]) := by
  have sp : ∀ {i : Nat} {y : Str} {v : V}, (N ++ [a])[i]? = some y → (σ ++ [some x])[i]? = some (some v) → (N[i]? = some y ∧ σ[i]? = some (some v)) ∨ (y = a ∧ v = x) := fun {i y v} e1 e2 => by
    by_cases hi : i < N.length
    · rw [List.getElem?_append_left hi] at e1
      rw [List.getElem?_append_left (by rw [hl]; exact hi)] at e2
      exact .inl ⟨e1, e2⟩
    · rw [List.getElem?_append_right (by omega)] at e1
      rw [List.getElem?_append_right (by omega), hl] at e2
      cases hj : i - N.length with
      | zero =>
        rw [hj] at e1 e2
        exact .inr ⟨(Option.some.inj e1).symm, (Option.some.inj (Option.some.inj e2)).symm⟩
      | succ j => rw [hj] at e1; simp at e1
  have fa : L.scope.names.lookup a = some .local := t.par a (by simp)
  refine ⟨by simp [hl], fun x c e => ⟨n.free c (.inr ⟨x, e⟩), n.at_.cell x c e⟩, fun i y v e1 e2 e => ?_, fun i y v e1 e2 e => ?_⟩
  · have ya : y = a := by simpa using own _ (PySem.mem_of_lookup e) rfl
    subst ya
    rcases sp e1 e2 with ⟨z, _⟩ | ⟨_, rfl⟩
    · exact absurd (List.mem_of_getElem? z) na
    · exact ⟨u, r, by simp⟩
  · rcases sp e1 e2 with ⟨z1, z2⟩ | ⟨z1, _⟩
    · exact n.at_.val i y v z1 z2 (t.has y e)
    · rw [z1, fa] at e
      cases e
end
end DL
set_option Elab.async false
set_option linter.all false
set_option maxRecDepth 100000
/-! DLs: a lambda without parameters handed to a def that runs it in a try. -/
namespace DL
open PySem PySem.Spec PyProof.Rows L2 HotX L2H LamX
/-- the context of a lambda's body over data -/
abbrev ctCl (Z : Ct) (N : List Str) (q : Str) (scope : Scope) (f c' : Addr) (cl : List (Str × Addr)) (A : Around) (outer : List PySem.Env) (s : Shared) (H : Hp) (E : XK) (W0 M0 : AS) (ε : Value → Env → Prop) : Ct :=
  ⟨clCx Z.X.prog Z.X.w Z.X.K Z.X.mg Z.X.base N q scope f c' cl A outer s H E, Z.T, W0, M0, H, ε⟩
/-- the maker's code object and its table -/
structure TabZ (Z : Ct) (c P : Addr) : Prop where
  tb : TabB Z.X.base Z.X.mg c P
  code : Z.X.env.code = .ref c
  mem : (P, Z.X.env.qual ++ "<lambda>") ∈ Z.T
  uniq : ∀ p ∈ Z.T, p.1 = P → p.2 = Z.X.env.qual ++ "<lambda>"
section
variable {Z : Ct} {ρ ρ1 ρ2 : Env} {Φ : Rv → Env → Prop} {M M1 : AS} {σ σ1 : DL.St} {H H1 H2 : Hp}
theorem StS.okeep {K : PySem.W.Frag} {T : List (Addr × Str)} (S : StS K T M ρ σ H) (g : ∀ a o, H a = some o → OKeep o (H1 a)) (t : Tabs T H1) : StS K T M ρ σ H1 := by
  have sol : ∀ a o, H a = some o → Solid o → H1 a = some o := fun a o e so => (g a o e).eq so.2
  refine ⟨S.len, S.own, fun a z => ?_, fun i c e => ?_, S.inj, t⟩
  · obtain ⟨o, e, so⟩ := S.lv a z
    exact ⟨o, sol a o e so, so⟩
  · obtain ⟨v, e1, r⟩ := S.at_ i c e
    refine ⟨v, e1, r.keep (fun b o _ q => g b o q) (fun b z => .inl z) fun a m z => ?_⟩
    subst z
    obtain ⟨_, ma, ok⟩ := r
    obtain ⟨o, e2, so⟩ := ok.solid
    exact ⟨ma, by rw [sol a o e2 so, e2]⟩
/-- the slots as they were, the owned things as they are now -/
theorem StS.again {K : PySem.W.Frag} {T : List (Addr × Str)} {ρ' : Env} {σ' : DL.St} {M' : AS} {H' : Hp} (S : StS K T M ρ σ H) (S' : StS K T M' ρ' σ' H') (sim : Sim ρ ρ') (kp : Kp (Mo ρ) H H') (more : ∀ a, M a → M' a) (new : ∀ a, M' a → M a ∨ H a = none) : StS K T M' ρ' σ H' := by
  refine ⟨by rw [sim.len]; exact S.len, fun a z => more a (S.own a (by rw [← sim.mo]; exact z)), S'.lv, fun i c e => ?_, S'.inj, S'.tab⟩
  have hi : i < ρ.length := by rw [← sim.len]; exact (List.getElem?_eq_some_iff.mp e).1
  obtain ⟨c0, h0⟩ : ∃ c0, ρ[i]? = some c0 := ⟨_, List.getElem?_eq_getElem hi⟩
  by_cases n : ∃ a m, c0 = some (C.own a m)
  · obtain ⟨a, m, rfl⟩ := n
    obtain ⟨v, e1, r⟩ := S.at_ i _ h0
    obtain ⟨m', e2⟩ := sim.own i a m h0
    rw [e] at e2
    cases e2
    obtain ⟨v', _, _, ma, ok⟩ := S'.at_ i _ e
    exact ⟨v, e1, r.1, ma, ok⟩
  · have := sim.keep i c0 h0 fun a m z => n ⟨a, m, z⟩
    rw [e] at this
    cases this
    obtain ⟨v, e1, r⟩ := S.at_ i c h0
    exact ⟨v, e1, r.keep (fun b o nb q => kp b o (fun z => nb (S.own b z)) q) new fun a m z => absurd ⟨a, m, by rw [z]⟩ n⟩
/-- slots of values as they are -/
def rawsOf : List (Option V) → Env := fun vs => vs.map fun o => o.map C.raw
theorem rawsOf_mo {vs : List (Option V)} : ∀ a, ¬ Mo (rawsOf vs) a := fun a ⟨i, m, h⟩ => by
  unfold rawsOf at h
  rw [List.getElem?_map] at h
  cases e : vs[i]? with
  | none => rw [e] at h; cases h
  | some o =>
    rw [e] at h
    cases o with
    | none => cases h
    | some v => cases h
theorem StS.raws {K : PySem.W.Frag} {T : List (Addr × Str)} {M' : AS} (S : StS K T M ρ σ H) (vs : DL.St) (s : ∀ a, M' a → M a) : StS K T M' (rawsOf vs) vs H := by
  refine ⟨by unfold rawsOf; rw [List.length_map], fun a z => absurd z (rawsOf_mo a), fun a z => S.lv a (s a z), fun i c e => ?_, fun i j m n a e _ => absurd ⟨i, m, e⟩ (rawsOf_mo a), S.tab⟩
  unfold rawsOf at e
  rw [List.getElem?_map] at e
  cases q : vs[i]? with
  | none => rw [q] at e; cases e
  | some o =>
    rw [q] at e
    cases o with
    | none => cases e
    | some v => cases e; exact ⟨v, rfl, rfl⟩
/-- nothing was written -/
theorem StS.calm {K : PySem.W.Frag} {T : List (Addr × Str)} {H' : Hp} (S : StS K T M ρ σ H) {W : AS} (hw : ∀ a, ¬ W a) (k : Kp W H H') (t : Tabs T H') : StS K T M ρ σ H' := S.okeep (fun a o e => k a o (hw a) e) t
theorem takes0N {X : Cx} : L2N.Takes X (fun _ _ _ _ => False) := fun _ _ ⟨_, _, _, _, _, _, _, _, _, _, _, _, _, _, _, _, z⟩ => z.elim
/-- a lambda that was made before this context was entered, with what its maker's slots held -/
structure LamK (Z : Ct) (L : Lam) (N : List Str) (σL : DL.St) (ρL : Env) : Prop where
  gr : LamGr Z.X L N σL
  code : Z.H0 L.c' = some (CodeO L.c' L.q)
  st : StS Z.X.K Z.T Z.M0 ρL σL Z.H0
  nown : ∀ a, ¬ Mo ρL a
  len : σL.length = N.length
theorem LamK.now {L : Lam} {N : List Str} {σL : DL.St} {ρL : Env} (k : LamK Z L N σL ρL) (p : Pre Z M ρ σ H) : StS Z.X.K Z.T M ρL σL H ∧ H L.c' = some (CodeO L.c' L.q) := by
  have nw0 : ¬ Z.W0 L.c' := fun z => by
    obtain ⟨o, e, so⟩ := k.st.lv _ (p.w0 _ z)
    rw [k.code] at e
    cases e
    exact so.1 _ rfl
  refine ⟨⟨k.st.len, fun a z => absurd z (k.nown a), p.st.lv, fun i c e => ?_, fun i j m n a e _ => absurd ⟨i, m, e⟩ (k.nown a), p.st.tab⟩, (p.base.kp _ _ nw0 k.code).eq fun qs w => codeO_ne qs w⟩
  obtain ⟨v, e1, r⟩ := k.st.at_ i c e
  exact ⟨v, e1, r.keep (fun b o n q => p.base.kp b o (fun z => n (p.w0 b z)) q) p.mu fun a m z => absurd ⟨i, m, by rw [e, z]⟩ (k.nown a)⟩
/-- a lambda of one parameter -/
structure LamI (L : Lam) (N : List Str) (a : Str) : Prop where
  cls : ClS L.scope [a] L.cl
  own : ∀ y ∈ L.scope.names, y.2 = .local → y.1 ∈ [a]
  na : a ∉ N
  bind : ∀ u, bindArgs (PySem.W.kla_fn "<lambda>" L.q L.params L.body L.scope L.cl L.pm (.ref L.c') L.ctv) ⟨[u], []⟩ = pure [(a, u)]
/-- its body with the argument d ends with an exception that the caller wishes -/
def LamB (Z : Ct) (L : Lam) (N : List Str) (a : Str) (ρL : Env) (j : Nat) (ρ' : Env) (d : D) : Prop := ∀ (A : Around) (outer : List PySem.Env) (s : Shared) (H : Hp) (E : XK) (M0 : AS), Room j (A.deeper (PySem.W.envX L.q L.scope s.heap.objs.size L.f (.ref L.c') L.cl)) →
  L2N.Takes (ctCl Z (N ++ [a]) L.q L.scope L.f L.c' L.cl A outer s H E (fun _ => False) M0 fun cls _ => Z.ε cls ρ').X (wz (ctCl Z (N ++ [a]) L.q L.scope L.f L.c' L.cl A outer s H E (fun _ => False) M0 fun cls _ => Z.ε cls ρ')) →
  DE (ctCl Z (N ++ [a]) L.q L.scope L.f L.c' L.cl A outer s H E (fun _ => False) M0 fun cls _ => Z.ε cls ρ') L.body (ρL ++ [some (.dat d)]) fun _ _ => False
/-- its call by a name: it ends with an exception -/
theorem de_lam1 {L : Lam} {N : List Str} {σL : DL.St} {ρL : Env} {x a : Str} {p1 pos : Pos} {e : Expr} (i : Nat) (k : LamK Z L N σL ρL) (li : LamI L N a) (he : ρ[i]? = some (some (.raw (.ref L.f)))) {j : Nat} (hr : Room (j + 1) Z.X.A) (hz : L2N.Takes Z.X (wz Z))
    (h : DE Z e ρ fun r ρ' => ∃ d, vwd r = some d ∧ LamB Z L N a ρL j ρ' d)
    (hN : Z.X.N[i]? = some x := by rfl) (hv : Vis Z.X.env.scope x := by first | exact Or.inl rfl | exact Or.inr (Or.inl rfl) | exact Or.inr (Or.inr rfl)) (hd : (x == ("__debug__" : Str)) = false := by decide) (hcd : (x == ("__classdict__" : Str)) = false := by decide)
    (hs : starEach [e] Z.X.env = (false, eval e Z.X.env) :: starEach [] Z.X.env := by rfl) (hpl : (backTo pos (starEach [] Z.X.env)).any (·.1) = false := by rfl) : DE Z (.Call (.Name x p1) [e] [] pos) ρ Φ := fun M σ H pr pins s I => by
  obtain ⟨w, hw, rw0⟩ := pr.st.at_ i _ he
  have ew : w = .ref L.f := rw0
  subst ew
  refine wpAny_Call_Name_kw (thn ((pe_var (pos := p1) hN hv hd hcd).run pins s σ H (fun v H' => v = .ref L.f ∧ H' = H) I ⟨_, hw, rfl, rfl⟩) fun u s1 ⟨v, H1, I1, r1, e1, eH⟩ => ?_)
  subst e1
  rw [eH] at I1
  cases r1
  have nw1 := k.gr.here I1
  have fnAt : ∀ {s' : Shared} {H' : Hp}, Inv Z.X pins σ H' s' → s'.heap.get? L.f = some (PySem.W.kla_obj "<lambda>" L.q L.params L.body L.scope L.cl L.pm L.c' L.ctv) := fun I' => (k.gr.here I').at_.obj
  refine PySem.W.callWith_F ⟨_, _, _, _, nw1.at_.obj⟩ (thn ((pa_cons (pe_u Z.X e) pa_nil hs).run pos pins s1 σ H (fun vs H2 => ∃ y r ρ' M2 d, vs = [y] ∧ PostO Z M ρ σ H y H2 r ρ' M2 ∧ vwd r = some d ∧ LamB Z L N a ρL j ρ' d) I1 ((h M σ H pr).mono fun y H2 ⟨r, ρ', M2, ⟨d, ed, hb⟩, o⟩ => ⟨y, r, ρ', M2, d, rfl, o, ed, hb⟩)) fun us s2 ⟨vs, H2, I2, rv, y, r, ρ', M2, d, ev, o, ed, hb⟩ => ⟨⟨_, _, _, _, fnAt I2⟩, ?_⟩) hs hpl
  subst ev
  cases rv with
  | cons ry rv =>
    cases rv
    have pr2 := o.pre pr
    obtain ⟨sL, cL⟩ := k.now pr2
    have now2 := k.gr.here I2
    have yd : Rp Z.X.K M H2 y d := o.pd.data o.more ed
    have mo0 : ∀ a, ¬ Mo (ρL ++ [some (.dat d)]) a := fun a ⟨i, m, e⟩ => by
        by_cases hi : i < ρL.length
        · rw [List.getElem?_append_left hi] at e
          exact k.nown a ⟨i, m, e⟩
        · rw [List.getElem?_append_right (by omega)] at e
          cases hj : i - ρL.length with
          | zero => rw [hj] at e; cases e
          | succ n => rw [hj] at e; simp at e
    have sM : StS Z.X.K Z.T M (ρL ++ [some (.dat d)]) (σL ++ [some y]) H2 := by
      have hl := sL.len
      refine ⟨by simp [hl], fun a z => absurd z (mo0 a), fun a z => o.st.lv a (o.more a z), fun i c e => ?_, fun i j m n a e _ => absurd ⟨i, m, e⟩ (mo0 a), o.st.tab⟩
      by_cases hi : i < ρL.length
      · rw [List.getElem?_append_left hi] at e
        obtain ⟨v, e1, q⟩ := sL.at_ i c e
        exact ⟨v, by rw [List.getElem?_append_left (by rw [← hl]; exact hi)]; exact e1, q.keep (fun _ _ _ z => .inl z) (fun b z => .inl (o.more b z)) fun a m z => absurd ⟨i, m, by rw [e, z]⟩ (k.nown a)⟩
      · rw [List.getElem?_append_right (by omega)] at e
        cases hj : i - ρL.length with
        | zero =>
          rw [hj] at e
          cases e
          exact ⟨y, by rw [List.getElem?_append_right (by omega), ← hl, hj]; rfl, yd⟩
        | succ n => rw [hj] at e; simp at e
    have inner : ∀ cls d' σ' H', wz (ctCl Z (N ++ [a]) L.q L.scope L.f L.c' L.cl Z.X.A Z.X.stack s2 H2 (WE (wz Z) σ) (fun _ => False) M fun cls _ => Z.ε cls ρ') cls d' σ' H' → wz Z cls d' σ H' := fun cls d' σ' H' ⟨ed, ρ2, hε, S2, st2⟩ => by
      have k2 : Kp (fun _ => False) H2 H' := st2.kp
      have S3 : StS Z.X.K Z.T M2 ρ' σ H' := o.st.calm (fun _ z => z) k2 S2.tab
      have em : Mo ρ' = Mo ρ := o.sim.mo
      refine ⟨ed, ρ', hε, S3.less (fun a z => .inr z) (fun a z => z.elim (fun z => o.more a (pr.m0 a z)) fun z => S3.own a z), ?_⟩
      have b2 := pr2.base
      exact ⟨b2.kp.trans (k2.imp fun _ z => z.elim), b2.nw⟩
    have rc := cl_run (Q := Post (ctCl Z (N ++ [a]) L.q L.scope L.f L.c' L.cl Z.X.A Z.X.stack s2 H2 (WE (wz Z) σ) (fun _ => False) M fun cls _ => Z.ε cls ρ') M (ρL ++ [some (.dat d)]) (σL ++ [some y]) H2 (fun _ _ => False)) (E := WE (wz Z) σ) (k := j) li.cls (now2.clv1 li.cls li.own k.len li.na ry) I2.env0 hr now2.at_.obj cL (li.bind _) I2.nolimit
      fun hr2 => hb _ _ _ _ _ _ hr2 ((L2N.takes_of rfl rfl rfl rfl).imp fun cls d' σ' H' w => inner cls d' σ' H' w) M (σL ++ [some y]) H2 ⟨fun _ z => z, sM, ⟨Kp.refl _ _, fun a z => ?_⟩, fun _ z => z.elim, fun _ z => .inl z⟩
    · refine wpAny_call (codeAny_mono rc fun r s5 hq => ?_)
      cases r with
      | error e => exact L2N.passAt hz σ pins H2 s2 e s5 I2 hq
      | ok fl =>
        cases fl with
        | ret u =>
          obtain ⟨_, _, _, _, _, _, _, _, _, _, z, _⟩ := hq
          exact z.elim
        | next => exact False.elim hq
        | brk => exact False.elim hq
        | cont => exact False.elim hq
    · exact absurd z (mo0 a)
/-- what a def that runs a lambda in a try is told: the lambda's body, the exceptions that its suite knows by a label -/
structure ErrDef (K : PySem.W.Frag) (mg : Str → Option Value) (x a ex n : Str) (fe PE : Addr) (scope : Scope) (tryBody : List Stmt) (suite : Stmt) (last : Stmt) : Prop where
  fd : ∃ (params : Arguments) (p : Pos) (p2 p3 : Pos) (fde : FuncData), FunD K x x params [.Try tryBody [.ExceptHandler (some (.Name ex p2)) (some n) [suite] p3] [] [] p, last] scope [] [] fe fde ∧ Binds K fde [a] []
  sc : FnScope [a, n] [a] scope
  gx : mg x = some (.ref fe)
  pe : mg ex = some (.ref PE)
  ge : scope.names.lookup ex = some .globalImplicit
  de : (ex == ("__debug__" : Str)) = false
  da : (a == ("__debug__" : Str)) = false
  dc : (a == ("__classdict__" : Str)) = false
  ln : scope.names.lookup n = some .local
  va : Vis scope a
/-- x(lambda: body): body ends well, or with an exception that has a label -/
theorem de_err {x a ex n : Str} {fe PE : Addr} {scopeE : Scope} {suite : Stmt} {last : Stmt} {p1 p2 p3 : Pos} (ED : ErrDef Z.X.K Z.X.mg x a ex n fe PE scopeE [.Expr (.Call (.Name a p1) [] [] p2) p3] suite last)
    {c P : Addr} (TZ : TabZ Z c P) {k : Nat} (hr : Room (k + 2) Z.X.A) {LB : Value → Str → Prop} (hLB : ∀ cls lab, LB cls lab → PySem.W.exmOne Z.X.K cls (.ref PE) = some true)
    {r0 : D} (hlast : ∀ (Y : Ct) (ρ : Env), Y.X.env.scope = scopeE → DS Y last ρ { nx := fun _ => False, rt := fun r _ => r = .dat r0 })
    (hsuite : ∀ (cls : Value) (lab : Str), LB cls lab → ∀ (cdv : Value) (A : Around) (outer : List PySem.Env) (s : Shared) (H H0 : Hp) (E : XK) (f e : Addr) (oe : Obj) (pn : List (Addr × Obj)) (M0 : AS), L2N.Zn cls none oe → (∃ vs, oe.data = .fields vs) → Room (k + 1) (A.deeper (envOfC x scopeE s.heap.objs.size fe cdv)) →
      DS ⟨(cxOf (L2N.CX Z.X.prog Z.X.w) Z.X.prog Z.X.w Z.X.K Z.X.mg Z.X.base [a, n] x scopeE fe cdv A outer s H E).suite e ((e, oe) :: pn), Z.T, fun _ => False, M0, H0, fun _ _ => False⟩ suite [some (.raw (.ref f)), some (.raw (.ref e))] { nx := fun _ => False, rt := fun r _ => r = .dat (.str lab) })
    {params : Arguments} {body : Expr} {scope : Scope} {p4 lpos pos : Pos} (t : LamT Z.X.env.scope scope []) (hdef : defaultsOf params Z.X.env = ([], []))
    (hbind : ∀ (q : Str) (cl : List (Str × Addr)) (pm cv ctv : Value), bindArgs (PySem.W.kla_fn "<lambda>" q params body scope cl pm cv ctv) ⟨[], []⟩ = pure [])
    (hbody : ∀ (q : Str) (f c' : Addr) (cl : List (Str × Addr)) (A : Around) (outer : List PySem.Env) (s : Shared) (H : Hp) (E : XK) (W0 M0 : AS), Room k (ctCl Z Z.X.N q scope f c' cl A outer s H E W0 M0 fun cls ρ' => Sim ρ ρ' ∧ ∃ lab, LB cls lab ∧ Φ (.dat (.str lab)) ρ').X.A →
      L2N.Takes (ctCl Z Z.X.N q scope f c' cl A outer s H E W0 M0 fun cls ρ' => Sim ρ ρ' ∧ ∃ lab, LB cls lab ∧ Φ (.dat (.str lab)) ρ').X (wz (ctCl Z Z.X.N q scope f c' cl A outer s H E W0 M0 fun cls ρ' => Sim ρ ρ' ∧ ∃ lab, LB cls lab ∧ Φ (.dat (.str lab)) ρ')) →
      (∀ L N σL ρL, LamK Z L N σL ρL → LamK (ctCl Z Z.X.N q scope f c' cl A outer s H E W0 M0 fun cls ρ' => Sim ρ ρ' ∧ ∃ lab, LB cls lab ∧ Φ (.dat (.str lab)) ρ') L N σL ρL) →
      DE (ctCl Z Z.X.N q scope f c' cl A outer s H E W0 M0 fun cls ρ' => Sim ρ ρ' ∧ ∃ lab, LB cls lab ∧ Φ (.dat (.str lab)) ρ') body ρ fun _ ρ' => Φ (.dat r0) ρ')
    (hg : Gl Z.X x := by rfl) (hdb : (x == ("__debug__" : Str)) = false := by decide) : DE Z (.Call (.Name x p4) [.Lambda params body scope lpos] [] pos) ρ Φ := fun M σ H pr pins s I => by
  obtain ⟨prm, q1, q2, q3, fde, FDe, hbe⟩ := ED.fd
  refine wpAny_Call_Name_kw (ld_glob I hg ED.gx ?_ hdb)
  refine PySem.W.callWith_K (h₀ := Z.X.base) I.ok.mod.kin FDe.kp ?_ (by rfl) (by rfl)
  show wpAny _ _ (spliced ((false, eval (.Lambda params body scope lpos) Z.X.env) :: backTo pos (starEach [] Z.X.env))) _ _ s
  have hfree : ∀ y ∈ scope.names, y.2 = .free → ∃ c, Z.X.env.cells.lookup y.1 = some c := fun y hy e => I.ok.has _ (t.free y hy e)
  refine Calls.spliced_cons (lam_mk I TZ.tb TZ.code TZ.mem TZ.uniq pr.st.tab hdef hfree fun f c' pm ctv H1 s1 I1 gr T1 hsz hf hn hc => ?_)
  refine Calls.spliced_nil ⟨I1.kIn, ?_⟩
  have S1 : StS Z.X.K Z.T M ρ σ H1 := pr.st.okeep gr T1
  have k01 : Kp (Mo ρ) H H1 := fun b o _ e => gr b o e
  have pr1 : Pre Z M ρ σ H1 := ⟨pr.m0, S1, pr.base.trans ⟨k01, fun _ z => .inl z⟩, pr.w0, pr.mu⟩
  have nfr : f ∉ L2.frs Z.X.stack := fun z => by
    rcases List.mem_cons.mp (I.stkSub _ z) with q | q
    · exact absurd I.lt (by rw [← q]; exact Nat.not_lt.mpr hsz)
    · exact I.nofs hsz q
  have now := lam_now I1 t.free hf hn nfr
  have cls := t.cls I1.ok
  generalize hL : (⟨Z.X.env.qual ++ "<lambda>", params, body, scope, cloFrom Z.X.env.cells scope.names [], pm, ctv, f, c'⟩ : Lam) = L at now
  obtain ⟨oc, od, dV, kV, doc, pme, an, cdv, ct, osl, rfl, lk, hcd, _, _⟩ := FDe.ex
  -- the end: label given out
  have fin : ∀ {lab : D} {ρ' : Env} {M' : AS} {σ' : DL.St} {H' : Hp} {v : V}, Φ (.dat lab) ρ' → Sim ρ ρ' → Kp (Mo ρ) H1 H' → (∀ a, M a → M' a) → (∀ a, M' a → M a ∨ H1 a = none) → StS Z.X.K Z.T M' ρ' σ' H' → Rp Z.X.K M' H' v lab → Post Z M ρ σ H Φ v H' := fun {lab ρ' M' σ' H' v} ph sim kp mo nw S' rp =>
    ⟨.dat lab, ρ', M', ph, sim, k01.trans kp, mo, fun b z => (nw b z).imp id fun w => fresh_back (W := fun _ => False) (fun a o _ e => gr a o e) (fun z => z) w, S1.again S' sim kp mo nw, rp⟩
  have rc : codeAny (model Z.X.prog Z.X.w) Z.X.A (.call (.ref fe) ⟨[.ref f], []⟩) (L2.CR (L2N.CX Z.X.prog Z.X.w) Z.X.stack Z.X.prog Z.X.w H1 s1 (Post Z M ρ σ H Φ) (fun _ _ _ => False)) s1 := by
    have bt := hbe s1 [.ref f] I1.kIn rfl
    refine run_ofS (k := k + 1) (N := [a, n]) (ps := [a]) (us := [.ref f]) (vs := [.ref f]) lk hcd ED.sc hr I1.env0 bt (.cons rfl .nil) rfl fun hr' => ?_
    have key : ∀ (W : WX) (D1 : Ends), (∀ (ρ' : Env) (M' : AS) (σ' : DL.St) (H' : Hp), Φ (.dat r0) ρ' → Sim ρ ρ' → Kp (Mo ρ) H1 H' → (∀ a, M a → M' a) → (∀ a, M' a → M a ∨ H1 a = none) → StS Z.X.K Z.T M' ρ' σ' H' → D1.nx (L2.start [a, n] [.ref f]) H') →
        (∀ cls H', (∃ σ' ρ' lab, LB cls lab ∧ Φ (.dat (.str lab)) ρ' ∧ Sim ρ ρ' ∧ StS Z.X.K Z.T (fun a => M a ∨ Mo ρ' a) ρ' σ' H' ∧ Step (Mo ρ) H1 (Mo ρ') H') → W cls none (L2.start [a, n] [.ref f]) H') →
        ∀ pn xe, L2N.Takes ((cxOf (L2N.CX Z.X.prog Z.X.w) Z.X.prog Z.X.w Z.X.K Z.X.mg Z.X.base [a, n] x scopeE fe cdv Z.X.A Z.X.stack s1 H1 (fun _ _ _ => False)).tr pn xe) W → uSs ((cxOf (L2N.CX Z.X.prog Z.X.w) Z.X.prog Z.X.w Z.X.K Z.X.mg Z.X.base [a, n] x scopeE fe cdv Z.X.A Z.X.stack s1 H1 (fun _ _ _ => False)).tr pn xe) [.Expr (.Call (.Name a p1) [] [] p2) p3] D1 (L2.start [a, n] [.ref f]) H1 := by
      intro W D1 hnx hex pn xe tk pins' s2 IY
      refine (pss_one (ps_expr (pe_u _ _) rfl)).run pins' s2 _ H1 _ IY ?_
      intro pins3 s3 I3
      refine wpAny_Call_Name_kw (thn ((pe_var (pos := p1) (i := 0) (x := a) rfl ED.va ED.da ED.dc).run pins3 s3 _ H1 (fun v H' => v = .ref f ∧ H' = H1) I3 ⟨.ref f, rfl, rfl, rfl⟩) fun u s4 ⟨v, H4, I4, r4, e4, eH⟩ => ?_)
      subst e4
      rw [eH] at I4
      cases r4
      have nw := (LamNow.into (Y := (cxOf (L2N.CX Z.X.prog Z.X.w) Z.X.prog Z.X.w Z.X.K Z.X.mg Z.X.base [a, n] x scopeE fe cdv Z.X.A Z.X.stack s1 H1 (fun _ _ _ => False)).tr pn xe) now rfl (fun _ _ z => absurd (show _ ∈ ([] : List Addr) from z) (by simp))).here I4
      subst hL
      refine PySem.W.callWith_F0 ⟨_, _, _, _, nw.at_.obj⟩ ?_
      have rc := cl_run (Q := Post (ctCl Z Z.X.N (Z.X.env.qual ++ "<lambda>") scope f c' (cloFrom Z.X.env.cells scope.names []) _ _ s4 H1 (WE W (L2.start [a, n] [.ref f])) (Mo ρ) M fun cls ρ' => Sim ρ ρ' ∧ ∃ lab, LB cls lab ∧ Φ (.dat (.str lab)) ρ') M ρ σ H1 (fun _ ρ' => Φ (.dat r0) ρ')) (k := k) (E := WE W (L2.start [a, n] [.ref f])) cls (nw.clv0 cls (fun y hy e => absurd ((t.own y hy).1 e) (by simp)) I1.len) I4.env0 hr' nw.at_.obj hc (hbind _ _ _ _ _) I4.nolimit
        fun hr2 => hbody _ _ _ _ _ _ _ _ _ _ _ hr2 ((L2N.takes_of rfl rfl rfl rfl).imp fun cls d σ' H' ⟨ed, ρ', ⟨sim, lab, hl, ph⟩, S', st'⟩ => ed ▸ hex cls H' ⟨σ', ρ', lab, hl, ph, sim, S', st'⟩) (fun L N σL ρL kL => ⟨⟨((LamNow.into (Y := (cxOf (L2N.CX Z.X.prog Z.X.w) Z.X.prog Z.X.w Z.X.K Z.X.mg Z.X.base [a, n] x scopeE fe cdv Z.X.A Z.X.stack s1 H1 (fun _ _ _ => False)).tr pn xe) (kL.gr.here I1) rfl (fun _ _ z => absurd (show _ ∈ ([] : List Addr) from z) (by simp))).here I4), fun _ _ z => absurd (show _ ∈ ([] : List Addr) from z) (by simp)⟩, (kL.now pr1).2, (kL.now pr1).1, kL.nown, kL.len⟩) M σ H1 ⟨fun _ h => h, S1, Step.refl _ _, S1.own, fun _ z => .inl z⟩
      refine wpAny_call (codeAny_mono rc fun r s5 hq => ?_)
      cases r with
      | error e => exact L2N.passAt tk _ pins3 H1 s4 e s5 I4 hq
      | ok fl =>
        cases fl with
        | ret u =>
          obtain ⟨v, H', I5, rv, r, ρ', M', ph, o⟩ := I4.after hq
          exact ⟨v, H', I5, rv, hnx ρ' M' σ H' ph o.sim o.kp o.more o.new o.st⟩
        | next => exact False.elim hq
        | brk => exact False.elim hq
        | cont => exact False.elim hq
    refine ⟨_, pss_cons (L2N.ps_try_as (X := cxOf (L2N.CX Z.X.prog Z.X.w) Z.X.prog Z.X.w Z.X.K Z.X.mg Z.X.base [a, n] x scopeE fe cdv Z.X.A Z.X.stack s1 H1 (fun _ _ _ => False)) (c := .ref PE) (i := 1)
      (tb := fun W D σ' H' => ∀ pn xe, L2N.Takes ((cxOf (L2N.CX Z.X.prog Z.X.w) Z.X.prog Z.X.w Z.X.K Z.X.mg Z.X.base [a, n] x scopeE fe cdv Z.X.A Z.X.stack s1 H1 (fun _ _ _ => False)).tr pn xe) W → uSs ((cxOf (L2N.CX Z.X.prog Z.X.w) Z.X.prog Z.X.w Z.X.K Z.X.mg Z.X.base [a, n] x scopeE fe cdv Z.X.A Z.X.stack s1 H1 (fun _ _ _ => False)).tr pn xe) [.Expr (.Call (.Name a p1) [] [] p2) p3] D σ' H')
      (ts := fun e cls d D σ' H' => ∀ oe pn, L2N.Zn cls d oe → (∃ vs, oe.data = .fields vs) → uSs ((cxOf (L2N.CX Z.X.prog Z.X.w) Z.X.prog Z.X.w Z.X.K Z.X.mg Z.X.base [a, n] x scopeE fe cdv Z.X.A Z.X.stack s1 H1 (fun _ _ _ => False)).suite e ((e, oe) :: pn)) [suite] D σ' H')
      (Wout := fun _ _ _ _ => False) rfl rfl ED.sc.nd rfl ED.ln ⟨ED.ge, ED.de, .inl ED.pe⟩ takes0N (fun W pn xe tk _ => ⟨fun pins s σ H D I h => h pn xe tk pins s I⟩) (fun e oe cls d pn hz hf => ⟨fun pins s σ H D I h => h oe pn hz hf pins s I⟩)) (pss_one (ps_u _ last)), ?_⟩
    -- behind a statement of that def that writes nothing
    have out : ∀ {Y : Ct} {vs : DL.St} {st : Stmt} {lab : D} {ρ' : Env} {M' : AS} {σ' : DL.St} {H' : Hp} {D : Ends}, Y.X.K = Z.X.K → Y.T = Z.T → Y.W0 = (fun _ => False) → Y.M0 = M' → Y.H0 = H' → DS Y st (rawsOf vs) { nx := fun _ => False, rt := fun r _ => r = .dat lab } → (∀ v H', Post Z M ρ σ H Φ v H' → D.rt v H') →
        Φ (.dat lab) ρ' → Sim ρ ρ' → Kp (Mo ρ) H1 H' → (∀ a, M a → M' a) → (∀ a, M' a → M a ∨ H1 a = none) → StS Z.X.K Z.T M' ρ' σ' H' → uS Y.X st D vs H' := fun {Y vs st lab ρ' M' σ' H' D} eK eT eW eM eH hds hD ph sim kp mo nw S' => by
      have mz0 : ∀ (vs : DL.St) a, Y.mz (rawsOf vs) a → M' a := fun vs a z => by
        rcases z with z | z
        · rw [← eM]; exact z
        · exact absurd z (rawsOf_mo a)
      refine uS.mono (hds vs H' ⟨fun a z => ?_, ?_, ?_⟩) ⟨fun _ _ ⟨_, z, _⟩ => z.elim, fun v H2 ⟨r, ρ2, σ2, M2, er, S2, st2, m2, pd, _⟩ => ?_, fun _ _ ⟨_, z, _⟩ => z.elim, fun _ _ ⟨_, z, _⟩ => z.elim⟩
      · rw [eW] at z; exact z.elim
      · rw [eK, eT]
        exact S'.raws vs (mz0 vs)
      · rw [eW, eH]
        exact ⟨Kp.refl _ _, fun a z => absurd z (rawsOf_mo a)⟩
      · subst er
        have k2 : Kp (fun _ => False) H' H2 := st2.kp.imp fun a z => absurd z (rawsOf_mo a)
        have tab2 : Tabs Z.T H2 := by rw [← eT]; exact S2.tab
        have pd' : Rp Y.X.K M2 H2 v lab := pd
        rw [eK] at pd'
        refine hD v H2 (fin ph sim (kp.trans (k2.imp fun _ z => z.elim)) mo nw (S'.calm (fun _ z => z) k2 tab2) (pd'.less fun a z => m2 a (.inl ?_)))
        rw [eM]; exact z
    refine key _ _ (fun ρ' M' σ' H' ph sim kp mo nw S' => ?_) fun cls H' ⟨σ', ρ', lab, hlab, ph, sim, S', st⟩ => ?_
    · exact out (Y := ⟨cxOf (L2N.CX Z.X.prog Z.X.w) Z.X.prog Z.X.w Z.X.K Z.X.mg Z.X.base [a, n] x scopeE fe cdv Z.X.A Z.X.stack s1 H1 (fun _ _ _ => False), Z.T, fun _ => False, M', H', fun _ _ => False⟩) (vs := L2.start [a, n] [.ref f]) rfl rfl rfl rfl rfl (hlast _ _ rfl) (fun v H' q => q) ph sim kp mo nw S'
    · refine ⟨true, hLB cls lab hlab, fun _ e he oe pn hz hf => ?_, fun z => Bool.noConfusion z⟩
      have nw' : ∀ b, (M b ∨ Mo ρ' b) → M b ∨ H1 b = none := fun b z => z.elim .inl fun z => .inl (S1.own b (by rw [← sim.mo]; exact z))
      have hs2 := out (Y := ⟨(cxOf (L2N.CX Z.X.prog Z.X.w) Z.X.prog Z.X.w Z.X.K Z.X.mg Z.X.base [a, n] x scopeE fe cdv Z.X.A Z.X.stack s1 H1 (fun _ _ _ => False)).suite e ((e, oe) :: pn), Z.T, fun _ => False, fun b => M b ∨ Mo ρ' b, H', fun _ _ => False⟩) (D := { nx := fun _ _ => False, rt := fun v H' => Post Z M ρ σ H Φ v H' }) (vs := [some (.ref f), some (.ref e)]) rfl rfl rfl rfl rfl (hsuite cls lab hlab cdv Z.X.A Z.X.stack s1 H1 H' (fun _ _ _ => False) f e oe pn (fun b => M b ∨ Mo ρ' b) hz hf hr') (fun v H' q => q) ph sim st.kp (fun _ z => .inl z) nw' S'
      intro pins9 s9 I9
      exact (pss_one (ps_u _ suite)).run pins9 s9 _ H' _ I9 (uS.mono hs2 ⟨fun _ _ z => z.elim, fun _ _ z => z, fun _ _ z => z.elim, fun _ _ z => z.elim⟩)
  refine wpAny_call (codeAny_mono rc fun r s5 hq => ?_)
  cases r with
  | error e =>
    obtain ⟨_, _, _, _, _, _, _, _, _, _, _, _, z⟩ := hq
    exact z.elim
  | ok fl =>
    cases fl with
    | ret u => exact I1.after hq
    | next => exact False.elim hq
    | brk => exact False.elim hq
    | cont => exact False.elim hq
end
end DL
set_option Elab.async false
set_option linter.all false
set_option maxRecDepth 100000
/-! DLt: a comprehension whose test lets nothing through; what was made before is known within. -/
namespace DL
open PySem PySem.Spec PyProof.Rows L2 HotX L2H LamX
section
variable {X : Cx} {pins : List (Addr × Obj)} {σ : DL.St} {H : Hp} {s : Shared}
theorem lcN {y : Str} {iy : Nat} {elt test iter : Expr} {scope : Scope} {own : List (Str × Nat)} {pos q2 : Pos} {Q : VK} (hc : X.calm = true) (hN : X.N.Nodup) (ok : BlkOk X.N X.env.scope scope own) (hy : (y, iy) ∈ own) (hyk : scope.names.lookup y = some .local ∨ scope.names.lookup y = some .cell) (I : Inv X pins σ H s) (hs : ∀ x, foldedSetIterable iter X.env x = pure x)
    (h : uE X iter σ H fun v H1 => ∃ a xs, v = .ref a ∧ SqL X.K H1 a xs ∧ ∀ D, H1 D = none → ∃ Pv : Hp → Prop, Pv (upd H1 D (.lst [])) ∧ (∀ H', Pv H' → SqL X.K H' a xs) ∧ (∀ H', Pv H' → Q (.ref D) H') ∧
      ∀ (s2 s3 : Shared) (C : Addr) (cl : List (Str × Addr)) (it : Addr) (i : Nat) (x : V) (H' : Hp), Inv X pins σ H1 s2 → (∀ b o, s2.heap.get? b = some o → s3.heap.get? b = some o) → s2.heap.objs.size ≤ it → s2.heap.objs.size ≤ D → xs[i]? = some x → Pv H' →
        uT (X.blk s3 (upd H1 D (.lst [])) scope (compEnvC scope cl C X.env) [it]) test ((wipe σ (own.map (·.2))).set iy (some x)) H' fun b H3 => b = false ∧ Pv H3) :
    wpAny (model X.prog X.w) X.A (eval (.ListComp elt [⟨.Name y q2, iter, [test], 0⟩] scope pos) X.env) (EP X pins σ Q) X.xe s := by
  rw [eval_ListComp]
  have hfree : ∀ z ∈ scope.names, z.2 = .free → ∃ c, X.env.cells.lookup z.1 = some c := fun z hz e => (ok.free z hz e).elim (fun k => I.ok.has _ (.inl k)) fun k => I.ok.has _ (.inr k)
  refine wpAny_comprehension_free (use := none) rfl hs (closure_ok hfree) ok.kind (fun z hz e => by rw [ok.uniq z hz, e]) (thn (h pins s I) fun v s1 ⟨w, H1, I1, r1, a, xs, ew, hq, after⟩ => ?_)
  subst ew
  cases r1
  obtain ⟨us, ru, pa, _⟩ := I1.list hq
  refine wpAny_pyIter_list pa.isList ?_
  refine wpAny_newObj_type (newEnv_comp ?_) (by show 0 ≤ sizeLine; decide)
  generalize hit : s1.heap.objs.size = it
  generalize hh1 : s1.heap.push { cls := .type "list_iterator", data := .fields #[.ref a, .int 0 0] } = h1
  have k1 : ∀ b o, s1.heap.get? b = some o → h1.get? b = some o := fun b o e => by rw [← hh1]; exact Heap.get?_push_of_some _ e
  have I2 : Inv X pins σ H1 { s1 with heap := h1 } := I1.kept (t' := s1.toks) k1
  have st1 : h1.IsListIter it a 0 := by rw [← hh1, ← hit]; exact ⟨_, Heap.get?_push_size _ rfl, rfl, rfl⟩
  have sz1 : h1.objs.size = it + 1 := by rw [← hh1, Heap.size_push, hit]
  have fit : FpOk X pins H1 it := I1.fpOk (Nat.le_of_eq hit) (I1.hok.fresh (Nat.le_of_eq hit))
  generalize hD : h1.objs.size = D
  have nD : H1 D = none := I2.hok.fresh (Nat.le_of_eq hD)
  obtain ⟨Pv, p0, pq, pend, turn⟩ := after D nD
  generalize hh2 : h1.push { cls := .type "list", data := .seq ([] : List Value).toArray } = h2
  have k2 : ∀ b o, h1.get? b = some o → h2.get? b = some o := fun b o e => by rw [← hh2]; exact Heap.get?_push_of_some _ e
  have I3 : Inv X pins σ (upd H1 D (.lst [])) { s1 with heap := h2 } := by
    rw [← hh2]
    refine I2.laid (t' := s1.toks) (fun c o e => Heap.get?_push_of_some _ e) (Nat.le_of_eq hD) ⟨Nat.zero_le _, [], 0, .nil, ?_⟩
    rw [← hD]
    exact Heap.get?_push_size _ rfl
  have sz2 : h2.objs.size = D + 1 := by rw [← hh2, Heap.size_push, hD]
  have nDit : it ≠ D := by rw [← hD, sz1]; exact Nat.ne_of_lt (Nat.lt_succ_self _)
  have f3 : ∀ b ∈ [it], FpOk X pins (upd H1 D (.lst [])) b ∧ b < h2.objs.size := fun b hb => by
    have e : b = it := by simpa using hb
    subst e
    exact ⟨⟨by rw [upd_ne nDit]; exact fit.1, fit.2⟩, by rw [sz2, ← hD, sz1]; omega⟩
  have I4 := block_start I3 ok hN f3
  generalize hH3 : upd H1 D (.lst []) = H3 at *
  generalize hs3 : ({ s1 with heap := h2 } : Shared) = s3 at *
  have eh2 : s3.heap = h2 := by rw [← hs3]
  generalize hcl : cellsFrom (s3.heap.objs.size + 1) scope.names (cloFrom X.env.cells scope.names []) = cl at *
  generalize hs4 : ({ s3 with heap := pushCells (s3.heap.push { cls := .type "dict", data := .dict #[] }) scope.names } : Shared) = s4 at *
  have T := turn_list (P := X.prog) (w := X.w) (K := X.K) (tg := .Name y q2) a it
  have st4 : s4.heap.IsListIter it a 0 := T.keep 0 _ _ st1 fun b _ o e => by rw [← hs4]; exact pushCells_keeps _ _ _ _ (Heap.get?_push_of_some _ (by rw [eh2]; exact k2 _ _ e))
  have hlen := I.len
  have stat : ∀ {σ' : DL.St} {H' : Hp} {s' : Shared}, Inv (X.blk s3 H3 scope (compEnvC scope cl s3.heap.objs.size X.env) [it]) [] σ' H' s' → H' it = none → ∀ b ∈ [it], FpOk (X.blk s3 H3 scope (compEnvC scope cl s3.heap.objs.size X.env) [it]) [] H' b := fun {σ' H' s'} J nn b hb => by
    have e : b = it := by simpa using hb
    subst e
    exact ⟨nn, (J.ok.exf b hb).1, J.ok.exfs b hb, .inl hb, (J.ok.exf b hb).2, fun q hq => absurd (show q ∈ ([] : List (Addr × Obj)) ++ [] from hq) (by simp)⟩
  have iyl : iy < σ.length := by
    rw [hlen]
    exact (List.getElem?_eq_some_iff.mp (ok.ix _ hy)).1
  have loc : Loc (X.blk s3 H3 scope (compEnvC scope cl s3.heap.objs.size X.env) [it]).env.scope y := by
    show Loc (relS scope X.env.scope) y
    rcases hyk with k | k
    · exact .inl (lookup_relS_keep (by simp) k)
    · exact .inr (lookup_relS_keep (by simp) k)
  show codeAny (model X.prog X.w) X.A (.compStart (.ListComp elt [⟨.Name y q2, iter, [test], 0⟩] scope pos) 0 (.ref it) (.ref D) (compEnvC scope cl s3.heap.objs.size X.env)) (compPost (model X.prog X.w) X.A X.xe none (EP X pins σ Q) (.ref D) s3.heap.objs.size) s4
  suffices loop : codeAny (model X.prog X.w) X.A (.compLoop (.ListComp elt [⟨.Name y q2, iter, [test], 0⟩] scope pos) 0 (.ref it) (.ref D) (compEnvC scope cl s3.heap.objs.size X.env)) (compPost (model X.prog X.w) X.A X.xe none (EP X pins σ Q) (.ref D) s3.heap.objs.size) s4 from codeAny_compStart_list loop (T.self X.A 0 _ _ _ st4 loop)
  refine compLoop_any (fun m s' => ∃ i H', Inv (X.blk s3 H3 scope (compEnvC scope cl s3.heap.objs.size X.env) [it]) [] (wipe σ (own.map (·.2))) H' s' ∧ s'.heap.IsListIter it a i ∧ H' it = none ∧ m = xs.length - i ∧ i ≤ xs.length ∧ Pv H') ?_ xs.length ⟨0, H3, I4, st4, (f3 it (by simp)).1.1, rfl, Nat.zero_le _, p0⟩
  rintro m s5 ⟨i, H5, J, st5, n5, em, hi, pv⟩
  have f5 := stat J n5
  have q5 := pq H5 pv
  by_cases hlt : i < xs.length
  · have hx : xs[i]? = some xs[i] := List.getElem?_eq_getElem hlt
    refine thnF (T.item (X.blk s3 H3 scope (compEnvC scope cl s3.heap.objs.size X.env) [it]) rfl rfl rfl hc i [] s5 _ H5 (fun _ _ => False) J f5 st5 ⟨xs, xs[i], q5, hx⟩) fun r s6 ⟨u, hr, h6⟩ => ?_
    subst hr
    refine thnF h6 fun _ s7 ⟨x, H7, J7, rx, ⟨eH, yx⟩, st7, n7⟩ => ?_
    subst eH
    have ex : x = xs[i] := by
      have := yx xs q5
      rw [hx] at this
      exact (Option.some.inj this).symm
    subst ex
    have J7' := J7.pinned (stat J7 (n7 it (by simp))) (T.obj _ _ st7)
    have pg : PG (X.blk s3 H3 scope (compEnvC scope cl s3.heap.objs.size X.env) [it]) (.Name y q2) (gName iy) := pg_name hN (ok.ix _ hy) loc (by
      rcases hyk with k | k
      · exact .inr (lookup_relS_keep (by simp) k)
      · exact .inl (by show (scope.names.lookup y == some NameKind.cell) = true; rw [k]; rfl))
    refine thnF (pg.run _ s7 _ H7 _ u (fun σ2 H2 => σ2 = (wipe σ (own.map (·.2))).set iy (some xs[i]) ∧ H2 = H7) J7' rx ⟨rfl, rfl⟩) fun _ s8 ⟨σ8, H8, J8, e8, eH8⟩ => ?_
    subst e8 eH8
    have tt := turn { s1 with heap := s1.heap } s3 s3.heap.objs.size cl it i xs[i] H8 I1 (fun b o e => by rw [eh2]; exact k2 _ _ (k1 _ _ e)) (Nat.le_of_eq hit) (by show s1.heap.objs.size ≤ D; rw [← hD, sz1, hit]; exact Nat.le_succ _) hx pv
    refine thnF ((pts_one (pt_u (X.blk s3 H3 scope (compEnvC scope cl s3.heap.objs.size X.env) [it]) test)).run _ s8 _ H8 _ J8 tt) fun b s9 ⟨H9, J9, eb, pv9⟩ => ?_
    subst eb
    simp only [Bool.false_eq_true, if_false]
    have pin9 : ∀ o, s7.heap.get? it = some o → s9.heap.get? it = some o ∧ H9 it = none := fun o e =>
      have z := J9.pin (it, o) (List.mem_append_right _ (List.mem_append_right _ (mem_pinsAt (by simp) e)))
      ⟨z.1, z.2.1⟩
    refine ⟨xs.length - (i + 1), by omega, i + 1, H9, (J9.unpinned (pins := [])).weak (by simp) (fun j v e => ?_), T.keep _ _ _ st7 fun b hb o e => ?_, ?_, rfl, hlt, pv9⟩
    · obtain ⟨_, nj⟩ := wipe_some e
      rw [List.getElem?_set_ne (fun z => nj (by rw [← z]; exact List.mem_map.mpr ⟨_, hy, rfl⟩))]
      exact e
    · have eb : b = it := by simpa using hb
      subst eb
      exact (pin9 o e).1
    · obtain ⟨o, e, _⟩ := st7
      exact (pin9 o e).2
  · refine thnF (T.done (X.blk s3 H3 scope (compEnvC scope cl s3.heap.objs.size X.env) [it]) rfl rfl rfl hc i [] s5 _ H5 (fun _ _ => False) J f5 st5 ⟨xs, q5, by omega⟩) fun r s6 ⟨hr, J6⟩ => ?_
    subst hr
    have I7 : Inv X pins σ H5 s6 := I3.call' (ch := [it]) J6.os J6.base J6.hok J6.bare fun c hc => ⟨(f3 c hc).1.2.2.2.1, (f3 c hc).1.2.1, (f3 c hc).1.2.2.2.2.1, (f3 c hc).1.2.2.2.2.2⟩
    have nC : H5 s3.heap.objs.size = none := J6.free
    obtain ⟨mm, hnn, _⟩ := J6.loc
    have hnn : Heap.Ns s6.heap s3.heap.objs.size mm := hnn
    obtain ⟨_, f1, f2, f4, f6, f7⟩ := I3.fpOk (Nat.le_refl _) nC
    exact ⟨mm, hnn, fun h'' sb => ⟨.ref D, H5, I7.turned (it := s3.heap.objs.size) (t' := s6.toks) (fun c o hc e => (sb.2 c hc).trans e) nC f1 f4 f6 f7, rfl, pend H5 pv⟩⟩
end
section
variable {Z : Ct} {ρ ρ1 ρ2 : Env} {Φ : Rv → Env → Prop} {M M1 : AS} {σ σ1 : DL.St} {H H1 H2 : Hp}
theorem backW_same {vs : List Nat} {iy : Nat} {c : Option C} (hy : iy ∈ vs) : backW ρ ((wipeE ρ vs).set iy c) vs = ρ := by
  apply List.ext_getElem?
  intro i
  by_cases hi : i ∈ vs
  · exact backW_in (by rw [List.length_set, wipeE_len]) hi
  · rw [backW_out hi, List.getElem?_set_ne (fun z => hi (by rw [← z]; exact hy)), wipeE_out hi]
theorem de_lcN {y : Str} {elt test e1 : Expr} {scope : Scope} {pos q2 : Pos} (own : List (Str × Nat)) (iy : Nat) (hy : (y, iy) ∈ own := by simp)
    (h : DE Z e1 ρ fun r ρ1 => ∃ ds, vwd r = some (.list ds) ∧ noOwn ρ1 (own.map (·.2)) = true ∧ Φ (.frs (.lst [])) ρ1 ∧ ∀ d ∈ ds, ∀ s H C cl fp, (∀ L N σL ρL, LamK Z L N σL ρL → LamK (Z.blk scope s H C cl fp) L N σL ρL) →
      DT (Z.blk scope s H C cl fp) test ((wipeE ρ1 (own.map (·.2))).set iy (some (.dat d))) fun b ρ' => b = false ∧ ρ' = (wipeE ρ1 (own.map (·.2))).set iy (some (.dat d)))
    (ok : BlkOk Z.X.N Z.X.env.scope scope own) (hyk : scope.names.lookup y = some .local ∨ scope.names.lookup y = some .cell) (hN : Z.X.N.Nodup := by assumption) (hc : Z.X.calm = true := by rfl) (hs : ∀ x, foldedSetIterable e1 Z.X.env x = pure x := by intro _; rfl) :
    DE Z (.ListComp elt [⟨.Name y q2, e1, [test], 0⟩] scope pos) ρ Φ := fun M σ H pr pins s I =>
  lcN hc hN ok hy hyk I hs ((h M σ H pr).mono fun v H1 ⟨r, ρ1, M1, ⟨ds, ed, no, ph, turn⟩, o⟩ => by
    obtain ⟨a, xs, rfl, ha, ga⟩ := o.lst ed
    have L := o.less pr
    have hv : iy ∈ own.map (·.2) := List.mem_map.mpr ⟨_, hy, rfl⟩
    refine ⟨a, xs, rfl, ha.sq, fun D nD => ?_⟩
    have nM : ¬ M D := fun z => L.st.liv D z nD
    have nMo : ¬ Mo ρ D := fun z => nM (pr.st.own D z)
    have nD0 : H D = none := fresh_back o.kp nMo nD
    have prL : Pre Z M ρ1 σ H1 := L.pre pr
    refine ⟨fun H' => StS Z.X.K Z.T (fun b => M b ∨ b = D) ρ1 σ H' ∧ Kp (Mo ρ) H H' ∧ (LsM Z.X.K (fun b => M b ∨ b = D) H' a xs ∧ RpA Z.X.K (fun b => M b ∨ b = D) H' xs ds) ∧ H' D = some (.lst []), ⟨?_, ?_, ⟨?_, ?_⟩, upd_same⟩, fun H' q => q.2.2.1.1.sq, fun H' ⟨S, kp, _, eD⟩ => ?_, fun s2 s3 C cl it i x H' I2 k23 hit hD2 hx ⟨S, kp, ⟨hl, g⟩, eD⟩ => ?_⟩
    · refine L.st.laid (up_new nD) (fun b z => ?_) fun b z => .inl z
      rcases z with z | z
      · exact .inl z
      · subst z; exact .inr ⟨nD, _, upd_same, solid_lst⟩
    · exact o.kp.trans (kp_new nD)
    · exact ha.keep (fun b u _ e => .inl (up_new nD b u e)) fun b z => z.elim .inl fun z => .inr (by rw [z]; exact nD)
    · exact ga.keep (fun b u _ e => .inl (up_new nD b u e)) fun b z => z.elim .inl fun z => .inr (by rw [z]; exact nD)
    · exact ⟨.frs (.lst []), ρ1, _, ph, o.sim, kp, fun b z => .inl z, fun b z => z.elim .inl fun z => .inr (by rw [z]; exact nD0), S, D, rfl, .inr rfl, nM, [], eD, .nil⟩
    · obtain ⟨d, hd, rx⟩ := g.getV hx
      have Sw := (S.wipe (vs := own.map (·.2))).set (i := iy) (fun _ _ z => by cases z) (show CR Z.X.K _ H' x (.dat d) from rx)
      have mo2 : ∀ b, Mo ((wipeE ρ1 (own.map (·.2))).set iy (some (.dat d))) b → Mo ρ b := fun b z => by
        rw [← o.sim.mo]
        exact mo_wipe b (mo_set (fun _ _ z => by cases z) b z)
      have pw : Pre (Z.blk scope s3 (upd H1 D (.lst [])) C cl [it]) (fun b => M b ∨ b = D) ((wipeE ρ1 (own.map (·.2))).set iy (some (.dat d))) ((L2.wipe σ (own.map (·.2))).set iy (some x)) H' :=
        ⟨fun b z => .inl (pr.m0 b z), Sw, pr.base.trans ⟨kp, fun b z => .inl (mo2 b z)⟩, pr.w0, pr.more fun b z => z.elim .inl fun z => .inr (by rw [z]; exact nD0)⟩
      refine (turn d (List.mem_of_getElem? hd) s3 (upd H1 D (.lst [])) C cl [it] (fun L N σL ρL kL => ?_) _ _ _ pw).mono fun b H3 ⟨ρ', ⟨eb, eρ⟩, t⟩ => ?_
      · have n2 := kL.gr.here I2
        refine ⟨⟨⟨n2.at_.keep (fun o e => k23 _ _ e) fun x c e o q => ⟨o.slots, k23 _ _ q⟩, fun b m => ?_, n2.nof⟩, fun b m z => ?_⟩, kL.code, kL.st, kL.nown, kL.len⟩
        · show upd H1 D (.lst []) b = none
          obtain ⟨o, e⟩ := n2.at_.there m
          rw [upd_ne (fun z => Nat.lt_irrefl _ (Nat.lt_of_lt_of_le (Heap.lt_size e) (by rw [z]; exact hD2)))]
          exact n2.free b m
        · have z : b ∈ [it] := z
          have z : b = it := by simpa using z
          obtain ⟨o, e⟩ := n2.at_.there m
          exact Nat.lt_irrefl _ (Nat.lt_of_lt_of_le (Heap.lt_size e) (by rw [z]; exact hit))
      · subst eb eρ
        have kp3 : Kp (Mo ((wipeE ρ1 (own.map (·.2))).set iy (some (.dat d)))) H' H3 := t.kp
        have kM : ∀ b u, ¬ (M b ∨ b = D) → H' b = some u → OKeep u (H3 b) := fun b u n e => kp3 b u (fun z => n (.inl (pr.st.own b (mo2 b z)))) e
        have bk := (S.backW no t.st (kp3.imp fun b z => by rw [o.sim.mo]; exact mo2 b z) (Sim.refl _) (by rw [List.length_set, wipeE_len]) (fun i hi => by rw [List.getElem?_set_ne (fun z => hi (by rw [← z]; exact hv)), wipeE_out hi]) (by rw [wipe_set hv]; exact wipe_wipe fun i hi => hi)).1
        rw [backW_same hv] at bk
        refine ⟨rfl, bk, kp.trans (kp3.imp mo2), ⟨hl.keep kM fun b z => .inl z, g.keep kM fun b z => .inl z⟩, ?_⟩
        exact (kp3 D _ (fun z => nMo (mo2 D z)) eD).eq fun _ z => by cases z)
end
end DL
set_option Elab.async false
set_option linter.all false
set_option maxRecDepth 100000
/-! DLu: a def that gets a lambda of one parameter, and data. -/
namespace DL
open PySem PySem.Spec PyProof.Rows L2 HotX L2H LamX
/-- the slots but what is owned -/
def strip (ρ : Env) : Env := ρ.map fun c => match c with
  | some (.own _ _) => none
  | c => c
theorem strip_get {ρ : Env} {i : Nat} {c : C} (h : (strip ρ)[i]? = some (some c)) : ρ[i]? = some (some c) ∧ ∀ a m, c ≠ .own a m := by
  unfold strip at h
  rw [List.getElem?_map] at h
  cases e : ρ[i]? with
  | none => rw [e] at h; cases h
  | some o =>
    rw [e] at h
    cases o with
    | none => cases h
    | some c' =>
      cases c' with
      | dat d => cases h; exact ⟨rfl, fun _ _ z => by cases z⟩
      | raw v => cases h; exact ⟨rfl, fun _ _ z => by cases z⟩
      | own a m => cases h
theorem strip_mo {ρ : Env} : ∀ a, ¬ Mo (strip ρ) a := fun a ⟨i, m, h⟩ => (strip_get h).2 a m rfl
theorem StS.strip {K : PySem.W.Frag} {T : List (Addr × Str)} {M M' : AS} {ρ : Env} {σ : DL.St} {H : Hp} (S : StS K T M ρ σ H) (s : ∀ a, M' a → M a) : StS K T M' (strip ρ) σ H :=
  ⟨by unfold DL.strip; rw [List.length_map]; exact S.len, fun a z => absurd z (strip_mo a), fun a z => S.lv a (s a z), fun i c e => by
    obtain ⟨e1, n⟩ := strip_get e
    obtain ⟨v, e2, r⟩ := S.at_ i c e1
    exact ⟨v, e2, r.keep (fun _ _ _ z => .inl z) (fun b z => .inl (s b z)) fun a m z => absurd z (n a m)⟩, fun i j m n a e _ => absurd ⟨i, m, e⟩ (strip_mo a), S.tab⟩
section
variable {Z : Ct} {ρ ρ1 ρ2 : Env} {Φ : Rv → Env → Prop} {M M1 : AS} {σ σ1 : DL.St} {H H1 H2 : Hp}
/-- the context of the def that gets the lambda -/
abbrev ctL (Z : Ct) (N : List Str) (x : Str) (scope : Scope) (f : Addr) (cdv : Value) (A : Around) (outer : List PySem.Env) (s : Shared) (H : Hp) (E : XK) (M0 : AS) : Ct :=
  ⟨cxOf (L2N.CX Z.X.prog Z.X.w) Z.X.prog Z.X.w Z.X.K Z.X.mg Z.X.base N x scope f cdv A outer s H E, Z.T, fun _ => False, M0, H, fun _ _ => False⟩
theorem de_callLam {x a : Str} {f : Addr} {fd : FuncData} {paramsF : Arguments} {bodyF : List Stmt} {scopeF : Scope} {NF psF : List Str} (FD : FunD Z.X.K x x paramsF bodyF scopeF [] [] f fd) (SF : FnScope NF psF scopeF) (hbF : Binds Z.X.K fd psF []) (hm : Z.X.mg x = some (.ref f))
    {c P : Addr} (TZ : TabZ Z c P) {k : Nat} (hr : Room (k + 1) Z.X.A) {params : Arguments} {body : Expr} {scope : Scope} {p4 lpos pos : Pos} {es : List Expr} (t : LamT Z.X.env.scope scope [a]) (na : a ∉ Z.X.N) (hdef : defaultsOf params Z.X.env = ([], []))
    (hbind : ∀ (q : Str) (cl : List (Str × Addr)) (pm cv ctv : Value) (u : Value), bindArgs (PySem.W.kla_fn "<lambda>" q params body scope cl pm cv ctv) ⟨[u], []⟩ = pure [(a, u)])
    (h : DA Z es ρ fun rs ρ1 => ∃ ds, vwds rs = some ds ∧ ds.length + 1 = psF.length ∧ ∃ d, Φ (.dat d) ρ1 ∧ ∀ (L : Lam) (σL : DL.St) (cdv : Value) (A : Around) (outer : List PySem.Env) (s : Shared) (H : Hp) (E : XK) (M0 : AS), (∃ o fd, Z.X.K.lookup f = some o ∧ o.data = .func fd ∧ fd.code = cdv) → L.body = body → L.scope = scope → LamI L Z.X.N a →
      LamK (ctL Z NF x scopeF f cdv A outer s H E M0) L Z.X.N σL (strip ρ1) → Room k (ctL Z NF x scopeF f cdv A outer s H E M0).X.A → DSs (ctL Z NF x scopeF f cdv A outer s H E M0) bodyF (ent NF.length (.raw (.ref L.f) :: ds.map .dat)) { nx := fun _ => False, rt := fun r _ => r = .dat d })
    (hg : Gl Z.X x := by rfl) (hdb : (x == ("__debug__" : Str)) = false := by decide) (hs : starEach (.Lambda params body scope lpos :: es) Z.X.env = (false, eval (.Lambda params body scope lpos) Z.X.env) :: starEach es Z.X.env := by rfl) (hpl : (backTo pos (starEach es Z.X.env)).any (·.1) = false := by rfl) :
    DE Z (.Call (.Name x p4) (.Lambda params body scope lpos :: es) [] pos) ρ Φ := fun M σ H pr pins s I => by
  refine wpAny_Call_Name_kw (ld_glob I hg hm ?_ hdb)
  refine PySem.W.callWith_K (h₀ := Z.X.base) I.ok.mod.kin FD.kp ?_ hs hpl
  rw [hs]
  have hfree : ∀ y ∈ scope.names, y.2 = .free → ∃ c, Z.X.env.cells.lookup y.1 = some c := fun y hy e => I.ok.has _ (t.free y hy e)
  refine Calls.spliced_cons (lam_mk I TZ.tb TZ.code TZ.mem TZ.uniq pr.st.tab hdef hfree fun fl c' pm ctv H1 s1 I1 gr T1 hsz hf hn hc => ?_)
  have S1 : StS Z.X.K Z.T M ρ σ H1 := pr.st.okeep gr T1
  have k01 : Kp (Mo ρ) H H1 := fun b o _ e => gr b o e
  have pr1 : Pre Z M ρ σ H1 := ⟨pr.m0, S1, pr.base.trans ⟨k01, fun _ z => .inl z⟩, pr.w0, pr.mu⟩
  have nfr : fl ∉ L2.frs Z.X.stack := fun z => by
    rcases List.mem_cons.mp (I.stkSub _ z) with q | q
    · exact absurd I.lt (by rw [← q]; exact Nat.not_lt.mpr hsz)
    · exact I.nofs hsz q
  have cls := t.cls I1.ok
  generalize hob : PySem.W.kla_obj "<lambda>" (Z.X.env.qual ++ "<lambda>") params body scope (cloFrom Z.X.env.cells scope.names []) pm c' ctv = ob at hf
  have I1p : Inv Z.X (pins ++ [(fl, ob)]) σ H1 s1 := I1.pins_of fun q hq => by
    rcases List.mem_append.mp hq with hq | hq
    · exact I1.pin q (List.mem_append_right _ hq)
    · have eq : q = (fl, ob) := by simpa using hq
      subst eq
      refine ⟨hf, hn, fun z => ?_, I.nofs hsz, fun v z => ?_⟩
      · exact absurd I.lt (by rw [← z]; exact Nat.not_lt.mpr hsz)
      · subst hob; cases z
  refine thn (h M σ H1 pr1 pos _ s1 I1p) fun us s2 ⟨vs, H2, I2p, rv, rs, ρ1, M2, ⟨ds, ev, hln, d, ph, hb⟩, o⟩ => ⟨I2p.kIn, ?_⟩
  obtain ⟨hf2, hn2, _⟩ := I2p.pin (fl, ob) (List.mem_append_right _ (List.mem_append_right _ (by simp)))
  have I2 : Inv Z.X pins σ H2 s2 := I2p.unpinned
  subst hob
  have now := lam_now I2 t.free hf2 hn2 nfr
  have ncM : ¬ Mo ρ c' := fun z => by
    obtain ⟨o', e', so⟩ := S1.lv _ (S1.own _ z)
    rw [hc] at e'
    cases e'
    exact so.1 _ rfl
  have hc2 : H2 c' = some (CodeO c' (Z.X.env.qual ++ "<lambda>")) := (o.kp c' _ ncM hc).eq fun qs w => codeO_ne qs w
  have pr2 := o.pre pr1
  have L2' := o.less pr1
  have S2 : StS Z.X.K Z.T M ρ1 σ H2 := L2'.st
  have rd : RpA Z.X.K M H2 vs ds := o.pd.data o.more ev
  have lenV : vs.length = ds.length := rd.length
  generalize hL : (⟨Z.X.env.qual ++ "<lambda>", params, body, scope, cloFrom Z.X.env.cells scope.names [], pm, ctv, fl, c'⟩ : Lam) = L at now
  have eLf : L.f = fl := by rw [← hL]
  obtain ⟨oc, od, dV, kV, doc, pme, an, cdv, ct, osl, rfl, lk, hcd, _, _⟩ := FD.ex
  have li : LamI L Z.X.N a := by
    rw [← hL]
    exact ⟨cls, fun y hy e => (t.own y hy).1 e, na, fun u => hbind _ _ _ _ _ u⟩
  have lenN : σ.length = Z.X.N.length := I2.len
  have lK : LamK (ctL Z NF x scopeF f cdv Z.X.A Z.X.stack s2 H2 (fun _ _ _ => False) M) L Z.X.N σ (strip ρ1) := by
    refine ⟨LamNow.into (Y := (ctL Z NF x scopeF f cdv Z.X.A Z.X.stack s2 H2 (fun _ _ _ => False) M).X) now rfl (fun _ _ z => absurd (show _ ∈ ([] : List Addr) from z) (by simp)), ?_, S2.strip fun a z => z, strip_mo, lenN⟩
    rw [← hL]
    exact hc2
  have hup : Mo (up (.raw (.ref L.f) :: ds.map .dat)) = fun _ => False := by
    funext b
    apply propext
    refine ⟨fun ⟨i, m, e⟩ => ?_, fun z => z.elim⟩
    have e := up_get e
    cases i with
    | zero => cases e
    | succ i =>
      have e : (ds.map C.dat)[i]? = some (.own b m) := by simpa using e
      rw [List.getElem?_map] at e
      cases q : ds[i]? with
      | none => rw [q] at e; cases e
      | some d => rw [q] at e; cases e
  have S0 : StS Z.X.K Z.T M (up (.raw (.ref L.f) :: ds.map .dat)) (upV (.ref L.f :: vs)) H2 := by
    refine ⟨by simp [lenV], fun b z => by rw [hup] at z; exact z.elim, S2.lv, fun i c e => ?_, fun i j m n b e _ => absurd (show Mo _ b from ⟨i, m, e⟩) (by rw [hup]; exact fun z => z), S2.tab⟩
    have e := up_get e
    cases i with
    | zero => cases e; exact ⟨_, rfl, rfl⟩
    | succ i =>
      have e : (ds.map C.dat)[i]? = some c := by simpa using e
      rw [List.getElem?_map] at e
      cases q : ds[i]? with
      | none => rw [q] at e; cases e
      | some d =>
        rw [q] at e
        cases e
        obtain ⟨v, e1, r1⟩ := rd.get q
        exact ⟨v, by rw [List.getElem?_map]; simp [e1], r1⟩
  have rc : codeAny (model Z.X.prog Z.X.w) Z.X.A (.call (.ref f) ⟨.ref fl :: us, []⟩) (L2.CR (L2N.CX Z.X.prog Z.X.w) Z.X.stack Z.X.prog Z.X.w H2 s2 (Post Z M ρ σ H Φ) (fun _ _ _ => False)) s2 := by
    have bt := hbF s2 (.ref fl :: us) I2.kIn (by rw [List.append_nil, List.length_cons, ← rv.length, lenV]; exact hln)
    rw [List.append_nil] at bt
    refine run_ofS (k := k) (N := NF) (ps := psF) (us := .ref fl :: us) (vs := .ref fl :: vs) lk hcd SF hr I2.env0 bt (.cons rfl rv) (by rw [List.length_cons, lenV]; exact hln) fun hr' => ⟨_, pss_u _ bodyF, ?_⟩
    rw [← eLf]
    have mo0 : ∀ b, ¬ Mo (ent NF.length (.raw (.ref L.f) :: ds.map .dat)) b := fun b z => by
      rw [ent_mo, hup] at z
      exact z
    have pre : PreS (ctL Z NF x scopeF f cdv Z.X.A Z.X.stack s2 H2 (fun _ _ _ => False) M) (ent NF.length (.raw (.ref L.f) :: ds.map .dat)) (L2.start NF (.ref L.f :: vs)) H2 :=
      ⟨fun _ z => z.elim, (S0.entry (N := NF)).less (fun b z => .inr z) (fun b z => z.elim id fun z => absurd z (mo0 b)), ⟨Kp.refl _ _, fun b z => absurd z (mo0 b)⟩⟩
    refine uSs.mono (hb L σ cdv Z.X.A Z.X.stack s2 H2 (fun _ _ _ => False) M ⟨_, _, lk, rfl, rfl⟩ (by rw [← hL]) (by rw [← hL]) li lK hr' _ H2 pre) ⟨fun _ _ ⟨_, z, _⟩ => z.elim, fun v H' ⟨r, ρ9, σ', M', er, S9, st9, m9, pd9, nw9⟩ => ?_, fun _ _ ⟨_, z, _⟩ => z.elim, fun _ _ ⟨_, z, _⟩ => z.elim⟩
    subst er
    have k2 : Kp (fun _ => False) H2 H' := st9.kp.imp fun b z => absurd z (mo0 b)
    have S3 : StS Z.X.K Z.T M ρ1 σ H' := S2.calm (fun _ z => z) k2 S9.tab
    have pd' : Rp Z.X.K M' H' v d := pd9
    exact ⟨.dat d, ρ1, M, ph, o.sim, k01.trans (o.kp.trans (k2.imp fun _ z => z.elim)), fun _ z => z, fun _ z => .inl z, S3, pd'.less fun b z => m9 b (.inl z)⟩
  refine wpAny_call (codeAny_mono rc fun r s5 hq => ?_)
  cases r with
  | error e =>
    obtain ⟨_, _, _, _, _, _, _, _, _, _, _, _, z⟩ := hq
    exact z.elim
  | ok fl =>
    cases fl with
    | ret u => exact I2.after hq
    | next => exact False.elim hq
    | brk => exact False.elim hq
    | cont => exact False.elim hq
end
end DL
set_option Elab.async false
set_option linter.all false
set_option maxRecDepth 100000
/-! DLv: more rules: order of tuples of ints, in a tuple, texts by a number, split, list(range(..)). -/
namespace DL
open PySem PySem.Spec PyProof.Rows L2
section
variable {Z : Ct} {ρ ρ1 ρ2 : Env} {Φ : Rv → Env → Prop} {r r0 r1 r2 : Rv} {d d1 d2 : D} {a b e : Expr} {pos : Pos}
theorem Room.u64 {k : Nat} {A : Around} (r : L2.Room k A) : A.units + 64 < cLine := by have := r.un; omega
theorem Room.u65 {k : Nat} {A : Around} (r : L2.Room k A) : A.units + 65 < cLine := by have := r.un; omega
theorem od_ltT {ns ms : List Int} (e1 : vw ρ2 r1 = some (.tuple (ns.map PyData.int))) (e2 : vw ρ2 r2 = some (.tuple (ms.map PyData.int))) (hu : Z.X.A.units + 64 < cLine) (k : Φ (.dat (.bool (HT.lexLt ns ms))) ρ2) : OpD Z (compareOp .Lt) ρ2 r1 r2 Φ :=
  OpD.of (op_ltT (by omega)) fun M M2 ρ σ H H2 x y p t => by
    obtain ⟨l, xs, rfl, h1, g1⟩ := (t.v1 e1).tuple
    obtain ⟨b, zs, rfl, h2, g2⟩ := (t.v2 e2).tuple
    cases g1.ints
    cases g2.ints
    exact ⟨l, b, ns, ms, rfl, rfl, h1, h2, t.post k (.bl _)⟩
theorem od_inT {ds : List D} (e1 : vw ρ2 r1 = some d1) (e2 : vw ρ2 r2 = some (.tuple ds)) (s1 : PyData.plain d1 = true) (s2 : PyData.plainAll ds = true) (hd : d1.depth ≤ 60) (hu : Z.X.A.units + 65 < cLine) (k : Φ (.dat (.bool (ds.any fun z => PyData.eqv z d1))) ρ2) : OpD Z (compareOp .In) ρ2 r1 r2 Φ :=
  fun M M2 ρ σ H H2 x y p t pins s v u I rx ry => by
    obtain ⟨as, ra⟩ := Dp.reads I _ _ _ (t.v1 e1).dp rx
    obtain ⟨bs, rb⟩ := Dp.reads I _ _ _ (t.v2 e2).dp ry
    exact PySem.SeqAt.in_tuple_data rb ra s2 s1 (by have := Nat.min_le_right (PyData.depthAll ds) d1.depth; omega) ⟨.bl _, H2, I, rfl, t.post k (.bl _)⟩
theorem od_notInT {ds : List D} (e1 : vw ρ2 r1 = some d1) (e2 : vw ρ2 r2 = some (.tuple ds)) (s1 : PyData.plain d1 = true) (s2 : PyData.plainAll ds = true) (hd : d1.depth ≤ 60) (hu : Z.X.A.units + 65 < cLine) (k : Φ (.dat (.bool (!ds.any fun z => PyData.eqv z d1))) ρ2) : OpD Z (compareOp .NotIn) ρ2 r1 r2 Φ :=
  fun M M2 ρ σ H H2 x y p t pins s v u I rx ry => by
    obtain ⟨as, ra⟩ := Dp.reads I _ _ _ (t.v1 e1).dp rx
    obtain ⟨bs, rb⟩ := Dp.reads I _ _ _ (t.v2 e2).dp ry
    exact PySem.SeqAt.notIn_tuple_data rb ra s2 s1 (by have := Nat.min_le_right (PyData.depthAll ds) d1.depth; omega) ⟨.bl _, H2, I, rfl, t.post k (.bl _)⟩
/-- s.split(t) -/
theorem cd_split {x y : Str} (e1 : vw ρ2 r0 = some (.str x)) (e2 : vw ρ2 r = some (.str y)) (hy : (y.length == 0) = false) (hz : x.length + 2 ≤ sizeLine) (k : Φ (.frs (.lst ((Txt.split x y).map PyData.str))) ρ2) : CallD Z (.builtin "str.split") [r0, r] ρ2 Φ :=
  CallD.ofM mt_split fun M M2 ρ σ H H2 v vs p t => by
    have q := t.pd
    cases q with
    | cons q1 q => cases q with
      | cons q2 q =>
        cases q
        cases (q1.view t.st e1).str
        cases (q2.view t.st e2).str
        refine ⟨x, y, rfl, rfl, hy, hz, fun l hl => t.endO.list k hl ?_⟩
        have key : ∀ (K : PySem.W.Frag) (zs : List Str), RpA K M2 H2 (zs.map V.str) (zs.map PyData.str) := by
          intro K zs
          induction zs with
          | nil => exact .nil
          | cons z zs ih => exact .cons (.str z) ih
        exact key _ _
theorem rg_rp {K : PySem.W.Frag} {M : AS} {H : Hp} (a b : Int) : RpA K M H (rgV a b) (rng a (b - a).toNat) := by
  unfold rgV rng
  generalize (List.range (b - a).toNat) = l
  induction l with
  | nil => exact .nil
  | cons i l ih => exact .cons (.int _) ih
/-- list(range(..)) -/
theorem de_lstRg1 {p1 p2 : Pos} (hl : Z.X.mg "list" = none) (hr : Z.X.mg "range" = none) (h : DE Z a ρ fun r ρ1 => ∃ n, vw ρ1 r = some (.int n) ∧ RgOk 0 n ∧ Φ (.frs (.lst (rng 0 (n - 0).toNat))) ρ1) (hc : Z.X.calm = true := by rfl) (hg : Gl Z.X "list" := by rfl) (hg2 : Gl Z.X "range" := by rfl)
    (n1 : starEach [.Call (.Name "range" p1) [a] [] p2] Z.X.env = (false, eval (.Call (.Name "range" p1) [a] [] p2) Z.X.env) :: starEach [] Z.X.env := by rfl) (n2 : starEach [a] Z.X.env = (false, eval a Z.X.env) :: starEach [] Z.X.env := by rfl) {p3 : Pos} : DE Z (.Call (.Name "list" p3) [.Call (.Name "range" p1) [a] [] p2] [] pos) ρ Φ := fun M σ H p pins s I =>
  (pe_listRg hc hg hl (prg_1 hg2 hr (pe_u Z.X a) n2) n1).run pins s σ H _ I ((h M σ H p).mono fun v H1 ⟨r, ρ1, M1, ⟨n, e, ok, k⟩, o⟩ => ⟨n, (o.v e).int, ok, fun q hq => o.endO.list k hq (rg_rp _ _)⟩)
theorem de_lstRg2 {p1 p2 : Pos} (hl : Z.X.mg "list" = none) (hr : Z.X.mg "range" = none) (h : DE Z a ρ fun r1 ρ1 => DE Z b ρ1 fun r2 ρ2 => ∃ m n, vw ρ2 r1 = some (.int m) ∧ vw ρ2 r2 = some (.int n) ∧ RgOk m n ∧ Φ (.frs (.lst (rng m (n - m).toNat))) ρ2) (hc : Z.X.calm = true := by rfl) (hg : Gl Z.X "list" := by rfl) (hg2 : Gl Z.X "range" := by rfl)
    (n1 : starEach [.Call (.Name "range" p1) [a, b] [] p2] Z.X.env = (false, eval (.Call (.Name "range" p1) [a, b] [] p2) Z.X.env) :: starEach [] Z.X.env := by rfl) (n2 : starEach [a, b] Z.X.env = (false, eval a Z.X.env) :: starEach [b] Z.X.env := by rfl) (n3 : starEach [b] Z.X.env = (false, eval b Z.X.env) :: starEach [] Z.X.env := by rfl)
    (n4 : (backTo p2 (starEach [b] Z.X.env)).any (·.1) = false := by rfl) {p3 : Pos} : DE Z (.Call (.Name "list" p3) [.Call (.Name "range" p1) [a, b] [] p2] [] pos) ρ Φ := fun M σ H p pins s I =>
  (pe_listRg hc hg hl (prg_2 hg2 hr (pe_u Z.X a) (pe_u Z.X b) n2 n3 n4) n1).run pins s σ H _ I (two (Q := fun x y H2 => ∃ i j, x = .int i ∧ y = .int j ∧ RgOk i j ∧ ∀ q, H2 q = none → Post Z M ρ σ H Φ (.ref q) (upd H2 q (.lst (rgV i j)))) p h fun x y H2 r1 r2 ρ2 M2 ⟨m, n, e1, e2, ok, k⟩ t => ⟨m, n, (t.v1 e1).int, (t.v2 e2).int, ok, fun q hq => t.endO.list k hq (rg_rp _ _)⟩)
/-- a text by a number -/
def repS (x : Str) (n : Int) : Str := if n < 1 then Str.empty else if (n == 1 || x.length == 0) = true then x else ⟨(List.replicate n.toNat x.cps).foldl (· ++ ·) #[]⟩
theorem od_mulS {x : Str} {n : Int} (e1 : vw ρ2 r1 = some (.str x)) (e2 : vw ρ2 r2 = some (.int n)) (h1 : -1000 ≤ n) (h2 : n ≤ 1000) (h3 : x.length ≤ 1000) (k : Φ (.dat (.str (repS x n))) ρ2) : OpD Z (binaryOp .Mult) ρ2 r1 r2 Φ :=
  fun M M2 ρ σ H H2 vx vy p t pins s v u I rx ry => by
    have ex := (t.v1 e1).str
    have ey := (t.v2 e2).int
    subst ex ey
    obtain ⟨tx, rfl⟩ := rx
    obtain ⟨ty, rfl⟩ := ry
    have fin : ∀ tk t', EP Z.X pins σ (Post Z M ρ σ H Φ) (.str (repS x n) t') { s with toks := tk } := fun tk t' => ⟨.str _, H2, I.tok _, ⟨_, rfl⟩, t.post k (.str _)⟩
    refine PySem.P.mul_str ?_ (fun a b => ?_) (fun a b => ?_) ?_
    · have h2 : ¬ n ≥ 2 ^ 63 := by omega
      have h1 : ¬ n < -(2 ^ 63 : Int) := by omega
      rw [decide_eq_false h1, decide_eq_false h2]; rfl
    · have h0 : (0 : Int) < n := by omega
      have : (1000 : Int) ≤ (2 ^ 63 - 1) / n := (Int.le_ediv_iff_mul_le h0).mpr (by omega)
      omega
    · have hm : x.length * n.toNat ≤ 1000 * 1000 := Nat.mul_le_mul h3 (by omega)
      unfold Builtin.Str.tooLong
      rw [sizeLine_eq]
      exact decide_eq_false (by omega)
    · unfold repS at fin
      split
      · rename_i c
        rw [if_pos c] at fin
        exact ⟨by decide, fin _ _⟩
      · rename_i c
        rw [if_neg c] at fin
        split
        · rename_i c2
          rw [if_pos c2] at fin
          exact fin _ _
        · rename_i c2
          rw [if_neg c2] at fin
          refine ⟨?_, fin _ _⟩
          have key : ∀ (m : Nat) (acc : Array Nat), ((List.replicate m x.cps).foldl (· ++ ·) acc).size = acc.size + m * x.cps.size := by
            intro m
            induction m with
            | zero => intro acc; simp
            | succ m ih =>
              intro acc
              rw [List.replicate_succ, List.foldl_cons, ih, Array.size_append, Nat.succ_mul]
              omega
          have hm : n.toNat * x.cps.size ≤ 1000 * 1000 := Nat.mul_le_mul (by omega) h3
          show ((List.replicate n.toNat x.cps).foldl (· ++ ·) #[]).size ≤ _
          rw [key, sizeLine_eq]
          have : x.cps.size = x.length := rfl
          simp only [List.size_toArray, List.length_nil]
          omega
/-- ==, != of data without dicts, whatever the texts -/
theorem od_eqP (e1 : vw ρ2 r1 = some d1) (e2 : vw ρ2 r2 = some d2) (s1 : d1.plain = true) (s2 : d2.plain = true) (hd : d2.depth ≤ 60) (hu : Z.X.A.units + 64 < cLine) (k : Φ (.dat (.bool (PyData.eqv d1 d2))) ρ2) : OpD Z (compareOp .Eq) ρ2 r1 r2 Φ :=
  fun M M2 ρ σ H H2 x y p t pins s v u I rx ry => by
    obtain ⟨as, ra⟩ := Dp.reads I _ _ _ (t.v1 e1).dp rx
    obtain ⟨bs, rb⟩ := Dp.reads I _ _ _ (t.v2 e2).dp ry
    exact PySem.SeqAt.eq_plain ra rb s1 s2 (by have := Nat.min_le_right d1.depth d2.depth; omega) ⟨.bl _, H2, I, rfl, t.post k (.bl _)⟩
theorem od_neP (e1 : vw ρ2 r1 = some d1) (e2 : vw ρ2 r2 = some d2) (s1 : d1.plain = true) (s2 : d2.plain = true) (hd : d2.depth ≤ 60) (hu : Z.X.A.units + 64 < cLine) (k : Φ (.dat (.bool (!PyData.eqv d1 d2))) ρ2) : OpD Z (compareOp .NotEq) ρ2 r1 r2 Φ :=
  fun M M2 ρ σ H H2 x y p t pins s v u I rx ry => by
    obtain ⟨as, ra⟩ := Dp.reads I _ _ _ (t.v1 e1).dp rx
    obtain ⟨bs, rb⟩ := Dp.reads I _ _ _ (t.v2 e2).dp ry
    exact PySem.SeqAt.ne_plain ra rb s1 s2 (by have := Nat.min_le_right d1.depth d2.depth; omega) ⟨.bl _, H2, I, rfl, t.post k (.bl _)⟩
end
end DL
set_option Elab.async false
set_option linter.all false
set_option maxRecDepth 100000
/-! DLw: promises, the head's facts with tables of code objects, the end. -/
namespace DL
open PySem PySem.Spec PyProof.Rows L2
/-- a pure promise; one that may refuse -/
def FP (P : List C → D → Prop) : FS := fun cs k _ => ∃ d, P cs d ∧ k (.dat d) cs
def FX (P : List C → D → Prop) (X : List C → Value → Prop) : FS := fun cs k x => (∃ d, P cs d ∧ k (.dat d) cs) ∨ (∃ c, X cs c ∧ x c cs)
/-- .. that hands out a new list -/
def FL (P : List C → List D → Prop) : FS := fun cs k _ => ∃ ds, P cs ds ∧ k (.frs (.lst ds)) cs
theorem FP.mono (P : List C → D → Prop) : MonoF (FP P) := fun cs k k' x x' ⟨d, h, q⟩ f _ => ⟨d, h, f _ _ q⟩
theorem FL.mono (P : List C → List D → Prop) : MonoF (FL P) := fun cs k k' x x' ⟨d, h, q⟩ f _ => ⟨d, h, f _ _ q⟩
theorem FX.mono (P : List C → D → Prop) (X : List C → Value → Prop) : MonoF (FX P X) := fun cs k k' x x' h f g => h.imp (fun ⟨d, h, q⟩ => ⟨d, h, f _ _ q⟩) fun ⟨c, h, q⟩ => ⟨c, h, g _ _ q⟩
/-- the ends of a body -/
theorem ret_dat {cs cs' : List C} {ρ : Env} {kk : Rv → List C → Prop} {d d' : D} (rc : RetC cs ρ cs') (h : kk (.dat d') cs') (e : d = d') : (bodyE cs kk).rt (.dat d) ρ := ⟨cs', rc, by subst e; exact h⟩
theorem ret_frs {cs cs' : List C} {ρ : Env} {kk : Rv → List C → Prop} {m m' : MO} (rc : RetC cs ρ cs') (h : kk (.frs m') cs') (e : m = m') : (bodyE cs kk).rt (.frs m) ρ := ⟨cs', rc, by subst e; exact h⟩
theorem ret_slot {cs cs' : List C} {ρ : Env} {kk : Rv → List C → Prop} {i : Nat} {a : Addr} {m m' : MO} (rc : RetC cs ρ cs') (hi : cs.length ≤ i) (e : ρ[i]? = some (some (.own a m))) (h : kk (.frs m') cs') (em : m = m') : (bodyE cs kk).rt (.slot i) ρ := ⟨cs', rc, hi, a, m, e, by subst em; exact h⟩
theorem end_non {cs cs' : List C} {ρ : Env} {kk : Rv → List C → Prop} (rc : RetC cs ρ cs') (h : kk (.dat .none) cs') : (bodyE cs kk).nx ρ := ⟨cs', rc, h⟩
/-- an exception let out -/
theorem eps_of {cs cs' : List C} {ρ : Env} {ee : Value → List C → Prop} {c : Value} (rc : RetC cs ρ cs') (h : ee c cs') : bodyX cs ee c ρ := ⟨cs', rc, h⟩
theorem int_of {v : D} (h1 : DL.isInt v = true) (h2 : (!DL.isBool v) = true) : ∃ i, v = .int i := by
  cases v with
  | int i => exact ⟨i, rfl⟩
  | bool b => cases h2
  | _ => cases h1
theorem tup_of {v : D} (h : DL.isTup v = true) : ∃ ds, v = .tuple ds := by
  cases v with
  | tuple ds => exact ⟨ds, rfl⟩
  | _ => cases h
theorem str_of {v : D} (h : DL.isStr v = true) : ∃ z, v = .str z := by
  cases v with
  | str z => exact ⟨z, rfl⟩
  | _ => cases h
theorem len3 {α : Type} {ds : List α} (h : decide ((ds.length : Int) ≠ 3) = false) : ∃ a b c, ds = [a, b, c] := by
  have h := of_decide_eq_false h
  match ds, h with
  | [a, b, c], _ => exact ⟨a, b, c, rfl⟩
  | [], h => exact absurd (by simp) h
  | [_], h => exact absurd (by simp) h
  | [_, _], h => exact absurd (by simp) h
  | _ :: _ :: _ :: _ :: r, h => exact absurd (by simp; omega) h
theorem len2 {α : Type} {ds : List α} (h : decide ((ds.length : Int) ≠ 2) = false) : ∃ a b, ds = [a, b] := by
  have h := of_decide_eq_false h
  match ds, h with
  | [a, b], _ => exact ⟨a, b, rfl⟩
  | [], h => exact absurd (by simp) h
  | [_], h => exact absurd (by simp) h
  | _ :: _ :: _ :: r, h => exact absurd (by simp; omega) h
/-- built-in names that the module does not give -/
structure Gb (mg : Str → Option Value) : Prop where
  len : mg "len" = none
  isinstance : mg "isinstance" = none
  range : mg "range" = none
  int : mg "int" = none
  bool : mg "bool" = none
  str : mg "str" = none
  tuple : mg "tuple" = none
  list : mg "list" = none
  set : mg "set" = none
  all : mg "all" = none
  sum : mg "sum" = none
  zip : mg "zip" = none
  sorted : mg "sorted" = none
  abs : mg "abs" = none
  max : mg "max" = none
  min : mg "min" = none
  enumerate : mg "enumerate" = none
  ValueError : mg "ValueError" = none
abbrev FdP (K : PySem.W.Frag) (mg : Str → Option Value) (x : Str) (s : Stmt) : Prop := (∃ fd, FunD K x x (defArgs s) (defBody s) (defScope s) [] [] (He.ga K x) fd) ∧ mg x = some (.ref (He.ga K x))
/-- a comprehension that only reads: what each item gives -/
theorem lc_pure {Z : Ct} {scope : Scope} {vs : List Nat} {tg elt : Expr} {ifs : List Expr} {ds : List D} {κ : Env → Prop} {ρ0 : Env} {Ψ : List D → Env → Prop} (g : D → Option D) (hsz : ds.length ≤ sizeLine) (hκ : κ ρ0) (hend : Ψ (ds.filterMap g) ρ0)
    (h : ∀ d ∈ ds, ∀ s H C cl fp, DG (Z.blk scope s H C cl fp) (fun i => vs.contains i) tg d (wipeE ρ0 vs) fun ρ2 => ∀ s H C cl fp, DTs (Z.blk scope s H C cl fp) ifs ρ2 fun b ρ3 => bcase b
      (∀ s H C cl fp, DE (Z.blk scope s H C cl fp) elt ρ3 fun x ρ4 => ∃ y, vwd x = some y ∧ g d = some y ∧ backW ρ0 ρ4 vs = ρ0) (g d = none ∧ backW ρ0 ρ3 vs = ρ0)) :
    ∃ P : List D → List D → Env → Prop, P ds [] ρ0 ∧ (∀ r acc ρ', P r acc ρ' → κ ρ') ∧ (∀ acc ρ', P [] acc ρ' → Ψ acc ρ') ∧ LcD Z scope vs tg elt ifs P := by
  refine ⟨fun r acc ρ' => ρ' = ρ0 ∧ ∃ dn, ds = dn ++ r ∧ acc = dn.filterMap g, ⟨rfl, [], rfl, rfl⟩, fun r acc ρ' ⟨e, _⟩ => by rw [e]; exact hκ, fun acc ρ' ⟨e, dn, e1, e2⟩ => ?_, fun d r acc ρ' ⟨e, dn, e1, e2⟩ => ?_⟩
  · rw [e, e2]
    rw [List.append_nil] at e1
    rw [← e1]
    exact hend
  · subst e
    have hd : d ∈ ds := by rw [e1]; simp
    refine ⟨?_, fun s H C cl fp M σ H' v st rp => ?_⟩
    · have h1 : acc.length ≤ dn.length := by rw [e2]; exact List.length_filterMap_le g dn
      have h2 : dn.length < ds.length := by rw [e1]; simp
      omega
    · refine (h d hd s H C cl fp M σ H' v st rp).mono fun σ2 H2 ⟨a1, a2, ρ2, q, a3⟩ => ⟨a1, a2, ρ2, fun s H C cl fp => ?_, a3⟩
      have nx : ∀ y, g d = some y → ds = (dn ++ [d]) ++ r ∧ acc ++ [y] = (dn ++ [d]).filterMap g := fun y ey => by
        refine ⟨by rw [e1]; simp, ?_⟩
        rw [List.filterMap_append, ← e2]
        simp [ey]
      have nn : g d = none → ds = (dn ++ [d]) ++ r ∧ acc = (dn ++ [d]).filterMap g := fun ey => by
        refine ⟨by rw [e1]; simp, ?_⟩
        rw [List.filterMap_append, ← e2]
        simp [ey]
      have key : ∀ b ρ3, bcase b (∀ s H C cl fp, DE (Z.blk scope s H C cl fp) elt ρ3 fun x ρ4 => ∃ y, vwd x = some y ∧ g d = some y ∧ backW ρ' ρ4 vs = ρ') (g d = none ∧ backW ρ' ρ3 vs = ρ') →
          bcase b (∀ s H C cl fp, DE (Z.blk scope s H C cl fp) elt ρ3 fun x ρ4 => ∃ y, vwd x = some y ∧ (backW ρ' ρ4 vs = ρ' ∧ ∃ dn, ds = dn ++ r ∧ acc ++ [y] = dn.filterMap g)) (backW ρ' ρ3 vs = ρ' ∧ ∃ dn, ds = dn ++ r ∧ acc = dn.filterMap g) := fun b ρ3 q =>
        ⟨fun eb s H C cl fp => (q.1 eb s H C cl fp).imp fun x ρ4 ⟨y, e3, e4, e5⟩ => ⟨y, e3, e5, _, (nx y e4).1, (nx y e4).2⟩, fun eb => ⟨(q.2 eb).2, _, (nn (q.2 eb).1).1, (nn (q.2 eb).1).2⟩⟩
      have q2 := q s H C cl fp
      match ifs, q2 with
      | [], q2 => exact key _ _ q2
      | [c], q2 => exact DT.imp q2 fun b ρ3 z => key b ρ3 z
/-- a def keeps its promise -/
theorem mk_def {P : Program} {w : World} {K : PySem.W.Frag} {mg : Str → Option Value} {base : Heap} {T : List (Addr × Str)} {x : Str} {s : Stmt} {N ps : List Str} {k : Nat} {F : FS}
    (FD : FdP K mg x s) (S : FnScope N ps (defScope s))
    (hb : ∀ (kV doc pm : Value) (an : Option Addr) (cdv ct : Value) (us : List Value), us.length = ps.length → bindArgs (PySem.W.fnOf x x (defArgs s) (defBody s) (defScope s) .none kV doc pm an cdv ct) ⟨us, []⟩ = pure (ps.zip us))
    (len : ∀ cs kk ee, F cs kk ee → cs.length = ps.length)
    (hbody : ∀ (cdv : Value), (∃ o fd, K.lookup (He.ga K x) = some o ∧ o.data = .func fd ∧ fd.code = cdv) → ∀ (A : Around) (outer : List PySem.Env) (s0 : Shared) (H : Hp) (E : XK) (W0 M0 : AS) (cs : List C) (kk : Rv → List C → Prop) (ee : Value → List C → Prop), F cs kk ee →
      Room k (ctOf P w K mg base T N x (defScope s) (He.ga K x) cdv A outer s0 H E W0 M0 (bodyX cs ee)).X.A → L2N.Takes (ctOf P w K mg base T N x (defScope s) (He.ga K x) cdv A outer s0 H E W0 M0 (bodyX cs ee)).X (wz (ctOf P w K mg base T N x (defScope s) (He.ga K x) cdv A outer s0 H E W0 M0 (bodyX cs ee))) →
      DSs (ctOf P w K mg base T N x (defScope s) (He.ga K x) cdv A outer s0 H E W0 M0 (bodyX cs ee)) (defBody s) (ent N.length cs) (bodyE cs kk)) : DefOk P w K mg base T x (k + 1) F := by
  obtain ⟨⟨fd, FD⟩, hm⟩ := FD
  exact ⟨_, fd, ps, DL.fn_ok FD S len hbody, hm, FD.kp, FD.bindsN hb⟩
end DL
set_option Elab.async false
set_option linter.all false
set_option maxRecDepth 100000
/-! DLx: values known ahead, promises that may refuse, exceptions by name. -/
namespace DL
open PySem PySem.Spec PyProof.Rows L2
/-- a comprehension's scope, looked at by calculation -/
theorem blk_by {N : List Str} {psc scope : Scope} {own : List (Str × Nat)}
    (h : scope.kind = .function ∧ (∀ y ∈ scope.names, scope.names.lookup y.1 = some y.2) ∧ (∀ p ∈ own, N[p.2]? = some p.1) ∧
      (∀ y ∈ scope.names, y.2 = .free → psc.names.lookup y.1 = some .cell ∨ psc.names.lookup y.1 = some .free) ∧
      (∀ y ∈ scope.names, y.2 = .local ∨ y.2 = .cell → y.1 ∈ own.map (·.1) ∨ y.1 ∉ N)) : BlkOk N psc scope own :=
  ⟨h.1, h.2.1, h.2.2.1, h.2.2.2.1, h.2.2.2.2⟩
section
variable {Z : Ct} {ρ ρ1 : Env} {Φ : Rv → Env → Prop} {Ψ : Bool → Env → Prop} {E : DN} {e : Expr} {st : Stmt} {sts : List Stmt} {pos : Pos}
/-- a value known ahead -/
theorem de_is {d : D} (h : DE Z e ρ fun r ρ' => r = .dat d ∧ ρ' = ρ) (k : Φ (.dat d) ρ) : DE Z e ρ Φ := h.imp fun r ρ' ⟨e1, e2⟩ => by subst e1 e2; exact k
/-- .. a test's answer -/
theorem dt_is {b : Bool} (h : DT Z e ρ fun b' ρ' => b' = b ∧ ρ' = ρ) (k : Ψ b ρ) : DT Z e ρ Ψ := h.imp fun r ρ' ⟨e1, e2⟩ => by subst e1 e2; exact k
/-- .. what a statement leaves -/
theorem ds_is {P : Env → Prop} (h : DS Z st ρ { nx := P, rt := E.rt, bk := E.bk, ct := E.ct }) (k : ∀ ρ1, P ρ1 → E.nx ρ1) : DS Z st ρ E := fun σ H p =>
  (h σ H p).mono ⟨fun _ _ ⟨ρ', q, r⟩ => ⟨ρ', k _ q, r⟩, fun _ _ q => q, fun _ _ q => q, fun _ _ q => q⟩
/-- what an exception class of the module is known by -/
structure ExF (K : PySem.W.Frag) (mg : Str → Option Value) (x : Str) : Prop where
  gl : mg x = some (.ref (He.ga K x))
  new_ : PySem.W.excIn K (He.ga K x) He.veBase "ValueError.__new__" = true
  keep : PySem.W.keepIn K (.ref (He.ga K x)) = true
  sub : PySem.W.subIn K (.ref (He.ga K x)) (.type "BaseException") = some true
  ty : PySem.W.typeIn K (.ref (He.ga K x)) = some (.type "type")
theorem ds_raiseF {x m : Str} {j : Nat} {p1 p2 p3 : Pos} (X : ExF Z.X.K Z.X.mg x) (hz : L2N.Takes Z.X (wz Z)) (k : Z.ε (.ref (He.ga Z.X.K x)) ρ) (hc : Z.X.calm = true := by rfl) (hg : Gl Z.X x := by rfl) (hdb : (x == ("__debug__" : Str)) = false := by decide) :
    DS Z (.Raise (some (.Call (.Name x p1) [.Constant (.str m) j p2] [] p3)) none pos) ρ E :=
  ds_raise hz PySem.F.excBase_ValueError X.new_ X.gl X.keep (raises_own X.sub X.ty) k hc hg hdb
end
/-- a result or an exception of the module -/
def exb : Except Str Rv → (Rv → Prop) → (Str → Prop) → Prop
  | .ok q, k, _ => k q
  | .error n, _, x => x n
def FE (K : PySem.W.Frag) (P : List C → Except Str Rv → Prop) : FS := fun cs k x => ∃ r, P cs r ∧ exb r (fun q => k q cs) (fun n => x (.ref (He.ga K n)) cs)
theorem FE.mono (K : PySem.W.Frag) (P : List C → Except Str Rv → Prop) : MonoF (FE K P) := fun cs k k' x x' ⟨r, h, q⟩ f g => ⟨r, h, by
  cases r with
  | ok q' => exact f _ _ q
  | error n => exact g _ _ q⟩
theorem ret_rv {cs cs' : List C} {ρ : Env} {kk : Rv → List C → Prop} {d : D} (rc : RetC cs ρ cs') {r : Rv} (h : kk r cs') (e : r = .dat d) : (bodyE cs kk).rt (.dat d) ρ := ⟨cs', rc, by subst e; exact h⟩
theorem dIx_at {ds : List D} {i : Int} {d : D} (h0 : 0 ≤ i) (h : ds[i.toNat]? = some d) : atI ds i = some d := by
  have hl : i.toNat < ds.length := (List.getElem?_eq_some_iff.mp h).1
  unfold atI ixN
  rw [if_pos h0, if_pos (by omega)]
  exact h
end DL
set_option Elab.async false
set_option linter.all false
set_option maxRecDepth 100000
/-! DLy: promises of which only the kind of the answer is known; comprehensions that draw. -/
namespace DL
open PySem PySem.Spec PyProof.Rows L2
/-- the answer is any of a kind -/
def FM {A : Type} (Pr : List C → A → Prop) (Po : A → Rv → List C → Prop) : FS := fun cs k _ => ∃ a, Pr cs a ∧ ∀ r cs', Po a r cs' → k r cs'
theorem FM.mono {A : Type} (Pr : List C → A → Prop) (Po : A → Rv → List C → Prop) : MonoF (FM Pr Po) := fun cs k k' x x' ⟨a, h, q⟩ f _ => ⟨a, h, fun r cs' z => f _ _ (q r cs' z)⟩
inductive All2 {α β : Type} (R : α → β → Prop) : List α → List β → Prop
  | nil : All2 R [] []
  | cons {a : α} {b : β} {as : List α} {bs : List β} : R a b → All2 R as bs → All2 R (a :: as) (b :: bs)
theorem All2.snoc {α β : Type} {R : α → β → Prop} {as : List α} {bs : List β} {a : α} {b : β} (h : All2 R as bs) (r : R a b) : All2 R (as ++ [a]) (bs ++ [b]) := by
  induction h with
  | nil => exact .cons r .nil
  | cons h1 _ ih => exact .cons h1 ih
theorem All2.length {α β : Type} {R : α → β → Prop} {as : List α} {bs : List β} (h : All2 R as bs) : bs.length = as.length := by
  induction h with
  | nil => rfl
  | cons _ _ ih => simp [ih]
/-- the second row's items come from a kind -/
theorem All2.from_ {α β γ : Type} {R : α → β → Prop} (f : γ → β) (p : γ → Prop) (hR : ∀ a b, R a b → ∃ c, b = f c ∧ p c) {as : List α} {bs : List β} (h : All2 R as bs) : ∃ cs : List γ, bs = cs.map f ∧ (∀ c ∈ cs, p c) ∧ cs.length = as.length := by
  induction h with
  | nil => exact ⟨[], rfl, by simp, rfl⟩
  | cons h1 _ ih =>
    obtain ⟨c, rfl, pc⟩ := hR _ _ h1
    obtain ⟨cs, rfl, q, l⟩ := ih
    refine ⟨c :: cs, rfl, fun d hd => ?_, by simp [l]⟩
    rcases List.mem_cons.mp hd with rfl | hd
    · exact pc
    · exact q d hd
/-- items made one by one, the environment of a kind -/
theorem lc_dem {Z : Ct} {scope : Scope} {vs : List Nat} {tg elt : Expr} {ds : List D} {κ : Env → Prop} {ρ0 : Env} {Ψ : List D → Env → Prop} (I : Env → Prop) (R : D → D → Prop) (hsz : ds.length ≤ sizeLine) (h0 : I ρ0) (hκ : ∀ ρ, I ρ → κ ρ)
    (hend : ∀ acc ρ, I ρ → All2 R ds acc → Ψ acc ρ)
    (h : ∀ d ∈ ds, ∀ ρ0, I ρ0 → ∀ s H C cl fp, DG (Z.blk scope s H C cl fp) (fun i => vs.contains i) tg d (wipeE ρ0 vs) fun ρ2 => ∀ s H C cl fp, DE (Z.blk scope s H C cl fp) elt ρ2 fun x ρ4 => ∃ y, vwd x = some y ∧ R d y ∧ I (backW ρ0 ρ4 vs)) :
    ∃ P : List D → List D → Env → Prop, P ds [] ρ0 ∧ (∀ r acc ρ', P r acc ρ' → κ ρ') ∧ (∀ acc ρ', P [] acc ρ' → Ψ acc ρ') ∧ LcD Z scope vs tg elt [] P := by
  refine ⟨fun r acc ρ' => I ρ' ∧ ∃ dn, ds = dn ++ r ∧ All2 R dn acc, ⟨h0, [], rfl, .nil⟩, fun r acc ρ' ⟨e, _⟩ => hκ _ e, fun acc ρ' ⟨e, dn, e1, e2⟩ => ?_, fun d r acc ρ' ⟨e, dn, e1, e2⟩ => ?_⟩
  · rw [List.append_nil] at e1
    subst e1
    exact hend _ _ e e2
  · have hd : d ∈ ds := by rw [e1]; simp
    refine ⟨?_, fun s H C cl fp M σ H' v st rp => ?_⟩
    · have h1 := e2.length
      have h2 : dn.length < ds.length := by rw [e1]; simp
      omega
    · refine (h d hd ρ' e s H C cl fp M σ H' v st rp).mono fun σ2 H2 ⟨a1, a2, ρ2, q, a3⟩ => ⟨a1, a2, ρ2, fun s H C cl fp => ?_, a3⟩
      refine ⟨fun _ s H C cl fp => (q s H C cl fp).imp fun x ρ4 ⟨y, e3, e4, e5⟩ => ⟨y, e3, e5, dn ++ [d], by rw [e1]; simp, e2.snoc e4⟩, fun z => by cases z⟩
theorem plain_ints (ns : List Int) : PyData.plainAll (ns.map PyData.int) = true := by
  induction ns with
  | nil => rfl
  | cons a r ih => exact ih
theorem atI_mem {α : Type} {xs : List α} {i : Int} (h0 : 0 ≤ i) (h1 : i < xs.length) : ∃ x, atI xs i = some x ∧ x ∈ xs := by
  have hl : i.toNat < xs.length := by omega
  refine ⟨xs[i.toNat], ?_, List.getElem_mem hl⟩
  unfold atI ixN
  rw [if_pos h0, if_pos h1]
  exact List.getElem?_eq_getElem hl
end DL
namespace DL
open PySem PySem.Spec PyProof.Rows L2
theorem cmul_mod {a p b : Int} (h : 0 < p) (h2 : p < 2147483648) : CMul (a % p) b := by
  have h3 := Int.emod_nonneg a (Int.ne_of_gt h)
  have h4 := Int.emod_lt_of_pos a h
  exact .inl ⟨by omega, by omega⟩
theorem cmul_modR {a p b : Int} (h : 0 < p) (h2 : p < 2147483648) : CMul b (a % p) := by
  have h3 := Int.emod_nonneg a (Int.ne_of_gt h)
  have h4 := Int.emod_lt_of_pos a h
  exact .inr ⟨by omega, by omega⟩
theorem cdiv_of {i j : Int} (h1 : 0 < j) (h2 : j < 1073741824) : CDiv i j := ⟨h1, h2⟩
theorem rng_len (i : Int) (n : Nat) : (rng i n).length = n := by
  unfold rng; simp
theorem rng_mem {n : Nat} {d : D} (h : d ∈ rng 0 n) : ∃ j : Int, d = .int j ∧ 0 ≤ j ∧ j < n := by
  unfold rng at h
  obtain ⟨x, hx, rfl⟩ := List.mem_map.mp h
  have := List.mem_range.mp hx
  exact ⟨_, rfl, by omega, by omega⟩
theorem pop0 (n : Int) (ns : List Int) : seqIndex? 0 (((n :: ns).map PyData.int).length) = some 0 := by
  unfold seqIndex?
  simp
theorem nd1 (i : Nat) : [i].Nodup := by simp
end DL
set_option Elab.async false
set_option linter.all false
set_option maxRecDepth 100000
/-! DLz: more rules. -/
namespace DL
open PySem PySem.Spec PyProof.Rows L2
section
variable {Z : Ct} {ρ ρ1 ρ2 : Env} {Φ : Rv → Env → Prop} {M : AS} {σ : DL.St} {H : Hp}
theorem de_call0 {x : Str} {k : Nat} {F : FS} {p1 pos : Pos} (D : DefOk Z.X.prog Z.X.w Z.X.K Z.X.mg Z.X.base Z.T x k F) (mono : MonoF F) (hr : Room k Z.X.A) (hz : L2N.Takes Z.X (wz Z)) (h : CallF Z F [] ρ Φ) (hg : Gl Z.X x := by rfl)
    (hdb : (x == ("__debug__" : Str)) = false := by decide) : DE Z (.Call (.Name x p1) [] [] pos) ρ Φ := by
  obtain ⟨f, fd, ps, FO, hm, hk, hb⟩ := D
  intro M σ H p pins s I
  refine wpAny_Call_Name_kw (ld_glob I hg hm ?_ hdb)
  have o : PostL Z M ρ σ H [] H [] ρ M := ⟨Sim.refl _, Kp.refl _ _, fun _ z => z, fun a z => .inl z, p.st, .nil⟩
  exact PySem.W.callWith_K0 I.kIn hk (run_fnS (us := []) FO hr hb (E := fun σ => WE (wz Z) σ) (L2N.passAt hz σ) I .nil (sp_of mono p o h))
end
end DL
set_option Elab.async false
set_option linter.all false
set_option maxRecDepth 100000
/-! DMa: tuples and texts backwards, repeated; a loop over functions; a function by a variable; sorted(set(pairs)). -/
namespace DL
open PySem PySem.Spec PyProof.Rows L2
section
variable {Z : Ct} {ρ ρ1 ρ2 : Env} {Φ : Rv → Env → Prop} {E : DN} {M M1 : AS} {σ σ1 : DL.St} {H H1 H2 : Hp} {e : Expr} {es : List Expr} {pos : Pos} {r r0 r1 r2 : Rv}
/-! ### a loop over functions -/
theorem ds_forF (i : Nat) {x : Str} {px : Pos} {kk : Nat} {tpos : Pos} {body : List Stmt} (h : DA Z es ρ fun rs ρ1 => ∃ (vs : List V) (P : List V → Env → Prop), rs = vs.map Rv.raw ∧ vs.length ≤ sizeLine ∧ P vs ρ1 ∧ (∀ ρ', P [] ρ' → E.nx ρ') ∧
      ∀ v r ρ', P (v :: r) ρ' → DSs Z body (ρ'.set i (some (.raw v))) { nx := P r, ct := P r, bk := E.nx, rt := E.rt })
    (hi : Z.X.N[i]? = some x := by rfl) (hN : Z.X.N.Nodup := by assumption) (hx : Loc Z.X.env.scope x := by first | exact Or.inl rfl | exact Or.inr rfl) (hf : Z.X.fn x = true ∨ Z.X.env.scope.names.lookup x = some .local := by first | exact .inl rfl | exact .inr rfl)
    (hp : PassesOwn (model Z.X.prog Z.X.w) Z.X.A Z.X.env Z.X.xe := by first | assumption | exact passes_of rfl) (hc : Z.X.calm = true := by rfl) (hs : ∀ x, foldedSetIterable (.Tuple es kk tpos) Z.X.env x = pure x := by intro _; rfl) : DS Z (.For (.Name x px) (.Tuple es kk tpos) body [] pos) ρ E := fun σ H p pins s I => by
  refine (ps_for hp hc (pi_tup (pe_tup (pa_u Z.X es))) (pg_name hN hi hx hf) (pss_u Z.X body) hs).run pins s σ H _ I ((h _ σ H p.pre).mono fun ws H1 ⟨rs, ρ1, M1, ⟨vs, P, ers, hz, k0, kend, kstep⟩, o⟩ => ?_)
  have ew : ∀ {N : AS} {us : List V} {ts : List V}, PdA Z.X.K M1 ρ1 σ H1 N us (ts.map Rv.raw) → us = ts := by
    intro N us ts q
    induction ts generalizing N us with
    | nil => cases q; rfl
    | cons t ts ih =>
      cases q with
      | cons q1 q2 =>
        have q1 : _ = t := q1
        rw [q1, ih q2]
  have e1 : ws = vs := ew (by rw [← ers]; exact o.pd)
  subst e1
  refine ⟨hz, fun q hq => ⟨q, rfl, ⟨ws, .inl (.inl upd_same)⟩, ?_⟩⟩
  have L := o.less p.pre
  obtain ⟨st1, step1⟩ := L.t.nx p
  have em : Z.mz ρ1 = Z.mz ρ := by unfold Ct.mz; rw [o.sim.mo]
  have nq : ¬ Z.mz ρ1 q := fun z => st1.liv q z hq
  have st2 : StS Z.X.K Z.T (Z.mz ρ1) ρ1 σ (upd H1 q (.tup ws)) := st1.laid (up_new hq) (fun a z => .inl z) fun a z => z
  have step2 : Step (Mo ρ) H (Mo ρ1) (upd H1 q (.tup ws)) := step1.trans ⟨fun a u _ e => .inl (up_new hq a u e), fun a z => .inl z⟩
  have sq : ∀ {H' : Hp}, H' q = some (.tup ws) → SqT Z.X.K H' q ws := fun e => .inl (.inl e)
  refine ⟨fun j m σ' H' => ∃ r ρ', m = r.length ∧ ws.drop j = r ∧ P r ρ' ∧ StS Z.X.K Z.T (Z.mz ρ') ρ' σ' H' ∧ Step (Mo ρ) H (Mo ρ') H' ∧ H' q = some (.tup ws) ∧ ¬ Z.mz ρ' q, ⟨ws.length, ws, ρ1, rfl, rfl, k0, st2, step2, upd_same, nq⟩, fun j m σ' H' ⟨r, ρ', em, er, k, st, stp, hh, nn⟩ => ?_⟩
  cases r with
  | nil =>
    have hn : ws.length ≤ j := List.drop_eq_nil_iff.mp er
    exact .inl ⟨⟨ws, sq hh, hn⟩, ρ', kend ρ' k, st, stp⟩
  | cons v r =>
    have hd : ws[j]? = some v := by
      have := congrArg (fun l => l[0]?) er
      simpa using this
    have hr : ws.drop (j + 1) = r := by
      rw [← List.drop_drop, er]
      rfl
    refine .inr ⟨⟨ws, v, sq hh, hd⟩, fun σ'' H'' => ∃ ρ'', P r ρ'' ∧ StS Z.X.K Z.T (Z.mz ρ'') ρ'' σ'' H'' ∧ Step (Mo ρ) H (Mo ρ'') H'' ∧ H'' q = some (.tup ws) ∧ ¬ Z.mz ρ'' q, fun σ'' H'' ⟨ρ'', a1, a2, a3, a4, a5⟩ => ⟨r.length, by rw [em]; exact Nat.lt_succ_self _, r, ρ'', rfl, hr, a1, a2, a3, a4, a5⟩, fun x' H2 hy => ?_⟩
    obtain ⟨rfl, hv⟩ := hy
    have ev : x' = v := by
      have := hv ws (sq hh)
      rw [hd] at this
      exact (Option.some.inj this).symm
    subst ev
    have mo2 : ∀ a, Mo (ρ'.set i (some (.raw x'))) a → Mo ρ' a := fun a z => mo_set (fun _ _ z => by cases z) a z
    have st3 : StS Z.X.K Z.T (Z.mz (ρ'.set i (some (.raw x')))) (ρ'.set i (some (.raw x'))) (σ'.set i (some x')) H2 := (st.set (fun _ _ z => by cases z) (show CR Z.X.K (Z.mz ρ') H2 x' (.raw x') from rfl)).less (fun a z => .inr z) fun a z => z.imp id (mo2 a)
    have s3 : Step (Mo ρ') H2 (Mo (ρ'.set i (some (.raw x')))) H2 := ⟨Kp.refl _ _, fun a z => .inl (mo2 a z)⟩
    have pre2 : PreS Z (ρ'.set i (some (.raw x'))) (σ'.set i (some x')) H2 := ⟨p.w0, st3, p.base.trans (stp.trans s3)⟩
    have tot := stp.trans s3
    have nq2 : ¬ Z.mz (ρ'.set i (some (.raw x'))) q := fun z => nn (z.imp id (mo2 q))
    refine uSs.mono (kstep x' r ρ' k _ H2 pre2) ?_
    have again : ∀ σ4 H4, NxP Z (ρ'.set i (some (.raw x'))) H2 (P r) σ4 H4 → ∃ ρ'', P r ρ'' ∧ StS Z.X.K Z.T (Z.mz ρ'') ρ'' σ4 H4 ∧ Step (Mo ρ) H (Mo ρ'') H4 ∧ H4 q = some (.tup ws) ∧ ¬ Z.mz ρ'' q := fun σ4 H4 ⟨ρ4, k4, st4, s4⟩ => by
      refine ⟨ρ4, k4, st4, tot.trans s4, (s4.kp q _ (fun z => nq2 (.inr z)) hh).eq (fun _ z => by cases z), fun z => ?_⟩
      rcases z with z | z
      · exact nn (.inl z)
      · rcases s4.nw q z with z | z
        · exact nq2 (.inr z)
        · rw [hh] at z; cases z
    exact ⟨again, fun v H4 q => (conc_le (E := E) tot).rt v H4 q, fun σ4 H4 q => NxP.from tot q, again⟩
/-! ### a def called by a variable -/
theorem de_callV {x y : Str} {k : Nat} {F : FS} {p1 : Pos} {v : V} (i : Nat) (D : DefOk Z.X.prog Z.X.w Z.X.K Z.X.mg Z.X.base Z.T x k F) (mono : MonoF F) (hr : Room k Z.X.A) (hz : L2N.Takes Z.X (wz Z)) (hw : ρ[i]? = some (some (.raw v))) (hv : ∀ f : Addr, Z.X.mg x = some (.ref f) → v = .ref f) (h : DA Z (e :: es) ρ fun rs ρ' => CallF Z F rs ρ' Φ)
    (hN : Z.X.N[i]? = some y := by rfl) (hvs : Vis Z.X.env.scope y := by first | exact Or.inl rfl | exact Or.inr (Or.inl rfl) | exact Or.inr (Or.inr rfl)) (hd : (y == ("__debug__" : Str)) = false := by decide) (hcd : (y == ("__classdict__" : Str)) = false := by decide)
    (hs : starEach (e :: es) Z.X.env = (false, eval e Z.X.env) :: starEach es Z.X.env := by rfl) (hpl : (backTo pos (starEach es Z.X.env)).any (·.1) = false := by rfl) : DE Z (.Call (.Name y p1) (e :: es) [] pos) ρ Φ := fun M σ H p pins s I => by
  obtain ⟨f, fd, ps, FO, hm, hk, hb⟩ := D
  obtain ⟨w, hw, rw0⟩ := p.st.at_ i _ hw
  have ew : w = .ref f := Eq.trans rw0 (hv f hm)
  subst ew
  refine wpAny_Call_Name_kw (thn ((pe_var (pos := p1) hN hvs hd hcd).run pins s σ H (fun v H' => v = .ref f ∧ H' = H) I ⟨_, hw, rfl, rfl⟩) fun u s1 ⟨v, H1, I1, r1, e1, eH⟩ => ?_)
  subst e1
  rw [eH] at I1
  cases r1
  refine PySem.W.callWith_K (h₀ := Z.X.base) I1.ok.mod.kin hk ?_ hs hpl
  refine thn (h M σ H p pos pins s1 I1) fun us s2 ⟨vs, H2, I2, rv, rs, ρ1, M2, k, o⟩ => ⟨I2.kIn, ?_⟩
  exact run_fnS FO hr hb (E := fun σ => WE (wz Z) σ) (L2N.passAt hz σ) I2 rv (sp_of mono p o k)
/-! ### t[::-1] -/
section
variable {prog : Program} {w : World} {A : Around} {E : Value → Shared → Prop} {s : Shared}
theorem adjust_rev (n : Nat) : Builtin.Slice.sliceAdjust none none (-1) (n : Int) = ((n : Int) - 1, -1) := by
  unfold Builtin.Slice.sliceAdjust
  simp
theorem places_rev (n : Nat) : Builtin.Slice.slicePlaces ((n : Int) - 1) (-1) (-1) = n := by
  unfold Builtin.Slice.slicePlaces
  simp
  split <;> omega
theorem fm_congr {α β : Type} {f g : α → Option β} {l : List α} (h : ∀ x ∈ l, f x = g x) : l.filterMap f = l.filterMap g := by
  induction l with
  | nil => rfl
  | cons a l ih => rw [List.filterMap_cons, List.filterMap_cons, h a (List.mem_cons_self ..), ih fun x hx => h x (List.mem_cons_of_mem _ hx)]
theorem pick_rev (xs : Array Value) : ((List.range xs.size).filterMap fun (m : Nat) => xs[(((xs.size : Int) - 1) + (m : Int) * (-1)).toNat]?).toArray = xs.toList.reverse.toArray := by
  have e : ∀ m ∈ List.range xs.size, xs[(((xs.size : Int) - 1) + (m : Int) * (-1)).toNat]? = xs[xs.size - 1 - m]? := fun m hm => by
    have := List.mem_range.mp hm
    rw [show (((xs.size : Int) - 1) + (m : Int) * (-1)).toNat = xs.size - 1 - m by omega]
  rw [fm_congr e]
  have e2 : (List.range xs.size).filterMap (fun m => xs[xs.size - 1 - m]?) = ((List.range xs.size).map fun k => xs.size - 1 - k).filterMap (xs[·]?) := by rw [List.filterMap_map]; rfl
  rw [e2, PySem.W.krv_range, List.filterMap_reverse, PySem.W.krv_all]
theorem getItem_tuple_rev {t sl : Addr} {items : Array Value} {vl vu vs : Value} {Q : Value → Shared → Prop} (ht : IsTup s.heap t items) (hs : s.heap.IsSliceOf sl vl vu vs) (pl : IsPart vl none) (pu : IsPart vu none) (ps : IsPart vs (some (-1)))
    (h : Q (.ref s.heap.objs.size) { s with heap := s.heap.push { cls := .type "tuple", data := .seq items.toList.reverse.toArray } }) (hsz : items.size ≤ sizeLine) : wpAny (model prog w) A (getItem (.ref t) (.ref sl)) Q E s := by
  have htake : sizeOk (.seq items.toList.reverse.toArray) := by
    show items.toList.reverse.toArray.size ≤ sizeLine
    rw [List.size_toArray, List.length_reverse, Array.length_toList]
    exact hsz
  obtain ⟨os, hos, hcs, hds⟩ := id hs
  have hTs : s.TypeIs (.ref sl) "slice" := ⟨os, hos, hcs⟩
  unfold getItem
  try with_reducible refine wpAny_holding ?_
  first | refine wpAny_bind (wpAny_pure ?_) | skip
  refine wpAny_bind (wpAny_sequenceKey ht.typeIs (by decide) ?_)
  refine wpAny_bind (wpAny_callSpecial?_slot (name := Str.ofString "__getitem__") ht.typeIs PyProof.Rows.slot_tuple_getitem
    (wpAny_call_entry PyProof.Rows.slot_tuple_getitem ht.typeIs PyProof.Rows.entry_tuple_getitem ?_ (PyProof.Rows.args_tuple_getitem _ _)))
  show wpAny _ _ (Builtin.Tuple.tupleItemsOf (.ref t) >>= _) _ _ s
  refine wpAny_bind (tupleItemsOf_ ht ?_)
  refine wpAny_bind (wpAny_typeOf hTs ?_)
  rw [if_pos (by decide)]
  have ap : ∀ {A : Around} {E : Value → Shared → Prop} {Q : Int × Int × Nat → Shared → Prop}, Q ((items.size : Int) - 1, -1, items.size) s → wpAny (model prog w) A (Builtin.Slice.sliceApplied (.ref sl) (pure (items.size : Int))) Q E s := fun {A E Q} h => by
    unfold Builtin.Slice.sliceApplied Builtin.Slice.sliceFields
    refine wpAny_bind (wpAny_bind (wpAny_field hos hds (x := vl) rfl (wpAny_bind (wpAny_field hos hds (x := vu) rfl (wpAny_bind (wpAny_field hos hds (x := vs) rfl (wpAny_pure ?_)))))))
    refine wpAny_bind (HT.slicePart_ ps ?_)
    show wpAny _ _ (if ((-1 : Int) == 0) = true then _ else _) _ _ s
    rw [if_neg (by decide)]
    refine wpAny_bind (HT.slicePart_ pl (wpAny_bind (HT.slicePart_ pu (wpAny_bind (wpAny_pure ?_)))))
    show wpAny _ _ (match Builtin.Slice.sliceAdjust none none (-1) (items.size : Int) with | (lo, hi) => pure (lo, (-1 : Int), Builtin.Slice.slicePlaces lo hi (-1))) _ _ s
    rw [adjust_rev]
    show wpAny _ _ (pure ((items.size : Int) - 1, (-1 : Int), Builtin.Slice.slicePlaces ((items.size : Int) - 1) (-1) (-1))) _ _ s
    rw [places_rev]
    exact wpAny_pure h
  refine wpAny_bind (ap ?_)
  have hno : ¬ ((((items.size : Int) - 1) == 0 && (-1 : Int) == 1 && items.size == items.size) = true) := by
    intro q
    rw [Bool.and_eq_true, Bool.and_eq_true] at q
    exact absurd q.1.2 (by decide)
  show wpAny _ _ (if (((items.size : Int) - 1) == 0 && (-1 : Int) == 1 && items.size == items.size) = true then _ else _) _ _ s
  rw [if_neg hno, pick_rev]
  first
    | exact wpAny_bind (m := Builtin.Tuple.tupleExact _) (wpAny_newObj_type (wpAny_pure ⟨_, rfl, wpAny_pure h⟩) htake)
    | exact wpAny_bind (m := Builtin.Tuple.tupleExact _) (wpAny_newObj_type (wpAny_bind (wpAny_pure (wpAny_pure ⟨_, rfl, wpAny_pure h⟩))) htake)
    | exact wpAny_newObj_type (wpAny_pure ⟨_, rfl, wpAny_pure h⟩) htake
end
theorem de_revT {n0 : Nat} {p1 p2 p3 : Pos} (h : DE Z e ρ fun r ρ1 => ∃ ds, vw ρ1 r = some (.tuple ds) ∧ Φ (.dat (.tuple ds.reverse)) ρ1) : DE Z (.Subscript e (.Slice none none (some (.UnaryOp .USub (.Constant (.int 1) n0 p1) p2)) p3) pos) ρ Φ := fun M σ H p pins s I => by
  refine Subscript_ (thn (h M σ H p pins s I) fun v s1 ⟨x, H1, I1, r1, r, ρ1, M1, ⟨ds, ed, k⟩, o⟩ => ?_)
  obtain ⟨a, xs, ex, hx, g⟩ := (o.v ed).tuple
  subst ex
  cases r1
  have hst : PO Z.X (some (.UnaryOp .USub (.Constant (.int 1) n0 p1) p2)) (tPart (tUn (rU fun i => .int (-i)) (tC (.int 1)))) := po_some (pe_un un_neg pe_int)
  refine wpAny_Slice (thn (po_none.run pins s1 σ H1 (fun o H2 => o = none ∧ H2 = H1) I1 ⟨rfl, rfl⟩) fun vl s2 ⟨l, H2, I2, pl, el, e2⟩ => ?_)
  subst el e2
  refine thn (po_none.run pins s2 σ H2 (fun o H3 => o = none ∧ H3 = H2) I2 ⟨rfl, rfl⟩) fun vu s3 ⟨u, H3, I3, pu, eu, e3⟩ => ?_
  subst eu e3
  refine thn (hst.run pins s3 σ H3 (fun o H4 => o = some (-1) ∧ H4 = H3) I3 ⟨1, rfl, -1, rfl, rfl, rfl⟩) fun vs s4 ⟨o4, H4, I4, ps, eo, e4⟩ => ?_
  subst eo e4
  have I5 : Inv Z.X pins σ H4 { s4 with heap := s4.heap.push { cls := .type "slice", data := .fields #[vl, vu, vs] } } := I4.kept (t' := s4.toks) fun b ob q => Heap.get?_push_of_some _ q
  obtain ⟨its, rv, ht, hz⟩ := I5.tuple hx
  show wpAny (model Z.X.prog Z.X.w) Z.X.A (subscriptTail e (.Slice none none (some (.UnaryOp .USub (.Constant (.int 1) n0 p1) p2)) p3) (.ref a) (.ref s4.heap.objs.size)) (EP Z.X pins σ _) Z.X.xe { s4 with heap := s4.heap.push { cls := .type "slice", data := .fields #[vl, vu, vs] } }
  refine tail_any (ops := [.ref a, .ref s4.heap.objs.size]) ht.typeIs PyProof.Rows.slot_tuple_getitem.lookup ?_ (by with_unfolding_all rfl)
  refine getItem_tuple_rev ht (Heap.IsSliceOf.new _ vl vu vs) pl pu ps ?_ (by rw [List.size_toArray, ← rv.length]; exact hz)
  have hq := I5.hok.fresh (Nat.le_refl _)
  refine ⟨.ref _, _, I5.laid (t' := s4.toks) (o := .tup xs.reverse) (fun b ob q => Heap.get?_push_of_some _ q) (Nat.le_refl _) ?_, rfl, (o.less p).tuple k hq ((g.reverse).less fun b z => o.more b z)⟩
  exact ⟨by rw [List.length_reverse]; exact hz, _, rv.reverse, IsTup.new _ _⟩
/-! ### texts -/
def revS (z : Str) : Str := ⟨((Builtin.Str.strSliceIndices none none (-1) z.length).filterMap (z.cps[·]?)).toArray⟩
theorem revS_eq (z : Str) : (revS z).cps.toList = z.cps.toList.reverse := by
  unfold revS Builtin.Str.strSliceIndices
  show (List.filterMap _ (sliceRange ((z.length : Int) - 1) (-1) (-1))).toArray.toList = _
  rw [PySem.W.krv_sliceRange, PySem.W.krv_range, List.filterMap_reverse]
  show (List.filterMap (z.cps[·]?) (List.range z.cps.size)).reverse.toArray.toList = _
  rw [PySem.W.krv_all]
theorem revS_len (z : Str) : (revS z).length = z.length := by
  have := congrArg List.length (revS_eq z)
  rw [List.length_reverse] at this
  exact this
theorem de_revS {n0 : Nat} {p1 p2 p3 : Pos} (h : DE Z e ρ fun r ρ1 => ∃ z, vw ρ1 r = some (.str z) ∧ z.length ≤ sizeLine ∧ Φ (.dat (.str (revS z))) ρ1) : DE Z (.Subscript e (.Slice none none (some (.UnaryOp .USub (.Constant (.int 1) n0 p1) p2)) p3) pos) ρ Φ := fun M σ H p pins s I => by
  refine Subscript_ (thn (h M σ H p pins s I) fun v s1 ⟨x, H1, I1, r1, r, ρ1, M1, ⟨z, ed, hz, k⟩, o⟩ => ?_)
  have ex := (o.v ed).str
  subst ex
  obtain ⟨t, rfl⟩ := r1
  have hst : PO Z.X (some (.UnaryOp .USub (.Constant (.int 1) n0 p1) p2)) (tPart (tUn (rU fun i => .int (-i)) (tC (.int 1)))) := po_some (pe_un un_neg pe_int)
  refine wpAny_Slice (thn (po_none.run pins s1 σ H1 (fun o H2 => o = none ∧ H2 = H1) I1 ⟨rfl, rfl⟩) fun vl s2 ⟨l, H2, I2, pl, el, e2⟩ => ?_)
  subst el e2
  refine thn (po_none.run pins s2 σ H2 (fun o H3 => o = none ∧ H3 = H2) I2 ⟨rfl, rfl⟩) fun vu s3 ⟨u, H3, I3, pu, eu, e3⟩ => ?_
  subst eu e3
  refine thn (hst.run pins s3 σ H3 (fun o H4 => o = some (-1) ∧ H4 = H3) I3 ⟨1, rfl, -1, rfl, rfl, rfl⟩) fun vs s4 ⟨o4, H4, I4, ps, eo, e4⟩ => ?_
  subst eo e4
  have I5 : Inv Z.X pins σ H4 { s4 with heap := s4.heap.push { cls := .type "slice", data := .fields #[vl, vu, vs] } } := I4.kept (t' := s4.toks) fun b ob q => Heap.get?_push_of_some _ q
  obtain ⟨l, rfl, hl⟩ := IsPart.raw pl
  obtain ⟨u, rfl, hu⟩ := IsPart.raw pu
  obtain ⟨st, rfl, hs⟩ := IsPart.raw ps
  show wpAny (model Z.X.prog Z.X.w) Z.X.A (subscriptTail e (.Slice none none (some (.UnaryOp .USub (.Constant (.int 1) n0 p1) p2)) p3) (.str z t) (.ref s4.heap.objs.size)) (EP Z.X pins σ _) Z.X.xe _
  refine tail_any (ops := [.str z t, .ref s4.heap.objs.size]) (typeIs_str _ _ _) PySem.F.slot_str_getitem.lookup ?_ (by with_unfolding_all rfl)
  refine wpAny_getItem_str_slice (l := l) (u := u) (st := st) ⟨_, Heap.get?_push_size _ rfl, rfl, rfl⟩ (by rw [hs]; decide) ?_
  have e1 : slicePicked z l u st = Builtin.Str.strSliceIndices none none (-1) z.length := by
    unfold slicePicked
    rw [hl, hu, hs]
    rfl
  unfold sliceMade
  rw [hs, e1, if_neg (by simp)]
  have hlen : (revS z).length ≤ sizeLine := by rw [revS_len]; exact hz
  exact ⟨hlen, .str _, H4, I5.tok _, ⟨_, rfl⟩, (o.less p).post k (.str _)⟩
theorem cd_strip {x y : Str} (e1 : vw ρ2 r0 = some (.str x)) (e2 : vw ρ2 r = some (.str y)) (hz : x.length ≤ sizeLine) (k : Φ (.dat (.str (Txt.stripChars x y))) ρ2) : CallD Z (.builtin "str.strip") [r0, r] ρ2 Φ :=
  CallD.ofM mt_stripChars fun M M2 ρ σ H H2 v vs p t => by
    have q := t.pd
    cases q with
    | cons q1 q => cases q with
      | cons q2 q =>
        cases q
        cases (q1.view t.st e1).str
        cases (q2.view t.st e2).str
        exact ⟨x, y, rfl, rfl, hz, t.endO.post k (.str _)⟩
theorem cd_upper {x : Str} (e1 : vw ρ2 r0 = some (.str x)) (hz : x.length ≤ 5592405) (k : Φ (.dat (.str (Txt.upper x))) ρ2) : CallD Z (.builtin "str.upper") [r0] ρ2 Φ :=
  CallD.ofM mt_upper fun M M2 ρ σ H H2 v vs p t => by
    have q := t.pd
    cases q with
    | cons q1 q =>
      cases q
      cases (q1.view t.st e1).str
      exact ⟨x, rfl, rfl, hz, t.endO.post k (.str _)⟩
/-! ### repeated -/
theorem od_mulL {i : List D} {n : Int} (e1 : r1 = .frs (.lst i)) (e2 : vw ρ2 r2 = some (.int n)) (h1 : -1000 ≤ n) (h2 : n ≤ 1000) (h3 : i.length ≤ 1000) (k : Φ (.frs (.lst (List.replicate n.toNat i).flatten)) ρ2) : OpD Z (binaryOp .Mult) ρ2 r1 r2 Φ :=
  OpD.of op_rep fun M M2 ρ σ H H2 x y p t => by
    subst e1
    obtain ⟨a, ea, ma, na, xs, hx, g1⟩ := t.p1
    subst ea
    have hl := g1.length
    refine ⟨a, n, xs, rfl, (t.v2 e2).int, hx, by omega, by omega, ?_, fun q hq => t.endO.list k hq (g1.flatten_rep _)⟩
    rw [hl, sizeLine_eq]
    have : i.length * n.toNat ≤ 1000 * 1000 := Nat.mul_le_mul h3 (by omega)
    omega
end
theorem tuple_mulW1 (l : Addr) (items : Array Value) (n : Nat) (dd : Option Addr) (sl : Array (Option Value)) (x : Int) (u : Tok) (c0 : (decide (x < -(2 ^ 63)) || decide (x ≥ 2 ^ 63)) = false) (c1 : (items.isEmpty || x == 1) = true) :
    Meets (Builtin.«tuple.__mul__» ⟨[.ref l, .int x u], []⟩) (fun _ R s => s.heap.get? l = some { cls := .type "tuple", dict := dd, data := .seq items n, slots := sl } ∧ R (.ok (.ret (Value.ref l))) s) :=
  .of_wp fun prog w A R s h => by
    obtain ⟨hp, g, d, tk, os⟩ := s
    obtain ⟨hl, h⟩ := h
    have f1 := AutoSeq1.idx_int
    wp_walk using wpAny_loadPart' hl
    repeat (first
      | (refine wpAny_ite_false (decide_eq_false (by rw [c0]; exact Bool.false_ne_true)) ?_; wp_walk using wpAny_loadPart' hl)
      | (refine wpAny_ite_true (decide_eq_true (by rw [c1])) ?_; wp_walk using wpAny_loadPart' hl))
    exact ⟨_, rfl, h⟩
theorem op_repT1 {X : Cx} : OpR X (binaryOp .Mult) (fun x y H Q => ∃ l xs, x = .ref l ∧ y = .int 1 ∧ SqT X.K H l xs ∧ Q (.ref l) H) := by
  intro pins s σ H x y v u Q I rx ry h
  obtain ⟨l, xs, rfl, rfl, hT, q⟩ := h
  cases rx
  obtain ⟨t, rfl⟩ := ry
  obtain ⟨its, r, ⟨⟨cls, dd, data, sl⟩, ho, hc, n, hd⟩, hs⟩ := I.tuple hT
  simp only at hc hd
  subst hc hd
  refine wpAny_binaryOp_repeat_ref (T := "tuple") (U := "int") (by decide) ⟨_, ho, rfl⟩ (fun s' => typeIs_int s' 1 t) noFill_tuple_mul F.fills_int_mul F.slot_int_rmul repeat_tuple F.slot_int_index.lookup
    (call_meets F.slot_int_rmul (typeIs_int s 1 t) F.entry_int_rmul (F.args_int_rmul_2 _ _) (int_rmul_tuple 1 t l its.toArray n dd sl)
      ⟨ho, rfl, ⟨_, ho, rfl⟩, call_meets F.slot_tuple_mul ⟨_, ho, rfl⟩ F.entry_tuple_mul (F.args_tuple_mul_2 _ _) (tuple_mulW1 l its.toArray n dd sl 1 t (by decide) (by simp)) ⟨ho, ?_⟩⟩)
  exact ⟨.ref l, H, I, rfl, q⟩
section
variable {Z : Ct} {ρ ρ1 ρ2 : Env} {Φ : Rv → Env → Prop} {r1 r2 : Rv}
theorem od_mulTn {i : List D} {n : Int} (e1 : vw ρ2 r1 = some (.tuple i)) (e2 : vw ρ2 r2 = some (.int n)) (h0 : i ≠ []) (h1 : 1 ≤ n) (h2 : n ≤ 1000) (h3 : i.length ≤ 1000) (k : Φ (.dat (.tuple (List.replicate n.toNat i).flatten)) ρ2) : OpD Z (binaryOp .Mult) ρ2 r1 r2 Φ := by
  by_cases hn : n = 1
  · subst hn
    refine OpD.of op_repT1 fun M M2 ρ σ H H2 x y p t => ?_
    have hd := t.tupD e1
    obtain ⟨l, xs, rfl, h4, g1⟩ := (t.v1 e1).tuple
    refine ⟨l, xs, rfl, (t.v2 e2).int, h4, t.post k ?_⟩
    show Rp _ _ _ _ _
    rw [show (List.replicate (1 : Int).toNat i).flatten = i by simp]
    exact hd
  · exact od_mulT e1 e2 h0 (by omega) h2 h3 k
theorem dss_imp {Z : Ct} {st : List Stmt} {ρ : Env} {E : DN} {R : Rv → Env → Prop} (h : DSs Z st ρ { nx := fun _ => False, rt := R }) (f : ∀ r ρ', R r ρ' → E.rt r ρ') : DSs Z st ρ E := fun σ H p =>
  (h σ H p).mono ⟨fun _ _ ⟨_, z, _⟩ => z.elim, fun _ _ ⟨r, ρ', σ', M', q, z⟩ => ⟨r, ρ', σ', M', f r ρ' q, z⟩, fun _ _ ⟨_, z, _⟩ => z.elim, fun _ _ ⟨_, z, _⟩ => z.elim⟩
theorem dg_lst {Z : Ct} {ρ : Env} {Ψ : Env → Prop} {es : List Expr} {pos : Pos} {W : Nat → Bool} {k : Nat} {n : Nat} {ds : List D} (h : DGs Z W es ds ρ Ψ) (hl : ds.length = n) (hc : Z.X.calm = true := by rfl) (hn : (assignEach es Z.X.env).length = n := by rfl) (hst : (assignEach es Z.X.env).findIdx? (·.1) = none := by rfl) : DG Z W (.Tuple es k pos) (.list ds) ρ Ψ := fun M σ H v S r pins s u I rv => by
  cases r with
  | lst q g => exact (pg_lst hc (pgs_u Z.X es) hn hst).run pins s σ H _ u _ I rv ⟨_, _, rfl, q.sq, by rw [g.length]; exact hl, h M σ H _ S g⟩
end
end DL
set_option Elab.async false
set_option linter.all false
set_option maxRecDepth 100000
/-! DMb: sorted(set(pairs of ints)), len(set(ints)). -/
namespace DL
open PySem PySem.Spec PyProof.Rows L2
def prDD (k : Int × Int) : D := .tuple [.int k.1, .int k.2]
section
variable {Z : Ct} {ρ ρ1 ρ2 : Env} {Φ : Rv → Env → Prop} {M M1 : AS} {σ σ1 : DL.St} {H H1 H2 : Hp} {e : Expr} {pos : Pos}
/-- a row of pairs: its places -/
theorem pairs_at {K : PySem.W.Frag} {M : AS} {H : Hp} : ∀ {ks : List (Int × Int)} {xs : List V}, RpA K M H xs (ks.map prDD) → ∃ as : List Addr, xs = as.map V.ref ∧ as.length = ks.length ∧ ∀ (i : Nat) (a : Addr) (k : Int × Int), as[i]? = some a → ks[i]? = some k → TuM K M H a [.int k.1, .int k.2]
  | [], _, .nil => ⟨[], rfl, rfl, by simp⟩
  | k :: ks, _, .cons h r => by
    obtain ⟨as, rfl, hl, g⟩ := pairs_at r
    cases h with
    | tup ht hr =>
      rename_i a ws
      have e : ws = [.int k.1, .int k.2] := by
        cases hr with
        | cons h1 hr => cases hr with
          | cons h2 hr => cases hr; cases h1; cases h2; rfl
      subst e
      refine ⟨a :: as, rfl, by simp [hl], fun i b q h1 h2 => ?_⟩
      cases i with
      | zero => cases h1; cases h2; exact ht
      | succ i => exact g i b q (by simpa using h1) (by simpa using h2)
theorem pair_ps {k : Int × Int} : [V.int k.1, V.int k.2] = [k.1, k.2].map V.int := rfl
theorem de_sortedSetP {p1 p2 q1 : Pos} (B : Int) (hms : Z.X.mg "sorted" = none) (hmt : Z.X.mg "set" = none) (hu : Z.X.A.units + 64 < cLine)
    (h : DA Z [e] ρ fun rs ρ1 => ∃ ks : List (Int × Int), vwds rs = some [.list (ks.map prDD)] ∧ ks.length < 64 ∧ (∀ k ∈ ks, (0 ≤ k.1 ∧ k.1 < B) ∧ 0 ≤ k.2 ∧ k.2 < B) ∧ ∀ L : List (Int × Int), L.Nodup → (∀ x, x ∈ L ↔ x ∈ ks) → L.Pairwise (fun a b => a.1 < b.1 ∨ (a.1 = b.1 ∧ a.2 ≤ b.2)) → Φ (.frs (.lst (L.map prDD))) ρ1)
    (hc : Z.X.calm = true := by rfl) (hg : Gl Z.X "sorted" := by rfl) (hg2 : Gl Z.X "set" := by rfl) (hs : starEach [e] Z.X.env = [(false, eval e Z.X.env)] := by rfl) : DE Z (.Call (.Name "sorted" p1) [.Call (.Name "set" p2) [e] [] q1] [] pos) ρ Φ := fun M σ H p pins s I => by
  refine (pe_callB (cr_sortedT hc) hg hms rfl (pa_cons (pe_callTy (cr_setOfT hc hu) hg2 hmt rfl (pa_u Z.X [e]) (he := hs)) pa_nil)).run pins s σ H _ I ((h M σ H p).mono fun vs H1 ⟨rs, ρ1, M1, ⟨ks, ev, hlt, hbd, hk⟩, o⟩ => ?_)
  have dt := o.pd.data o.more ev
  obtain ⟨l, xs, rfl, hl, g⟩ : ∃ l xs, vs = [V.ref l] ∧ LsM Z.X.K M H1 l xs ∧ RpA Z.X.K M H1 xs (ks.map prDD) := by
    cases dt with
    | cons d1 d2 =>
      cases d2
      cases d1 with
      | lst a b => exact ⟨_, _, rfl, a, b⟩
  obtain ⟨as, rfl, hal, hat⟩ := pairs_at g
  have hz : (as.zip ks).length = ks.length := by rw [List.length_zip, hal]; exact Nat.min_self _
  have hmem : ∀ {a : Addr} {k : Int × Int}, (a, k) ∈ as.zip ks → TuM Z.X.K M H1 a [.int k.1, .int k.2] := fun {a k} m => by
    obtain ⟨i, hi⟩ := List.mem_iff_getElem?.mp m
    rw [List.getElem?_zip_eq_some] at hi
    exact hat i a k hi.1 hi.2
  refine ⟨l, (as.zip ks).map (fun q => (q.1, [q.2.1, q.2.2])), rfl, ?_, ?_, by rw [List.length_map, hz]; exact hlt, fun a L ha hL1 hL2 => ?_⟩
  · rw [List.map_map]
    have : (as.zip ks).map ((fun p : Addr × List Int => V.ref p.1) ∘ fun q : Addr × Int × Int => (q.1, [q.2.1, q.2.2])) = as.map V.ref := by
      have e2 : (fun p : Addr × List Int => V.ref p.1) ∘ (fun q : Addr × Int × Int => (q.1, [q.2.1, q.2.2])) = V.ref ∘ Prod.fst := rfl
      rw [e2, ← List.map_map, List.map_fst_zip (by omega)]
    rw [this]
    exact hl.sq
  · intro q hq
    obtain ⟨z, hz, rfl⟩ := List.mem_map.mp hq
    exact (hmem hz).sq
  · -- the set's items
    have back : ∀ q ∈ L, ∃ k : Int × Int, q.2 = [k.1, k.2] ∧ (q.1, k) ∈ as.zip ks := fun q hq => by
      obtain ⟨z, hz, e⟩ := List.mem_map.mp (hL1 q hq)
      exact ⟨z.2, by rw [← e], by rw [← e]; exact hz⟩
    refine ⟨a, L, 2, B, rfl, upd_same, fun q hq => ?_, by decide, fun q hq => ?_, fun L' c pm nd few pw hn => ?_⟩
    · obtain ⟨k, e, m⟩ := back q hq
      rw [e]
      exact ((hmem m).keep (M' := M) (fun b u _ e => .inl (up_new ha b u e)) fun b z => .inl z).sq
    · obtain ⟨k, e, m⟩ := back q hq
      have hb := hbd k (List.of_mem_zip m).2
      rw [e]
      refine ⟨rfl, fun m hm => ?_⟩
      rcases List.mem_cons.mp hm with rfl | hm
      · exact hb.1
      · rw [List.mem_singleton.mp hm]; exact hb.2
    · -- the sorted row
      have hL' : ∃ Lk : List (Addr × Int × Int), L' = Lk.map (fun q => (q.1, [q.2.1, q.2.2])) ∧ ∀ z ∈ Lk, z ∈ as.zip ks := by
        have : ∀ l : List (Addr × List Int), (∀ q ∈ l, q ∈ L) → ∃ Lk : List (Addr × Int × Int), l = Lk.map (fun q => (q.1, [q.2.1, q.2.2])) ∧ ∀ z ∈ Lk, z ∈ as.zip ks := by
          intro l
          induction l with
          | nil => intro _; exact ⟨[], rfl, by simp⟩
          | cons q l ih =>
            intro hq
            obtain ⟨Lk, e, m⟩ := ih fun z hz => hq z (List.mem_cons_of_mem _ hz)
            obtain ⟨k, e2, m2⟩ := back q (hq q (List.mem_cons_self ..))
            refine ⟨(q.1, k) :: Lk, by rw [List.map_cons, ← e, ← e2], fun z hz => ?_⟩
            rcases List.mem_cons.mp hz with rfl | hz
            · exact m2
            · exact m z hz
        exact this L' fun q hq => pm.mem_iff.mp hq
      obtain ⟨Lk, rfl, hLk⟩ := hL'
      have ph := hk (Lk.map (·.2)) ?_ (fun x => ?_) ?_
      · have H2n : upd H1 a (SetTO Z.X.prog Z.X.w a L) c = none := hn
        have nMa : ¬ M1 a := fun z => o.st.liv a z ha
        have eo : EndO Z M M ρ ρ1 σ H (upd H1 a (SetTO Z.X.prog Z.X.w a L)) := by
          have x := o.less p
          exact ⟨x.sim, x.kp.trans (fun b u _ e => .inl (up_new ha b u e)), x.more, x.new, x.st.laid (up_new ha) (fun b z => .inl z) fun b z => z⟩
        have hrow : RpA Z.X.K M (upd H1 a (SetTO Z.X.prog Z.X.w a L)) (((Lk.map fun q => (q.1, [q.2.1, q.2.2])).map fun q => V.ref q.1)) ((Lk.map (·.2)).map prDD) := by
          clear ph pm nd few pw
          induction Lk with
          | nil => exact .nil
          | cons z Lk ih =>
            refine .cons ?_ (ih fun y hy => hLk y (List.mem_cons_of_mem _ hy))
            have := (hmem (hLk z (List.mem_cons_self ..))).keep (M' := M) (H' := upd H1 a (SetTO Z.X.prog Z.X.w a L)) (fun b u _ e => .inl (up_new ha b u e)) fun b z => .inl z
            exact .tup this (.cons (.int _) (.cons (.int _) .nil))
        exact eo.list ph hn hrow
      · have : ((Lk.map fun q : Addr × Int × Int => (q.1, [q.2.1, q.2.2])).map (·.2)) = (Lk.map (·.2)).map fun k : Int × Int => [k.1, k.2] := by rw [List.map_map, List.map_map]; rfl
        rw [this] at nd
        exact (List.pairwise_map.mp nd).imp fun h z => h (by rw [z])
      · constructor
        · intro hx
          obtain ⟨z, hz, rfl⟩ := List.mem_map.mp hx
          exact (List.of_mem_zip (hLk z hz)).2
        · intro hx
          obtain ⟨i, hi⟩ := List.mem_iff_getElem?.mp hx
          have hi' : i < as.length := by rw [hal]; exact (List.getElem?_eq_some_iff.mp hi).1
          have hz2 : (as[i], x) ∈ as.zip ks := List.mem_iff_getElem?.mpr ⟨i, List.getElem?_zip_eq_some.mpr ⟨List.getElem?_eq_getElem hi', hi⟩⟩
          obtain ⟨q, hq, e⟩ := List.mem_map.mp (hL2 (as[i], [x.1, x.2]) (List.mem_map.mpr ⟨_, hz2, rfl⟩))
          obtain ⟨z, hz, rfl⟩ := List.mem_map.mp (pm.mem_iff.mpr hq)
          have e : [z.2.1, z.2.2] = [x.1, x.2] := e
          refine List.mem_map.mpr ⟨z, hz, ?_⟩
          simp only [List.cons.injEq, and_true] at e
          exact Prod.ext e.1 e.2
      · rw [List.pairwise_map] at pw ⊢
        refine List.Pairwise.imp_of_mem (fun {x y} hx hy hxy => ?_) pw
        have bd : ∀ z ∈ Lk, TS.Bd B [z.2.1, z.2.2] := fun z hz m hm => by
          have hb := hbd z.2 (List.of_mem_zip (hLk z hz)).2
          rcases List.mem_cons.mp hm with rfl | hm
          · exact hb.1
          · rw [List.mem_singleton.mp hm]; exact hb.2
        exact code_lex (bd x hx) (bd y hy) hxy
end
end DL
set_option Elab.async false
set_option linter.all false
set_option maxRecDepth 100000
/-! DMc: f-strings; a sign in a text; a lambda whose result, or whose exception's label, is told. -/
namespace DL
open PySem PySem.Spec PyProof.Rows L2 HotX L2H LamX
section
variable {Z : Ct} {ρ ρ1 ρ2 : Env} {Φ : Rv → Env → Prop} {M M1 : AS} {σ σ1 : DL.St} {H H1 H2 : Hp} {e : Expr} {pos : Pos} {r1 r2 : Rv}
theorem de_fmt (h : DE Z e ρ fun r ρ1 => (∃ i : Int, vw ρ1 r = some (.int i) ∧ i.natAbs.log2 < 1920 ∧ Φ (.dat (.str (toString i))) ρ1) ∨ (∃ y : Str, vw ρ1 r = some (.str y) ∧ y.length ≤ sizeLine ∧ Φ (.dat (.str y)) ρ1)) : DE Z (.FormattedValue e (-1) none pos) ρ Φ := fun M σ H p pins s I =>
  (pe_fmt (pe_u Z.X e)).run pins s σ H _ I ((h M σ H p).mono fun v H1 ⟨r, ρ1, M1, q, o⟩ => by
    rcases q with ⟨i, ei, hl, k⟩ | ⟨y, ey, hl, k⟩
    · exact .inr ⟨i, (o.v ei).int, hl, (o.less p).post k (.str _)⟩
    · exact .inl ⟨y, (o.v ey).str, hl, (o.less p).post k (.str _)⟩)
/-- texts one behind the other -/
def DJ (Z : Ct) : List Expr → Str → Env → (Str → Env → Prop) → Prop
  | [], acc, ρ, Φ => Φ acc ρ
  | e :: es, acc, ρ, Φ => DE Z e ρ fun r ρ1 => ∃ y : Str, r = .dat (.str y) ∧ (acc ++ y).length ≤ sizeLine ∧ DJ Z es (acc ++ y) ρ1 Φ
def uJs (X : Cx) : List Expr → List TE := fun es => es.map fun e => uE X e
theorem pj_u (X : Cx) : ∀ es : List Expr, PJ X es (uJs X es)
  | [] => .nil
  | e :: es => .cons (pe_u X e) (pj_u X es)
theorem dj_run {Ψ : Str → Env → Prop} (pr : Pre Z M ρ σ H) : ∀ {es : List Expr} {acc : Str} {ρ1 : Env} {H1 : Hp}, DJ Z es acc ρ1 Ψ → EndO Z M M ρ ρ1 σ H H1 → tJs (uJs Z.X es) acc σ H1 fun out H2 => ∃ ρ2, Ψ out ρ2 ∧ EndO Z M M ρ ρ2 σ H H2
  | [], _, _, _, h, o => ⟨_, h, o⟩
  | e :: es, acc, ρ1, H1, h, o => (h M σ H1 (o.pre pr)).mono fun v H2 ⟨r, ρ2, M2, ⟨y, er, hl, k⟩, o2⟩ => by
    subst er
    have pd : Rp Z.X.K M2 H2 v (.str y) := o2.pd
    cases pd
    exact ⟨y, rfl, hl, dj_run pr k (o.trans pr (o2.less (o.pre pr)))⟩
theorem de_js {e1 e2 : Expr} {es : List Expr} (h : DJ Z (e1 :: e2 :: es) Str.empty ρ fun out ρ' => Φ (.dat (.str out)) ρ') : DE Z (.JoinedStr (e1 :: e2 :: es) pos) ρ Φ := fun M σ H p pins s I => by
  refine (pe_joined (pj_u Z.X (e1 :: e2 :: es))).run pins s σ H _ I ?_
  have x := dj_run p h ⟨Sim.refl ρ, Kp.refl _ H, fun _ z => z, fun _ z => .inl z, p.st⟩
  have mono : ∀ {ts : List TE} {es : List Expr} {acc : Str} {H : Hp} {Q Q' : Str → Hp → Prop}, ts = uJs Z.X es → (∀ o H, Q o H → Q' o H) → tJs ts acc σ H Q → tJs ts acc σ H Q' := by
    intro ts es
    induction es generalizing ts with
    | nil => rintro acc H Q Q' rfl f h; exact f _ _ h
    | cons a es ih =>
      rintro acc H Q Q' rfl f h
      exact uE.mono h fun v H1 ⟨y, e, hl, k⟩ => ⟨y, e, hl, ih rfl f k⟩
  exact mono rfl (fun out H2 ⟨ρ2, k, o⟩ => o.post k (.str _)) x
/-- c in xs, xs a list; c not in xs -/
theorem od_inLP {ds : List D} {d1 : D} (e1 : vw ρ2 r1 = some d1) (e2 : vw ρ2 r2 = some (.list ds)) (s1 : PyData.plain d1 = true) (s2 : PyData.plainAll ds = true) (hd : d1.depth ≤ 60) (hu : Z.X.A.units + 65 < cLine) (k : Φ (.dat (.bool (ds.any fun z => PyData.eqv z d1))) ρ2) : OpD Z (compareOp .In) ρ2 r1 r2 Φ :=
  fun M M2 ρ σ H H2 x y p t pins s v u I rx ry => by
    obtain ⟨as, ra⟩ := Dp.reads I _ _ _ (t.v1 e1).dp rx
    obtain ⟨bs, rb⟩ := Dp.reads I _ _ _ (t.v2 e2).dp ry
    exact PySem.SeqAt.in_list_data rb ra s2 s1 (by have := Nat.min_le_right (PyData.depthAll ds) d1.depth; omega) ⟨.bl _, H2, I, rfl, t.post k (.bl _)⟩
theorem od_notInLP {ds : List D} {d1 : D} (e1 : vw ρ2 r1 = some d1) (e2 : vw ρ2 r2 = some (.list ds)) (s1 : PyData.plain d1 = true) (s2 : PyData.plainAll ds = true) (hd : d1.depth ≤ 60) (hu : Z.X.A.units + 65 < cLine) (k : Φ (.dat (.bool (!ds.any fun z => PyData.eqv z d1))) ρ2) : OpD Z (compareOp .NotIn) ρ2 r1 r2 Φ :=
  fun M M2 ρ σ H H2 x y p t pins s v u I rx ry => by
    obtain ⟨as, ra⟩ := Dp.reads I _ _ _ (t.v1 e1).dp rx
    obtain ⟨bs, rb⟩ := Dp.reads I _ _ _ (t.v2 e2).dp ry
    exact PySem.SeqAt.notIn_list_data rb ra s2 s1 (by have := Nat.min_le_right (PyData.depthAll ds) d1.depth; omega) ⟨.bl _, H2, I, rfl, t.post k (.bl _)⟩
theorem dIx0 (d : D) (ds : List D) : dIx (.list (d :: ds)) 0 = some d := dIx_at (i := 0) (Int.le_refl 0) rfl
theorem rng_memG {lo : Int} {n : Nat} {d : D} (h : d ∈ rng lo n) : ∃ j : Int, d = .int j ∧ lo ≤ j ∧ j < lo + n := by
  unfold rng at h
  obtain ⟨k, hk, rfl⟩ := List.mem_map.mp h
  have := List.mem_range.mp hk
  exact ⟨_, rfl, by omega, by omega⟩
theorem dj_nil {acc : Str} {Ψ : Str → Env → Prop} (h : Ψ acc ρ) : DJ Z [] acc ρ Ψ := h
theorem dj_cons {acc : Str} {es : List Expr} {Ψ : Str → Env → Prop} (h : DE Z e ρ fun r ρ1 => ∃ y : Str, r = .dat (.str y) ∧ (acc ++ y).length ≤ sizeLine ∧ DJ Z es (acc ++ y) ρ1 Ψ) : DJ Z (e :: es) acc ρ Ψ := h
/-- c in s, c one sign -/
theorem od_inC {c : Nat} {z : Str} (e1 : vw ρ2 r1 = some (.str ⟨#[c]⟩)) (e2 : vw ρ2 r2 = some (.str z)) (k : Φ (.dat (.bool (decide (c ∈ z.cps.toList)))) ρ2) : OpD Z (compareOp .In) ρ2 r1 r2 Φ :=
  OpD.of op_in_sign fun M M2 ρ σ H H2 x y p t => ⟨c, z, (t.v1 e1).str, (t.v2 e2).str, t.post k (.bl _)⟩
/-- what a def that tells what a lambda returns, or the label of its exception, is made of -/
structure ToldDef (K : PySem.W.Frag) (mg : Str → Option Value) (x a ex n : Str) (fe PE : Addr) (scope : Scope) (tryBody : List Stmt) (suite : Stmt) : Prop where
  fd : ∃ (params : Arguments) (p : Pos) (p2 p3 : Pos) (fde : FuncData), FunD K x x params [.Try tryBody [.ExceptHandler (some (.Name ex p2)) (some n) [suite] p3] [] [] p] scope [] [] fe fde ∧ Binds K fde [a] []
  sc : FnScope [a, n] [a] scope
  gx : mg x = some (.ref fe)
  pe : mg ex = some (.ref PE)
  ge : scope.names.lookup ex = some .globalImplicit
  de : (ex == ("__debug__" : Str)) = false
  da : (a == ("__debug__" : Str)) = false
  dc : (a == ("__classdict__" : Str)) = false
  ln : scope.names.lookup n = some .local
  va : Vis scope a
/-- x(lambda: body) -/
theorem de_told {x a ex n : Str} {fe PE : Addr} {scopeE : Scope} {suite : Stmt} {p1 p2 p7 p8 p9 : Pos} {n7 n8 : Nat} (ED : ToldDef Z.X.K Z.X.mg x a ex n fe PE scopeE [.Return (some (.Tuple [.Call (.Name a p1) [] [] p2, .Constant (.str "") n7 p7] n8 p8)) p9] suite)
    {c P : Addr} (TZ : TabZ Z c P) {k : Nat} (hr : Room (k + 2) Z.X.A) {LB : Value → Str → Prop} (hLB : ∀ cls lab, LB cls lab → PySem.W.exmOne Z.X.K cls (.ref PE) = some true)
    (hsuite : ∀ (cls : Value) (lab : Str), LB cls lab → ∀ (cdv : Value) (A : Around) (outer : List PySem.Env) (s : Shared) (H H0 : Hp) (E : XK) (f e : Addr) (oe : Obj) (pn : List (Addr × Obj)) (M0 : AS), L2N.Zn cls none oe → (∃ vs, oe.data = .fields vs) → Room (k + 1) (A.deeper (envOfC x scopeE s.heap.objs.size fe cdv)) →
      DS ⟨(cxOf (L2N.CX Z.X.prog Z.X.w) Z.X.prog Z.X.w Z.X.K Z.X.mg Z.X.base [a, n] x scopeE fe cdv A outer s H E).suite e ((e, oe) :: pn), Z.T, fun _ => False, M0, H0, fun _ _ => False⟩ suite [some (.raw (.ref f)), some (.raw (.ref e))] { nx := fun _ => False, rt := fun r _ => r = .dat (.tuple [.none, .str lab]) })
    {params : Arguments} {body : Expr} {scope : Scope} {p4 lpos pos : Pos} (t : LamT Z.X.env.scope scope []) (hdef : defaultsOf params Z.X.env = ([], []))
    (hbind : ∀ (q : Str) (cl : List (Str × Addr)) (pm cv ctv : Value), bindArgs (PySem.W.kla_fn "<lambda>" q params body scope cl pm cv ctv) ⟨[], []⟩ = pure [])
    (hbody : ∀ (q : Str) (f c' : Addr) (cl : List (Str × Addr)) (A : Around) (outer : List PySem.Env) (s : Shared) (H : Hp) (E : XK) (W0 M0 : AS), Room k (ctCl Z Z.X.N q scope f c' cl A outer s H E W0 M0 fun cls ρ' => Sim ρ ρ' ∧ ∃ lab, LB cls lab ∧ Φ (.dat (.tuple [.none, .str lab])) ρ').X.A →
      L2N.Takes (ctCl Z Z.X.N q scope f c' cl A outer s H E W0 M0 fun cls ρ' => Sim ρ ρ' ∧ ∃ lab, LB cls lab ∧ Φ (.dat (.tuple [.none, .str lab])) ρ').X (wz (ctCl Z Z.X.N q scope f c' cl A outer s H E W0 M0 fun cls ρ' => Sim ρ ρ' ∧ ∃ lab, LB cls lab ∧ Φ (.dat (.tuple [.none, .str lab])) ρ')) →
      (∀ L N σL ρL, LamK Z L N σL ρL → LamK (ctCl Z Z.X.N q scope f c' cl A outer s H E W0 M0 fun cls ρ' => Sim ρ ρ' ∧ ∃ lab, LB cls lab ∧ Φ (.dat (.tuple [.none, .str lab])) ρ') L N σL ρL) →
      DE (ctCl Z Z.X.N q scope f c' cl A outer s H E W0 M0 fun cls ρ' => Sim ρ ρ' ∧ ∃ lab, LB cls lab ∧ Φ (.dat (.tuple [.none, .str lab])) ρ') body ρ fun r ρ' => ∃ d, vwd r = some d ∧ Φ (.dat (.tuple [d, .str ""])) ρ')
    (hg : Gl Z.X x := by rfl) (hdb : (x == ("__debug__" : Str)) = false := by decide) : DE Z (.Call (.Name x p4) [.Lambda params body scope lpos] [] pos) ρ Φ := fun M σ H pr pins s I => by
  obtain ⟨prm, q1, q2, q3, fde, FDe, hbe⟩ := ED.fd
  refine wpAny_Call_Name_kw (ld_glob I hg ED.gx ?_ hdb)
  refine PySem.W.callWith_K (h₀ := Z.X.base) I.ok.mod.kin FDe.kp ?_ (by rfl) (by rfl)
  show wpAny _ _ (spliced ((false, eval (.Lambda params body scope lpos) Z.X.env) :: backTo pos (starEach [] Z.X.env))) _ _ s
  have hfree : ∀ y ∈ scope.names, y.2 = .free → ∃ c, Z.X.env.cells.lookup y.1 = some c := fun y hy e => I.ok.has _ (t.free y hy e)
  refine Calls.spliced_cons (lam_mk I TZ.tb TZ.code TZ.mem TZ.uniq pr.st.tab hdef hfree fun f c' pm ctv H1 s1 I1 gr T1 hsz hf hn hc => ?_)
  refine Calls.spliced_nil ⟨I1.kIn, ?_⟩
  have S1 : StS Z.X.K Z.T M ρ σ H1 := pr.st.okeep gr T1
  have k01 : Kp (Mo ρ) H H1 := fun b o _ e => gr b o e
  have pr1 : Pre Z M ρ σ H1 := ⟨pr.m0, S1, pr.base.trans ⟨k01, fun _ z => .inl z⟩, pr.w0, pr.mu⟩
  have nfr : f ∉ L2.frs Z.X.stack := fun z => by
    rcases List.mem_cons.mp (I.stkSub _ z) with q | q
    · exact absurd I.lt (by rw [← q]; exact Nat.not_lt.mpr hsz)
    · exact I.nofs hsz q
  have now := lam_now I1 t.free hf hn nfr
  have cls := t.cls I1.ok
  generalize hL : (⟨Z.X.env.qual ++ "<lambda>", params, body, scope, cloFrom Z.X.env.cells scope.names [], pm, ctv, f, c'⟩ : Lam) = L at now
  obtain ⟨oc, od, dV, kV, doc, pme, an, cdv, ct, osl, rfl, lk, hcd, _, _⟩ := FDe.ex
  -- the end: label given out
  have fin : ∀ {lab : D} {ρ' : Env} {M' : AS} {σ' : DL.St} {H' : Hp} {v : V}, Φ (.dat lab) ρ' → Sim ρ ρ' → Kp (Mo ρ) H1 H' → (∀ a, M a → M' a) → (∀ a, M' a → M a ∨ H1 a = none) → StS Z.X.K Z.T M' ρ' σ' H' → Rp Z.X.K M' H' v lab → Post Z M ρ σ H Φ v H' := fun {lab ρ' M' σ' H' v} ph sim kp mo nw S' rp =>
    ⟨.dat lab, ρ', M', ph, sim, k01.trans kp, mo, fun b z => (nw b z).imp id fun w => fresh_back (W := fun _ => False) (fun a o _ e => gr a o e) (fun z => z) w, S1.again S' sim kp mo nw, rp⟩
  have rc : codeAny (model Z.X.prog Z.X.w) Z.X.A (.call (.ref fe) ⟨[.ref f], []⟩) (L2.CR (L2N.CX Z.X.prog Z.X.w) Z.X.stack Z.X.prog Z.X.w H1 s1 (Post Z M ρ σ H Φ) (fun _ _ _ => False)) s1 := by
    have bt := hbe s1 [.ref f] I1.kIn rfl
    refine run_ofS (k := k + 1) (N := [a, n]) (ps := [a]) (us := [.ref f]) (vs := [.ref f]) lk hcd ED.sc hr I1.env0 bt (.cons rfl .nil) rfl fun hr' => ?_
    have key : ∀ (W : WX) (D1 : Ends), (∀ v H', Post Z M ρ σ H Φ v H' → D1.rt v H') →
        (∀ cls H', (∃ σ' ρ' lab, LB cls lab ∧ Φ (.dat (.tuple [.none, .str lab])) ρ' ∧ Sim ρ ρ' ∧ StS Z.X.K Z.T (fun a => M a ∨ Mo ρ' a) ρ' σ' H' ∧ Step (Mo ρ) H1 (Mo ρ') H') → W cls none (L2.start [a, n] [.ref f]) H') →
        ∀ pn xe, L2N.Takes ((cxOf (L2N.CX Z.X.prog Z.X.w) Z.X.prog Z.X.w Z.X.K Z.X.mg Z.X.base [a, n] x scopeE fe cdv Z.X.A Z.X.stack s1 H1 (fun _ _ _ => False)).tr pn xe) W → uSs ((cxOf (L2N.CX Z.X.prog Z.X.w) Z.X.prog Z.X.w Z.X.K Z.X.mg Z.X.base [a, n] x scopeE fe cdv Z.X.A Z.X.stack s1 H1 (fun _ _ _ => False)).tr pn xe) [.Return (some (.Tuple [.Call (.Name a p1) [] [] p2, .Constant (.str "") n7 p7] n8 p8)) p9] D1 (L2.start [a, n] [.ref f]) H1 := by
      intro W D1 hnx hex pn xe tk pins' s2 IY
      refine (pss_one (ps_ret (pe_tup (pa_cons (pe_u _ _) (pa_cons pe_str pa_nil))))).run pins' s2 _ H1 _ IY ?_
      intro pins3 s3 I3
      refine wpAny_Call_Name_kw (thn ((pe_var (pos := p1) (i := 0) (x := a) rfl ED.va ED.da ED.dc).run pins3 s3 _ H1 (fun v H' => v = .ref f ∧ H' = H1) I3 ⟨.ref f, rfl, rfl, rfl⟩) fun u s4 ⟨v, H4, I4, r4, e4, eH⟩ => ?_)
      subst e4
      rw [eH] at I4
      cases r4
      have nw := (LamNow.into (Y := (cxOf (L2N.CX Z.X.prog Z.X.w) Z.X.prog Z.X.w Z.X.K Z.X.mg Z.X.base [a, n] x scopeE fe cdv Z.X.A Z.X.stack s1 H1 (fun _ _ _ => False)).tr pn xe) now rfl (fun _ _ z => absurd (show _ ∈ ([] : List Addr) from z) (by simp))).here I4
      subst hL
      refine PySem.W.callWith_F0 ⟨_, _, _, _, nw.at_.obj⟩ ?_
      have rc := cl_run (Q := Post (ctCl Z Z.X.N (Z.X.env.qual ++ "<lambda>") scope f c' (cloFrom Z.X.env.cells scope.names []) _ _ s4 H1 (WE W (L2.start [a, n] [.ref f])) (Mo ρ) M fun cls ρ' => Sim ρ ρ' ∧ ∃ lab, LB cls lab ∧ Φ (.dat (.tuple [.none, .str lab])) ρ') M ρ σ H1 (fun r ρ' => ∃ d, vwd r = some d ∧ Φ (.dat (.tuple [d, .str ""])) ρ')) (k := k) (E := WE W (L2.start [a, n] [.ref f])) cls (nw.clv0 cls (fun y hy e => absurd ((t.own y hy).1 e) (by simp)) I1.len) I4.env0 hr' nw.at_.obj hc (hbind _ _ _ _ _) I4.nolimit
        fun hr2 => hbody _ _ _ _ _ _ _ _ _ _ _ hr2 ((L2N.takes_of rfl rfl rfl rfl).imp fun cls d σ' H' ⟨ed, ρ', ⟨sim, lab, hl, ph⟩, S', st'⟩ => ed ▸ hex cls H' ⟨σ', ρ', lab, hl, ph, sim, S', st'⟩) (fun L N σL ρL kL => ⟨⟨((LamNow.into (Y := (cxOf (L2N.CX Z.X.prog Z.X.w) Z.X.prog Z.X.w Z.X.K Z.X.mg Z.X.base [a, n] x scopeE fe cdv Z.X.A Z.X.stack s1 H1 (fun _ _ _ => False)).tr pn xe) (kL.gr.here I1) rfl (fun _ _ z => absurd (show _ ∈ ([] : List Addr) from z) (by simp))).here I4), fun _ _ z => absurd (show _ ∈ ([] : List Addr) from z) (by simp)⟩, (kL.now pr1).2, (kL.now pr1).1, kL.nown, kL.len⟩) M σ H1 ⟨fun _ h => h, S1, Step.refl _ _, S1.own, fun _ z => .inl z⟩
      refine wpAny_call (codeAny_mono rc fun r s5 hq => ?_)
      cases r with
      | error e => exact L2N.passAt tk _ pins3 H1 s4 e s5 I4 hq
      | ok fl =>
        cases fl with
        | ret u =>
          obtain ⟨v, H', I5, rv, r, ρ', M', ⟨d, ed, ph⟩, o⟩ := I4.after hq
          have rd : Rp Z.X.K M H' v d := o.pd.data o.more ed
          have lo := o.less ⟨fun _ h => h, S1, Step.refl _ _, S1.own, fun _ z => .inl z⟩
          refine ⟨v, H', I5, rv, (by show [v, V.str ""].length ≤ sizeLine; exact Nat.le_of_ble_eq_true rfl), fun q hq2 => hnx _ _ ?_⟩
          have nq : ¬ M q := fun z => lo.st.liv q z hq2
          have st2 : StS Z.X.K Z.T M ρ' σ (upd H' q (.tup [v, .str ""])) := lo.st.laid (up_new hq2) (fun a z => .inl z) fun a z => z
          exact fin ph lo.sim (lo.kp.trans (kp_new hq2)) lo.more lo.new st2 (.tup (.inl ⟨nq, .inl upd_same⟩) (.cons (rd.keep (fun b u _ e => .inl (up_new hq2 b u e)) fun b z => .inl z) (.cons (.str "") .nil)))
        | next => exact False.elim hq
        | brk => exact False.elim hq
        | cont => exact False.elim hq
    refine ⟨_, pss_one (L2N.ps_try_as (X := cxOf (L2N.CX Z.X.prog Z.X.w) Z.X.prog Z.X.w Z.X.K Z.X.mg Z.X.base [a, n] x scopeE fe cdv Z.X.A Z.X.stack s1 H1 (fun _ _ _ => False)) (c := .ref PE) (i := 1)
      (tb := fun W D σ' H' => ∀ pn xe, L2N.Takes ((cxOf (L2N.CX Z.X.prog Z.X.w) Z.X.prog Z.X.w Z.X.K Z.X.mg Z.X.base [a, n] x scopeE fe cdv Z.X.A Z.X.stack s1 H1 (fun _ _ _ => False)).tr pn xe) W → uSs ((cxOf (L2N.CX Z.X.prog Z.X.w) Z.X.prog Z.X.w Z.X.K Z.X.mg Z.X.base [a, n] x scopeE fe cdv Z.X.A Z.X.stack s1 H1 (fun _ _ _ => False)).tr pn xe) [.Return (some (.Tuple [.Call (.Name a p1) [] [] p2, .Constant (.str "") n7 p7] n8 p8)) p9] D σ' H')
      (ts := fun e cls d D σ' H' => ∀ oe pn, L2N.Zn cls d oe → (∃ vs, oe.data = .fields vs) → uSs ((cxOf (L2N.CX Z.X.prog Z.X.w) Z.X.prog Z.X.w Z.X.K Z.X.mg Z.X.base [a, n] x scopeE fe cdv Z.X.A Z.X.stack s1 H1 (fun _ _ _ => False)).suite e ((e, oe) :: pn)) [suite] D σ' H')
      (Wout := fun _ _ _ _ => False) rfl rfl ED.sc.nd rfl ED.ln ⟨ED.ge, ED.de, .inl ED.pe⟩ takes0N (fun W pn xe tk _ => ⟨fun pins s σ H D I h => h pn xe tk pins s I⟩) (fun e oe cls d pn hz hf => ⟨fun pins s σ H D I h => h oe pn hz hf pins s I⟩)), ?_⟩
    -- behind a statement of that def that writes nothing
    have out : ∀ {Y : Ct} {vs : DL.St} {st : Stmt} {lab : D} {ρ' : Env} {M' : AS} {σ' : DL.St} {H' : Hp} {D : Ends}, Y.X.K = Z.X.K → Y.T = Z.T → Y.W0 = (fun _ => False) → Y.M0 = M' → Y.H0 = H' → DS Y st (rawsOf vs) { nx := fun _ => False, rt := fun r _ => r = .dat lab } → (∀ v H', Post Z M ρ σ H Φ v H' → D.rt v H') →
        Φ (.dat lab) ρ' → Sim ρ ρ' → Kp (Mo ρ) H1 H' → (∀ a, M a → M' a) → (∀ a, M' a → M a ∨ H1 a = none) → StS Z.X.K Z.T M' ρ' σ' H' → uS Y.X st D vs H' := fun {Y vs st lab ρ' M' σ' H' D} eK eT eW eM eH hds hD ph sim kp mo nw S' => by
      have mz0 : ∀ (vs : DL.St) a, Y.mz (rawsOf vs) a → M' a := fun vs a z => by
        rcases z with z | z
        · rw [← eM]; exact z
        · exact absurd z (rawsOf_mo a)
      refine uS.mono (hds vs H' ⟨fun a z => ?_, ?_, ?_⟩) ⟨fun _ _ ⟨_, z, _⟩ => z.elim, fun v H2 ⟨r, ρ2, σ2, M2, er, S2, st2, m2, pd, _⟩ => ?_, fun _ _ ⟨_, z, _⟩ => z.elim, fun _ _ ⟨_, z, _⟩ => z.elim⟩
      · rw [eW] at z; exact z.elim
      · rw [eK, eT]
        exact S'.raws vs (mz0 vs)
      · rw [eW, eH]
        exact ⟨Kp.refl _ _, fun a z => absurd z (rawsOf_mo a)⟩
      · subst er
        have k2 : Kp (fun _ => False) H' H2 := st2.kp.imp fun a z => absurd z (rawsOf_mo a)
        have tab2 : Tabs Z.T H2 := by rw [← eT]; exact S2.tab
        have pd' : Rp Y.X.K M2 H2 v lab := pd
        rw [eK] at pd'
        refine hD v H2 (fin ph sim (kp.trans (k2.imp fun _ z => z.elim)) mo nw (S'.calm (fun _ z => z) k2 tab2) (pd'.less fun a z => m2 a (.inl ?_)))
        rw [eM]; exact z
    refine key _ _ (fun v H' q => q) fun cls H' ⟨σ', ρ', lab, hlab, ph, sim, S', st⟩ => ?_
    · refine ⟨true, hLB cls lab hlab, fun _ e he oe pn hz hf => ?_, fun z => Bool.noConfusion z⟩
      have nw' : ∀ b, (M b ∨ Mo ρ' b) → M b ∨ H1 b = none := fun b z => z.elim .inl fun z => .inl (S1.own b (by rw [← sim.mo]; exact z))
      have hs2 := out (Y := ⟨(cxOf (L2N.CX Z.X.prog Z.X.w) Z.X.prog Z.X.w Z.X.K Z.X.mg Z.X.base [a, n] x scopeE fe cdv Z.X.A Z.X.stack s1 H1 (fun _ _ _ => False)).suite e ((e, oe) :: pn), Z.T, fun _ => False, fun b => M b ∨ Mo ρ' b, H', fun _ _ => False⟩) (D := { nx := fun _ _ => False, rt := fun v H' => Post Z M ρ σ H Φ v H' }) (vs := [some (.ref f), some (.ref e)]) rfl rfl rfl rfl rfl (hsuite cls lab hlab cdv Z.X.A Z.X.stack s1 H1 H' (fun _ _ _ => False) f e oe pn (fun b => M b ∨ Mo ρ' b) hz hf hr') (fun v H' q => q) ph sim st.kp (fun _ z => .inl z) nw' S'
      intro pins9 s9 I9
      exact (pss_one (ps_u _ suite)).run pins9 s9 _ H' _ I9 (uS.mono hs2 ⟨fun _ _ z => z.elim, fun _ _ z => z, fun _ _ z => z.elim, fun _ _ z => z.elim⟩)
  refine wpAny_call (codeAny_mono rc fun r s5 hq => ?_)
  cases r with
  | error e =>
    obtain ⟨_, _, _, _, _, _, _, _, _, _, _, _, z⟩ := hq
    exact z.elim
  | ok fl =>
    cases fl with
    | ret u => exact I1.after hq
    | next => exact False.elim hq
    | brk => exact False.elim hq
    | cont => exact False.elim hq
end
end DL
set_option Elab.async false
set_option linter.all false
set_option maxRecDepth 100000
set_option maxHeartbeats 0
namespace Law
open PySem PySem.Spec PyProof.Rows L2 DL
local macro_rules | `(tactic| walk_at "sz") => `(tactic| first | assumption | decide | omega | exact Or.inl ⟨by omega, by omega⟩ | exact Or.inr ⟨by omega, by omega⟩ | exact cmul_mod (by assumption) (by assumption) | exact cmul_modR (by assumption) (by assumption) | exact cdiv_of (by omega) (by omega) | (simp [sizeLine_eq]; done) | (simp [sizeLine_eq]; omega))
local macro_rules | `(tactic| walk_at "sh") => `(tactic| first | rfl | assumption | decide)
local macro_rules | `(tactic| walk_at "rc") => `(tactic| repeat (first | exact RetC.nil | apply RetC.dat | apply RetC.own | apply RetC.raw))
section
variable {P : Program} {w : World} {K : PySem.W.Frag} {mg : Str → Option Value} {base : Heap} {T : List (Addr × Str)}
def isWhole : D → Int → Int → Bool
  | .int i, lo, hi => decide (lo ≤ i) && decide (i ≤ hi)
  | _, _, _ => false
def F_is_whole : FS := FP fun cs d => ∃ v lo hi, cs = [.dat v, .dat (.int lo), .dat (.int hi)] ∧ d = .bool (isWhole v lo hi)
theorem m_is_whole : MonoF F_is_whole := FP.mono _
def fitsPull (n : Int) : D → Bool
  | .tuple [a, b, c] => isWhole c (-9) 9 && !PyData.eqv c (.int 0) && isWhole a 0 (n - 1) && isWhole b 0 (n - 1) && !PyData.eqv a b
  | _ => false
def F_fits_pull : FS := FP fun cs d => ∃ (n : Int) (v : D), cs = [.dat (.int n), .dat v] ∧ d = .bool (fitsPull n v)
theorem m_fits_pull : MonoF F_fits_pull := FP.mono _
theorem isWhole_of {v : D} {lo hi : Int} (h : isWhole v lo hi = true) : ∃ i, v = .int i ∧ lo ≤ i ∧ i ≤ hi := by
  cases v with
  | int i => simp only [isWhole, Bool.and_eq_true, decide_eq_true_eq] at h; exact ⟨i, rfl, h.1, h.2⟩
  | _ => cases h
def ordD : D → Bool
  | .tuple [.tuple (.int a :: .int b :: _), .tuple (.int c :: .int d :: _)] => HT.lexLt [a, b] [c, d]
  | _ => false
def fitsWeb : D → Bool
  | .tuple [n, .tuple ps, .tuple ls] => match n with
    | .int p => isWhole n 1 7 && ps.all (fitsPull p) && (pairs ps ps.tail).all ordD && decide ((ls.length : Int) = p) && ls.all (fun l => isWhole l (-9) 9)
    | _ => false
  | _ => false
theorem fitsWeb_len {ds : List D} (h : ds.length ≠ 3) : fitsWeb (.tuple ds) = false := by
  match ds, h with
  | [], _ => rfl
  | [_], _ => rfl
  | [_, x], _ => cases x <;> rfl
  | [_, _, _], h => exact absurd rfl h
  | _ :: x :: y :: _ :: _, _ => cases x <;> first | rfl | (cases y <;> rfl)
def ok1 : D → Bool
  | .tuple ds => decide (ds.length ≤ 1000)
  | _ => true
def okS : D → Bool
  | .tuple ds => decide (ds.length ≤ 1000) && ds.all ok1
  | _ => true
theorem okS1 {a b c : D} {ps : List D} (h : okS (.tuple [a, b, c]) = true) (e : b = .tuple ps ∨ c = .tuple ps) : ps.length ≤ sizeLine := by
  simp only [okS, Bool.and_eq_true, List.all_cons] at h
  rw [sizeLine_eq]
  rcases e with rfl | rfl
  · have := h.2.2.1
    simp [ok1] at this
    omega
  · have := h.2.2.2.1
    simp [ok1] at this
    omega
theorem pairs_mem {xs ys : List D} {d : D} (h : d ∈ pairs xs ys) : ∃ x y, x ∈ xs ∧ y ∈ ys ∧ d = .tuple [x, y] := by
  obtain ⟨i, e⟩ := List.mem_iff_getElem?.mp h
  obtain ⟨x, y, h1, h2, h3⟩ := pairs_get e
  exact ⟨x, y, List.mem_of_getElem? h1, List.mem_of_getElem? h2, h3⟩
theorem pairs_len (xs ys : List D) : (pairs xs ys).length ≤ xs.length := by
  unfold pairs
  rw [List.length_zipWith]
  exact Nat.min_le_left _ _
def F_fits_web : FS := FP fun cs d => ∃ (v : D), cs = [.dat v] ∧ okS v = true ∧ d = .bool (fitsWeb v)
theorem m_fits_web : MonoF F_fits_web := FP.mono _
theorem all_id {α : Type} (f : α → Bool) (l : List α) : (l.map f).all id = l.all f := by
  induction l with
  | nil => rfl
  | cons a l ih => simp [ih]
theorem fmap_some {α β : Type} (f : α → β) (l : List α) : l.filterMap (fun d => some (f d)) = l.map f := by
  induction l with
  | nil => rfl
  | cons a l ih => simp
theorem bools {α : Type} (f : α → Bool) (l : List α) : l.map (fun d => PyData.bool (f d)) = (l.map f).map PyData.bool := by rw [List.map_map]; rfl
theorem fitsPull_of {n : Int} {v : D} (h : fitsPull n v = true) : ∃ a b c : Int, v = .tuple [.int a, .int b, .int c] ∧ 0 ≤ a ∧ a ≤ n - 1 ∧ 0 ≤ b ∧ b ≤ n - 1 ∧ a ≠ b ∧ -9 ≤ c ∧ c ≤ 9 ∧ c ≠ 0 := by
  match v, h with
  | .tuple [a, b, c], h =>
    simp only [fitsPull, Bool.and_eq_true] at h
    obtain ⟨⟨⟨⟨h1, h2⟩, h3⟩, h4⟩, h5⟩ := h
    obtain ⟨ci, rfl, c1, c2⟩ := isWhole_of h1
    obtain ⟨ai, rfl, a1, a2⟩ := isWhole_of h3
    obtain ⟨bi, rfl, b1, b2⟩ := isWhole_of h4
    refine ⟨ai, bi, ci, rfl, a1, a2, b1, b2, ?_, c1, c2, ?_⟩
    · intro z; subst z; simp [PyData.eqv] at h5
    · intro z; subst z; simp [PyData.eqv] at h2
theorem cut1 (ps : List D) : DL.cutD ps (some 1) none = ps.tail := by
  unfold DL.cutD
  have h1 : HT.sIx ps.length 0 (some 1) = min 1 ps.length := by
    simp [HT.sIx]
  have h2 : HT.sIx ps.length ps.length none = ps.length := rfl
  rw [h1, h2]
  cases ps with
  | nil => rfl
  | cons a r => simp
theorem cut2 (a b : D) (r : List D) : DL.cutD (a :: b :: r) none (some 2) = [a, b] := by
  unfold DL.cutD
  have h1 : HT.sIx (a :: b :: r).length 0 none = 0 := rfl
  have h2 : HT.sIx (a :: b :: r).length (a :: b :: r).length (some 2) = 2 := by
    simp [HT.sIx]
  rw [h1, h2]
  rfl
/-! sayings as rows of bits -/
def sgn (b : Bool) : Str := if b then "+" else "-"
def sgD (b : Bool) : D := .str (sgn b)
def code (b : Bool) : Nat := if b then 43 else 45
def sayS (bs : List Bool) : Str := ⟨(bs.map code).toArray⟩
theorem sgn_code (b : Bool) : sgn b = ⟨#[code b]⟩ := by cases b <;> decide +kernel
theorem sayS_len (bs : List Bool) : (sayS bs).length = bs.length := by
  show (bs.map code).toArray.size = _
  simp
theorem signs_say (bs : List Bool) : DL.signs (sayS bs) = bs.map sgD := by
  show ((bs.map code).toArray.toList.map fun c => PyData.str ⟨#[c]⟩) = _
  rw [List.toList_toArray, List.map_map]
  apply List.map_congr_left
  intro b _
  show PyData.str ⟨#[code b]⟩ = .str (sgn b)
  rw [sgn_code]
def isSign (d : D) : Bool := [PyData.str "+", .str "-"].any fun z => PyData.eqv z d
theorem isSign_sg (b : Bool) : isSign (sgD b) = true := by cases b <;> decide +kernel
theorem eqv_str (a b : Str) : PyData.eqv (.str a) (.str b) = decide (a = b) := by
  simp only [PyData.eqv]
  exact Bool.eq_iff_iff.mpr (by simp)
theorem isSign_of {c : Nat} (h : isSign (.str ⟨#[c]⟩) = true) : ∃ b, c = code b := by
  have e1 : (Str.ofString "+") = ⟨#[43]⟩ := by decide +kernel
  have e2 : (Str.ofString "-") = ⟨#[45]⟩ := by decide +kernel
  simp only [isSign, List.any_cons, List.any_nil, eqv_str, e1, e2, Bool.or_false, Bool.or_eq_true, decide_eq_true_eq] at h
  rcases h with h | h <;> injection h with h <;> injection h with h <;> injection h with h _
  · exact ⟨true, h.symm⟩
  · exact ⟨false, h.symm⟩
def fitsSaying (p : Int) : D → Bool
  | .str s => decide ((s.length : Int) = p) && (DL.signs s).all isSign
  | _ => false
theorem fitsSaying_of {p : Int} {d : D} (h : fitsSaying p d = true) : ∃ bs : List Bool, d = .str (sayS bs) ∧ (bs.length : Int) = p := by
  cases d with
  | str s =>
    simp only [fitsSaying, Bool.and_eq_true, decide_eq_true_eq] at h
    obtain ⟨h1, h2⟩ := h
    have : ∀ l : List Nat, (l.map fun c => PyData.str ⟨#[c]⟩).all isSign = true → ∃ bs : List Bool, l = bs.map code := by
      intro l
      induction l with
      | nil => intro _; exact ⟨[], rfl⟩
      | cons c l ih =>
        intro q
        simp only [List.map_cons, List.all_cons, Bool.and_eq_true] at q
        obtain ⟨b, rfl⟩ := isSign_of q.1
        obtain ⟨bs, rfl⟩ := ih q.2
        exact ⟨b :: bs, rfl⟩
    obtain ⟨bs, e⟩ := this _ h2
    have es : s = sayS bs := by
      show s = ⟨(bs.map code).toArray⟩
      rw [← e]
    refine ⟨bs, by rw [es], ?_⟩
    rw [es, sayS_len] at h1
    exact h1
  | _ => cases h
theorem fitsSaying_say {p : Int} {bs : List Bool} (h : (bs.length : Int) = p) : fitsSaying p (.str (sayS bs)) = true := by
  simp only [fitsSaying, sayS_len, h, decide_true, Bool.true_and, signs_say, List.all_eq_true]
  intro d hd
  obtain ⟨b, _, rfl⟩ := List.mem_map.mp hd
  exact isSign_sg b
def okT : D → Bool
  | .str s => decide (s.length ≤ 1000)
  | _ => true
theorem okT_len {s : Str} (h : okT (.str s) = true) : (DL.signs s).length ≤ sizeLine := by
  have := of_decide_eq_true h
  unfold DL.signs
  rw [List.length_map, sizeLine_eq]
  show s.length ≤ _
  omega
theorem okT_le {s : Str} (h : okT (.str s) = true) : s.length ≤ sizeLine := by
  have := of_decide_eq_true h
  rw [sizeLine_eq]
  omega
def F_fits_saying : FS := FP fun cs d => ∃ (p : Int) (b c v : D), cs = [.dat (.tuple [.int p, b, c]), .dat v] ∧ okT v = true ∧ d = .bool (fitsSaying p v)
theorem m_fits_saying : MonoF F_fits_saying := FP.mono _
def needWeb (v : D) : Except Str Rv := if fitsWeb v then .ok (.dat .none) else .error "InvalidWeb"
def F_need_web (K : PySem.W.Frag) : FS := FE K fun cs r => ∃ v, cs = [.dat v] ∧ okS v = true ∧ r = needWeb v
theorem m_need_web : MonoF (F_need_web K) := FE.mono K _
def needPlace (p : Int) (v : D) : Except Str Rv := if isWhole v 0 (p - 1) then .ok (.dat .none) else .error "InvalidPlace"
def F_need_place (K : PySem.W.Frag) : FS := FE K fun cs r => ∃ (p : Int) (b c v : D), cs = [.dat (.tuple [.int p, b, c]), .dat v] ∧ r = needPlace p v
theorem m_need_place : MonoF (F_need_place K) := FE.mono K _
/-! webs as rows of whole numbers -/
def pD (t : Int × Int × Int) : D := .tuple [.int t.1, .int t.2.1, .int t.2.2]
def webD (p : Int) (ps : List (Int × Int × Int)) (ls : List Int) : D := .tuple [.int p, .tuple (ps.map pD), .tuple (ls.map .int)]
def okPull (p : Int) (t : Int × Int × Int) : Prop := 0 ≤ t.1 ∧ t.1 ≤ p - 1 ∧ 0 ≤ t.2.1 ∧ t.2.1 ≤ p - 1
theorem fitsWeb_of {v : D} (h : fitsWeb v = true) : ∃ p ps ls, v = webD p ps ls ∧ 1 ≤ p ∧ p ≤ 7 ∧ (∀ t ∈ ps, okPull p t) ∧ (∀ t ∈ ps, -9 ≤ t.2.2 ∧ t.2.2 ≤ 9) := by
  obtain ⟨ds, rfl⟩ : ∃ ds, v = .tuple ds := by cases v <;> first | exact ⟨_, rfl⟩ | cases h
  obtain ⟨n, b, c, rfl⟩ : ∃ n b c, ds = [n, b, c] := by
    by_cases hl : ds.length = 3
    · match ds, hl with
      | [n, b, c], _ => exact ⟨n, b, c, rfl⟩
    · rw [fitsWeb_len hl] at h
      cases h
  obtain ⟨ps, rfl⟩ : ∃ ps, b = .tuple ps := by cases b <;> first | exact ⟨_, rfl⟩ | cases h
  obtain ⟨ls, rfl⟩ : ∃ ls, c = .tuple ls := by cases c <;> first | exact ⟨_, rfl⟩ | cases h
  obtain ⟨p, rfl⟩ : ∃ p, n = .int p := by cases n <;> first | exact ⟨_, rfl⟩ | cases h
  · simp only [fitsWeb, Bool.and_eq_true] at h
    obtain ⟨⟨⟨⟨h1, h2⟩, h3⟩, h4⟩, h5⟩ := h
    have e1 : ∃ qs : List (Int × Int × Int), ps = qs.map pD ∧ (∀ t ∈ qs, okPull p t) ∧ (∀ t ∈ qs, -9 ≤ t.2.2 ∧ t.2.2 ≤ 9) := by
      clear h1 h3 h4 h5
      induction ps with
      | nil => exact ⟨[], rfl, by simp, by simp⟩
      | cons a r ih =>
        simp only [List.all_cons, Bool.and_eq_true] at h2
        obtain ⟨a1, a2, a3, rfl, z1, z2, z3, z4, _, z6, z7, _⟩ := fitsPull_of h2.1
        obtain ⟨qs, rfl, g, g2⟩ := ih h2.2
        refine ⟨(a1, a2, a3) :: qs, rfl, fun t ht => ?_, fun t ht => ?_⟩
        · rcases List.mem_cons.mp ht with rfl | ht
          · exact ⟨z1, z2, z3, z4⟩
          · exact g t ht
        · rcases List.mem_cons.mp ht with rfl | ht
          · exact ⟨z6, z7⟩
          · exact g2 t ht
    have e2 : ∃ ms : List Int, ls = ms.map PyData.int := by
      clear h1 h2 h3 h4 e1
      induction ls with
      | nil => exact ⟨[], rfl⟩
      | cons a r ih =>
        simp only [List.all_cons, Bool.and_eq_true] at h5
        obtain ⟨i, rfl, _⟩ := isWhole_of h5.1
        obtain ⟨ms, rfl⟩ := ih h5.2
        exact ⟨i :: ms, rfl⟩
    obtain ⟨qs, rfl, g, g2⟩ := e1
    obtain ⟨ms, rfl⟩ := e2
    obtain ⟨i, e, a, b⟩ := isWhole_of h1
    cases e
    exact ⟨p, qs, ms, rfl, a, b, g, g2⟩
def pullG (bs : List Bool) (j : Int) (t : Int × Int × Int) : Option Int := if t.2.1 = j then some (if bs.getD t.1.toNat false then t.2.2 else -t.2.2) else none
def pulledI (ps : List (Int × Int × Int)) (bs : List Bool) (j : Int) : Int := (ps.filterMap (pullG bs j)).sum
def pullGD (bs : List Bool) (j : Int) : D → Option D
  | .tuple [.int a, .int b, .int c] => (pullG bs j (a, b, c)).map .int
  | _ => none
theorem pullGD_map (bs : List Bool) (j : Int) (ps : List (Int × Int × Int)) : (ps.map pD).filterMap (pullGD bs j) = (ps.filterMap (pullG bs j)).map PyData.int := by
  rw [List.filterMap_map, List.map_filterMap]
  rfl
theorem say_at {bs : List Bool} {i : Int} (h0 : 0 ≤ i) (h1 : i < bs.length) : dIx (.str (sayS bs)) i = some (sgD (bs.getD i.toNat false)) := by
  show (atI (bs.map code).toArray.toList i).map (fun c => PyData.str ⟨#[c]⟩) = _
  rw [List.toList_toArray]
  have hl : i.toNat < bs.length := by omega
  rw [show atI (bs.map code) i = some (code (bs.getD i.toNat false)) from ?_]
  · show some (PyData.str ⟨#[code _]⟩) = _
    rw [← sgn_code]; rfl
  · unfold atI ixN
    rw [List.length_map, if_pos h0, if_pos (by omega)]
    show (bs.map code)[i.toNat]? = _
    rw [List.getElem?_map, List.getElem?_eq_getElem hl]
    simp [List.getD, List.getElem?_eq_getElem hl]
theorem say_small {bs : List Bool} (h : bs.length ≤ 1000) : ∀ z, PyData.str (sayS bs) = PyData.str z → z.length ≤ sizeLine := by
  intro z e
  cases e
  rw [sayS_len, sizeLine_eq]
  omega
theorem sgD_plus (b : Bool) : PyData.eqv (sgD b) (.str "+") = b := by cases b <;> decide +kernel
theorem sgD_eq (a b : Bool) : PyData.eqv (sgD a) (sgD b) = (a == b) := by cases a <;> cases b <;> decide +kernel
def F_pulled : FS := FP fun cs d => ∃ (p : Int) (ps : List (Int × Int × Int)) (ls : D) (bs : List Bool) (j : Int), cs = [.dat (.tuple [.int p, .tuple (ps.map pD), ls]), .dat (.str (sayS bs)), .dat (.int j)] ∧ (∀ t ∈ ps, okPull p t) ∧ (bs.length : Int) = p ∧ p ≤ 7 ∧ ps.length ≤ 1000 ∧ d = .int (pulledI ps bs j)
theorem m_pulled : MonoF F_pulled := FP.mono _
def signOf (n : Int) (b : Bool) : Bool := if n > 0 then true else if n < 0 then false else b
def F_sign_of : FS := FP fun cs d => ∃ (n : Int) (b : Bool), cs = [.dat (.int n), .dat (sgD b)] ∧ d = sgD (signOf n b)
theorem m_sign_of : MonoF F_sign_of := FP.mono _
def isSgn : D → Bool
  | .str s => isSign (.str s)
  | _ => false
def fitsFact (p : Int) : D → Bool
  | .tuple [a, b] => fitsSaying p a && isSgn b
  | _ => false
def okF : D → Bool
  | .tuple (a :: _) => okT a
  | _ => true
def F_fits_fact : FS := FP fun cs d => ∃ (p : Int) (b c v : D), cs = [.dat (.tuple [.int p, b, c]), .dat v] ∧ okF v = true ∧ d = .bool (fitsFact p v)
theorem m_fits_fact : MonoF F_fits_fact := FP.mono _
theorem fitsFact_len {p : Int} {ds : List D} (h : ds.length ≠ 2) : fitsFact p (.tuple ds) = false := by
  match ds, h with
  | [], _ => rfl
  | [_], _ => rfl
  | [_, _], h => exact absurd rfl h
  | _ :: _ :: _ :: _, _ => rfl
def factsOk (p : Int) : D → Bool
  | .tuple fs => decide (fs.length ≤ 6) && fs.all (fitsFact p)
  | _ => false
def okFs : D → Bool
  | .tuple fs => decide (fs.length ≤ 1000) && fs.all okF
  | _ => true
def factD (f : List Bool × Bool) : D := .tuple [.str (sayS f.1), sgD f.2]
def goodFact (p : Int) (f : List Bool × Bool) : Prop := (f.1.length : Int) = p
def leanOk (ps : List (Int × Int × Int)) (j : Int) (fs : List (List Bool × Bool)) (l : Int) : Bool := fs.all fun f => signOf (pulledI ps f.1 j + l) (f.1.getD j.toNat false) == f.2
def gL (ps : List (Int × Int × Int)) (j : Int) (fs : List (List Bool × Bool)) : D → Option D
  | .int l => if leanOk ps j fs l then some (.int l) else none
  | _ => none
def leansD (ps : List (Int × Int × Int)) (j : Int) (fs : List (List Bool × Bool)) : List D := (rng (-9) 19).filterMap (gL ps j fs)
def told (W pl Fa : D) (r : Except Str Rv) : Prop :=
  (fitsWeb W = false ∧ r = .error "InvalidWeb") ∨ (fitsWeb W = true ∧ ∃ p ps ls, W = webD p ps ls ∧ (p ≤ 7 ∧ ∀ t ∈ ps, okPull p t) ∧ ((isWhole pl 0 (p - 1) = false ∧ r = .error "InvalidPlace") ∨ (isWhole pl 0 (p - 1) = true ∧
    ((factsOk p Fa = false ∧ r = .error "InvalidFacts") ∨ (factsOk p Fa = true ∧ ∃ j fs, pl = .int j ∧ Fa = .tuple (fs.map factD) ∧ r = .ok (.frs (.lst (leansD ps j fs))))))))
def F_leans_told (K : PySem.W.Frag) : FS := FE K fun cs r => ∃ W pl Fa, cs = [.dat W, .dat pl, .dat Fa] ∧ okS W = true ∧ okFs Fa = true ∧ told W pl Fa r
theorem m_leans_told : MonoF (F_leans_told K) := FE.mono K _
theorem okFs_mem {fs : List D} (h : okFs (.tuple fs) = true) : ∀ d ∈ fs, okF d = true := by
  simp only [okFs, Bool.and_eq_true, List.all_eq_true] at h
  exact h.2
theorem okS_web {p : Int} {ps : List (Int × Int × Int)} {ls : List Int} (h : okS (webD p ps ls) = true) : ps.length ≤ 1000 := by
  simp [okS, webD, ok1] at h
  omega
theorem rng_int {i : Int} {n : Nat} {d : D} (h : d ∈ rng i n) : ∃ l, d = .int l := by
  unfold rng at h
  obtain ⟨x, _, rfl⟩ := List.mem_map.mp h
  exact ⟨_, rfl⟩
theorem factsOk_of {p : Int} {ds : List D} (h1 : decide ((ds.length : Int) > 6) = false) (h2 : ds.all (fitsFact p) = true) : factsOk p (.tuple ds) = true := by
  have h1 := of_decide_eq_false h1
  simp only [factsOk, h2, Bool.and_true]
  exact decide_eq_true (by omega)
theorem goodFacts {p : Int} {fs : List (List Bool × Bool)} (h : (fs.map factD).all (fitsFact p) = true) : ∀ f ∈ fs, (f.1.length : Int) = p := fun f hf => by
  have h := List.all_eq_true.mp h _ (List.mem_map_of_mem hf)
  have h1 : (fitsSaying p (.str (sayS f.1)) && isSgn (sgD f.2)) = true := h
  simp only [Bool.and_eq_true, fitsSaying, decide_eq_true_eq, sayS_len] at h1
  exact h1.1.1
theorem all_map_facts {ps : List (Int × Int × Int)} {j l : Int} {fs : List (List Bool × Bool)} (g : D → Bool) (hg : ∀ f ∈ fs, g (factD f) = (signOf (pulledI ps f.1 j + l) (f.1.getD j.toNat false) == f.2)) : (fs.map factD).all g = leanOk ps j fs l := by
  unfold leanOk
  induction fs with
  | nil => rfl
  | cons a r ih =>
    rw [List.map_cons, List.all_cons, List.all_cons, hg a (List.mem_cons_self ..), ih fun f hf => hg f (List.mem_cons_of_mem _ hf)]
def gF (ps : List (Int × Int × Int)) (j l : Int) : D → Bool
  | .tuple [.str s, d] => PyData.eqv (sgD (signOf (pulledI ps (s.cps.toList.map (· == 43)) j + l) ((s.cps.toList.map (· == 43)).getD j.toNat false))) d
  | _ => false
theorem say_back (bs : List Bool) : (sayS bs).cps.toList.map (· == 43) = bs := by
  show ((bs.map code).toArray.toList.map (· == 43)) = _
  rw [List.toList_toArray, List.map_map]
  have : ((· == 43) ∘ code) = id := by funext b; cases b <;> rfl
  rw [this, List.map_id]
theorem gF_fact (ps : List (Int × Int × Int)) (j l : Int) (f : List Bool × Bool) : gF ps j l (factD f) = (signOf (pulledI ps f.1 j + l) (f.1.getD j.toNat false) == f.2) := by
  show PyData.eqv (sgD (signOf (pulledI ps ((sayS f.1).cps.toList.map (· == 43)) j + l) (((sayS f.1).cps.toList.map (· == 43)).getD j.toNat false))) (sgD f.2) = _
  rw [say_back, sgD_eq]
theorem okFs_len {fs : List D} (h : okFs (.tuple fs) = true) : fs.length ≤ sizeLine := by
  simp only [okFs, Bool.and_eq_true, decide_eq_true_eq] at h
  rw [sizeLine_eq]
  omega
end
end Law
set_option Elab.async false
set_option linter.all false
set_option maxRecDepth 100000
set_option maxHeartbeats 0
namespace Law
open PySem PySem.Spec PyProof.Rows L2 DL
local macro_rules | `(tactic| walk_at "sz") => `(tactic| first | assumption | decide | omega | exact Or.inl ⟨by omega, by omega⟩ | exact Or.inr ⟨by omega, by omega⟩ | exact cmul_mod (by assumption) (by assumption) | exact cmul_modR (by assumption) (by assumption) | exact cdiv_of (by omega) (by omega) | (simp [sizeLine_eq]; done) | (simp [sizeLine_eq]; omega))
local macro_rules | `(tactic| walk_at "sh") => `(tactic| first | rfl | assumption | decide)
local macro_rules | `(tactic| walk_at "rc") => `(tactic| repeat (first | exact RetC.nil | apply RetC.dat | apply RetC.own | apply RetC.raw))
section
variable {P : Program} {w : World} {K : PySem.W.Frag} {mg : Str → Option Value} {base : Heap} {T : List (Addr × Str)}
/-! a bag of draws: what is drawn may be anything -/
def bagC (a : Addr) (ns : List Int) : C := .own a (.lst (ns.map PyData.int))
def F_law_cell : FS := fun cs kk _ => ∃ (ns : List Int) (k : Int), cs = [.dat (.list (ns.map .int)), .dat (.int k)] ∧ ns.length ≤ 1000 ∧ 0 ≤ k ∧ k ≤ 1000 ∧ ∀ (i : Int), kk (.dat (.int i)) [.dat (.list (ns.map .int)), .dat (.int k)]
theorem m_law_cell : MonoF F_law_cell := fun cs kk kk' xx xx' ⟨ns, k, e, p0, p1, p2, h⟩ ff gg => ⟨ns, k, e, p0, p1, p2, fun i => ff _ _ (h i)⟩
theorem ints_at {ns : List Int} {i : Int} (h0 : 0 ≤ i) (h1 : i < ns.length) : ∃ x : Int, dIx (.list (ns.map PyData.int)) i = some (.int x) := by
  obtain ⟨d, e, hd⟩ := atI_mem (xs := ns.map PyData.int) h0 (by simpa using h1)
  obtain ⟨x, _, rfl⟩ := List.mem_map.mp hd
  exact ⟨x, e⟩
def F_law_draws : FS := fun cs kk _ => ∃ (ns : List Int) (k m b : Int), cs = [.dat (.list (ns.map .int)), .dat (.int k), .dat (.int m), .dat (.int b)] ∧ ns.length ≤ 1000 ∧ 0 ≤ k ∧ k ≤ 1000 ∧ 0 ≤ m ∧ m ≤ 1000 ∧ 0 < b ∧ b < 1073741824 ∧ ∀ (ms : List Int), kk (.frs (.lst (ms.map .int))) [.dat (.list (ns.map .int)), .dat (.int k), .dat (.int m), .dat (.int b)]
theorem m_law_draws : MonoF F_law_draws := fun cs kk kk' xx xx' ⟨ns, k, m, b, e, p0, p1, p2, p3, p4, p5, p6, h⟩ ff gg => ⟨ns, k, m, b, e, p0, p1, p2, p3, p4, p5, p6, fun ms => ff _ _ (h ms)⟩
def F_law_bag : FS := fun cs kk _ => ∃ (ns : List Int) (k : Int), cs = [.dat (.list (ns.map .int)), .dat (.int k)] ∧ ns.length ≤ 1000 ∧ 0 ≤ k ∧ k ≤ 1000 ∧ ∀ (ms : List Int), kk (.frs (.lst (ms.map .int))) [.dat (.list (ns.map .int)), .dat (.int k)]
theorem m_law_bag : MonoF F_law_bag := fun cs kk kk' xx xx' ⟨ns, k, e, p0, p1, p2, h⟩ ff gg => ⟨ns, k, e, p0, p1, p2, fun ms => ff _ _ (h ms)⟩
def F_law_take : FS := fun cs kk _ => ∃ (a : Addr) (ns : List Int) (m : Int), cs = [bagC a ns, .dat (.int m)] ∧ 0 < m ∧ ∀ (j : Int) (ms : List Int), (0 ≤ j) → (j < m) → kk (.dat (.int j)) [bagC a ms, .dat (.int m)]
theorem m_law_take : MonoF F_law_take := fun cs kk kk' xx xx' ⟨a, ns, m, e, p0, h⟩ ff gg => ⟨a, ns, m, e, p0, fun j ms q0 q1 => ff _ _ (h j ms q0 q1)⟩
def F_law_choice : FS := fun cs kk _ => ∃ (a : Addr) (ns : List Int) (ds : List D), cs = [bagC a ns, .dat (.list ds)] ∧ ds ≠ [] ∧ ds.length ≤ 1000 ∧ ∀ (d : D) (ms : List Int), (d ∈ ds) → kk (.dat d) [bagC a ms, .dat (.list ds)]
theorem m_law_choice : MonoF F_law_choice := fun cs kk kk' xx xx' ⟨a, ns, ds, e, p0, p1, h⟩ ff gg => ⟨a, ns, ds, e, p0, p1, fun d ms q0 => ff _ _ (h d ms q0)⟩
def primesD : D := .tuple [.int 2147483647, .int 2147483629, .int 2147483587, .int 2147483579, .int 2147483563, .int 2147483549, .int 2147483543, .int 2147483497]
theorem primes_at (i : Int) : ∃ p : Int, dIx primesD (i % 8) = some (.int p) ∧ 0 < p ∧ p < 2147483648 := by
  have h1 := Int.emod_nonneg i (b := 8) (by decide)
  have h2 := Int.emod_lt_of_pos i (b := 8) (by decide)
  generalize i % 8 = j at *
  have : j = 0 ∨ j = 1 ∨ j = 2 ∨ j = 3 ∨ j = 4 ∨ j = 5 ∨ j = 6 ∨ j = 7 := by omega
  rcases this with rfl | rfl | rfl | rfl | rfl | rfl | rfl | rfl <;> exact ⟨_, rfl, by decide, by decide⟩
end
end Law
set_option Elab.async false
set_option linter.all false
set_option maxRecDepth 100000
set_option maxHeartbeats 0
namespace Law
open PySem PySem.Spec PyProof.Rows L2 DL
local macro_rules | `(tactic| walk_at "sz") => `(tactic| first | assumption | decide | omega | exact Or.inl ⟨by omega, by omega⟩ | exact Or.inr ⟨by omega, by omega⟩ | exact cmul_mod (by assumption) (by assumption) | exact cmul_modR (by assumption) (by assumption) | exact cdiv_of (by omega) (by omega) | (simp [sizeLine_eq]; done) | (simp [sizeLine_eq]; omega))
local macro_rules | `(tactic| walk_at "sh") => `(tactic| first | rfl | assumption | decide)
local macro_rules | `(tactic| walk_at "rc") => `(tactic| repeat (first | exact RetC.nil | apply RetC.dat | apply RetC.own | apply RetC.raw))
section
variable {P : Program} {w : World} {K : PySem.W.Frag} {mg : Str → Option Value} {base : Heap} {T : List (Addr × Str)}
/-! webs that fit -/
def lt2 (s t : Int × Int × Int) : Prop := s.1 < t.1 ∨ (s.1 = t.1 ∧ s.2.1 < t.2.1)
def okT3 (p : Int) (t : Int × Int × Int) : Prop := okPull p t ∧ t.1 ≠ t.2.1 ∧ -9 ≤ t.2.2 ∧ t.2.2 ≤ 9 ∧ t.2.2 ≠ 0
structure GoodP (p : Int) (ps : List (Int × Int × Int)) : Prop where
  ok : ∀ t ∈ ps, okT3 p t
  up : ps.Pairwise lt2
structure GoodW (p : Int) (ps : List (Int × Int × Int)) (ls : List Int) : Prop where
  p1 : 1 ≤ p
  p7 : p ≤ 7
  pulls : GoodP p ps
  many : ps.length ≤ 200
  lean : (ls.length : Int) = p
  leans : ∀ l ∈ ls, -9 ≤ l ∧ l ≤ 9
theorem isWhole_i {i lo hi : Int} (h1 : lo ≤ i) (h2 : i ≤ hi) : isWhole (.int i) lo hi = true := by
  simp only [isWhole, h1, h2, decide_true, Bool.and_self]
theorem fitsPull_i {p : Int} {t : Int × Int × Int} (h : okT3 p t) : fitsPull p (pD t) = true := by
  obtain ⟨⟨h1, h2, h3, h4⟩, h5, h6, h7, h8⟩ := h
  simp only [pD, fitsPull, isWhole_i h1 h2, isWhole_i h3 h4, isWhole_i h6 h7, Bool.true_and, Bool.and_true, PyData.eqv, Bool.and_eq_true, Bool.not_eq_true', beq_eq_false_iff_ne]
  exact ⟨h8, h5⟩
theorem pairs_zip (xs ys : List D) : pairs xs ys = List.zipWith (fun a b => PyData.tuple [a, b]) xs ys := rfl
theorem ordD_lt {s t : Int × Int × Int} (h : lt2 s t) : ordD (.tuple [pD s, pD t]) = true := by
  show HT.lexLt [s.1, s.2.1] [t.1, t.2.1] = true
  rcases h with h | ⟨h1, h2⟩
  · simp [HT.lexLt, h]
    left
    omega
  · simp [HT.lexLt, h1, h2]
    omega
theorem pairs_ord {ps : List (Int × Int × Int)} (h : ps.Pairwise lt2) : (pairs (ps.map pD) (ps.map pD).tail).all ordD = true := by
  induction ps with
  | nil => rfl
  | cons a r ih =>
    cases r with
    | nil => rfl
    | cons b r =>
      have h2 := List.pairwise_cons.mp h
      have e : pairs ((a :: b :: r).map pD) ((a :: b :: r).map pD).tail = .tuple [pD a, pD b] :: pairs ((b :: r).map pD) ((b :: r).map pD).tail := rfl
      rw [e, List.all_cons, ordD_lt (h2.1 b (List.mem_cons_self ..)), ih h2.2]
      rfl
theorem GoodW.fits {p : Int} {ps : List (Int × Int × Int)} {ls : List Int} (g : GoodW p ps ls) : fitsWeb (webD p ps ls) = true := by
  simp only [webD, fitsWeb, isWhole_i g.p1 g.p7, pairs_ord g.pulls.up, List.length_map, Bool.true_and, Bool.and_true, Bool.and_eq_true, List.all_eq_true, decide_eq_true_eq]
  refine ⟨⟨fun d hd => ?_, g.lean⟩, fun d hd => ?_⟩
  · obtain ⟨t, ht, rfl⟩ := List.mem_map.mp hd
    exact fitsPull_i (g.pulls.ok t ht)
  · obtain ⟨l, hl, rfl⟩ := List.mem_map.mp hd
    exact isWhole_i (g.leans l hl).1 (g.leans l hl).2
theorem GoodW.small {p : Int} {ps : List (Int × Int × Int)} {ls : List Int} (g : GoodW p ps ls) : okS (webD p ps ls) = true := by
  have h1 := g.lean
  have h2 := g.p7
  have h3 := g.many
  simp only [webD, okS, List.all_cons, List.all_nil, ok1, List.length_map, List.length_cons, List.length_nil, Bool.and_true, Bool.true_and, Bool.and_eq_true, decide_eq_true_eq]
  omega
theorem int_in {ds : List D} {d : D} {q : Int → Bool} (h : d ∈ ds) (c : ds.all (fun | .int i => q i | _ => false) = true) : ∃ l, d = .int l ∧ q l = true := by
  have := List.all_eq_true.mp c d h
  cases d with
  | int i => exact ⟨i, rfl, this⟩
  | _ => cases this
theorem int_lh {ds : List D} {d : D} (lo hi : Int) (h : d ∈ ds) (c : ds.all (fun | .int i => decide (lo ≤ i ∧ i ≤ hi ∧ i ≠ 0) | _ => false) = true) : ∃ l, d = .int l ∧ lo ≤ l ∧ l ≤ hi ∧ l ≠ 0 := by
  obtain ⟨l, e, q⟩ := int_in h c
  exact ⟨l, e, of_decide_eq_true q⟩
theorem int_lh0 {ds : List D} {d : D} (lo hi : Int) (h : d ∈ ds) (c : ds.all (fun | .int i => decide (lo ≤ i ∧ i ≤ hi) | _ => false) = true) : ∃ l, d = .int l ∧ lo ≤ l ∧ l ≤ hi := by
  obtain ⟨l, e, q⟩ := int_in h c
  exact ⟨l, e, of_decide_eq_true q⟩
theorem rng_uncons {d : D} {r : List D} {i : Int} {n : Nat} (h : d :: r = rng i n) : ∃ m, n = m + 1 ∧ d = .int i ∧ r = rng (i + 1) m := by
  cases n with
  | zero => cases h
  | succ m =>
    refine ⟨m, rfl, ?_⟩
    unfold rng at h ⊢
    rw [List.range_succ_eq_map, List.map_cons, List.map_map] at h
    injection h with h1 h2
    refine ⟨by rw [h1]; simp, ?_⟩
    rw [h2]
    apply List.map_congr_left
    intro x _
    simp [Function.comp]
    omega
theorem rng_nil {i : Int} {n : Nat} (h : [] = rng i n) : n = 0 := by
  have := congrArg List.length h
  rw [rng_len] at this
  simpa using this.symm
def F_law_leans : FS := fun cs kk _ => ∃ (a : Addr) (ns : List Int) (p : Int), cs = [bagC a ns, .dat (.int p)] ∧ 0 ≤ p ∧ p ≤ 1000 ∧ ∀ (ls ms : List Int), ((ls.length : Int) = p) → (∀ l ∈ ls, -9 ≤ l ∧ l ≤ 9) → kk (.dat (.tuple (ls.map .int))) [bagC a ms, .dat (.int p)]
theorem m_law_leans : MonoF F_law_leans := fun cs kk kk' xx xx' ⟨a, ns, p, e, p0, p1, h⟩ ff gg => ⟨a, ns, p, e, p0, p1, fun ls ms q0 q1 => ff _ _ (h ls ms q0 q1)⟩
def F_law_web : FS := fun cs kk _ => ∃ (a : Addr) (ns : List Int) (p : Int), cs = [bagC a ns, .dat (.int p)] ∧ 1 ≤ p ∧ p ≤ 7 ∧ ∀ (ps : List (Int × Int × Int)) (ls ms : List Int), (GoodW p ps ls) → kk (.dat (webD p ps ls)) [bagC a ms, .dat (.int p)]
theorem m_law_web : MonoF F_law_web := fun cs kk kk' xx xx' ⟨a, ns, p, e, p0, p1, h⟩ ff gg => ⟨a, ns, p, e, p0, p1, fun ps ls ms q0 => ff _ _ (h ps ls ms q0)⟩
def F_law_even : FS := fun cs kk _ => ∃ (a : Addr) (ns : List Int) (p : Int), cs = [bagC a ns, .dat (.int p)] ∧ 1 ≤ p ∧ p ≤ 7 ∧ ∀ (ps : List (Int × Int × Int)) (ls ms : List Int), (GoodW p ps ls) → kk (.dat (webD p ps ls)) [bagC a ms, .dat (.int p)]
theorem m_law_even : MonoF F_law_even := fun cs kk kk' xx xx' ⟨a, ns, p, e, p0, p1, h⟩ ff gg => ⟨a, ns, p, e, p0, p1, fun ps ls ms q0 => ff _ _ (h ps ls ms q0)⟩
def F_law_some_web : FS := fun cs kk _ => ∃ (a : Addr) (ns : List Int) (p : Int), cs = [bagC a ns, .dat (.int p)] ∧ 1 ≤ p ∧ p ≤ 7 ∧ ∀ (q : Int) (ps : List (Int × Int × Int)) (ls ms : List Int), (GoodW q ps ls) → (q ≤ p) → kk (.dat (webD q ps ls)) [bagC a ms, .dat (.int p)]
theorem m_law_some_web : MonoF F_law_some_web := fun cs kk kk' xx xx' ⟨a, ns, p, e, p0, p1, h⟩ ff gg => ⟨a, ns, p, e, p0, p1, fun q ps ls ms q0 q1 => ff _ _ (h q ps ls ms q0 q1)⟩
def F_law_saying : FS := fun cs kk _ => ∃ (a : Addr) (ns : List Int) (p : Int), cs = [bagC a ns, .dat (.int p)] ∧ 0 ≤ p ∧ p ≤ 1000 ∧ ∀ (bs : List Bool) (ms : List Int), ((bs.length : Int) = p) → kk (.dat (.str (sayS bs))) [bagC a ms, .dat (.int p)]
theorem m_law_saying : MonoF F_law_saying := fun cs kk kk' xx xx' ⟨a, ns, p, e, p0, p1, h⟩ ff gg => ⟨a, ns, p, e, p0, p1, fun bs ms q0 => ff _ _ (h bs ms q0)⟩
theorem joinL_nil : ∀ l : List (List Nat), TL.joinL [] l = l.flatten
  | [] => rfl
  | [p] => by simp [TL.joinL]
  | p :: q :: r => by
    show p ++ ([] ++ TL.joinL [] (q :: r)) = _
    rw [joinL_nil (q :: r)]
    rfl
theorem join_signs (bs : List Bool) : Txt.join "" (bs.map sgn) = sayS bs := by
  have h : TL.tl (Txt.join "" (bs.map sgn)) = bs.map code := by
    rw [TL.join_eq, TL.tl_join]
    show TL.joinL [] _ = _
    rw [joinL_nil, List.map_map]
    have : (TL.tl ∘ sgn) = fun b => [code b] := by funext b; cases b <;> decide +kernel
    rw [this]
    induction bs with
    | nil => rfl
    | cons b r ih => simpa using ih
  have e : Txt.join "" (bs.map sgn) = ⟨(TL.tl (Txt.join "" (bs.map sgn))).toArray⟩ := by
    show _ = Str.mk ((Txt.join "" (bs.map sgn)).cps.toList.toArray)
    rw [Array.toArray_toList]
  rw [e, h]
  rfl
theorem sgn_len (bs : List Bool) : ((bs.map sgn).map (·.length)).sum = bs.length := by
  induction bs with
  | nil => rfl
  | cons b r ih =>
    rw [List.map_cons, List.map_cons, List.sum_cons, ih]
    have : (sgn b).length = 1 := by cases b <;> decide +kernel
    rw [this, List.length_cons]
    omega
theorem join_small {bs : List Bool} (h : bs.length ≤ 1000) : ((bs.map sgn).map (·.length)).sum + (bs.map sgn).length * (Str.ofString "").length ≤ 16777216 := by
  rw [sgn_len, List.length_map]
  have : (Str.ofString "").length = 0 := by decide +kernel
  rw [this]
  omega
/-- even webs' rows, sorted -/
theorem dataLt_pD (s t : Int × Int × Int) : PySem.W.dataLt (pD s) (pD t) = decide (s.1 < t.1 ∨ (s.1 = t.1 ∧ (s.2.1 < t.2.1 ∨ (s.2.1 = t.2.1 ∧ s.2.2 < t.2.2)))) := by
  show PySem.W.dataLt (.tuple ([s.1, s.2.1, s.2.2].map .int)) (.tuple ([t.1, t.2.1, t.2.2].map .int)) = _
  rw [PySem.W.dataLt_tuple]
  show PySem.W.rowLt _ _ = _
  rw [PySem.W.dataLt_ints, Bool.eq_iff_iff]
  simp only [decide_eq_true_eq, List.cons_lt_cons_iff, List.not_lt_nil, and_false, or_false]
def le3 (s t : Int × Int × Int) : Bool := decide (s.1 < t.1 ∨ (s.1 = t.1 ∧ (s.2.1 < t.2.1 ∨ (s.2.1 = t.2.1 ∧ s.2.2 ≤ t.2.2))))
theorem dataLe_pD (s t : Int × Int × Int) : PySem.W.dataLe false id (pD s) (pD t) = le3 s t := by
  show (!PySem.W.dataLt (pD t) (pD s)) = _
  rw [dataLt_pD]
  unfold le3
  rw [Bool.eq_iff_iff]
  simp only [Bool.not_eq_true', decide_eq_false_iff_not, decide_eq_true_eq]
  omega
def apart (s t : Int × Int × Int) : Prop := ¬(s.1 = t.1 ∧ s.2.1 = t.2.1)
theorem sort_pD (ps : List (Int × Int × Int)) (h : ps.Pairwise apart) : ∃ qs : List (Int × Int × Int), ((ps.map pD).mergeSort (PySem.W.dataLe false id)) = qs.map pD ∧ qs.Perm ps ∧ qs.Pairwise lt2 := by
  refine ⟨ps.mergeSort le3, ?_, List.mergeSort_perm _ _, ?_⟩
  · rw [← List.map_mergeSort (r := le3)]
    intro a _ b _
    rw [dataLe_pD]
  · have h1 : (ps.mergeSort le3).Pairwise fun a b => le3 a b = true := List.pairwise_mergeSort (fun a b c => by simp only [le3, decide_eq_true_eq]; omega) (fun a b => by simp only [le3, Bool.or_eq_true, decide_eq_true_eq]; omega) ps
    have h2 : (ps.mergeSort le3).Pairwise apart := (List.Perm.pairwise_iff (fun {a b} q z => q ⟨z.1.symm, z.2.symm⟩) (List.mergeSort_perm ps le3)).mpr h
    refine (h1.and h2).imp fun {a b} ⟨q1, q2⟩ => ?_
    have q1 := of_decide_eq_true q1
    unfold apart at q2
    unfold lt2
    omega
def under (i j : Int) (t : Int × Int × Int) : Prop := t.1 < i ∨ (t.1 = i ∧ t.2.1 < j)
theorem goodP_add {p i j w : Int} {acc : List (Int × Int × Int)} (g : GoodP p acc) (hu : ∀ t ∈ acc, under i j t) (ht : okT3 p (i, j, w)) : GoodP p (acc ++ [(i, j, w)]) ∧ ∀ t ∈ acc ++ [(i, j, w)], under i (j + 1) t := by
  refine ⟨⟨fun t hm => ?_, ?_⟩, fun t hm => ?_⟩
  · rcases List.mem_append.mp hm with hm | hm
    · exact g.ok t hm
    · rw [List.mem_singleton.mp hm]; exact ht
  · refine List.pairwise_append.mpr ⟨g.up, by simp, fun s hs t hm => ?_⟩
    rw [List.mem_singleton.mp hm]
    exact hu s hs
  · rcases List.mem_append.mp hm with hm | hm
    · have := hu t hm
      unfold under at this ⊢
      omega
    · rw [List.mem_singleton.mp hm]
      unfold under
      dsimp only
      omega
theorem under_up {i j k l : Int} {t : Int × Int × Int} (h : under i j t) (q : i < k ∨ (i = k ∧ j ≤ l)) : under k l t := by
  unfold under at *
  omega
/-- the rows of an even web, before they are sorted -/
def below (i j : Int) (t : Int × Int × Int) : Prop := (t.1 < i ∧ t.2.1 < i) ∨ (t.1 = i ∧ t.2.1 < j) ∨ (t.2.1 = i ∧ t.1 < j)
theorem below_up {i j k l : Int} {t : Int × Int × Int} (hj : j ≤ i) (h : below i j t) (q : i < k ∨ (i = k ∧ j ≤ l)) : below k l t := by
  unfold below at *
  omega
structure Rows (p i j : Int) (acc : List (Int × Int × Int)) : Prop where
  ok : ∀ t ∈ acc, okT3 p t
  ap : acc.Pairwise apart
  bl : ∀ t ∈ acc, below i j t
theorem rows_add {p i j v w : Int} {acc : List (Int × Int × Int)} (g : Rows p i j acc) (hij : j < i) (h1 : okT3 p (i, j, v)) (h2 : okT3 p (j, i, w)) : Rows p i (j + 1) (acc ++ [(i, j, v)] ++ [(j, i, w)]) := by
  refine ⟨fun t hm => ?_, ?_, fun t hm => ?_⟩
  · rcases List.mem_append.mp hm with hm | hm
    · rcases List.mem_append.mp hm with hm | hm
      · exact g.ok t hm
      · rw [List.mem_singleton.mp hm]; exact h1
    · rw [List.mem_singleton.mp hm]; exact h2
  · rw [List.append_assoc]
    refine List.pairwise_append.mpr ⟨g.ap, ?_, fun s hs t hm => ?_⟩
    · simp [apart]; omega
    · have b := g.bl s hs
      unfold below at b
      have : t = (i, j, v) ∨ t = (j, i, w) := by simpa using hm
      unfold apart
      rcases this with rfl | rfl <;> dsimp only <;> omega
  · rcases List.mem_append.mp hm with hm | hm
    · rcases List.mem_append.mp hm with hm | hm
      · exact below_up (by omega) (g.bl t hm) (.inr ⟨rfl, by omega⟩)
      · rw [List.mem_singleton.mp hm]; unfold below; dsimp only; omega
    · rw [List.mem_singleton.mp hm]; unfold below; dsimp only; omega
theorem Rows.up {p i j k l : Int} {acc : List (Int × Int × Int)} (g : Rows p i j acc) (hj : j ≤ i) (q : i < k ∨ (i = k ∧ j ≤ l)) : Rows p k l acc := ⟨g.ok, g.ap, fun t ht => below_up hj (g.bl t ht) q⟩
theorem rows_good {p i j : Int} {acc : List (Int × Int × Int)} (g : Rows p i j acc) : ∃ qs : List (Int × Int × Int), ((acc.map pD).mergeSort (PySem.W.dataLe false id)) = qs.map pD ∧ qs.length = acc.length ∧ GoodP p qs := by
  obtain ⟨qs, e, pm, up⟩ := sort_pD acc g.ap
  exact ⟨qs, e, pm.length_eq, fun t ht => g.ok t (pm.mem_iff.mp ht), up⟩
theorem pD_alike (acc : List (Int × Int × Int)) : PySem.W.AllAlike (acc.map pD) := PySem.W.AllAlike.of fun a b => by simp [pD, PySem.W.alike, PySem.W.alikeAll]
theorem pD_sort (acc : List (Int × Int × Int)) : PySem.W.Sortable (acc.map pD) := PySem.W.Sortable.tuples fun b => ⟨_, _, rfl⟩
theorem pD_depth (acc : List (Int × Int × Int)) : ∀ d ∈ acc.map pD, d.depth ≤ 1 := by
  intro d hd
  obtain ⟨t, _, rfl⟩ := List.mem_map.mp hd
  show (PyData.tuple [.int t.1, .int t.2.1, .int t.2.2]).depth ≤ 1
  simp [PyData.depth, PyData.depthAll]
theorem ints_at2 {ns : List Int} {i lo hi : Int} (h : ∀ n ∈ ns, lo ≤ n ∧ n ≤ hi) (h0 : 0 ≤ i) (h1 : i < ns.length) : ∃ x : Int, dIx (.list (ns.map PyData.int)) i = some (.int x) ∧ lo ≤ x ∧ x ≤ hi := by
  obtain ⟨d, e, hd⟩ := atI_mem (xs := ns.map PyData.int) h0 (by simpa using h1)
  obtain ⟨x, hx, rfl⟩ := List.mem_map.mp hd
  exact ⟨x, e, h x hx⟩
theorem ok_even {p i j w s : Int} (h1 : 0 ≤ i) (h2 : i ≤ p - 1) (h3 : 0 ≤ j) (h4 : j ≤ p - 1) (h5 : i ≠ j) (hw : w = 1 ∨ w = -1 ∨ w = 3) (s0 : 1 ≤ s) (s1 : s ≤ 3) : okT3 p (i, j, w * s) := by
  refine ⟨⟨h1, h2, h3, h4⟩, h5, ?_, ?_, ?_⟩ <;> dsimp only <;> rcases hw with rfl | rfl | rfl <;> omega
theorem sgD_of {d : D} (h : d ∈ [PyData.str "+", .str "-"]) : ∃ b, d = sgD b := by
  rcases List.mem_cons.mp h with rfl | h
  · exact ⟨true, rfl⟩
  · exact ⟨false, List.mem_singleton.mp h⟩
abbrev F_law_pulled := F_pulled
theorem m_law_pulled : MonoF F_law_pulled := FP.mono _
theorem pulledI_snoc (ps : List (Int × Int × Int)) (t : Int × Int × Int) (bs : List Bool) (j : Int) : pulledI (ps ++ [t]) bs j = pulledI ps bs j + (if t.2.1 = j then (if bs.getD t.1.toNat false then t.2.2 else -t.2.2) else 0) := by
  unfold pulledI
  rw [List.filterMap_append, List.sum_append]
  congr 1
  simp only [List.filterMap_cons, List.filterMap_nil, pullG]
  by_cases h : t.2.1 = j
  · simp [h]
  · simp [h]
end
end Law
set_option Elab.async false
set_option linter.all false
set_option maxRecDepth 100000
set_option maxHeartbeats 0
namespace Law
open PySem PySem.Spec PyProof.Rows L2 DL
local macro_rules | `(tactic| walk_at "sz") => `(tactic| first | assumption | decide | omega | exact Or.inl ⟨by omega, by omega⟩ | exact Or.inr ⟨by omega, by omega⟩ | exact cmul_mod (by assumption) (by assumption) | exact cmul_modR (by assumption) (by assumption) | exact cdiv_of (by omega) (by omega) | (simp [sizeLine_eq]; done) | (simp [sizeLine_eq]; omega))
local macro_rules | `(tactic| walk_at "sh") => `(tactic| first | rfl | assumption | decide)
local macro_rules | `(tactic| walk_at "rc") => `(tactic| repeat (first | exact RetC.nil | apply RetC.dat | apply RetC.own | apply RetC.raw))
section
variable {P : Program} {w : World} {K : PySem.W.Frag} {mg : Str → Option Value} {base : Heap} {T : List (Addr × Str)}
def F_law_facts : FS := fun cs kk _ => ∃ (a : Addr) (ns : List Int) (p : Int) (ps : List (Int × Int × Int)) (ls : List Int) (j : Int), cs = [bagC a ns, .dat (webD p ps ls), .dat (.int j)] ∧ GoodW p ps ls ∧ 0 ≤ j ∧ j < p ∧ ∀ (fs : List (List Bool × Bool)) (ms : List Int), (∀ f ∈ fs, (f.1.length : Int) = p) → (fs.length ≤ 6) → kk (.dat (.tuple (fs.map factD))) [bagC a ms, .dat (webD p ps ls), .dat (.int j)]
theorem m_law_facts : MonoF F_law_facts := fun cs kk kk' xx xx' ⟨a, ns, p, ps, ls, j, e, p0, p1, p2, h⟩ ff gg => ⟨a, ns, p, ps, ls, j, e, p0, p1, p2, fun fs ms q0 q1 => ff _ _ (h fs ms q0 q1)⟩
theorem GoodW.okp {p : Int} {ps : List (Int × Int × Int)} {ls : List Int} (g : GoodW p ps ls) : ∀ t ∈ ps, okPull p t := fun t ht => (g.pulls.ok t ht).1
theorem sign_of_mem {b : Bool} {d : D} (h : d ∈ [sgD b, sgD b, sgD b, .str "+"]) : ∃ s, d = sgD s := by
  simp only [List.mem_cons, List.not_mem_nil, or_false] at h
  rcases h with rfl | rfl | rfl | rfl
  · exact ⟨b, rfl⟩
  · exact ⟨b, rfl⟩
  · exact ⟨b, rfl⟩
  · exact ⟨true, rfl⟩
theorem signOf_case (n : Int) (b : Bool) : sgD (signOf n b) = if n > 0 then .str "+" else if n < 0 then .str "-" else sgD b := by
  unfold signOf
  by_cases h : n > 0
  · rw [if_pos h, if_pos h]; rfl
  · rw [if_neg h, if_neg h]
    by_cases h2 : n < 0
    · rw [if_pos h2, if_pos h2]; rfl
    · rw [if_neg h2, if_neg h2]
/-- the due leans, one by one -/
theorem leansD_snoc (ps : List (Int × Int × Int)) (j : Int) (fs : List (List Bool × Bool)) (dn : List D) (l : Int) : (dn ++ [PyData.int l]).filterMap (gL ps j fs) = dn.filterMap (gL ps j fs) ++ (if leanOk ps j fs l then [.int l] else []) := by
  rw [List.filterMap_append]
  congr 1
  simp only [List.filterMap_cons, List.filterMap_nil, gL]
  by_cases h : leanOk ps j fs l = true
  · simp [h]
  · simp [h]
theorem gL_ints (ps : List (Int × Int × Int)) (j : Int) (fs : List (List Bool × Bool)) (dn : List D) : ∃ ns : List Int, dn.filterMap (gL ps j fs) = ns.map PyData.int := by
  induction dn with
  | nil => exact ⟨[], rfl⟩
  | cons d r ih =>
    obtain ⟨ns, e⟩ := ih
    cases d with
    | int l =>
      by_cases h : leanOk ps j fs l = true
      · exact ⟨l :: ns, by simp [gL, h, e]⟩
      · exact ⟨ns, by simp [gL, h, e]⟩
    | _ => exact ⟨ns, by rw [List.filterMap_cons_none rfl]; exact e⟩
theorem leanOk_snoc (ps : List (Int × Int × Int)) (j l : Int) (dn : List (List Bool × Bool)) (f : List Bool × Bool) : leanOk ps j (dn ++ [f]) l = (leanOk ps j dn l && (signOf (pulledI ps f.1 j + l) (f.1.getD j.toNat false) == f.2)) := by
  unfold leanOk
  rw [List.all_append]
  simp
theorem eqv_ints (ns ms : List Int) : PyData.eqv (.list (ns.map .int)) (.list (ms.map .int)) = decide (ns = ms) := by
  show PyData.eqvAll (ns.map .int) (ms.map .int) = _
  induction ns generalizing ms with
  | nil => cases ms <;> simp [PyData.eqvAll]
  | cons a r ih =>
    cases ms with
    | nil => simp [PyData.eqvAll]
    | cons b q =>
      show (PyData.eqv (.int a) (.int b) && PyData.eqvAll (r.map .int) (q.map .int)) = _
      rw [ih q, Bool.eq_iff_iff]
      simp [PyData.eqv]
theorem leansD_self (ps : List (Int × Int × Int)) (j : Int) (fs : List (List Bool × Bool)) : PyData.eqv (.list (leansD ps j fs)) (.list (leansD ps j fs)) = true := by
  obtain ⟨ns, e⟩ := gL_ints ps j fs (rng (-9) 19)
  unfold leansD
  rw [e, eqv_ints]
  simp
theorem leansD_plain (ps : List (Int × Int × Int)) (j : Int) (fs : List (List Bool × Bool)) : (PyData.list (leansD ps j fs)).plain = true ∧ (PyData.list (leansD ps j fs)).depth ≤ 60 := by
  obtain ⟨ns, e⟩ := gL_ints ps j fs (rng (-9) 19)
  unfold leansD
  rw [e]
  refine ⟨plain_ints ns, ?_⟩
  show (PyData.depthAll (ns.map PyData.int)) + 1 ≤ 60
  rw [PySem.W.depth_ints]
  decide
def F_law_leans_right : FS := fun cs kk _ => ∃ (p : Int) (ps : List (Int × Int × Int)) (ls : List Int) (j : Int) (fs : List (List Bool × Bool)), cs = [.dat (webD p ps ls), .dat (.int j), .dat (.tuple (fs.map factD))] ∧ GoodW p ps ls ∧ 0 ≤ j ∧ j < p ∧ (∀ f ∈ fs, (f.1.length : Int) = p) ∧ fs.length ≤ 6 ∧ kk (.dat (.bool true)) cs
theorem m_law_leans_right : MonoF F_law_leans_right := fun cs kk kk' xx xx' ⟨p, ps, ls, j, fs, e, h1, h2, h3, h4, h5, h⟩ ff gg => ⟨p, ps, ls, j, fs, e, h1, h2, h3, h4, h5, ff _ _ h⟩
theorem fitsFact_ok {p : Int} {f : List Bool × Bool} (h : (f.1.length : Int) = p) : fitsFact p (factD f) = true := by
  show (fitsSaying p (.str (sayS f.1)) && isSgn (sgD f.2)) = true
  rw [fitsSaying_say h, Bool.true_and]
  exact isSign_sg f.2
theorem facts_small {p : Int} {fs : List (List Bool × Bool)} (hp : p ≤ 7) (h : ∀ f ∈ fs, (f.1.length : Int) = p) (hl : fs.length ≤ 1000) : okFs (.tuple (fs.map factD)) = true := by
  simp only [okFs, List.length_map, hl, decide_true, Bool.true_and, List.all_eq_true]
  intro d hd
  obtain ⟨f, hf, rfl⟩ := List.mem_map.mp hd
  show decide ((sayS f.1).length ≤ 1000) = true
  rw [sayS_len]
  have := h f hf
  exact decide_eq_true (by omega)
theorem factsOk_ok {p : Int} {fs : List (List Bool × Bool)} (h : ∀ f ∈ fs, (f.1.length : Int) = p) (hl : fs.length ≤ 6) : factsOk p (.tuple (fs.map factD)) = true := by
  simp only [factsOk, List.length_map, hl, decide_true, Bool.true_and, List.all_eq_true]
  intro d hd
  obtain ⟨f, hf, rfl⟩ := List.mem_map.mp hd
  exact fitsFact_ok (h f hf)
theorem told_ok {p j : Int} {ps : List (Int × Int × Int)} {ls : List Int} {fs : List (List Bool × Bool)} (g : GoodW p ps ls) (j0 : 0 ≤ j) (j1 : j < p) (h : ∀ f ∈ fs, (f.1.length : Int) = p) (hl : fs.length ≤ 6) :
    told (webD p ps ls) (.int j) (.tuple (fs.map factD)) (.ok (.frs (.lst (leansD ps j fs)))) :=
  .inr ⟨g.fits, p, ps, ls, rfl, ⟨g.p7, g.okp⟩, .inr ⟨isWhole_i j0 (by omega), .inr ⟨factsOk_ok h hl, j, fs, rfl, rfl, rfl⟩⟩⟩
end
end Law
set_option Elab.async false
set_option linter.all false
set_option maxRecDepth 100000
set_option maxHeartbeats 0
namespace Law
open PySem PySem.Spec PyProof.Rows L2 DL
local macro_rules | `(tactic| walk_at "sz") => `(tactic| first | assumption | decide | omega | exact Or.inl ⟨by omega, by omega⟩ | exact Or.inr ⟨by omega, by omega⟩ | exact cmul_mod (by assumption) (by assumption) | exact cmul_modR (by assumption) (by assumption) | exact cdiv_of (by omega) (by omega) | (simp [sizeLine_eq]; done) | (simp [sizeLine_eq]; omega))
local macro_rules | `(tactic| walk_at "sh") => `(tactic| first | rfl | assumption | decide)
local macro_rules | `(tactic| walk_at "rc") => `(tactic| repeat (first | exact RetC.nil | apply RetC.dat | apply RetC.own | apply RetC.raw))
section
variable {P : Program} {w : World} {K : PySem.W.Frag} {mg : Str → Option Value} {base : Heap} {T : List (Addr × Str)}
def badWebsD : List D := [.none, .tuple [], .tuple [.int 1, .tuple []], .list [.int 1, .tuple [], .tuple [.int 0]], .tuple [.int 0, .tuple [], .tuple []], .tuple [.int 8, .tuple [], .tuple [.int 0, .int 0, .int 0, .int 0, .int 0, .int 0, .int 0, .int 0]], .tuple [.bool true, .tuple [], .tuple [.int 0]], .tuple [.int 1, .list [], .tuple [.int 0]], .tuple [.int 1, .tuple [], .tuple [.int 0, .int 0]], .tuple [.int 1, .tuple [], .tuple [.int 10]], .tuple [.int 1, .tuple [], .tuple [.bool true]], .tuple [.int 1, .tuple [], .list [.int 0]], .tuple [.int 2, .tuple [.tuple [.int 0, .int 1, .int 0]], .tuple [.int 0, .int 0]], .tuple [.int 2, .tuple [.tuple [.int 0, .int 1, .int 10]], .tuple [.int 0, .int 0]], .tuple [.int 2, .tuple [.tuple [.int 0, .int 0, .int 1]], .tuple [.int 0, .int 0]], .tuple [.int 2, .tuple [.tuple [.int 0, .int 2, .int 1]], .tuple [.int 0, .int 0]], .tuple [.int 2, .tuple [.tuple [.int 0, .int 1, .int 1], .tuple [.int 0, .int 1, .int 2]], .tuple [.int 0, .int 0]], .tuple [.int 2, .tuple [.tuple [.int 1, .int 0, .int 1], .tuple [.int 0, .int 1, .int 1]], .tuple [.int 0, .int 0]], .tuple [.int 2, .tuple [.tuple [.int 0, .int 1]], .tuple [.int 0, .int 0]], .tuple [.int 2, .tuple [.list [.int 0, .int 1, .int 1]], .tuple [.int 0, .int 0]], .tuple [.int 2, .tuple [.tuple [.int 0, .bool true, .int 1]], .tuple [.int 0, .int 0]], .tuple [.str "2", .tuple [], .tuple [.int 0, .int 0]], .tuple [.int 1, .tuple [], .tuple [.int 0], .tuple []]]
def F_law_bad_webs : FS := fun cs kk _ => cs = [] ∧ kk (.frs (.lst badWebsD)) []
theorem m_law_bad_webs : MonoF F_law_bad_webs := fun cs kk kk' xx xx' ⟨e, h⟩ ff gg => ⟨e, ff _ _ h⟩
def knownD : List D := [.tuple [.int 3, .tuple [.tuple [.int 0, .int 1, .int 1], .tuple [.int 0, .int 2, .int 1], .tuple [.int 1, .int 0, .int 1], .tuple [.int 1, .int 2, .int 1], .tuple [.int 2, .int 0, .int 1], .tuple [.int 2, .int 1, .int 1]], .tuple [.int 0, .int 0, .int 0]], .tuple [.int 2, .tuple [.tuple [.int 0, .int 1, .int 1], .tuple [.int 1, .int 0, .int (-1)]], .tuple [.int 0, .int 0]], .tuple [.int 2, .tuple [.tuple [.int 0, .int 1, .int 2], .tuple [.int 1, .int 0, .int 3]], .tuple [.int 0, .int 0]], .tuple [.int 3, .tuple [.tuple [.int 0, .int 1, .int 2], .tuple [.int 0, .int 2, .int 1], .tuple [.int 1, .int 0, .int 1], .tuple [.int 1, .int 2, .int 1], .tuple [.int 2, .int 0, .int 1], .tuple [.int 2, .int 1, .int 1]], .tuple [.int 0, .int 0, .int 0]], .tuple [.int 3, .tuple [.tuple [.int 0, .int 1, .int 1], .tuple [.int 1, .int 2, .int 1], .tuple [.int 2, .int 0, .int 1]], .tuple [.int 0, .int 0, .int 0]]]
def F_law_known : FS := fun cs kk _ => cs = [] ∧ kk (.frs (.lst knownD)) []
theorem m_law_known : MonoF F_law_known := fun cs kk kk' xx xx' ⟨e, h⟩ ff gg => ⟨e, ff _ _ h⟩
def badPlacesD (p : Int) : List D := [.none, .int (-1), .int p, .bool true, .str "0", .tuple [.int 0]]
def F_law_bad_places : FS := fun cs kk _ => ∃ p : Int, cs = [.dat (.int p)] ∧ kk (.frs (.lst (badPlacesD p))) cs
theorem m_law_bad_places : MonoF F_law_bad_places := fun cs kk kk' xx xx' ⟨p, e, h⟩ ff gg => ⟨p, e, ff _ _ h⟩
end
end Law
set_option Elab.async false
set_option linter.all false
set_option maxRecDepth 100000
set_option maxHeartbeats 0
namespace Law
open PySem PySem.Spec PyProof.Rows L2 DL
local macro_rules | `(tactic| walk_at "sz") => `(tactic| first | assumption | decide | omega | exact Or.inl ⟨by omega, by omega⟩ | exact Or.inr ⟨by omega, by omega⟩ | exact cmul_mod (by assumption) (by assumption) | exact cmul_modR (by assumption) (by assumption) | exact cdiv_of (by omega) (by omega) | (simp [sizeLine_eq]; done) | (simp [sizeLine_eq]; omega))
local macro_rules | `(tactic| walk_at "sh") => `(tactic| first | rfl | assumption | decide)
local macro_rules | `(tactic| walk_at "rc") => `(tactic| repeat (first | exact RetC.nil | apply RetC.dat | apply RetC.own | apply RetC.raw))
section
variable {P : Program} {w : World} {K : PySem.W.Frag} {mg : Str → Option Value} {base : Heap} {T : List (Addr × Str)}
def excNames : List Str := ["InvalidWeb", "InvalidSaying", "InvalidPlace", "InvalidScales", "InvalidTurn", "InvalidNumber", "InvalidFacts", "InvalidIndex", "InvalidFactors", "InvalidSign", "InvalidText", "Unlike", "NothingToUndo", "TooMany"]
def labelsS : Str := "web saying place scales turn number facts index factors sign text unlike undo many"
def excLabels : List (Str × Str) := [("InvalidWeb", "web"), ("InvalidSaying", "saying"), ("InvalidPlace", "place"), ("InvalidScales", "scales"), ("InvalidTurn", "turn"), ("InvalidNumber", "number"), ("InvalidFacts", "facts"), ("InvalidIndex", "index"), ("InvalidFactors", "factors"), ("InvalidSign", "sign"), ("InvalidText", "text"), ("Unlike", "unlike"), ("NothingToUndo", "undo"), ("TooMany", "many")]
/-- what an exception's class is asked -/
structure HotC (K : PySem.W.Frag) (C : Addr) (bs : List Bool) : Prop where
  exc : ExcC K C
  ve : PySem.W.kitOne K (.ref C) (.type "ValueError") = some true
  ks : ∀ p ∈ excNames.zip bs, PySem.W.kitOne K (.ref C) (.ref (He.ga K p.1)) = some p.2
def selS : List Str → List Bool → List Str
  | x :: xs, b :: bs => if b then x :: selS xs bs else selS xs bs
  | _, _ => []
theorem selD_map : ∀ (xs : List Str) (bs : List Bool), selD (xs.map PyData.str) bs = (selS xs bs).map PyData.str
  | [], _ => by cases ‹List Bool› <;> rfl
  | _ :: _, [] => rfl
  | x :: xs, b :: bs => by
    show (if b then PyData.str x :: selD (xs.map PyData.str) bs else selD (xs.map PyData.str) bs) = _
    rw [selD_map xs bs]
    cases b <;> rfl
theorem selS_len : ∀ (xs : List Str) (bs : List Bool), (selS xs bs).length ≤ xs.length ∧ ((selS xs bs).map (·.length)).sum ≤ (xs.map (·.length)).sum
  | [], bs => by cases bs <;> simp [selS]
  | _ :: _, [] => by simp [selS]
  | x :: xs, b :: bs => by
    obtain ⟨h1, h2⟩ := selS_len xs bs
    cases b
    · show (selS xs bs).length ≤ _ ∧ ((selS xs bs).map (·.length)).sum ≤ _
      simp only [List.length_cons, List.map_cons, List.sum_cons]
      omega
    · show (x :: selS xs bs).length ≤ _ ∧ ((x :: selS xs bs).map (·.length)).sum ≤ _
      simp only [List.length_cons, List.map_cons, List.sum_cons]
      omega
def labs : List Str := Txt.split labelsS " "
theorem labs_len : labs.length = 14 := by decide +kernel
theorem labs_sum : (labs.map (·.length)).sum ≤ 100 := by decide +kernel
def labelOf (bs : List Bool) : Str := Txt.join " " (selS labs bs)
theorem label_small (bs : List Bool) : ((selS labs bs).map (·.length)).sum + (selS labs bs).length * (Str.ofString " ").length ≤ 16777216 := by
  obtain ⟨h1, h2⟩ := selS_len labs bs
  rw [labs_len] at h1
  have h3 := labs_sum
  have : (Str.ofString " ").length = 1 := by decide +kernel
  rw [this]
  omega
def F_law_named_error (e : Addr) (lab : Str) : FS := fun cs kk _ => cs = [.raw (.ref e)] ∧ kk (.dat (.str lab)) cs
theorem m_law_named_error {e : Addr} {lab : Str} : MonoF (F_law_named_error e lab) := fun cs kk kk' xx xx' ⟨e, h⟩ ff gg => ⟨e, ff _ _ h⟩
def errBody : List Stmt → List Stmt
  | .Try b _ _ _ _ :: _ => b
  | _ => []
def errSuite : List Stmt → Stmt
  | .Try _ [.ExceptHandler _ _ [s] _] _ _ _ :: _ => s
  | s :: _ => s
  | [] => .Pass ⟨0, 0, 0, 0⟩
def errLast : List Stmt → Stmt
  | [_, s] => s
  | _ => .Pass ⟨0, 0, 0, 0⟩
/-- exceptions of the module and their labels -/
def LB (K : PySem.W.Frag) (cls : Value) (lab : Str) : Prop := ∃ C b0 b1 b2 b3 b4 b5 b6 b7 b8 b9 b10 b11 b12 b13, cls = .ref C ∧ HotC K C [b0, b1, b2, b3, b4, b5, b6, b7, b8, b9, b10, b11, b12, b13] ∧ lab = labelOf [b0, b1, b2, b3, b4, b5, b6, b7, b8, b9, b10, b11, b12, b13] ∧ PySem.W.exmOne K (.ref C) (.ref (He.ga K "PullError")) = some true
end
end Law
set_option Elab.async false
set_option linter.all false
set_option maxRecDepth 100000
set_option maxHeartbeats 0
namespace Law
open PySem PySem.Spec PyProof.Rows L2 DL
local macro_rules | `(tactic| walk_at "sz") => `(tactic| first | assumption | decide | omega | exact Or.inl ⟨by omega, by omega⟩ | exact Or.inr ⟨by omega, by omega⟩ | exact cmul_mod (by assumption) (by assumption) | exact cmul_modR (by assumption) (by assumption) | exact cdiv_of (by omega) (by omega) | (simp [sizeLine_eq]; done) | (simp [sizeLine_eq]; omega))
local macro_rules | `(tactic| walk_at "sh") => `(tactic| first | rfl | assumption | decide)
local macro_rules | `(tactic| walk_at "rc") => `(tactic| repeat (first | exact RetC.nil | apply RetC.dat | apply RetC.own | apply RetC.raw))
section
variable {P : Program} {w : World} {K : PySem.W.Frag} {mg : Str → Option Value} {base : Heap} {T : List (Addr × Str)}
/-- where a def's lambdas find their code -/
def LamTab (K : PySem.W.Frag) (mg : Str → Option Value) (base : Heap) (T : List (Addr × Str)) (x : Str) : Prop := ∃ c P, (∀ cdv, (∃ o fd, K.lookup (He.ga K x) = some o ∧ o.data = .func fd ∧ fd.code = cdv) → cdv = .ref c) ∧ LamX.TabB base mg c P ∧ (P, (x ++ ".<locals>.") ++ "<lambda>") ∈ T ∧ ∀ p ∈ T, p.1 = P → p.2 = (x ++ ".<locals>.") ++ "<lambda>"
theorem LamTab.z {K : PySem.W.Frag} {mg : Str → Option Value} {base : Heap} {T : List (Addr × Str)} {x : Str} (t : LamTab K mg base T x) {cdv : Value} (h : ∃ o fd, K.lookup (He.ga K x) = some o ∧ o.data = .func fd ∧ fd.code = cdv) {Z : Ct} (e1 : Z.X.base = base) (e2 : Z.X.mg = mg) (e3 : Z.T = T) (e4 : Z.X.env.code = cdv) (e5 : Z.X.env.qual = x ++ ".<locals>.") : ∃ c P, TabZ Z c P := by
  obtain ⟨c, P, h1, h2, h3, h4⟩ := t
  refine ⟨c, P, by rw [e1, e2]; exact h2, by rw [e4]; exact h1 _ h, by rw [e3, e5]; exact h3, by rw [e3, e5]; exact h4⟩
theorem lb_mem {K : PySem.W.Frag} {x l : Str} (h : ∀ p ∈ excLabels.dropLast, LB K (.ref (He.ga K p.1)) p.2) (m : (x, l) ∈ excLabels.dropLast) : LB K (.ref (He.ga K x)) l := h _ m
theorem vref_of {mg : Str → Option Value} {x : Str} {a f : Addr} (h : mg x = some (.ref a)) (hf : mg x = some (.ref f)) : V.ref a = V.ref f := by
  rw [h] at hf
  cases hf
  rfl
end
end Law
set_option Elab.async false
set_option linter.all false
set_option maxRecDepth 100000
set_option maxHeartbeats 0
namespace Law
open PySem PySem.Spec PyProof.Rows L2 DL
local macro_rules | `(tactic| walk_at "sz") => `(tactic| first | assumption | decide | omega | exact Or.inl ⟨by omega, by omega⟩ | exact Or.inr ⟨by omega, by omega⟩ | exact cmul_mod (by assumption) (by assumption) | exact cmul_modR (by assumption) (by assumption) | exact cdiv_of (by omega) (by omega) | (simp [sizeLine_eq]; done) | (simp [sizeLine_eq]; omega))
local macro_rules | `(tactic| walk_at "sh") => `(tactic| first | rfl | assumption | decide)
local macro_rules | `(tactic| walk_at "rc") => `(tactic| repeat (first | exact RetC.nil | apply RetC.dat | apply RetC.own | apply RetC.raw))
section
variable {P : Program} {w : World} {K : PySem.W.Frag} {mg : Str → Option Value} {base : Heap} {T : List (Addr × Str)}
def goodF (p : Int) : D := .tuple [.str (repS "+" p), .str "+"]
def oddFacts (p : Int) : List D := [.none, .list [goodF p], .tuple (List.replicate 7 [goodF p]).flatten, goodF p, .tuple [.tuple [.str (repS "+" p)]], .tuple [.tuple [.str (repS "+" p), .str ""]], .tuple [goodF p, .none]] ++
  [.tuple [.tuple [.str (repS "+" p), .str "++"]], .tuple [.tuple [.str (repS "+" (p + 1)), .str "+"]], .tuple [.tuple [.str (repS "+" p), .int 1]], .tuple [.tuple [.str (repS "+" p), .str "+", .str "+"]], .str "++"]
theorem case7 {Q : Int → Prop} {p : Int} (h1 : 1 ≤ p) (h2 : p ≤ 7) (a : Q 1) (b : Q 2) (c : Q 3) (d : Q 4) (e : Q 5) (f : Q 6) (g : Q 7) : Q p := by
  have : p = 1 ∨ p = 2 ∨ p = 3 ∨ p = 4 ∨ p = 5 ∨ p = 6 ∨ p = 7 := by omega
  rcases this with rfl | rfl | rfl | rfl | rfl | rfl | rfl <;> assumption
theorem bad_facts {p : Int} (h1 : 1 ≤ p) (h2 : p ≤ 7) : ∀ d ∈ oddFacts p, factsOk p d = false ∧ okFs d = true := by
  have : ((oddFacts p).all fun d => !factsOk p d && okFs d) = true := case7 (Q := fun p => ((oddFacts p).all fun d => !factsOk p d && okFs d) = true) h1 h2 (by decide +kernel) (by decide +kernel) (by decide +kernel) (by decide +kernel) (by decide +kernel) (by decide +kernel) (by decide +kernel)
  intro d hd
  have := List.all_eq_true.mp this d hd
  simpa using this
theorem bad_webs : ∀ d ∈ badWebsD, fitsWeb d = false ∧ okS d = true := by
  have : (badWebsD.all fun d => !fitsWeb d && okS d) = true := by decide +kernel
  intro d hd
  have := List.all_eq_true.mp this d hd
  simpa using this
theorem bad_places {p : Int} (h1 : 1 ≤ p) (h2 : p ≤ 7) : ∀ d ∈ badPlacesD p, isWhole d 0 (p - 1) = false := by
  have : ((badPlacesD p).all fun d => !isWhole d 0 (p - 1)) = true := case7 (Q := fun p => ((badPlacesD p).all fun d => !isWhole d 0 (p - 1)) = true) h1 h2 (by decide +kernel) (by decide +kernel) (by decide +kernel) (by decide +kernel) (by decide +kernel) (by decide +kernel) (by decide +kernel)
  intro d hd
  have := List.all_eq_true.mp this d hd
  simpa using this
def F_law_refused7 : FS := FP fun cs d => ∃ (p : Int) (ps : List (Int × Int × Int)) (ls : List Int), cs = [.dat (webD p ps ls)] ∧ GoodW p ps ls ∧ d = .bool true
abbrev F_law_refused := F_law_refused7
theorem m_law_refused : MonoF F_law_refused := FP.mono _
def F_law : FS := fun cs kk _ => ∃ ns : List Int, cs = [.dat (.list (ns.map .int))] ∧ ns.length ≤ 63 ∧ kk (.dat (.bool true)) cs
theorem m_law : MonoF F_law := fun cs kk kk' xx xx' ⟨ns, e, h, g⟩ ff gg => ⟨ns, e, h, ff _ _ g⟩
theorem told_lit {W pl Fa : D} (p j : Int) (ps : List (Int × Int × Int)) (ls : List Int) (fs : List (List Bool × Bool)) (hW : W = webD p ps ls) (hp : pl = .int j) (hF : Fa = .tuple (fs.map factD))
    (h : (fitsWeb W && decide (p ≤ 7) && ps.all (fun t => decide (0 ≤ t.1) && decide (t.1 ≤ p - 1) && decide (0 ≤ t.2.1) && decide (t.2.1 ≤ p - 1)) && isWhole pl 0 (p - 1) && factsOk p Fa) = true) : told W pl Fa (.ok (.frs (.lst (leansD ps j fs)))) := by
  simp only [Bool.and_eq_true, decide_eq_true_eq, List.all_eq_true] at h
  obtain ⟨⟨⟨⟨h1, h2⟩, h3⟩, h4⟩, h5⟩ := h
  exact .inr ⟨h1, p, ps, ls, hW, ⟨h2, fun t ht => ⟨(h3 t ht).1.1.1, (h3 t ht).1.1.2, (h3 t ht).1.2, (h3 t ht).2⟩⟩, .inr ⟨h4, .inr ⟨h5, j, fs, hp, hF, rfl⟩⟩⟩
end
end Law
set_option Elab.async false
set_option linter.all false
set_option maxRecDepth 100000
set_option maxHeartbeats 0
namespace Law
open PySem PySem.Spec PyProof.Rows L2 DL
local macro_rules | `(tactic| walk_at "sz") => `(tactic| first | assumption | decide | omega | exact Or.inl ⟨by omega, by omega⟩ | exact Or.inr ⟨by omega, by omega⟩ | exact cmul_mod (by assumption) (by assumption) | exact cmul_modR (by assumption) (by assumption) | exact cdiv_of (by omega) (by omega) | (simp [sizeLine_eq]; done) | (simp [sizeLine_eq]; omega))
local macro_rules | `(tactic| walk_at "sh") => `(tactic| first | rfl | assumption | decide)
local macro_rules | `(tactic| walk_at "rc") => `(tactic| repeat (first | exact RetC.nil | apply RetC.dat | apply RetC.own | apply RetC.raw))
section
variable {P : Program} {w : World} {K : PySem.W.Frag} {mg : Str → Option Value} {base : Heap} {T : List (Addr × Str)}
/-! a web that fits is a good one -/
theorem lt2_trans {a b c : Int × Int × Int} (h : lt2 a b) (g : lt2 b c) : lt2 a c := by
  unfold lt2 at *
  omega
theorem ordD_of {s t : Int × Int × Int} (h : ordD (.tuple [pD s, pD t]) = true) : lt2 s t := by
  have h : HT.lexLt [s.1, s.2.1] [t.1, t.2.1] = true := h
  rw [HT.lexLt_cons] at h
  by_cases e1 : s.1 = t.1
  · rw [if_pos e1, HT.lexLt_cons] at h
    by_cases e2 : s.2.1 = t.2.1
    · rw [if_pos e2] at h; cases h
    · rw [if_neg e2] at h
      exact .inr ⟨e1, of_decide_eq_true h⟩
  · rw [if_neg e1] at h
    exact .inl (of_decide_eq_true h)
theorem up_of_pairs {ps : List (Int × Int × Int)} (h : (pairs (ps.map pD) (ps.map pD).tail).all ordD = true) : ps.Pairwise lt2 := by
  induction ps with
  | nil => exact .nil
  | cons a r ih =>
    cases r with
    | nil => exact .cons (by simp) .nil
    | cons b r =>
      have e : pairs ((a :: b :: r).map pD) ((a :: b :: r).map pD).tail = .tuple [pD a, pD b] :: pairs ((b :: r).map pD) ((b :: r).map pD).tail := rfl
      rw [e, List.all_cons, Bool.and_eq_true] at h
      have i := ih h.2
      have ab := ordD_of h.1
      refine .cons (fun c hc => ?_) i
      rcases List.mem_cons.mp hc with rfl | hc
      · exact ab
      · exact lt2_trans ab ((List.pairwise_cons.mp i).1 c hc)
theorem asc_len {l : List Int} {n : Nat} (m : Int) (h : l.Pairwise (· < ·)) (b : ∀ x ∈ l, m ≤ x ∧ x < m + n) : l.length ≤ n := by
  induction l generalizing m n with
  | nil => exact Nat.zero_le _
  | cons a r ih =>
    obtain ⟨h1, h2⟩ := List.pairwise_cons.mp h
    obtain ⟨b1, b2⟩ := b a (List.mem_cons_self ..)
    have := ih (n := n - 1) (m + 1) h2 fun x hx => by
      have := h1 x hx
      have := b x (List.mem_cons_of_mem _ hx)
      omega
    rw [List.length_cons]
    omega
theorem pulls_few {p : Int} {ps : List (Int × Int × Int)} (hp : p ≤ 7) (ok : ∀ t ∈ ps, okPull p t) (up : ps.Pairwise lt2) : ps.length ≤ 49 := by
  have h1 : (ps.map fun t => 7 * t.1 + t.2.1).Pairwise (· < ·) := by
    rw [List.pairwise_map]
    refine List.Pairwise.imp_of_mem (fun {a b} ha hb h => ?_) up
    obtain ⟨a1, a2, a3, a4⟩ := ok a ha
    obtain ⟨b1, b2, b3, b4⟩ := ok b hb
    unfold lt2 at h
    omega
  have := asc_len (n := 49) 0 h1 fun x hx => by
    obtain ⟨t, ht, rfl⟩ := List.mem_map.mp hx
    obtain ⟨a1, a2, a3, a4⟩ := ok t ht
    omega
  rwa [List.length_map] at this
theorem pulls_back {p : Int} : ∀ {ds : List D}, ds.all (fitsPull p) = true → ∃ qs : List (Int × Int × Int), ds = qs.map pD ∧ ∀ t ∈ qs, okT3 p t
  | [], _ => ⟨[], rfl, by simp⟩
  | a :: r, h => by
    simp only [List.all_cons, Bool.and_eq_true] at h
    obtain ⟨a1, a2, a3, rfl, z1, z2, z3, z4, z5, z6, z7, z8⟩ := fitsPull_of h.1
    obtain ⟨qs, rfl, g⟩ := pulls_back h.2
    refine ⟨(a1, a2, a3) :: qs, rfl, fun t ht => ?_⟩
    rcases List.mem_cons.mp ht with rfl | ht
    · exact ⟨⟨z1, z2, z3, z4⟩, z5, z6, z7, z8⟩
    · exact g t ht
theorem wholes_back {lo hi : Int} : ∀ {ds : List D}, ds.all (fun l => isWhole l lo hi) = true → ∃ ms : List Int, ds = ms.map PyData.int ∧ ∀ l ∈ ms, lo ≤ l ∧ l ≤ hi
  | [], _ => ⟨[], rfl, by simp⟩
  | a :: r, h => by
    simp only [List.all_cons, Bool.and_eq_true] at h
    obtain ⟨i, rfl, z⟩ := isWhole_of h.1
    obtain ⟨ms, rfl, g⟩ := wholes_back h.2
    refine ⟨i :: ms, rfl, fun t ht => ?_⟩
    rcases List.mem_cons.mp ht with rfl | ht
    · exact z
    · exact g t ht
theorem fitsWeb_good {v : D} (h : fitsWeb v = true) : ∃ p ps ls, v = webD p ps ls ∧ GoodW p ps ls := by
  obtain ⟨ds, rfl⟩ : ∃ ds, v = .tuple ds := by cases v <;> first | exact ⟨_, rfl⟩ | cases h
  obtain ⟨n, b, c, rfl⟩ : ∃ n b c, ds = [n, b, c] := by
    by_cases hl : ds.length = 3
    · match ds, hl with
      | [a, b, c], _ => exact ⟨a, b, c, rfl⟩
    · rw [fitsWeb_len hl] at h; cases h
  cases b with
  | tuple ps =>
    cases c with
    | tuple ls =>
      cases n with
      | int p =>
        simp only [fitsWeb, Bool.and_eq_true, decide_eq_true_eq] at h
        obtain ⟨⟨⟨⟨h1, h2⟩, h3⟩, h4⟩, h5⟩ := h
        obtain ⟨qs, rfl, g⟩ := pulls_back h2
        obtain ⟨ms, rfl, g2⟩ := wholes_back h5
        obtain ⟨i, e, p1, p7⟩ := isWhole_of h1
        cases e
        have up := up_of_pairs h3
        have := pulls_few p7 (fun t ht => (g t ht).1) up
        exact ⟨p, qs, ms, rfl, p1, p7, ⟨g, up⟩, by omega, by rw [List.length_map] at h4; exact h4, g2⟩
      | _ => cases h
    | _ => cases h
  | _ => cases h
/-! what is asked of arguments, in their order -/
def onWeb (W : D) (r : Except Str Rv) (k : Int → List (Int × Int × Int) → List Int → Prop) : Prop := (fitsWeb W = false ∧ r = .error "InvalidWeb") ∨ ∃ p ps ls, W = webD p ps ls ∧ GoodW p ps ls ∧ k p ps ls
def onSaying (p : Int) (S : D) (r : Except Str Rv) (k : List Bool → Prop) : Prop := (fitsSaying p S = false ∧ r = .error "InvalidSaying") ∨ ∃ bs, S = .str (sayS bs) ∧ (bs.length : Int) = p ∧ k bs
def onPlace (p : Int) (v : D) (r : Except Str Rv) (k : Int → Prop) : Prop := (isWhole v 0 (p - 1) = false ∧ r = .error "InvalidPlace") ∨ ∃ j, v = .int j ∧ (0 ≤ j ∧ j ≤ p - 1) ∧ k j
def needSaying (p : Int) (v : D) : Except Str Rv := if fitsSaying p v then .ok (.dat .none) else .error "InvalidSaying"
def F_need_saying (K : PySem.W.Frag) : FS := FE K fun cs r => ∃ (p : Int) (b c v : D), cs = [.dat (.tuple [.int p, b, c]), .dat v] ∧ okT v = true ∧ r = needSaying p v
theorem m_need_saying : MonoF (F_need_saying K) := FE.mono K _
def needNumber (v : D) (lo hi : Int) : Except Str Rv := if isWhole v lo hi then .ok (.dat .none) else .error "InvalidNumber"
def F_need_number (K : PySem.W.Frag) : FS := FE K fun cs r => ∃ (v : D) (lo hi : Int), cs = [.dat v, .dat (.int lo), .dat (.int hi)] ∧ r = needNumber v lo hi
theorem m_need_number : MonoF (F_need_number K) := FE.mono K _
/-! bids, what comes next -/
structure WS (p : Int) (ps : List (Int × Int × Int)) (ls : List Int) (bs : List Bool) : Prop where
  p1 : 1 ≤ p
  p7 : p ≤ 7
  ok : ∀ t ∈ ps, okPull p t
  many : ps.length ≤ 1000
  lean : (ls.length : Int) = p
  said : (bs.length : Int) = p
theorem GoodW.ws {p : Int} {ps : List (Int × Int × Int)} {ls : List Int} (g : GoodW p ps ls) {bs : List Bool} (h : (bs.length : Int) = p) : WS p ps ls bs := ⟨g.p1, g.p7, g.okp, by have := g.many; omega, g.lean, h⟩
def leanI (ls : List Int) (j : Int) : Int := ls.getD j.toNat 0
def bidI (ps : List (Int × Int × Int)) (ls : List Int) (bs : List Bool) (j : Int) : Int := pulledI ps bs j + leanI ls j
def ansB (ps : List (Int × Int × Int)) (ls : List Int) (bs : List Bool) (j : Int) : Bool := signOf (bidI ps ls bs j) (bs.getD j.toNat false)
def nextS (p : Int) (ps : List (Int × Int × Int)) (ls : List Int) (bs : List Bool) : List Bool := (List.range p.toNat).map fun (j : Nat) => ansB ps ls bs j
theorem nextS_len {p : Int} {ps : List (Int × Int × Int)} {ls : List Int} {bs : List Bool} (h : 0 ≤ p) : ((nextS p ps ls bs).length : Int) = p := by
  unfold nextS
  rw [List.length_map, List.length_range]
  omega
theorem lean_at {ls : List Int} {j : Int} (h0 : 0 ≤ j) (h1 : j < ls.length) : dIx (.tuple (ls.map PyData.int)) j = some (.int (leanI ls j)) := by
  have hl : j.toNat < ls.length := by omega
  have : atI (ls.map PyData.int) j = some (.int (leanI ls j)) := dIx_at h0 (by rw [List.getElem?_map, List.getElem?_eq_getElem hl]; simp [leanI, List.getD, List.getElem?_eq_getElem hl])
  exact this
def F_bid_of : FS := FP fun cs d => ∃ (p : Int) (ps : List (Int × Int × Int)) (ls : List Int) (bs : List Bool) (j : Int), cs = [.dat (webD p ps ls), .dat (.str (sayS bs)), .dat (.int j)] ∧ WS p ps ls bs ∧ 0 ≤ j ∧ j < p ∧ d = .int (bidI ps ls bs j)
theorem m_bid_of : MonoF F_bid_of := FP.mono _
abbrev F_law_bid := F_bid_of
theorem m_law_bid : MonoF F_law_bid := FP.mono _
def F_answer : FS := FP fun cs d => ∃ (p : Int) (ps : List (Int × Int × Int)) (ls : List Int) (bs : List Bool) (j : Int), cs = [.dat (webD p ps ls), .dat (.str (sayS bs)), .dat (.int j)] ∧ WS p ps ls bs ∧ 0 ≤ j ∧ j < p ∧ d = sgD (ansB ps ls bs j)
theorem m_answer : MonoF F_answer := FP.mono _
abbrev F_law_answer := F_answer
theorem m_law_answer : MonoF F_law_answer := FP.mono _
def F_after : FS := FP fun cs d => ∃ (p : Int) (ps : List (Int × Int × Int)) (ls : List Int) (bs : List Bool), cs = [.dat (webD p ps ls), .dat (.str (sayS bs))] ∧ WS p ps ls bs ∧ d = .str (sayS (nextS p ps ls bs))
theorem m_after : MonoF F_after := FP.mono _
abbrev F_law_next := F_after
theorem m_law_next : MonoF F_law_next := FP.mono _
theorem join_next (l : List Bool) : Txt.join (Str.ofString "") (l.map sgn) = sayS l := join_signs l
def F_is_web : FS := FP fun cs d => ∃ v, cs = [.dat v] ∧ okS v = true ∧ d = .bool (fitsWeb v)
theorem m_is_web : MonoF F_is_web := FP.mono _
def F_is_saying (K : PySem.W.Frag) : FS := FE K fun cs r => ∃ W v, cs = [.dat W, .dat v] ∧ okS W = true ∧ okT v = true ∧ onWeb W r fun p _ _ => r = .ok (.dat (.bool (fitsSaying p v)))
theorem m_is_saying : MonoF (F_is_saying K) := FE.mono K _
def F_bid (K : PySem.W.Frag) : FS := FE K fun cs r => ∃ W S pl, cs = [.dat W, .dat S, .dat pl] ∧ okS W = true ∧ okT S = true ∧ onWeb W r fun p ps ls => onSaying p S r fun bs => onPlace p pl r fun j => r = .ok (.dat (.int (bidI ps ls bs j)))
theorem m_bid : MonoF (F_bid K) := FE.mono K _
def F_next_said (K : PySem.W.Frag) : FS := FE K fun cs r => ∃ W S, cs = [.dat W, .dat S] ∧ okS W = true ∧ okT S = true ∧ onWeb W r fun p ps ls => onSaying p S r fun bs => r = .ok (.dat (.str (sayS (nextS p ps ls bs))))
theorem m_next_said : MonoF (F_next_said K) := FE.mono K _
def ansG (ps : List (Int × Int × Int)) (ls : List Int) (bs : List Bool) : D → Option D
  | .int j => some (sgD (ansB ps ls bs j))
  | _ => none
theorem ansG_rng (p : Int) (ps : List (Int × Int × Int)) (ls : List Int) (bs : List Bool) : (rng 0 p.toNat).filterMap (ansG ps ls bs) = ((nextS p ps ls bs).map sgn).map PyData.str := by
  unfold rng nextS
  rw [List.filterMap_map, List.map_map, List.map_map]
  have : (ansG ps ls bs ∘ fun (i : Nat) => PyData.int (0 + (i : Nat))) = fun (i : Nat) => some (PyData.str (sgn (ansB ps ls bs i))) := by
    funext i
    show some (sgD (ansB ps ls bs (0 + (i : Int)))) = _
    rw [Int.zero_add]
    rfl
  rw [this, fmap_some]
  rfl
abbrev F_law_whole := F_is_whole
theorem m_law_whole : MonoF F_law_whole := FP.mono _
end
end Law
set_option Elab.async false
set_option linter.all false
set_option maxRecDepth 100000
set_option maxHeartbeats 0
namespace Law
open PySem PySem.Spec PyProof.Rows L2 DL
local macro_rules | `(tactic| walk_at "sz") => `(tactic| first | assumption | decide | omega | exact Or.inl ⟨by omega, by omega⟩ | exact Or.inr ⟨by omega, by omega⟩ | exact cmul_mod (by assumption) (by assumption) | exact cmul_modR (by assumption) (by assumption) | exact cdiv_of (by omega) (by omega) | (simp [sizeLine_eq]; done) | (simp [sizeLine_eq]; omega))
local macro_rules | `(tactic| walk_at "sh") => `(tactic| first | rfl | assumption | decide)
local macro_rules | `(tactic| walk_at "rc") => `(tactic| repeat (first | exact RetC.nil | apply RetC.dat | apply RetC.own | apply RetC.raw))
section
variable {P : Program} {w : World} {K : PySem.W.Frag} {mg : Str → Option Value} {base : Heap} {T : List (Addr × Str)}
/-! small values: rows of at most n items, texts of at most L signs, ints of at most I -/
mutual
def sm (n L I : Nat) : D → Bool
  | .none => true
  | .bool _ => true
  | .int i => decide (i.natAbs ≤ I)
  | .str s => decide (s.length ≤ L)
  | .list ds => decide (ds.length ≤ n) && smA n L I ds
  | .tuple ds => decide (ds.length ≤ n) && smA n L I ds
  | .dict _ => false
def smA (n L I : Nat) : List D → Bool
  | [] => true
  | d :: ds => sm n L I d && smA n L I ds
end
theorem smA_all {n L I : Nat} : ∀ {ds : List D}, smA n L I ds = true ↔ ∀ d ∈ ds, sm n L I d = true
  | [] => by simp [smA]
  | d :: ds => by simp [smA, smA_all (ds := ds)]
mutual
theorem sm_plain {n L I : Nat} : ∀ {d : D}, sm n L I d = true → d.plain = true
  | .none, _ => rfl
  | .bool _, _ => rfl
  | .int _, _ => rfl
  | .str _, _ => rfl
  | .list ds, h => by
    simp only [sm, Bool.and_eq_true] at h
    exact smA_plain h.2
  | .tuple ds, h => by
    simp only [sm, Bool.and_eq_true] at h
    exact smA_plain h.2
  | .dict _, h => by cases h
theorem smA_plain {n L I : Nat} : ∀ {ds : List D}, smA n L I ds = true → PyData.plainAll ds = true
  | [], _ => rfl
  | d :: ds, h => by
    simp only [smA, Bool.and_eq_true] at h
    simp only [PyData.plainAll, sm_plain h.1, smA_plain h.2, Bool.and_self]
end
mutual
theorem sm_up {n L I n' L' I' : Nat} (h1 : n ≤ n') (h2 : L ≤ L') (h3 : I ≤ I') : ∀ {d : D}, sm n L I d = true → sm n' L' I' d = true
  | .none, _ => rfl
  | .bool _, _ => rfl
  | .int _, h => by
    simp only [sm, decide_eq_true_eq] at h ⊢
    omega
  | .str _, h => by
    simp only [sm, decide_eq_true_eq] at h ⊢
    omega
  | .list ds, h => by
    simp only [sm, Bool.and_eq_true, decide_eq_true_eq] at h ⊢
    exact ⟨by omega, smA_up h1 h2 h3 h.2⟩
  | .tuple ds, h => by
    simp only [sm, Bool.and_eq_true, decide_eq_true_eq] at h ⊢
    exact ⟨by omega, smA_up h1 h2 h3 h.2⟩
  | .dict _, h => by cases h
theorem smA_up {n L I n' L' I' : Nat} (h1 : n ≤ n') (h2 : L ≤ L') (h3 : I ≤ I') : ∀ {ds : List D}, smA n L I ds = true → smA n' L' I' ds = true
  | [], _ => rfl
  | d :: ds, h => by
    simp only [smA, Bool.and_eq_true] at h ⊢
    exact ⟨sm_up h1 h2 h3 h.1, smA_up h1 h2 h3 h.2⟩
end
theorem sm_tup {n L I : Nat} {ds : List D} : sm n L I (.tuple ds) = true ↔ ds.length ≤ n ∧ ∀ d ∈ ds, sm n L I d = true := by
  simp only [sm, Bool.and_eq_true, decide_eq_true_eq, smA_all]
theorem sm_lst {n L I : Nat} {ds : List D} : sm n L I (.list ds) = true ↔ ds.length ≤ n ∧ ∀ d ∈ ds, sm n L I d = true := by
  simp only [sm, Bool.and_eq_true, decide_eq_true_eq, smA_all]
theorem sm_okS {n L I : Nat} (hn : n ≤ 1000) : ∀ {d : D}, sm n L I d = true → okS d = true
  | .none, _ => rfl
  | .bool _, _ => rfl
  | .int _, _ => rfl
  | .str _, _ => rfl
  | .list _, _ => rfl
  | .dict _, h => by cases h
  | .tuple ds, h => by
    obtain ⟨h1, h2⟩ := sm_tup.mp h
    simp only [okS, Bool.and_eq_true, decide_eq_true_eq, List.all_eq_true]
    refine ⟨by omega, fun d hd => ?_⟩
    cases d with
    | tuple es =>
      have := (sm_tup.mp (h2 _ hd)).1
      exact decide_eq_true (by omega)
    | _ => rfl
theorem sm_okT {n L I : Nat} (hL : L ≤ 1000) {d : D} (h : sm n L I d = true) : okT d = true := by
  cases d with
  | str s =>
    simp only [sm, decide_eq_true_eq] at h
    exact decide_eq_true (by omega)
  | _ => rfl
theorem depth_mem : ∀ {ds : List D} {d : D}, d ∈ ds → d.depth ≤ PyData.depthAll ds
  | a :: ds, d, h => by
    simp only [PyData.depthAll]
    rcases List.mem_cons.mp h with rfl | h
    · exact Nat.le_max_left _ _
    · exact Nat.le_trans (depth_mem h) (Nat.le_max_right _ _)
theorem depthAll_le {m : Nat} : ∀ {ds : List D}, (∀ d ∈ ds, d.depth ≤ m) → PyData.depthAll ds ≤ m
  | [], _ => Nat.zero_le _
  | d :: ds, h => by
    simp only [PyData.depthAll]
    exact Nat.max_le.mpr ⟨h d (List.mem_cons_self ..), depthAll_le fun x hx => h x (List.mem_cons_of_mem _ hx)⟩
/-! slices -/
theorem sIx_some {n : Nat} {i : Int} (h : 0 ≤ i) (d : Nat) : HT.sIx n d (some i) = min i.toNat n := by
  simp only [HT.sIx]
  split <;> omega
theorem cut_to {ds : List D} {i : Int} (h : 0 ≤ i) : DL.cutD ds none (some i) = ds.take i.toNat := by
  unfold DL.cutD
  rw [sIx_some h]
  show (ds.drop 0).take (min i.toNat ds.length - 0) = _
  rw [List.drop_zero, Nat.sub_zero]
  by_cases q : i.toNat ≤ ds.length
  · rw [Nat.min_eq_left q]
  · rw [Nat.min_eq_right (by omega), List.take_of_length_le (by omega), List.take_of_length_le (by omega)]
theorem cut_from {ds : List D} {i : Int} (h : 0 ≤ i) : DL.cutD ds (some i) none = ds.drop i.toNat := by
  unfold DL.cutD
  rw [sIx_some h]
  show (ds.drop (min i.toNat ds.length)).take (ds.length - min i.toNat ds.length) = _
  by_cases q : i.toNat ≤ ds.length
  · rw [Nat.min_eq_left q, List.take_of_length_le (by rw [List.length_drop]; omega)]
  · rw [Nat.min_eq_right (by omega), List.drop_of_length_le (Nat.le_refl _), List.drop_of_length_le (by omega), List.take_nil]
theorem cut_mem {ds : List D} {lo hi : Option Int} {d : D} (h : d ∈ DL.cutD ds lo hi) : d ∈ ds := List.mem_of_mem_drop (List.mem_of_mem_take h)
theorem cut_len {ds : List D} {lo hi : Option Int} : (DL.cutD ds lo hi).length ≤ ds.length := by
  unfold DL.cutD
  rw [List.length_take, List.length_drop]
  omega
/-! strip("+-") -/
theorem tw_len {α : Type} (p : α → Bool) (l : List α) : (l.takeWhile p).length ≤ l.length := (List.takeWhile_sublist p).length_le
theorem tw_all {α : Type} {p : α → Bool} {l : List α} (h : l.all p = true) : (l.takeWhile p).length = l.length := by
  induction l with
  | nil => rfl
  | cons a l ih =>
    simp only [List.all_cons, Bool.and_eq_true] at h
    rw [List.takeWhile_cons, if_pos h.1, List.length_cons, List.length_cons, ih h.2]
theorem tw_lt {α : Type} {p : α → Bool} {l : List α} (h : l.all p = false) : (l.takeWhile p).length < l.length := by
  induction l with
  | nil => cases h
  | cons a l ih =>
    rw [List.takeWhile_cons]
    cases e : p a with
    | false => simp
    | true =>
      rw [List.all_cons, e, Bool.true_and] at h
      have := ih h
      simp only [if_true, List.length_cons]
      omega
theorem tw_drop {α : Type} {p : α → Bool} {l : List α} (h : l.all p = false) : (l.drop (l.takeWhile p).length).all p = false := by
  induction l with
  | nil => cases h
  | cons a l ih =>
    rw [List.takeWhile_cons]
    cases e : p a with
    | false => simp [e]
    | true =>
      rw [List.all_cons, e, Bool.true_and] at h
      simp only [if_true, List.length_cons, List.drop_succ_cons]
      exact ih h
theorem str_len0 {z : Str} : z = Str.ofString "" ↔ z.length = 0 := by
  constructor
  · intro h; rw [h]; rfl
  · intro h
    obtain ⟨a⟩ := z
    have : a = #[] := Array.eq_empty_of_size_eq_zero h
    subst this
    rfl
theorem strip_len (z : Str) (goes : Nat → Bool) : ((Txt.stripBy goes true true z).length = 0) ↔ z.cps.toList.all goes = true := by
  unfold Txt.stripBy
  have hlen : z.cps.toList.length = z.length := by rw [Array.length_toList]; rfl
  cases ha : z.cps.toList.all goes with
  | true =>
    have h1 := tw_all ha
    constructor
    · intro _; rfl
    · intro _
      split
      · rename_i hs
        simp only [stripSame, stripLo, Bool.and_eq_true, beq_iff_eq, if_true] at hs
        omega
      · simp only [stripped, stripLo, stripHi, if_true]
        show (z.cps.extract _ _).size = 0
        rw [Array.size_extract]
        omega
  | false =>
    have h1 := tw_lt ha
    have h2 := tw_drop ha
    have h3 : (z.cps.toList.drop (z.cps.toList.takeWhile goes).length).reverse.all goes = false := by rw [List.all_reverse]; exact h2
    have h4 := tw_lt h3
    rw [List.length_reverse, List.length_drop] at h4
    constructor
    · intro e
      exfalso
      revert e
      split
      · intro e; omega
      · simp only [stripped, stripLo, stripHi, if_true]
        intro e
        have e : (z.cps.extract (z.cps.toList.takeWhile goes).length (z.length - ((z.cps.toList.drop (z.cps.toList.takeWhile goes).length).reverse.takeWhile goes).length)).size = 0 := e
        rw [Array.size_extract] at e
        have hs : z.cps.size = z.length := rfl
        omega
    · intro e; cases e
theorem strip_signs (z : Str) : PyData.eqv (.str (Txt.stripChars z "+-")) (.str "") = (DL.signs z).all isSign := by
  rw [eqv_str]
  have e : ((Txt.stripChars z "+-").length = 0) ↔ z.cps.toList.all (Str.ofString "+-").cps.contains = true := strip_len z _
  have e2 : (DL.signs z).all isSign = z.cps.toList.all (Str.ofString "+-").cps.contains := by
    unfold DL.signs
    rw [List.all_map]
    congr 1
    funext c
    show isSign (.str ⟨#[c]⟩) = (Str.ofString "+-").cps.contains c
    have e1 : (Str.ofString "+") = ⟨#[43]⟩ := by decide +kernel
    have e3 : (Str.ofString "-") = ⟨#[45]⟩ := by decide +kernel
    have e4 : (Str.ofString "+-") = ⟨#[43, 45]⟩ := by decide +kernel
    rw [e4]
    simp only [isSign, List.any_cons, List.any_nil, eqv_str, e1, e3, Bool.or_false]
    rw [Bool.eq_iff_iff]
    simp only [Bool.or_eq_true, decide_eq_true_eq, Array.contains_iff_mem, Str.mk.injEq, Array.mk.injEq, List.cons.injEq, and_true]
    simp
    omega
  rw [e2, Bool.eq_iff_iff, decide_eq_true_eq, str_len0, e]
/-! pairs in their order -/
theorem eqv_prs : ∀ (a b : List (Int × Int)), PyData.eqvAll (a.map prDD) (b.map prDD) = decide (a = b)
  | [], [] => rfl
  | [], _ :: _ => rfl
  | _ :: _, [] => rfl
  | x :: a, y :: b => by
    show (PyData.eqv (prDD x) (prDD y) && PyData.eqvAll (a.map prDD) (b.map prDD)) = _
    rw [eqv_prs a b]
    have : PyData.eqv (prDD x) (prDD y) = decide (x = y) := by
      show PyData.eqvAll [.int x.1, .int x.2] [.int y.1, .int y.2] = _
      simp only [PyData.eqvAll, PyData.eqv, Bool.and_true]
      rw [Bool.eq_iff_iff]
      simp only [Bool.and_eq_true, beq_iff_eq, decide_eq_true_eq]
      exact ⟨fun h => Prod.ext h.1 h.2, fun h => by rw [h]; exact ⟨rfl, rfl⟩⟩
    rw [this, Bool.eq_iff_iff]
    simp
def ltP (a b : Int × Int) : Prop := a.1 < b.1 ∨ (a.1 = b.1 ∧ a.2 < b.2)
theorem asc_unique : ∀ {a b : List (Int × Int)}, a.Pairwise ltP → b.Pairwise ltP → (∀ x, x ∈ a ↔ x ∈ b) → a = b
  | [], [], _, _, _ => rfl
  | [], y :: b, _, _, h => absurd ((h y).mpr (List.mem_cons_self ..)) (by simp)
  | x :: a, [], _, _, h => absurd ((h x).mp (List.mem_cons_self ..)) (by simp)
  | x :: a, y :: b, ha, hb, h => by
    obtain ⟨a1, a2⟩ := List.pairwise_cons.mp ha
    obtain ⟨b1, b2⟩ := List.pairwise_cons.mp hb
    have irr : ∀ {p q : Int × Int}, ltP p q → ltP q p → False := fun h g => by unfold ltP at h g; omega
    have e : x = y := by
      rcases List.mem_cons.mp ((h x).mp (List.mem_cons_self ..)) with e | m1
      · exact e
      · rcases List.mem_cons.mp ((h y).mpr (List.mem_cons_self ..)) with e | m2
        · exact e.symm
        · exact (irr (b1 x m1) (a1 y m2)).elim
    subst e
    have irr1 : ∀ {p : Int × Int}, ltP p p → False := fun h => by unfold ltP at h; omega
    rw [asc_unique a2 b2 fun z => ?_]
    constructor
    · intro hz
      rcases List.mem_cons.mp ((h z).mp (List.mem_cons_of_mem _ hz)) with e | m
      · exact (irr1 (e ▸ a1 z hz)).elim
      · exact m
    · intro hz
      rcases List.mem_cons.mp ((h z).mpr (List.mem_cons_of_mem _ hz)) with e | m
      · exact (irr1 (e ▸ b1 z hz)).elim
      · exact m
theorem asc_of {L : List (Int × Int)} (nd : L.Nodup) (h : L.Pairwise (fun a b => a.1 < b.1 ∨ (a.1 = b.1 ∧ a.2 ≤ b.2))) : L.Pairwise ltP := by
  refine List.Pairwise.imp₂ (fun a b n l => ?_) nd h
  unfold ltP
  rcases l with l | ⟨l1, l2⟩
  · exact .inl l
  · refine .inr ⟨l1, ?_⟩
    rcases Int.lt_or_eq_of_le l2 with q | q
    · exact q
    · exact absurd (Prod.ext l1 q) n
abbrev F_law_is_pull := F_fits_pull
theorem m_law_is_pull : MonoF F_law_is_pull := FP.mono _
def isTupD : D → Bool
  | .tuple _ => true
  | _ => false
theorem fitsWeb_parts {n b c : D} (h : isTupD b = false ∨ isTupD c = false) : fitsWeb (.tuple [n, b, c]) = false := by
  rcases h with h | h
  · cases b <;> first | rfl | cases h
  · cases b <;> first | rfl | (cases c <;> first | rfl | cases h)
def notPull (p : Int) (d : D) : Option D := if fitsPull p d then none else some d
def notLean (d : D) : Option D := if isWhole d (-9) 9 then none else some d
theorem keep_nil {f : D → Bool} {ds : List D} {g : D → Option D} (hg : ∀ d, g d = if f d then none else some d) : PyData.eqv (.list (ds.filterMap g)) (.list []) = ds.all f := by
  have e : ∀ xs : List D, PyData.eqv (.list xs) (.list []) = xs.isEmpty := fun xs => by cases xs <;> rfl
  rw [e]
  induction ds with
  | nil => rfl
  | cons a ds ih =>
    rw [List.filterMap_cons, hg a, List.all_cons]
    cases f a with
    | true => simpa using ih
    | false => rfl
theorem keep_plain {g : D → Option D} {f : D → Bool} (hg : ∀ d, g d = if f d then none else some d) {ds : List D} (h : PyData.plainAll ds = true) : (PyData.list (ds.filterMap g)).plain = true := by
  show PyData.plainAll (ds.filterMap g) = true
  induction ds with
  | nil => rfl
  | cons a ds ih =>
    simp only [PyData.plainAll, Bool.and_eq_true] at h
    rw [List.filterMap_cons, hg a]
    cases f a with
    | true => simpa using ih h.2
    | false => simp [PyData.plainAll, h.1, ih h.2]
def pairOf (t : Int × Int × Int) : Int × Int := (t.1, t.2.1)
def pairG : D → Option D
  | .tuple (a :: b :: _) => some (.tuple [a, b])
  | _ => none
theorem pairG_map (ps : List (Int × Int × Int)) : (ps.map pD).filterMap pairG = (ps.map pairOf).map prDD := by
  rw [List.filterMap_map, List.map_map]
  have : (pairG ∘ pD) = fun t => some (prDD (pairOf t)) := rfl
  rw [this, fmap_some]
  rfl
theorem web_pairs {p : Int} {ps : List (Int × Int × Int)} {ls : List D} {L : List (Int × Int)} (hp1 : 1 ≤ p) (hp7 : p ≤ 7) (hps : (ps.map pD).all (fitsPull p) = true) (hls : ls.all (fun l => isWhole l (-9) 9) = true) (hl : (ls.length : Int) = p)
    (nd : L.Nodup) (hm : ∀ x, x ∈ L ↔ x ∈ ps.map pairOf) (hs : L.Pairwise (fun a b => a.1 < b.1 ∨ (a.1 = b.1 ∧ a.2 ≤ b.2))) : fitsWeb (.tuple [.int p, .tuple (ps.map pD), .tuple ls]) = decide (ps.map pairOf = L) := by
  have hL := asc_of nd hs
  have e : fitsWeb (.tuple [.int p, .tuple (ps.map pD), .tuple ls]) = (pairs (ps.map pD) (ps.map pD).tail).all ordD := by
    simp only [fitsWeb, isWhole_i hp1 hp7, hps, hls, hl, decide_true, Bool.true_and, Bool.and_true]
  rw [e, Bool.eq_iff_iff, decide_eq_true_eq]
  constructor
  · intro h
    have := up_of_pairs h
    refine asc_unique ?_ hL fun x => (hm x).symm
    rw [List.pairwise_map]
    exact this.imp fun h => h
  · intro h
    refine pairs_ord ?_
    rw [← h, List.pairwise_map] at hL
    exact hL.imp fun h => h
/-- a value that may be asked whether it is a web -/
structure OkWb (v : D) : Prop where
  pl : v.plain = true
  p1 : ∀ a ps c, v = .tuple [a, .tuple ps, c] → ps.length ≤ 60
  p2 : ∀ a b ls, v = .tuple [a, b, .tuple ls] → ls.length ≤ 100000
theorem sm_okWb {L I : Nat} {v : D} (h : sm 60 L I v = true) : OkWb v :=
  ⟨sm_plain h, fun a ps c e => by subst e; exact (sm_tup.mp ((sm_tup.mp h).2 (.tuple ps) (by simp))).1, fun a b ls e => by subst e; exact Nat.le_trans (sm_tup.mp ((sm_tup.mp h).2 (.tuple ls) (by simp))).1 (by decide)⟩
def F_law_is_web : FS := FP fun cs d => ∃ (v : D), cs = [.dat v] ∧ OkWb v ∧ d = .bool (fitsWeb v)
theorem m_law_is_web : MonoF F_law_is_web := FP.mono _
theorem pull_lt {p : Int} (hp : p ≤ 7) {ps : List (Int × Int × Int)} (h : (ps.map pD).all (fitsPull p) = true) : ∀ k ∈ ps.map pairOf, (0 ≤ k.1 ∧ k.1 < 7) ∧ 0 ≤ k.2 ∧ k.2 < 7 := by
  intro k hk
  obtain ⟨t, ht, rfl⟩ := List.mem_map.mp hk
  have := List.all_eq_true.mp h _ (List.mem_map_of_mem ht)
  obtain ⟨a, b, c, e, h1, h2, h3, h4, _⟩ := fitsPull_of this
  have e : pD t = pD (a, b, c) := e
  simp only [pD, PyData.tuple.injEq, List.cons.injEq, PyData.int.injEq] at e
  show (0 ≤ t.1 ∧ t.1 < 7) ∧ 0 ≤ t.2.1 ∧ t.2.1 < 7
  omega
theorem prs_plain (ks : List (Int × Int)) : (PyData.list (ks.map prDD)).plain = true := by
  show PyData.plainAll (ks.map prDD) = true
  induction ks with
  | nil => rfl
  | cons k ks ih => exact ih
theorem prs_depth (ks : List (Int × Int)) : (PyData.list (ks.map prDD)).depth ≤ 60 := by
  have : PyData.depthAll (ks.map prDD) ≤ 1 := depthAll_le fun d hd => by
    obtain ⟨k, _, rfl⟩ := List.mem_map.mp hd
    simp [prDD, PyData.depth, PyData.depthAll]
  show PyData.depthAll (ks.map prDD) + 1 ≤ 60
  omega
def F_law_is_saying : FS := FP fun cs d => ∃ (p : Int) (v : D), cs = [.dat (.int p), .dat v] ∧ okT v = true ∧ d = .bool (fitsSaying p v)
theorem m_law_is_saying : MonoF F_law_is_saying := FP.mono _
def F_law_truly : FS := FP fun cs d => ∃ a b : Bool, cs = [.dat (.bool a), .dat (.bool b)] ∧ d = .bool (a == b)
theorem m_law_truly : MonoF F_law_truly := FP.mono _
def badSayD (p : Int) : List D := [.none, .str "", .str (repS "+" (p + 1)), .str (repS "+" (p - 1) ++ "x"), .list (List.replicate p.toNat [PyData.str "+"]).flatten, .int 1, .tuple (List.replicate p.toNat [PyData.str "+"]).flatten, .str (repS "0" p)]
def F_law_bad_sayings : FS := fun cs kk _ => ∃ p : Int, cs = [.dat (.int p)] ∧ 1 ≤ p ∧ p ≤ 7 ∧ kk (.frs (.lst (badSayD p))) cs
theorem m_law_bad_sayings : MonoF F_law_bad_sayings := fun cs kk kk' xx xx' ⟨p, e, h1, h2, h⟩ ff gg => ⟨p, e, h1, h2, ff _ _ h⟩
theorem bad_sayings {p : Int} (h1 : 1 ≤ p) (h2 : p ≤ 7) : ∀ d ∈ badSayD p, fitsSaying p d = false ∧ okT d = true := by
  have : ((badSayD p).all fun d => !fitsSaying p d && okT d) = true := case7 (Q := fun p => ((badSayD p).all fun d => !fitsSaying p d && okT d) = true) h1 h2 (by decide +kernel) (by decide +kernel) (by decide +kernel) (by decide +kernel) (by decide +kernel) (by decide +kernel) (by decide +kernel)
  intro d hd
  have := List.all_eq_true.mp this d hd
  simpa using this
theorem rep_plus {p : Int} (h1 : 1 ≤ p) (h2 : p ≤ 7) : (repS "+" (p - 1)).length ≤ 100 := case7 (Q := fun p => (repS "+" (p - 1)).length ≤ 100) h1 h2 (by decide +kernel) (by decide +kernel) (by decide +kernel) (by decide +kernel) (by decide +kernel) (by decide +kernel) (by decide +kernel)
theorem rep_good {p : Int} (h1 : 1 ≤ p) (h2 : p ≤ 7) : repS "+" p = sayS (List.replicate p.toNat true) := case7 (Q := fun p => repS "+" p = sayS (List.replicate p.toNat true)) h1 h2 (by decide +kernel) (by decide +kernel) (by decide +kernel) (by decide +kernel) (by decide +kernel) (by decide +kernel) (by decide +kernel)
end
end Law
set_option Elab.async false
set_option linter.all false
set_option maxRecDepth 100000
set_option maxHeartbeats 0
namespace Law
open PySem PySem.Spec PyProof.Rows L2 DL
local macro_rules | `(tactic| walk_at "sz") => `(tactic| first | assumption | decide | omega | exact Or.inl ⟨by omega, by omega⟩ | exact Or.inr ⟨by omega, by omega⟩ | exact cmul_mod (by assumption) (by assumption) | exact cmul_modR (by assumption) (by assumption) | exact cdiv_of (by omega) (by omega) | (simp [sizeLine_eq]; done) | (simp [sizeLine_eq]; omega))
local macro_rules | `(tactic| walk_at "sh") => `(tactic| first | rfl | assumption | decide)
local macro_rules | `(tactic| walk_at "rc") => `(tactic| repeat (first | exact RetC.nil | apply RetC.dat | apply RetC.own | apply RetC.raw))
section
variable {P : Program} {w : World} {K : PySem.W.Frag} {mg : Str → Option Value} {base : Heap} {T : List (Addr × Str)}
def F_law_bent (dp : Nat) : FS := fun cs kk _ => ∃ (a : Addr) (ns : List Int) (n L I : Nat) (v : D), cs = [bagC a ns, .dat v] ∧ sm n L I v = true ∧ (3 ≤ n ∧ n ≤ 60) ∧ (4 ≤ L ∧ L ≤ 1000) ∧ (10 ≤ I ∧ I ≤ 100) ∧ v.depth ≤ dp ∧
  ∀ (r : Rv) (d : D) (ms : List Int), vwd r = some d → sm (n + 1) (3 * L + 4) (I + 1) d = true → d.depth ≤ dp + 2 → noSlot r → kk r [bagC a ms, .dat v]
theorem m_law_bent {dp : Nat} : MonoF (F_law_bent dp) := fun cs kk kk' xx xx' ⟨a, ns, n, L, I, v, e, h1, h2, h3, h4, h5, h⟩ ff gg => ⟨a, ns, n, L, I, v, e, h1, h2, h3, h4, h5, fun r d ms q1 q2 q3 q4 => ff _ _ (h r d ms q1 q2 q3 q4)⟩
theorem log_small {i : Int} {I : Nat} (h : i.natAbs ≤ I) (hI : I ≤ 100) : i.natAbs.log2 < 1920 := Nat.lt_of_le_of_lt (Nat.log2_le_self _) (by omega)
theorem str_small {i : Int} {I : Nat} (h : i.natAbs ≤ I) (hI : I ≤ 100) : (toString i : Str).length ≤ 4 := by
  have : ((List.range 201).all fun k => decide ((toString ((k : Int) - 100) : Str).length ≤ 4)) = true := by decide +kernel
  have := List.all_eq_true.mp this (i + 100).toNat (List.mem_range.mpr (by omega))
  have := of_decide_eq_true this
  rwa [show (((i + 100).toNat : Nat) : Int) - 100 = i by omega] at this
theorem cutS_le (z : Str) (lo hi : Option Int) {m : Nat} (h : z.length ≤ m) : (cutS z lo hi).length ≤ m := cutS_length z lo hi |> fun q => Nat.le_trans q h
theorem upper_le (z : Str) : (Txt.upper z).length ≤ 3 * z.length := PyProof.Rows.len_upper z
theorem app_len (x y : Str) : (x ++ y).length = x.length + y.length := by
  show (x.cps ++ y.cps).size = _
  rw [Array.size_append]
  rfl
theorem depth_tup {ds : List D} {m : Nat} : (PyData.tuple ds).depth ≤ m + 1 ↔ ∀ d ∈ ds, d.depth ≤ m := by
  show PyData.depthAll ds + 1 ≤ m + 1 ↔ _
  constructor
  · intro h d hd
    have := depth_mem hd
    omega
  · intro h
    have := depthAll_le h
    omega
theorem depth_lst {ds : List D} {m : Nat} : (PyData.list ds).depth ≤ m + 1 ↔ ∀ d ∈ ds, d.depth ≤ m := depth_tup
theorem bent_tup {n L I m : Nat} {ds es : List D} (h : sm n L I (.tuple ds) = true) (hd : (PyData.tuple ds).depth ≤ m) (hl : es.length ≤ n + 1) (he : ∀ d ∈ es, d ∈ ds) : sm (n + 1) (3 * L + 4) (I + 1) (.tuple es) = true ∧ (PyData.tuple es).depth ≤ m + 2 := by
  obtain ⟨h1, h2⟩ := sm_tup.mp h
  refine ⟨sm_tup.mpr ⟨hl, fun d m => sm_up (by omega) (by omega) (by omega) (h2 d (he d m))⟩, ?_⟩
  have : (PyData.tuple es).depth ≤ (m + 1) + 1 := depth_tup.mpr fun d hd' => by
    have h3 := depth_mem (he d hd')
    have h4 : PyData.depthAll ds + 1 ≤ m := hd
    omega
  exact this
theorem cutA (ds : List D) {x : Int} (h0 : 0 ≤ x) (h1 : x < ds.length) : (DL.cutD ds none (some x)).length ≤ x.toNat ∧ (DL.cutD ds (some (x + 1)) none).length = ds.length - (x.toNat + 1) ∧ (DL.cutD ds (some x) (some (x + 1))).length ≤ 1 ∧ (DL.cutD ds (some x) none).length = ds.length - x.toNat := by
  refine ⟨?_, ?_, ?_, ?_⟩
  · rw [cut_to h0, List.length_take]; omega
  · rw [cut_from (by omega), List.length_drop]; omega
  · unfold DL.cutD
    rw [sIx_some h0, sIx_some (by omega), List.length_take]
    omega
  · rw [cut_from h0, List.length_drop]
theorem odd_small {n L I : Nat} {d : D} (hn : 3 ≤ n) (hL : 4 ≤ L) (hI : 10 ≤ I) (m : d ∈ [PyData.none, .int 0, .int 1, .int (-1), .int 2, .bool true, .str "", .str "+-", .tuple [], .tuple [.int 0, .int 1], .tuple [.int 0, .int 1, .int 1], .tuple [.tuple [.int 0, .int 1, .int 1]], .list []]) : sm (n + 1) (3 * L + 4) (I + 1) d = true ∧ d.depth ≤ 2 := by
  have : ([PyData.none, .int 0, .int 1, .int (-1), .int 2, .bool true, .str "", .str "+-", .tuple [], .tuple [.int 0, .int 1], .tuple [.int 0, .int 1, .int 1], .tuple [.tuple [.int 0, .int 1, .int 1]], .list []].all fun d => sm 3 2 2 d && decide (d.depth ≤ 2)) = true := by decide +kernel
  have := List.all_eq_true.mp this d m
  simp only [Bool.and_eq_true, decide_eq_true_eq] at this
  exact ⟨sm_up (by omega) (by omega) (by omega) this.1, this.2⟩
theorem bent_ints {n L I : Nat} {i : Int} {d : D} (hi : i.natAbs ≤ I) (hI : 10 ≤ I) (hI2 : I ≤ 100) (hL : 4 ≤ L) (m : d ∈ [PyData.int (i + 1), .int (i - 1), .int (-i), .bool true, .int 0, .int 9, .int 10, .int (-10), .str (toString i)]) : sm (n + 1) (3 * L + 4) (I + 1) d = true ∧ d.depth ≤ 0 := by
  have hs := str_small hi hI2
  simp only [List.mem_cons, List.not_mem_nil, or_false] at m
  rcases m with rfl | rfl | rfl | rfl | rfl | rfl | rfl | rfl | rfl <;> refine ⟨?_, Nat.le_refl _⟩ <;> first | rfl | (simp only [sm, decide_eq_true_eq]; omega)
theorem bent_strs {n L I : Nat} {z : Str} {d : D} (hz : z.length ≤ L) (m : d ∈ [PyData.str (z ++ "+"), .str (cutS z (some 1) none), .str (z ++ "x"), .str (Txt.upper z), .str (revS z)]) : sm (n + 1) (3 * L + 4) (I + 1) d = true ∧ d.depth ≤ 0 := by
  have h1 := app_len z "+"
  have h2 := app_len z "x"
  have l1 : (Str.ofString "+").length = 1 := rfl
  have l2 : (Str.ofString "x").length = 1 := rfl
  have h3 := cutS_le z (some 1) none hz
  have h4 := upper_le z
  have h5 := revS_len z
  simp only [List.mem_cons, List.not_mem_nil, or_false] at m
  rcases m with rfl | rfl | rfl | rfl | rfl <;> refine ⟨?_, Nat.le_refl _⟩ <;> (simp only [sm, decide_eq_true_eq]; omega)
/-- an item put in the place of another -/
theorem bent_in {n L I m : Nat} {ds es fs : List D} {d : D} (h : sm n L I (.tuple ds) = true) (hd : (PyData.tuple ds).depth ≤ m + 1) (hl : es.length + 1 + fs.length ≤ n + 1) (he : ∀ x ∈ es, x ∈ ds) (hf : ∀ x ∈ fs, x ∈ ds) (h1 : sm (n + 1) (3 * L + 4) (I + 1) d = true) (h2 : d.depth ≤ m + 2) :
    sm (n + 1) (3 * L + 4) (I + 1) (.tuple (es ++ [d] ++ fs)) = true ∧ (PyData.tuple (es ++ [d] ++ fs)).depth ≤ m + 1 + 2 := by
  obtain ⟨_, h3⟩ := sm_tup.mp h
  have h4 := depth_tup.mp hd
  have key : ∀ x ∈ es ++ [d] ++ fs, x = d ∨ x ∈ ds := fun x hx => by
    rcases List.mem_append.mp hx with hx | hx
    · rcases List.mem_append.mp hx with hx | hx
      · exact .inr (he x hx)
      · exact .inl (List.mem_singleton.mp hx)
    · exact .inr (hf x hx)
  refine ⟨sm_tup.mpr ⟨by simp only [List.length_append, List.length_cons, List.length_nil]; omega, fun x hx => ?_⟩, ?_⟩
  · rcases key x hx with rfl | hx
    · exact h1
    · exact sm_up (by omega) (by omega) (by omega) (h3 x hx)
  · have : (PyData.tuple (es ++ [d] ++ fs)).depth ≤ (m + 2) + 1 := depth_tup.mpr fun x hx => by
      rcases key x hx with rfl | hx
      · exact h2
      · have := h4 x hx
        omega
    exact this
def Ls : Nat → Nat
  | 0 => 10
  | t + 1 => 3 * Ls t + 4
theorem Ls_le {t : Nat} (h : t ≤ 4) : 4 ≤ Ls t ∧ Ls t ≤ 1000 := by
  have : t = 0 ∨ t = 1 ∨ t = 2 ∨ t = 3 ∨ t = 4 := by omega
  rcases this with rfl | rfl | rfl | rfl | rfl <;> decide
theorem web_sm {p : Int} {ps : List (Int × Int × Int)} {ls : List Int} (g : GoodW p ps ls) : sm 50 10 15 (webD p ps ls) = true ∧ (webD p ps ls).depth ≤ 3 := by
  have h1 := pulls_few g.p7 g.okp g.pulls.up
  have h2 := g.lean
  have h7 := g.p7
  have h8 := g.p1
  have hp : ∀ d ∈ ps.map pD, sm 50 10 15 d = true ∧ d.depth ≤ 1 := fun d hd => by
    obtain ⟨t, ht, rfl⟩ := List.mem_map.mp hd
    obtain ⟨⟨a1, a2, a3, a4⟩, _, a6, a7, _⟩ := g.pulls.ok t ht
    refine ⟨?_, by simp [pD, PyData.depth, PyData.depthAll]⟩
    simp only [pD, sm, smA, Bool.and_eq_true, decide_eq_true_eq, Bool.and_true, List.length_cons, List.length_nil]
    omega
  have hl : ∀ d ∈ ls.map PyData.int, sm 50 10 15 d = true ∧ d.depth ≤ 0 := fun d hd => by
    obtain ⟨l, hl, rfl⟩ := List.mem_map.mp hd
    have := g.leans l hl
    refine ⟨?_, Nat.le_refl _⟩
    simp only [sm, decide_eq_true_eq]
    omega
  refine ⟨sm_tup.mpr ⟨by simp, fun d hd => ?_⟩, ?_⟩
  · simp only [List.mem_cons, List.not_mem_nil, or_false] at hd
    rcases hd with rfl | rfl | rfl
    · simp only [sm, decide_eq_true_eq]; omega
    · exact sm_tup.mpr ⟨by rw [List.length_map]; omega, fun d hd => (hp d hd).1⟩
    · exact sm_tup.mpr ⟨by rw [List.length_map]; omega, fun d hd => (hl d hd).1⟩
  · have e1 : PyData.depthAll (ps.map pD) ≤ 1 := depthAll_le fun d hd => (hp d hd).2
    have e2 : PyData.depthAll (ls.map PyData.int) ≤ 0 := depthAll_le fun d hd => (hl d hd).2
    simp only [webD, PyData.depth, PyData.depthAll]
    omega
theorem say_sm {bs : List Bool} (h : bs.length ≤ 7) : sm 50 10 15 (.str (sayS bs)) = true ∧ (PyData.str (sayS bs)).depth ≤ 3 := by
  refine ⟨?_, Nat.zero_le _⟩
  simp only [sm, sayS_len, decide_eq_true_eq]
  omega
def bidG (ps : List (Int × Int × Int)) (ls : List Int) (bs : List Bool) : D → Option D
  | .int j => some (.int (bidI ps ls bs j))
  | _ => none
theorem bidG_rng (p : Int) (ps : List (Int × Int × Int)) (ls : List Int) (bs : List Bool) : ∃ ns : List Int, (rng 0 p.toNat).filterMap (bidG ps ls bs) = ns.map PyData.int := by
  refine ⟨(List.range p.toNat).map fun (i : Nat) => bidI ps ls bs (0 + (i : Int)), ?_⟩
  unfold rng
  rw [List.filterMap_map, List.map_map]
  have : (bidG ps ls bs ∘ fun (i : Nat) => PyData.int (0 + (i : Nat))) = fun (i : Nat) => some (PyData.int (bidI ps ls bs (0 + (i : Int)))) := rfl
  rw [this, fmap_some]
  rfl
theorem ints_plain (ns : List Int) : (PyData.list (ns.map PyData.int)).plain = true := plain_ints ns
theorem ints_depth (ns : List Int) : (PyData.list (ns.map PyData.int)).depth ≤ 60 := by
  have : PyData.depthAll (ns.map PyData.int) ≤ 1 := depthAll_le fun d hd => by
    obtain ⟨k, _, rfl⟩ := List.mem_map.mp hd
    exact Nat.zero_le _
  show PyData.depthAll (ns.map PyData.int) + 1 ≤ 60
  omega
def keepWebs (b : Bool) (d : D) : Option D := if fitsWeb d = b then some d else none
def oneOf (p : Int) (ps : List (Int × Int × Int)) (ls : List Int) (bs : List Bool) (d : D) : Prop := d = webD p ps ls ∨ d = .str (sayS bs)
/-- a written web -/
theorem lit_web {W : D} (p : Int) (ps : List (Int × Int × Int)) (ls : List Int) (hW : W = webD p ps ls) (h : fitsWeb W = true) : okS W = true ∧ GoodW p ps ls := by
  subst hW
  obtain ⟨p', ps', ls', e, g⟩ := fitsWeb_good h
  have e2 : p = p' ∧ ps = ps' ∧ ls = ls' := by
    simp only [webD, PyData.tuple.injEq, List.cons.injEq, PyData.int.injEq, and_true] at e
    refine ⟨e.1, ?_, ?_⟩
    · have := e.2.1
      have inj : ∀ {a b : List (Int × Int × Int)}, a.map pD = b.map pD → a = b := by
        intro a
        induction a with
        | nil => intro b h; cases b with
          | nil => rfl
          | cons _ _ => cases h
        | cons x a ih =>
          intro b h
          cases b with
          | nil => cases h
          | cons y b =>
            simp only [List.map_cons, List.cons.injEq, pD, PyData.tuple.injEq, PyData.int.injEq, and_true] at h
            obtain ⟨⟨q1, q2, q3⟩, q4⟩ := h
            rw [ih q4, Prod.ext q1 (Prod.ext q2 q3)]
      exact inj this
    · have := e.2.2
      have inj : ∀ {a b : List Int}, a.map PyData.int = b.map PyData.int → a = b := by
        intro a
        induction a with
        | nil => intro b h; cases b with
          | nil => rfl
          | cons _ _ => cases h
        | cons x a ih =>
          intro b h
          cases b with
          | nil => cases h
          | cons y b =>
            simp only [List.map_cons, List.cons.injEq, PyData.int.injEq] at h
            rw [h.1, ih h.2]
      exact inj this
  obtain ⟨rfl, rfl, rfl⟩ := e2
  exact ⟨g.small, g⟩
theorem asC_vwd {r : Rv} {d : D} (h : vwd r = some d) : asC r = some (.dat d) := by
  cases r with
  | dat x => cases h; rfl
  | raw _ => cases h
  | slot _ => cases h
  | frs m =>
    have h : m.toD = some d := h
    show m.toD.map C.dat = _
    rw [h]; rfl
theorem on_web {W : D} {r : Except Str Rv} {k : Int → List (Int × Int × Int) → List Int → Prop} (p : Int) (ps : List (Int × Int × Int)) (ls : List Int) (hW : W = webD p ps ls) (h : fitsWeb W = true) (hk : k p ps ls) : onWeb W r k := .inr ⟨p, ps, ls, hW, (lit_web p ps ls hW h).2, hk⟩
theorem on_say {p : Int} {S : D} {r : Except Str Rv} {k : List Bool → Prop} (bs : List Bool) (hS : S = .str (sayS bs)) (hb : (bs.length : Int) = p) (hk : k bs) : onSaying p S r k := .inr ⟨bs, hS, hb, hk⟩
theorem on_place {p : Int} {v : D} {r : Except Str Rv} {k : Int → Prop} (j : Int) (hv : v = .int j) (h : 0 ≤ j ∧ j ≤ p - 1) (hk : k j) : onPlace p v r k := .inr ⟨j, hv, h, hk⟩
end
end Law
set_option Elab.async false
set_option linter.all false
set_option maxRecDepth 100000
set_option maxHeartbeats 0
namespace Law
open PySem PySem.Spec PyProof.Rows L2 DL
local macro_rules | `(tactic| walk_at "sz") => `(tactic| first | assumption | decide | omega | exact Or.inl ⟨by omega, by omega⟩ | exact Or.inr ⟨by omega, by omega⟩ | exact cmul_mod (by assumption) (by assumption) | exact cmul_modR (by assumption) (by assumption) | exact cdiv_of (by omega) (by omega) | (simp [sizeLine_eq]; done) | (simp [sizeLine_eq]; omega))
local macro_rules | `(tactic| walk_at "sh") => `(tactic| first | rfl | assumption | decide)
local macro_rules | `(tactic| walk_at "rc") => `(tactic| repeat (first | exact RetC.nil | apply RetC.dat | apply RetC.own | apply RetC.raw))
section
variable {P : Program} {w : World} {K : PySem.W.Frag} {mg : Str → Option Value} {base : Heap} {T : List (Addr × Str)}
open TL
/-! texts cut at one sign -/
theorem joinL_cons {S p : List Nat} {ps : List (List Nat)} (h : ps ≠ []) : joinL S (p :: ps) = p ++ (S ++ joinL S ps) := by
  cases ps with
  | nil => exact absurd rfl h
  | cons q ps => rfl
theorem spl_ne (S : List Nat) : ∀ (l : List Nat) (k : Nat) (acc : List Nat), spl S k acc l ≠ []
  | [], k, acc => by rw [spl_nil]; simp
  | c :: l, 0, acc => by
    show (if pre S (c :: l) = true then acc :: spl S (S.length - 1) [] l else spl S 0 (acc ++ [c]) l) ≠ []
    split
    · simp
    · exact spl_ne S l 0 _
  | c :: l, k + 1, acc => spl_ne S l k acc
theorem pre1 (s c : Nat) (l : List Nat) : pre [s] (c :: l) = decide (c = s) := by
  show (([c] : List Nat) == [s]) = _
  rw [Bool.eq_iff_iff]; simp
theorem spl1_cons (s c : Nat) (l acc : List Nat) : spl [s] 0 acc (c :: l) = if c = s then acc :: spl [s] 0 [] l else spl [s] 0 (acc ++ [c]) l := by
  show (if pre [s] (c :: l) = true then _ else _) = _
  rw [pre1]
  simp
theorem spl1_join (s : Nat) : ∀ (l acc : List Nat), joinL [s] (spl [s] 0 acc l) = acc ++ l
  | [], acc => by rw [spl_nil]; simp [joinL]
  | c :: l, acc => by
    rw [spl1_cons]
    split
    · rename_i h
      rw [joinL_cons (spl_ne _ _ _ _), spl1_join s l [], h]; rfl
    · rw [spl1_join s l]; simp
theorem spl1_free (s : Nat) : ∀ (l acc : List Nat), s ∉ acc → ∀ p ∈ spl [s] 0 acc l, s ∉ p
  | [], acc, h, p, hp => by
    rw [spl_nil] at hp
    rw [List.mem_singleton.mp hp]; exact h
  | c :: l, acc, h, p, hp => by
    rw [spl1_cons] at hp
    split at hp
    · rcases List.mem_cons.mp hp with rfl | hp
      · exact h
      · exact spl1_free s l [] (by simp) p hp
    · rename_i hc
      refine spl1_free s l _ ?_ p hp
      simp [h]
      exact fun e => hc e.symm
/-- a text of one small sign -/
structure Sep (y : Str) (s : Nat) : Prop where
  e : tl y = [s]
  k : y.cps.all (· < 256) = true
theorem Sep.ne {y : Str} {s : Nat} (h : Sep y s) : tl y ≠ [] := by rw [h.e]; simp
theorem sepN : Sep "\n" 10 := ⟨by decide +kernel, by decide +kernel⟩
theorem sepS : Sep " " 32 := ⟨by decide +kernel, by decide +kernel⟩
theorem split_tl {y : Str} {s : Nat} (h : Sep y s) (x : Str) : (Txt.split x y).map tl = spl [s] 0 [] (tl x) := by
  rw [← h.e]; exact split_spl x y h.ne (kind_ok h.k)
theorem split_ne {y : Str} {s : Nat} (h : Sep y s) (x : Str) : Txt.split x y ≠ [] := fun e => by
  have := split_tl h x
  rw [e] at this
  exact spl_ne _ _ _ _ this.symm
theorem join_split {y : Str} {s : Nat} (h : Sep y s) (x : Str) : Txt.join y (Txt.split x y) = x := by
  rw [join_eq]
  apply ext_tl
  rw [tl_join, split_tl h, h.e, spl1_join]; rfl
theorem split_free {y : Str} {s : Nat} (h : Sep y s) {x p : Str} (hp : p ∈ Txt.split x y) : s ∉ tl p := by
  have : tl p ∈ spl [s] 0 [] (tl x) := by rw [← split_tl h]; exact List.mem_map.mpr ⟨p, hp, rfl⟩
  exact spl1_free s _ [] (by simp) _ this
theorem split_back {y : Str} {s : Nat} (h : Sep y s) {ps : List Str} (hne : ps ≠ []) (hp : ∀ p ∈ ps, s ∉ tl p) : Txt.split (Txt.join y ps) y = ps := by
  exact TL.split_join h.e h.k hne hp
/-! sizes -/
def cnt (s : Nat) (x : Str) : Nat := (tl x).count s
theorem cnt_app (s : Nat) (x y : Str) : cnt s (x ++ y) = cnt s x + cnt s y := by
  unfold cnt; rw [tl_append, List.count_append]
theorem len_app (x y : Str) : (x ++ y).length = x.length + y.length := by
  rw [len_tl, len_tl, len_tl, tl_append, List.length_append]
theorem cnt_free {s : Nat} {x : Str} (h : s ∉ tl x) : cnt s x = 0 := List.count_eq_zero.mpr h
theorem free_cnt {s : Nat} {x : Str} (h : cnt s x = 0) : s ∉ tl x := List.count_eq_zero.mp h
theorem joinL_len {s : Nat} : ∀ {ps : List (List Nat)}, ps ≠ [] → (joinL [s] ps).length + 1 = (ps.map List.length).sum + ps.length
  | [p], _ => by simp [joinL]
  | p :: q :: ps, _ => by
    have := joinL_len (s := s) (ps := q :: ps) (by simp)
    rw [joinL_cons (by simp)]
    simp only [List.length_append, List.map_cons, List.sum_cons, List.length_cons, List.length_nil] at this ⊢
    omega
theorem joinL_cnt {s c : Nat} : ∀ {ps : List (List Nat)}, ps ≠ [] → (joinL [s] ps).count c + [s].count c = (ps.map (List.count c)).sum + ps.length * [s].count c
  | [p], _ => by simp [joinL]
  | p :: q :: ps, _ => by
    have := joinL_cnt (s := s) (c := c) (ps := q :: ps) (by simp)
    rw [joinL_cons (by simp)]
    simp only [List.count_append, List.map_cons, List.sum_cons, List.length_cons, Nat.add_mul, Nat.one_mul] at this ⊢
    omega
def lens (ps : List Str) : Nat := (ps.map (·.length)).sum
def cnts (s : Nat) (ps : List Str) : Nat := (ps.map (cnt s)).sum
theorem join_len {y : Str} {s : Nat} (h : Sep y s) {ps : List Str} (hne : ps ≠ []) : (Txt.join y ps).length + 1 = lens ps + ps.length := by
  rw [join_eq, len_tl, tl_join, h.e, joinL_len (by simpa using hne), List.map_map, List.length_map]
  unfold lens
  congr 2
theorem join_cnt {y : Str} {s : Nat} (h : Sep y s) (c : Nat) {ps : List Str} (hne : ps ≠ []) : cnt c (Txt.join y ps) + [s].count c = cnts c ps + ps.length * [s].count c := by
  unfold cnt cnts
  rw [join_eq, tl_join, h.e, joinL_cnt (by simpa using hne), List.map_map, List.length_map]
  rfl
theorem cnts_free {s : Nat} {ps : List Str} (h : ∀ p ∈ ps, s ∉ tl p) : cnts s ps = 0 := by
  induction ps with
  | nil => rfl
  | cons p ps ih =>
    show cnt s p + cnts s ps = 0
    rw [cnt_free (h p (List.mem_cons_self ..)), ih fun q hq => h q (List.mem_cons_of_mem _ hq)]
theorem split_len {y : Str} {s : Nat} (h : Sep y s) (x : Str) : x.length + 1 = lens (Txt.split x y) + (Txt.split x y).length := by
  have := join_len h (split_ne h x)
  rw [join_split h] at this
  exact this
theorem split_num {y : Str} {s : Nat} (h : Sep y s) (x : Str) : (Txt.split x y).length = cnt s x + 1 := by
  have := join_cnt h s (split_ne h x)
  rw [join_split h, cnts_free fun p hp => split_free h hp] at this
  simp at this
  omega
theorem lens_mem {ps : List Str} {p : Str} (h : p ∈ ps) : p.length ≤ lens ps := by
  induction ps with
  | nil => cases h
  | cons q ps ih =>
    have e : lens (q :: ps) = q.length + lens ps := rfl
    rw [e]
    rcases List.mem_cons.mp h with rfl | h
    · omega
    · have := ih h; omega
theorem split_mem_len {y : Str} {s : Nat} (h : Sep y s) {x p : Str} (hp : p ∈ Txt.split x y) : p.length ≤ x.length := by
  have h1 := split_len h x
  have h2 := lens_mem hp
  have h3 : 1 ≤ (Txt.split x y).length := by
    have := split_ne h x
    cases e : Txt.split x y with
    | nil => exact absurd e this
    | cons _ _ => simp
  omega
theorem lens_sub {ps qs : List Str} (h : List.Sublist ps qs) : lens ps ≤ lens qs ∧ ps.length ≤ qs.length := by
  refine ⟨?_, h.length_le⟩
  induction h with
  | slnil => exact Nat.le_refl _
  | cons a _ ih => show _ ≤ a.length + lens _; omega
  | cons_cons a _ ih => show a.length + lens _ ≤ a.length + lens _; omega
theorem lens_app (ps qs : List Str) : lens (ps ++ qs) = lens ps + lens qs := by
  unfold lens; rw [List.map_append, List.sum_append]
theorem lens_rev (ps : List Str) : lens ps.reverse = lens ps := by
  unfold lens; rw [List.map_reverse, List.sum_reverse]
/-! one-sign numbers -/
def numL? : List Nat → Option Int
  | [c] => if 48 ≤ c ∧ c ≤ 57 then some ((c : Int) - 48) else none
  | [a, c] => if a = 45 ∧ 49 ≤ c ∧ c ≤ 57 then some (48 - (c : Int)) else none
  | _ => none
def numOf (w : Str) : Option Int := numL? (tl w)
def numsI : List Int := [-9, -8, -7, -6, -5, -4, -3, -2, -1, 0, 1, 2, 3, 4, 5, 6, 7, 8, 9]
def istr (i : Int) : Str := (toString i : String)
theorem numsI_mem {i : Int} : i ∈ numsI ↔ -9 ≤ i ∧ i ≤ 9 := by
  unfold numsI
  simp only [List.mem_cons, List.not_mem_nil, or_false]
  omega
theorem nums_ok : numsI.all (fun i => decide (numOf (istr i) = some i) && decide (PySem.intText? (istr i) = some i) && decide ((istr i).length ≤ 2) && decide (i.natAbs.log2 < 1920) && !(tl (istr i)).contains 32 && !(tl (istr i)).contains 10) = true := by decide +kernel
theorem nums_at {i : Int} (h : -9 ≤ i ∧ i ≤ 9) : numOf (istr i) = some i ∧ PySem.intText? (istr i) = some i ∧ (istr i).length ≤ 2 ∧ i.natAbs.log2 < 1920 ∧ 32 ∉ tl (istr i) ∧ 10 ∉ tl (istr i) := by
  have := List.all_eq_true.mp nums_ok i (numsI_mem.mpr h)
  simp only [Bool.and_eq_true, decide_eq_true_eq, Bool.not_eq_true', List.contains_eq_mem, decide_eq_false_iff_not] at this
  obtain ⟨⟨⟨⟨⟨h1, h2⟩, h3⟩, h4⟩, h5⟩, h6⟩ := this
  exact ⟨h1, h2, h3, h4, h5, h6⟩
theorem dig_ok : (List.range 10).all (fun n => decide (tl (istr (n : Int)) = [48 + n])) = true := by decide +kernel
theorem neg_ok : (List.range 10).all (fun n => n == 0 || decide (tl (istr (-(n : Int))) = [45, 48 + n])) = true := by decide +kernel
theorem numOf_some {w : Str} {i : Int} (h : numOf w = some i) : w = istr i ∧ -9 ≤ i ∧ i ≤ 9 := by
  unfold numOf numL? at h
  split at h
  · rename_i c e
    split at h
    · rename_i hc
      injection h with h
      have hn : c - 48 < 10 := by omega
      have := List.all_eq_true.mp dig_ok (c - 48) (List.mem_range.mpr hn)
      have := of_decide_eq_true this
      have ei : ((c - 48 : Nat) : Int) = i := by omega
      rw [ei] at this
      refine ⟨ext_tl ?_, by omega, by omega⟩
      rw [e, this]
      congr 1; omega
    · cases h
  · rename_i a c e
    split at h
    · rename_i hc
      injection h with h
      have hn : c - 48 < 10 := by omega
      have := List.all_eq_true.mp neg_ok (c - 48) (List.mem_range.mpr hn)
      simp only [Bool.or_eq_true, beq_iff_eq, decide_eq_true_eq] at this
      rcases this with z | this
      · omega
      · have ei : -((c - 48 : Nat) : Int) = i := by omega
        rw [ei] at this
        refine ⟨ext_tl ?_, by omega, by omega⟩
        rw [e, this, hc.1]
        congr 2; omega
    · cases h
  · cases h
theorem numOf_iff {w : Str} : (numOf w).isSome = numsI.any fun i => decide (w = istr i) := by
  rw [Bool.eq_iff_iff, List.any_eq_true]
  constructor
  · intro h
    obtain ⟨i, hi⟩ := Option.isSome_iff_exists.mp h
    obtain ⟨h1, h2⟩ := numOf_some hi
    exact ⟨i, numsI_mem.mpr h2, decide_eq_true h1⟩
  · rintro ⟨i, hi, h⟩
    rw [of_decide_eq_true h, (nums_at (numsI_mem.mp hi)).1]; rfl
def numsOf : List Str → Option (List Int)
  | [] => some []
  | w :: ws => match numOf w, numsOf ws with
    | some i, some is => some (i :: is)
    | _, _ => none
theorem numsOf_some : ∀ {ws : List Str} {is : List Int}, numsOf ws = some is → ws = is.map istr ∧ ∀ i ∈ is, -9 ≤ i ∧ i ≤ 9
  | [], is, h => by cases h; exact ⟨rfl, by simp⟩
  | w :: ws, is, h => by
    unfold numsOf at h
    split at h
    · rename_i i js e1 e2
      cases h
      obtain ⟨h1, h2⟩ := numOf_some e1
      obtain ⟨h3, h4⟩ := numsOf_some e2
      refine ⟨by rw [List.map_cons, ← h1, ← h3], fun j hj => ?_⟩
      rcases List.mem_cons.mp hj with rfl | hj
      · exact h2
      · exact h4 j hj
    · cases h
theorem numsOf_map : ∀ {is : List Int}, (∀ i ∈ is, -9 ≤ i ∧ i ≤ 9) → numsOf (is.map istr) = some is
  | [], _ => rfl
  | i :: is, h => by
    rw [List.map_cons]
    unfold numsOf
    rw [(nums_at (h i (List.mem_cons_self ..))).1, numsOf_map fun j hj => h j (List.mem_cons_of_mem _ hj)]
theorem numsOf_isSome : ∀ {ws : List Str}, (numsOf ws).isSome = ws.all fun w => (numOf w).isSome
  | [] => rfl
  | w :: ws => by
    rw [List.all_cons, ← numsOf_isSome]
    conv => lhs; unfold numsOf
    cases numOf w <;> cases numsOf ws <;> rfl
theorem numsOf_none {ws : List Str} {w : Str} (hw : w ∈ ws) (h : numOf w = none) : numsOf ws = none := by
  rw [← Option.not_isSome_iff_eq_none, numsOf_isSome]
  intro q
  have := List.all_eq_true.mp q w hw
  rw [h] at this
  cases this
/-! a web's text, and reading it -/
def leanLine (ls : List Int) : Str := Txt.join " " (("leans" : Str) :: ls.map istr)
def pullWords (t : Int × Int × Int) : List Str := ["pull", istr t.1, istr t.2.1, istr t.2.2]
def pullLine (t : Int × Int × Int) : Str := Txt.join " " (pullWords t)
def textOf (ps : List (Int × Int × Int)) (ls : List Int) : Str := Txt.join "\n" (leanLine ls :: ps.map pullLine)
def linesOf (t : Str) : List (List Str) := (Txt.split t "\n").map fun l => Txt.split l " "
def numD (ws : List Str) : D := match numsOf ws with
  | some is => .tuple (is.map .int)
  | none => .none
def isPullL (ws : List Str) : Bool := decide (ws.head? = some "pull") && (numsOf ws.tail).isSome
def foundOf (r0 : List Str) (rest : List (List Str)) : D := .tuple [.int r0.length, .tuple (rest.map fun ws => numD ws.tail), numD r0]
def readL : List (List Str) → D
  | (w0 :: r0) :: rest => if (decide (w0 = "leans") && (numsOf r0).isSome && rest.all isPullL && fitsWeb (foundOf r0 rest)) = true then foundOf r0 rest else .none
  | _ => .none
def readT (t : Str) : D := readL (linesOf t)
theorem lines_ne (t : Str) : linesOf t ≠ [] := by
  unfold linesOf
  simp [split_ne sepN t]
theorem lines_words {t : Str} {ws : List Str} (h : ws ∈ linesOf t) : ws ≠ [] := by
  obtain ⟨l, _, rfl⟩ := List.mem_map.mp h
  exact split_ne sepS l
theorem lines_back (t : Str) : Txt.join "\n" ((linesOf t).map (Txt.join " ")) = t := by
  unfold linesOf
  rw [List.map_map]
  have : (Txt.join " " ∘ fun l => Txt.split l " ") = id := by
    funext l
    exact join_split sepS l
  rw [this, List.map_id, join_split sepN]
theorem lines_join {L : List (List Str)} (hne : L ≠ []) (h1 : ∀ ws ∈ L, ws ≠ []) (h2 : ∀ ws ∈ L, ∀ w ∈ ws, 32 ∉ tl w ∧ 10 ∉ tl w) : linesOf (Txt.join "\n" (L.map (Txt.join " "))) = L := by
  unfold linesOf
  rw [split_back sepN (by simpa using hne), List.map_map]
  · have : L.map ((fun l => Txt.split l " ") ∘ Txt.join " ") = L.map id := List.map_congr_left fun ws hw => split_back sepS (h1 ws hw) fun w hx => (h2 ws hw w hx).1
    rw [this, List.map_id]
  · intro p hp
    obtain ⟨ws, hw, rfl⟩ := List.mem_map.mp hp
    apply free_cnt
    have := join_cnt sepS 10 (h1 ws hw)
    rw [cnts_free fun w hx => (h2 ws hw w hx).2] at this
    simp at this
    exact this
theorem istr_inj {i j : Int} (h : istr i = istr j) (hi : -9 ≤ i ∧ i ≤ 9) (hj : -9 ≤ j ∧ j ≤ 9) : i = j := by
  have := (nums_at hi).1
  rw [h, (nums_at hj).1] at this
  exact (Option.some.inj this).symm
theorem numD_tup {ws : List Str} {ds : List D} (h : numD ws = .tuple ds) : ∃ is, numsOf ws = some is ∧ ds = is.map .int := by
  unfold numD at h
  split at h
  · rename_i is e
    injection h with h
    exact ⟨is, e, h.symm⟩
  · cases h
theorem ints_inj {a b : List Int} (h : a.map PyData.int = b.map PyData.int) : a = b := by
  induction a generalizing b with
  | nil => cases b with
    | nil => rfl
    | cons _ _ => cases h
  | cons x a ih =>
    cases b with
    | nil => cases h
    | cons y b =>
      simp only [List.map_cons, List.cons.injEq, PyData.int.injEq] at h
      rw [h.1, ih h.2]
/-- the words of a web's text -/
def wordsOf (ps : List (Int × Int × Int)) (ls : List Int) : List (List Str) := (("leans" : Str) :: ls.map istr) :: ps.map pullWords
theorem textOf_words (ps : List (Int × Int × Int)) (ls : List Int) : textOf ps ls = Txt.join "\n" ((wordsOf ps ls).map (Txt.join " ")) := by
  unfold textOf wordsOf
  rw [List.map_cons, List.map_map]; rfl
theorem small_of {p : Int} {ps : List (Int × Int × Int)} {ls : List Int} (gw : GoodW p ps ls) {t : Int × Int × Int} (ht : t ∈ ps) : (-9 ≤ t.1 ∧ t.1 ≤ 9) ∧ (-9 ≤ t.2.1 ∧ t.2.1 ≤ 9) ∧ (-9 ≤ t.2.2 ∧ t.2.2 ≤ 9) := by
  have h := gw.pulls.ok t ht
  unfold okT3 okPull at h
  have := gw.p7
  omega
theorem words_free {p : Int} {ps : List (Int × Int × Int)} {ls : List Int} (gw : GoodW p ps ls) : ∀ ws ∈ wordsOf ps ls, ∀ w ∈ ws, 32 ∉ tl w ∧ 10 ∉ tl w := by
  intro ws hw w hx
  have num : ∀ {i : Int}, -9 ≤ i ∧ i ≤ 9 → 32 ∉ tl (istr i) ∧ 10 ∉ tl (istr i) := fun hi => (nums_at hi).2.2.2.2
  rcases List.mem_cons.mp hw with rfl | hw
  · rcases List.mem_cons.mp hx with rfl | hx
    · decide +kernel
    · obtain ⟨i, hi, rfl⟩ := List.mem_map.mp hx
      exact num (gw.leans i hi)
  · obtain ⟨t, ht, rfl⟩ := List.mem_map.mp hw
    obtain ⟨h1, h2, h3⟩ := small_of gw ht
    simp only [pullWords, List.mem_cons, List.not_mem_nil, or_false] at hx
    rcases hx with rfl | rfl | rfl | rfl
    · decide +kernel
    · exact num h1
    · exact num h2
    · exact num h3
theorem words_ne {ps : List (Int × Int × Int)} {ls : List Int} : ∀ ws ∈ wordsOf ps ls, ws ≠ [] := by
  intro ws hw
  rcases List.mem_cons.mp hw with rfl | hw
  · simp
  · obtain ⟨t, ht, rfl⟩ := List.mem_map.mp hw
    simp [pullWords]
theorem lines_text {p : Int} {ps : List (Int × Int × Int)} {ls : List Int} (gw : GoodW p ps ls) : linesOf (textOf ps ls) = wordsOf ps ls := by
  rw [textOf_words]
  exact lines_join (by simp [wordsOf]) words_ne (words_free gw)
theorem text_iff {p : Int} {ps : List (Int × Int × Int)} {ls : List Int} (gw : GoodW p ps ls) (t : Str) : textOf ps ls = t ↔ linesOf t = wordsOf ps ls := by
  constructor
  · intro h; rw [← h, lines_text gw]
  · intro h; rw [textOf_words, ← h, lines_back]
theorem pull_nums {t : Int × Int × Int} (h : (-9 ≤ t.1 ∧ t.1 ≤ 9) ∧ (-9 ≤ t.2.1 ∧ t.2.1 ≤ 9) ∧ (-9 ≤ t.2.2 ∧ t.2.2 ≤ 9)) : numsOf (pullWords t).tail = some [t.1, t.2.1, t.2.2] := by
  have := numsOf_map (is := [t.1, t.2.1, t.2.2]) (by
    intro i hi
    simp only [List.mem_cons, List.not_mem_nil, or_false] at hi
    rcases hi with rfl | rfl | rfl
    · exact h.1
    · exact h.2.1
    · exact h.2.2)
  exact this
theorem found_words {p : Int} {ps : List (Int × Int × Int)} {ls : List Int} (gw : GoodW p ps ls) : foundOf (ls.map istr) (ps.map pullWords) = webD p ps ls := by
  unfold foundOf webD
  rw [List.length_map, gw.lean]
  have e1 : numD (ls.map istr) = .tuple (ls.map .int) := by
    unfold numD
    rw [numsOf_map gw.leans]
  have e2 : (ps.map pullWords).map (fun ws => numD ws.tail) = ps.map pD := by
    rw [List.map_map]
    refine List.map_congr_left fun t ht => ?_
    show numD (pullWords t).tail = pD t
    unfold numD
    rw [pull_nums (small_of gw ht)]; rfl
  rw [e1, e2]
theorem read_words {p : Int} {ps : List (Int × Int × Int)} {ls : List Int} (gw : GoodW p ps ls) : readL (wordsOf ps ls) = webD p ps ls := by
  show (if _ then foundOf (ls.map istr) (ps.map pullWords) else PyData.none) = _
  rw [found_words gw, if_pos]
  simp only [Bool.and_eq_true, decide_eq_true_eq, List.all_eq_true]
  refine ⟨⟨⟨trivial, by rw [numsOf_map gw.leans]; rfl⟩, fun ws hw => ?_⟩, gw.fits⟩
  obtain ⟨t, ht, rfl⟩ := List.mem_map.mp hw
  unfold isPullL
  rw [pull_nums (small_of gw ht)]
  simp [pullWords]
theorem read_text {p : Int} {ps : List (Int × Int × Int)} {ls : List Int} (gw : GoodW p ps ls) : readT (textOf ps ls) = webD p ps ls := by
  unfold readT
  rw [lines_text gw, read_words gw]
theorem heads_iff : ∀ {rest : List (List Str)} {ps : List (Int × Int × Int)}, (∀ ws ∈ rest, ws ≠ []) → (rest.map fun ws => numD ws.tail) = ps.map pD → (∀ t ∈ ps, (-9 ≤ t.1 ∧ t.1 ≤ 9) ∧ (-9 ≤ t.2.1 ∧ t.2.1 ≤ 9) ∧ (-9 ≤ t.2.2 ∧ t.2.2 ≤ 9)) → (rest.all isPullL = true ↔ rest = ps.map pullWords)
  | [], [], _, _, _ => by simp
  | [], _ :: _, _, h, _ => by cases h
  | _ :: _, [], _, h, _ => by cases h
  | ws :: rest, t :: ps, h1, h2, h3 => by
    simp only [List.map_cons, List.cons.injEq] at h2
    have ih := heads_iff (fun x hx => h1 x (List.mem_cons_of_mem _ hx)) h2.2 (fun x hx => h3 x (List.mem_cons_of_mem _ hx))
    obtain ⟨w, ws, rfl⟩ : ∃ w r, ws = w :: r := by
      cases ws with
      | nil => exact absurd rfl (h1 [] (List.mem_cons_self ..))
      | cons w r => exact ⟨w, r, rfl⟩
    obtain ⟨is, e1, e2⟩ := numD_tup (show numD ws = .tuple [.int t.1, .int t.2.1, .int t.2.2] from h2.1)
    have e3 : is = [t.1, t.2.1, t.2.2] := ints_inj e2.symm
    subst e3
    have e4 := (numsOf_some e1).1
    rw [List.all_cons, Bool.and_eq_true, ih, List.map_cons, List.cons.injEq]
    refine and_congr_left fun _ => ?_
    unfold isPullL pullWords
    simp only [List.head?_cons, List.tail_cons, e1, Option.isSome_some, Bool.and_true, decide_eq_true_eq, Option.some.injEq, List.cons.injEq]
    rw [e4]
    simp
/-- what the module's reader asks at the end -/
theorem read_ask {t : Str} {w0 : Str} {r0 : List Str} {rest : List (List Str)} {p : Int} {ps : List (Int × Int × Int)} {ls : List Int} (h : linesOf t = (w0 :: r0) :: rest) (hf : foundOf r0 rest = webD p ps ls) (gw : GoodW p ps ls) : (textOf ps ls = t → readT t = webD p ps ls) ∧ (textOf ps ls ≠ t → readT t = .none) := by
  refine ⟨fun e => by rw [← e, read_text gw], fun e => ?_⟩
  unfold readT
  rw [h]
  show (if _ then _ else PyData.none) = _
  rw [if_neg]
  intro q
  simp only [Bool.and_eq_true, decide_eq_true_eq] at q
  obtain ⟨⟨⟨q1, q2⟩, q3⟩, q4⟩ := q
  apply e
  rw [text_iff gw, h]
  unfold foundOf webD at hf
  simp only [PyData.tuple.injEq, List.cons.injEq, PyData.int.injEq, and_true] at hf
  obtain ⟨f1, f2, f3⟩ := hf
  obtain ⟨is, e1, e2⟩ := numD_tup f3
  have e3 := ints_inj e2
  subst e3
  have hw := (heads_iff (fun ws hx => lines_words (t := t) (by rw [h]; exact List.mem_cons_of_mem _ hx)) f2 (fun t ht => small_of gw ht)).mp q3
  unfold wordsOf
  rw [q1, hw, ← (numsOf_some e1).1]
/-! bent texts: how far they grow -/
structure Bd (t t' : Str) : Prop where
  len : t'.length ≤ 2 * t.length + 10
  nl : cnt 10 t' ≤ cnt 10 t + 1
  sp : cnt 32 t' ≤ 2 * cnt 32 t + 1
theorem cutS_tl (z : Str) (lo hi : Option Int) : tl (cutS z lo hi) = ((tl z).drop (HT.sIx z.length 0 lo)).take (HT.sIx z.length z.length hi - HT.sIx z.length 0 lo) := by
  rfl
theorem cutS_to {z : Str} {i : Int} (h : 0 ≤ i) : tl (cutS z none (some i)) = (tl z).take i.toNat := by
  rw [cutS_tl, sIx_some h]
  show ((tl z).drop 0).take (min i.toNat z.length - 0) = _
  rw [List.drop_zero, Nat.sub_zero, len_tl]
  by_cases q : i.toNat ≤ (tl z).length
  · rw [Nat.min_eq_left q]
  · rw [Nat.min_eq_right (by omega), List.take_of_length_le (by omega), List.take_of_length_le (by omega)]
theorem cutS_from {z : Str} {i : Int} (h : 0 ≤ i) : tl (cutS z (some i) none) = (tl z).drop i.toNat := by
  rw [cutS_tl, sIx_some h]
  show ((tl z).drop (min i.toNat z.length)).take (z.length - min i.toNat z.length) = _
  rw [len_tl]
  by_cases q : i.toNat ≤ (tl z).length
  · rw [Nat.min_eq_left q, List.take_of_length_le (by rw [List.length_drop]; omega)]
  · rw [Nat.min_eq_right (by omega), List.drop_of_length_le (Nat.le_refl _), List.drop_of_length_le (by omega), List.take_nil]
theorem take_drop_cnt (c : Nat) (l : List Nat) (n : Nat) : (l.take n).count c + (l.drop n).count c = l.count c := by
  rw [← List.count_append, List.take_append_drop]
theorem bent_ins {t c : Str} {i : Int} (h : 0 ≤ i) (hc : c.length ≤ 1) : Bd t (cutS t none (some i) ++ c ++ cutS t (some i) none) := by
  have key : ∀ s, cnt s (cutS t none (some i) ++ c ++ cutS t (some i) none) ≤ cnt s t + 1 := fun s => by
    rw [cnt_app, cnt_app]
    have : cnt s c ≤ 1 := by
      have := List.count_le_length (a := s) (l := tl c)
      rw [← len_tl] at this
      exact Nat.le_trans this hc
    have e := take_drop_cnt s (tl t) i.toNat
    rw [← cutS_to h, ← cutS_from h] at e
    unfold cnt at *
    omega
  refine ⟨?_, key 10, Nat.le_trans (key 32) (by omega)⟩
  rw [len_app, len_app, len_tl (cutS _ _ _), len_tl (cutS t (some i) none), cutS_to h, cutS_from h, List.length_take, List.length_drop, len_tl t]
  omega
theorem bent_del {t : Str} {i : Int} (h : 0 ≤ i) : Bd t (cutS t none (some i) ++ cutS t (some (i + 1)) none) := by
  have key : ∀ s, cnt s (cutS t none (some i) ++ cutS t (some (i + 1)) none) ≤ cnt s t := fun s => by
    rw [cnt_app]
    have e := take_drop_cnt s (tl t) i.toNat
    unfold cnt
    rw [cutS_to h, cutS_from (by omega)]
    have : List.Sublist ((tl t).drop (i + 1).toNat) ((tl t).drop i.toNat) := by
      have e : (i + 1).toNat = i.toNat + 1 := by omega
      rw [e, ← List.drop_drop]
      exact List.drop_sublist ..
    have := this.count_le s
    omega
  refine ⟨?_, Nat.le_trans (key 10) (by omega), Nat.le_trans (key 32) (by omega)⟩
  rw [len_app, len_tl (cutS _ _ _), len_tl (cutS t (some (i + 1)) none), cutS_to h, cutS_from (by omega), List.length_take, List.length_drop, len_tl t]
  omega
theorem cnts_app (s : Nat) (ps qs : List Str) : cnts s (ps ++ qs) = cnts s ps + cnts s qs := by
  unfold cnts; rw [List.map_append, List.sum_append]
theorem cnts_rev (s : Nat) (ps : List Str) : cnts s ps.reverse = cnts s ps := by
  unfold cnts; rw [List.map_reverse, List.sum_reverse]
theorem cnts_mem {s : Nat} {ps : List Str} {p : Str} (h : p ∈ ps) : cnt s p ≤ cnts s ps := by
  induction ps with
  | nil => cases h
  | cons q ps ih =>
    have e : cnts s (q :: ps) = cnt s q + cnts s ps := rfl
    rw [e]
    rcases List.mem_cons.mp h with rfl | h
    · omega
    · have := ih h; omega
theorem split_sp (t : Str) : cnts 32 (Txt.split t "\n") = cnt 32 t := by
  have := join_cnt sepN 32 (split_ne sepN t)
  rw [join_split sepN] at this
  simp at this
  omega
theorem bent_join {t : Str} {L : List Str} (h1 : lens L ≤ 2 * lens (Txt.split t "\n") + 9) (h2 : L.length ≤ (Txt.split t "\n").length + 1) (h3 : cnts 32 L ≤ 2 * cnts 32 (Txt.split t "\n") + 1) (hf : ∀ p ∈ L, 10 ∉ tl p) : Bd t (Txt.join "\n" L) := by
  by_cases hL : L = []
  · subst hL
    exact ⟨Nat.zero_le _, Nat.zero_le _, Nat.zero_le _⟩
  have a1 := join_len sepN hL
  have a2 := split_len sepN t
  have a3 := split_num sepN t
  have a4 := join_cnt sepN 10 hL
  have a5 := join_cnt sepN 32 hL
  rw [cnts_free hf] at a4
  simp at a4 a5
  rw [split_sp] at h3
  refine ⟨?_, ?_, ?_⟩ <;> omega
theorem parts_of {L : List Str} (n : Nat) : lens (L.take n) + lens (L.drop n) = lens L ∧ (∀ s, cnts s (L.take n) + cnts s (L.drop n) = cnts s L) ∧ (L.take n).length + (L.drop n).length = L.length :=
  ⟨by rw [← lens_app, List.take_append_drop], fun s => by rw [← cnts_app, List.take_append_drop], by rw [← List.length_append, List.take_append_drop]⟩
theorem sub_of {L M : List Str} (h : List.Sublist L M) : lens L ≤ lens M ∧ (∀ s, cnts s L ≤ cnts s M) ∧ L.length ≤ M.length := by
  refine ⟨(lens_sub h).1, fun s => ?_, h.length_le⟩
  induction h with
  | slnil => exact Nat.le_refl _
  | cons a _ ih => show _ ≤ cnt s a + cnts s _; omega
  | cons_cons a _ ih => show cnt s a + cnts s _ ≤ cnt s a + cnts s _; omega
theorem drop_sub {α : Type} (L : List α) (n m : Nat) (h : n ≤ m) : List.Sublist (L.drop m) (L.drop n) := by
  obtain ⟨k, rfl⟩ := Nat.exists_eq_add_of_le h
  rw [← List.drop_drop]
  exact List.drop_sublist ..
theorem bent_cut (t : Str) (n m : Nat) (h : n ≤ m) : Bd t (Txt.join "\n" ((Txt.split t "\n").take n ++ (Txt.split t "\n").drop m)) := by
  obtain ⟨a1, a2, a3⟩ := parts_of (L := Txt.split t "\n") n
  obtain ⟨b1, b2, b3⟩ := sub_of (drop_sub (Txt.split t "\n") n m h)
  refine bent_join ?_ ?_ ?_ ?_
  · rw [lens_app]; omega
  · rw [List.length_append]; omega
  · rw [cnts_app]; have := a2 32; have := b2 32; omega
  · intro p hp
    refine split_free sepN (x := t) ?_
    rcases List.mem_append.mp hp with hp | hp
    · exact List.mem_of_mem_take hp
    · exact List.mem_of_mem_drop hp
theorem bent_dup (t : Str) (n : Nat) : Bd t (Txt.join "\n" ((Txt.split t "\n").take n ++ ((Txt.split t "\n").drop n).take 1 ++ (Txt.split t "\n").drop n)) := by
  obtain ⟨a1, a2, a3⟩ := parts_of (L := Txt.split t "\n") n
  obtain ⟨b1, b2, b3⟩ := sub_of (List.take_sublist 1 ((Txt.split t "\n").drop n))
  have b4 : (((Txt.split t "\n").drop n).take 1).length ≤ 1 := by rw [List.length_take]; omega
  refine bent_join ?_ ?_ ?_ ?_
  · rw [lens_app, lens_app]; omega
  · rw [List.length_append, List.length_append]; omega
  · rw [cnts_app, cnts_app]; have := a2 32; have := b2 32; omega
  · intro p hp
    refine split_free sepN (x := t) ?_
    rcases List.mem_append.mp hp with hp | hp
    · rcases List.mem_append.mp hp with hp | hp
      · exact List.mem_of_mem_take hp
      · exact List.mem_of_mem_drop (List.mem_of_mem_take hp)
    · exact List.mem_of_mem_drop hp
theorem bent_rev (t : Str) : Bd t (Txt.join "\n" (Txt.split t "\n").reverse) := by
  refine bent_join ?_ ?_ ?_ ?_
  · rw [lens_rev]; omega
  · rw [List.length_reverse]; omega
  · rw [cnts_rev]; omega
  · intro p hp
    exact split_free sepN (x := t) (List.mem_reverse.mp hp)
theorem bent_word {t l w : Str} {n m : Nat} (hl : (Txt.split t "\n")[n]? = some l) (hm : m < (Txt.split l " ").length) (hw : w.length ≤ 5) (w1 : 32 ∉ tl w) (w2 : 10 ∉ tl w) :
    Bd t (Txt.join "\n" ((Txt.split t "\n").take n ++ [Txt.join " " ((Txt.split l " ").take m ++ [w] ++ (Txt.split l " ").drop (m + 1))] ++ (Txt.split t "\n").drop (n + 1))) := by
  generalize hL : Txt.split t "\n" = L at *
  have hmem : l ∈ L := List.mem_of_getElem? hl
  have hl10 : 10 ∉ tl l := split_free sepN (x := t) (by rw [hL]; exact hmem)
  generalize hW : Txt.split l " " = W at *
  have w10 : ∀ p ∈ W, 10 ∉ tl p := by
    have := join_cnt sepS 10 (split_ne sepS l)
    rw [join_split sepS, cnt_free hl10, hW] at this
    simp at this
    intro p hp
    apply free_cnt
    have := cnts_mem (s := 10) hp
    omega
  have w32 : ∀ p ∈ W, 32 ∉ tl p := fun p hp => split_free sepS (x := l) (by rw [hW]; exact hp)
  obtain ⟨a1, a2, a3⟩ := parts_of (L := W) m
  obtain ⟨b1, b2, b3⟩ := sub_of (drop_sub W m (m + 1) (by omega))
  generalize hW2 : W.take m ++ [w] ++ W.drop (m + 1) = W2
  have n2 : W2 ≠ [] := by rw [← hW2]; simp
  have f2 : ∀ p ∈ W2, 10 ∉ tl p ∧ 32 ∉ tl p := by
    intro p hp
    rw [← hW2] at hp
    rcases List.mem_append.mp hp with hp | hp
    · rcases List.mem_append.mp hp with hp | hp
      · exact ⟨w10 p (List.mem_of_mem_take hp), w32 p (List.mem_of_mem_take hp)⟩
      · rw [List.mem_singleton.mp hp]; exact ⟨w2, w1⟩
    · exact ⟨w10 p (List.mem_of_mem_drop hp), w32 p (List.mem_of_mem_drop hp)⟩
  have ll := split_len sepS l
  have ln := split_num sepS l
  rw [hW] at ll ln
  have len2 : W2.length = W.length := by
    rw [← hW2, List.length_append, List.length_append, List.length_take, List.length_drop, List.length_singleton]; omega
  have lens2 : lens W2 ≤ lens W + 5 := by
    rw [← hW2, lens_app, lens_app]
    have : lens [w] = w.length := by simp [lens]
    omega
  have j1 := join_len sepS n2
  have j2 := join_cnt sepS 32 n2
  have j3 := join_cnt sepS 10 n2
  rw [cnts_free fun p hp => (f2 p hp).2] at j2
  rw [cnts_free fun p hp => (f2 p hp).1] at j3
  simp at j2 j3
  generalize Txt.join " " W2 = l2 at *
  have hn : n < L.length := by
    rw [List.getElem?_eq_some_iff] at hl
    exact hl.1
  obtain ⟨c1, c2, c3⟩ := parts_of (L := L) n
  have hd : L.drop n = l :: L.drop (n + 1) := by
    rw [List.drop_eq_getElem_cons hn]
    congr 1
    rw [List.getElem?_eq_getElem hn] at hl
    exact Option.some.inj hl
  have d1 : lens (L.drop n) = l.length + lens (L.drop (n + 1)) := by rw [hd]; rfl
  have d2 : ∀ s, cnts s (L.drop n) = cnt s l + cnts s (L.drop (n + 1)) := fun s => by rw [hd]; rfl
  have d3 : (L.drop n).length = 1 + (L.drop (n + 1)).length := by rw [hd, List.length_cons]; omega
  have e1 : lens [l2] = l2.length := by simp [lens]
  have e2 : ∀ s, cnts s [l2] = cnt s l2 := fun s => by simp [cnts]
  refine bent_join ?_ ?_ ?_ ?_
  · rw [hL, lens_app, lens_app]; omega
  · rw [hL, List.length_append, List.length_append, List.length_singleton]; omega
  · rw [hL, cnts_app, cnts_app, e2]; have := c2 32; have := d2 32; omega
  · intro p hp
    rcases List.mem_append.mp hp with hp | hp
    · rcases List.mem_append.mp hp with hp | hp
      · exact split_free sepN (x := t) (by rw [hL]; exact List.mem_of_mem_take hp)
      · rw [List.mem_singleton.mp hp]; exact free_cnt j3
    · exact split_free sepN (x := t) (by rw [hL]; exact List.mem_of_mem_drop hp)
/-! sizes of a web's text -/
theorem sum_le {α : Type} (f : α → Nat) (m : Nat) : ∀ (l : List α), (∀ x ∈ l, f x ≤ m) → (l.map f).sum ≤ m * l.length
  | [], _ => by simp
  | x :: l, h => by
    have := sum_le f m l fun y hy => h y (List.mem_cons_of_mem _ hy)
    have := h x (List.mem_cons_self ..)
    simp only [List.map_cons, List.sum_cons, List.length_cons, Nat.mul_add, Nat.mul_one]
    omega
theorem text_size {p : Int} {ps : List (Int × Int × Int)} {ls : List Int} (gw : GoodW p ps ls) (hm : ps.length ≤ 50) : (textOf ps ls).length ≤ 750 ∧ cnt 10 (textOf ps ls) ≤ 50 ∧ cnt 32 (textOf ps ls) ≤ 160 := by
  have p7 := gw.p7
  have hl := gw.lean
  have L10 := split_num sepN (textOf ps ls)
  have e : Txt.split (textOf ps ls) "\n" = leanLine ls :: ps.map pullLine := by
    unfold textOf
    refine split_back sepN (by simp) fun q hq => free_cnt ?_
    have q2 : q ∈ (wordsOf ps ls).map (Txt.join " ") := by
      rw [wordsOf, List.map_cons, List.map_map]; exact hq
    obtain ⟨ws, hw, rfl⟩ := List.mem_map.mp q2
    have := join_cnt sepS 10 (words_ne ws hw)
    rw [cnts_free fun w hx => (words_free gw ws hw w hx).2] at this
    simp at this
    exact this
  rw [e] at L10
  simp only [List.length_cons, List.length_map] at L10
  have a1 : (leanLine ls).length ≤ 30 ∧ cnt 32 (leanLine ls) ≤ 7 := by
    have hne : (("leans" : Str) :: ls.map istr) ≠ [] := by simp
    have j1 := join_len sepS hne
    have j2 := join_cnt sepS 32 hne
    have b : ((ls.map istr).map (·.length)).sum ≤ 2 * ls.length := by
      rw [List.map_map]
      exact sum_le _ 2 ls fun i hi => (nums_at (gw.leans i hi)).2.2.1
    have b2 : lens (("leans" : Str) :: ls.map istr) = 5 + ((ls.map istr).map (·.length)).sum := rfl
    have b3 : cnts 32 (("leans" : Str) :: ls.map istr) = 0 := cnts_free fun w hw => (words_free gw _ (List.mem_cons_self ..) w hw).1
    rw [b3] at j2
    simp only [List.length_cons, List.length_map] at j1 j2
    simp at j2
    unfold leanLine
    constructor <;> omega
  have a2 : ∀ t ∈ ps, (pullLine t).length ≤ 13 ∧ cnt 32 (pullLine t) ≤ 3 := by
    intro t ht
    obtain ⟨h1, h2, h3⟩ := small_of gw ht
    have hne : pullWords t ≠ [] := by simp [pullWords]
    have j1 := join_len sepS hne
    have j2 := join_cnt sepS 32 hne
    have b3 : cnts 32 (pullWords t) = 0 := cnts_free fun w hw => (words_free gw _ (List.mem_cons_of_mem _ (List.mem_map.mpr ⟨t, ht, rfl⟩)) w hw).1
    have b2 : lens (pullWords t) = 4 + ((istr t.1).length + ((istr t.2.1).length + ((istr t.2.2).length + 0))) := rfl
    have b4 : (pullWords t).length = 4 := rfl
    have c1 := (nums_at h1).2.2.1
    have c2 := (nums_at h2).2.2.1
    have c3 := (nums_at h3).2.2.1
    rw [b3, b4] at j2
    simp at j2
    unfold pullLine
    constructor <;> omega
  have hne : (leanLine ls :: ps.map pullLine) ≠ [] := by simp
  have j1 := join_len sepN hne
  have j2 := join_cnt sepN 32 hne
  have b1 : lens (leanLine ls :: ps.map pullLine) = (leanLine ls).length + ((ps.map pullLine).map (·.length)).sum := rfl
  have b2 : cnts 32 (leanLine ls :: ps.map pullLine) = cnt 32 (leanLine ls) + ((ps.map pullLine).map (cnt 32)).sum := rfl
  have s1 : ((ps.map pullLine).map (·.length)).sum ≤ 13 * ps.length := by
    rw [List.map_map]; exact sum_le _ 13 ps fun t ht => (a2 t ht).1
  have s2 : ((ps.map pullLine).map (cnt 32)).sum ≤ 3 * ps.length := by
    rw [List.map_map]; exact sum_le _ 3 ps fun t ht => (a2 t ht).2
  simp only [List.length_cons, List.length_map] at j1 j2
  simp at j2
  unfold textOf at L10 ⊢
  refine ⟨?_, ?_, ?_⟩ <;> omega
/-! texts that nobody reads -/
def readD : D → D
  | .str t => readT t
  | _ => .none
theorem joinL_snoc {S : List Nat} : ∀ {ps : List (List Nat)} {q : List Nat}, ps ≠ [] → joinL S (ps ++ [q]) = joinL S ps ++ (S ++ q)
  | [p], q, _ => rfl
  | p :: r :: ps, q, _ => by
    have e : p :: r :: ps ++ [q] = p :: (r :: ps ++ [q]) := rfl
    rw [e, joinL_cons (by simp), joinL_snoc (ps := r :: ps) (by simp), joinL_cons (ps := r :: ps) (by simp)]
    simp only [List.append_assoc]
theorem join_snoc {y : Str} {ps : List Str} {q : Str} (h : ps ≠ []) : Txt.join y (ps ++ [q]) = Txt.join y ps ++ (y ++ q) := by
  rw [join_eq, join_eq]
  apply ext_tl
  rw [tl_join, tl_append, tl_append, tl_join, List.map_append, List.map_singleton, joinL_snoc (by simpa using h)]
theorem join_cons {y q : Str} {ps : List Str} (h : ps ≠ []) : Txt.join y (q :: ps) = q ++ (y ++ Txt.join y ps) := by
  rw [join_eq, join_eq]
  apply ext_tl
  rw [tl_join, tl_append, tl_append, tl_join, List.map_cons, joinL_cons (by simpa using h)]
theorem numsOf_bad {ws : List Str} : numsOf (ws ++ [("" : Str)]) = none := numsOf_none (w := "") (by simp) (by decide +kernel)
theorem readL_head {w0 : Str} {r0 : List Str} {rest : List (List Str)} (h : w0 ≠ "leans") : readL ((w0 :: r0) :: rest) = .none := by
  show (if _ then _ else PyData.none) = _
  rw [if_neg (by simp [h])]
theorem readL_nums {w0 : Str} {r0 : List Str} {rest : List (List Str)} (h : numsOf r0 = none) : readL ((w0 :: r0) :: rest) = .none := by
  show (if _ then _ else PyData.none) = _
  rw [if_neg (by simp [h])]
theorem readL_pull {w : List Str} {rest : List (List Str)} {x : List Str} (hx : x ∈ rest) (h : isPullL x = false) : readL (w :: rest) = .none := by
  cases w with
  | nil => rfl
  | cons w0 r0 =>
    show (if _ then _ else PyData.none) = _
    rw [if_neg]
    intro q
    simp only [Bool.and_eq_true, List.all_eq_true] at q
    have := q.1.2 x hx
    rw [h] at this
    cases this
theorem readL_fit {w0 : Str} {r0 : List Str} {rest : List (List Str)} (h : fitsWeb (foundOf r0 rest) = false) : readL ((w0 :: r0) :: rest) = .none := by
  show (if _ then _ else PyData.none) = _
  rw [if_neg (by simp [h])]
section
variable {p : Int} {ps : List (Int × Int × Int)} {ls : List Int}
theorem odd_snoc (gw : GoodW p ps ls) {ws : List Str} (h1 : ws ≠ []) (h2 : ∀ w ∈ ws, 32 ∉ tl w ∧ 10 ∉ tl w) : linesOf (textOf ps ls ++ ("\n" ++ Txt.join " " ws)) = wordsOf ps ls ++ [ws] := by
  have e : textOf ps ls ++ ("\n" ++ Txt.join " " ws) = Txt.join "\n" ((wordsOf ps ls ++ [ws]).map (Txt.join " ")) := by
    rw [List.map_append, List.map_singleton, join_snoc (by simp [wordsOf]), ← textOf_words]
  rw [e]
  refine lines_join (by simp) (fun x hx => ?_) fun x hx => ?_
  · rcases List.mem_append.mp hx with hx | hx
    · exact words_ne x hx
    · rw [List.mem_singleton.mp hx]; exact h1
  · rcases List.mem_append.mp hx with hx | hx
    · exact words_free gw x hx
    · rw [List.mem_singleton.mp hx]; exact h2
theorem odd1 (gw : GoodW p ps ls) : readT (textOf ps ls ++ "\n") = .none := by
  have e : textOf ps ls ++ "\n" = textOf ps ls ++ ("\n" ++ Txt.join " " [("" : Str)]) := by
    congr 1
  unfold readT
  rw [e, odd_snoc gw (by simp) (by intro w hw; rw [List.mem_singleton.mp hw]; decide +kernel)]
  exact readL_pull (x := [("" : Str)]) (by simp) (by decide +kernel)
theorem odd2 (gw : GoodW p ps ls) : readT (" " ++ textOf ps ls) = .none := by
  have e : " " ++ textOf ps ls = Txt.join "\n" (((("" : Str) :: "leans" :: ls.map istr) :: ps.map pullWords).map (Txt.join " ")) := by
    have e1 : Txt.join " " (("" : Str) :: "leans" :: ls.map istr) = " " ++ leanLine ls := by
      rw [join_cons (by simp)]
      apply ext_tl
      rw [tl_append, tl_append, tl_append]
      rfl
    have e2 : (ps.map pullWords).map (Txt.join " ") = ps.map pullLine := by rw [List.map_map]; rfl
    rw [List.map_cons, e1, e2]
    unfold textOf
    cases ps with
    | nil => rfl
    | cons q qs =>
      rw [join_cons (by simp), join_cons (by simp)]
      apply ext_tl
      simp only [tl_append, List.append_assoc]
  unfold readT
  rw [e, lines_join (by simp)]
  · exact readL_head (by decide +kernel)
  · intro x hx
    rcases List.mem_cons.mp hx with rfl | hx
    · simp
    · exact words_ne (ls := ls) x (List.mem_cons_of_mem _ hx)
  · intro x hx w hw
    rcases List.mem_cons.mp hx with rfl | hx
    · rcases List.mem_cons.mp hw with rfl | hw
      · decide +kernel
      · exact words_free gw _ (List.mem_cons_self ..) w hw
    · exact words_free gw x (List.mem_cons_of_mem _ hx) w hw
theorem odd3 (gw : GoodW p ps ls) : readT ("\n" ++ textOf ps ls) = .none := by
  have e : "\n" ++ textOf ps ls = Txt.join "\n" (([("" : Str)] :: wordsOf ps ls).map (Txt.join " ")) := by
    rw [List.map_cons, join_cons (by simp [wordsOf]), ← textOf_words]
    apply ext_tl
    rw [tl_append, tl_append, tl_append]
    rfl
  unfold readT
  rw [e, lines_join (by simp)]
  · exact readL_head (by decide +kernel)
  · intro x hx
    rcases List.mem_cons.mp hx with rfl | hx
    · simp
    · exact words_ne x hx
  · intro x hx w hw
    rcases List.mem_cons.mp hx with rfl | hx
    · rw [List.mem_singleton.mp hw]; decide +kernel
    · exact words_free gw x hx w hw
theorem odd4 (gw : GoodW p ps ls) : readT (textOf ps ls ++ "\npull 0 0 1") = .none := by
  have e : textOf ps ls ++ "\npull 0 0 1" = textOf ps ls ++ ("\n" ++ Txt.join " " (pullWords (0, 0, 1))) := by
    congr 1
  unfold readT
  rw [e, odd_snoc gw (by simp [pullWords]) (by
    intro w hw
    have : (pullWords (0, 0, 1)).all (fun w => !(tl w).contains 32 && !(tl w).contains 10) = true := by decide +kernel
    have := List.all_eq_true.mp this w hw
    simpa using this)]
  refine readL_fit ?_
  unfold foundOf
  rw [List.length_map]
  show fitsWeb (.tuple [.int ls.length, .tuple ((ps.map pullWords ++ [pullWords (0, 0, 1)]).map fun ws => numD ws.tail), numD (ls.map istr)]) = false
  have e1 : numD (ls.map istr) = .tuple (ls.map .int) := by
    unfold numD
    rw [numsOf_map gw.leans]
  rw [e1, List.map_append, List.map_singleton]
  have e2 : numD (pullWords (0, 0, 1)).tail = .tuple [.int 0, .int 0, .int 1] := by
    unfold numD
    rw [pull_nums (t := (0, 0, 1)) (by decide)]; rfl
  rw [e2]
  have e3 : fitsPull ls.length (.tuple [.int 0, .int 0, .int 1]) = false := by
    simp [fitsPull, PyData.eqv]
  simp only [fitsWeb, List.all_append, List.all_cons, e3, Bool.false_and, Bool.and_false]
theorem odd5 (gw : GoodW p ps ls) : readT (textOf ps ls ++ " ") = .none := by
  have sn : ∀ ws : List Str, ws ≠ [] → Txt.join " " (ws ++ [("" : Str)]) = Txt.join " " ws ++ " " := fun ws h => by
    rw [join_snoc h]; congr 1
  rcases List.eq_nil_or_concat ps with rfl | ⟨qs, q, rfl⟩
  · have e : textOf [] ls ++ " " = Txt.join "\n" ([((("leans" : Str) :: ls.map istr) ++ [("" : Str)])].map (Txt.join " ")) := by
      rw [List.map_singleton, sn _ (by simp)]; rfl
    unfold readT
    rw [e, lines_join (by simp)]
    · exact readL_nums numsOf_bad
    · intro x hx; rw [List.mem_singleton.mp hx]; simp
    · intro x hx w hw
      rw [List.mem_singleton.mp hx] at hw
      rcases List.mem_append.mp hw with hw | hw
      · exact words_free gw _ (List.mem_cons_self ..) w hw
      · rw [List.mem_singleton.mp hw]; decide +kernel
  · have hw1 : wordsOf (qs ++ [q]) ls = ((("leans" : Str) :: ls.map istr) :: qs.map pullWords) ++ [pullWords q] := by
      unfold wordsOf; rw [List.map_append, List.map_singleton]; rfl
    have e : textOf (qs ++ [q]) ls ++ " " = Txt.join "\n" ((((("leans" : Str) :: ls.map istr) :: qs.map pullWords) ++ [pullWords q ++ [("" : Str)]]).map (Txt.join " ")) := by
      rw [textOf_words, hw1, List.map_append, List.map_append, List.map_singleton, List.map_singleton, join_snoc (by simp), join_snoc (by simp), sn _ (by simp [pullWords])]
      apply ext_tl
      simp only [tl_append, List.append_assoc]
    unfold readT
    rw [List.concat_eq_append] at *
    rw [e, lines_join (by simp)]
    · exact readL_pull (x := pullWords q ++ [("" : Str)]) (by simp) (by
        show (decide _ && (numsOf (([istr q.1, istr q.2.1, istr q.2.2] : List Str) ++ [("" : Str)])).isSome) = false
        rw [numsOf_bad]; simp)
    · intro x hx
      rcases List.mem_append.mp hx with hx | hx
      · exact words_ne (ps := qs ++ [q]) (ls := ls) x (by rw [hw1]; exact List.mem_append_left _ hx)
      · rw [List.mem_singleton.mp hx]; simp
    · intro x hx w hw
      rcases List.mem_append.mp hx with hx | hx
      · exact words_free gw x (by rw [hw1]; exact List.mem_append_left _ hx) w hw
      · rw [List.mem_singleton.mp hx] at hw
        rcases List.mem_append.mp hw with hw | hw
        · exact words_free gw _ (by rw [hw1]; simp) w hw
        · rw [List.mem_singleton.mp hw]; decide +kernel
end
def strG : D → Option D
  | .int i => some (.str (istr i))
  | _ => none
theorem strG_map (ls : List Int) : (ls.map PyData.int).filterMap strG = (ls.map istr).map PyData.str := by
  rw [List.filterMap_map, List.map_map]
  have : (strG ∘ PyData.int) = fun i => some ((PyData.str ∘ istr) i) := rfl
  rw [this, fmap_some]
def lineG : D → Option D
  | .tuple [.int a, .int b, .int c] => some (.str (pullLine (a, b, c)))
  | _ => none
theorem lineG_map (ps : List (Int × Int × Int)) : (ps.map pD).filterMap lineG = (ps.map pullLine).map PyData.str := by
  rw [List.filterMap_map, List.map_map]
  have : (lineG ∘ pD) = fun t => some ((PyData.str ∘ pullLine) t) := rfl
  rw [this, fmap_some]
theorem fline (a b c : Int) : Str.empty ++ Str.ofString "pull " ++ Str.ofString (toString a) ++ Str.ofString " " ++ Str.ofString (toString b) ++ Str.ofString " " ++ Str.ofString (toString c) = pullLine (a, b, c) := by
  apply ext_tl
  unfold pullLine pullWords
  rw [join_eq, tl_join]
  simp only [tl_append, List.map_cons, List.map_nil]
  rw [joinL_cons (by simp), joinL_cons (by simp), joinL_cons (by simp)]
  simp only [joinL, istr, List.append_assoc]
  rfl
theorem lens_room {ys : List Str} {y : Str} {m : Nat} (h : ∀ w ∈ ys, w.length ≤ m) (hz : ys.length * m + ys.length * y.length ≤ 16777216) : (ys.map (·.length)).sum + ys.length * y.length ≤ 16777216 := by
  have := sum_le (fun w : Str => w.length) m ys h
  rw [Nat.mul_comm] at this
  omega
theorem lean_room {p : Int} {ps : List (Int × Int × Int)} {ls : List Int} (gw : GoodW p ps ls) : ((("leans" : Str) :: ls.map istr).map (·.length)).sum + (("leans" : Str) :: ls.map istr).length * (Str.ofString " ").length ≤ 16777216 := by
  have h7 := gw.p7
  have hl := gw.lean
  refine lens_room (m := 5) (fun w hw => ?_) ?_
  · rcases List.mem_cons.mp hw with rfl | hw
    · decide +kernel
    · obtain ⟨i, hi, rfl⟩ := List.mem_map.mp hw
      have := (nums_at (gw.leans i hi)).2.2.1
      omega
  · have : (Str.ofString " ").length = 1 := rfl
    rw [this]
    simp only [List.length_cons, List.length_map]
    omega
theorem few {p : Int} {ps : List (Int × Int × Int)} {ls : List Int} (gw : GoodW p ps ls) : ps.length ≤ 50 := by
  have := (web_sm gw).1
  have h2 := (sm_tup.mp ((sm_tup.mp this).2 (.tuple (ps.map pD)) (by simp [webD]))).1
  rwa [List.length_map] at h2
theorem line_len {p : Int} {ps : List (Int × Int × Int)} {ls : List Int} (gw : GoodW p ps ls) : (∀ t ∈ ps, (pullLine t).length ≤ 100) ∧ (leanLine ls).length ≤ 100 := by
  have h := (text_size gw (few gw)).1
  have e : Txt.split (textOf ps ls) "\n" = leanLine ls :: ps.map pullLine := by
    have := lines_text gw
    unfold linesOf wordsOf at this
    have f : ∀ q ∈ leanLine ls :: ps.map pullLine, 10 ∉ tl q := by
      intro q hq
      apply free_cnt
      have q2 : q ∈ (wordsOf ps ls).map (Txt.join " ") := by
        rw [wordsOf, List.map_cons, List.map_map]; exact hq
      obtain ⟨ws, hw, rfl⟩ := List.mem_map.mp q2
      have := join_cnt sepS 10 (words_ne ws hw)
      rw [cnts_free fun w hx => (words_free gw ws hw w hx).2] at this
      simp at this
      exact this
    exact split_back sepN (by simp) f
  have h7 := gw.p7
  have hl := gw.lean
  refine ⟨fun t ht => ?_, ?_⟩
  · obtain ⟨h1, h2, h3⟩ := small_of gw ht
    have j1 := join_len sepS (ps := pullWords t) (by simp [pullWords])
    have b2 : lens (pullWords t) = 4 + ((istr t.1).length + ((istr t.2.1).length + ((istr t.2.2).length + 0))) := rfl
    have b4 : (pullWords t).length = 4 := rfl
    have c1 := (nums_at h1).2.2.1
    have c2 := (nums_at h2).2.2.1
    have c3 := (nums_at h3).2.2.1
    unfold pullLine
    omega
  · have j1 := join_len sepS (ps := ("leans" : Str) :: ls.map istr) (by simp)
    have b : ((ls.map istr).map (·.length)).sum ≤ 2 * ls.length := by
      rw [List.map_map]
      exact sum_le _ 2 ls fun i hi => (nums_at (gw.leans i hi)).2.2.1
    have b2 : lens (("leans" : Str) :: ls.map istr) = 5 + ((ls.map istr).map (·.length)).sum := rfl
    simp only [List.length_cons, List.length_map] at j1
    unfold leanLine
    omega
theorem text_room {p : Int} {ps : List (Int × Int × Int)} {ls : List Int} (gw : GoodW p ps ls) : ((leanLine ls :: ps.map pullLine).map (·.length)).sum + (leanLine ls :: ps.map pullLine).length * (Str.ofString "\n").length ≤ 16777216 := by
  have hf := few gw
  obtain ⟨h1, h2⟩ := line_len gw
  refine lens_room (m := 100) (fun w hw => ?_) ?_
  · rcases List.mem_cons.mp hw with rfl | hw
    · exact h2
    · obtain ⟨t, ht, rfl⟩ := List.mem_map.mp hw
      exact h1 t ht
  · have : (Str.ofString "\n").length = 1 := rfl
    rw [this]
    simp only [List.length_cons, List.length_map]
    omega
def F_as_text : FS := FP fun cs d => ∃ (p : Int) (ps : List (Int × Int × Int)) (ls : List Int), cs = [.dat (webD p ps ls)] ∧ GoodW p ps ls ∧ d = .str (textOf ps ls)
theorem m_as_text : MonoF F_as_text := FP.mono _
abbrev F_law_text := F_as_text
theorem m_law_text : MonoF F_law_text := FP.mono _
def F_web_text (K : PySem.W.Frag) : FS := FE K fun cs r => ∃ W, cs = [.dat W] ∧ okS W = true ∧ onWeb W r fun p ps ls => r = .ok (.dat (.str (textOf ps ls)))
theorem m_web_text : MonoF (F_web_text K) := FE.mono K _
def figOf (w : Str) : Str := if PyData.eqv (.str (cutS w none (some 1))) (.str "-") = true then cutS w (some 1) none else w
theorem str_tl {x y : Str} : x = y ↔ tl x = tl y := ⟨fun h => by rw [h], ext_tl⟩
theorem tlD (n : Nat) : True := trivial
theorem is_num {w : Str} : (numOf w).isSome = (decide (((figOf w).length : Int) = 1) && ((tl (figOf w)).all fun c => decide (c ∈ TL.tl "0123456789")) && !PyData.eqv (.str w) (.str "-0")) := by
  have e1 : tl ("-" : Str) = [45] := by decide +kernel
  have e2 : tl ("-0" : Str) = [45, 48] := by decide +kernel
  have e3 : tl ("0123456789" : Str) = [48, 49, 50, 51, 52, 53, 54, 55, 56, 57] := by decide +kernel
  have f : tl (figOf w) = if (tl w).take 1 = [45] then (tl w).drop 1 else tl w := by
    unfold figOf
    rw [eqv_str]
    by_cases h : (tl w).take 1 = [45]
    · have q : cutS w none (some 1) = ("-" : Str) := by rw [str_tl, cutS_to (by omega), e1]; exact h
      rw [q, if_pos h, if_pos (by simp), cutS_from (by omega)]; rfl
    · have q : ¬ cutS w none (some 1) = ("-" : Str) := by rw [str_tl, cutS_to (by omega), e1]; exact h
      rw [if_neg h, if_neg (by simpa using q)]
  have lf : ((figOf w).length : Int) = ((tl (figOf w)).length : Int) := by rw [len_tl]
  rw [lf, f, e3, eqv_str]
  have e4 : decide (w = ("-0" : Str)) = decide (tl w = [45, 48]) := by rw [Bool.eq_iff_iff, decide_eq_true_eq, decide_eq_true_eq, str_tl, e2]
  have e5 : decide (w = Str.ofString "-0") = decide (tl w = [45, 48]) := e4
  rw [e5]
  unfold numOf
  generalize tl w = l
  match l with
  | [] => rfl
  | [c] =>
    by_cases hc : c = 45
    · subst hc; rfl
    · have : ¬ (([c] : List Nat).take 1 = [45]) := by simp [hc]
      rw [if_neg this]
      simp only [numL?, List.length_singleton, List.all_cons, List.all_nil, Bool.and_true]
      rw [Bool.eq_iff_iff]
      simp
      omega
  | [a, c] =>
    by_cases ha : a = 45
    · subst ha
      simp only [show List.take 1 [45, c] = [45] from rfl, if_true]
      simp only [numL?, true_and, List.drop_succ_cons, List.drop_zero, List.length_singleton, List.all_cons, List.all_nil, Bool.and_true]
      rw [Bool.eq_iff_iff]
      simp
      omega
    · have : ¬ (([a, c] : List Nat).take 1 = [45]) := by simp [ha]
      rw [if_neg this]
      simp [numL?, ha]
  | a :: b :: c :: r =>
    have h1 : numL? (a :: b :: c :: r) = none := rfl
    rw [h1]
    symm
    have : ∀ x y : Bool, (decide (((if (a :: b :: c :: r).take 1 = [45] then (a :: b :: c :: r).drop 1 else a :: b :: c :: r).length : Int) = 1) && x && y) = (none : Option Int).isSome := by
      intro x y
      split
      · have : ¬ ((((a :: b :: c :: r).drop 1).length : Int) = 1) := by simp; omega
        rw [decide_eq_false this]; rfl
      · have : ¬ (((a :: b :: c :: r).length : Int) = 1) := by simp; omega
        rw [decide_eq_false this]; rfl
    exact this _ _
theorem one_sign {z : Str} (h : decide ((z.length : Int) = 1) = true) : ∃ c, z = ⟨#[c]⟩ ∧ tl z = [c] := by
  have h := of_decide_eq_true h
  rw [len_tl] at h
  match e : tl z with
  | [] => rw [e] at h; simp at h
  | [c] => exact ⟨c, ext_tl (by rw [e]), rfl⟩
  | a :: b :: r => rw [e] at h; simp at h; omega
theorem fig_len {w : Str} (h : w.length ≤ 100000) : (figOf w).length ≤ sizeLine := by
  rw [sizeLine_eq]
  unfold figOf
  split
  · have := cutS_length w (some 1) none; omega
  · omega
def F_is_number : FS := FP fun cs d => ∃ w : Str, cs = [.dat (.str w)] ∧ w.length ≤ 100000 ∧ d = .bool (numOf w).isSome
theorem m_is_number : MonoF F_is_number := FP.mono _
def isNumG : D → Option D
  | .str w => some (.bool (numOf w).isSome)
  | _ => none
def intG : D → Option D
  | .str w => (numOf w).map .int
  | _ => none
theorem isNumG_map (ws : List Str) : (ws.map PyData.str).filterMap isNumG = (ws.map fun w => (numOf w).isSome).map PyData.bool := by
  rw [List.filterMap_map, List.map_map]
  have : (isNumG ∘ PyData.str) = fun w => some ((PyData.bool ∘ fun w => (numOf w).isSome) w) := rfl
  rw [this, fmap_some]
theorem intG_map : ∀ {ws : List Str} {is : List Int}, numsOf ws = some is → (ws.map PyData.str).filterMap intG = is.map PyData.int
  | [], is, h => by cases h; rfl
  | w :: ws, is, h => by
    unfold numsOf at h
    split at h
    · rename_i i js e1 e2
      cases h
      have : intG (.str w) = some (.int i) := by
        show (numOf w).map PyData.int = _
        rw [e1]; rfl
      rw [List.map_cons, List.filterMap_cons, this]
      exact congrArg (PyData.int i :: ·) (intG_map e2)
    · cases h
theorem numD_some {ws : List Str} {is : List Int} (h : numsOf ws = some is) : numD ws = .tuple (is.map .int) := by
  unfold numD; rw [h]
theorem numD_none {ws : List Str} (h : numsOf ws = none) : numD ws = .none := by
  unfold numD; rw [h]
theorem nums_all {ws : List Str} : ((ws.map fun w => (numOf w).isSome).all id) = (numsOf ws).isSome := by
  rw [numsOf_isSome, List.all_map]; rfl
def F_numbers_in : FS := FP fun cs d => ∃ ws : List Str, cs = [.dat (.list (ws.map .str))] ∧ ws.length ≤ 100000 ∧ (∀ w ∈ ws, w.length ≤ 100000) ∧ d = numD ws
theorem m_numbers_in : MonoF F_numbers_in := FP.mono _
abbrev F_law_numbers := F_numbers_in
theorem m_law_numbers : MonoF F_law_numbers := FP.mono _
theorem pull_room {t : Int × Int × Int} (h : (-9 ≤ t.1 ∧ t.1 ≤ 9) ∧ (-9 ≤ t.2.1 ∧ t.2.1 ≤ 9) ∧ (-9 ≤ t.2.2 ∧ t.2.2 ≤ 9)) : ((pullWords t).map (·.length)).sum + (pullWords t).length * (Str.ofString " ").length ≤ 16777216 := by
  refine lens_room (m := 5) (fun w hw => ?_) (Nat.le_of_ble_eq_true rfl)
  obtain ⟨h1, h2, h3⟩ := h
  simp only [pullWords, List.mem_cons, List.not_mem_nil, or_false] at hw
  have c1 := (nums_at h1).2.2.1
  have c2 := (nums_at h2).2.2.1
  have c3 := (nums_at h3).2.2.1
  rcases hw with rfl | rfl | rfl | rfl
  · decide +kernel
  all_goals omega
/-! reading -/
structure TxOk (t : Str) : Prop where
  len : t.length ≤ 5000
  nl : cnt 10 t ≤ 60
  sp : cnt 32 t ≤ 900
def wsD (ws : List Str) : D := .list (ws.map .str)
def splitG : D → Option D
  | .str l => some (wsD (Txt.split l " "))
  | _ => none
theorem splitG_map (t : Str) : ((Txt.split t "\n").map PyData.str).filterMap splitG = (linesOf t).map wsD := by
  unfold linesOf
  rw [List.filterMap_map, List.map_map]
  have : (splitG ∘ PyData.str) = fun l => some ((wsD ∘ fun l => Txt.split l " ") l) := rfl
  rw [this, fmap_some]
theorem lines_first (t : Str) : ∃ w0 r0 rest, linesOf t = (w0 :: r0) :: rest := by
  cases e : linesOf t with
  | nil => exact absurd e (lines_ne t)
  | cons ws rest =>
    cases ws with
    | nil => exact absurd rfl (lines_words (t := t) (by rw [e]; exact List.mem_cons_self ..))
    | cons w r => exact ⟨w, r, rest, rfl⟩
theorem lines_num (t : Str) : (linesOf t).length = cnt 10 t + 1 := by
  unfold linesOf
  rw [List.length_map, split_num sepN]
theorem lines_size {t : Str} (ok : TxOk t) {ws : List Str} (h : ws ∈ linesOf t) : ws.length ≤ 901 ∧ ∀ w ∈ ws, w.length ≤ 100000 := by
  obtain ⟨l, hl, rfl⟩ := List.mem_map.mp h
  have h1 := split_mem_len sepN hl
  have h2 := cnts_mem (s := 32) hl
  rw [split_sp] at h2
  have h3 := ok.sp
  have h4 := ok.len
  refine ⟨by rw [split_num sepS]; omega, fun w hw => ?_⟩
  have := split_mem_len sepS hw
  omega
theorem cut_tail (d : D) (ds : List D) : DL.cutD (d :: ds) (some 1) none = ds := by
  rw [cut_from (by omega)]; rfl
theorem numD_len {ws : List Str} (h : numsOf ws ≠ none) : dLen (numD ws) = some ws.length := by
  cases e : numsOf ws with
  | none => exact absurd e h
  | some is =>
    rw [numD_some e]
    have := (numsOf_some e).1
    have q : ws.length = is.length := by rw [this, List.length_map]
    rw [q]
    show some (is.map PyData.int).length = _
    rw [List.length_map]
theorem numD_isNone {ws : List Str} : isNone (numD ws) = (numsOf ws).isNone := by
  cases e : numsOf ws with
  | none => rw [numD_none e]; rfl
  | some is => rw [numD_some e]; rfl
theorem numD_plain (ws : List Str) : (numD ws).plain = true := by
  cases e : numsOf ws with
  | none => rw [numD_none e]; rfl
  | some is => rw [numD_some e]; exact plain_ints is
theorem numDs_plain : ∀ rest : List (List Str), PyData.plainAll (rest.map fun ws => numD ws.tail) = true
  | [] => rfl
  | ws :: rest => by
    show (PyData.plain (numD ws.tail) && PyData.plainAll (rest.map fun ws => numD ws.tail)) = true
    rw [numD_plain, numDs_plain]; rfl
theorem found_wb {r0 : List Str} {rest : List (List Str)} (h1 : r0.length ≤ 901) (h2 : rest.length ≤ 60) : OkWb (foundOf r0 rest) := by
  refine ⟨?_, fun a ps c e => ?_, fun a b ls e => ?_⟩
  · show (true && (PyData.plainAll (rest.map fun ws => numD ws.tail) && (PyData.plain (numD r0) && true))) = true
    rw [numDs_plain, numD_plain]; rfl
  · simp only [foundOf, PyData.tuple.injEq, List.cons.injEq] at e
    rw [← e.2.1, List.length_map]
    omega
  · simp only [foundOf, PyData.tuple.injEq, List.cons.injEq, and_true] at e
    obtain ⟨is, q1, q2⟩ := numD_tup e.2.2
    have q3 := (numsOf_some q1).1
    rw [q2, List.length_map]
    have : r0.length = is.length := by rw [q3, List.length_map]
    omega
theorem found_okS {r0 : List Str} {rest : List (List Str)} (h1 : r0.length ≤ 901) (h2 : rest.length ≤ 60) : okS (foundOf r0 rest) = true := by
  have q : ok1 (numD r0) = true := by
    cases e : numsOf r0 with
    | none => rw [numD_none e]; rfl
    | some is =>
      rw [numD_some e]
      have q3 := (numsOf_some e).1
      have : r0.length = is.length := by rw [q3, List.length_map]
      refine decide_eq_true ?_
      rw [List.length_map]
      omega
  have q2 : ok1 (.tuple (rest.map fun ws => numD ws.tail)) = true := decide_eq_true (by rw [List.length_map]; omega)
  simp only [foundOf, okS, List.all_cons, List.all_nil, q, q2, Bool.and_true, Bool.and_eq_true, decide_eq_true_eq]
  exact ⟨by simp, rfl⟩
def F_law_read : FS := FP fun cs d => ∃ t : Str, cs = [.dat (.str t)] ∧ TxOk t ∧ d = readT t
theorem m_law_read : MonoF F_law_read := FP.mono _
theorem read_of {t w0 : Str} {r0 : List Str} {rest : List (List Str)} (e : linesOf t = (w0 :: r0) :: rest) : readT t = readL ((w0 :: r0) :: rest) := by
  unfold readT; rw [e]
theorem read_yes {w0 : Str} {r0 : List Str} {rest : List (List Str)} (h0 : w0 = "leans") (h1 : numsOf r0 ≠ none) (h2 : rest.all isPullL = true) (h3 : fitsWeb (foundOf r0 rest) = true) : readL ((w0 :: r0) :: rest) = foundOf r0 rest := by
  show (if _ then _ else PyData.none) = _
  rw [if_pos]
  simp only [Bool.and_eq_true, decide_eq_true_eq]
  refine ⟨⟨⟨h0, ?_⟩, h2⟩, h3⟩
  cases e : numsOf r0 with
  | none => exact absurd e h1
  | some _ => rfl
/-- known.index -/
def knownN : List D := (numsI.map istr).map .str
theorem known_any (w : Str) : (knownN.any fun z => PyData.eqv z (.str w)) = (numOf w).isSome := by
  rw [numOf_iff]
  unfold knownN
  rw [List.any_map, List.any_map]
  congr 1
  funext i
  show PyData.eqv (.str (istr i)) (.str w) = _
  rw [eqv_str, Bool.eq_iff_iff, decide_eq_true_eq, decide_eq_true_eq]
  exact eq_comm
theorem known_ok : (numsI.all fun i => decide (numsI[(i + 9).toNat]? = some i) && (List.range (i + 9).toNat).all fun m => match numsI[m]? with
    | some j => decide (j ≠ i)
    | none => false) = true := by decide +kernel
theorem known_at {i : Int} (h : -9 ≤ i ∧ i ≤ 9) : knownN[(i + 9).toNat]? = some (.str (istr i)) := by
  have := List.all_eq_true.mp known_ok i (numsI_mem.mpr h)
  simp only [Bool.and_eq_true, decide_eq_true_eq] at this
  unfold knownN
  rw [List.getElem?_map, List.getElem?_map, this.1]; rfl
theorem known_before {i : Int} (h : -9 ≤ i ∧ i ≤ 9) : ∀ (m : Nat) (z' : D), m < (i + 9).toNat → knownN[m]? = some z' → PyData.eqv z' (.str (istr i)) = false := by
  intro m z' hm hz
  have := List.all_eq_true.mp known_ok i (numsI_mem.mpr h)
  simp only [Bool.and_eq_true, decide_eq_true_eq] at this
  have q := List.all_eq_true.mp this.2 m (List.mem_range.mpr hm)
  unfold knownN at hz
  rw [List.getElem?_map, List.getElem?_map] at hz
  cases e : numsI[m]? with
  | none => rw [e] at hz; cases hz
  | some j =>
    rw [e] at hz q
    cases hz
    have q : j ≠ i := of_decide_eq_true q
    rw [eqv_str]
    refine decide_eq_false fun e2 => q ?_
    have hj : -9 ≤ j ∧ j ≤ 9 := numsI_mem.mp (List.mem_of_getElem? e)
    exact istr_inj e2 hj h
theorem known_sh : SeqAt.shaped (.list knownN) = true := by decide +kernel
theorem istr_sh {i : Int} (h : -9 ≤ i ∧ i ≤ 9) : SeqAt.shaped (.str (istr i)) = true := by
  have : (numsI.all fun i => SeqAt.shaped (.str (istr i))) = true := by decide +kernel
  exact List.all_eq_true.mp this i (numsI_mem.mpr h)
def isKnown : D → Bool
  | .str w => (numOf w).isSome
  | _ => true
def notKnown (d : D) : Option D := if isKnown d then none else some d
theorem known_all (ws : List Str) : (ws.map PyData.str).all isKnown = (numsOf ws).isSome := by
  rw [numsOf_isSome, List.all_map]; rfl
theorem words_plain : ∀ ws : List Str, PyData.plainAll (ws.map PyData.str) = true
  | [] => rfl
  | _ :: ws => words_plain ws
theorem known_rng : (rng (-9) 19).filterMap strG = knownN := by
  have : rng (-9) 19 = numsI.map PyData.int := by rfl
  rw [this, strG_map]; rfl
def TxD (v : D) : Prop := ∀ t, v = .str t → TxOk t
def F_web_in (K : PySem.W.Frag) : FS := FE K fun cs r => ∃ v, cs = [.dat v] ∧ TxD v ∧ ((readD v = .none ∧ r = .error "InvalidText") ∨ (readD v ≠ .none ∧ r = .ok (.dat (readD v))))
theorem m_web_in : MonoF (F_web_in K) := FE.mono K _
abbrev F_read_web := F_web_in
theorem m_read_web : MonoF (F_web_in K) := FE.mono K _
theorem rd_bad {v : D} {r : Except Str Rv} (h : (readD v = .none ∧ r = .error "InvalidText") ∨ (readD v ≠ .none ∧ r = .ok (.dat (readD v)))) (e : readD v = .none) : r = .error "InvalidText" := by
  rcases h with ⟨_, h⟩ | ⟨h, _⟩
  · exact h
  · exact absurd e h
theorem rd_good {v X : D} {r : Except Str Rv} (h : (readD v = .none ∧ r = .error "InvalidText") ∨ (readD v ≠ .none ∧ r = .ok (.dat (readD v)))) (e : readD v = X) (hX : X ≠ .none) : r = .ok (.dat X) := by
  rcases h with ⟨h, _⟩ | ⟨_, h⟩
  · exact absurd (e ▸ h) hX
  · rw [← e]; exact h
def strOf : D → Option Str
  | .str w => some w
  | _ => none
def numTG : D → Option D
  | .list (_ :: ds) => some (numD (ds.filterMap strOf))
  | _ => none
theorem strs_back (ws : List Str) : (ws.map PyData.str).filterMap strOf = ws := by
  rw [List.filterMap_map]
  have : (strOf ∘ PyData.str) = fun w => some (id w) := rfl
  rw [this, fmap_some, List.map_id]
theorem numTG_cons (w : Str) (ws : List Str) : numTG (wsD (w :: ws)) = some (numD ws) := by
  show some (numD _) = _
  rw [strs_back]
theorem numTG_map : ∀ {rest : List (List Str)}, (∀ ws ∈ rest, ws ≠ []) → (rest.map wsD).filterMap numTG = rest.map fun ws => numD ws.tail
  | [], _ => rfl
  | ws :: rest, h => by
    obtain ⟨w, r, rfl⟩ : ∃ w r, ws = w :: r := by
      cases ws with
      | nil => exact absurd rfl (h [] (List.mem_cons_self ..))
      | cons w r => exact ⟨w, r, rfl⟩
    rw [List.map_cons, List.filterMap_cons, numTG_cons]
    show numD r :: _ = numD r :: _
    rw [numTG_map fun x hx => h x (List.mem_cons_of_mem _ hx)]
theorem none_in {rest : List (List Str)} : ((rest.map fun ws => numD ws.tail).any fun z => PyData.eqv z .none) = rest.any fun ws => (numsOf ws.tail).isNone := by
  rw [List.any_map]
  congr 1
  funext ws
  show PyData.eqv (numD ws.tail) .none = _
  cases e : numsOf ws.tail with
  | none => rw [numD_none e]; rfl
  | some is => rw [numD_some e]; rfl
theorem read_noNum {w0 : Str} {r0 : List Str} {rest : List (List Str)} (h : rest.any (fun ws => (numsOf ws.tail).isNone) = true) : readL ((w0 :: r0) :: rest) = .none := by
  obtain ⟨ws, h1, h2⟩ := List.any_eq_true.mp h
  refine readL_pull h1 ?_
  have : numsOf ws.tail = none := by simpa using h2
  simp [isPullL, this]
theorem web_ne {p : Int} {ps : List (Int × Int × Int)} {ls : List Int} : webD p ps ls ≠ .none := by
  intro h; cases h
def F_law_bent8 : FS := fun cs kk _ => ∃ (a : Addr) (ns : List Int) (t : Str), cs = [bagC a ns, .dat (.str t)] ∧ t.length ≤ 10000 ∧ ∀ (t' : Str) (ms : List Int), Bd t t' → kk (.dat (.str t')) [bagC a ms, .dat (.str t)]
theorem m_law_bent8 : MonoF F_law_bent8 := fun cs kk kk' xx xx' ⟨a, ns, t, e, h1, h⟩ ff gg => ⟨a, ns, t, e, h1, fun t' ms q => ff _ _ (h t' ms q)⟩
theorem room_bd {t : Str} {ys : List Str} (h : Bd t (Txt.join "\n" ys)) (ht : t.length ≤ 10000) : (ys.map (·.length)).sum + ys.length * (Str.ofString "\n").length ≤ 16777216 := by
  have e : (Str.ofString "\n").length = 1 := rfl
  rw [e]
  by_cases hy : ys = []
  · subst hy; exact Nat.zero_le _
  · have j := join_len sepN hy
    have b := h.len
    have q : lens ys = (ys.map (·.length)).sum := rfl
    omega
theorem room_words {t l w : Str} {n m : Nat} (hl : (Txt.split t "\n")[n]? = some l) (hw : w.length ≤ 5) (ht : t.length ≤ 10000) : (((Txt.split l " ").take m ++ [w] ++ (Txt.split l " ").drop (m + 1)).map (·.length)).sum + ((Txt.split l " ").take m ++ [w] ++ (Txt.split l " ").drop (m + 1)).length * (Str.ofString " ").length ≤ 16777216 := by
  have e : (Str.ofString " ").length = 1 := rfl
  rw [e]
  have h1 := split_mem_len sepN (x := t) (List.mem_of_getElem? hl)
  have h2 := split_len sepS l
  obtain ⟨a1, a2, a3⟩ := parts_of (L := Txt.split l " ") m
  obtain ⟨b1, b2, b3⟩ := sub_of (drop_sub (Txt.split l " ") m (m + 1) (by omega))
  have q : lens ((Txt.split l " ").take m ++ [w] ++ (Txt.split l " ").drop (m + 1)) = (((Txt.split l " ").take m ++ [w] ++ (Txt.split l " ").drop (m + 1)).map (·.length)).sum := rfl
  rw [← q, lens_app, lens_app]
  have : lens [w] = w.length := by simp [lens]
  rw [List.length_append, List.length_append, List.length_singleton]
  omega
theorem add_sz {x y : List D} {n m : Nat} (hx : x.length ≤ n) (hy : y.length ≤ m) (h : n + m ≤ 16777216) : x.length + y.length ≤ sizeLine := by
  rw [sizeLine_eq]; omega
theorem app_sz {x y : List D} {n m : Nat} (hx : x.length ≤ n) (hy : y.length ≤ m) : (x ++ y).length ≤ n + m := by
  rw [List.length_append]; omega
theorem split_few {t : Str} (h : t.length ≤ 10000) : 0 < ((Txt.split t "\n").map PyData.str).length ∧ ((Txt.split t "\n").map PyData.str).length ≤ 10001 := by
  have := split_len sepN t
  have := List.length_pos_iff.mpr (split_ne sepN t)
  rw [List.length_map]
  omega
theorem split_few2 {l : Str} (h : l.length ≤ 10000) : 0 < ((Txt.split l " ").map PyData.str).length ∧ ((Txt.split l " ").map PyData.str).length ≤ 10001 := by
  have := split_len sepS l
  have := List.length_pos_iff.mpr (split_ne sepS l)
  rw [List.length_map]
  omega
theorem map_cutTo (L : List Str) {x : Int} (h : 0 ≤ x) : DL.cutD (L.map PyData.str) none (some x) = (L.take x.toNat).map PyData.str := by
  rw [cut_to h, List.map_take]
theorem map_cutFrom (L : List Str) {x : Int} (h : 0 ≤ x) : DL.cutD (L.map PyData.str) (some x) none = (L.drop x.toNat).map PyData.str := by
  rw [cut_from h, List.map_drop]
theorem map_cutOne (L : List Str) {x : Int} (h : 0 ≤ x) : DL.cutD (L.map PyData.str) (some x) (some (x + 1)) = ((L.drop x.toNat).take 1).map PyData.str := by
  unfold DL.cutD
  rw [sIx_some h, sIx_some (by omega), List.map_take, List.map_drop, List.length_map]
  have e : (x + 1).toNat = x.toNat + 1 := by omega
  rw [e]
  by_cases q : x.toNat < L.length
  · rw [Nat.min_eq_left (by omega), Nat.min_eq_left (by omega)]
    congr 1; omega
  · rw [Nat.min_eq_right (by omega), Nat.min_eq_right (by omega), List.drop_of_length_le (by rw [List.length_map]; omega), List.drop_of_length_le (by rw [List.length_map]; omega)]
    simp
theorem bent_sign {d : D} (m : d ∈ [PyData.str " ", .str "0", .str "1", .str "-", .str "\n", .str "x", .str "9", .str "+"]) : ∃ z : Str, d = .str z ∧ z.length ≤ 1 := by
  simp only [List.mem_cons, List.not_mem_nil, or_false] at m
  rcases m with rfl | rfl | rfl | rfl | rfl | rfl | rfl | rfl <;> exact ⟨_, rfl, by decide +kernel⟩
def nearD : List D := [.str "leans", .str "pull", .str "0", .str "1", .str "-1", .str "9", .str "10", .str "-0", .str "01", .str "", .str "7"]
theorem near_word {d : D} (m : d ∈ nearD) : ∃ z : Str, d = .str z ∧ z.length ≤ 5 ∧ 32 ∉ tl z ∧ 10 ∉ tl z := by
  have : (nearD.all fun d => match d with
    | .str z => decide (z.length ≤ 5) && !(tl z).contains 32 && !(tl z).contains 10
    | _ => false) = true := by decide +kernel
  have := List.all_eq_true.mp this d m
  cases d with
  | str z =>
    simp only [Bool.and_eq_true, decide_eq_true_eq, Bool.not_eq_true', List.contains_eq_mem, decide_eq_false_iff_not] at this
    exact ⟨z, rfl, this.1.1, this.1.2, this.2⟩
  | _ => cases this
theorem split_at {L : List Str} {x : Int} (x0 : 0 ≤ x) (x1 : x < ((L.map PyData.str).length : Int)) : ∃ l, L[x.toNat]? = some l ∧ dIx (.list (L.map PyData.str)) x = some (.str l) := by
  rw [List.length_map] at x1
  have h : x.toNat < L.length := by omega
  refine ⟨L[x.toNat], List.getElem?_eq_getElem h, ?_⟩
  show atI _ _ = _
  refine dIx_at x0 ?_
  rw [List.getElem?_map, List.getElem?_eq_getElem h]; rfl
abbrev F_law_bentT := F_law_bent8
theorem read_cases (t : Str) : readT t = .none ∨ ∃ p ps ls, readT t = webD p ps ls ∧ GoodW p ps ls := by
  unfold readT
  obtain ⟨w0, r0, rest, el⟩ := lines_first t
  rw [el]
  by_cases h : (decide (w0 = "leans") && (numsOf r0).isSome && rest.all isPullL && fitsWeb (foundOf r0 rest)) = true
  · right
    have h2 := h
    simp only [Bool.and_eq_true] at h2
    obtain ⟨p, ps, ls, e, gw⟩ := fitsWeb_good h2.2
    exact ⟨p, ps, ls, (if_pos h).trans e, gw⟩
  · exact .inl (if_neg h)
theorem read_plain (t : Str) (z : Str) : (PyData.tuple [readT t, .str z]).plain = true ∧ (PyData.tuple [readT t, .str z]).depth ≤ 60 := by
  have : (readT t).plain = true ∧ (readT t).depth ≤ 3 := by
    rcases read_cases t with h | ⟨p, ps, ls, h, gw⟩
    · rw [h]; exact ⟨rfl, Nat.zero_le _⟩
    · rw [h]; exact ⟨sm_plain (web_sm gw).1, (web_sm gw).2⟩
  refine ⟨?_, ?_⟩
  · show ((readT t).plain && (true && true)) = true
    rw [this.1]; rfl
  · show max (readT t).depth (max 0 0) + 1 ≤ 60
    have := this.2
    omega
theorem read_isNone {t : Str} : isNone (readT t) = true ↔ readT t = .none := by
  rcases read_cases t with h | ⟨p, ps, ls, h, gw⟩
  · rw [h]; simp [isNone]
  · rw [h]; exact ⟨fun q => (by cases q), fun q => (by cases q)⟩
theorem txOk {p : Int} {ps : List (Int × Int × Int)} {ls : List Int} (gw : GoodW p ps ls) : TxOk (textOf ps ls) := by
  obtain ⟨h1, h2, h3⟩ := text_size gw (few gw)
  exact ⟨by omega, by omega, by omega⟩
theorem txOk1 {p : Int} {ps : List (Int × Int × Int)} {ls : List Int} (gw : GoodW p ps ls) {t1 : Str} (h : Bd (textOf ps ls) t1) : TxOk t1 := by
  obtain ⟨h1, h2, h3⟩ := text_size gw (few gw)
  obtain ⟨a1, a2, a3⟩ := h
  exact ⟨by omega, by omega, by omega⟩
theorem txOk2 {p : Int} {ps : List (Int × Int × Int)} {ls : List Int} (gw : GoodW p ps ls) {t1 t2 : Str} (h : Bd (textOf ps ls) t1) (g : Bd t1 t2) : TxOk t2 := by
  obtain ⟨h1, h2, h3⟩ := text_size gw (few gw)
  obtain ⟨a1, a2, a3⟩ := h
  obtain ⟨b1, b2, b3⟩ := g
  exact ⟨by omega, by omega, by omega⟩
def oddsT (t : Str) : List D := [.none, .int 5, .list [.str t], .bool true, .str "", .str "\n", .str (t ++ "\n"), .str (" " ++ t), .str ("\n" ++ t)] ++ [.str (t ++ "\npull 0 0 1"), .str (t ++ " ")]
theorem odd_bad {p : Int} {ps : List (Int × Int × Int)} {ls : List Int} (gw : GoodW p ps ls) : ∀ d ∈ oddsT (textOf ps ls), readD d = .none ∧ TxD d := by
  obtain ⟨h1, h2, h3⟩ := text_size gw (few gw)
  have ok : ∀ x : Str, x.length ≤ 20 → cnt 10 x ≤ 1 → cnt 32 x ≤ 5 → TxOk (textOf ps ls ++ x) ∧ TxOk (x ++ textOf ps ls) ∧ TxOk x := fun x a b c => by
    refine ⟨⟨?_, ?_, ?_⟩, ⟨?_, ?_, ?_⟩, ⟨?_, ?_, ?_⟩⟩ <;> (try rw [len_app]) <;> (try rw [cnt_app]) <;> omega
  have tx : ∀ {t : Str}, TxOk t → TxD (.str t) := fun h t e => by cases e; exact h
  have no : ∀ {d : D}, (∀ t, d ≠ .str t) → TxD d := fun h t e => absurd e (h t)
  intro d hd
  simp only [oddsT, List.cons_append, List.nil_append, List.mem_cons, List.not_mem_nil, or_false] at hd
  rcases hd with rfl | rfl | rfl | rfl | rfl | rfl | rfl | rfl | rfl | rfl | rfl
  · exact ⟨rfl, no fun t e => by cases e⟩
  · exact ⟨rfl, no fun t e => by cases e⟩
  · exact ⟨rfl, no fun t e => by cases e⟩
  · exact ⟨rfl, no fun t e => by cases e⟩
  · exact ⟨by kernel_rfl, tx (ok _ (by decide +kernel) (by decide +kernel) (by decide +kernel)).2.2⟩
  · exact ⟨by kernel_rfl, tx (ok _ (by decide +kernel) (by decide +kernel) (by decide +kernel)).2.2⟩
  · exact ⟨odd1 gw, tx (ok _ (by decide +kernel) (by decide +kernel) (by decide +kernel)).1⟩
  · exact ⟨odd2 gw, tx (ok _ (by decide +kernel) (by decide +kernel) (by decide +kernel)).2.1⟩
  · exact ⟨odd3 gw, tx (ok _ (by decide +kernel) (by decide +kernel) (by decide +kernel)).2.1⟩
  · exact ⟨odd4 gw, tx (ok _ (by decide +kernel) (by decide +kernel) (by decide +kernel)).1⟩
  · exact ⟨odd5 gw, tx (ok _ (by decide +kernel) (by decide +kernel) (by decide +kernel)).1⟩
def badTexts : List D := [.str "leans", .str "leans ", .str "Leans 0", .str "leans 10", .str "leans -0", .str "leans 00", .str "leans +1", .str "pull 0 1 1"] ++ [.str "leans 0 0 0 0 0 0 0 0"] ++
  [.str "leans 0 0\npull 0 1 0", .str "leans 0 0\npull 0 2 1", .str "leans 0 0\npull 0 1", .str "leans 0 0\npull 0 1 1 1"] ++
  [.str "leans 0 0\npull 1 0 1\npull 0 1 1", .str "leans 0 0\npull 0 1 1\npull 0 1 2", .str "leans 0 0\npull  0 1 1"]
def goodTx (t : Str) : Bool := decide (t.length ≤ 5000) && decide (cnt 10 t ≤ 60) && decide (cnt 32 t ≤ 900)
theorem goodTx_ok {t : Str} (h : goodTx t = true) : TxD (.str t) := by
  simp only [goodTx, Bool.and_eq_true, decide_eq_true_eq] at h
  intro t' e
  cases e
  exact ⟨h.1.1, h.1.2, h.2⟩
theorem bad_texts : ∀ d ∈ badTexts, readD d = .none ∧ TxD d := by
  have : (badTexts.all fun d => match d with
    | .str t => isNone (readT t) && goodTx t
    | _ => false) = true := by decide +kernel
  intro d hd
  have := List.all_eq_true.mp this d hd
  cases d with
  | str t =>
    simp only [Bool.and_eq_true] at this
    exact ⟨read_isNone.mp this.1, goodTx_ok this.2⟩
  | _ => cases this
end
end Law
set_option Elab.async false
set_option linter.all false
set_option maxRecDepth 100000
set_option maxHeartbeats 0
/-! HD: what the module's top gives, by calculation; a law's end. -/
namespace Law
open PySem PySem.Spec PyProof.Rows L2 DL
def excB (K : PySem.W.Frag) (D : Addr) : Bool :=
  decide (PySem.W.findIn K (.ref D) "__getattribute__" = some (some (.builtin "BaseException.__getattribute__"))) && (decide (PySem.W.findIn K (.ref D) "__getattr__" = some none) && (decide (PySem.W.subIn K (.ref D) (.type "BaseException") = some true) &&
  (PySem.W.hasDictIn K D && (decide (PySem.W.findIn K (.ref D) "__class__" = some (some (.builtin "object.__class__"))) && (decide (PySem.W.specialIn K (.builtin "object.__class__") "__get__" = some (some (.builtin "getset_descriptor.__get__"))) &&
  (decide (PySem.W.takesIn K (.builtin "object.__class__") = some true) && decide (PySem.W.mroIn K D (.type "object") = some true)))))))
theorem excB_ok {K : PySem.W.Frag} {D : Addr} (h : excB K D = true) : L2.ExcC K D := by
  simp only [excB, Bool.and_eq_true, decide_eq_true_eq] at h
  obtain ⟨h1, h2, h3, h4, h5, h6, h7, h8⟩ := h
  exact ⟨h1, h2, h3, h4, h5, h6, h7, h8⟩
def hotB (K : PySem.W.Frag) (C : Addr) (bs : List Bool) : Bool :=
  excB K C && (decide (PySem.W.kitOne K (.ref C) (.type "ValueError") = some true) && (excNames.zip bs).all fun p => decide (PySem.W.kitOne K (.ref C) (.ref (He.ga K p.1)) = some p.2))
theorem hotB_ok {K : PySem.W.Frag} {C : Addr} {bs : List Bool} (h : hotB K C bs = true) : HotC K C bs := by
  simp only [hotB, Bool.and_eq_true, decide_eq_true_eq, List.all_eq_true] at h
  exact ⟨excB_ok h.1, h.2.1, h.2.2⟩
def bsOf (x : Str) : List Bool := excNames.map fun y => decide (y = x)
def lbB (K : PySem.W.Frag) (p : Str × Str) : Bool := hotB K (He.ga K p.1) (bsOf p.1) && (decide (labelOf (bsOf p.1) = p.2) && decide (PySem.W.exmOne K (.ref (He.ga K p.1)) (.ref (He.ga K "PullError")) = some true))
theorem lbB_ok {K : PySem.W.Frag} {p : Str × Str} (h : lbB K p = true) : LB K (.ref (He.ga K p.1)) p.2 := by
  simp only [lbB, Bool.and_eq_true, decide_eq_true_eq] at h
  obtain ⟨h1, h2, h3⟩ := h
  exact ⟨_, _, _, _, _, _, _, _, _, _, _, _, _, _, _, rfl, hotB_ok h1, h2.symm, h3⟩
/-- the tables of some defs stand apart -/
def apartB (K : PySem.W.Frag) (tf : List He.Defn) : Bool := decide ((tf.map fun p => (He.cT K p).2).Nodup)
def qnL (x : Str) : Str := (x ++ ".<locals>.") ++ "<lambda>"
def tabsT (K : PySem.W.Frag) (tf : List He.Defn) : List (Addr × Str) := tf.map fun p => ((He.cT K p).2, qnL p.1)
theorem nodup_snd {α β : Type} (f : α → β) {l : List α} {a b : α} (nd : (l.map f).Nodup) (ha : a ∈ l) (hb : b ∈ l) (e : f a = f b) : a = b := by
  induction l with
  | nil => cases ha
  | cons c l ih =>
    rw [List.map_cons, List.nodup_cons] at nd
    obtain ⟨n1, n2⟩ := nd
    rcases List.mem_cons.mp ha with h1 | h1 <;> rcases List.mem_cons.mp hb with h2 | h2
    · rw [h1, h2]
    · exact absurd (List.mem_map.mpr ⟨b, h2, by rw [← e, h1]⟩) n1
    · exact absurd (List.mem_map.mpr ⟨a, h1, by rw [e, h2]⟩) n1
    · exact ih n2 h1 h2
theorem lamTab_of {K : PySem.W.Frag} {mg : Str → Option Value} {base : Heap} {tf : List He.Defn} {x : Str} {s : Stmt} (FD : FdP K mg x s) (hx : (x, none) ∈ tf) (ha : apartB K tf = true) (hT : ∀ p ∈ tf, LamX.TabB base mg (He.cT K p).1 (He.cT K p).2) : LamTab K mg base (tabsT K tf) x := by
  obtain ⟨⟨fd, FD⟩, _⟩ := FD
  refine ⟨(He.cT K (x, none)).1, (He.cT K (x, none)).2, fun cdv ⟨o, fd', lk, ed, ec⟩ => ?_, hT _ hx, List.mem_map.mpr ⟨_, hx, rfl⟩, fun p hp e => ?_⟩
  · obtain ⟨oc, od, dV, kV, doc, pm, an, cdv0, ct, osl, rfl, lk0, hcd, _, _⟩ := FD.ex
    obtain ⟨c, rfl⟩ := He.codeIn_ref hcd
    rw [lk0] at lk
    cases lk
    cases ed
    have hc : cdv = .ref c := ec.symm
    rw [hc]
    exact congrArg Value.ref (He.codeOf_eq (p := (x, none)) lk0 rfl).symm
  · obtain ⟨q, hq, rfl⟩ := List.mem_map.mp hp
    have := nodup_snd (fun p => (He.cT K p).2) (of_decide_eq_true ha) hq hx e
    rw [this]
    rfl
theorem signs_kt {K : PySem.W.Frag} (h : He.tupB K "SIGNS" [.str "+", .str "-"] = true) : KT K (He.ga K "SIGNS") [.str "+", .str "-"] := by
  rcases He.tupB_ok h (fun _ => none) with z | z
  · rcases z with z | ⟨_, z⟩ <;> cases z
  · exact z
theorem signs_rp (K : PySem.W.Frag) : ∀ M H, RpA K M H [.str "+", .str "-"] [.str "+", .str "-"] := fun _ _ => .cons (.str _) (.cons (.str _) .nil)
theorem exF_of {K : PySem.W.Frag} {h : Heap} {mg : Str → Option Value} (X : K.In h) (G : h.Ns mainGlobals mg) {x : Str} (c1 : (He.Fa.glo x).ok K = true) (c2 : (He.Fa.exc x).ok K = true) : ExF K mg x := by
  obtain ⟨h1, h2, h3, h4⟩ := He.exc_ok c2
  exact ⟨He.glo_ok X G c1, h1, h2, h3, h4⟩
theorem mk_fn {P : Program} {w : World} {K : PySem.W.Frag} {mg : Str → Option Value} {base : Heap} {T : List (Addr × Str)} {x : Str} {s : Stmt} {N ps : List Str} {k : Nat} {F : FS} {fd : FuncData}
    (FD : FunD K x x (defArgs s) (defBody s) (defScope s) [] [] (He.ga K x) fd) (S : FnScope N ps (defScope s))
    (len : ∀ cs kk ee, F cs kk ee → cs.length = ps.length)
    (hbody : ∀ (cdv : Value), (∃ o fd, K.lookup (He.ga K x) = some o ∧ o.data = .func fd ∧ fd.code = cdv) → ∀ (A : Around) (outer : List PySem.Env) (s0 : Shared) (H : Hp) (E : XK) (W0 M0 : AS) (cs : List DL.C) (kk : Rv → List DL.C → Prop) (ee : Value → List DL.C → Prop), F cs kk ee →
      Room k (ctOf P w K mg base T N x (defScope s) (He.ga K x) cdv A outer s0 H E W0 M0 (bodyX cs ee)).X.A → L2N.Takes (ctOf P w K mg base T N x (defScope s) (He.ga K x) cdv A outer s0 H E W0 M0 (bodyX cs ee)).X (wz (ctOf P w K mg base T N x (defScope s) (He.ga K x) cdv A outer s0 H E W0 M0 (bodyX cs ee))) →
      DSs (ctOf P w K mg base T N x (defScope s) (He.ga K x) cdv A outer s0 H E W0 M0 (bodyX cs ee)) (defBody s) (ent N.length cs) (bodyE cs kk)) : FnOk P w K mg base (L2N.CX P w) (k + 1) (He.ga K x) fd ps (spD K T F) := DL.fn_ok FD S len hbody
theorem law_start {K : PySem.W.Frag} {tf : List He.Defn} {H : Hp} {a : Addr} {ns : List Int} (hl : ns.length ≤ 63) (hH : ∀ p ∈ tf, H (He.cT K p).2 = some (.tbl #[])) (hS : SqL K H a (ns.map V.int)) : spD K (tabsT K tf) F_law [.ref a] H (fun v _ => v = .bl true) fun _ _ _ => False := by
  have ra : RpA K (fun _ => False) H (ns.map V.int) (ns.map PyData.int) := by
    clear hS hl
    induction ns with
    | nil => exact .nil
    | cons n ns ih => exact .cons (.int n) ih
  have rl : Rp K (fun _ => False) H (.ref a) (.list (ns.map PyData.int)) := by
    refine .lst ?_ ra
    rcases hS with z | z
    · exact .inl ⟨fun q => q, z⟩
    · exact .inr z
  have no : ∀ (i : Nat) (b : Addr) (m : MO), (up [DL.C.dat (.list (ns.map .int))])[i]? = some (some (DL.C.own b m)) → False := fun i b m e => by
    cases i with
    | zero => cases e
    | succ i => simp at e
  refine ⟨[.dat (.list (ns.map .int))], fun _ => False, ⟨rfl, fun b ⟨i, m, e⟩ => no i b m e, fun _ z => z.elim, fun i c e => ?_, fun i j m n b e _ => (no i b m e).elim, fun p hp => ?_⟩, ns, rfl, hl, fun v H' M' E => ?_⟩
  · cases i with
    | zero =>
      cases e
      exact ⟨_, rfl, rl⟩
    | succ i => simp at e
  · obtain ⟨q, hq, rfl⟩ := List.mem_map.mp hp
    exact LamX.TabS.nil (hH q hq)
  · have pd : Rp K M' H' v (.bool true) := E.pd
    cases pd
    rfl
theorem no_out {P : Program} {w : World} (H : Hp) (s : Shared) (e : Value) (s' : Shared) : L2N.CX P w [] H s (fun _ _ _ => False) e s' → False := by
  intro h
  obtain ⟨_, _, _, _, _, _, _, _, _, _, _, _, z⟩ := h
  exact z
end Law
set_option Elab.async false
set_option linter.all false
set_option maxRecDepth 100000
set_option maxHeartbeats 0
namespace Law
open PySem PySem.Spec PyProof.Rows L2 DL
local macro_rules | `(tactic| walk_at "sz") => `(tactic| first | assumption | decide | omega | exact Or.inl ⟨by omega, by omega⟩ | exact Or.inr ⟨by omega, by omega⟩ | exact cmul_mod (by assumption) (by assumption) | exact cmul_modR (by assumption) (by assumption) | exact cdiv_of (by omega) (by omega) | (simp [sizeLine_eq]; done) | (simp [sizeLine_eq]; omega))
local macro_rules | `(tactic| walk_at "sh") => `(tactic| first | rfl | assumption | decide)
local macro_rules | `(tactic| walk_at "rc") => `(tactic| repeat (first | exact RetC.nil | apply RetC.dat | apply RetC.own | apply RetC.raw))
def top (i : Nat) : Stmt := PySem.Challenge.pw_scaledpulls_k08_texts_of_webs.main.body.getD i (.Pass ⟨0, 0, 0, 0⟩)
/-- what the module's top gives -/
structure Gx (K : PySem.W.Frag) (mg : Str → Option Value) : Prop where
  PLACES : ∃ t, mg "PLACES" = some (.int 7 t)
  MOST : ∃ t, mg "MOST" = some (.int 9 t)
  FIGURES : ∃ t, mg "FIGURES" = some (.str "0123456789" t)
  ex_PullError : ExF K mg "PullError"
  ex_InvalidWeb : ExF K mg "InvalidWeb"
  ex_InvalidSaying : ExF K mg "InvalidSaying"
  ex_InvalidPlace : ExF K mg "InvalidPlace"
  ex_InvalidScales : ExF K mg "InvalidScales"
  ex_InvalidTurn : ExF K mg "InvalidTurn"
  ex_InvalidNumber : ExF K mg "InvalidNumber"
  ex_InvalidFacts : ExF K mg "InvalidFacts"
  ex_InvalidIndex : ExF K mg "InvalidIndex"
  ex_InvalidFactors : ExF K mg "InvalidFactors"
  ex_InvalidSign : ExF K mg "InvalidSign"
  ex_InvalidText : ExF K mg "InvalidText"
  ex_Unlike : ExF K mg "Unlike"
  ex_NothingToUndo : ExF K mg "NothingToUndo"
section
variable {P : Program} {w : World} {K : PySem.W.Frag} {mg : Str → Option Value} {base : Heap} {T : List (Addr × Str)}
abbrev s_is_whole : Stmt := top 19
theorem sc_is_whole : FnScope ["value", "low", "high"] ["value", "low", "high"] (defScope s_is_whole) := ⟨rfl, rfl, rfl, by decide +kernel, rfl, by decide +kernel, by decide +kernel⟩
theorem ok_is_whole (B : Gb mg) (G : Gx K mg)  (FD : FdP K mg "is_whole" s_is_whole) : DefOk P w K mg base T "is_whole" 1 (F_is_whole) := by
  refine mk_def FD sc_is_whole (fun _ _ _ _ _ _ us hl => match us, hl with | [_, _, _], _ => rfl) ?_ fun cdv hcd A outer s0 H E W0 M0 cs kk ee h hr hz => ?_
  · rintro cs kk ee ⟨_, ⟨v, lo, hi, rfl, rfl⟩, _⟩; rfl
  have hN := (sc_is_whole).nd
  obtain ⟨_, ⟨v, lo, hi, rfl, rfl⟩, h⟩ := h
  refine dss_one ?_
  refine ds_ret ?_
  refine de_and ?_
  refine de_callB B.isinstance rfl ?_
  refine da_cons ?_
  refine de_var 0 rfl ?_
  refine da_cons ?_
  refine de_ty B.int rfl ?_
  refine da_nil ?_
  refine cd_isInt rfl ?_
  refine boolR_i ?_
  refine bcase_m (fun h1 => ?_) (fun h1 => ?_)
  · refine de_and ?_
    refine de_not ?_
    refine de_callB B.isinstance rfl ?_
    refine da_cons ?_
    refine de_var 0 rfl ?_
    refine da_cons ?_
    refine de_ty B.bool rfl ?_
    refine da_nil ?_
    refine cd_isBool rfl ?_
    refine boolR_i ?_
    refine boolR_i ?_
    refine bcase_m (fun h2 => ?_) (fun h2 => ?_)
    · refine de_one ?_
      obtain ⟨i, rfl⟩ := int_of h1 h2
      refine de_chain op_le op_le ?_
      refine de_var 1 rfl ?_
      refine de_var 0 rfl ?_
      refine ⟨_, _, rfl, rfl, ?_⟩
      refine bcase_m (fun h3 => ?_) (fun h3 => ?_)
      · refine de_var 2 rfl ?_
        refine ⟨_, rfl, ?_⟩
        exact ret_dat (by walk_at "rc") h (by simp only [isWhole, h3, Bool.true_and])
      · exact ret_dat (by walk_at "rc") h (by simp only [isWhole, h3, Bool.false_and])
    · exact ret_dat (by walk_at "rc") h (by cases v <;> first | rfl | (cases h2))
  · exact ret_dat (by walk_at "rc") h (by cases v <;> first | rfl | (cases h1))
abbrev s_fits_pull : Stmt := top 20
theorem sc_fits_pull : FnScope ["places", "value"] ["places", "value"] (defScope s_fits_pull) := ⟨rfl, rfl, rfl, by decide +kernel, rfl, by decide +kernel, by decide +kernel⟩
theorem ok_fits_pull (B : Gb mg) (G : Gx K mg) (D_is_whole : DefOk P w K mg base T "is_whole" 1 (F_is_whole)) (FD : FdP K mg "fits_pull" s_fits_pull) : DefOk P w K mg base T "fits_pull" 2 (F_fits_pull) := by
  refine mk_def FD sc_fits_pull (fun _ _ _ _ _ _ us hl => match us, hl with | [_, _], _ => rfl) ?_ fun cdv hcd A outer s0 H E W0 M0 cs kk ee h hr hz => ?_
  · rintro cs kk ee ⟨_, ⟨n, v, rfl, rfl⟩, _⟩; rfl
  have hN := (sc_fits_pull).nd
  have D_is_whole_mono : MonoF (F_is_whole) := m_is_whole
  obtain ⟨_, ⟨n, v, rfl, rfl⟩, h⟩ := h
  refine dss_cons ?_
  refine ds_if ?_
  refine dt_w ?_
  refine dw_or ?_
  refine dt_not ?_
  refine dt_val ?_
  refine de_callB B.isinstance rfl ?_
  refine da_cons ?_
  refine de_var 1 rfl ?_
  refine da_cons ?_
  refine de_ty B.tuple rfl ?_
  refine da_nil ?_
  refine cd_isTup rfl ?_
  refine boolR_i ?_
  refine bcase_not (bcase_m (fun h1 => ?_) (fun h1 => ?_))
  · refine dw_or ?_
    obtain ⟨ds, rfl⟩ := tup_of h1
    refine dt_cmp ?_
    refine de_callB B.len rfl ?_
    refine da_cons ?_
    refine de_var 1 rfl ?_
    refine da_nil ?_
    refine cd_len rfl rfl (by first | trivial | walk_at "sz") ?_
    refine de_int ?_
    first | refine od_neI rfl rfl (Room.u64 hr) ?_ | refine od_ne rfl rfl (by walk_at "sh") (by walk_at "sh") (Room.u64 hr) ?_
    refine boolR_i ?_
    refine bcase_m (fun h2 => ?_) (fun h2 => ?_)
    · refine bcase_t ?_
      refine dss_one ?_
      refine ds_ret ?_
      refine de_bl ?_
      exact ret_dat (by walk_at "rc") h (by
        have h2 := of_decide_eq_true h2
        match ds, h2 with
        | [], _ => rfl
        | [_], _ => rfl
        | [_, _], _ => rfl
        | [_, _, _], h2 => exact absurd rfl h2
        | _ :: _ :: _ :: _ :: _, _ => rfl)
    · refine dw_or ?_
      obtain ⟨a, b, c, rfl⟩ := len3 h2
      refine dt_not ?_
      refine dt_val ?_
      refine de_call D_is_whole D_is_whole_mono (hr.mono (by decide)) hz ?_
      refine da_cons ?_
      refine de_ix ?_
      refine de_var 1 rfl ?_
      refine de_int ?_
      refine ⟨_, _, _, rfl, rfl, (by first | rfl | assumption), (by intro _ hz; cases hz), ?_⟩
      refine da_cons ?_
      refine de_neg ?_
      refine de_globI G.MOST ?_
      refine ⟨_, rfl, ?_⟩
      refine da_cons ?_
      refine de_globI G.MOST ?_
      refine da_nil ?_
      refine ⟨_, rfl, (by first | exact List.Pairwise.nil | exact nd1 _ | simp [lent]), ?_⟩
      refine ⟨_, ⟨_, _, _, rfl, rfl⟩, trivial, ?_⟩
      refine boolR_i ?_
      refine bcase_not (bcase_m (fun h3 => ?_) (fun h3 => ?_))
      · refine dw_or1 ?_
        obtain ⟨ci, rfl, _, _⟩ := isWhole_of h3
        refine dt_cmp ?_
        refine de_ix ?_
        refine de_var 1 rfl ?_
        refine de_int ?_
        refine ⟨_, _, _, rfl, rfl, (by first | rfl | assumption), (by intro _ hz; cases hz), ?_⟩
        refine de_int ?_
        first | refine od_eqI rfl rfl (Room.u64 hr) ?_ | refine od_eq rfl rfl (by walk_at "sh") (by walk_at "sh") (Room.u64 hr) ?_
        refine boolR_i ?_
        refine bcase_m (fun h4 => ?_) (fun h4 => ?_)
        · refine dss_one ?_
          refine ds_ret ?_
          refine de_bl ?_
          exact ret_dat (by walk_at "rc") h (by
            have := of_decide_eq_true h4
            subst this
            simp [fitsPull, PyData.eqv])
        · refine dss_nil ?_
          refine dss_one ?_
          refine ds_ret ?_
          refine de_and ?_
          refine de_call D_is_whole D_is_whole_mono (hr.mono (by decide)) hz ?_
          refine da_cons ?_
          refine de_ix ?_
          refine de_var 1 rfl ?_
          refine de_int ?_
          refine ⟨_, _, _, rfl, rfl, (by first | rfl | assumption), (by intro _ hz; cases hz), ?_⟩
          refine da_cons ?_
          refine de_int ?_
          refine da_cons ?_
          refine de_bin ?_
          refine de_var 0 rfl ?_
          refine de_int ?_
          refine od_subI rfl rfl ?_
          refine da_nil ?_
          refine ⟨_, rfl, (by first | exact List.Pairwise.nil | exact nd1 _ | simp [lent]), ?_⟩
          refine ⟨_, ⟨_, _, _, rfl, rfl⟩, trivial, ?_⟩
          refine boolR_i ?_
          refine bcase_m (fun h5 => ?_) (fun h5 => ?_)
          · refine de_and ?_
            refine de_call D_is_whole D_is_whole_mono (hr.mono (by decide)) hz ?_
            refine da_cons ?_
            refine de_ix ?_
            refine de_var 1 rfl ?_
            refine de_int ?_
            refine ⟨_, _, _, rfl, rfl, (by first | rfl | assumption), (by intro _ hz; cases hz), ?_⟩
            refine da_cons ?_
            refine de_int ?_
            refine da_cons ?_
            refine de_bin ?_
            refine de_var 0 rfl ?_
            refine de_int ?_
            refine od_subI rfl rfl ?_
            refine da_nil ?_
            refine ⟨_, rfl, (by first | exact List.Pairwise.nil | exact nd1 _ | simp [lent]), ?_⟩
            refine ⟨_, ⟨_, _, _, rfl, rfl⟩, trivial, ?_⟩
            refine boolR_i ?_
            refine bcase_m (fun h6 => ?_) (fun h6 => ?_)
            · refine de_one ?_
              obtain ⟨ai, rfl, _, _⟩ := isWhole_of h5
              obtain ⟨bi, rfl, _, _⟩ := isWhole_of h6
              refine de_cmp ?_
              refine de_ix ?_
              refine de_var 1 rfl ?_
              refine de_int ?_
              refine ⟨_, _, _, rfl, rfl, (by first | rfl | assumption), (by intro _ hz; cases hz), ?_⟩
              refine de_ix ?_
              refine de_var 1 rfl ?_
              refine de_int ?_
              refine ⟨_, _, _, rfl, rfl, (by first | rfl | assumption), (by intro _ hz; cases hz), ?_⟩
              first | refine od_neI rfl rfl (Room.u64 hr) ?_ | refine od_ne rfl rfl (by walk_at "sh") (by walk_at "sh") (Room.u64 hr) ?_
              exact ret_dat (by walk_at "rc") h (by
                have h4 := of_decide_eq_false h4
                rw [PyData.bool.injEq, Bool.eq_iff_iff]
                simp [fitsPull, h3, h5, h6, PyData.eqv, h4])
            · exact ret_dat (by walk_at "rc") h (by simp only [fitsPull, h6, Bool.false_and, Bool.and_false])
          · exact ret_dat (by walk_at "rc") h (by simp only [fitsPull, h5, Bool.false_and, Bool.and_false])
      · refine bcase_t ?_
        refine dss_one ?_
        refine ds_ret ?_
        refine de_bl ?_
        exact ret_dat (by walk_at "rc") h (by simp only [fitsPull, h3, Bool.false_and])
  · refine bcase_t ?_
    refine dss_one ?_
    refine ds_ret ?_
    refine de_bl ?_
    exact ret_dat (by walk_at "rc") h (by cases v <;> first | rfl | (cases h1))
abbrev s_fits_web : Stmt := top 21
theorem sc_fits_web : FnScope ["value", "pull", "one", "other", "lean"] ["value"] (defScope s_fits_web) := ⟨rfl, rfl, rfl, by decide +kernel, rfl, by decide +kernel, by decide +kernel⟩
theorem ok_fits_web (B : Gb mg) (G : Gx K mg) (D_is_whole : DefOk P w K mg base T "is_whole" 1 (F_is_whole)) (D_fits_pull : DefOk P w K mg base T "fits_pull" 2 (F_fits_pull)) (FD : FdP K mg "fits_web" s_fits_web) : DefOk P w K mg base T "fits_web" 3 (F_fits_web) := by
  refine mk_def FD sc_fits_web (fun _ _ _ _ _ _ us hl => match us, hl with | [_], _ => rfl) ?_ fun cdv hcd A outer s0 H E W0 M0 cs kk ee h hr hz => ?_
  · rintro cs kk ee ⟨_, ⟨v, rfl, hs, rfl⟩, _⟩; rfl
  have hN := (sc_fits_web).nd
  have D_is_whole_mono : MonoF (F_is_whole) := m_is_whole
  have D_fits_pull_mono : MonoF (F_fits_pull) := m_fits_pull
  obtain ⟨_, ⟨v, rfl, hs, rfl⟩, h⟩ := h
  refine dss_cons ?_
  refine ds_if ?_
  refine dt_w ?_
  refine dw_or ?_
  refine dt_not ?_
  refine dt_val ?_
  refine de_callB B.isinstance rfl ?_
  refine da_cons ?_
  refine de_var 0 rfl ?_
  refine da_cons ?_
  refine de_ty B.tuple rfl ?_
  refine da_nil ?_
  refine cd_isTup rfl ?_
  refine boolR_i ?_
  refine bcase_not (bcase_m (fun h1 => ?_) (fun h1 => ?_))
  · refine dw_or ?_
    obtain ⟨ds, rfl⟩ := tup_of h1
    refine dt_cmp ?_
    refine de_callB B.len rfl ?_
    refine da_cons ?_
    refine de_var 0 rfl ?_
    refine da_nil ?_
    refine cd_len rfl rfl (by first | trivial | walk_at "sz") ?_
    refine de_int ?_
    first | refine od_neI rfl rfl (Room.u64 hr) ?_ | refine od_ne rfl rfl (by walk_at "sh") (by walk_at "sh") (Room.u64 hr) ?_
    refine boolR_i ?_
    refine bcase_m (fun h2 => ?_) (fun h2 => ?_)
    · refine bcase_t ?_
      refine dss_one ?_
      refine ds_ret ?_
      refine de_bl ?_
      exact ret_dat (by walk_at "rc") h (by rw [fitsWeb_len (fun e => of_decide_eq_true h2 (by rw [e]; rfl))])
    · refine dw_or1 ?_
      obtain ⟨n, ps, ls, rfl⟩ := len3 h2
      refine dt_not ?_
      refine dt_val ?_
      refine de_call D_is_whole D_is_whole_mono (hr.mono (by decide)) hz ?_
      refine da_cons ?_
      refine de_ix ?_
      refine de_var 0 rfl ?_
      refine de_int ?_
      refine ⟨_, _, _, rfl, rfl, (by first | rfl | assumption), (by intro _ hz; cases hz), ?_⟩
      refine da_cons ?_
      refine de_int ?_
      refine da_cons ?_
      refine de_globI G.PLACES ?_
      refine da_nil ?_
      refine ⟨_, rfl, (by first | exact List.Pairwise.nil | exact nd1 _ | simp [lent]), ?_⟩
      refine ⟨_, ⟨_, _, _, rfl, rfl⟩, trivial, ?_⟩
      refine boolR_i ?_
      refine bcase_not (bcase_m (fun h3 => ?_) (fun h3 => ?_))
      · refine dss_nil ?_
        refine dss_cons ?_
        refine ds_if ?_
        refine dt_w ?_
        refine dw_or ?_
        obtain ⟨p, rfl, p1, p7⟩ := isWhole_of h3
        refine dt_not ?_
        refine dt_val ?_
        refine de_callB B.isinstance rfl ?_
        refine da_cons ?_
        refine de_ix ?_
        refine de_var 0 rfl ?_
        refine de_int ?_
        refine ⟨_, _, _, rfl, rfl, (by first | rfl | assumption), (by intro _ hz; cases hz), ?_⟩
        refine da_cons ?_
        refine de_ty B.tuple rfl ?_
        refine da_nil ?_
        refine cd_isTup rfl ?_
        refine boolR_i ?_
        refine bcase_not (bcase_m (fun h4 => ?_) (fun h4 => ?_))
        · refine dw_or1 ?_
          obtain ⟨ps, rfl⟩ := tup_of h4
          refine dt_not ?_
          refine dt_val ?_
          refine de_callB B.all rfl ?_
          refine da_cons ?_
          refine de_lc [("pull", 1)] ?_ (ok := blk_by (N := ["value", "pull", "one", "other", "lean"]) (psc := (defScope s_fits_web)) (by decide +kernel))
          refine di_tup ?_
          refine de_ix ?_
          refine de_var 0 rfl ?_
          refine de_int ?_
          refine ⟨_, _, _, rfl, rfl, (by first | rfl | assumption), (by intro _ hz; cases hz), ?_⟩
          refine ⟨_, rfl, ?_⟩
          refine ⟨rfl, lc_pure (fun d => some (.bool (fitsPull p d))) (okS1 hs (.inl rfl)) trivial ?_ ?_⟩
          · rw [fmap_some, bools]
            refine da_nil ?_
            refine cd_all rfl ?_
            refine boolR_i ?_
            refine bcase_not (bcase_m (fun h5 => ?_) (fun h5 => ?_))
            · refine dss_nil ?_
              refine dss_cons ?_
              refine ds_if ?_
              refine dt_not ?_
              refine dt_val ?_
              refine de_callB B.all rfl ?_
              refine da_cons ?_
              refine de_lc [("one", 2), ("other", 3)] ?_ (ok := blk_by (N := ["value", "pull", "one", "other", "lean"]) (psc := (defScope s_fits_web)) (by decide +kernel))
              refine di_zip B.zip ?_
              refine da_cons ?_
              refine de_ix ?_
              refine de_var 0 rfl ?_
              refine de_int ?_
              refine ⟨_, _, _, rfl, rfl, (by first | rfl | assumption), (by intro _ hz; cases hz), ?_⟩
              refine da_cons ?_
              refine de_sl ?_
              refine de_ix ?_
              refine de_var 0 rfl ?_
              refine de_int ?_
              refine ⟨_, _, _, rfl, rfl, (by first | rfl | assumption), (by intro _ hz; cases hz), ?_⟩
              refine de_int ?_
              refine ⟨_, rfl, ?_⟩
              refine ⟨_, rfl, (by intro _ hz; first | rfl | (cases hz)), ?_⟩
              refine da_nil ?_
              first | refine ⟨_, _, .inl rfl, ?_⟩ | refine ⟨_, _, .inr rfl, ?_⟩
              refine ⟨rfl, lc_pure (fun d => some (.bool (ordD d))) (Nat.le_trans (pairs_len _ _) (okS1 hs (.inl rfl))) trivial ?_ ?_⟩
              · rw [fmap_some, bools]
                refine da_nil ?_
                refine cd_all rfl ?_
                refine boolR_i ?_
                refine bcase_not (bcase_m (fun h6 => ?_) (fun h6 => ?_))
                · refine dss_nil ?_
                  refine dss_cons ?_
                  refine ds_if ?_
                  refine dt_w ?_
                  refine dw_or ?_
                  refine dt_not ?_
                  refine dt_val ?_
                  refine de_callB B.isinstance rfl ?_
                  refine da_cons ?_
                  refine de_ix ?_
                  refine de_var 0 rfl ?_
                  refine de_int ?_
                  refine ⟨_, _, _, rfl, rfl, (by first | rfl | assumption), (by intro _ hz; cases hz), ?_⟩
                  refine da_cons ?_
                  refine de_ty B.tuple rfl ?_
                  refine da_nil ?_
                  refine cd_isTup rfl ?_
                  refine boolR_i ?_
                  refine bcase_not (bcase_m (fun h7 => ?_) (fun h7 => ?_))
                  · refine dw_or1 ?_
                    obtain ⟨ls, rfl⟩ := tup_of h7
                    refine dt_cmp ?_
                    refine de_callB B.len rfl ?_
                    refine da_cons ?_
                    refine de_ix ?_
                    refine de_var 0 rfl ?_
                    refine de_int ?_
                    refine ⟨_, _, _, rfl, rfl, (by first | rfl | assumption), (by intro _ hz; cases hz), ?_⟩
                    refine da_nil ?_
                    refine cd_len rfl rfl (by first | trivial | walk_at "sz") ?_
                    refine de_ix ?_
                    refine de_var 0 rfl ?_
                    refine de_int ?_
                    refine ⟨_, _, _, rfl, rfl, (by first | rfl | assumption), (by intro _ hz; cases hz), ?_⟩
                    first | refine od_neI rfl rfl (Room.u64 hr) ?_ | refine od_ne rfl rfl (by walk_at "sh") (by walk_at "sh") (Room.u64 hr) ?_
                    refine boolR_i ?_
                    refine bcase_m (fun h8 => ?_) (fun h8 => ?_)
                    · refine dss_one ?_
                      refine ds_ret ?_
                      refine de_bl ?_
                      exact ret_dat (by walk_at "rc") h (by 
                        have h8 := of_decide_eq_true h8
                        rw [PyData.bool.injEq, Bool.eq_iff_iff]
                        simp [fitsWeb, h8])
                    · refine dss_nil ?_
                      refine dss_one ?_
                      refine ds_ret ?_
                      refine de_callB B.all rfl ?_
                      refine da_cons ?_
                      refine de_lc [("lean", 4)] ?_ (ok := blk_by (N := ["value", "pull", "one", "other", "lean"]) (psc := (defScope s_fits_web)) (by decide +kernel))
                      refine di_tup ?_
                      refine de_ix ?_
                      refine de_var 0 rfl ?_
                      refine de_int ?_
                      refine ⟨_, _, _, rfl, rfl, (by first | rfl | assumption), (by intro _ hz; cases hz), ?_⟩
                      refine ⟨_, rfl, ?_⟩
                      refine ⟨rfl, lc_pure (fun d => some (.bool (isWhole d (-9) 9))) (okS1 hs (.inr rfl)) trivial ?_ ?_⟩
                      · rw [fmap_some, bools]
                        refine da_nil ?_
                        refine cd_all rfl ?_
                        exact ret_dat (by walk_at "rc") h (by 
                          have h8 := of_decide_eq_false h8
                          rw [all_id] at h5 h6 ⊢
                          rw [cut1] at h6
                          have h8 : (ls.length : Int) = p := by simpa using h8
                          rw [PyData.bool.injEq, Bool.eq_iff_iff]
                          simp only [fitsWeb, h3, h5, h6, h8, Bool.true_and, decide_true])
                      · intro d hd _ _ _ _ _
                        refine dg_name 4 ?_
                        intro _ _ _ _ _
                        refine bcase_t ?_
                        intro _ _ _ _ _
                        refine de_call D_is_whole D_is_whole_mono (hr.mono (by decide)) takes_blk ?_
                        refine da_cons ?_
                        refine de_var 4 rfl ?_
                        refine da_cons ?_
                        refine de_neg ?_
                        refine de_globI G.MOST ?_
                        refine ⟨_, rfl, ?_⟩
                        refine da_cons ?_
                        refine de_globI G.MOST ?_
                        refine da_nil ?_
                        refine ⟨_, rfl, (by first | exact List.Pairwise.nil | exact nd1 _ | simp [lent]), ?_⟩
                        refine ⟨_, ⟨_, _, _, rfl, rfl⟩, trivial, ?_⟩
                        exact ⟨_, rfl, rfl, rfl⟩
                  · refine bcase_t ?_
                    refine dss_one ?_
                    refine ds_ret ?_
                    refine de_bl ?_
                    exact ret_dat (by walk_at "rc") h (by 
                      rw [PyData.bool.injEq]
                      cases ls <;> first | rfl | (cases h7))
                · refine dss_one ?_
                  refine ds_ret ?_
                  refine de_bl ?_
                  exact ret_dat (by walk_at "rc") h (by 
                    rw [all_id, cut1] at h6
                    rw [PyData.bool.injEq]
                    cases ls <;> first | rfl | simp only [fitsWeb, h6, Bool.and_false, Bool.false_and])
              · intro d hd _ _ _ _ _
                obtain ⟨x, y, hx, hy, rfl⟩ := pairs_mem hd
                rw [cut1] at hy
                have hfp := h5
                rw [all_id, List.all_eq_true] at hfp
                obtain ⟨a1, a2, a3, rfl, _⟩ := fitsPull_of (hfp x hx)
                obtain ⟨b1, b2, b3, rfl, _⟩ := fitsPull_of (hfp y (List.mem_of_mem_tail hy))
                first | refine dg_tup ?_ rfl | refine dg_lst ?_ rfl
                refine dgs_cons ?_
                refine dg_name 2 ?_
                refine dgs_cons ?_
                refine dg_name 3 ?_
                refine dgs_nil ?_
                intro _ _ _ _ _
                refine bcase_t ?_
                intro _ _ _ _ _
                refine de_cmp ?_
                refine de_sl ?_
                refine de_var 2 rfl ?_
                refine de_int ?_
                refine ⟨_, rfl, ?_⟩
                refine ⟨_, rfl, (by intro _ hz; first | rfl | (cases hz)), ?_⟩
                refine de_sl ?_
                refine de_var 3 rfl ?_
                refine de_int ?_
                refine ⟨_, rfl, ?_⟩
                refine ⟨_, rfl, (by intro _ hz; first | rfl | (cases hz)), ?_⟩
                refine od_ltT (ns := [_, _]) (ms := [_, _]) rfl rfl (Room.u64 hr) ?_
                exact ⟨_, rfl, rfl, rfl⟩
            · refine dss_one ?_
              refine ds_ret ?_
              refine de_bl ?_
              exact ret_dat (by walk_at "rc") h (by 
                rw [all_id] at h5
                rw [PyData.bool.injEq]
                cases ls <;> first | rfl | simp only [fitsWeb, h5, Bool.and_false, Bool.false_and])
          · intro d hd _ _ _ _ _
            refine dg_name 1 ?_
            intro _ _ _ _ _
            refine bcase_t ?_
            intro _ _ _ _ _
            refine de_call D_fits_pull D_fits_pull_mono (hr.mono (by decide)) takes_blk ?_
            refine da_cons ?_
            refine de_ix ?_
            refine de_var 0 rfl ?_
            refine de_int ?_
            refine ⟨_, _, _, rfl, rfl, (by first | rfl | assumption), (by intro _ hz; cases hz), ?_⟩
            refine da_cons ?_
            refine de_var 1 rfl ?_
            refine da_nil ?_
            refine ⟨_, rfl, (by first | exact List.Pairwise.nil | exact nd1 _ | simp [lent]), ?_⟩
            refine ⟨_, ⟨_, _, rfl, rfl⟩, trivial, ?_⟩
            exact ⟨_, rfl, rfl, rfl⟩
        · refine bcase_t ?_
          refine dss_one ?_
          refine ds_ret ?_
          refine de_bl ?_
          exact ret_dat (by walk_at "rc") h (by 
            rw [PyData.bool.injEq]
            cases ps <;> first | rfl | (cases h4) | (cases ls <;> rfl))
      · refine dss_one ?_
        refine ds_ret ?_
        refine de_bl ?_
        exact ret_dat (by walk_at "rc") h (by 
          rw [PyData.bool.injEq]
          cases ps <;> first | rfl | (cases ls <;> first | rfl | (cases n <;> first | rfl | simp only [fitsWeb, h3, Bool.and_false, Bool.false_and])))
  · refine bcase_t ?_
    refine dss_one ?_
    refine ds_ret ?_
    refine de_bl ?_
    exact ret_dat (by walk_at "rc") h (by cases v <;> first | rfl | (cases h1))
abbrev s_need_web : Stmt := top 22
theorem sc_need_web : FnScope ["value"] ["value"] (defScope s_need_web) := ⟨rfl, rfl, rfl, by decide +kernel, rfl, by decide +kernel, by decide +kernel⟩
theorem ok_need_web (B : Gb mg) (G : Gx K mg) (D_fits_web : DefOk P w K mg base T "fits_web" 3 (F_fits_web)) (FD : FdP K mg "need_web" s_need_web) : DefOk P w K mg base T "need_web" 4 (F_need_web K) := by
  refine mk_def FD sc_need_web (fun _ _ _ _ _ _ us hl => match us, hl with | [_], _ => rfl) ?_ fun cdv hcd A outer s0 H E W0 M0 cs kk ee h hr hz => ?_
  · rintro cs kk ee ⟨_, ⟨v, rfl, _, _⟩, _⟩; rfl
  have hN := (sc_need_web).nd
  have D_fits_web_mono : MonoF (F_fits_web) := m_fits_web
  obtain ⟨_, ⟨v, rfl, hs, rfl⟩, h⟩ := h
  refine dss_one ?_
  refine ds_if ?_
  refine dt_not ?_
  refine dt_val ?_
  refine de_call D_fits_web D_fits_web_mono (hr.mono (by decide)) hz ?_
  refine da_cons ?_
  refine de_var 0 rfl ?_
  refine da_nil ?_
  refine ⟨_, rfl, (by first | exact List.Pairwise.nil | exact nd1 _ | simp [lent]), ?_⟩
  refine ⟨_, ⟨_, rfl, hs, rfl⟩, trivial, ?_⟩
  refine boolR_i ?_
  refine bcase_not (bcase_m (fun h1 => ?_) (fun h1 => ?_))
  · refine dss_nil ?_
    rw [needWeb, if_pos h1] at h
    exact end_non (by walk_at "rc") h
  · refine dss_one ?_
    refine ds_raiseF G.ex_InvalidWeb hz ?_
    rw [needWeb, if_neg (by rw [h1]; decide)] at h
    exact eps_of (by walk_at "rc") h
abbrev s_law_cell : Stmt := top 32
theorem sc_law_cell : FnScope ["script", "k"] ["script", "k"] (defScope s_law_cell) := ⟨rfl, rfl, rfl, by decide +kernel, rfl, by decide +kernel, by decide +kernel⟩
theorem ok_law_cell (B : Gb mg) (G : Gx K mg)  (FD : FdP K mg "_law_cell" s_law_cell) : DefOk P w K mg base T "_law_cell" 1 (F_law_cell) := by
  refine mk_def FD sc_law_cell (fun _ _ _ _ _ _ us hl => match us, hl with | [_, _], _ => rfl) ?_ fun cdv hcd A outer s0 H E W0 M0 cs kk ee h hr hz => ?_
  · rintro cs kk ee ⟨ns, k, rfl, _⟩; rfl
  have hN := (sc_law_cell).nd
  obtain ⟨ns, k, rfl, hl, k0, k1, h⟩ := h
  refine dss_cons ?_
  refine ds_if ?_
  refine dt_cmp ?_
  refine de_var 1 rfl ?_
  refine de_callB B.len rfl ?_
  refine da_cons ?_
  refine de_var 0 rfl ?_
  refine da_nil ?_
  refine cd_len rfl rfl (by first | trivial | walk_at "sz") ?_
  refine od_lt rfl rfl ?_
  refine boolR_i ?_
  refine bcase_m (fun h1 => ?_) (fun h1 => ?_)
  · refine dss_one ?_
    refine ds_ret ?_
    obtain ⟨x, ex⟩ := ints_at k0 (by have := of_decide_eq_true h1; rw [List.length_map] at this; exact this)
    refine de_ix ?_
    refine de_var 0 rfl ?_
    refine de_var 1 rfl ?_
    refine ⟨_, _, _, rfl, rfl, ex, (by intro _ hz; cases hz), ?_⟩
    exact ret_dat (by walk_at "rc") (h _) rfl
  · refine dss_nil ?_
    refine dss_cons ?_
    refine ds_if ?_
    refine dt_cmp ?_
    refine de_callB B.len rfl ?_
    refine da_cons ?_
    refine de_var 0 rfl ?_
    refine da_nil ?_
    refine cd_len rfl rfl (by first | trivial | walk_at "sz") ?_
    refine de_int ?_
    first | refine od_eqI rfl rfl (Room.u64 hr) ?_ | refine od_eq rfl rfl (by walk_at "sh") (by walk_at "sh") (Room.u64 hr) ?_
    refine boolR_i ?_
    refine bcase_m (fun h2 => ?_) (fun h2 => ?_)
    · refine dss_one ?_
      refine ds_ret ?_
      refine de_bin ?_
      refine de_bin ?_
      refine de_int ?_
      refine de_var 1 rfl ?_
      first | refine od_mulI rfl rfl (by walk_at "sz") ?_ | refine od_mulTn rfl rfl (List.cons_ne_nil _ _) (by walk_at "sz") (by walk_at "sz") (by walk_at "sz") ?_ | refine od_mulL rfl rfl (by walk_at "sz") (by walk_at "sz") (by walk_at "sz") ?_ | refine od_mulS rfl rfl (by walk_at "sz") (by walk_at "sz") (by walk_at "sz") ?_
      refine de_int ?_
      first | refine od_addI rfl rfl ?_ | refine od_addS rfl rfl (by walk_at "sz") ?_ | refine od_addL rfl rfl (by walk_at "sz") ?_ | refine od_addT rfl rfl (by walk_at "sz") ?_
      exact ret_dat (by walk_at "rc") (h _) rfl
    · refine dss_nil ?_
      refine dss_one ?_
      refine ds_ret ?_
      refine de_bin ?_
      refine de_bin ?_
      have q : ((ns.map PyData.int).length : Int) ≠ 0 := of_decide_eq_false h2
      rw [List.length_map] at q
      obtain ⟨x, ex⟩ := ints_at (ns := ns) (i := k % ns.length) (Int.emod_nonneg _ q) (Int.emod_lt_of_pos _ (by omega))
      rw [show (ns.length : Int) = ((ns.map PyData.int).length : Int) by rw [List.length_map]] at ex
      refine de_ix ?_
      refine de_var 0 rfl ?_
      refine de_bin ?_
      refine de_var 1 rfl ?_
      refine de_callB B.len rfl ?_
      refine da_cons ?_
      refine de_var 0 rfl ?_
      refine da_nil ?_
      refine cd_len rfl rfl (by first | trivial | walk_at "sz") ?_
      refine od_mod rfl rfl (by show (0 : Int) < ((ns.map PyData.int).length : Int); rw [List.length_map]; omega) ?_
      refine ⟨_, _, _, rfl, rfl, ex, (by intro _ hz; cases hz), ?_⟩
      refine de_int ?_
      refine od_mod rfl rfl (by walk_at "sz") ?_
      refine de_bin ?_
      refine de_int ?_
      refine de_var 1 rfl ?_
      first | refine od_mulI rfl rfl (by walk_at "sz") ?_ | refine od_mulTn rfl rfl (List.cons_ne_nil _ _) (by walk_at "sz") (by walk_at "sz") (by walk_at "sz") ?_ | refine od_mulL rfl rfl (by walk_at "sz") (by walk_at "sz") (by walk_at "sz") ?_ | refine od_mulS rfl rfl (by walk_at "sz") (by walk_at "sz") (by walk_at "sz") ?_
      first | refine od_addI rfl rfl ?_ | refine od_addS rfl rfl (by walk_at "sz") ?_ | refine od_addL rfl rfl (by walk_at "sz") ?_ | refine od_addT rfl rfl (by walk_at "sz") ?_
      exact ret_dat (by walk_at "rc") (h _) rfl
abbrev s_law_draws : Stmt := top 33
theorem sc_law_draws : FnScope ["script", "k", "many", "base", "primes", "cell", "rest", "row", "j", "mash"] ["script", "k", "many", "base"] (defScope s_law_draws) := ⟨rfl, rfl, rfl, by decide +kernel, rfl, by decide +kernel, by decide +kernel⟩
theorem ok_law_draws (B : Gb mg) (G : Gx K mg) (D__law_cell : DefOk P w K mg base T "_law_cell" 1 (F_law_cell)) (FD : FdP K mg "_law_draws" s_law_draws) : DefOk P w K mg base T "_law_draws" 2 (F_law_draws) := by
  refine mk_def FD sc_law_draws (fun _ _ _ _ _ _ us hl => match us, hl with | [_, _, _, _], _ => rfl) ?_ fun cdv hcd A outer s0 H E W0 M0 cs kk ee h hr hz => ?_
  · rintro cs kk ee ⟨ns, k, m, b, rfl, _⟩; rfl
  have hN := (sc_law_draws).nd
  have D__law_cell_mono : MonoF (F_law_cell) := m_law_cell
  obtain ⟨ns, k, m, b, rfl, hl, k0, k1, m0, m1, b0, b1, h⟩ := h
  refine dss_cons ?_
  refine ds_set 4 ?_
  refine de_tup ?_
  refine da_cons ?_
  refine de_int ?_
  refine da_cons ?_
  refine de_int ?_
  refine da_cons ?_
  refine de_int ?_
  refine da_cons ?_
  refine de_int ?_
  refine da_cons ?_
  refine de_int ?_
  refine da_cons ?_
  refine de_int ?_
  refine da_cons ?_
  refine de_int ?_
  refine da_cons ?_
  refine de_int ?_
  refine da_nil ?_
  refine ⟨_, rfl, (by walk_at "sz"), ?_⟩
  refine ⟨_, rfl, ?_⟩
  refine dss_cons ?_
  refine ds_set 5 ?_
  refine de_call D__law_cell D__law_cell_mono (hr.mono (by decide)) hz ?_
  refine da_cons ?_
  refine de_var 0 rfl ?_
  refine da_cons ?_
  refine de_var 1 rfl ?_
  refine da_nil ?_
  refine ⟨_, rfl, (by first | exact List.Pairwise.nil | exact nd1 _ | simp [lent]), ?_⟩
  refine ⟨_, _, rfl, hl, k0, k1, fun cell => ⟨trivial, ?_⟩⟩
  refine ⟨_, rfl, ?_⟩
  refine dss_cons ?_
  refine ds_set 6 ?_
  refine de_int ?_
  refine ⟨_, rfl, ?_⟩
  refine dss_cons ?_
  refine ds_is (P := fun ρ' => ∃ x : Int, ρ' = [some (.dat (.list (ns.map .int))), some (.dat (.int k)), some (.dat (.int m)), some (.dat (.int b)), some (.dat primesD), some (.dat (.int cell)), some (.dat (.int x)), none, none, none]) ?_ ?_
  · refine ds_if ?_
    refine dt_cmp ?_
    refine de_var 5 rfl ?_
    refine de_bin ?_
    refine de_int ?_
    refine de_int ?_
    refine od_pow rfl rfl ⟨by decide, by decide, by decide⟩ ?_
    refine od_ge rfl rfl ?_
    refine boolR_i ?_
    refine bcase_m (fun h1 => ?_) (fun h1 => ?_)
    · refine dss_one ?_
      refine ds_set 6 ?_
      refine de_var 5 rfl ?_
      refine ⟨_, rfl, ?_⟩
      exact ⟨_, rfl⟩
    · refine dss_nil ?_
      exact ⟨_, rfl⟩
  · rintro _ ⟨x, rfl⟩
    refine dss_cons ?_
    refine ds_own 7 ?_
    refine de_lst ?_
    refine da_nil ?_
    refine ⟨_, rfl, (by walk_at "sz"), ?_⟩
    refine ⟨_, rfl, fun a7 => ?_⟩
    refine dss_cons ?_
    refine ds_for ?_
    refine di_range1 B.range ?_
    refine da_cons ?_
    refine de_var 2 rfl ?_
    refine da_nil ?_
    refine ⟨_, rfl, (by walk_at "sz"), (by walk_at "sz"), ?_⟩
    refine ⟨fun r ρ' => ∃ (x : Int) (acc : List Int) (c1 c2 : Option C), ρ' = [some (.dat (.list (ns.map .int))), some (.dat (.int k)), some (.dat (.int m)), some (.dat (.int b)), some (.dat primesD), some (.dat (.int cell)), some (.dat (.int x)), some (.own a7 (.lst (acc.map .int))), c1, c2] ∧ acc.length + r.length ≤ 1000 ∧ ∀ d ∈ r, ∃ j : Int, d = .int j ∧ 0 ≤ j ∧ j ≤ 1000, ⟨_, [], _, _, rfl, by rw [rng_len]; simp only [List.length_nil]; omega, fun d hd => by obtain ⟨j, e, q1, q2⟩ := rng_mem hd; exact ⟨j, e, q1, by omega⟩⟩, fun _ _ _ => trivial, ?_, ?_⟩
    · rintro ρ' ⟨x, acc, c1, c2, rfl, _, _⟩
      refine dss_one ?_
      refine ds_ret ?_
      refine de_var 7 rfl ?_
      exact ret_slot (by walk_at "rc") (by simp) rfl (h acc) rfl
    · rintro d r ρ' ⟨x, acc, c1, c2, rfl, hal, hr2⟩
      obtain ⟨j, rfl, j0, j1⟩ := hr2 d (List.mem_cons_self ..)
      rw [List.length_cons] at hal
      have haz : (acc.map PyData.int).length < sizeLine := by rw [List.length_map, sizeLine_eq]; omega
      refine dg_name 8 ?_
      refine dss_cons ?_
      refine ds_set 9 ?_
      refine de_bin ?_
      refine de_bin ?_
      refine de_var 5 rfl ?_
      obtain ⟨p1, e1, p1a, p1b⟩ := primes_at j
      refine de_ix ?_
      refine de_var 4 rfl ?_
      refine de_bin ?_
      refine de_var 8 rfl ?_
      refine de_int ?_
      refine od_mod rfl rfl (by walk_at "sz") ?_
      refine ⟨_, _, _, rfl, rfl, e1, (by intro _ hz; cases hz), ?_⟩
      refine od_mod rfl rfl (by walk_at "sz") ?_
      refine de_bin ?_
      refine de_int ?_
      refine de_bin ?_
      refine de_bin ?_
      refine de_int ?_
      refine de_var 8 rfl ?_
      first | refine od_mulI rfl rfl (by walk_at "sz") ?_ | refine od_mulTn rfl rfl (List.cons_ne_nil _ _) (by walk_at "sz") (by walk_at "sz") (by walk_at "sz") ?_ | refine od_mulL rfl rfl (by walk_at "sz") (by walk_at "sz") (by walk_at "sz") ?_ | refine od_mulS rfl rfl (by walk_at "sz") (by walk_at "sz") (by walk_at "sz") ?_
      refine de_var 8 rfl ?_
      first | refine od_mulI rfl rfl (by walk_at "sz") ?_ | refine od_mulTn rfl rfl (List.cons_ne_nil _ _) (by walk_at "sz") (by walk_at "sz") (by walk_at "sz") ?_ | refine od_mulL rfl rfl (by walk_at "sz") (by walk_at "sz") (by walk_at "sz") ?_ | refine od_mulS rfl rfl (by walk_at "sz") (by walk_at "sz") (by walk_at "sz") ?_
      first | refine od_addI rfl rfl ?_ | refine od_addS rfl rfl (by walk_at "sz") ?_ | refine od_addL rfl rfl (by walk_at "sz") ?_ | refine od_addT rfl rfl (by walk_at "sz") ?_
      first | refine od_mulI rfl rfl (by walk_at "sz") ?_ | refine od_mulTn rfl rfl (List.cons_ne_nil _ _) (by walk_at "sz") (by walk_at "sz") (by walk_at "sz") ?_ | refine od_mulL rfl rfl (by walk_at "sz") (by walk_at "sz") (by walk_at "sz") ?_ | refine od_mulS rfl rfl (by walk_at "sz") (by walk_at "sz") (by walk_at "sz") ?_
      refine ⟨_, rfl, ?_⟩
      refine dss_cons ?_
      refine ds_set 9 ?_
      refine de_bin ?_
      refine de_bin ?_
      refine de_var 9 rfl ?_
      refine de_bin ?_
      refine de_bin ?_
      refine de_int ?_
      refine de_bin ?_
      refine de_var 8 rfl ?_
      refine de_int ?_
      first | refine od_addI rfl rfl ?_ | refine od_addS rfl rfl (by walk_at "sz") ?_ | refine od_addL rfl rfl (by walk_at "sz") ?_ | refine od_addT rfl rfl (by walk_at "sz") ?_
      first | refine od_mulI rfl rfl (by walk_at "sz") ?_ | refine od_mulTn rfl rfl (List.cons_ne_nil _ _) (by walk_at "sz") (by walk_at "sz") (by walk_at "sz") ?_ | refine od_mulL rfl rfl (by walk_at "sz") (by walk_at "sz") (by walk_at "sz") ?_ | refine od_mulS rfl rfl (by walk_at "sz") (by walk_at "sz") (by walk_at "sz") ?_
      refine de_bin ?_
      refine de_var 8 rfl ?_
      refine de_int ?_
      first | refine od_addI rfl rfl ?_ | refine od_addS rfl rfl (by walk_at "sz") ?_ | refine od_addL rfl rfl (by walk_at "sz") ?_ | refine od_addT rfl rfl (by walk_at "sz") ?_
      first | refine od_mulI rfl rfl (by walk_at "sz") ?_ | refine od_mulTn rfl rfl (List.cons_ne_nil _ _) (by walk_at "sz") (by walk_at "sz") (by walk_at "sz") ?_ | refine od_mulL rfl rfl (by walk_at "sz") (by walk_at "sz") (by walk_at "sz") ?_ | refine od_mulS rfl rfl (by walk_at "sz") (by walk_at "sz") (by walk_at "sz") ?_
      first | refine od_addI rfl rfl ?_ | refine od_addS rfl rfl (by walk_at "sz") ?_ | refine od_addL rfl rfl (by walk_at "sz") ?_ | refine od_addT rfl rfl (by walk_at "sz") ?_
      refine de_bin ?_
      refine de_int ?_
      refine de_var 1 rfl ?_
      first | refine od_mulI rfl rfl (by walk_at "sz") ?_ | refine od_mulTn rfl rfl (List.cons_ne_nil _ _) (by walk_at "sz") (by walk_at "sz") (by walk_at "sz") ?_ | refine od_mulL rfl rfl (by walk_at "sz") (by walk_at "sz") (by walk_at "sz") ?_ | refine od_mulS rfl rfl (by walk_at "sz") (by walk_at "sz") (by walk_at "sz") ?_
      first | refine od_addI rfl rfl ?_ | refine od_addS rfl rfl (by walk_at "sz") ?_ | refine od_addL rfl rfl (by walk_at "sz") ?_ | refine od_addT rfl rfl (by walk_at "sz") ?_
      refine ⟨_, rfl, ?_⟩
      refine dss_cons ?_
      refine ds_set 9 ?_
      refine de_bin ?_
      refine de_var 9 rfl ?_
      obtain ⟨p2, e2, p2a, p2b⟩ := primes_at (3 * j + k)
      refine de_ix ?_
      refine de_var 4 rfl ?_
      refine de_bin ?_
      refine de_bin ?_
      refine de_bin ?_
      refine de_int ?_
      refine de_var 8 rfl ?_
      first | refine od_mulI rfl rfl (by walk_at "sz") ?_ | refine od_mulTn rfl rfl (List.cons_ne_nil _ _) (by walk_at "sz") (by walk_at "sz") (by walk_at "sz") ?_ | refine od_mulL rfl rfl (by walk_at "sz") (by walk_at "sz") (by walk_at "sz") ?_ | refine od_mulS rfl rfl (by walk_at "sz") (by walk_at "sz") (by walk_at "sz") ?_
      refine de_var 1 rfl ?_
      first | refine od_addI rfl rfl ?_ | refine od_addS rfl rfl (by walk_at "sz") ?_ | refine od_addL rfl rfl (by walk_at "sz") ?_ | refine od_addT rfl rfl (by walk_at "sz") ?_
      refine de_int ?_
      refine od_mod rfl rfl (by walk_at "sz") ?_
      refine ⟨_, _, _, rfl, rfl, e2, (by intro _ hz; cases hz), ?_⟩
      refine od_mod rfl rfl (by walk_at "sz") ?_
      refine ⟨_, rfl, ?_⟩
      refine dss_cons ?_
      refine ds_set 9 ?_
      refine de_bin ?_
      refine de_bin ?_
      refine de_bin ?_
      refine de_var 9 rfl ?_
      refine de_var 9 rfl ?_
      first | refine od_mulI rfl rfl (by walk_at "sz") ?_ | refine od_mulTn rfl rfl (List.cons_ne_nil _ _) (by walk_at "sz") (by walk_at "sz") (by walk_at "sz") ?_ | refine od_mulL rfl rfl (by walk_at "sz") (by walk_at "sz") (by walk_at "sz") ?_ | refine od_mulS rfl rfl (by walk_at "sz") (by walk_at "sz") (by walk_at "sz") ?_
      refine de_var 9 rfl ?_
      first | refine od_mulI rfl rfl (by walk_at "sz") ?_ | refine od_mulTn rfl rfl (List.cons_ne_nil _ _) (by walk_at "sz") (by walk_at "sz") (by walk_at "sz") ?_ | refine od_mulL rfl rfl (by walk_at "sz") (by walk_at "sz") (by walk_at "sz") ?_ | refine od_mulS rfl rfl (by walk_at "sz") (by walk_at "sz") (by walk_at "sz") ?_
      obtain ⟨p3, e3, p3a, p3b⟩ := primes_at (j + 5)
      refine de_ix ?_
      refine de_var 4 rfl ?_
      refine de_bin ?_
      refine de_bin ?_
      refine de_var 8 rfl ?_
      refine de_int ?_
      first | refine od_addI rfl rfl ?_ | refine od_addS rfl rfl (by walk_at "sz") ?_ | refine od_addL rfl rfl (by walk_at "sz") ?_ | refine od_addT rfl rfl (by walk_at "sz") ?_
      refine de_int ?_
      refine od_mod rfl rfl (by walk_at "sz") ?_
      refine ⟨_, _, _, rfl, rfl, e3, (by intro _ hz; cases hz), ?_⟩
      refine od_mod rfl rfl (by walk_at "sz") ?_
      refine ⟨_, rfl, ?_⟩
      refine dss_cons ?_
      refine ds_if ?_
      refine dt_cmp ?_
      refine de_var 6 rfl ?_
      refine de_int ?_
      refine od_gt rfl rfl ?_
      refine boolR_i ?_
      refine bcase_m (fun h2 => ?_) (fun h2 => ?_)
      · refine dss_one ?_
        refine ds_set 9 ?_
        refine de_var 6 rfl ?_
        refine ⟨_, rfl, ?_⟩
        refine dss_cons ?_
        refine ds_expr ?_
        refine de_bm F.plainAttrs_list F.slot_list_append F.type_list_append ?_
        refine de_var 7 rfl ?_
        refine ⟨⟨_, rfl⟩, ?_⟩
        refine da_cons ?_
        refine de_bin ?_
        refine de_var 9 rfl ?_
        refine de_var 3 rfl ?_
        refine od_mod rfl rfl (by walk_at "sz") ?_
        refine da_nil ?_
        refine cd_append rfl rfl (by walk_at "sz") ?_
        refine dss_one ?_
        refine ds_set 6 ?_
        refine de_bin ?_
        refine de_var 6 rfl ?_
        refine de_var 3 rfl ?_
        refine od_fdiv rfl rfl (by walk_at "sz") ?_
        refine ⟨_, rfl, ?_⟩
        refine ⟨_, acc ++ [_], _, _, by rw [List.map_append]; rfl, by rw [List.length_append]; simp only [List.length_cons, List.length_nil]; omega, fun d hd => hr2 d (List.mem_cons_of_mem _ hd)⟩
      · refine dss_nil ?_
        refine dss_cons ?_
        refine ds_expr ?_
        refine de_bm F.plainAttrs_list F.slot_list_append F.type_list_append ?_
        refine de_var 7 rfl ?_
        refine ⟨⟨_, rfl⟩, ?_⟩
        refine da_cons ?_
        refine de_bin ?_
        refine de_var 9 rfl ?_
        refine de_var 3 rfl ?_
        refine od_mod rfl rfl (by walk_at "sz") ?_
        refine da_nil ?_
        refine cd_append rfl rfl (by walk_at "sz") ?_
        refine dss_one ?_
        refine ds_set 6 ?_
        refine de_bin ?_
        refine de_var 6 rfl ?_
        refine de_var 3 rfl ?_
        refine od_fdiv rfl rfl (by walk_at "sz") ?_
        refine ⟨_, rfl, ?_⟩
        refine ⟨_, acc ++ [_], _, _, by rw [List.map_append]; rfl, by rw [List.length_append]; simp only [List.length_cons, List.length_nil]; omega, fun d hd => hr2 d (List.mem_cons_of_mem _ hd)⟩
abbrev s_law_bag : Stmt := top 34
theorem sc_law_bag : FnScope ["script", "k"] ["script", "k"] (defScope s_law_bag) := ⟨rfl, rfl, rfl, by decide +kernel, rfl, by decide +kernel, by decide +kernel⟩
theorem ok_law_bag (B : Gb mg) (G : Gx K mg) (D__law_draws : DefOk P w K mg base T "_law_draws" 2 (F_law_draws)) (FD : FdP K mg "_law_bag" s_law_bag) : DefOk P w K mg base T "_law_bag" 3 (F_law_bag) := by
  refine mk_def FD sc_law_bag (fun _ _ _ _ _ _ us hl => match us, hl with | [_, _], _ => rfl) ?_ fun cdv hcd A outer s0 H E W0 M0 cs kk ee h hr hz => ?_
  · rintro cs kk ee ⟨ns, k, rfl, _⟩; rfl
  have hN := (sc_law_bag).nd
  have D__law_draws_mono : MonoF (F_law_draws) := m_law_draws
  obtain ⟨ns, k, rfl, hl, k0, k1, h⟩ := h
  refine dss_one ?_
  refine ds_ret ?_
  refine de_call D__law_draws D__law_draws_mono (hr.mono (by decide)) hz ?_
  refine da_cons ?_
  refine de_var 0 rfl ?_
  refine da_cons ?_
  refine de_var 1 rfl ?_
  refine da_cons ?_
  refine de_int ?_
  refine da_cons ?_
  refine de_int ?_
  refine da_nil ?_
  refine ⟨_, rfl, (by first | exact List.Pairwise.nil | exact nd1 _ | simp [lent]), ?_⟩
  refine ⟨_, _, _, _, rfl, hl, k0, k1, (by decide), (by decide), (by decide), (by decide), fun ms => ⟨trivial, ?_⟩⟩
  exact ret_frs (by walk_at "rc") (h ms) rfl
abbrev s_law_take : Stmt := top 35
theorem sc_law_take : FnScope ["bag", "many", "draw"] ["bag", "many"] (defScope s_law_take) := ⟨rfl, rfl, rfl, by decide +kernel, rfl, by decide +kernel, by decide +kernel⟩
theorem ok_law_take (B : Gb mg) (G : Gx K mg)  (FD : FdP K mg "_law_take" s_law_take) : DefOk P w K mg base T "_law_take" 1 (F_law_take) := by
  refine mk_def FD sc_law_take (fun _ _ _ _ _ _ us hl => match us, hl with | [_, _], _ => rfl) ?_ fun cdv hcd A outer s0 H E W0 M0 cs kk ee h hr hz => ?_
  · rintro cs kk ee ⟨a, ns, m, rfl, _⟩; rfl
  have hN := (sc_law_take).nd
  obtain ⟨a, ns, m, rfl, hm, h⟩ := h
  refine dss_cons ?_
  refine ds_set 2 ?_
  refine de_if ?_
  refine dt_cmp ?_
  refine de_var 0 rfl ?_
  refine de_lst ?_
  refine da_nil ?_
  refine ⟨_, rfl, (by walk_at "sz"), ?_⟩
  refine od_neP rfl rfl (plain_ints _) rfl (Nat.le_of_ble_eq_true rfl) (Room.u64 hr) ?_
  refine boolR_i ?_
  refine bcase_m (fun h1 => ?_) (fun h1 => ?_)
  · obtain ⟨n, ns, rfl⟩ : ∃ n ns2, ns = n :: ns2 := by
      cases ns with
      | nil => cases h1
      | cons n r => exact ⟨n, r, rfl⟩
    refine de_bm F.plainAttrs_list F.slot_list_pop F.type_list_pop ?_
    refine de_var 0 rfl ?_
    refine ⟨⟨_, rfl⟩, ?_⟩
    refine da_cons ?_
    refine de_int ?_
    refine da_nil ?_
    refine cd_pop (i := 0) rfl rfl (by decide) (by decide) (pop0 _ _) rfl ?_
    refine ⟨_, rfl, ?_⟩
    refine dss_one ?_
    refine ds_ret ?_
    refine de_bin ?_
    refine de_callT B.int rfl ?_
    refine da_cons ?_
    refine de_var 2 rfl ?_
    refine da_nil ?_
    first | refine cd_intI rfl ?_ | refine cd_intB rfl ?_
    refine de_var 1 rfl ?_
    refine od_mod rfl rfl (by walk_at "sz") ?_
    exact ret_dat (by walk_at "rc") (h _ ns (Int.emod_nonneg _ (Int.ne_of_gt hm)) (Int.emod_lt_of_pos _ hm)) rfl
  · refine de_int ?_
    refine ⟨_, rfl, ?_⟩
    refine dss_one ?_
    refine ds_ret ?_
    refine de_bin ?_
    refine de_callT B.int rfl ?_
    refine da_cons ?_
    refine de_var 2 rfl ?_
    refine da_nil ?_
    first | refine cd_intI rfl ?_ | refine cd_intB rfl ?_
    refine de_var 1 rfl ?_
    refine od_mod rfl rfl (by walk_at "sz") ?_
    exact ret_dat (by walk_at "rc") (h _ ns (Int.emod_nonneg _ (Int.ne_of_gt hm)) (Int.emod_lt_of_pos _ hm)) rfl
abbrev s_law_choice : Stmt := top 36
theorem sc_law_choice : FnScope ["bag", "some"] ["bag", "some"] (defScope s_law_choice) := ⟨rfl, rfl, rfl, by decide +kernel, rfl, by decide +kernel, by decide +kernel⟩
theorem ok_law_choice (B : Gb mg) (G : Gx K mg) (D__law_take : DefOk P w K mg base T "_law_take" 1 (F_law_take)) (FD : FdP K mg "_law_choice" s_law_choice) : DefOk P w K mg base T "_law_choice" 2 (F_law_choice) := by
  refine mk_def FD sc_law_choice (fun _ _ _ _ _ _ us hl => match us, hl with | [_, _], _ => rfl) ?_ fun cdv hcd A outer s0 H E W0 M0 cs kk ee h hr hz => ?_
  · rintro cs kk ee ⟨a, ns, m, rfl, _⟩; rfl
  have hN := (sc_law_choice).nd
  have D__law_take_mono : MonoF (F_law_take) := m_law_take
  obtain ⟨a, ns, ds, rfl, hd, hn, h⟩ := h
  have hd0 : 0 < ds.length := List.length_pos_iff.mpr hd
  refine dss_one ?_
  refine ds_ret ?_
  refine de_ix ?_
  refine de_var 1 rfl ?_
  refine de_call D__law_take D__law_take_mono (hr.mono (by decide)) hz ?_
  refine da_cons ?_
  refine de_var 0 rfl ?_
  refine da_cons ?_
  refine de_callB B.len rfl ?_
  refine da_cons ?_
  refine de_var 1 rfl ?_
  refine da_nil ?_
  refine cd_len rfl rfl (by first | trivial | walk_at "sz") ?_
  refine da_nil ?_
  refine ⟨_, rfl, (by first | exact List.Pairwise.nil | exact nd1 _ | simp [lent]), ?_⟩
  refine ⟨_, _, _, rfl, by omega, fun j ms j0 j1 => ⟨trivial, ?_⟩⟩
  obtain ⟨x, ex, hx⟩ := atI_mem (xs := ds) j0 j1
  refine ⟨_, _, _, rfl, rfl, ex, (by intro _ hz; cases hz), ?_⟩
  exact ret_dat (by walk_at "rc") (h _ ms hx) rfl
abbrev s_law_leans : Stmt := top 38
theorem sc_law_leans : FnScope ["bag", "places", "place"] ["bag", "places"] (defScope s_law_leans) := ⟨rfl, rfl, rfl, by decide +kernel, rfl, by decide +kernel, by decide +kernel⟩
theorem ok_law_leans (B : Gb mg) (G : Gx K mg) (D__law_choice : DefOk P w K mg base T "_law_choice" 2 (F_law_choice)) (FD : FdP K mg "_law_leans" s_law_leans) : DefOk P w K mg base T "_law_leans" 3 (F_law_leans) := by
  refine mk_def FD sc_law_leans (fun _ _ _ _ _ _ us hl => match us, hl with | [_, _], _ => rfl) ?_ fun cdv hcd A outer s0 H E W0 M0 cs kk ee h hr hz => ?_
  · rintro cs kk ee ⟨a, ns, p, rfl, _⟩; rfl
  have hN := (sc_law_leans).nd
  have D__law_choice_mono : MonoF (F_law_choice) := m_law_choice
  obtain ⟨a, ns, p, rfl, p0, p1, h⟩ := h
  refine dss_one ?_
  refine ds_ret ?_
  refine de_callT B.tuple rfl ?_
  refine da_cons ?_
  refine de_lc [("place", 2)] ?_ (ok := blk_by (N := ["bag", "places", "place"]) (psc := (defScope s_law_leans)) (by decide +kernel))
  refine di_range1 B.range ?_
  refine da_cons ?_
  refine de_var 1 rfl ?_
  refine da_nil ?_
  refine ⟨_, rfl, (by walk_at "sz"), (by walk_at "sz"), ?_⟩
  refine ⟨rfl, lc_dem (fun ρ => ∃ ms, ρ = [some (bagC a ms), some (.dat (.int p)), none]) (fun _ y => ∃ l : Int, y = .int l ∧ -9 ≤ l ∧ l ≤ 9) (by rw [rng_len, sizeLine_eq]; omega) ⟨_, rfl⟩ (fun _ _ => trivial) ?_ ?_⟩
  · intro acc ρ' hI hA
    obtain ⟨ms, rfl⟩ := hI
    obtain ⟨ls, rfl, hls, hlen⟩ := hA.from_ PyData.int (fun l => -9 ≤ l ∧ l ≤ 9) fun _ _ q => q
    refine da_nil ?_
    refine cd_tupleOf rfl ?_
    exact ret_dat (by walk_at "rc") (h ls ms (by rw [hlen, rng_len]; omega) hls) rfl
  · intro d hd ρ' hI _ _ _ _ _
    obtain ⟨ms, rfl⟩ := hI
    refine dg_name 2 ?_
    intro _ _ _ _ _
    refine de_call D__law_choice D__law_choice_mono (hr.mono (by decide)) takes_blk ?_
    refine da_cons ?_
    refine de_var 0 rfl ?_
    refine da_cons ?_
    refine de_lst ?_
    refine da_cons ?_
    refine de_int ?_
    refine da_cons ?_
    refine de_int ?_
    refine da_cons ?_
    refine de_int ?_
    refine da_cons ?_
    refine de_int ?_
    refine da_cons ?_
    refine de_neg ?_
    refine de_int ?_
    refine ⟨_, rfl, ?_⟩
    refine da_cons ?_
    refine de_int ?_
    refine da_cons ?_
    refine de_neg ?_
    refine de_int ?_
    refine ⟨_, rfl, ?_⟩
    refine da_cons ?_
    refine de_int ?_
    refine da_nil ?_
    refine ⟨_, rfl, (by walk_at "sz"), ?_⟩
    refine da_nil ?_
    refine ⟨_, rfl, (by first | exact List.Pairwise.nil | exact nd1 _ | simp [lent]), ?_⟩
    refine ⟨_, _, _, rfl, List.cons_ne_nil _ _, (by simp), fun x ms2 qm => ⟨trivial, ?_⟩⟩
    obtain ⟨l, rfl, q1, q2⟩ := int_lh0 (-9) 9 qm rfl
    exact ⟨_, rfl, ⟨l, rfl, q1, q2⟩, _, rfl⟩
abbrev s_law_web : Stmt := top 39
theorem sc_law_web : FnScope ["bag", "places", "pulls", "dense", "one", "other"] ["bag", "places"] (defScope s_law_web) := ⟨rfl, rfl, rfl, by decide +kernel, rfl, by decide +kernel, by decide +kernel⟩
theorem ok_law_web (B : Gb mg) (G : Gx K mg) (D__law_take : DefOk P w K mg base T "_law_take" 1 (F_law_take)) (D__law_choice : DefOk P w K mg base T "_law_choice" 2 (F_law_choice)) (D__law_leans : DefOk P w K mg base T "_law_leans" 3 (F_law_leans)) (FD : FdP K mg "_law_web" s_law_web) : DefOk P w K mg base T "_law_web" 4 (F_law_web) := by
  refine mk_def FD sc_law_web (fun _ _ _ _ _ _ us hl => match us, hl with | [_, _], _ => rfl) ?_ fun cdv hcd A outer s0 H E W0 M0 cs kk ee h hr hz => ?_
  · rintro cs kk ee ⟨a, ns, p, rfl, _⟩; rfl
  have hN := (sc_law_web).nd
  have D__law_take_mono : MonoF (F_law_take) := m_law_take
  have D__law_choice_mono : MonoF (F_law_choice) := m_law_choice
  have D__law_leans_mono : MonoF (F_law_leans) := m_law_leans
  obtain ⟨a, ns, p, rfl, p0, p1, h⟩ := h
  refine dss_cons ?_
  refine ds_parO 2 3 ?_
  refine da_cons ?_
  refine de_lst ?_
  refine da_nil ?_
  refine ⟨_, rfl, (by walk_at "sz"), ?_⟩
  refine da_cons ?_
  refine de_call D__law_choice D__law_choice_mono (hr.mono (by decide)) hz ?_
  refine da_cons ?_
  refine de_var 0 rfl ?_
  refine da_cons ?_
  refine de_lst ?_
  refine da_cons ?_
  refine de_int ?_
  refine da_cons ?_
  refine de_int ?_
  refine da_cons ?_
  refine de_int ?_
  refine da_nil ?_
  refine ⟨_, rfl, (by walk_at "sz"), ?_⟩
  refine da_nil ?_
  refine ⟨_, rfl, (by first | exact List.Pairwise.nil | exact nd1 _ | simp [lent]), ?_⟩
  refine ⟨_, _, _, rfl, List.cons_ne_nil _ _, (by simp), fun dn ms2 qm => ⟨trivial, ?_⟩⟩
  obtain ⟨dn, rfl, dn0, dn1, _⟩ := int_lh 1 3 qm rfl
  refine da_nil ?_
  refine ⟨_, _, rfl, fun a2 => ?_⟩
  refine dss_cons ?_
  refine ds_for ?_
  refine di_range1 B.range ?_
  refine da_cons ?_
  refine de_var 1 rfl ?_
  refine da_nil ?_
  refine ⟨_, rfl, (by walk_at "sz"), (by walk_at "sz"), ?_⟩
  refine ⟨fun r ρ' => ∃ (ms : List Int) (acc : List (Int × Int × Int)) (i : Int) (n : Nat) (c1 c2 : Option C), ρ' = [some (bagC a ms), some (.dat (.int p)), some (.own a2 (.lst (acc.map pD))), some (.dat (.int dn)), c1, c2] ∧ r = rng i n ∧ i + n = p ∧ 0 ≤ i ∧ GoodP p acc ∧ (∀ t ∈ acc, under i 0 t) ∧ (acc.length : Int) ≤ 7 * i, ⟨_, [], 0, p.toNat, _, _, rfl, rfl, by omega, by omega, ⟨by simp, .nil⟩, by simp, by simp⟩, fun _ _ _ => trivial, ?_, ?_⟩
  · rintro ρ' ⟨ms, acc, i, n, c1, c2, rfl, er, ein, i0, gp, gu, gl⟩
    have en := rng_nil er
    have gl2 : acc.length ≤ 200 := by omega
    refine dss_one ?_
    refine ds_ret ?_
    refine de_tup ?_
    refine da_cons ?_
    refine de_var 1 rfl ?_
    refine da_cons ?_
    refine de_callT B.tuple rfl ?_
    refine da_cons ?_
    refine de_var 2 rfl ?_
    refine da_nil ?_
    refine cd_tupleOf rfl ?_
    refine da_cons ?_
    refine de_call D__law_leans D__law_leans_mono (hr.mono (by decide)) hz ?_
    refine da_cons ?_
    refine de_var 0 rfl ?_
    refine da_cons ?_
    refine de_var 1 rfl ?_
    refine da_nil ?_
    refine ⟨_, rfl, (by first | exact List.Pairwise.nil | exact nd1 _ | simp [lent]), ?_⟩
    refine ⟨_, _, _, rfl, by omega, by omega, fun ls ms5 hl1 hl2 => ⟨trivial, ?_⟩⟩
    refine da_nil ?_
    refine ⟨_, rfl, (by walk_at "sz"), ?_⟩
    exact ret_dat (by walk_at "rc") (h acc ls ms5 ⟨p0, p1, gp, gl2, hl1, hl2⟩) rfl
  · rintro d r ρ' ⟨ms, acc, i, n, c1, c2, rfl, er, ein, i0, gp, gu, gl⟩
    obtain ⟨n, rfl, rfl, rfl⟩ := rng_uncons er
    refine dg_name 4 ?_
    refine dss_one ?_
    refine ds_for ?_
    refine di_range1 B.range ?_
    refine da_cons ?_
    refine de_var 1 rfl ?_
    refine da_nil ?_
    refine ⟨_, rfl, (by walk_at "sz"), (by walk_at "sz"), ?_⟩
    refine ⟨fun r ρ' => ∃ (ms : List Int) (acc : List (Int × Int × Int)) (j : Int) (n : Nat) (c2 : Option C), ρ' = [some (bagC a ms), some (.dat (.int p)), some (.own a2 (.lst (acc.map pD))), some (.dat (.int dn)), some (.dat (.int i)), c2] ∧ r = rng j n ∧ j + n = p ∧ 0 ≤ j ∧ GoodP p acc ∧ (∀ t ∈ acc, under i j t) ∧ (acc.length : Int) ≤ 7 * i + j, ⟨_, acc, 0, p.toNat, _, rfl, rfl, by omega, by omega, gp, gu, by omega⟩, fun _ _ _ => trivial, ?_, ?_⟩
    · rintro ρ' ⟨ms, acc, j, n2, c2, rfl, er, ejn, j0, gp, gu, gl⟩
      have en := rng_nil er
      exact ⟨_, acc, i + 1, n, _, _, rfl, rfl, by omega, by omega, gp, fun t ht => under_up (gu t ht) (.inl (by omega)), by omega⟩
    · rintro d r ρ' ⟨ms, acc, j, n, c2, rfl, er, ejn, j0, gp, gu, gl⟩
      obtain ⟨n, rfl, rfl, rfl⟩ := rng_uncons er
      have haz : (acc.map pD).length < sizeLine := by rw [List.length_map, sizeLine_eq]; omega
      refine dg_name 5 ?_
      refine dss_one ?_
      refine ds_if ?_
      refine dt_w ?_
      refine dw_and ?_
      refine dt_cmp ?_
      refine de_var 4 rfl ?_
      refine de_var 5 rfl ?_
      first | refine od_neI rfl rfl (Room.u64 hr) ?_ | refine od_ne rfl rfl (by walk_at "sh") (by walk_at "sh") (Room.u64 hr) ?_
      refine boolR_i ?_
      refine bcase_m (fun h1 => ?_) (fun h1 => ?_)
      · refine dw_and1 ?_
        refine dt_cmp ?_
        refine de_call D__law_take D__law_take_mono (hr.mono (by decide)) hz ?_
        refine da_cons ?_
        refine de_var 0 rfl ?_
        refine da_cons ?_
        refine de_int ?_
        refine da_nil ?_
        refine ⟨_, rfl, (by first | exact List.Pairwise.nil | exact nd1 _ | simp [lent]), ?_⟩
        refine ⟨_, _, _, rfl, (show (0 : Int) < 4 by decide), fun x ms3 q0 q1 => ⟨trivial, ?_⟩⟩
        refine de_var 3 rfl ?_
        refine od_lt rfl rfl ?_
        refine boolR_i ?_
        refine bcase_m (fun h2 => ?_) (fun h2 => ?_)
        · refine dss_one ?_
          refine ds_expr ?_
          refine de_bm F.plainAttrs_list F.slot_list_append F.type_list_append ?_
          refine de_var 2 rfl ?_
          refine ⟨⟨_, rfl⟩, ?_⟩
          refine da_cons ?_
          refine de_tup ?_
          refine da_cons ?_
          refine de_var 4 rfl ?_
          refine da_cons ?_
          refine de_var 5 rfl ?_
          refine da_cons ?_
          refine de_call D__law_choice D__law_choice_mono (hr.mono (by decide)) hz ?_
          refine da_cons ?_
          refine de_var 0 rfl ?_
          refine da_cons ?_
          refine de_lst ?_
          refine da_cons ?_
          refine de_int ?_
          refine da_cons ?_
          refine de_int ?_
          refine da_cons ?_
          refine de_neg ?_
          refine de_int ?_
          refine ⟨_, rfl, ?_⟩
          refine da_cons ?_
          refine de_int ?_
          refine da_cons ?_
          refine de_neg ?_
          refine de_int ?_
          refine ⟨_, rfl, ?_⟩
          refine da_cons ?_
          refine de_int ?_
          refine da_cons ?_
          refine de_int ?_
          refine da_cons ?_
          refine de_neg ?_
          refine de_int ?_
          refine ⟨_, rfl, ?_⟩
          refine da_nil ?_
          refine ⟨_, rfl, (by walk_at "sz"), ?_⟩
          refine da_nil ?_
          refine ⟨_, rfl, (by first | exact List.Pairwise.nil | exact nd1 _ | simp [lent]), ?_⟩
          refine ⟨_, _, _, rfl, List.cons_ne_nil _ _, (by simp), fun x2 ms4 qm => ⟨trivial, ?_⟩⟩
          obtain ⟨wt, rfl, w0, w1, w2⟩ := int_lh (-9) 9 qm rfl
          refine da_nil ?_
          refine ⟨_, rfl, (by walk_at "sz"), ?_⟩
          refine da_nil ?_
          refine cd_append rfl rfl (by walk_at "sz") ?_
          have hne := of_decide_eq_true h1
          obtain ⟨gp2, gu2⟩ := goodP_add (w := wt) gp gu ⟨⟨by dsimp only; omega, by dsimp only; omega, by dsimp only; omega, by dsimp only; omega⟩, hne, w0, w1, w2⟩
          exact ⟨_, acc ++ [(i, j, wt)], j + 1, n, _, by rw [List.map_append]; rfl, rfl, by omega, by omega, gp2, gu2, by rw [List.length_append]; simp only [List.length_cons, List.length_nil]; omega⟩
        · refine dss_nil ?_
          exact ⟨_, acc, j + 1, n, _, rfl, rfl, by omega, by omega, gp, fun t ht => under_up (gu t ht) (.inr ⟨rfl, by omega⟩), by omega⟩
      · refine bcase_f ?_
        refine dss_nil ?_
        exact ⟨_, acc, j + 1, n, _, rfl, rfl, by omega, by omega, gp, fun t ht => under_up (gu t ht) (.inr ⟨rfl, by omega⟩), by omega⟩
abbrev s_law_even : Stmt := top 40
theorem sc_law_even : FnScope ["bag", "places", "scales", "rows", "one", "other", "weight", "place"] ["bag", "places"] (defScope s_law_even) := ⟨rfl, rfl, rfl, by decide +kernel, rfl, by decide +kernel, by decide +kernel⟩
theorem ok_law_even (B : Gb mg) (G : Gx K mg) (D__law_take : DefOk P w K mg base T "_law_take" 1 (F_law_take)) (D__law_choice : DefOk P w K mg base T "_law_choice" 2 (F_law_choice)) (D__law_leans : DefOk P w K mg base T "_law_leans" 3 (F_law_leans)) (FD : FdP K mg "_law_even" s_law_even) : DefOk P w K mg base T "_law_even" 4 (F_law_even) := by
  refine mk_def FD sc_law_even (fun _ _ _ _ _ _ us hl => match us, hl with | [_, _], _ => rfl) ?_ fun cdv hcd A outer s0 H E W0 M0 cs kk ee h hr hz => ?_
  · rintro cs kk ee ⟨a, ns, p, rfl, _⟩; rfl
  have hN := (sc_law_even).nd
  have D__law_take_mono : MonoF (F_law_take) := m_law_take
  have D__law_choice_mono : MonoF (F_law_choice) := m_law_choice
  have D__law_leans_mono : MonoF (F_law_leans) := m_law_leans
  obtain ⟨a, ns, p, rfl, p0, p1, h⟩ := h
  refine dss_cons ?_
  refine ds_parO2 2 3 ?_
  refine da_cons ?_
  refine de_lc [("place", 7)] ?_ (ok := blk_by (N := ["bag", "places", "scales", "rows", "one", "other", "weight", "place"]) (psc := (defScope s_law_even)) (by decide +kernel))
  refine di_range1 B.range ?_
  refine da_cons ?_
  refine de_var 1 rfl ?_
  refine da_nil ?_
  refine ⟨_, rfl, (by walk_at "sz"), (by walk_at "sz"), ?_⟩
  refine ⟨rfl, lc_dem (fun ρ => ∃ ms, ρ = [some (bagC a ms), some (.dat (.int p)), none, none, none, none, none, none]) (fun _ y => ∃ l : Int, y = .int l ∧ 1 ≤ l ∧ l ≤ 3) (by rw [rng_len, sizeLine_eq]; omega) ⟨_, rfl⟩ (fun _ _ => trivial) ?_ ?_⟩
  · intro acc ρ' hI hA
    obtain ⟨ms, rfl⟩ := hI
    obtain ⟨ss, rfl, hss, hlen⟩ := hA.from_ PyData.int (fun l => 1 ≤ l ∧ l ≤ 3) fun _ _ q => q
    rw [rng_len] at hlen
    refine da_cons ?_
    refine de_lst ?_
    refine da_nil ?_
    refine ⟨_, rfl, (by walk_at "sz"), ?_⟩
    refine da_nil ?_
    refine ⟨_, _, _, rfl, rfl, fun a3 => ?_⟩
    refine dss_cons ?_
    refine ds_for ?_
    refine di_range1 B.range ?_
    refine da_cons ?_
    refine de_var 1 rfl ?_
    refine da_nil ?_
    refine ⟨_, rfl, (by walk_at "sz"), (by walk_at "sz"), ?_⟩
    refine ⟨fun r ρ' => ∃ (ms : List Int) (acc : List (Int × Int × Int)) (i : Int) (n : Nat) (c1 c2 c3 : Option C), ρ' = [some (bagC a ms), some (.dat (.int p)), some (.dat (.list (ss.map .int))), some (.own a3 (.lst (acc.map pD))), c1, c2, c3, none] ∧ r = rng i n ∧ i + n = p ∧ 0 ≤ i ∧ Rows p i 0 acc ∧ (acc.length : Int) ≤ 14 * i, ⟨_, [], 0, p.toNat, _, _, _, rfl, rfl, by omega, by omega, ⟨by simp, .nil, by simp⟩, by simp⟩, fun _ _ _ => trivial, ?_, ?_⟩
    · rintro ρ' ⟨ms, acc, i, n, c1, c2, c3, rfl, er, ein, i0, gp, gl⟩
      have en := rng_nil er
      obtain ⟨qs, eq, ql, gq⟩ := rows_good gp
      refine dss_one ?_
      refine ds_ret ?_
      refine de_tup ?_
      refine da_cons ?_
      refine de_var 1 rfl ?_
      refine da_cons ?_
      refine de_callT B.tuple rfl ?_
      refine da_cons ?_
      refine de_callB B.sorted rfl ?_
      refine da_cons ?_
      refine de_var 3 rfl ?_
      refine da_nil ?_
      refine cd_sorted rfl (pD_alike _) (pD_sort _) (fun d hd => by have := pD_depth _ d hd; have := Room.u64 hr; omega) ?_
      refine da_nil ?_
      refine cd_tupleOf rfl ?_
      refine da_cons ?_
      refine de_call D__law_leans D__law_leans_mono (hr.mono (by decide)) hz ?_
      refine da_cons ?_
      refine de_var 0 rfl ?_
      refine da_cons ?_
      refine de_var 1 rfl ?_
      refine da_nil ?_
      refine ⟨_, rfl, (by first | exact List.Pairwise.nil | exact nd1 _ | simp [lent]), ?_⟩
      refine ⟨_, _, _, rfl, by omega, by omega, fun ls ms5 hl1 hl2 => ⟨trivial, ?_⟩⟩
      refine da_nil ?_
      refine ⟨_, rfl, (by walk_at "sz"), ?_⟩
      exact ret_dat (by walk_at "rc") (h qs ls ms5 ⟨p0, p1, gq, by omega, hl1, hl2⟩) (by rw [eq]; rfl)
    · rintro d r ρ' ⟨ms, acc, i, n, c1, c2, c3, rfl, er, ein, i0, gp, gl⟩
      obtain ⟨n, rfl, rfl, rfl⟩ := rng_uncons er
      refine dg_name 4 ?_
      refine dss_one ?_
      refine ds_for ?_
      refine di_range1 B.range ?_
      refine da_cons ?_
      refine de_var 4 rfl ?_
      refine da_nil ?_
      refine ⟨_, rfl, (by walk_at "sz"), (by walk_at "sz"), ?_⟩
      refine ⟨fun r ρ' => ∃ (ms : List Int) (acc : List (Int × Int × Int)) (j : Int) (n : Nat) (c2 c3 : Option C), ρ' = [some (bagC a ms), some (.dat (.int p)), some (.dat (.list (ss.map .int))), some (.own a3 (.lst (acc.map pD))), some (.dat (.int i)), c2, c3, none] ∧ r = rng j n ∧ j + n = i ∧ 0 ≤ j ∧ Rows p i j acc ∧ (acc.length : Int) ≤ 14 * i + 2 * j, ⟨_, acc, 0, i.toNat, _, _, rfl, rfl, by omega, by omega, gp, by omega⟩, fun _ _ _ => trivial, ?_, ?_⟩
      · rintro ρ' ⟨ms, acc, j, n2, c2, c3, rfl, er, ejn, j0, gp, gl⟩
        have en := rng_nil er
        exact ⟨_, acc, i + 1, n, _, _, _, rfl, rfl, by omega, by omega, gp.up (by omega) (.inl (by omega)), by omega⟩
      · rintro d r ρ' ⟨ms, acc, j, n2, c2, c3, rfl, er, ejn, j0, gp, gl⟩
        obtain ⟨n2, rfl, rfl, rfl⟩ := rng_uncons er
        have haz : (acc.map pD).length < sizeLine := by rw [List.length_map, sizeLine_eq]; omega
        have haz2 : ∀ t, (acc.map pD ++ [t]).length < sizeLine := fun t => by rw [List.length_append, List.length_map, sizeLine_eq]; simp only [List.length_cons, List.length_nil]; omega
        obtain ⟨si, ei, si0, si1⟩ := ints_at2 (i := i) hss i0 (by omega)
        obtain ⟨sj, ej, sj0, sj1⟩ := ints_at2 (i := j) hss j0 (by omega)
        refine dg_name 5 ?_
        refine dss_one ?_
        refine ds_if ?_
        refine dt_cmp ?_
        refine de_call D__law_take D__law_take_mono (hr.mono (by decide)) hz ?_
        refine da_cons ?_
        refine de_var 0 rfl ?_
        refine da_cons ?_
        refine de_int ?_
        refine da_nil ?_
        refine ⟨_, rfl, (by first | exact List.Pairwise.nil | exact nd1 _ | simp [lent]), ?_⟩
        refine ⟨_, _, _, rfl, (show (0 : Int) < 3 by decide), fun x ms3 q0 q1 => ⟨trivial, ?_⟩⟩
        refine de_int ?_
        refine od_gt rfl rfl ?_
        refine boolR_i ?_
        refine bcase_m (fun h1 => ?_) (fun h1 => ?_)
        · refine dss_cons ?_
          refine ds_set 6 ?_
          refine de_call D__law_choice D__law_choice_mono (hr.mono (by decide)) hz ?_
          refine da_cons ?_
          refine de_var 0 rfl ?_
          refine da_cons ?_
          refine de_lst ?_
          refine da_cons ?_
          refine de_int ?_
          refine da_cons ?_
          refine de_int ?_
          refine da_cons ?_
          refine de_neg ?_
          refine de_int ?_
          refine ⟨_, rfl, ?_⟩
          refine da_cons ?_
          refine de_int ?_
          refine da_cons ?_
          refine de_int ?_
          refine da_cons ?_
          refine de_neg ?_
          refine de_int ?_
          refine ⟨_, rfl, ?_⟩
          refine da_nil ?_
          refine ⟨_, rfl, (by walk_at "sz"), ?_⟩
          refine da_nil ?_
          refine ⟨_, rfl, (by first | exact List.Pairwise.nil | exact nd1 _ | simp [lent]), ?_⟩
          refine ⟨_, _, _, rfl, List.cons_ne_nil _ _, (by simp), fun x2 ms4 qm => ⟨trivial, ?_⟩⟩
          obtain ⟨wt, rfl, hw⟩ := int_in (q := fun i => decide (i = 1 ∨ i = -1 ∨ i = 3)) qm rfl
          have hw := of_decide_eq_true hw
          refine ⟨_, rfl, ?_⟩
          refine dss_cons ?_
          refine ds_expr ?_
          refine de_bm F.plainAttrs_list F.slot_list_append F.type_list_append ?_
          refine de_var 3 rfl ?_
          refine ⟨⟨_, rfl⟩, ?_⟩
          refine da_cons ?_
          refine de_tup ?_
          refine da_cons ?_
          refine de_var 4 rfl ?_
          refine da_cons ?_
          refine de_var 5 rfl ?_
          refine da_cons ?_
          refine de_bin ?_
          refine de_var 6 rfl ?_
          refine de_ix ?_
          refine de_var 2 rfl ?_
          refine de_var 4 rfl ?_
          refine ⟨_, _, _, rfl, rfl, ei, (by intro _ hz; cases hz), ?_⟩
          first | refine od_mulI rfl rfl (by walk_at "sz") ?_ | refine od_mulTn rfl rfl (List.cons_ne_nil _ _) (by walk_at "sz") (by walk_at "sz") (by walk_at "sz") ?_ | refine od_mulL rfl rfl (by walk_at "sz") (by walk_at "sz") (by walk_at "sz") ?_ | refine od_mulS rfl rfl (by walk_at "sz") (by walk_at "sz") (by walk_at "sz") ?_
          refine da_nil ?_
          refine ⟨_, rfl, (by walk_at "sz"), ?_⟩
          refine da_nil ?_
          refine cd_append rfl rfl haz ?_
          refine dss_one ?_
          refine ds_expr ?_
          refine de_bm F.plainAttrs_list F.slot_list_append F.type_list_append ?_
          refine de_var 3 rfl ?_
          refine ⟨⟨_, rfl⟩, ?_⟩
          refine da_cons ?_
          refine de_tup ?_
          refine da_cons ?_
          refine de_var 5 rfl ?_
          refine da_cons ?_
          refine de_var 4 rfl ?_
          refine da_cons ?_
          refine de_bin ?_
          refine de_var 6 rfl ?_
          refine de_ix ?_
          refine de_var 2 rfl ?_
          refine de_var 5 rfl ?_
          refine ⟨_, _, _, rfl, rfl, ej, (by intro _ hz; cases hz), ?_⟩
          first | refine od_mulI rfl rfl (by walk_at "sz") ?_ | refine od_mulTn rfl rfl (List.cons_ne_nil _ _) (by walk_at "sz") (by walk_at "sz") (by walk_at "sz") ?_ | refine od_mulL rfl rfl (by walk_at "sz") (by walk_at "sz") (by walk_at "sz") ?_ | refine od_mulS rfl rfl (by walk_at "sz") (by walk_at "sz") (by walk_at "sz") ?_
          refine da_nil ?_
          refine ⟨_, rfl, (by walk_at "sz"), ?_⟩
          refine da_nil ?_
          refine cd_append rfl rfl (haz2 _) ?_
          have gp2 := rows_add (v := wt * si) (w := wt * sj) gp (by omega) (ok_even (by omega) (by omega) (by omega) (by omega) (by omega) hw si0 si1) (ok_even (by omega) (by omega) (by omega) (by omega) (by omega) hw sj0 sj1)
          exact ⟨_, acc ++ [(i, j, wt * si)] ++ [(j, i, wt * sj)], j + 1, n2, _, _, by rw [List.map_append, List.map_append]; rfl, rfl, by omega, by omega, gp2, by rw [List.length_append, List.length_append]; simp only [List.length_cons, List.length_nil]; omega⟩
        · refine dss_nil ?_
          exact ⟨_, acc, j + 1, n2, _, _, rfl, rfl, by omega, by omega, gp.up (by omega) (.inr ⟨rfl, by omega⟩), by omega⟩
  · intro d hd ρ' hI _ _ _ _ _
    obtain ⟨ms, rfl⟩ := hI
    refine dg_name 7 ?_
    intro _ _ _ _ _
    refine de_bin ?_
    refine de_int ?_
    refine de_call D__law_take D__law_take_mono (hr.mono (by decide)) takes_blk ?_
    refine da_cons ?_
    refine de_var 0 rfl ?_
    refine da_cons ?_
    refine de_int ?_
    refine da_nil ?_
    refine ⟨_, rfl, (by first | exact List.Pairwise.nil | exact nd1 _ | simp [lent]), ?_⟩
    refine ⟨_, _, _, rfl, (show (0 : Int) < 3 by decide), fun x ms3 q0 q1 => ⟨trivial, ?_⟩⟩
    first | refine od_addI rfl rfl ?_ | refine od_addS rfl rfl (by walk_at "sz") ?_ | refine od_addL rfl rfl (by walk_at "sz") ?_ | refine od_addT rfl rfl (by walk_at "sz") ?_
    exact ⟨_, rfl, ⟨_, rfl, by omega, by omega⟩, _, rfl⟩
abbrev s_law_some_web : Stmt := top 41
theorem sc_law_some_web : FnScope ["bag", "most", "places"] ["bag", "most"] (defScope s_law_some_web) := ⟨rfl, rfl, rfl, by decide +kernel, rfl, by decide +kernel, by decide +kernel⟩
theorem ok_law_some_web (B : Gb mg) (G : Gx K mg) (D__law_take : DefOk P w K mg base T "_law_take" 1 (F_law_take)) (D__law_even : DefOk P w K mg base T "_law_even" 4 (F_law_even)) (D__law_web : DefOk P w K mg base T "_law_web" 4 (F_law_web)) (FD : FdP K mg "_law_some_web" s_law_some_web) : DefOk P w K mg base T "_law_some_web" 5 (F_law_some_web) := by
  refine mk_def FD sc_law_some_web (fun _ _ _ _ _ _ us hl => match us, hl with | [_, _], _ => rfl) ?_ fun cdv hcd A outer s0 H E W0 M0 cs kk ee h hr hz => ?_
  · rintro cs kk ee ⟨a, ns, p, rfl, _⟩; rfl
  have hN := (sc_law_some_web).nd
  have D__law_take_mono : MonoF (F_law_take) := m_law_take
  have D__law_even_mono : MonoF (F_law_even) := m_law_even
  have D__law_web_mono : MonoF (F_law_web) := m_law_web
  obtain ⟨a, ns, p, rfl, p0, p1, h⟩ := h
  refine dss_cons ?_
  refine ds_set 2 ?_
  refine de_bin ?_
  refine de_int ?_
  refine de_call D__law_take D__law_take_mono (hr.mono (by decide)) hz ?_
  refine da_cons ?_
  refine de_var 0 rfl ?_
  refine da_cons ?_
  refine de_var 1 rfl ?_
  refine da_nil ?_
  refine ⟨_, rfl, (by first | exact List.Pairwise.nil | exact nd1 _ | simp [lent]), ?_⟩
  refine ⟨_, _, _, rfl, by omega, fun x ms3 q0 q1 => ⟨trivial, ?_⟩⟩
  first | refine od_addI rfl rfl ?_ | refine od_addS rfl rfl (by walk_at "sz") ?_ | refine od_addL rfl rfl (by walk_at "sz") ?_ | refine od_addT rfl rfl (by walk_at "sz") ?_
  refine ⟨_, rfl, ?_⟩
  refine dss_one ?_
  refine ds_ret ?_
  refine de_if ?_
  refine dt_cmp ?_
  refine de_call D__law_take D__law_take_mono (hr.mono (by decide)) hz ?_
  refine da_cons ?_
  refine de_var 0 rfl ?_
  refine da_cons ?_
  refine de_int ?_
  refine da_nil ?_
  refine ⟨_, rfl, (by first | exact List.Pairwise.nil | exact nd1 _ | simp [lent]), ?_⟩
  refine ⟨_, _, _, rfl, (show (0 : Int) < 2 by decide), fun x2 ms4 q0 q1 => ⟨trivial, ?_⟩⟩
  refine de_int ?_
  first | refine od_eqI rfl rfl (Room.u64 hr) ?_ | refine od_eq rfl rfl (by walk_at "sh") (by walk_at "sh") (Room.u64 hr) ?_
  refine boolR_i ?_
  refine bcase_m (fun h1 => ?_) (fun h1 => ?_)
  · refine de_call D__law_even D__law_even_mono (hr.mono (by decide)) hz ?_
    refine da_cons ?_
    refine de_var 0 rfl ?_
    refine da_cons ?_
    refine de_var 2 rfl ?_
    refine da_nil ?_
    refine ⟨_, rfl, (by first | exact List.Pairwise.nil | exact nd1 _ | simp [lent]), ?_⟩
    refine ⟨_, _, _, rfl, by omega, by omega, fun ps ls ms5 gw => ⟨trivial, ?_⟩⟩
    exact ret_dat (by walk_at "rc") (h _ ps ls ms5 gw (by omega)) rfl
  · refine de_call D__law_web D__law_web_mono (hr.mono (by decide)) hz ?_
    refine da_cons ?_
    refine de_var 0 rfl ?_
    refine da_cons ?_
    refine de_var 2 rfl ?_
    refine da_nil ?_
    refine ⟨_, rfl, (by first | exact List.Pairwise.nil | exact nd1 _ | simp [lent]), ?_⟩
    refine ⟨_, _, _, rfl, by omega, by omega, fun ps ls ms5 gw => ⟨trivial, ?_⟩⟩
    exact ret_dat (by walk_at "rc") (h _ ps ls ms5 gw (by omega)) rfl
abbrev s_law_bad_webs : Stmt := top 49
theorem sc_law_bad_webs : FnScope ["some"] [] (defScope s_law_bad_webs) := ⟨rfl, rfl, rfl, by decide +kernel, rfl, by decide +kernel, by decide +kernel⟩
theorem ok_law_bad_webs (B : Gb mg) (G : Gx K mg)  (FD : FdP K mg "_law_bad_webs" s_law_bad_webs) : DefOk P w K mg base T "_law_bad_webs" 1 (F_law_bad_webs) := by
  refine mk_def FD sc_law_bad_webs (fun _ _ _ _ _ _ us hl => match us, hl with | [], _ => rfl) ?_ fun cdv hcd A outer s0 H E W0 M0 cs kk ee h hr hz => ?_
  · rintro cs kk ee ⟨rfl, _⟩; rfl
  have hN := (sc_law_bad_webs).nd
  obtain ⟨rfl, h⟩ := h
  refine dss_cons ?_
  refine ds_set 0 ?_
  refine de_lst ?_
  refine da_cons ?_
  refine de_non ?_
  refine da_cons ?_
  refine de_tup ?_
  refine da_nil ?_
  refine ⟨_, rfl, (by walk_at "sz"), ?_⟩
  refine da_cons ?_
  refine de_tup ?_
  refine da_cons ?_
  refine de_int ?_
  refine da_cons ?_
  refine de_tup ?_
  refine da_nil ?_
  refine ⟨_, rfl, (by walk_at "sz"), ?_⟩
  refine da_nil ?_
  refine ⟨_, rfl, (by walk_at "sz"), ?_⟩
  refine da_cons ?_
  refine de_lst ?_
  refine da_cons ?_
  refine de_int ?_
  refine da_cons ?_
  refine de_tup ?_
  refine da_nil ?_
  refine ⟨_, rfl, (by walk_at "sz"), ?_⟩
  refine da_cons ?_
  refine de_tup ?_
  refine da_cons ?_
  refine de_int ?_
  refine da_nil ?_
  refine ⟨_, rfl, (by walk_at "sz"), ?_⟩
  refine da_nil ?_
  refine ⟨_, rfl, (by walk_at "sz"), ?_⟩
  refine da_cons ?_
  refine de_tup ?_
  refine da_cons ?_
  refine de_int ?_
  refine da_cons ?_
  refine de_tup ?_
  refine da_nil ?_
  refine ⟨_, rfl, (by walk_at "sz"), ?_⟩
  refine da_cons ?_
  refine de_tup ?_
  refine da_nil ?_
  refine ⟨_, rfl, (by walk_at "sz"), ?_⟩
  refine da_nil ?_
  refine ⟨_, rfl, (by walk_at "sz"), ?_⟩
  refine da_cons ?_
  refine de_tup ?_
  refine da_cons ?_
  refine de_int ?_
  refine da_cons ?_
  refine de_tup ?_
  refine da_nil ?_
  refine ⟨_, rfl, (by walk_at "sz"), ?_⟩
  refine da_cons ?_
  refine de_bin ?_
  refine de_tup ?_
  refine da_cons ?_
  refine de_int ?_
  refine da_nil ?_
  refine ⟨_, rfl, (by walk_at "sz"), ?_⟩
  refine de_int ?_
  first | refine od_mulI rfl rfl (by walk_at "sz") ?_ | refine od_mulTn rfl rfl (List.cons_ne_nil _ _) (by walk_at "sz") (by walk_at "sz") (by walk_at "sz") ?_ | refine od_mulL rfl rfl (by walk_at "sz") (by walk_at "sz") (by walk_at "sz") ?_ | refine od_mulS rfl rfl (by walk_at "sz") (by walk_at "sz") (by walk_at "sz") ?_
  refine da_nil ?_
  refine ⟨_, rfl, (by walk_at "sz"), ?_⟩
  refine da_cons ?_
  refine de_tup ?_
  refine da_cons ?_
  refine de_bl ?_
  refine da_cons ?_
  refine de_tup ?_
  refine da_nil ?_
  refine ⟨_, rfl, (by walk_at "sz"), ?_⟩
  refine da_cons ?_
  refine de_tup ?_
  refine da_cons ?_
  refine de_int ?_
  refine da_nil ?_
  refine ⟨_, rfl, (by walk_at "sz"), ?_⟩
  refine da_nil ?_
  refine ⟨_, rfl, (by walk_at "sz"), ?_⟩
  refine da_cons ?_
  refine de_tup ?_
  refine da_cons ?_
  refine de_int ?_
  refine da_cons ?_
  refine de_lst ?_
  refine da_nil ?_
  refine ⟨_, rfl, (by walk_at "sz"), ?_⟩
  refine da_cons ?_
  refine de_tup ?_
  refine da_cons ?_
  refine de_int ?_
  refine da_nil ?_
  refine ⟨_, rfl, (by walk_at "sz"), ?_⟩
  refine da_nil ?_
  refine ⟨_, rfl, (by walk_at "sz"), ?_⟩
  refine da_nil ?_
  refine ⟨_, rfl, (by walk_at "sz"), ?_⟩
  refine ⟨_, rfl, ?_⟩
  refine dss_cons ?_
  refine ds_set 0 ?_
  refine de_bin ?_
  refine de_var 0 rfl ?_
  refine de_lst ?_
  refine da_cons ?_
  refine de_tup ?_
  refine da_cons ?_
  refine de_int ?_
  refine da_cons ?_
  refine de_tup ?_
  refine da_nil ?_
  refine ⟨_, rfl, (by walk_at "sz"), ?_⟩
  refine da_cons ?_
  refine de_tup ?_
  refine da_cons ?_
  refine de_int ?_
  refine da_cons ?_
  refine de_int ?_
  refine da_nil ?_
  refine ⟨_, rfl, (by walk_at "sz"), ?_⟩
  refine da_nil ?_
  refine ⟨_, rfl, (by walk_at "sz"), ?_⟩
  refine da_cons ?_
  refine de_tup ?_
  refine da_cons ?_
  refine de_int ?_
  refine da_cons ?_
  refine de_tup ?_
  refine da_nil ?_
  refine ⟨_, rfl, (by walk_at "sz"), ?_⟩
  refine da_cons ?_
  refine de_tup ?_
  refine da_cons ?_
  refine de_int ?_
  refine da_nil ?_
  refine ⟨_, rfl, (by walk_at "sz"), ?_⟩
  refine da_nil ?_
  refine ⟨_, rfl, (by walk_at "sz"), ?_⟩
  refine da_cons ?_
  refine de_tup ?_
  refine da_cons ?_
  refine de_int ?_
  refine da_cons ?_
  refine de_tup ?_
  refine da_nil ?_
  refine ⟨_, rfl, (by walk_at "sz"), ?_⟩
  refine da_cons ?_
  refine de_tup ?_
  refine da_cons ?_
  refine de_bl ?_
  refine da_nil ?_
  refine ⟨_, rfl, (by walk_at "sz"), ?_⟩
  refine da_nil ?_
  refine ⟨_, rfl, (by walk_at "sz"), ?_⟩
  refine da_cons ?_
  refine de_tup ?_
  refine da_cons ?_
  refine de_int ?_
  refine da_cons ?_
  refine de_tup ?_
  refine da_nil ?_
  refine ⟨_, rfl, (by walk_at "sz"), ?_⟩
  refine da_cons ?_
  refine de_lst ?_
  refine da_cons ?_
  refine de_int ?_
  refine da_nil ?_
  refine ⟨_, rfl, (by walk_at "sz"), ?_⟩
  refine da_nil ?_
  refine ⟨_, rfl, (by walk_at "sz"), ?_⟩
  refine da_cons ?_
  refine de_tup ?_
  refine da_cons ?_
  refine de_int ?_
  refine da_cons ?_
  refine de_tup ?_
  refine da_cons ?_
  refine de_tup ?_
  refine da_cons ?_
  refine de_int ?_
  refine da_cons ?_
  refine de_int ?_
  refine da_cons ?_
  refine de_int ?_
  refine da_nil ?_
  refine ⟨_, rfl, (by walk_at "sz"), ?_⟩
  refine da_nil ?_
  refine ⟨_, rfl, (by walk_at "sz"), ?_⟩
  refine da_cons ?_
  refine de_tup ?_
  refine da_cons ?_
  refine de_int ?_
  refine da_cons ?_
  refine de_int ?_
  refine da_nil ?_
  refine ⟨_, rfl, (by walk_at "sz"), ?_⟩
  refine da_nil ?_
  refine ⟨_, rfl, (by walk_at "sz"), ?_⟩
  refine da_nil ?_
  refine ⟨_, rfl, (by walk_at "sz"), ?_⟩
  first | refine od_addI rfl rfl ?_ | refine od_addS rfl rfl (by walk_at "sz") ?_ | refine od_addL rfl rfl (by walk_at "sz") ?_ | refine od_addT rfl rfl (by walk_at "sz") ?_
  refine ⟨_, rfl, ?_⟩
  refine dss_cons ?_
  refine ds_set 0 ?_
  refine de_bin ?_
  refine de_var 0 rfl ?_
  refine de_lst ?_
  refine da_cons ?_
  refine de_tup ?_
  refine da_cons ?_
  refine de_int ?_
  refine da_cons ?_
  refine de_tup ?_
  refine da_cons ?_
  refine de_tup ?_
  refine da_cons ?_
  refine de_int ?_
  refine da_cons ?_
  refine de_int ?_
  refine da_cons ?_
  refine de_int ?_
  refine da_nil ?_
  refine ⟨_, rfl, (by walk_at "sz"), ?_⟩
  refine da_nil ?_
  refine ⟨_, rfl, (by walk_at "sz"), ?_⟩
  refine da_cons ?_
  refine de_tup ?_
  refine da_cons ?_
  refine de_int ?_
  refine da_cons ?_
  refine de_int ?_
  refine da_nil ?_
  refine ⟨_, rfl, (by walk_at "sz"), ?_⟩
  refine da_nil ?_
  refine ⟨_, rfl, (by walk_at "sz"), ?_⟩
  refine da_cons ?_
  refine de_tup ?_
  refine da_cons ?_
  refine de_int ?_
  refine da_cons ?_
  refine de_tup ?_
  refine da_cons ?_
  refine de_tup ?_
  refine da_cons ?_
  refine de_int ?_
  refine da_cons ?_
  refine de_int ?_
  refine da_cons ?_
  refine de_int ?_
  refine da_nil ?_
  refine ⟨_, rfl, (by walk_at "sz"), ?_⟩
  refine da_nil ?_
  refine ⟨_, rfl, (by walk_at "sz"), ?_⟩
  refine da_cons ?_
  refine de_tup ?_
  refine da_cons ?_
  refine de_int ?_
  refine da_cons ?_
  refine de_int ?_
  refine da_nil ?_
  refine ⟨_, rfl, (by walk_at "sz"), ?_⟩
  refine da_nil ?_
  refine ⟨_, rfl, (by walk_at "sz"), ?_⟩
  refine da_cons ?_
  refine de_tup ?_
  refine da_cons ?_
  refine de_int ?_
  refine da_cons ?_
  refine de_tup ?_
  refine da_cons ?_
  refine de_tup ?_
  refine da_cons ?_
  refine de_int ?_
  refine da_cons ?_
  refine de_int ?_
  refine da_cons ?_
  refine de_int ?_
  refine da_nil ?_
  refine ⟨_, rfl, (by walk_at "sz"), ?_⟩
  refine da_nil ?_
  refine ⟨_, rfl, (by walk_at "sz"), ?_⟩
  refine da_cons ?_
  refine de_tup ?_
  refine da_cons ?_
  refine de_int ?_
  refine da_cons ?_
  refine de_int ?_
  refine da_nil ?_
  refine ⟨_, rfl, (by walk_at "sz"), ?_⟩
  refine da_nil ?_
  refine ⟨_, rfl, (by walk_at "sz"), ?_⟩
  refine da_nil ?_
  refine ⟨_, rfl, (by walk_at "sz"), ?_⟩
  first | refine od_addI rfl rfl ?_ | refine od_addS rfl rfl (by walk_at "sz") ?_ | refine od_addL rfl rfl (by walk_at "sz") ?_ | refine od_addT rfl rfl (by walk_at "sz") ?_
  refine ⟨_, rfl, ?_⟩
  refine dss_cons ?_
  refine ds_set 0 ?_
  refine de_bin ?_
  refine de_var 0 rfl ?_
  refine de_lst ?_
  refine da_cons ?_
  refine de_tup ?_
  refine da_cons ?_
  refine de_int ?_
  refine da_cons ?_
  refine de_tup ?_
  refine da_cons ?_
  refine de_tup ?_
  refine da_cons ?_
  refine de_int ?_
  refine da_cons ?_
  refine de_int ?_
  refine da_cons ?_
  refine de_int ?_
  refine da_nil ?_
  refine ⟨_, rfl, (by walk_at "sz"), ?_⟩
  refine da_cons ?_
  refine de_tup ?_
  refine da_cons ?_
  refine de_int ?_
  refine da_cons ?_
  refine de_int ?_
  refine da_cons ?_
  refine de_int ?_
  refine da_nil ?_
  refine ⟨_, rfl, (by walk_at "sz"), ?_⟩
  refine da_nil ?_
  refine ⟨_, rfl, (by walk_at "sz"), ?_⟩
  refine da_cons ?_
  refine de_tup ?_
  refine da_cons ?_
  refine de_int ?_
  refine da_cons ?_
  refine de_int ?_
  refine da_nil ?_
  refine ⟨_, rfl, (by walk_at "sz"), ?_⟩
  refine da_nil ?_
  refine ⟨_, rfl, (by walk_at "sz"), ?_⟩
  refine da_cons ?_
  refine de_tup ?_
  refine da_cons ?_
  refine de_int ?_
  refine da_cons ?_
  refine de_tup ?_
  refine da_cons ?_
  refine de_tup ?_
  refine da_cons ?_
  refine de_int ?_
  refine da_cons ?_
  refine de_int ?_
  refine da_cons ?_
  refine de_int ?_
  refine da_nil ?_
  refine ⟨_, rfl, (by walk_at "sz"), ?_⟩
  refine da_cons ?_
  refine de_tup ?_
  refine da_cons ?_
  refine de_int ?_
  refine da_cons ?_
  refine de_int ?_
  refine da_cons ?_
  refine de_int ?_
  refine da_nil ?_
  refine ⟨_, rfl, (by walk_at "sz"), ?_⟩
  refine da_nil ?_
  refine ⟨_, rfl, (by walk_at "sz"), ?_⟩
  refine da_cons ?_
  refine de_tup ?_
  refine da_cons ?_
  refine de_int ?_
  refine da_cons ?_
  refine de_int ?_
  refine da_nil ?_
  refine ⟨_, rfl, (by walk_at "sz"), ?_⟩
  refine da_nil ?_
  refine ⟨_, rfl, (by walk_at "sz"), ?_⟩
  refine da_cons ?_
  refine de_tup ?_
  refine da_cons ?_
  refine de_int ?_
  refine da_cons ?_
  refine de_tup ?_
  refine da_cons ?_
  refine de_tup ?_
  refine da_cons ?_
  refine de_int ?_
  refine da_cons ?_
  refine de_int ?_
  refine da_nil ?_
  refine ⟨_, rfl, (by walk_at "sz"), ?_⟩
  refine da_nil ?_
  refine ⟨_, rfl, (by walk_at "sz"), ?_⟩
  refine da_cons ?_
  refine de_tup ?_
  refine da_cons ?_
  refine de_int ?_
  refine da_cons ?_
  refine de_int ?_
  refine da_nil ?_
  refine ⟨_, rfl, (by walk_at "sz"), ?_⟩
  refine da_nil ?_
  refine ⟨_, rfl, (by walk_at "sz"), ?_⟩
  refine da_nil ?_
  refine ⟨_, rfl, (by walk_at "sz"), ?_⟩
  first | refine od_addI rfl rfl ?_ | refine od_addS rfl rfl (by walk_at "sz") ?_ | refine od_addL rfl rfl (by walk_at "sz") ?_ | refine od_addT rfl rfl (by walk_at "sz") ?_
  refine ⟨_, rfl, ?_⟩
  refine dss_one ?_
  refine ds_ret ?_
  refine de_bin ?_
  refine de_var 0 rfl ?_
  refine de_lst ?_
  refine da_cons ?_
  refine de_tup ?_
  refine da_cons ?_
  refine de_int ?_
  refine da_cons ?_
  refine de_tup ?_
  refine da_cons ?_
  refine de_lst ?_
  refine da_cons ?_
  refine de_int ?_
  refine da_cons ?_
  refine de_int ?_
  refine da_cons ?_
  refine de_int ?_
  refine da_nil ?_
  refine ⟨_, rfl, (by walk_at "sz"), ?_⟩
  refine da_nil ?_
  refine ⟨_, rfl, (by walk_at "sz"), ?_⟩
  refine da_cons ?_
  refine de_tup ?_
  refine da_cons ?_
  refine de_int ?_
  refine da_cons ?_
  refine de_int ?_
  refine da_nil ?_
  refine ⟨_, rfl, (by walk_at "sz"), ?_⟩
  refine da_nil ?_
  refine ⟨_, rfl, (by walk_at "sz"), ?_⟩
  refine da_cons ?_
  refine de_tup ?_
  refine da_cons ?_
  refine de_int ?_
  refine da_cons ?_
  refine de_tup ?_
  refine da_cons ?_
  refine de_tup ?_
  refine da_cons ?_
  refine de_int ?_
  refine da_cons ?_
  refine de_bl ?_
  refine da_cons ?_
  refine de_int ?_
  refine da_nil ?_
  refine ⟨_, rfl, (by walk_at "sz"), ?_⟩
  refine da_nil ?_
  refine ⟨_, rfl, (by walk_at "sz"), ?_⟩
  refine da_cons ?_
  refine de_tup ?_
  refine da_cons ?_
  refine de_int ?_
  refine da_cons ?_
  refine de_int ?_
  refine da_nil ?_
  refine ⟨_, rfl, (by walk_at "sz"), ?_⟩
  refine da_nil ?_
  refine ⟨_, rfl, (by walk_at "sz"), ?_⟩
  refine da_cons ?_
  refine de_tup ?_
  refine da_cons ?_
  refine de_str ?_
  refine da_cons ?_
  refine de_tup ?_
  refine da_nil ?_
  refine ⟨_, rfl, (by walk_at "sz"), ?_⟩
  refine da_cons ?_
  refine de_tup ?_
  refine da_cons ?_
  refine de_int ?_
  refine da_cons ?_
  refine de_int ?_
  refine da_nil ?_
  refine ⟨_, rfl, (by walk_at "sz"), ?_⟩
  refine da_nil ?_
  refine ⟨_, rfl, (by walk_at "sz"), ?_⟩
  refine da_cons ?_
  refine de_tup ?_
  refine da_cons ?_
  refine de_int ?_
  refine da_cons ?_
  refine de_tup ?_
  refine da_nil ?_
  refine ⟨_, rfl, (by walk_at "sz"), ?_⟩
  refine da_cons ?_
  refine de_tup ?_
  refine da_cons ?_
  refine de_int ?_
  refine da_nil ?_
  refine ⟨_, rfl, (by walk_at "sz"), ?_⟩
  refine da_cons ?_
  refine de_tup ?_
  refine da_nil ?_
  refine ⟨_, rfl, (by walk_at "sz"), ?_⟩
  refine da_nil ?_
  refine ⟨_, rfl, (by walk_at "sz"), ?_⟩
  refine da_nil ?_
  refine ⟨_, rfl, (by walk_at "sz"), ?_⟩
  first | refine od_addI rfl rfl ?_ | refine od_addS rfl rfl (by walk_at "sz") ?_ | refine od_addL rfl rfl (by walk_at "sz") ?_ | refine od_addT rfl rfl (by walk_at "sz") ?_
  exact ret_frs (by walk_at "rc") h rfl
abbrev s_law_known : Stmt := top 37
theorem sc_law_known : FnScope ["some"] [] (defScope s_law_known) := ⟨rfl, rfl, rfl, by decide +kernel, rfl, by decide +kernel, by decide +kernel⟩
theorem ok_law_known (B : Gb mg) (G : Gx K mg)  (FD : FdP K mg "_law_known" s_law_known) : DefOk P w K mg base T "_law_known" 1 (F_law_known) := by
  refine mk_def FD sc_law_known (fun _ _ _ _ _ _ us hl => match us, hl with | [], _ => rfl) ?_ fun cdv hcd A outer s0 H E W0 M0 cs kk ee h hr hz => ?_
  · rintro cs kk ee ⟨rfl, _⟩; rfl
  have hN := (sc_law_known).nd
  obtain ⟨rfl, h⟩ := h
  refine dss_cons ?_
  refine ds_own 0 ?_
  refine de_lst ?_
  refine da_cons ?_
  refine de_tup ?_
  refine da_cons ?_
  refine de_int ?_
  refine da_cons ?_
  refine de_tup ?_
  refine da_cons ?_
  refine de_tup ?_
  refine da_cons ?_
  refine de_int ?_
  refine da_cons ?_
  refine de_int ?_
  refine da_cons ?_
  refine de_int ?_
  refine da_nil ?_
  refine ⟨_, rfl, (by walk_at "sz"), ?_⟩
  refine da_cons ?_
  refine de_tup ?_
  refine da_cons ?_
  refine de_int ?_
  refine da_cons ?_
  refine de_int ?_
  refine da_cons ?_
  refine de_int ?_
  refine da_nil ?_
  refine ⟨_, rfl, (by walk_at "sz"), ?_⟩
  refine da_cons ?_
  refine de_tup ?_
  refine da_cons ?_
  refine de_int ?_
  refine da_cons ?_
  refine de_int ?_
  refine da_cons ?_
  refine de_int ?_
  refine da_nil ?_
  refine ⟨_, rfl, (by walk_at "sz"), ?_⟩
  refine da_cons ?_
  refine de_tup ?_
  refine da_cons ?_
  refine de_int ?_
  refine da_cons ?_
  refine de_int ?_
  refine da_cons ?_
  refine de_int ?_
  refine da_nil ?_
  refine ⟨_, rfl, (by walk_at "sz"), ?_⟩
  refine da_cons ?_
  refine de_tup ?_
  refine da_cons ?_
  refine de_int ?_
  refine da_cons ?_
  refine de_int ?_
  refine da_cons ?_
  refine de_int ?_
  refine da_nil ?_
  refine ⟨_, rfl, (by walk_at "sz"), ?_⟩
  refine da_cons ?_
  refine de_tup ?_
  refine da_cons ?_
  refine de_int ?_
  refine da_cons ?_
  refine de_int ?_
  refine da_cons ?_
  refine de_int ?_
  refine da_nil ?_
  refine ⟨_, rfl, (by walk_at "sz"), ?_⟩
  refine da_nil ?_
  refine ⟨_, rfl, (by walk_at "sz"), ?_⟩
  refine da_cons ?_
  refine de_tup ?_
  refine da_cons ?_
  refine de_int ?_
  refine da_cons ?_
  refine de_int ?_
  refine da_cons ?_
  refine de_int ?_
  refine da_nil ?_
  refine ⟨_, rfl, (by walk_at "sz"), ?_⟩
  refine da_nil ?_
  refine ⟨_, rfl, (by walk_at "sz"), ?_⟩
  refine da_nil ?_
  refine ⟨_, rfl, (by walk_at "sz"), ?_⟩
  refine ⟨_, rfl, fun a0 => ?_⟩
  refine dss_cons ?_
  refine ds_own 0 ?_
  refine de_bin ?_
  refine de_var 0 rfl ?_
  refine de_lst ?_
  refine da_cons ?_
  refine de_tup ?_
  refine da_cons ?_
  refine de_int ?_
  refine da_cons ?_
  refine de_tup ?_
  refine da_cons ?_
  refine de_tup ?_
  refine da_cons ?_
  refine de_int ?_
  refine da_cons ?_
  refine de_int ?_
  refine da_cons ?_
  refine de_int ?_
  refine da_nil ?_
  refine ⟨_, rfl, (by walk_at "sz"), ?_⟩
  refine da_cons ?_
  refine de_tup ?_
  refine da_cons ?_
  refine de_int ?_
  refine da_cons ?_
  refine de_int ?_
  refine da_cons ?_
  refine de_neg ?_
  refine de_int ?_
  refine ⟨_, rfl, ?_⟩
  refine da_nil ?_
  refine ⟨_, rfl, (by walk_at "sz"), ?_⟩
  refine da_nil ?_
  refine ⟨_, rfl, (by walk_at "sz"), ?_⟩
  refine da_cons ?_
  refine de_tup ?_
  refine da_cons ?_
  refine de_int ?_
  refine da_cons ?_
  refine de_int ?_
  refine da_nil ?_
  refine ⟨_, rfl, (by walk_at "sz"), ?_⟩
  refine da_nil ?_
  refine ⟨_, rfl, (by walk_at "sz"), ?_⟩
  refine da_cons ?_
  refine de_tup ?_
  refine da_cons ?_
  refine de_int ?_
  refine da_cons ?_
  refine de_tup ?_
  refine da_cons ?_
  refine de_tup ?_
  refine da_cons ?_
  refine de_int ?_
  refine da_cons ?_
  refine de_int ?_
  refine da_cons ?_
  refine de_int ?_
  refine da_nil ?_
  refine ⟨_, rfl, (by walk_at "sz"), ?_⟩
  refine da_cons ?_
  refine de_tup ?_
  refine da_cons ?_
  refine de_int ?_
  refine da_cons ?_
  refine de_int ?_
  refine da_cons ?_
  refine de_int ?_
  refine da_nil ?_
  refine ⟨_, rfl, (by walk_at "sz"), ?_⟩
  refine da_nil ?_
  refine ⟨_, rfl, (by walk_at "sz"), ?_⟩
  refine da_cons ?_
  refine de_tup ?_
  refine da_cons ?_
  refine de_int ?_
  refine da_cons ?_
  refine de_int ?_
  refine da_nil ?_
  refine ⟨_, rfl, (by walk_at "sz"), ?_⟩
  refine da_nil ?_
  refine ⟨_, rfl, (by walk_at "sz"), ?_⟩
  refine da_nil ?_
  refine ⟨_, rfl, (by walk_at "sz"), ?_⟩
  first | refine od_addI rfl rfl ?_ | refine od_addS rfl rfl (by walk_at "sz") ?_ | refine od_addL rfl rfl (by walk_at "sz") ?_ | refine od_addT rfl rfl (by walk_at "sz") ?_
  refine ⟨_, rfl, fun a0 => ?_⟩
  refine dss_cons ?_
  refine ds_expr ?_
  refine de_bm F.plainAttrs_list F.slot_list_append F.type_list_append ?_
  refine de_var 0 rfl ?_
  refine ⟨⟨_, rfl⟩, ?_⟩
  refine da_cons ?_
  refine de_tup ?_
  refine da_cons ?_
  refine de_int ?_
  refine da_cons ?_
  refine de_tup ?_
  refine da_cons ?_
  refine de_tup ?_
  refine da_cons ?_
  refine de_int ?_
  refine da_cons ?_
  refine de_int ?_
  refine da_cons ?_
  refine de_int ?_
  refine da_nil ?_
  refine ⟨_, rfl, (by walk_at "sz"), ?_⟩
  refine da_cons ?_
  refine de_tup ?_
  refine da_cons ?_
  refine de_int ?_
  refine da_cons ?_
  refine de_int ?_
  refine da_cons ?_
  refine de_int ?_
  refine da_nil ?_
  refine ⟨_, rfl, (by walk_at "sz"), ?_⟩
  refine da_cons ?_
  refine de_tup ?_
  refine da_cons ?_
  refine de_int ?_
  refine da_cons ?_
  refine de_int ?_
  refine da_cons ?_
  refine de_int ?_
  refine da_nil ?_
  refine ⟨_, rfl, (by walk_at "sz"), ?_⟩
  refine da_cons ?_
  refine de_tup ?_
  refine da_cons ?_
  refine de_int ?_
  refine da_cons ?_
  refine de_int ?_
  refine da_cons ?_
  refine de_int ?_
  refine da_nil ?_
  refine ⟨_, rfl, (by walk_at "sz"), ?_⟩
  refine da_cons ?_
  refine de_tup ?_
  refine da_cons ?_
  refine de_int ?_
  refine da_cons ?_
  refine de_int ?_
  refine da_cons ?_
  refine de_int ?_
  refine da_nil ?_
  refine ⟨_, rfl, (by walk_at "sz"), ?_⟩
  refine da_cons ?_
  refine de_tup ?_
  refine da_cons ?_
  refine de_int ?_
  refine da_cons ?_
  refine de_int ?_
  refine da_cons ?_
  refine de_int ?_
  refine da_nil ?_
  refine ⟨_, rfl, (by walk_at "sz"), ?_⟩
  refine da_nil ?_
  refine ⟨_, rfl, (by walk_at "sz"), ?_⟩
  refine da_cons ?_
  refine de_tup ?_
  refine da_cons ?_
  refine de_int ?_
  refine da_cons ?_
  refine de_int ?_
  refine da_cons ?_
  refine de_int ?_
  refine da_nil ?_
  refine ⟨_, rfl, (by walk_at "sz"), ?_⟩
  refine da_nil ?_
  refine ⟨_, rfl, (by walk_at "sz"), ?_⟩
  refine da_nil ?_
  refine cd_append rfl rfl (by walk_at "sz") ?_
  refine dss_one ?_
  refine ds_ret ?_
  refine de_bin ?_
  refine de_var 0 rfl ?_
  refine de_lst ?_
  refine da_cons ?_
  refine de_tup ?_
  refine da_cons ?_
  refine de_int ?_
  refine da_cons ?_
  refine de_tup ?_
  refine da_cons ?_
  refine de_tup ?_
  refine da_cons ?_
  refine de_int ?_
  refine da_cons ?_
  refine de_int ?_
  refine da_cons ?_
  refine de_int ?_
  refine da_nil ?_
  refine ⟨_, rfl, (by walk_at "sz"), ?_⟩
  refine da_cons ?_
  refine de_tup ?_
  refine da_cons ?_
  refine de_int ?_
  refine da_cons ?_
  refine de_int ?_
  refine da_cons ?_
  refine de_int ?_
  refine da_nil ?_
  refine ⟨_, rfl, (by walk_at "sz"), ?_⟩
  refine da_cons ?_
  refine de_tup ?_
  refine da_cons ?_
  refine de_int ?_
  refine da_cons ?_
  refine de_int ?_
  refine da_cons ?_
  refine de_int ?_
  refine da_nil ?_
  refine ⟨_, rfl, (by walk_at "sz"), ?_⟩
  refine da_nil ?_
  refine ⟨_, rfl, (by walk_at "sz"), ?_⟩
  refine da_cons ?_
  refine de_tup ?_
  refine da_cons ?_
  refine de_int ?_
  refine da_cons ?_
  refine de_int ?_
  refine da_cons ?_
  refine de_int ?_
  refine da_nil ?_
  refine ⟨_, rfl, (by walk_at "sz"), ?_⟩
  refine da_nil ?_
  refine ⟨_, rfl, (by walk_at "sz"), ?_⟩
  refine da_nil ?_
  refine ⟨_, rfl, (by walk_at "sz"), ?_⟩
  first | refine od_addI rfl rfl ?_ | refine od_addS rfl rfl (by walk_at "sz") ?_ | refine od_addL rfl rfl (by walk_at "sz") ?_ | refine od_addT rfl rfl (by walk_at "sz") ?_
  exact ret_frs (by walk_at "rc") h rfl
abbrev s_law_named_error : Stmt := top 45
theorem sc_law_named_error : FnScope ["e", "some", "labels", "label", "good"] ["e"] (defScope s_law_named_error) := ⟨rfl, rfl, rfl, by decide +kernel, rfl, by decide +kernel, by decide +kernel⟩
open HotX L2H LamX in
theorem hot_named_error (B : Gb mg) (G : Gx K mg) (hTM : mg "TooMany" = some (.ref (He.ga K "TooMany"))) {C : Addr} {b0 b1 b2 b3 b4 b5 b6 b7 b8 b9 b10 b11 b12 b13 : Bool} (hc : HotC K C [b0, b1, b2, b3, b4, b5, b6, b7, b8, b9, b10, b11, b12, b13]) {p : Addr × Obj} (hzc : Zc (.ref C) none p.2) {cdv : Value} {A : Around} {outer : List PySem.Env} {s0 : Shared} {H : Hp} {E : XK} {W0 M0 : AS} {cs : List DL.C} {kk : Rv → List DL.C → Prop} {ee : Value → List DL.C → Prop} (h : F_law_named_error p.1 (labelOf [b0, b1, b2, b3, b4, b5, b6, b7, b8, b9, b10, b11, b12, b13]) cs kk ee) (hot : Hot1 A p) :
    DSs (ctH P w K mg base T ["e", "some", "labels", "label", "good"] "_law_named_error" (defScope s_law_named_error) (He.ga K "_law_named_error") cdv A outer s0 H E p W0 M0) (defBody s_law_named_error) (ent 5 cs) (bodyE cs kk) := by
  obtain ⟨rfl, h⟩ := h
  have hN := sc_law_named_error.nd
  have hp : HotP (ctH P w K mg base T ["e", "some", "labels", "label", "good"] "_law_named_error" (defScope s_law_named_error) (He.ga K "_law_named_error") cdv A outer s0 H E p W0 M0).X p := ⟨hot, List.mem_singleton.mpr rfl⟩
  refine dss_cons ?_
  refine ds_set 1 ?_
  refine de_lst ?_
  refine da_cons ?_
  refine de_callB B.isinstance rfl ?_
  refine da_cons ?_
  refine de_var 0 rfl ?_
  refine da_cons ?_
  refine de_globR (v := .ref _) G.ex_InvalidWeb.gl rfl ?_
  refine da_nil ?_
  refine cd_isE hp hc.exc hzc (fun u h => h) (hc.ks ("InvalidWeb", b0) (by simp [excNames])) ?_
  refine da_cons ?_
  refine de_callB B.isinstance rfl ?_
  refine da_cons ?_
  refine de_var 0 rfl ?_
  refine da_cons ?_
  refine de_globR (v := .ref _) G.ex_InvalidSaying.gl rfl ?_
  refine da_nil ?_
  refine cd_isE hp hc.exc hzc (fun u h => h) (hc.ks ("InvalidSaying", b1) (by simp [excNames])) ?_
  refine da_cons ?_
  refine de_callB B.isinstance rfl ?_
  refine da_cons ?_
  refine de_var 0 rfl ?_
  refine da_cons ?_
  refine de_globR (v := .ref _) G.ex_InvalidPlace.gl rfl ?_
  refine da_nil ?_
  refine cd_isE hp hc.exc hzc (fun u h => h) (hc.ks ("InvalidPlace", b2) (by simp [excNames])) ?_
  refine da_nil ?_
  refine ⟨_, rfl, (by walk_at "sz"), ?_⟩
  refine ⟨_, rfl, ?_⟩
  refine dss_cons ?_
  refine ds_set 1 ?_
  refine de_bin ?_
  refine de_var 1 rfl ?_
  refine de_lst ?_
  refine da_cons ?_
  refine de_callB B.isinstance rfl ?_
  refine da_cons ?_
  refine de_var 0 rfl ?_
  refine da_cons ?_
  refine de_globR (v := .ref _) G.ex_InvalidScales.gl rfl ?_
  refine da_nil ?_
  refine cd_isE hp hc.exc hzc (fun u h => h) (hc.ks ("InvalidScales", b3) (by simp [excNames])) ?_
  refine da_cons ?_
  refine de_callB B.isinstance rfl ?_
  refine da_cons ?_
  refine de_var 0 rfl ?_
  refine da_cons ?_
  refine de_globR (v := .ref _) G.ex_InvalidTurn.gl rfl ?_
  refine da_nil ?_
  refine cd_isE hp hc.exc hzc (fun u h => h) (hc.ks ("InvalidTurn", b4) (by simp [excNames])) ?_
  refine da_cons ?_
  refine de_callB B.isinstance rfl ?_
  refine da_cons ?_
  refine de_var 0 rfl ?_
  refine da_cons ?_
  refine de_globR (v := .ref _) G.ex_InvalidNumber.gl rfl ?_
  refine da_nil ?_
  refine cd_isE hp hc.exc hzc (fun u h => h) (hc.ks ("InvalidNumber", b5) (by simp [excNames])) ?_
  refine da_nil ?_
  refine ⟨_, rfl, (by walk_at "sz"), ?_⟩
  first | refine od_addI rfl rfl ?_ | refine od_addS rfl rfl (by walk_at "sz") ?_ | refine od_addL rfl rfl (by walk_at "sz") ?_ | refine od_addT rfl rfl (by walk_at "sz") ?_
  refine ⟨_, rfl, ?_⟩
  refine dss_cons ?_
  refine ds_set 1 ?_
  refine de_bin ?_
  refine de_var 1 rfl ?_
  refine de_lst ?_
  refine da_cons ?_
  refine de_callB B.isinstance rfl ?_
  refine da_cons ?_
  refine de_var 0 rfl ?_
  refine da_cons ?_
  refine de_globR (v := .ref _) G.ex_InvalidFacts.gl rfl ?_
  refine da_nil ?_
  refine cd_isE hp hc.exc hzc (fun u h => h) (hc.ks ("InvalidFacts", b6) (by simp [excNames])) ?_
  refine da_cons ?_
  refine de_callB B.isinstance rfl ?_
  refine da_cons ?_
  refine de_var 0 rfl ?_
  refine da_cons ?_
  refine de_globR (v := .ref _) G.ex_InvalidIndex.gl rfl ?_
  refine da_nil ?_
  refine cd_isE hp hc.exc hzc (fun u h => h) (hc.ks ("InvalidIndex", b7) (by simp [excNames])) ?_
  refine da_cons ?_
  refine de_callB B.isinstance rfl ?_
  refine da_cons ?_
  refine de_var 0 rfl ?_
  refine da_cons ?_
  refine de_globR (v := .ref _) G.ex_InvalidFactors.gl rfl ?_
  refine da_nil ?_
  refine cd_isE hp hc.exc hzc (fun u h => h) (hc.ks ("InvalidFactors", b8) (by simp [excNames])) ?_
  refine da_nil ?_
  refine ⟨_, rfl, (by walk_at "sz"), ?_⟩
  first | refine od_addI rfl rfl ?_ | refine od_addS rfl rfl (by walk_at "sz") ?_ | refine od_addL rfl rfl (by walk_at "sz") ?_ | refine od_addT rfl rfl (by walk_at "sz") ?_
  refine ⟨_, rfl, ?_⟩
  refine dss_cons ?_
  refine ds_set 1 ?_
  refine de_bin ?_
  refine de_var 1 rfl ?_
  refine de_lst ?_
  refine da_cons ?_
  refine de_callB B.isinstance rfl ?_
  refine da_cons ?_
  refine de_var 0 rfl ?_
  refine da_cons ?_
  refine de_globR (v := .ref _) G.ex_InvalidSign.gl rfl ?_
  refine da_nil ?_
  refine cd_isE hp hc.exc hzc (fun u h => h) (hc.ks ("InvalidSign", b9) (by simp [excNames])) ?_
  refine da_cons ?_
  refine de_callB B.isinstance rfl ?_
  refine da_cons ?_
  refine de_var 0 rfl ?_
  refine da_cons ?_
  refine de_globR (v := .ref _) G.ex_InvalidText.gl rfl ?_
  refine da_nil ?_
  refine cd_isE hp hc.exc hzc (fun u h => h) (hc.ks ("InvalidText", b10) (by simp [excNames])) ?_
  refine da_cons ?_
  refine de_callB B.isinstance rfl ?_
  refine da_cons ?_
  refine de_var 0 rfl ?_
  refine da_cons ?_
  refine de_globR (v := .ref _) G.ex_Unlike.gl rfl ?_
  refine da_nil ?_
  refine cd_isE hp hc.exc hzc (fun u h => h) (hc.ks ("Unlike", b11) (by simp [excNames])) ?_
  refine da_nil ?_
  refine ⟨_, rfl, (by walk_at "sz"), ?_⟩
  first | refine od_addI rfl rfl ?_ | refine od_addS rfl rfl (by walk_at "sz") ?_ | refine od_addL rfl rfl (by walk_at "sz") ?_ | refine od_addT rfl rfl (by walk_at "sz") ?_
  refine ⟨_, rfl, ?_⟩
  refine dss_cons ?_
  refine ds_set 1 ?_
  refine de_bin ?_
  refine de_var 1 rfl ?_
  refine de_lst ?_
  refine da_cons ?_
  refine de_callB B.isinstance rfl ?_
  refine da_cons ?_
  refine de_var 0 rfl ?_
  refine da_cons ?_
  refine de_globR (v := .ref _) G.ex_NothingToUndo.gl rfl ?_
  refine da_nil ?_
  refine cd_isE hp hc.exc hzc (fun u h => h) (hc.ks ("NothingToUndo", b12) (by simp [excNames])) ?_
  refine da_cons ?_
  refine de_callB B.isinstance rfl ?_
  refine da_cons ?_
  refine de_var 0 rfl ?_
  refine da_cons ?_
  refine de_globR (v := .ref _) hTM rfl ?_
  refine da_nil ?_
  refine cd_isE hp hc.exc hzc (fun u h => h) (hc.ks ("TooMany", b13) (by simp [excNames])) ?_
  refine da_nil ?_
  refine ⟨_, rfl, (by walk_at "sz"), ?_⟩
  first | refine od_addI rfl rfl ?_ | refine od_addS rfl rfl (by walk_at "sz") ?_ | refine od_addL rfl rfl (by walk_at "sz") ?_ | refine od_addT rfl rfl (by walk_at "sz") ?_
  refine ⟨_, rfl, ?_⟩
  refine dss_cons ?_
  refine ds_set 2 ?_
  refine de_str ?_
  refine ⟨_, rfl, ?_⟩
  refine dss_one ?_
  refine ds_ret ?_
  refine de_bm F.plainAttrs_str F.slot_str_join F.type_str_join ?_
  refine de_str ?_
  refine ⟨⟨_, rfl⟩, ?_⟩
  refine da_cons ?_
  refine de_lcZipH 3 4 hp B.zip ?_ (blk_by (N := ["e", "some", "labels", "label", "good"]) (psc := (defScope s_law_named_error)) (by decide +kernel))
  refine da_cons ?_
  refine de_bm F.plainAttrs_str F.slot_str_split F.type_str_split ?_
  refine de_var 2 rfl ?_
  refine ⟨⟨_, rfl⟩, ?_⟩
  refine da_cons ?_
  refine de_str ?_
  refine da_nil ?_
  refine cd_split rfl rfl rfl (by decide +kernel) ?_
  refine da_cons ?_
  refine de_var 1 rfl ?_
  refine da_nil ?_
  refine ⟨_, _, labs.map PyData.str, [b0, b1, b2, b3, b4, b5, b6, b7, b8, b9, b10, b11, b12, b13], rfl, rfl, rfl, (by rw [List.length_map, labs_len]; rfl), ?_⟩
  refine da_nil ?_
  refine cd_join (ys := selS labs [b0, b1, b2, b3, b4, b5, b6, b7, b8, b9, b10, b11, b12, b13]) rfl (congrArg some (congrArg PyData.list (selD_map labs [b0, b1, b2, b3, b4, b5, b6, b7, b8, b9, b10, b11, b12, b13]))) (label_small _) ?_
  exact ret_dat (by walk_at "rc") h rfl
abbrev s_law_error : Stmt := top 46
theorem sc_law_error : FnScope ["call", "e"] ["call"] (defScope s_law_error) := ⟨rfl, rfl, rfl, by decide +kernel, rfl, by decide +kernel, by decide +kernel⟩
open HotX L2H LamX in
theorem err_suite (B : Gb mg) (G : Gx K mg) (hTM : mg "TooMany" = some (.ref (He.ga K "TooMany"))) (FN : FdP K mg "_law_named_error" s_law_named_error) {cls : Value} {lab : Str} (hl : LB K cls lab) {cdv : Value} {A : Around} {outer : List PySem.Env} {s : Shared} {H H0 : Hp} {E : XK} {f e : Addr} {oe : Obj} {pn : List (Addr × Obj)} {M0 : AS} {k : Nat} (hz : L2N.Zn cls none oe) (hf : ∃ vs, oe.data = .fields vs) (hr : Room (k + 1) (A.deeper (envOfC "_law_error" (defScope s_law_error) s.heap.objs.size (He.ga K "_law_error") cdv))) (hk : 1 ≤ k) :
    DS ⟨(cxOf (L2N.CX P w) P w K mg base ["call", "e"] "_law_error" (defScope s_law_error) (He.ga K "_law_error") cdv A outer s H E).suite e ((e, oe) :: pn), T, fun _ => False, M0, H0, fun _ _ => False⟩ (errSuite (defBody s_law_error)) [some (.raw (.ref f)), some (.raw (.ref e))] { nx := fun _ => False, rt := fun r _ => r = .dat (.str lab) } := by
  obtain ⟨C, b0, b1, b2, b3, b4, b5, b6, b7, b8, b9, b10, b11, b12, b13, rfl, hc, rfl, _⟩ := hl
  have hot : Hot1 ((cxOf (L2N.CX P w) P w K mg base ["call", "e"] "_law_error" (defScope s_law_error) (He.ga K "_law_error") cdv A outer s H E).suite e ((e, oe) :: pn)).A (e, oe) := by
    obtain ⟨vs, ev⟩ := hf
    exact ⟨rfl, vs, ev, hz.2.2 vs ev⟩
  have hp : HotP ((cxOf (L2N.CX P w) P w K mg base ["call", "e"] "_law_error" (defScope s_law_error) (He.ga K "_law_error") cdv A outer s H E).suite e ((e, oe) :: pn)) (e, oe) := ⟨hot, List.mem_cons_self ..⟩
  have hzc : Zc (.ref C) none (e, oe).2 := hz.zc
  obtain ⟨⟨fd, FN⟩, hmN⟩ := FN
  show DS _ (.Return (some (.IfExp _ _ _ _)) _) _ _
  refine ds_ret ?_
  refine de_if ?_
  refine dt_val ?_
  refine de_callB B.isinstance rfl ?_
  refine da_cons ?_
  refine de_var (c := .raw (.ref e)) 1 rfl ?_ rfl
  refine da_cons ?_
  refine de_ty B.ValueError rfl ?_
  refine da_nil ?_
  refine cd_isE hp hc.exc hzc (fun u h => h) hc.ve ?_
  refine boolR_i ?_
  refine bcase_t ?_
  refine de_callHot (F := F_law_named_error e (labelOf [b0, b1, b2, b3, b4, b5, b6, b7, b8, b9, b10, b11, b12, b13])) (N := ["e", "some", "labels", "label", "good"]) (ps := ["e"]) (k := k) FN sc_law_named_error (FN.bindsN (fun _ _ _ _ _ _ us hl => match us, hl with | [_], _ => rfl)) hmN m_law_named_error ⟨hr.dp, hr.un⟩ hp ?_ ?_ ?_ ?_
  · exact takes0N.imp fun cls d σ H' ⟨_, _, z, _⟩ => z
  · rintro cs kk ee ⟨rfl, _⟩; rfl
  · exact fun cdv A outer s H E W0 M0 cs kk ee h _ hot => hot_named_error (ee := ee) B G hTM hc hzc h hot
  refine da_cons ?_
  refine de_var (c := .raw (.ref e)) 1 rfl ?_ rfl
  refine da_nil ?_
  exact ⟨_, rfl, List.Pairwise.nil, rfl, trivial, rfl⟩
theorem err_last (Y : Ct) (ρ : DL.Env) (h : Y.X.env.scope = defScope s_law_error) : DS Y (errLast (defBody s_law_error)) ρ { nx := fun _ => False, rt := fun r _ => r = .dat (.str "") } := by
  show DS Y (.Return (some (.Constant (.str _) _ _)) _) _ _
  exact ds_ret (de_str rfl)
open HotX L2H LamX in
theorem err_def (hPE : mg "PullError" = some (.ref (He.ga K "PullError"))) (FD : FdP K mg "_law_error" s_law_error) : ∃ p1 p2 p3, ErrDef K mg "_law_error" "call" "PullError" "e" (He.ga K "_law_error") (He.ga K "PullError") (defScope s_law_error) [.Expr (.Call (.Name "call" p1) [] [] p2) p3] (errSuite (defBody s_law_error)) (errLast (defBody s_law_error)) := by
  obtain ⟨⟨fd, FD⟩, hm⟩ := FD
  exact ⟨_, _, _, ⟨⟨_, _, _, _, fd, FD, FD.bindsN (fun _ _ _ _ _ _ us hl => match us, hl with | [_], _ => rfl)⟩, sc_law_error, hm, hPE, rfl, by decide, by decide, by decide, rfl, .inl rfl⟩⟩
abbrev s_law_all_refused : Stmt := top 48
theorem sc_law_all_refused : FnScope ["call", "odds", "name", "odd"] ["call", "odds", "name"] (defScope s_law_all_refused) := ⟨rfl, rfl, rfl, by decide +kernel, rfl, by decide +kernel, by decide +kernel⟩
/-- the lambda that _law_all_refused makes: its scope -/
abbrev sc_refL : Scope := { kind := ScopeKind.function, names := [("call", NameKind.free), ("odd", NameKind.free)], isGenerator := false, isCoroutine := false }
open HotX L2H LamX in
theorem all_refused0 {Z : Ct} (B : Gb Z.X.mg) (G : Gx Z.X.K Z.X.mg) (hTM : Z.X.mg "TooMany" = some (.ref (He.ga Z.X.K "TooMany"))) (hPE : Z.X.mg "PullError" = some (.ref (He.ga Z.X.K "PullError"))) (FN : FdP Z.X.K Z.X.mg "_law_named_error" s_law_named_error) (FE : FdP Z.X.K Z.X.mg "_law_error" s_law_error) (LT : LamTab Z.X.K Z.X.mg Z.X.base Z.T "_law_all_refused")
    {k : Nat} {v0 : V} {odds : List D} {lab : Str} {cdv : Value} {A : Around} {outer : List PySem.Env} {s : Shared} {H : Hp} {E : XK} {W9 M0 : AS} {ε9 : Value → DL.Env → Prop} (hcd : ∃ o fd, Z.X.K.lookup (He.ga Z.X.K "_law_all_refused") = some o ∧ o.data = .func fd ∧ fd.code = cdv)
    (hr : Room (k + 3) (ctOf Z.X.prog Z.X.w Z.X.K Z.X.mg Z.X.base Z.T ["call", "odds", "name", "odd"] "_law_all_refused" (defScope s_law_all_refused) (He.ga Z.X.K "_law_all_refused") cdv A outer s H E W9 M0 ε9).X.A)
    (hb : ∀ d ∈ odds, ∀ (p1 p2 pos : Pos) (q : Str) (f c' : Addr) (cl : List (Str × Addr)) (A2 : Around) (outer2 : List PySem.Env) (s2 : Shared) (H2 : Hp) (E2 : XK) (W0 M2 : AS) (ε : Value → DL.Env → Prop), Room (k + 1) (ctCl Z ["call", "odds", "name", "odd"] q sc_refL f c' cl A2 outer2 s2 H2 E2 W0 M2 ε).X.A →
      L2N.Takes (ctCl Z ["call", "odds", "name", "odd"] q sc_refL f c' cl A2 outer2 s2 H2 E2 W0 M2 ε).X (wz (ctCl Z ["call", "odds", "name", "odd"] q sc_refL f c' cl A2 outer2 s2 H2 E2 W0 M2 ε)) → (∀ L N σL ρL, LamK (ctOf Z.X.prog Z.X.w Z.X.K Z.X.mg Z.X.base Z.T ["call", "odds", "name", "odd"] "_law_all_refused" (defScope s_law_all_refused) (He.ga Z.X.K "_law_all_refused") cdv A outer s H E W9 M0 ε9) L N σL ρL → LamK (ctCl Z ["call", "odds", "name", "odd"] q sc_refL f c' cl A2 outer2 s2 H2 E2 W0 M2 ε) L N σL ρL) → (∀ cls, LB Z.X.K cls lab → ε cls [some (.raw v0), some (.dat (.list odds)), some (.dat (.str lab)), some (.dat d)]) →
      DE (ctCl Z ["call", "odds", "name", "odd"] q sc_refL f c' cl A2 outer2 s2 H2 E2 W0 M2 ε) (.Call (.Name "call" p1) [.Name "odd" p2] [] pos) [some (.raw v0), some (.dat (.list odds)), some (.dat (.str lab)), some (.dat d)] fun _ _ => False) :
    DSs (ctOf Z.X.prog Z.X.w Z.X.K Z.X.mg Z.X.base Z.T ["call", "odds", "name", "odd"] "_law_all_refused" (defScope s_law_all_refused) (He.ga Z.X.K "_law_all_refused") cdv A outer s H E W9 M0 ε9) (defBody s_law_all_refused) (ent 4 (.raw v0 :: [.list odds, .str lab].map .dat)) { nx := fun _ => False, rt := fun r ρ' => r = .dat (.bool true) ∧ ρ' = ent 4 (.raw v0 :: [.list odds, .str lab].map .dat) } := by
  have hN := sc_law_all_refused.nd
  refine dss_one ?_
  refine ds_ret ?_
  refine de_cmp ?_
  refine de_lcN [("odd", 3)] 3 (by simp) ?_ (blk_by (N := ["call", "odds", "name", "odd"]) (psc := (defScope s_law_all_refused)) (by decide +kernel)) (by decide +kernel)
  refine de_var 1 rfl ?_
  refine ⟨odds, rfl, rfl, ?_, fun d hd s2 H2 C2 cl2 fp2 kB => ?_⟩
  · refine de_lst ?_
    refine da_nil ?_
    refine ⟨_, rfl, (by decide), ?_⟩
    exact od_eqP rfl rfl rfl rfl (Nat.le_of_ble_eq_true rfl) (Room.u64 hr) ⟨rfl, rfl⟩
  · refine dt_cmp ?_
    obtain ⟨p1, p2, p3, ED⟩ := err_def hPE FE
    obtain ⟨c, P, TZ⟩ := LT.z hcd (Z := (Ct.blk (ctOf Z.X.prog Z.X.w Z.X.K Z.X.mg Z.X.base Z.T ["call", "odds", "name", "odd"] "_law_all_refused" (defScope s_law_all_refused) (He.ga Z.X.K "_law_all_refused") cdv A outer s H E W9 M0 ε9) _ s2 H2 C2 cl2 fp2)) rfl rfl rfl rfl rfl
    refine de_err (Z := (Ct.blk (ctOf Z.X.prog Z.X.w Z.X.K Z.X.mg Z.X.base Z.T ["call", "odds", "name", "odd"] "_law_all_refused" (defScope s_law_all_refused) (He.ga Z.X.K "_law_all_refused") cdv A outer s H E W9 M0 ε9) _ s2 H2 C2 cl2 fp2)) (LB := LB Z.X.K) (r0 := .str "") (k := k + 1) ED TZ hr (fun cls lab h => ?_) (fun Y ρ e => err_last Y ρ e) (fun cls lab hl cdv A outer s H H0 E f e oe pn M0 hz hf hr' => err_suite B G hTM FN hl hz hf hr' (Nat.le_add_left 1 k)) (lamT_by (by kernel_rfl)) rfl (fun _ _ _ _ _ => rfl) (fun q f c' cl A outer s H E W0 M0 hr2 hz2 up => ?_)
    · obtain ⟨_, _, _, _, _, _, _, _, _, _, _, _, _, _, _, rfl, _, _, e⟩ := h
      exact e
    · refine (hb d hd _ _ _ _ _ _ _ _ _ _ _ _ _ _ _ hr2 hz2 (fun L N σL ρL q => up _ _ _ _ (kB _ _ _ _ q)) fun cls hcl => ⟨Sim.refl _, lab, hcl, ?_⟩).imp fun _ _ z => z.elim
      refine de_var 2 rfl ?_
      refine od_neP rfl rfl rfl rfl (Nat.le_of_ble_eq_true rfl) (Room.u64 hr) ?_
      refine boolR_i ?_
      exact ⟨by rw [eqv_str]; simp, rfl⟩
/-- what the refusals lean on -/
structure Lx (K : PySem.W.Frag) (mg : Str → Option Value) (base : Heap) (T : List (Addr × Str)) : Prop where
  B : Gb mg
  G : Gx K mg
  tm : mg "TooMany" = some (.ref (He.ga K "TooMany"))
  pe : mg "PullError" = some (.ref (He.ga K "PullError"))
  fn : FdP K mg "_law_named_error" s_law_named_error
  fe : FdP K mg "_law_error" s_law_error
  fa : FdP K mg "_law_all_refused" s_law_all_refused
  lt : LamTab K mg base T "_law_all_refused"
  lb : ∀ p ∈ excLabels.dropLast, LB K (.ref (He.ga K p.1)) p.2
open HotX L2H LamX in
/-- _law_all_refused(lambda a: body, odds, label) -/
theorem de_refused {Z : Ct} {ρ : DL.Env} {Φ : Rv → DL.Env → Prop} (LX : Lx Z.X.K Z.X.mg Z.X.base Z.T) {x : Str} (LTm : LamTab Z.X.K Z.X.mg Z.X.base Z.T x) {cdv : Value} (hcd : ∃ o fd, Z.X.K.lookup (He.ga Z.X.K x) = some o ∧ o.data = .func fd ∧ fd.code = cdv)
    {k : Nat} (hr : Room (k + 4) Z.X.A) {a : Str} {params : Arguments} {body : Expr} {scope : Scope} {p4 lpos pos : Pos} {es : List Expr} (t : LamT Z.X.env.scope scope [a]) (na : a ∉ Z.X.N) (hdef : defaultsOf params Z.X.env = ([], []))
    (hbind : ∀ (q : Str) (cl : List (Str × Addr)) (pm cv ctv : Value) (u : Value), bindArgs (PySem.W.kla_fn "<lambda>" q params body scope cl pm cv ctv) ⟨[u], []⟩ = pure [(a, u)])
    (h : DA Z es ρ fun rs ρ1 => ∃ odds lab, vwds rs = some [.list odds, .str lab] ∧ Φ (.dat (.bool true)) ρ1 ∧ ∀ d ∈ odds, ∀ (q : Str) (f c' : Addr) (cl : List (Str × Addr)) (A : Around) (outer : List PySem.Env) (s : Shared) (H : Hp) (E : XK) (M0 : AS) (ε : Value → Prop), (∀ cls, LB Z.X.K cls lab → ε cls) →
      Room k (ctCl Z (Z.X.N ++ [a]) q scope f c' cl A outer s H E (fun _ => False) M0 fun cls _ => ε cls).X.A → L2N.Takes (ctCl Z (Z.X.N ++ [a]) q scope f c' cl A outer s H E (fun _ => False) M0 fun cls _ => ε cls).X (wz (ctCl Z (Z.X.N ++ [a]) q scope f c' cl A outer s H E (fun _ => False) M0 fun cls _ => ε cls)) →
      DE (ctCl Z (Z.X.N ++ [a]) q scope f c' cl A outer s H E (fun _ => False) M0 fun cls _ => ε cls) body (strip ρ1 ++ [some (.dat d)]) fun _ _ => False)
    (e4 : Z.X.env.code = cdv := by rfl) (e5 : Z.X.env.qual = x ++ ".<locals>." := by rfl) (hg : Gl Z.X "_law_all_refused" := by rfl) (hs : starEach (.Lambda params body scope lpos :: es) Z.X.env = (false, eval (.Lambda params body scope lpos) Z.X.env) :: starEach es Z.X.env := by rfl) (hpl : (backTo pos (starEach es Z.X.env)).any (·.1) = false := by rfl) :
    DE Z (.Call (.Name "_law_all_refused" p4) (.Lambda params body scope lpos :: es) [] pos) ρ Φ := by
  obtain ⟨⟨fd, FA⟩, hm⟩ := LX.fa
  obtain ⟨c, P, TZ⟩ := LTm.z hcd rfl rfl rfl e4 e5
  refine de_callLam (k := k + 3) FA sc_law_all_refused (FA.bindsN fun _ _ _ _ _ _ us hl => match us, hl with | [_, _, _], _ => rfl) hm TZ hr t na hdef hbind (h.imp fun rs ρ1 ⟨odds, lab, ev, ph, hb⟩ => ?_) hg (by decide) hs hpl
  refine ⟨_, ev, rfl, .bool true, ph, fun L σL cdv A outer s H E M0 hcd eb es li kL hr' => ?_⟩
  refine dss_imp (all_refused0 (W9 := fun _ => False) (ε9 := fun _ _ => False) LX.B LX.G LX.tm LX.pe LX.fn LX.fe LX.lt hcd hr' fun d hd p1 p2 pos q f c' cl A2 outer2 s2 H2 E2 W0 M2 ε hr2 hz2 up hε => ?_) fun r _ z => z.1
  refine de_lam1 0 (up _ _ _ _ kL) li rfl hr2 hz2 ?_
  refine de_var 3 rfl ?_
  refine ⟨d, rfl, fun A3 outer3 s3 H3 E3 M3 hr3 hz3 => ?_⟩
  subst eb es
  exact hb d hd _ _ _ _ _ _ _ _ _ _ _ hε hr3 hz3
/-- .. a def in the place of a lambda -/
def FV (K : PySem.W.Frag) (x : Str) (F : FS) : FS := fun cs kk _ => ∃ (odds : List D) (lab : Str), cs = [.raw (.ref (He.ga K x)), .dat (.list odds), .dat (.str lab)] ∧ (∀ d ∈ odds, F [.dat d] (fun _ _ => False) fun cls cs' => cs' = [.dat d] ∧ LB K cls lab) ∧ kk (.dat (.bool true)) cs
theorem FV.mono (K : PySem.W.Frag) (x : Str) (F : FS) : MonoF (FV K x F) := fun cs kk kk' xx xx' ⟨odds, lab, e, h, g⟩ ff gg => ⟨odds, lab, e, h, ff _ _ g⟩
open HotX L2H LamX in
theorem ok_refV (LX : Lx K mg base T) {x : Str} {k : Nat} {F : FS} (D : DefOk P w K mg base T x (k + 1) F) (hx : mg x = some (.ref (He.ga K x))) (mono : MonoF F) : DefOk P w K mg base T "_law_all_refused" (k + 4) (FV K x F) := by
  refine mk_def LX.fa sc_law_all_refused (fun _ _ _ _ _ _ us hl => match us, hl with | [_, _, _], _ => rfl) ?_ fun cdv hcd A outer s0 H E W0 M0 cs kk ee h hr hz => ?_
  · rintro cs kk ee ⟨odds, lab, rfl, _⟩; rfl
  obtain ⟨odds, lab, rfl, hb, h⟩ := h
  refine dss_imp (all_refused0 (Z := ctOf P w K mg base T ["call", "odds", "name", "odd"] "_law_all_refused" (defScope s_law_all_refused) (He.ga K "_law_all_refused") cdv A outer s0 H E W0 M0 (bodyX [.raw (.ref (He.ga K x)), .dat (.list odds), .dat (.str lab)] ee)) LX.B LX.G LX.tm LX.pe LX.fn LX.fe LX.lt hcd hr fun d hd p1 p2 pos q f c' cl A2 outer2 s2 H2 E2 W2 M2 ε hr2 hz2 up hε => ?_) fun r ρ' z => ?_
  · refine de_callV 0 D mono hr2 hz2 rfl (fun f hf => ?_) ?_
    · have hf : mg x = some (.ref f) := hf
      rw [hx] at hf
      cases hf
      rfl
    refine da_cons ?_
    refine de_var 3 rfl ?_
    refine da_nil ?_
    exact ⟨_, rfl, List.Pairwise.nil, mono _ _ _ _ _ (hb d hd) (fun _ _ z => z.elim) fun cls cs' ⟨e, z⟩ => by subst e; exact hε cls z⟩
  · obtain ⟨rfl, rfl⟩ := z
    exact ret_dat (by walk_at "rc") h rfl
abbrev s_law_whole : Stmt := top 42
theorem sc_law_whole : FnScope ["value", "low", "high"] ["value", "low", "high"] (defScope s_law_whole) := ⟨rfl, rfl, rfl, by decide +kernel, rfl, by decide +kernel, by decide +kernel⟩
theorem ok_law_whole (B : Gb mg) (G : Gx K mg)  (FD : FdP K mg "_law_whole" s_law_whole) : DefOk P w K mg base T "_law_whole" 1 (F_law_whole) := by
  refine mk_def FD sc_law_whole (fun _ _ _ _ _ _ us hl => match us, hl with | [_, _, _], _ => rfl) ?_ fun cdv hcd A outer s0 H E W0 M0 cs kk ee h hr hz => ?_
  · rintro cs kk ee ⟨_, ⟨v, lo, hi, rfl, rfl⟩, _⟩; rfl
  have hN := (sc_law_whole).nd
  obtain ⟨_, ⟨v, lo, hi, rfl, rfl⟩, h⟩ := h
  refine dss_one ?_
  refine ds_ret ?_
  refine de_and ?_
  refine de_callB B.isinstance rfl ?_
  refine da_cons ?_
  refine de_var 0 rfl ?_
  refine da_cons ?_
  refine de_ty B.int rfl ?_
  refine da_nil ?_
  refine cd_isInt rfl ?_
  refine boolR_i ?_
  refine bcase_m (fun h1 => ?_) (fun h1 => ?_)
  · refine de_and ?_
    refine de_not ?_
    refine de_callB B.isinstance rfl ?_
    refine da_cons ?_
    refine de_var 0 rfl ?_
    refine da_cons ?_
    refine de_ty B.bool rfl ?_
    refine da_nil ?_
    refine cd_isBool rfl ?_
    refine boolR_i ?_
    refine boolR_i ?_
    refine bcase_m (fun h2 => ?_) (fun h2 => ?_)
    · refine de_one ?_
      obtain ⟨i, rfl⟩ := int_of h1 h2
      refine de_chain op_le op_le ?_
      refine de_var 1 rfl ?_
      refine de_var 0 rfl ?_
      refine ⟨_, _, rfl, rfl, ?_⟩
      refine bcase_m (fun h3 => ?_) (fun h3 => ?_)
      · refine de_var 2 rfl ?_
        refine ⟨_, rfl, ?_⟩
        exact ret_dat (by walk_at "rc") h (by simp only [isWhole, h3, Bool.true_and])
      · exact ret_dat (by walk_at "rc") h (by simp only [isWhole, h3, Bool.false_and])
    · exact ret_dat (by walk_at "rc") h (by cases v <;> first | rfl | (cases h2))
  · exact ret_dat (by walk_at "rc") h (by cases v <;> first | rfl | (cases h1))
abbrev s_law_is_pull : Stmt := top 43
theorem sc_law_is_pull : FnScope ["places", "value"] ["places", "value"] (defScope s_law_is_pull) := ⟨rfl, rfl, rfl, by decide +kernel, rfl, by decide +kernel, by decide +kernel⟩
theorem ok_law_is_pull (B : Gb mg) (G : Gx K mg) (D__law_whole : DefOk P w K mg base T "_law_whole" 1 (F_law_whole)) (FD : FdP K mg "_law_is_pull" s_law_is_pull) : DefOk P w K mg base T "_law_is_pull" 2 (F_law_is_pull) := by
  refine mk_def FD sc_law_is_pull (fun _ _ _ _ _ _ us hl => match us, hl with | [_, _], _ => rfl) ?_ fun cdv hcd A outer s0 H E W0 M0 cs kk ee h hr hz => ?_
  · rintro cs kk ee ⟨_, ⟨n, v, rfl, rfl⟩, _⟩; rfl
  have hN := (sc_law_is_pull).nd
  have D__law_whole_mono : MonoF (F_law_whole) := m_law_whole
  obtain ⟨_, ⟨n, v, rfl, rfl⟩, h⟩ := h
  refine dss_cons ?_
  refine ds_if ?_
  refine dt_w ?_
  refine dw_or ?_
  refine dt_not ?_
  refine dt_val ?_
  refine de_callB B.isinstance rfl ?_
  refine da_cons ?_
  refine de_var 1 rfl ?_
  refine da_cons ?_
  refine de_ty B.tuple rfl ?_
  refine da_nil ?_
  refine cd_isTup rfl ?_
  refine boolR_i ?_
  refine bcase_not (bcase_m (fun h1 => ?_) (fun h1 => ?_))
  · refine dw_or ?_
    obtain ⟨ds, rfl⟩ := tup_of h1
    refine dt_cmp ?_
    refine de_callB B.len rfl ?_
    refine da_cons ?_
    refine de_var 1 rfl ?_
    refine da_nil ?_
    refine cd_len rfl rfl (by first | trivial | walk_at "sz") ?_
    refine de_int ?_
    first | refine od_neI rfl rfl (Room.u64 hr) ?_ | refine od_ne rfl rfl (by walk_at "sh") (by walk_at "sh") (Room.u64 hr) ?_
    refine boolR_i ?_
    refine bcase_m (fun h2 => ?_) (fun h2 => ?_)
    · refine bcase_t ?_
      refine dss_one ?_
      refine ds_ret ?_
      refine de_bl ?_
      exact ret_dat (by walk_at "rc") h (by
        have h2 := of_decide_eq_true h2
        match ds, h2 with
        | [], _ => rfl
        | [_], _ => rfl
        | [_, _], _ => rfl
        | [_, _, _], h2 => exact absurd rfl h2
        | _ :: _ :: _ :: _ :: _, _ => rfl)
    · refine dw_or ?_
      obtain ⟨a, b, c, rfl⟩ := len3 h2
      refine dt_not ?_
      refine dt_val ?_
      refine de_call D__law_whole D__law_whole_mono (hr.mono (by decide)) hz ?_
      refine da_cons ?_
      refine de_ix ?_
      refine de_var 1 rfl ?_
      refine de_int ?_
      refine ⟨_, _, _, rfl, rfl, (by first | rfl | assumption), (by intro _ hz; cases hz), ?_⟩
      refine da_cons ?_
      refine de_neg ?_
      refine de_int ?_
      refine ⟨_, rfl, ?_⟩
      refine da_cons ?_
      refine de_int ?_
      refine da_nil ?_
      refine ⟨_, rfl, (by first | exact List.Pairwise.nil | exact nd1 _ | simp [lent]), ?_⟩
      refine ⟨_, ⟨_, _, _, rfl, rfl⟩, trivial, ?_⟩
      refine boolR_i ?_
      refine bcase_not (bcase_m (fun h3 => ?_) (fun h3 => ?_))
      · refine dw_or1 ?_
        obtain ⟨ci, rfl, _, _⟩ := isWhole_of h3
        refine dt_cmp ?_
        refine de_ix ?_
        refine de_var 1 rfl ?_
        refine de_int ?_
        refine ⟨_, _, _, rfl, rfl, (by first | rfl | assumption), (by intro _ hz; cases hz), ?_⟩
        refine de_int ?_
        first | refine od_eqI rfl rfl (Room.u64 hr) ?_ | refine od_eq rfl rfl (by walk_at "sh") (by walk_at "sh") (Room.u64 hr) ?_
        refine boolR_i ?_
        refine bcase_m (fun h4 => ?_) (fun h4 => ?_)
        · refine dss_one ?_
          refine ds_ret ?_
          refine de_bl ?_
          exact ret_dat (by walk_at "rc") h (by
            have := of_decide_eq_true h4
            subst this
            simp [fitsPull, PyData.eqv])
        · refine dss_nil ?_
          refine dss_one ?_
          refine ds_ret ?_
          refine de_and ?_
          refine de_call D__law_whole D__law_whole_mono (hr.mono (by decide)) hz ?_
          refine da_cons ?_
          refine de_ix ?_
          refine de_var 1 rfl ?_
          refine de_int ?_
          refine ⟨_, _, _, rfl, rfl, (by first | rfl | assumption), (by intro _ hz; cases hz), ?_⟩
          refine da_cons ?_
          refine de_int ?_
          refine da_cons ?_
          refine de_bin ?_
          refine de_var 0 rfl ?_
          refine de_int ?_
          refine od_subI rfl rfl ?_
          refine da_nil ?_
          refine ⟨_, rfl, (by first | exact List.Pairwise.nil | exact nd1 _ | simp [lent]), ?_⟩
          refine ⟨_, ⟨_, _, _, rfl, rfl⟩, trivial, ?_⟩
          refine boolR_i ?_
          refine bcase_m (fun h5 => ?_) (fun h5 => ?_)
          · refine de_and ?_
            refine de_call D__law_whole D__law_whole_mono (hr.mono (by decide)) hz ?_
            refine da_cons ?_
            refine de_ix ?_
            refine de_var 1 rfl ?_
            refine de_int ?_
            refine ⟨_, _, _, rfl, rfl, (by first | rfl | assumption), (by intro _ hz; cases hz), ?_⟩
            refine da_cons ?_
            refine de_int ?_
            refine da_cons ?_
            refine de_bin ?_
            refine de_var 0 rfl ?_
            refine de_int ?_
            refine od_subI rfl rfl ?_
            refine da_nil ?_
            refine ⟨_, rfl, (by first | exact List.Pairwise.nil | exact nd1 _ | simp [lent]), ?_⟩
            refine ⟨_, ⟨_, _, _, rfl, rfl⟩, trivial, ?_⟩
            refine boolR_i ?_
            refine bcase_m (fun h6 => ?_) (fun h6 => ?_)
            · refine de_one ?_
              obtain ⟨ai, rfl, _, _⟩ := isWhole_of h5
              obtain ⟨bi, rfl, _, _⟩ := isWhole_of h6
              refine de_cmp ?_
              refine de_ix ?_
              refine de_var 1 rfl ?_
              refine de_int ?_
              refine ⟨_, _, _, rfl, rfl, (by first | rfl | assumption), (by intro _ hz; cases hz), ?_⟩
              refine de_ix ?_
              refine de_var 1 rfl ?_
              refine de_int ?_
              refine ⟨_, _, _, rfl, rfl, (by first | rfl | assumption), (by intro _ hz; cases hz), ?_⟩
              first | refine od_neI rfl rfl (Room.u64 hr) ?_ | refine od_ne rfl rfl (by walk_at "sh") (by walk_at "sh") (Room.u64 hr) ?_
              exact ret_dat (by walk_at "rc") h (by
                have h4 := of_decide_eq_false h4
                rw [PyData.bool.injEq, Bool.eq_iff_iff]
                simp [fitsPull, h3, h5, h6, PyData.eqv, h4])
            · exact ret_dat (by walk_at "rc") h (by simp only [fitsPull, h6, Bool.false_and, Bool.and_false])
          · exact ret_dat (by walk_at "rc") h (by simp only [fitsPull, h5, Bool.false_and, Bool.and_false])
      · refine bcase_t ?_
        refine dss_one ?_
        refine ds_ret ?_
        refine de_bl ?_
        exact ret_dat (by walk_at "rc") h (by simp only [fitsPull, h3, Bool.false_and])
  · refine bcase_t ?_
    refine dss_one ?_
    refine ds_ret ?_
    refine de_bl ?_
    exact ret_dat (by walk_at "rc") h (by cases v <;> first | rfl | (cases h1))
abbrev s_law_is_web : Stmt := top 44
theorem sc_law_is_web : FnScope ["value", "part", "pairs", "pull", "lean"] ["value"] (defScope s_law_is_web) := ⟨rfl, rfl, rfl, by decide +kernel, rfl, by decide +kernel, by decide +kernel⟩
theorem ok_law_is_web (B : Gb mg) (G : Gx K mg) (D__law_whole : DefOk P w K mg base T "_law_whole" 1 (F_law_whole)) (D__law_is_pull : DefOk P w K mg base T "_law_is_pull" 2 (F_law_is_pull)) (FD : FdP K mg "_law_is_web" s_law_is_web) : DefOk P w K mg base T "_law_is_web" 3 (F_law_is_web) := by
  refine mk_def FD sc_law_is_web (fun _ _ _ _ _ _ us hl => match us, hl with | [_], _ => rfl) ?_ fun cdv hcd A outer s0 H E W0 M0 cs kk ee h hr hz => ?_
  · rintro cs kk ee ⟨_, ⟨v, rfl, _⟩, _⟩; rfl
  have hN := (sc_law_is_web).nd
  have D__law_whole_mono : MonoF (F_law_whole) := m_law_whole
  have D__law_is_pull_mono : MonoF (F_law_is_pull) := m_law_is_pull
  obtain ⟨_, ⟨v, rfl, hs, rfl⟩, h⟩ := h
  refine dss_cons ?_
  refine ds_if ?_
  refine dt_w ?_
  refine dw_or ?_
  refine dt_not ?_
  refine dt_val ?_
  refine de_callB B.isinstance rfl ?_
  refine da_cons ?_
  refine de_var 0 rfl ?_
  refine da_cons ?_
  refine de_ty B.tuple rfl ?_
  refine da_nil ?_
  refine cd_isTup rfl ?_
  refine boolR_i ?_
  refine bcase_not (bcase_m (fun h1 => ?_) (fun h1 => ?_))
  · refine dw_or ?_
    obtain ⟨ds, rfl⟩ := tup_of h1
    refine dt_cmp ?_
    refine de_callB B.len rfl ?_
    refine da_cons ?_
    refine de_var 0 rfl ?_
    refine da_nil ?_
    refine cd_len rfl rfl (by first | trivial | walk_at "sz") ?_
    refine de_int ?_
    first | refine od_neI rfl rfl (Room.u64 hr) ?_ | refine od_ne rfl rfl (by walk_at "sh") (by walk_at "sh") (Room.u64 hr) ?_
    refine boolR_i ?_
    refine bcase_m (fun h2 => ?_) (fun h2 => ?_)
    · refine bcase_t ?_
      refine dss_one ?_
      refine ds_ret ?_
      refine de_bl ?_
      exact ret_dat (by walk_at "rc") h (by rw [fitsWeb_len (fun e => of_decide_eq_true h2 (by rw [e]; rfl))])
    · refine dw_or1 ?_
      obtain ⟨n, b, c, rfl⟩ := len3 h2
      refine dt_not ?_
      refine dt_val ?_
      refine de_call D__law_whole D__law_whole_mono (hr.mono (by decide)) hz ?_
      refine da_cons ?_
      refine de_ix ?_
      refine de_var 0 rfl ?_
      refine de_int ?_
      refine ⟨_, _, _, rfl, rfl, (by first | rfl | assumption), (by intro _ hz; cases hz), ?_⟩
      refine da_cons ?_
      refine de_int ?_
      refine da_cons ?_
      refine de_int ?_
      refine da_nil ?_
      refine ⟨_, rfl, (by first | exact List.Pairwise.nil | exact nd1 _ | simp [lent]), ?_⟩
      refine ⟨_, ⟨_, _, _, rfl, rfl⟩, trivial, ?_⟩
      refine boolR_i ?_
      refine bcase_not (bcase_m (fun h3 => ?_) (fun h3 => ?_))
      · refine dss_nil ?_
        refine dss_cons ?_
        refine ds_for ?_
        refine di_tup ?_
        refine de_sl ?_
        refine de_var 0 rfl ?_
        refine de_int ?_
        refine ⟨_, rfl, ?_⟩
        refine ⟨_, rfl, (by intro _ hz; first | rfl | (cases hz)), ?_⟩
        refine ⟨_, rfl, ?_⟩
        refine ⟨fun r ρ' => ∃ c1 : Option C, ρ' = [some (.dat (.tuple [n, b, c])), c1, none, none, none] ∧ (r = [b, c] ∨ (r = [c] ∧ isTupD b = true) ∨ (r = [] ∧ isTupD b = true ∧ isTupD c = true)), ⟨_, rfl, .inl rfl⟩, fun _ _ _ => trivial, ?_, ?_⟩
        · rintro ρ' ⟨c1, rfl, hr0⟩
          obtain ⟨tb, tc⟩ : isTupD b = true ∧ isTupD c = true := by
            rcases hr0 with e | ⟨e, _⟩ | ⟨_, e⟩
            · cases e
            · cases e
            · exact e
          obtain ⟨ps, rfl⟩ : ∃ ps, b = .tuple ps := by cases b <;> first | exact ⟨_, rfl⟩ | cases tb
          obtain ⟨ls, rfl⟩ : ∃ ls, c = .tuple ls := by cases c <;> first | exact ⟨_, rfl⟩ | cases tc
          obtain ⟨p, rfl, p1, p7⟩ := isWhole_of h3
          have sp := hs.p1 _ _ _ rfl
          have sl := hs.p2 _ _ _ rfl
          have hpl : (PyData.plain (.int p) && (PyData.plainAll ps && (PyData.plainAll ls && true))) = true := hs.pl
          simp only [Bool.and_eq_true, and_true] at hpl
          have pp := hpl.2.1
          have pl := hpl.2.2
          have zp : ps.length ≤ sizeLine := by rw [sizeLine_eq]; omega
          have zl : ls.length ≤ sizeLine := by rw [sizeLine_eq]; omega
          refine dss_cons ?_
          refine ds_if ?_
          refine dt_cmp ?_
          refine de_lc [("pull", 3)] ?_ (ok := blk_by (N := ["value", "part", "pairs", "pull", "lean"]) (psc := (defScope s_law_is_web)) (by decide +kernel))
          refine di_tup ?_
          refine de_ix ?_
          refine de_var 0 rfl ?_
          refine de_int ?_
          refine ⟨_, _, _, rfl, rfl, (by first | rfl | assumption), (by intro _ hz; cases hz), ?_⟩
          refine ⟨_, rfl, ?_⟩
          refine ⟨rfl, lc_pure (notPull p) zp trivial ?_ ?_⟩
          · skip
            refine de_lst ?_
            refine da_nil ?_
            refine ⟨_, rfl, (by walk_at "sz"), ?_⟩
            refine od_neP rfl rfl (keep_plain (g := notPull p) (f := fitsPull p) (fun _ => rfl) pp) rfl (Nat.le_of_ble_eq_true rfl) (Room.u64 hr) ?_
            refine boolR_i ?_
            refine bcase_m (fun h4 => ?_) (fun h4 => ?_)
            · refine dss_one ?_
              refine ds_ret ?_
              refine de_bl ?_
              rw [keep_nil (g := notPull p) (f := fitsPull p) fun _ => rfl, Bool.not_eq_true'] at h4
              exact ret_dat (by walk_at "rc") h (by simp only [fitsWeb, h4, Bool.and_false, Bool.false_and])
            · refine dss_nil ?_
              refine dss_cons ?_
              refine ds_if ?_
              refine dt_w ?_
              refine dw_or ?_
              rw [keep_nil (g := notPull p) (f := fitsPull p) fun _ => rfl, Bool.not_eq_false'] at h4
              obtain ⟨qs, rfl, gq⟩ := pulls_back h4
              refine dt_cmp ?_
              refine de_lc [("lean", 4)] ?_ (ok := blk_by (N := ["value", "part", "pairs", "pull", "lean"]) (psc := (defScope s_law_is_web)) (by decide +kernel))
              refine di_tup ?_
              refine de_ix ?_
              refine de_var 0 rfl ?_
              refine de_int ?_
              refine ⟨_, _, _, rfl, rfl, (by first | rfl | assumption), (by intro _ hz; cases hz), ?_⟩
              refine ⟨_, rfl, ?_⟩
              refine ⟨rfl, lc_pure (notLean) zl trivial ?_ ?_⟩
              · skip
                refine de_lst ?_
                refine da_nil ?_
                refine ⟨_, rfl, (by walk_at "sz"), ?_⟩
                refine od_neP rfl rfl (keep_plain (g := notLean) (f := fun d => isWhole d (-9) 9) (fun _ => rfl) pl) rfl (Nat.le_of_ble_eq_true rfl) (Room.u64 hr) ?_
                refine boolR_i ?_
                refine bcase_m (fun h5 => ?_) (fun h5 => ?_)
                · refine bcase_t ?_
                  refine dss_one ?_
                  refine ds_ret ?_
                  refine de_bl ?_
                  rw [keep_nil (g := notLean) (f := fun d => isWhole d (-9) 9) fun _ => rfl, Bool.not_eq_true'] at h5
                  exact ret_dat (by walk_at "rc") h (by simp only [fitsWeb, h5, Bool.and_false])
                · refine dw_or1 ?_
                  refine dt_cmp ?_
                  refine de_callB B.len rfl ?_
                  refine da_cons ?_
                  refine de_ix ?_
                  refine de_var 0 rfl ?_
                  refine de_int ?_
                  refine ⟨_, _, _, rfl, rfl, (by first | rfl | assumption), (by intro _ hz; cases hz), ?_⟩
                  refine da_nil ?_
                  refine cd_len rfl rfl (by first | trivial | walk_at "sz") ?_
                  refine de_ix ?_
                  refine de_var 0 rfl ?_
                  refine de_int ?_
                  refine ⟨_, _, _, rfl, rfl, (by first | rfl | assumption), (by intro _ hz; cases hz), ?_⟩
                  first | refine od_neI rfl rfl (Room.u64 hr) ?_ | refine od_ne rfl rfl (by walk_at "sh") (by walk_at "sh") (Room.u64 hr) ?_
                  refine boolR_i ?_
                  refine bcase_m (fun h6 => ?_) (fun h6 => ?_)
                  · refine dss_one ?_
                    refine ds_ret ?_
                    refine de_bl ?_
                    have h6 : ¬ ((ls.length : Int) = p) := of_decide_eq_true h6
                    exact ret_dat (by walk_at "rc") h (by simp only [fitsWeb, h6, decide_false, Bool.and_false, Bool.false_and])
                  · refine dss_nil ?_
                    refine dss_cons ?_
                    refine ds_setLc 2 [("pull", 3)] ?_ (ok := blk_by (N := ["value", "part", "pairs", "pull", "lean"]) (psc := (defScope s_law_is_web)) (by decide +kernel))
                    refine di_tup ?_
                    refine de_ix ?_
                    refine de_var 0 rfl ?_
                    refine de_int ?_
                    refine ⟨_, _, _, rfl, rfl, (by first | rfl | assumption), (by intro _ hz; cases hz), ?_⟩
                    refine ⟨_, rfl, ?_⟩
                    refine ⟨rfl, lc_pure (pairG) zp trivial ?_ ?_⟩
                    · rw [pairG_map]
                      refine dss_one ?_
                      refine ds_ret ?_
                      refine de_cmp ?_
                      refine de_var 2 rfl ?_
                      refine de_sortedSetP 7 B.sorted B.set (Room.u64 hr) ?_
                      refine da_cons ?_
                      refine de_var 2 rfl ?_
                      refine da_nil ?_
                      refine ⟨qs.map pairOf, rfl, (by rw [List.length_map] at sp ⊢; omega), pull_lt p7 h4, fun LL nd hmm hss => ?_⟩
                      refine od_eqP rfl rfl (prs_plain _) (prs_plain _) (prs_depth _) (Room.u64 hr) ?_
                      rw [keep_nil (g := notLean) (f := fun d => isWhole d (-9) 9) fun _ => rfl, Bool.not_eq_false'] at h5
                      have h6 : (ls.length : Int) = p := by have := of_decide_eq_false h6; simpa using this
                      exact ret_dat (by walk_at "rc") h (by 
                        rw [web_pairs p1 p7 h4 h5 h6 nd hmm hss]
                        exact congrArg PyData.bool (eqv_prs _ _))
                    · intro d hd _ _ _ _ _
                      obtain ⟨t, ht, rfl⟩ := List.mem_map.mp hd
                      refine dg_name 3 ?_
                      intro _ _ _ _ _
                      refine bcase_t ?_
                      intro _ _ _ _ _
                      refine de_sl ?_
                      refine de_var 3 rfl ?_
                      refine de_int ?_
                      refine ⟨_, rfl, ?_⟩
                      refine ⟨_, rfl, (by intro _ hz; first | rfl | (cases hz)), ?_⟩
                      exact ⟨_, rfl, rfl, rfl⟩
              · intro d hd _ _ _ _ _
                refine dg_name 4 ?_
                intro _ _ _ _ _
                show DT _ _ _ _
                refine dt_not ?_
                refine dt_val ?_
                refine de_call D__law_whole D__law_whole_mono (hr.mono (by decide)) takes_blk ?_
                refine da_cons ?_
                refine de_var 4 rfl ?_
                refine da_cons ?_
                refine de_neg ?_
                refine de_int ?_
                refine ⟨_, rfl, ?_⟩
                refine da_cons ?_
                refine de_int ?_
                refine da_nil ?_
                refine ⟨_, rfl, (by first | exact List.Pairwise.nil | exact nd1 _ | simp [lent]), ?_⟩
                refine ⟨_, ⟨_, _, _, rfl, rfl⟩, trivial, ?_⟩
                refine boolR_i ?_
                refine bcase_not (bcase_m (fun h7 => ?_) (fun h7 => ?_))
                · exact ⟨by unfold notLean; split <;> simp_all, rfl⟩
                · intro _ _ _ _ _
                  refine de_var 4 rfl ?_
                  exact ⟨_, rfl, by unfold notLean; split <;> simp_all, rfl⟩
          · intro d hd _ _ _ _ _
            refine dg_name 3 ?_
            intro _ _ _ _ _
            show DT _ _ _ _
            refine dt_not ?_
            refine dt_val ?_
            refine de_call D__law_is_pull D__law_is_pull_mono (hr.mono (by decide)) takes_blk ?_
            refine da_cons ?_
            refine de_ix ?_
            refine de_var 0 rfl ?_
            refine de_int ?_
            refine ⟨_, _, _, rfl, rfl, (by first | rfl | assumption), (by intro _ hz; cases hz), ?_⟩
            refine da_cons ?_
            refine de_var 3 rfl ?_
            refine da_nil ?_
            refine ⟨_, rfl, (by first | exact List.Pairwise.nil | exact nd1 _ | simp [lent]), ?_⟩
            refine ⟨_, ⟨_, _, rfl, rfl⟩, trivial, ?_⟩
            refine boolR_i ?_
            refine bcase_not (bcase_m (fun h8 => ?_) (fun h8 => ?_))
            · exact ⟨by unfold notPull; split <;> simp_all, rfl⟩
            · intro _ _ _ _ _
              refine de_var 3 rfl ?_
              exact ⟨_, rfl, by unfold notPull; split <;> simp_all, rfl⟩
        · rintro d r ρ' ⟨c1, rfl, hr0⟩
          have nx : isTupD d = true → (r = [b, c] ∨ (r = [c] ∧ isTupD b = true) ∨ (r = [] ∧ isTupD b = true ∧ isTupD c = true)) := fun hd => by
            rcases hr0 with e | ⟨e, tb⟩ | ⟨e, _⟩
            · obtain ⟨rfl, rfl⟩ := List.cons.inj e; exact .inr (.inl ⟨rfl, hd⟩)
            · obtain ⟨rfl, rfl⟩ := List.cons.inj e; exact .inr (.inr ⟨rfl, tb, hd⟩)
            · cases e
          have bad : isTupD d = false → isTupD b = false ∨ isTupD c = false := fun hd => by
            rcases hr0 with e | ⟨e, tb⟩ | ⟨e, _⟩
            · obtain ⟨rfl, rfl⟩ := List.cons.inj e; exact .inl hd
            · obtain ⟨rfl, rfl⟩ := List.cons.inj e; exact .inr hd
            · cases e
          refine dg_name 1 ?_
          refine dss_one ?_
          refine ds_if ?_
          refine dt_not ?_
          refine dt_val ?_
          refine de_callB B.isinstance rfl ?_
          refine da_cons ?_
          refine de_var 1 rfl ?_
          refine da_cons ?_
          refine de_ty B.tuple rfl ?_
          refine da_nil ?_
          refine cd_isTup rfl ?_
          refine boolR_i ?_
          refine bcase_not (bcase_m (fun h9 => ?_) (fun h9 => ?_))
          · refine dss_nil ?_
            exact ⟨_, rfl, nx (by obtain ⟨_, rfl⟩ := tup_of h9; rfl)⟩
          · refine dss_one ?_
            refine ds_ret ?_
            refine de_bl ?_
            exact ret_dat (by walk_at "rc") h (by rw [fitsWeb_parts (bad (by cases d <;> first | rfl | (cases h9)))])
      · refine dss_one ?_
        refine ds_ret ?_
        refine de_bl ?_
        exact ret_dat (by walk_at "rc") h (by cases b <;> first | rfl | (cases c <;> first | rfl | (cases n <;> first | rfl | simp only [fitsWeb, h3, Bool.false_and])))
  · refine bcase_t ?_
    refine dss_one ?_
    refine ds_ret ?_
    refine de_bl ?_
    exact ret_dat (by walk_at "rc") h (by cases v <;> first | rfl | (cases h1))
abbrev s_as_text : Stmt := top 25
theorem sc_as_text : FnScope ["web", "lines", "lean", "one", "other", "weight"] ["web"] (defScope s_as_text) := ⟨rfl, rfl, rfl, by decide +kernel, rfl, by decide +kernel, by decide +kernel⟩
theorem ok_as_text (B : Gb mg) (G : Gx K mg)  (FD : FdP K mg "as_text" s_as_text) : DefOk P w K mg base T "as_text" 1 (F_as_text) := by
  refine mk_def FD sc_as_text (fun _ _ _ _ _ _ us hl => match us, hl with | [_], _ => rfl) ?_ fun cdv hcd A outer s0 H E W0 M0 cs kk ee h hr hz => ?_
  · rintro cs kk ee ⟨_, ⟨p, ps, ls, rfl, _⟩, _⟩; rfl
  have hN := (sc_as_text).nd
  obtain ⟨_, ⟨p, ps, ls, rfl, gw, rfl⟩, h⟩ := h
  have hf := few gw
  have h7 := gw.p7
  have hl7 := gw.lean
  obtain ⟨ll1, ll2⟩ := line_len gw
  refine dss_cons ?_
  refine ds_set 1 ?_
  refine de_lst ?_
  refine da_cons ?_
  refine de_bm F.plainAttrs_str F.slot_str_join F.type_str_join ?_
  refine de_str ?_
  refine ⟨⟨_, rfl⟩, ?_⟩
  refine da_cons ?_
  refine de_bin ?_
  refine de_lst ?_
  refine da_cons ?_
  refine de_str ?_
  refine da_nil ?_
  refine ⟨_, rfl, (by walk_at "sz"), ?_⟩
  refine de_lc [("lean", 2)] ?_ (ok := blk_by (N := ["web", "lines", "lean", "one", "other", "weight"]) (psc := (defScope s_as_text)) (by decide +kernel))
  refine di_tup ?_
  refine de_ix ?_
  refine de_var 0 rfl ?_
  refine de_int ?_
  refine ⟨_, _, _, rfl, rfl, (by first | rfl | assumption), (by intro _ hz; cases hz), ?_⟩
  refine ⟨_, rfl, ?_⟩
  refine ⟨rfl, lc_pure (strG) (by rw [List.length_map, sizeLine_eq]; omega) trivial ?_ ?_⟩
  · rw [strG_map]
    refine od_addL rfl rfl (by simp only [List.length_map, List.length_cons, List.length_nil]; rw [sizeLine_eq]; omega) ?_
    refine da_nil ?_
    refine cd_join (ys := ("leans" : Str) :: ls.map istr) rfl rfl (lean_room gw) ?_
    refine da_nil ?_
    refine ⟨_, rfl, (by walk_at "sz"), ?_⟩
    refine ⟨_, rfl, ?_⟩
    refine dss_one ?_
    refine ds_ret ?_
    refine de_bm F.plainAttrs_str F.slot_str_join F.type_str_join ?_
    refine de_str ?_
    refine ⟨⟨_, rfl⟩, ?_⟩
    refine da_cons ?_
    refine de_bin ?_
    refine de_var 1 rfl ?_
    refine de_lc [("one", 3), ("other", 4), ("weight", 5)] ?_ (ok := blk_by (N := ["web", "lines", "lean", "one", "other", "weight"]) (psc := (defScope s_as_text)) (by decide +kernel))
    refine di_tup ?_
    refine de_ix ?_
    refine de_var 0 rfl ?_
    refine de_int ?_
    refine ⟨_, _, _, rfl, rfl, (by first | rfl | assumption), (by intro _ hz; cases hz), ?_⟩
    refine ⟨_, rfl, ?_⟩
    refine ⟨rfl, lc_pure (lineG) (by rw [List.length_map, sizeLine_eq]; omega) trivial ?_ ?_⟩
    · rw [lineG_map]
      refine od_addL rfl rfl (by simp only [List.length_map, List.length_cons, List.length_nil]; rw [sizeLine_eq]; omega) ?_
      refine da_nil ?_
      refine cd_join (ys := leanLine ls :: ps.map pullLine) rfl rfl (text_room gw) ?_
      exact ret_dat (by walk_at "rc") h rfl
    · intro d hd _ _ _ _ _
      obtain ⟨⟨a, b, c⟩, ht, rfl⟩ := List.mem_map.mp hd
      obtain ⟨q1, q2, q3⟩ := small_of gw ht
      have c1 : (Str.ofString (toString a)).length ≤ 2 := (nums_at q1).2.2.1
      have c2 : (Str.ofString (toString b)).length ≤ 2 := (nums_at q2).2.2.1
      have c3 : (Str.ofString (toString c)).length ≤ 2 := (nums_at q3).2.2.1
      have k1 := (nums_at q1).2.2.2.1
      have k2 := (nums_at q2).2.2.2.1
      have k3 := (nums_at q3).2.2.2.1
      have z0 : Str.empty.length = 0 := rfl
      have z1 : (Str.ofString "pull ").length = 5 := rfl
      have z2 : (Str.ofString " ").length = 1 := rfl
      first | refine dg_tup ?_ rfl | refine dg_lst ?_ rfl
      refine dgs_cons ?_
      refine dg_name 3 ?_
      refine dgs_cons ?_
      refine dg_name 4 ?_
      refine dgs_cons ?_
      refine dg_name 5 ?_
      refine dgs_nil ?_
      intro _ _ _ _ _
      refine bcase_t ?_
      intro _ _ _ _ _
      refine de_js ?_
      refine dj_cons ?_
      refine de_str ?_
      refine ⟨_, rfl, (by simp only [len_app]; rw [sizeLine_eq]; omega), ?_⟩
      refine dj_cons ?_
      refine de_fmt ?_
      refine de_var 3 rfl ?_
      first | refine .inl ⟨_, rfl, (by walk_at "sz"), ?_⟩ | refine .inr ⟨_, rfl, (by walk_at "sz"), ?_⟩
      refine ⟨_, rfl, (by simp only [len_app]; rw [sizeLine_eq]; omega), ?_⟩
      refine dj_cons ?_
      refine de_str ?_
      refine ⟨_, rfl, (by simp only [len_app]; rw [sizeLine_eq]; omega), ?_⟩
      refine dj_cons ?_
      refine de_fmt ?_
      refine de_var 4 rfl ?_
      first | refine .inl ⟨_, rfl, (by walk_at "sz"), ?_⟩ | refine .inr ⟨_, rfl, (by walk_at "sz"), ?_⟩
      refine ⟨_, rfl, (by simp only [len_app]; rw [sizeLine_eq]; omega), ?_⟩
      refine dj_cons ?_
      refine de_str ?_
      refine ⟨_, rfl, (by simp only [len_app]; rw [sizeLine_eq]; omega), ?_⟩
      refine dj_cons ?_
      refine de_fmt ?_
      refine de_var 5 rfl ?_
      first | refine .inl ⟨_, rfl, (by walk_at "sz"), ?_⟩ | refine .inr ⟨_, rfl, (by walk_at "sz"), ?_⟩
      refine ⟨_, rfl, (by simp only [len_app]; rw [sizeLine_eq]; omega), ?_⟩
      refine dj_nil ?_
      exact ⟨_, rfl, congrArg (fun z => some (PyData.str z)) (fline a b c).symm, rfl⟩
  · intro d hd _ _ _ _ _
    obtain ⟨l, hl, rfl⟩ := List.mem_map.mp hd
    refine dg_name 2 ?_
    intro _ _ _ _ _
    refine bcase_t ?_
    intro _ _ _ _ _
    refine de_callT B.str rfl ?_
    refine da_cons ?_
    refine de_var 2 rfl ?_
    refine da_nil ?_
    refine cd_strI rfl (nums_at (gw.leans _ hl)).2.2.2.1 ?_
    exact ⟨_, rfl, rfl, rfl⟩
abbrev s_web_text : Stmt := top 26
theorem sc_web_text : FnScope ["web"] ["web"] (defScope s_web_text) := ⟨rfl, rfl, rfl, by decide +kernel, rfl, by decide +kernel, by decide +kernel⟩
theorem ok_web_text (B : Gb mg) (G : Gx K mg) (D_need_web : DefOk P w K mg base T "need_web" 4 (F_need_web K)) (D_as_text : DefOk P w K mg base T "as_text" 1 (F_as_text)) (FD : FdP K mg "web_text" s_web_text) : DefOk P w K mg base T "web_text" 5 (F_web_text K) := by
  refine mk_def FD sc_web_text (fun _ _ _ _ _ _ us hl => match us, hl with | [_], _ => rfl) ?_ fun cdv hcd A outer s0 H E W0 M0 cs kk ee h hr hz => ?_
  · rintro cs kk ee ⟨_, ⟨W, rfl, _⟩, _⟩; rfl
  have hN := (sc_web_text).nd
  have D_need_web_mono : MonoF (F_need_web K) := m_need_web
  have D_as_text_mono : MonoF (F_as_text) := m_as_text
  obtain ⟨r, ⟨W, rfl, hs, hr0⟩, h⟩ := h
  refine dss_cons ?_
  refine ds_expr ?_
  refine de_call D_need_web D_need_web_mono (hr.mono (by decide)) hz ?_
  refine da_cons ?_
  refine de_var 0 rfl ?_
  refine da_nil ?_
  refine ⟨_, rfl, (by first | exact List.Pairwise.nil | exact nd1 _ | simp [lent]), ?_⟩
  refine ⟨_, ⟨_, rfl, hs, rfl⟩, ?_⟩
  rcases hr0 with ⟨hw, rfl⟩ | ⟨p, ps, ls, rfl, gw, hr0⟩
  · rw [needWeb, if_neg (by rw [hw]; decide)]
    exact eps_of (by walk_at "rc") h
  rw [needWeb, if_pos gw.fits]
  refine ⟨trivial, ?_⟩
  have p1 := gw.p1
  have p7 := gw.p7
  refine dss_one ?_
  refine ds_ret ?_
  refine de_call D_as_text D_as_text_mono (hr.mono (by decide)) hz ?_
  refine da_cons ?_
  refine de_var 0 rfl ?_
  refine da_nil ?_
  refine ⟨_, rfl, (by first | exact List.Pairwise.nil | exact nd1 _ | simp [lent]), ?_⟩
  refine ⟨_, ⟨_, _, _, rfl, gw, rfl⟩, trivial, ?_⟩
  subst hr0
  exact ret_dat (by walk_at "rc") h rfl
abbrev s_is_number : Stmt := top 27
theorem sc_is_number : FnScope ["word", "figure"] ["word"] (defScope s_is_number) := ⟨rfl, rfl, rfl, by decide +kernel, rfl, by decide +kernel, by decide +kernel⟩
theorem ok_is_number (B : Gb mg) (G : Gx K mg)  (FD : FdP K mg "is_number" s_is_number) : DefOk P w K mg base T "is_number" 1 (F_is_number) := by
  refine mk_def FD sc_is_number (fun _ _ _ _ _ _ us hl => match us, hl with | [_], _ => rfl) ?_ fun cdv hcd A outer s0 H E W0 M0 cs kk ee h hr hz => ?_
  · rintro cs kk ee ⟨_, ⟨w, rfl, _⟩, _⟩; rfl
  have hN := (sc_is_number).nd
  obtain ⟨_, ⟨w, rfl, hw, rfl⟩, h⟩ := h
  refine dss_cons ?_
  refine ds_set 1 ?_
  refine de_is (d := .str (figOf w)) ?_ ?_
  · refine de_if ?_
    refine dt_cmp ?_
    refine de_sl ?_
    refine de_var 0 rfl ?_
    refine de_int ?_
    refine ⟨_, rfl, ?_⟩
    refine ⟨_, rfl, (by intro _ hz; first | rfl | (cases hz)), (by rw [sizeLine_eq]; omega), ?_⟩
    refine de_str ?_
    refine od_eqP rfl rfl rfl rfl (Nat.le_of_ble_eq_true rfl) (Room.u64 hr) ?_
    refine boolR_i ?_
    refine bcase_m (fun h1 => ?_) (fun h1 => ?_)
    · refine de_sl ?_
      refine de_var 0 rfl ?_
      refine de_int ?_
      refine ⟨_, rfl, ?_⟩
      refine ⟨_, rfl, (by intro _ hz; first | rfl | (cases hz)), (by rw [sizeLine_eq]; omega), ?_⟩
      exact ⟨congrArg (fun z => Rv.dat (PyData.str z)) (by unfold figOf; simp_all), rfl⟩
    · refine de_var 0 rfl ?_
      exact ⟨congrArg (fun z => Rv.dat (PyData.str z)) (by unfold figOf; simp_all), rfl⟩
  · refine ⟨_, rfl, ?_⟩
    refine dss_one ?_
    refine ds_ret ?_
    refine de_and ?_
    refine de_cmp ?_
    refine de_callB B.len rfl ?_
    refine da_cons ?_
    refine de_var 1 rfl ?_
    refine da_nil ?_
    refine cd_len rfl rfl (fig_len hw) ?_
    refine de_int ?_
    first | refine od_eqI rfl rfl (Room.u64 hr) ?_ | refine od_eq rfl rfl (by walk_at "sh") (by walk_at "sh") (Room.u64 hr) ?_
    refine boolR_i ?_
    refine bcase_m (fun h2 => ?_) (fun h2 => ?_)
    · refine de_and ?_
      obtain ⟨c, ec, tc⟩ := one_sign h2
      refine de_cmp ?_
      refine de_var 1 rfl ?_
      refine de_globS G.FIGURES ?_
      refine od_inC (congrArg (fun z => some (PyData.str z)) ec) rfl ?_
      refine boolR_i ?_
      refine bcase_m (fun h3 => ?_) (fun h3 => ?_)
      · refine de_one ?_
        refine de_cmp ?_
        refine de_var 0 rfl ?_
        refine de_str ?_
        refine od_neP rfl rfl rfl rfl (Nat.le_of_ble_eq_true rfl) (Room.u64 hr) ?_
        have h3 : decide (c ∈ TL.tl "0123456789") = true := h3
        exact ret_dat (by walk_at "rc") h (by rw [is_num, h2, tc]; simp only [List.all_cons, List.all_nil, Bool.and_true, Bool.true_and, h3])
      · have h3 : decide (c ∈ TL.tl "0123456789") = false := h3
        exact ret_dat (by walk_at "rc") h (by rw [is_num, h2, tc]; simp only [List.all_cons, List.all_nil, Bool.and_true, Bool.true_and, h3, Bool.false_and])
    · exact ret_dat (by walk_at "rc") h (by rw [is_num, h2]; rfl)
abbrev s_numbers_in : Stmt := top 28
theorem sc_numbers_in : FnScope ["words", "word"] ["words"] (defScope s_numbers_in) := ⟨rfl, rfl, rfl, by decide +kernel, rfl, by decide +kernel, by decide +kernel⟩
theorem ok_numbers_in (B : Gb mg) (G : Gx K mg) (D_is_number : DefOk P w K mg base T "is_number" 1 (F_is_number)) (FD : FdP K mg "numbers_in" s_numbers_in) : DefOk P w K mg base T "numbers_in" 2 (F_numbers_in) := by
  refine mk_def FD sc_numbers_in (fun _ _ _ _ _ _ us hl => match us, hl with | [_], _ => rfl) ?_ fun cdv hcd A outer s0 H E W0 M0 cs kk ee h hr hz => ?_
  · rintro cs kk ee ⟨_, ⟨ws, rfl, _⟩, _⟩; rfl
  have hN := (sc_numbers_in).nd
  have D_is_number_mono : MonoF (F_is_number) := m_is_number
  obtain ⟨_, ⟨ws, rfl, hl, hw, rfl⟩, h⟩ := h
  refine dss_one ?_
  refine ds_ret ?_
  refine de_if ?_
  refine dt_val ?_
  refine de_callB B.all rfl ?_
  refine da_cons ?_
  refine de_lc [("word", 1)] ?_ (ok := blk_by (N := ["words", "word"]) (psc := (defScope s_numbers_in)) (by decide +kernel))
  refine di_list ?_
  refine de_var 0 rfl ?_
  refine ⟨_, rfl, ?_⟩
  refine ⟨rfl, lc_pure (isNumG) (by rw [List.length_map, sizeLine_eq]; omega) trivial ?_ ?_⟩
  · rw [isNumG_map]
    refine da_nil ?_
    refine cd_all rfl ?_
    refine boolR_i ?_
    refine bcase_m (fun h1 => ?_) (fun h1 => ?_)
    · rw [nums_all] at h1
      obtain ⟨is, ei⟩ := Option.isSome_iff_exists.mp h1
      refine de_callT B.tuple rfl ?_
      refine da_cons ?_
      refine de_lc [("word", 1)] ?_ (ok := blk_by (N := ["words", "word"]) (psc := (defScope s_numbers_in)) (by decide +kernel))
      refine di_list ?_
      refine de_var 0 rfl ?_
      refine ⟨_, rfl, ?_⟩
      refine ⟨rfl, lc_pure (intG) (by rw [List.length_map, sizeLine_eq]; omega) trivial ?_ ?_⟩
      · rw [intG_map ei]
        refine da_nil ?_
        refine cd_tupleOf rfl ?_
        exact ret_dat (by walk_at "rc") h (numD_some ei).symm
      · intro d hd _ _ _ _ _
        obtain ⟨w, hx, rfl⟩ := List.mem_map.mp hd
        obtain ⟨i, en⟩ : ∃ i, numOf w = some i := Option.isSome_iff_exists.mp (List.all_eq_true.mp (numsOf_isSome ▸ h1) w hx)
        obtain ⟨ew, i1, i2⟩ := numOf_some en
        have ni := nums_at ⟨i1, i2⟩
        rw [← ew] at ni
        refine dg_name 1 ?_
        intro _ _ _ _ _
        refine bcase_t ?_
        intro _ _ _ _ _
        refine de_callT B.int rfl ?_
        refine da_cons ?_
        refine de_var 1 rfl ?_
        refine da_nil ?_
        refine cd_intS rfl ni.2.1 (by omega) ?_
        exact ⟨_, rfl, by show (numOf w).map PyData.int = _; rw [en]; rfl, rfl⟩
    · refine de_non ?_
      rw [nums_all] at h1
      exact ret_dat (by walk_at "rc") h (numD_none (by simpa using h1)).symm
  · intro d hd _ _ _ _ _
    obtain ⟨w, hx, rfl⟩ := List.mem_map.mp hd
    refine dg_name 1 ?_
    intro _ _ _ _ _
    refine bcase_t ?_
    intro _ _ _ _ _
    refine de_call D_is_number D_is_number_mono (hr.mono (by decide)) takes_blk ?_
    refine da_cons ?_
    refine de_var 1 rfl ?_
    refine da_nil ?_
    refine ⟨_, rfl, (by first | exact List.Pairwise.nil | exact nd1 _ | simp [lent]), ?_⟩
    refine ⟨_, ⟨_, rfl, hw _ hx, rfl⟩, trivial, ?_⟩
    exact ⟨_, rfl, rfl, rfl⟩
abbrev s_law_text : Stmt := top 50
theorem sc_law_text : FnScope ["one", "rows", "pull", "lean", "number"] ["one"] (defScope s_law_text) := ⟨rfl, rfl, rfl, by decide +kernel, rfl, by decide +kernel, by decide +kernel⟩
theorem ok_law_text (B : Gb mg) (G : Gx K mg)  (FD : FdP K mg "_law_text" s_law_text) : DefOk P w K mg base T "_law_text" 1 (F_law_text) := by
  refine mk_def FD sc_law_text (fun _ _ _ _ _ _ us hl => match us, hl with | [_], _ => rfl) ?_ fun cdv hcd A outer s0 H E W0 M0 cs kk ee h hr hz => ?_
  · rintro cs kk ee ⟨_, ⟨p, ps, ls, rfl, _⟩, _⟩; rfl
  have hN := (sc_law_text).nd
  obtain ⟨_, ⟨p, ps, ls, rfl, gw, rfl⟩, h⟩ := h
  have hf := few gw
  have h7 := gw.p7
  have hl7 := gw.lean
  obtain ⟨ll1, ll2⟩ := line_len gw
  refine dss_cons ?_
  refine ds_own 1 ?_
  refine de_lst ?_
  refine da_cons ?_
  refine de_bm F.plainAttrs_str F.slot_str_join F.type_str_join ?_
  refine de_str ?_
  refine ⟨⟨_, rfl⟩, ?_⟩
  refine da_cons ?_
  refine de_bin ?_
  refine de_lst ?_
  refine da_cons ?_
  refine de_str ?_
  refine da_nil ?_
  refine ⟨_, rfl, (by walk_at "sz"), ?_⟩
  refine de_lc [("lean", 3)] ?_ (ok := blk_by (N := ["one", "rows", "pull", "lean", "number"]) (psc := (defScope s_law_text)) (by decide +kernel))
  refine di_tup ?_
  refine de_ix ?_
  refine de_var 0 rfl ?_
  refine de_int ?_
  refine ⟨_, _, _, rfl, rfl, (by first | rfl | assumption), (by intro _ hz; cases hz), ?_⟩
  refine ⟨_, rfl, ?_⟩
  refine ⟨rfl, lc_pure (strG) (by rw [List.length_map, sizeLine_eq]; omega) trivial ?_ ?_⟩
  · rw [strG_map]
    refine od_addL rfl rfl (by simp only [List.length_map, List.length_cons, List.length_nil]; rw [sizeLine_eq]; omega) ?_
    refine da_nil ?_
    refine cd_join (ys := ("leans" : Str) :: ls.map istr) rfl rfl (lean_room gw) ?_
    refine da_nil ?_
    refine ⟨_, rfl, (by walk_at "sz"), ?_⟩
    refine ⟨_, rfl, fun a1 => ?_⟩
    refine dss_cons ?_
    refine ds_for ?_
    refine di_tup ?_
    refine de_ix ?_
    refine de_var 0 rfl ?_
    refine de_int ?_
    refine ⟨_, _, _, rfl, rfl, (by first | rfl | assumption), (by intro _ hz; cases hz), ?_⟩
    refine ⟨_, rfl, ?_⟩
    refine ⟨fun r ρ' => ∃ (c : Option C) (dn td : List (Int × Int × Int)), ps = dn ++ td ∧ r = td.map pD ∧ ρ' = [some (.dat (webD p ps ls)), some (.own a1 (.lst ((leanLine ls :: dn.map pullLine).map PyData.str))), c, none, none], ⟨_, [], ps, rfl, rfl, rfl⟩, fun _ _ _ => trivial, ?_, ?_⟩
    · rintro ρ' ⟨c, dn, td, ep, er, rfl⟩
      obtain rfl : td = [] := by
        cases td with
        | nil => rfl
        | cons _ _ => cases er
      obtain rfl : ps = dn := by rw [ep, List.append_nil]
      refine dss_one ?_
      refine ds_ret ?_
      refine de_bm F.plainAttrs_str F.slot_str_join F.type_str_join ?_
      refine de_str ?_
      refine ⟨⟨_, rfl⟩, ?_⟩
      refine da_cons ?_
      refine de_var 1 rfl ?_
      refine da_nil ?_
      refine cd_join (ys := leanLine ls :: ps.map pullLine) rfl rfl (text_room gw) ?_
      exact ret_dat (by walk_at "rc") h rfl
    · rintro d r ρ' ⟨c, dn, td, ep, er, rfl⟩
      obtain ⟨t, td, rfl, rfl, rfl⟩ : ∃ t td', td = t :: td' ∧ d = pD t ∧ r = td'.map pD := by
        cases td with
        | nil => cases er
        | cons t td => injection er with e1 e2; exact ⟨t, td, rfl, e1, e2⟩
      have ht : t ∈ ps := by rw [ep]; simp
      obtain ⟨q1, q2, q3⟩ := small_of gw ht
      have hdn : dn.length ≤ 50 := by
        have := congrArg List.length ep
        rw [List.length_append] at this
        omega
      refine dg_name 2 ?_
      refine dss_one ?_
      refine ds_expr ?_
      refine de_bm F.plainAttrs_list F.slot_list_append F.type_list_append ?_
      refine de_var 1 rfl ?_
      refine ⟨⟨_, rfl⟩, ?_⟩
      refine da_cons ?_
      refine de_bm F.plainAttrs_str F.slot_str_join F.type_str_join ?_
      refine de_str ?_
      refine ⟨⟨_, rfl⟩, ?_⟩
      refine da_cons ?_
      refine de_bin ?_
      refine de_lst ?_
      refine da_cons ?_
      refine de_str ?_
      refine da_nil ?_
      refine ⟨_, rfl, (by walk_at "sz"), ?_⟩
      refine de_lc [("number", 4)] ?_ (ok := blk_by (N := ["one", "rows", "pull", "lean", "number"]) (psc := (defScope s_law_text)) (by decide +kernel))
      refine di_tup ?_
      refine de_var 2 rfl ?_
      refine ⟨_, rfl, ?_⟩
      refine ⟨rfl, lc_pure (strG) (by rw [sizeLine_eq]; exact Nat.le_of_ble_eq_true rfl) trivial ?_ ?_⟩
      · skip
        refine od_addL rfl rfl (by rw [sizeLine_eq]; exact Nat.le_of_ble_eq_true rfl) ?_
        refine da_nil ?_
        refine cd_join (ys := pullWords t) rfl rfl (pull_room ⟨q1, q2, q3⟩) ?_
        refine da_nil ?_
        refine cd_append rfl rfl (by rw [sizeLine_eq]; simp only [List.length_map, List.length_cons]; omega) ?_
        have e : (leanLine ls :: (dn ++ [t]).map pullLine).map PyData.str = (leanLine ls :: dn.map pullLine).map PyData.str ++ [.str (pullLine t)] := by simp
        exact ⟨_, dn ++ [t], td, by rw [ep, List.append_assoc]; rfl, rfl, by rw [e]; rfl⟩
      · intro d hd _ _ _ _ _
        obtain ⟨i, rfl, hi⟩ : ∃ i, d = .int i ∧ (-9 ≤ i ∧ i ≤ 9) := by
          simp only [List.mem_cons, List.not_mem_nil, or_false] at hd
          rcases hd with rfl | rfl | rfl
          · exact ⟨_, rfl, q1⟩
          · exact ⟨_, rfl, q2⟩
          · exact ⟨_, rfl, q3⟩
        refine dg_name 4 ?_
        intro _ _ _ _ _
        refine bcase_t ?_
        intro _ _ _ _ _
        refine de_callT B.str rfl ?_
        refine da_cons ?_
        refine de_var 4 rfl ?_
        refine da_nil ?_
        refine cd_strI rfl (nums_at hi).2.2.2.1 ?_
        exact ⟨_, rfl, rfl, rfl⟩
  · intro d hd _ _ _ _ _
    obtain ⟨l, hl, rfl⟩ := List.mem_map.mp hd
    refine dg_name 3 ?_
    intro _ _ _ _ _
    refine bcase_t ?_
    intro _ _ _ _ _
    refine de_callT B.str rfl ?_
    refine da_cons ?_
    refine de_var 3 rfl ?_
    refine da_nil ?_
    refine cd_strI rfl (nums_at (gw.leans _ hl)).2.2.2.1 ?_
    exact ⟨_, rfl, rfl, rfl⟩
abbrev s_law_numbers : Stmt := top 51
theorem sc_law_numbers : FnScope ["words", "known", "number", "word"] ["words"] (defScope s_law_numbers) := ⟨rfl, rfl, rfl, by decide +kernel, rfl, by decide +kernel, by decide +kernel⟩
theorem ok_law_numbers (B : Gb mg) (G : Gx K mg)  (FD : FdP K mg "_law_numbers" s_law_numbers) : DefOk P w K mg base T "_law_numbers" 1 (F_law_numbers) := by
  refine mk_def FD sc_law_numbers (fun _ _ _ _ _ _ us hl => match us, hl with | [_], _ => rfl) ?_ fun cdv hcd A outer s0 H E W0 M0 cs kk ee h hr hz => ?_
  · rintro cs kk ee ⟨_, ⟨ws, rfl, _⟩, _⟩; rfl
  have hN := (sc_law_numbers).nd
  obtain ⟨_, ⟨ws, rfl, hl, hw, rfl⟩, h⟩ := h
  refine dss_cons ?_
  refine ds_set 1 ?_
  refine de_lc [("number", 2)] ?_ (ok := blk_by (N := ["words", "known", "number", "word"]) (psc := (defScope s_law_numbers)) (by decide +kernel))
  refine di_range2 B.range ?_
  refine da_cons ?_
  refine de_neg ?_
  refine de_int ?_
  refine ⟨_, rfl, ?_⟩
  refine da_cons ?_
  refine de_int ?_
  refine da_nil ?_
  refine ⟨_, _, rfl, (by walk_at "sz"), ?_⟩
  refine ⟨rfl, lc_pure (strG) (by rw [rng_len, sizeLine_eq]; decide) trivial ?_ ?_⟩
  · rw [show (rng (-9) (10 - -9 : Int).toNat).filterMap strG = knownN from known_rng]
    refine ⟨_, rfl, ?_⟩
    refine dss_cons ?_
    refine ds_if ?_
    refine dt_cmp ?_
    refine de_lc [("word", 3)] ?_ (ok := blk_by (N := ["words", "known", "number", "word"]) (psc := (defScope s_law_numbers)) (by decide +kernel))
    refine di_list ?_
    refine de_var 0 rfl ?_
    refine ⟨_, rfl, ?_⟩
    refine ⟨rfl, lc_pure (notKnown) (by rw [List.length_map, sizeLine_eq]; omega) trivial ?_ ?_⟩
    · skip
      refine de_lst ?_
      refine da_nil ?_
      refine ⟨_, rfl, (by walk_at "sz"), ?_⟩
      refine od_neP rfl rfl (keep_plain (g := notKnown) (f := isKnown) (fun _ => rfl) (words_plain ws)) rfl (Nat.le_of_ble_eq_true rfl) (Room.u64 hr) ?_
      refine boolR_i ?_
      refine bcase_m (fun h1 => ?_) (fun h1 => ?_)
      · refine dss_one ?_
        refine ds_ret ?_
        refine de_non ?_
        rw [keep_nil (g := notKnown) (f := isKnown) fun _ => rfl, known_all] at h1
        exact ret_dat (by walk_at "rc") h (numD_none (by simpa using h1)).symm
      · refine dss_nil ?_
        refine dss_one ?_
        refine ds_ret ?_
        rw [keep_nil (g := notKnown) (f := isKnown) fun _ => rfl, known_all] at h1
        have h2 : (numsOf ws).isSome = true := by simpa using h1
        obtain ⟨is, ei⟩ := Option.isSome_iff_exists.mp h2
        refine de_callT B.tuple rfl ?_
        refine da_cons ?_
        refine de_lc [("word", 3)] ?_ (ok := blk_by (N := ["words", "known", "number", "word"]) (psc := (defScope s_law_numbers)) (by decide +kernel))
        refine di_list ?_
        refine de_var 0 rfl ?_
        refine ⟨_, rfl, ?_⟩
        refine ⟨rfl, lc_pure (intG) (by rw [List.length_map, sizeLine_eq]; omega) trivial ?_ ?_⟩
        · rw [intG_map ei]
          refine da_nil ?_
          refine cd_tupleOf rfl ?_
          exact ret_dat (by walk_at "rc") h (numD_some ei).symm
        · intro d hd _ _ _ _ _
          obtain ⟨w, hx, rfl⟩ := List.mem_map.mp hd
          obtain ⟨i, en⟩ : ∃ i, numOf w = some i := Option.isSome_iff_exists.mp (List.all_eq_true.mp (numsOf_isSome ▸ h2) w hx)
          obtain ⟨rfl, hi⟩ := numOf_some en
          refine dg_name 3 ?_
          intro _ _ _ _ _
          refine bcase_t ?_
          intro _ _ _ _ _
          refine de_bin ?_
          refine de_bm F.plainAttrs_list F.slot_list_index F.type_list_index ?_
          refine de_var 1 rfl ?_
          refine ⟨⟨_, rfl⟩, ?_⟩
          refine da_cons ?_
          refine de_var 3 rfl ?_
          refine da_nil ?_
          refine cd_index (j := (i + 9).toNat) rfl rfl known_sh (istr_sh hi) (known_at hi) (by rw [eqv_str]; simp) (known_before hi) (Room.u65 hr) ?_
          refine de_int ?_
          refine od_subI rfl rfl ?_
          exact ⟨_, rfl, by show (numOf (istr i)).map PyData.int = _; rw [en]; exact congrArg (fun z => some (PyData.int z)) (by omega), rfl⟩
    · intro d hd _ _ _ _ _
      obtain ⟨w, hx, rfl⟩ := List.mem_map.mp hd
      refine dg_name 3 ?_
      intro _ _ _ _ _
      show DT _ _ _ _
      refine dt_cmp ?_
      refine de_var 3 rfl ?_
      refine de_var 1 rfl ?_
      refine od_notInLP rfl rfl rfl (words_plain _) (Nat.zero_le _) (Room.u65 hr) ?_
      refine boolR_i ?_
      refine bcase_m (fun h2 => ?_) (fun h2 => ?_)
      · intro _ _ _ _ _
        refine de_var 3 rfl ?_
        exact ⟨_, rfl, by unfold notKnown; simp_all [known_any, isKnown], rfl⟩
      · exact ⟨by unfold notKnown; simp_all [known_any, isKnown], rfl⟩
  · intro d hd _ _ _ _ _
    obtain ⟨j, rfl, j0, j1⟩ := rng_memG hd
    refine dg_name 2 ?_
    intro _ _ _ _ _
    refine bcase_t ?_
    intro _ _ _ _ _
    refine de_callT B.str rfl ?_
    refine da_cons ?_
    refine de_var 2 rfl ?_
    refine da_nil ?_
    refine cd_strI rfl (nums_at (i := j) ⟨by omega, by omega⟩).2.2.2.1 ?_
    exact ⟨_, rfl, rfl, rfl⟩
abbrev s_law_read : Stmt := top 52
theorem sc_law_read : FnScope ["text", "lines", "leans", "pulls", "words", "pull", "found", "line"] ["text"] (defScope s_law_read) := ⟨rfl, rfl, rfl, by decide +kernel, rfl, by decide +kernel, by decide +kernel⟩
theorem ok_law_read (B : Gb mg) (G : Gx K mg) (D__law_numbers : DefOk P w K mg base T "_law_numbers" 1 (F_law_numbers)) (D__law_is_web : DefOk P w K mg base T "_law_is_web" 3 (F_law_is_web)) (FD : FdP K mg "_law_read" s_law_read) : DefOk P w K mg base T "_law_read" 4 (F_law_read) := by
  refine mk_def FD sc_law_read (fun _ _ _ _ _ _ us hl => match us, hl with | [_], _ => rfl) ?_ fun cdv hcd A outer s0 H E W0 M0 cs kk ee h hr hz => ?_
  · rintro cs kk ee ⟨_, ⟨t, rfl, _⟩, _⟩; rfl
  have hN := (sc_law_read).nd
  have D__law_numbers_mono : MonoF (F_law_numbers) := m_law_numbers
  have D__law_is_web_mono : MonoF (F_law_is_web) := m_law_is_web
  obtain ⟨_, ⟨t, rfl, ok, rfl⟩, h⟩ := h
  obtain ⟨w0, r0, rest, el⟩ := lines_first t
  obtain ⟨z1, z2⟩ := lines_size ok (ws := w0 :: r0) (by rw [el]; exact List.mem_cons_self ..)
  have zr : rest.length ≤ 60 := by
    have := lines_num t
    have := ok.nl
    rw [el, List.length_cons] at *
    omega
  rw [List.length_cons] at z1
  refine dss_cons ?_
  refine ds_setLc 1 [("line", 7)] ?_ (ok := blk_by (N := ["text", "lines", "leans", "pulls", "words", "pull", "found", "line"]) (psc := (defScope s_law_read)) (by decide +kernel))
  refine di_list ?_
  refine de_bm F.plainAttrs_str F.slot_str_split F.type_str_split ?_
  refine de_var 0 rfl ?_
  refine ⟨⟨_, rfl⟩, ?_⟩
  refine da_cons ?_
  refine de_str ?_
  refine da_nil ?_
  refine cd_split rfl rfl rfl (by have := ok.len; rw [sizeLine_eq]; omega) ?_
  refine ⟨_, rfl, ?_⟩
  refine ⟨rfl, lc_pure (splitG) (by have := ok.nl; rw [List.length_map, split_num sepN, sizeLine_eq]; omega) trivial ?_ ?_⟩
  · rw [splitG_map, el]
    refine dss_cons ?_
    refine ds_set 2 ?_
    refine de_call D__law_numbers D__law_numbers_mono (hr.mono (by decide)) hz ?_
    refine da_cons ?_
    refine de_sl ?_
    refine de_ix ?_
    refine de_var 1 rfl ?_
    refine de_int ?_
    refine ⟨_, _, _, rfl, rfl, (dIx0 _ _), (by intro _ hz; cases hz), ?_⟩
    refine de_int ?_
    refine ⟨_, rfl, ?_⟩
    refine ⟨_, rfl, (by intro _ hz; first | rfl | (cases hz)), ?_⟩
    refine da_nil ?_
    refine ⟨_, rfl, (by first | exact List.Pairwise.nil | exact nd1 _ | simp [lent]), ?_⟩
    refine ⟨_, ⟨r0, congrArg (fun z => [C.dat (PyData.list z)]) (cut_tail _ _), by omega, fun w hw => z2 w (List.mem_cons_of_mem _ hw), rfl⟩, trivial, ?_⟩
    refine ⟨_, rfl, ?_⟩
    refine dss_cons ?_
    refine ds_if ?_
    refine dt_w ?_
    refine dw_or ?_
    refine dt_cmp ?_
    refine de_ix ?_
    refine de_ix ?_
    refine de_var 1 rfl ?_
    refine de_int ?_
    refine ⟨_, _, _, rfl, rfl, (dIx0 _ _), (by intro _ hz; cases hz), ?_⟩
    refine de_int ?_
    refine ⟨_, _, _, rfl, rfl, (dIx0 _ _), (by intro _ hz; cases hz), ?_⟩
    refine de_str ?_
    refine od_neP rfl rfl rfl rfl (Nat.le_of_ble_eq_true rfl) (Room.u64 hr) ?_
    refine boolR_i ?_
    refine bcase_m (fun h1 => ?_) (fun h1 => ?_)
    · refine bcase_t ?_
      refine dss_one ?_
      refine ds_ret ?_
      refine de_non ?_
      rw [eqv_str] at h1
      exact ret_dat (by walk_at "rc") h (by rw [read_of el]; exact (readL_head (by simpa using h1)).symm)
    · refine dw_or1 ?_
      rw [eqv_str] at h1
      have w0e : w0 = ("leans" : Str) := by simpa using h1
      refine dt_cmp ?_
      refine de_var 2 rfl ?_
      refine de_non ?_
      first | refine od_isN rfl rfl ?_ | refine od_isB rfl rfl ?_
      refine boolR_i ?_
      refine bcase_m (fun h2 => ?_) (fun h2 => ?_)
      · refine dss_one ?_
        refine ds_ret ?_
        refine de_non ?_
        rw [numD_isNone] at h2
        exact ret_dat (by walk_at "rc") h (by rw [read_of el]; exact (readL_nums (by simpa using h2)).symm)
      · refine dss_nil ?_
        refine dss_cons ?_
        refine ds_set 3 ?_
        refine de_tup ?_
        refine da_nil ?_
        refine ⟨_, rfl, (by walk_at "sz"), ?_⟩
        refine ⟨_, rfl, ?_⟩
        refine dss_cons ?_
        refine ds_for ?_
        refine di_list ?_
        refine de_sl ?_
        refine de_var 1 rfl ?_
        refine de_int ?_
        refine ⟨_, rfl, ?_⟩
        refine ⟨_, rfl, (by intro _ hz; first | rfl | (cases hz)), ?_⟩
        refine ⟨_, rfl, ?_⟩
        refine ⟨fun r ρ' => ∃ (c1 c2 : Option C) (dn td : List (List Str)), rest = dn ++ td ∧ r = td.map wsD ∧ dn.all isPullL = true ∧ ρ' = [some (.dat (.str t)), some (.dat (.list (((w0 :: r0) :: rest).map wsD))), some (.dat (numD r0)), some (.dat (.tuple (dn.map fun ws => numD ws.tail))), c1, c2, none, none], ⟨_, _, [], rest, rfl, cut_tail _ _, rfl, rfl⟩, fun _ _ _ => trivial, ?_, ?_⟩
        · rintro ρ' ⟨c1, c2, dn, td, ep, er, hp, rfl⟩
          obtain rfl : td = [] := by
            cases td with
            | nil => rfl
            | cons _ _ => cases er
          obtain rfl : rest = dn := by rw [ep, List.append_nil]
          rw [numD_isNone] at h2
          have hnn : numsOf r0 ≠ none := by rintro q; rw [q] at h2; cases h2
          refine dss_cons ?_
          refine ds_set 6 ?_
          refine de_tup ?_
          refine da_cons ?_
          refine de_callB B.len rfl ?_
          refine da_cons ?_
          refine de_var 2 rfl ?_
          refine da_nil ?_
          refine cd_len (n := r0.length) rfl (numD_len hnn) (by cases e : numsOf r0 with
  | none => exact absurd e hnn
  | some is => rw [numD_some e]; trivial) ?_
          refine da_cons ?_
          refine de_var 3 rfl ?_
          refine da_cons ?_
          refine de_var 2 rfl ?_
          refine da_nil ?_
          refine ⟨_, rfl, (by walk_at "sz"), ?_⟩
          refine ⟨_, rfl, ?_⟩
          refine dss_one ?_
          refine ds_ret ?_
          refine de_if ?_
          refine dt_val ?_
          refine de_call D__law_is_web D__law_is_web_mono (hr.mono (by decide)) hz ?_
          refine da_cons ?_
          refine de_var 6 rfl ?_
          refine da_nil ?_
          refine ⟨_, rfl, (by first | exact List.Pairwise.nil | exact nd1 _ | simp [lent]), ?_⟩
          refine ⟨_, ⟨foundOf r0 rest, rfl, found_wb (by omega) zr, rfl⟩, trivial, ?_⟩
          refine boolR_i ?_
          refine bcase_m (fun h3 => ?_) (fun h3 => ?_)
          · refine de_var 6 rfl ?_
            exact ret_dat (by walk_at "rc") h (by rw [read_of el, read_yes w0e hnn hp h3]; rfl)
          · refine de_non ?_
            exact ret_dat (by walk_at "rc") h (by rw [read_of el]; exact (readL_fit h3).symm)
        · rintro d r ρ' ⟨c1, c2, dn, td, ep, er, hp, rfl⟩
          obtain ⟨ws, td, rfl, rfl, rfl⟩ : ∃ ws td', td = ws :: td' ∧ d = wsD ws ∧ r = td'.map wsD := by
            cases td with
            | nil => cases er
            | cons ws td => injection er with e1 e2; exact ⟨ws, td, rfl, e1, e2⟩
          have hm : ws ∈ rest := by rw [ep]; simp
          have hm2 : ws ∈ linesOf t := by rw [el]; exact List.mem_cons_of_mem _ hm
          obtain ⟨y1, y2⟩ := lines_size ok hm2
          obtain ⟨w, r1, rfl⟩ : ∃ w r1, ws = w :: r1 := by
            cases ws with
            | nil => exact absurd rfl (lines_words hm2)
            | cons w r1 => exact ⟨w, r1, rfl⟩
          rw [List.length_cons] at y1
          refine dg_name 4 ?_
          refine dss_cons ?_
          refine ds_set 5 ?_
          refine de_call D__law_numbers D__law_numbers_mono (hr.mono (by decide)) hz ?_
          refine da_cons ?_
          refine de_sl ?_
          refine de_var 4 rfl ?_
          refine de_int ?_
          refine ⟨_, rfl, ?_⟩
          refine ⟨_, rfl, (by intro _ hz; first | rfl | (cases hz)), ?_⟩
          refine da_nil ?_
          refine ⟨_, rfl, (by first | exact List.Pairwise.nil | exact nd1 _ | simp [lent]), ?_⟩
          refine ⟨_, ⟨r1, congrArg (fun z => [C.dat (PyData.list z)]) (cut_tail _ _), by omega, fun w hw => y2 w (List.mem_cons_of_mem _ hw), rfl⟩, trivial, ?_⟩
          refine ⟨_, rfl, ?_⟩
          refine dss_cons ?_
          refine ds_if ?_
          refine dt_w ?_
          refine dw_or ?_
          refine dt_cmp ?_
          refine de_ix ?_
          refine de_var 4 rfl ?_
          refine de_int ?_
          refine ⟨_, _, _, rfl, rfl, (dIx0 _ _), (by intro _ hz; cases hz), ?_⟩
          refine de_str ?_
          refine od_neP rfl rfl rfl rfl (Nat.le_of_ble_eq_true rfl) (Room.u64 hr) ?_
          refine boolR_i ?_
          refine bcase_m (fun h4 => ?_) (fun h4 => ?_)
          · refine bcase_t ?_
            refine dss_one ?_
            refine ds_ret ?_
            refine de_non ?_
            rw [eqv_str] at h4
            have q : isPullL (w :: r1) = false := by
              have : w ≠ ("pull" : Str) := by simpa using h4
              simp [isPullL, this]
            exact ret_dat (by walk_at "rc") h (by rw [read_of el]; exact (readL_pull hm q).symm)
          · refine dw_or1 ?_
            refine dt_cmp ?_
            refine de_var 5 rfl ?_
            refine de_non ?_
            first | refine od_isN rfl rfl ?_ | refine od_isB rfl rfl ?_
            refine boolR_i ?_
            refine bcase_m (fun h5 => ?_) (fun h5 => ?_)
            · refine dss_one ?_
              refine ds_ret ?_
              refine de_non ?_
              rw [numD_isNone] at h5
              have q : isPullL (w :: r1) = false := by
                have : numsOf r1 = none := by simpa using h5
                simp [isPullL, this]
              exact ret_dat (by walk_at "rc") h (by rw [read_of el]; exact (readL_pull hm q).symm)
            · refine dss_nil ?_
              refine dss_one ?_
              refine ds_set 3 ?_
              refine de_bin ?_
              refine de_var 3 rfl ?_
              refine de_tup ?_
              refine da_cons ?_
              refine de_var 5 rfl ?_
              refine da_nil ?_
              refine ⟨_, rfl, (by walk_at "sz"), ?_⟩
              refine od_addT rfl rfl (by have := congrArg List.length ep; rw [List.length_append] at this; rw [List.length_map, sizeLine_eq]; simp only [List.length_cons, List.length_nil]; omega) ?_
              refine ⟨_, rfl, ?_⟩
              rw [numD_isNone] at h5
              rw [eqv_str] at h4
              have q : isPullL (w :: r1) = true := by
                have a : w = ("pull" : Str) := by simpa using h4
                have b : (numsOf r1).isSome = true := by cases e : numsOf r1 with
                  | none => rw [e] at h5; cases h5
                  | some _ => rfl
                simp [isPullL, a, b]
              exact ⟨_, _, dn ++ [w :: r1], td, by rw [ep, List.append_assoc]; rfl, rfl, by rw [List.all_append, hp]; simp [q], by rw [List.map_append]; rfl⟩
  · intro d hd _ _ _ _ _
    obtain ⟨l, hx, rfl⟩ := List.mem_map.mp hd
    refine dg_name 7 ?_
    intro _ _ _ _ _
    refine bcase_t ?_
    intro _ _ _ _ _
    refine de_bm F.plainAttrs_str F.slot_str_split F.type_str_split ?_
    refine de_var 7 rfl ?_
    refine ⟨⟨_, rfl⟩, ?_⟩
    refine da_cons ?_
    refine de_str ?_
    refine da_nil ?_
    refine cd_split rfl rfl rfl (by have := ok.len; have := split_mem_len sepN hx; rw [sizeLine_eq]; omega) ?_
    exact ⟨_, rfl, rfl, rfl⟩
abbrev s_web_in : Stmt := top 29
theorem sc_web_in : FnScope ["text", "lines", "leans", "pulls", "found", "line", "words"] ["text"] (defScope s_web_in) := ⟨rfl, rfl, rfl, by decide +kernel, rfl, by decide +kernel, by decide +kernel⟩
theorem ok_web_in (B : Gb mg) (G : Gx K mg) (D_numbers_in : DefOk P w K mg base T "numbers_in" 2 (F_numbers_in)) (D_fits_web : DefOk P w K mg base T "fits_web" 3 (F_fits_web)) (D_as_text : DefOk P w K mg base T "as_text" 1 (F_as_text)) (FD : FdP K mg "web_in" s_web_in) : DefOk P w K mg base T "web_in" 4 (F_web_in K) := by
  refine mk_def FD sc_web_in (fun _ _ _ _ _ _ us hl => match us, hl with | [_], _ => rfl) ?_ fun cdv hcd A outer s0 H E W0 M0 cs kk ee h hr hz => ?_
  · rintro cs kk ee ⟨_, ⟨v, rfl, _⟩, _⟩; rfl
  have hN := (sc_web_in).nd
  have D_numbers_in_mono : MonoF (F_numbers_in) := m_numbers_in
  have D_fits_web_mono : MonoF (F_fits_web) := m_fits_web
  have D_as_text_mono : MonoF (F_as_text) := m_as_text
  obtain ⟨r, ⟨v, rfl, hT, hr0⟩, h⟩ := h
  refine dss_cons ?_
  refine ds_if ?_
  refine dt_not ?_
  refine dt_val ?_
  refine de_callB B.isinstance rfl ?_
  refine da_cons ?_
  refine de_var 0 rfl ?_
  refine da_cons ?_
  refine de_ty B.str rfl ?_
  refine da_nil ?_
  refine cd_isStr rfl ?_
  refine boolR_i ?_
  refine bcase_not (bcase_m (fun h1 => ?_) (fun h1 => ?_))
  · refine dss_nil ?_
    refine dss_cons ?_
    refine ds_setLc 1 [("line", 5)] ?_ (ok := blk_by (N := ["text", "lines", "leans", "pulls", "found", "line", "words"]) (psc := (defScope s_web_in)) (by decide +kernel))
    refine di_list ?_
    obtain ⟨t, rfl⟩ := str_of (by first | exact h1 | simpa using h1)
    have ok := hT t rfl
    obtain ⟨w0, r0, rest, el⟩ := lines_first t
    obtain ⟨z1, z2⟩ := lines_size ok (ws := w0 :: r0) (by rw [el]; exact List.mem_cons_self ..)
    have zr : rest.length ≤ 60 := by
      have := lines_num t
      have := ok.nl
      rw [el, List.length_cons] at *
      omega
    rw [List.length_cons] at z1
    refine de_bm F.plainAttrs_str F.slot_str_split F.type_str_split ?_
    refine de_var 0 rfl ?_
    refine ⟨⟨_, rfl⟩, ?_⟩
    refine da_cons ?_
    refine de_str ?_
    refine da_nil ?_
    refine cd_split rfl rfl rfl (by have := ok.len; rw [sizeLine_eq]; omega) ?_
    refine ⟨_, rfl, ?_⟩
    refine ⟨rfl, lc_pure (splitG) (by have := ok.nl; rw [List.length_map, split_num sepN, sizeLine_eq]; omega) trivial ?_ ?_⟩
    · rw [splitG_map, el]
      refine dss_cons ?_
      refine ds_set 2 ?_
      refine de_call D_numbers_in D_numbers_in_mono (hr.mono (by decide)) hz ?_
      refine da_cons ?_
      refine de_sl ?_
      refine de_ix ?_
      refine de_var 1 rfl ?_
      refine de_int ?_
      refine ⟨_, _, _, rfl, rfl, (dIx0 _ _), (by intro _ hz; cases hz), ?_⟩
      refine de_int ?_
      refine ⟨_, rfl, ?_⟩
      refine ⟨_, rfl, (by intro _ hz; first | rfl | (cases hz)), ?_⟩
      refine da_nil ?_
      refine ⟨_, rfl, (by first | exact List.Pairwise.nil | exact nd1 _ | simp [lent]), ?_⟩
      refine ⟨_, ⟨r0, congrArg (fun z => [C.dat (PyData.list z)]) (cut_tail _ _), by omega, fun w hw => z2 w (List.mem_cons_of_mem _ hw), rfl⟩, trivial, ?_⟩
      refine ⟨_, rfl, ?_⟩
      refine dss_cons ?_
      refine ds_set 3 ?_
      refine de_callT B.tuple rfl ?_
      refine da_cons ?_
      refine de_lc [("words", 6)] ?_ (ok := blk_by (N := ["text", "lines", "leans", "pulls", "found", "line", "words"]) (psc := (defScope s_web_in)) (by decide +kernel))
      refine di_list ?_
      refine de_sl ?_
      refine de_var 1 rfl ?_
      refine de_int ?_
      refine ⟨_, rfl, ?_⟩
      refine ⟨_, rfl, (by intro _ hz; first | rfl | (cases hz)), ?_⟩
      refine ⟨_, rfl, ?_⟩
      refine ⟨rfl, lc_pure (numTG) (by rw [show DL.cutD (List.map wsD ((w0 :: r0) :: rest)) (some 1) none = rest.map wsD from cut_tail _ _, List.length_map, sizeLine_eq]; omega) trivial ?_ ?_⟩
      · rw [show DL.cutD (List.map wsD ((w0 :: r0) :: rest)) (some 1) none = rest.map wsD from cut_tail _ _, numTG_map fun ws hw => lines_words (t := t) (by rw [el]; exact List.mem_cons_of_mem _ hw)]
        refine da_nil ?_
        refine cd_tupleOf rfl ?_
        refine ⟨_, rfl, ?_⟩
        refine dss_cons ?_
        refine ds_if ?_
        refine dt_w ?_
        refine dw_or ?_
        refine dt_cmp ?_
        refine de_var 2 rfl ?_
        refine de_non ?_
        first | refine od_isN rfl rfl ?_ | refine od_isB rfl rfl ?_
        refine boolR_i ?_
        refine bcase_m (fun h2 => ?_) (fun h2 => ?_)
        · refine bcase_t ?_
          refine dss_one ?_
          refine ds_raiseF G.ex_InvalidText hz ?_
          rw [numD_isNone] at h2
          obtain rfl := rd_bad hr0 (show readD (.str t) = .none from by rw [show readD (.str t) = readT t from rfl, read_of el]; exact readL_nums (by simpa using h2))
          exact eps_of (by walk_at "rc") h
        · refine dw_or ?_
          refine dt_cmp ?_
          refine de_non ?_
          refine de_var 3 rfl ?_
          refine od_inT rfl rfl rfl (numDs_plain rest) (Nat.zero_le _) (Room.u65 hr) ?_
          refine boolR_i ?_
          refine bcase_m (fun h3 => ?_) (fun h3 => ?_)
          · refine bcase_t ?_
            refine dss_one ?_
            refine ds_raiseF G.ex_InvalidText hz ?_
            rw [none_in] at h3
            obtain rfl := rd_bad hr0 (show readD (.str t) = .none from by rw [show readD (.str t) = readT t from rfl, read_of el]; exact read_noNum h3)
            exact eps_of (by walk_at "rc") h
          · refine dw_or1 ?_
            rw [numD_isNone] at h2
            have hnn : numsOf r0 ≠ none := by rintro q; rw [q] at h2; cases h2
            have hnt : strFits (numD r0) := by
              cases e : numsOf r0 with
              | none => exact absurd e hnn
              | some is => rw [numD_some e]; trivial
            refine dt_not ?_
            refine dt_val ?_
            refine de_call D_fits_web D_fits_web_mono (hr.mono (by decide)) hz ?_
            refine da_cons ?_
            refine de_tup ?_
            refine da_cons ?_
            refine de_callB B.len rfl ?_
            refine da_cons ?_
            refine de_var 2 rfl ?_
            refine da_nil ?_
            refine cd_len (n := r0.length) rfl (numD_len hnn) hnt ?_
            refine da_cons ?_
            refine de_var 3 rfl ?_
            refine da_cons ?_
            refine de_var 2 rfl ?_
            refine da_nil ?_
            refine ⟨_, rfl, (by walk_at "sz"), ?_⟩
            refine da_nil ?_
            refine ⟨_, rfl, (by first | exact List.Pairwise.nil | exact nd1 _ | simp [lent]), ?_⟩
            refine ⟨_, ⟨foundOf r0 rest, rfl, found_okS (by omega) zr, rfl⟩, trivial, ?_⟩
            refine boolR_i ?_
            refine bcase_not (bcase_m (fun h4 => ?_) (fun h4 => ?_))
            · refine dss_nil ?_
              refine dss_cons ?_
              refine ds_set 4 ?_
              refine de_tup ?_
              refine da_cons ?_
              refine de_callB B.len rfl ?_
              refine da_cons ?_
              refine de_var 2 rfl ?_
              refine da_nil ?_
              refine cd_len (n := r0.length) rfl (numD_len hnn) hnt ?_
              refine da_cons ?_
              refine de_var 3 rfl ?_
              refine da_cons ?_
              refine de_var 2 rfl ?_
              refine da_nil ?_
              refine ⟨_, rfl, (by walk_at "sz"), ?_⟩
              refine ⟨_, rfl, ?_⟩
              refine dss_cons ?_
              refine ds_if ?_
              obtain ⟨p, ps, ls, ef, gw⟩ := fitsWeb_good h4
              refine dt_cmp ?_
              refine de_call D_as_text D_as_text_mono (hr.mono (by decide)) hz ?_
              refine da_cons ?_
              refine de_var 4 rfl ?_
              refine da_nil ?_
              refine ⟨_, rfl, (by first | exact List.Pairwise.nil | exact nd1 _ | simp [lent]), ?_⟩
              refine ⟨_, ⟨p, ps, ls, congrArg (fun z => [C.dat z]) ef, gw, rfl⟩, trivial, ?_⟩
              refine de_var 0 rfl ?_
              refine od_neP rfl rfl rfl rfl (Nat.le_of_ble_eq_true rfl) (Room.u64 hr) ?_
              refine boolR_i ?_
              refine bcase_m (fun h5 => ?_) (fun h5 => ?_)
              · refine dss_one ?_
                refine ds_raiseF G.ex_InvalidText hz ?_
                rw [eqv_str] at h5
                obtain rfl := rd_bad hr0 ((read_ask el ef gw).2 (by simpa using h5))
                exact eps_of (by walk_at "rc") h
              · refine dss_nil ?_
                refine dss_one ?_
                refine ds_ret ?_
                refine de_var 4 rfl ?_
                rw [eqv_str] at h5
                obtain rfl := rd_good hr0 ((read_ask el ef gw).1 (by simpa using h5)) web_ne
                exact ret_dat (by walk_at "rc") h ef
            · refine dss_one ?_
              refine ds_raiseF G.ex_InvalidText hz ?_
              obtain rfl := rd_bad hr0 (show readD (.str t) = .none from by rw [show readD (.str t) = readT t from rfl, read_of el]; exact readL_fit h4)
              exact eps_of (by walk_at "rc") h
      · intro d hd _ _ _ _ _
        rw [show DL.cutD (List.map wsD ((w0 :: r0) :: rest)) (some 1) none = rest.map wsD from cut_tail _ _] at hd
        obtain ⟨ws, hm, rfl⟩ := List.mem_map.mp hd
        have hm2 : ws ∈ linesOf t := by rw [el]; exact List.mem_cons_of_mem _ hm
        obtain ⟨y1, y2⟩ := lines_size ok hm2
        obtain ⟨w, r1, rfl⟩ : ∃ w r1, ws = w :: r1 := by
          cases ws with
          | nil => exact absurd rfl (lines_words hm2)
          | cons w r1 => exact ⟨w, r1, rfl⟩
        rw [List.length_cons] at y1
        refine dg_name 6 ?_
        intro _ _ _ _ _
        refine bcase_t ?_
        intro _ _ _ _ _
        refine de_call D_numbers_in D_numbers_in_mono (hr.mono (by decide)) takes_blk ?_
        refine da_cons ?_
        refine de_sl ?_
        refine de_var 6 rfl ?_
        refine de_int ?_
        refine ⟨_, rfl, ?_⟩
        refine ⟨_, rfl, (by intro _ hz; first | rfl | (cases hz)), ?_⟩
        refine da_nil ?_
        refine ⟨_, rfl, (by first | exact List.Pairwise.nil | exact nd1 _ | simp [lent]), ?_⟩
        refine ⟨_, ⟨r1, congrArg (fun z => [C.dat (PyData.list z)]) (cut_tail _ _), by omega, fun w hw => y2 w (List.mem_cons_of_mem _ hw), rfl⟩, trivial, ?_⟩
        exact ⟨_, rfl, numTG_cons _ _, rfl⟩
    · intro d hd _ _ _ _ _
      obtain ⟨l, hx, rfl⟩ := List.mem_map.mp hd
      refine dg_name 5 ?_
      intro _ _ _ _ _
      refine bcase_t ?_
      intro _ _ _ _ _
      refine de_bm F.plainAttrs_str F.slot_str_split F.type_str_split ?_
      refine de_var 5 rfl ?_
      refine ⟨⟨_, rfl⟩, ?_⟩
      refine da_cons ?_
      refine de_str ?_
      refine da_nil ?_
      refine cd_split rfl rfl rfl (by have := ok.len; have := split_mem_len sepN hx; rw [sizeLine_eq]; omega) ?_
      exact ⟨_, rfl, rfl, rfl⟩
  · refine dss_one ?_
    refine ds_raiseF G.ex_InvalidText hz ?_
    obtain rfl := rd_bad hr0 (by cases v <;> first | rfl | (cases h1))
    exact eps_of (by walk_at "rc") h
abbrev s_read_web : Stmt := top 30
theorem sc_read_web : FnScope ["value"] ["value"] (defScope s_read_web) := ⟨rfl, rfl, rfl, by decide +kernel, rfl, by decide +kernel, by decide +kernel⟩
theorem ok_read_web (B : Gb mg) (G : Gx K mg) (D_web_in : DefOk P w K mg base T "web_in" 4 (F_web_in K)) (FD : FdP K mg "read_web" s_read_web) : DefOk P w K mg base T "read_web" 5 (F_read_web K) := by
  refine mk_def FD sc_read_web (fun _ _ _ _ _ _ us hl => match us, hl with | [_], _ => rfl) ?_ fun cdv hcd A outer s0 H E W0 M0 cs kk ee h hr hz => ?_
  · rintro cs kk ee ⟨_, ⟨v, rfl, _⟩, _⟩; rfl
  have hN := (sc_read_web).nd
  have D_web_in_mono : MonoF (F_web_in K) := m_web_in
  obtain ⟨r, ⟨v, rfl, hT, hr0⟩, h⟩ := h
  refine dss_one ?_
  refine ds_ret ?_
  refine de_call D_web_in D_web_in_mono (hr.mono (by decide)) hz ?_
  refine da_cons ?_
  refine de_var 0 rfl ?_
  refine da_nil ?_
  refine ⟨_, rfl, (by first | exact List.Pairwise.nil | exact nd1 _ | simp [lent]), ?_⟩
  refine ⟨r, ⟨v, rfl, hT, hr0⟩, ?_⟩
  rcases hr0 with ⟨q, rfl⟩ | ⟨q, rfl⟩
  · exact eps_of (by walk_at "rc") h
  refine ⟨trivial, ?_⟩
  exact ret_dat (by walk_at "rc") h rfl
abbrev s_law_bent : Stmt := top 53
theorem sc_law_bent : FnScope ["bag", "text", "at", "way", "lines", "spot", "words", "place", "near"] ["bag", "text"] (defScope s_law_bent) := ⟨rfl, rfl, rfl, by decide +kernel, rfl, by decide +kernel, by decide +kernel⟩
theorem ok_law_bent (B : Gb mg) (G : Gx K mg) (D__law_take : DefOk P w K mg base T "_law_take" 1 (F_law_take)) (D__law_choice : DefOk P w K mg base T "_law_choice" 2 (F_law_choice)) (FD : FdP K mg "_law_bent" s_law_bent) : DefOk P w K mg base T "_law_bent" 3 (F_law_bent8) := by
  refine mk_def FD sc_law_bent (fun _ _ _ _ _ _ us hl => match us, hl with | [_, _], _ => rfl) ?_ fun cdv hcd A outer s0 H E W0 M0 cs kk ee h hr hz => ?_
  · rintro cs kk ee ⟨a, ns, t, rfl, _⟩; rfl
  have hN := (sc_law_bent).nd
  have D__law_take_mono : MonoF (F_law_take) := m_law_take
  have D__law_choice_mono : MonoF (F_law_choice) := m_law_choice
  obtain ⟨a, ns, t, rfl, ht, h⟩ := h
  obtain ⟨hL1, hL2⟩ := split_few ht
  refine dss_cons ?_
  refine ds_par 2 3 ?_
  refine da_cons ?_
  refine de_call D__law_take D__law_take_mono (hr.mono (by decide)) hz ?_
  refine da_cons ?_
  refine de_var 0 rfl ?_
  refine da_cons ?_
  refine de_bin ?_
  refine de_callB B.len rfl ?_
  refine da_cons ?_
  refine de_var 1 rfl ?_
  refine da_nil ?_
  refine cd_len rfl rfl (show t.length ≤ sizeLine by rw [sizeLine_eq]; omega) ?_
  refine de_int ?_
  first | refine od_addI rfl rfl ?_ | refine od_addS rfl rfl (by walk_at "sz") ?_ | refine od_addL rfl rfl (by walk_at "sz") ?_ | refine od_addT rfl rfl (by walk_at "sz") ?_
  refine da_nil ?_
  refine ⟨_, rfl, (by first | exact List.Pairwise.nil | exact nd1 _ | simp [lent]), ?_⟩
  refine ⟨_, _, _, rfl, (by omega), fun x ms1 x0 x1 => ⟨trivial, ?_⟩⟩
  refine da_cons ?_
  refine de_call D__law_take D__law_take_mono (hr.mono (by decide)) hz ?_
  refine da_cons ?_
  refine de_var 0 rfl ?_
  refine da_cons ?_
  refine de_int ?_
  refine da_nil ?_
  refine ⟨_, rfl, (by first | exact List.Pairwise.nil | exact nd1 _ | simp [lent]), ?_⟩
  refine ⟨_, _, _, rfl, (show (0 : Int) < 6 by decide), fun wy ms2 w0 w1 => ⟨trivial, ?_⟩⟩
  refine da_nil ?_
  refine ⟨_, _, rfl, ?_⟩
  refine dss_cons ?_
  refine ds_if ?_
  refine dt_cmp ?_
  refine de_var 3 rfl ?_
  refine de_int ?_
  first | refine od_eqI rfl rfl (Room.u64 hr) ?_ | refine od_eq rfl rfl (by walk_at "sh") (by walk_at "sh") (Room.u64 hr) ?_
  refine boolR_i ?_
  refine bcase_m (fun h1 => ?_) (fun h1 => ?_)
  · refine dss_one ?_
    refine ds_ret ?_
    refine de_bin ?_
    refine de_bin ?_
    refine de_sl ?_
    refine de_var 1 rfl ?_
    refine de_var 2 rfl ?_
    refine ⟨_, rfl, ?_⟩
    refine ⟨_, rfl, (by intro _ hz; first | rfl | (cases hz)), (by rw [sizeLine_eq]; omega), ?_⟩
    refine de_call D__law_choice D__law_choice_mono (hr.mono (by decide)) hz ?_
    refine da_cons ?_
    refine de_var 0 rfl ?_
    refine da_cons ?_
    refine de_lst ?_
    refine da_cons ?_
    refine de_str ?_
    refine da_cons ?_
    refine de_str ?_
    refine da_cons ?_
    refine de_str ?_
    refine da_cons ?_
    refine de_str ?_
    refine da_cons ?_
    refine de_str ?_
    refine da_cons ?_
    refine de_str ?_
    refine da_cons ?_
    refine de_str ?_
    refine da_cons ?_
    refine de_str ?_
    refine da_nil ?_
    refine ⟨_, rfl, (by walk_at "sz"), ?_⟩
    refine da_nil ?_
    refine ⟨_, rfl, (by first | exact List.Pairwise.nil | exact nd1 _ | simp [lent]), ?_⟩
    refine ⟨_, _, _, rfl, List.cons_ne_nil _ _, (Nat.le_of_ble_eq_true rfl), fun d ms3 qm => ⟨trivial, ?_⟩⟩
    obtain ⟨z, rfl, hz1⟩ := bent_sign qm
    refine od_addS rfl rfl (by have := cutS_length t none (some x); rw [sizeLine_eq]; omega) ?_
    refine de_sl ?_
    refine de_var 1 rfl ?_
    refine de_var 2 rfl ?_
    refine ⟨_, rfl, ?_⟩
    refine ⟨_, rfl, (by intro _ hz; first | rfl | (cases hz)), (by rw [sizeLine_eq]; omega), ?_⟩
    refine od_addS rfl rfl (by have := cutS_length t none (some x); have := cutS_length t (some x) none; rw [len_app, sizeLine_eq]; omega) ?_
    exact ret_dat (by walk_at "rc") (h _ _ (bent_ins x0 hz1)) rfl
  · refine dss_nil ?_
    refine dss_cons ?_
    refine ds_if ?_
    refine dt_cmp ?_
    refine de_var 3 rfl ?_
    refine de_int ?_
    first | refine od_eqI rfl rfl (Room.u64 hr) ?_ | refine od_eq rfl rfl (by walk_at "sh") (by walk_at "sh") (Room.u64 hr) ?_
    refine boolR_i ?_
    refine bcase_m (fun h2 => ?_) (fun h2 => ?_)
    · refine dss_one ?_
      refine ds_ret ?_
      refine de_bin ?_
      refine de_sl ?_
      refine de_var 1 rfl ?_
      refine de_var 2 rfl ?_
      refine ⟨_, rfl, ?_⟩
      refine ⟨_, rfl, (by intro _ hz; first | rfl | (cases hz)), (by rw [sizeLine_eq]; omega), ?_⟩
      refine de_sl ?_
      refine de_var 1 rfl ?_
      refine de_bin ?_
      refine de_var 2 rfl ?_
      refine de_int ?_
      first | refine od_addI rfl rfl ?_ | refine od_addS rfl rfl (by walk_at "sz") ?_ | refine od_addL rfl rfl (by walk_at "sz") ?_ | refine od_addT rfl rfl (by walk_at "sz") ?_
      refine ⟨_, rfl, ?_⟩
      refine ⟨_, rfl, (by intro _ hz; first | rfl | (cases hz)), (by rw [sizeLine_eq]; omega), ?_⟩
      refine od_addS rfl rfl (by have := cutS_length t none (some x); have := cutS_length t (some (x + 1)) none; rw [sizeLine_eq]; omega) ?_
      exact ret_dat (by walk_at "rc") (h _ _ (bent_del x0)) rfl
    · refine dss_nil ?_
      refine dss_cons ?_
      refine ds_set 4 ?_
      refine de_bm F.plainAttrs_str F.slot_str_split F.type_str_split ?_
      refine de_var 1 rfl ?_
      refine ⟨⟨_, rfl⟩, ?_⟩
      refine da_cons ?_
      refine de_str ?_
      refine da_nil ?_
      refine cd_split rfl rfl rfl (by rw [sizeLine_eq]; omega) ?_
      refine ⟨_, rfl, ?_⟩
      refine dss_cons ?_
      refine ds_set 5 ?_
      refine de_call D__law_take D__law_take_mono (hr.mono (by decide)) hz ?_
      refine da_cons ?_
      refine de_var 0 rfl ?_
      refine da_cons ?_
      refine de_callB B.len rfl ?_
      refine da_cons ?_
      refine de_var 4 rfl ?_
      refine da_nil ?_
      refine cd_len rfl rfl (by first | trivial | walk_at "sz") ?_
      refine da_nil ?_
      refine ⟨_, rfl, (by first | exact List.Pairwise.nil | exact nd1 _ | simp [lent]), ?_⟩
      refine ⟨_, _, _, rfl, (Int.ofNat_lt.mpr hL1), fun y ms3 y0 y1 => ⟨trivial, ?_⟩⟩
      refine ⟨_, rfl, ?_⟩
      refine dss_cons ?_
      refine ds_if ?_
      refine dt_cmp ?_
      refine de_var 3 rfl ?_
      refine de_int ?_
      first | refine od_eqI rfl rfl (Room.u64 hr) ?_ | refine od_eq rfl rfl (by walk_at "sh") (by walk_at "sh") (Room.u64 hr) ?_
      refine boolR_i ?_
      refine bcase_m (fun h3 => ?_) (fun h3 => ?_)
      · refine dss_one ?_
        refine ds_ret ?_
        refine de_bm F.plainAttrs_str F.slot_str_join F.type_str_join ?_
        refine de_str ?_
        refine ⟨⟨_, rfl⟩, ?_⟩
        refine da_cons ?_
        refine de_bin ?_
        refine de_sl ?_
        refine de_var 4 rfl ?_
        refine de_var 5 rfl ?_
        refine ⟨_, rfl, ?_⟩
        refine ⟨_, rfl, (by intro _ hz; first | rfl | (cases hz)), ?_⟩
        refine de_sl ?_
        refine de_var 4 rfl ?_
        refine de_bin ?_
        refine de_var 5 rfl ?_
        refine de_int ?_
        first | refine od_addI rfl rfl ?_ | refine od_addS rfl rfl (by walk_at "sz") ?_ | refine od_addL rfl rfl (by walk_at "sz") ?_ | refine od_addT rfl rfl (by walk_at "sz") ?_
        refine ⟨_, rfl, ?_⟩
        refine ⟨_, rfl, (by intro _ hz; first | rfl | (cases hz)), ?_⟩
        refine od_addL rfl rfl (add_sz (Nat.le_trans cut_len hL2) (Nat.le_trans cut_len hL2) (by decide)) ?_
        refine da_nil ?_
        refine cd_join (ys := (Txt.split t "\n").take y.toNat ++ (Txt.split t "\n").drop (y + 1).toNat) rfl (congrArg (fun z => some (PyData.list z)) (by rw [map_cutTo _ y0, map_cutFrom _ (by omega), List.map_append])) (room_bd (bent_cut t _ _ (by omega)) ht) ?_
        exact ret_dat (by walk_at "rc") (h _ _ (bent_cut t _ _ (by omega))) rfl
      · refine dss_nil ?_
        refine dss_cons ?_
        refine ds_if ?_
        refine dt_cmp ?_
        refine de_var 3 rfl ?_
        refine de_int ?_
        first | refine od_eqI rfl rfl (Room.u64 hr) ?_ | refine od_eq rfl rfl (by walk_at "sh") (by walk_at "sh") (Room.u64 hr) ?_
        refine boolR_i ?_
        refine bcase_m (fun h4 => ?_) (fun h4 => ?_)
        · refine dss_one ?_
          refine ds_ret ?_
          refine de_bm F.plainAttrs_str F.slot_str_join F.type_str_join ?_
          refine de_str ?_
          refine ⟨⟨_, rfl⟩, ?_⟩
          refine da_cons ?_
          refine de_bin ?_
          refine de_bin ?_
          refine de_sl ?_
          refine de_var 4 rfl ?_
          refine de_var 5 rfl ?_
          refine ⟨_, rfl, ?_⟩
          refine ⟨_, rfl, (by intro _ hz; first | rfl | (cases hz)), ?_⟩
          refine de_sl ?_
          refine de_var 4 rfl ?_
          refine de_var 5 rfl ?_
          refine ⟨_, rfl, ?_⟩
          refine de_bin ?_
          refine de_var 5 rfl ?_
          refine de_int ?_
          first | refine od_addI rfl rfl ?_ | refine od_addS rfl rfl (by walk_at "sz") ?_ | refine od_addL rfl rfl (by walk_at "sz") ?_ | refine od_addT rfl rfl (by walk_at "sz") ?_
          refine ⟨_, rfl, ?_⟩
          refine ⟨_, rfl, (by intro _ hz; first | rfl | (cases hz)), ?_⟩
          refine od_addL rfl rfl (add_sz (Nat.le_trans cut_len hL2) (Nat.le_trans cut_len hL2) (by decide)) ?_
          refine de_sl ?_
          refine de_var 4 rfl ?_
          refine de_var 5 rfl ?_
          refine ⟨_, rfl, ?_⟩
          refine ⟨_, rfl, (by intro _ hz; first | rfl | (cases hz)), ?_⟩
          refine od_addL rfl rfl (add_sz (app_sz (Nat.le_trans cut_len hL2) (Nat.le_trans cut_len hL2)) (Nat.le_trans cut_len hL2) (by decide)) ?_
          refine da_nil ?_
          refine cd_join (ys := (Txt.split t "\n").take y.toNat ++ ((Txt.split t "\n").drop y.toNat).take 1 ++ (Txt.split t "\n").drop y.toNat) rfl (congrArg (fun z => some (PyData.list z)) (by rw [map_cutTo _ y0, map_cutFrom _ y0, map_cutOne _ y0, List.map_append, List.map_append])) (room_bd (bent_dup t _) ht) ?_
          exact ret_dat (by walk_at "rc") (h _ _ (bent_dup t _)) rfl
        · refine dss_nil ?_
          refine dss_cons ?_
          refine ds_if ?_
          refine dt_cmp ?_
          refine de_var 3 rfl ?_
          refine de_int ?_
          first | refine od_eqI rfl rfl (Room.u64 hr) ?_ | refine od_eq rfl rfl (by walk_at "sh") (by walk_at "sh") (Room.u64 hr) ?_
          refine boolR_i ?_
          refine bcase_m (fun h5 => ?_) (fun h5 => ?_)
          · refine dss_one ?_
            refine ds_ret ?_
            refine de_bm F.plainAttrs_str F.slot_str_join F.type_str_join ?_
            refine de_str ?_
            refine ⟨⟨_, rfl⟩, ?_⟩
            refine da_cons ?_
            refine de_revL ?_
            refine de_var 4 rfl ?_
            refine ⟨_, rfl, ?_⟩
            refine da_nil ?_
            refine cd_join (ys := (Txt.split t "\n").reverse) rfl (congrArg (fun z => some (PyData.list z)) (by rw [List.map_reverse])) (room_bd (bent_rev t) ht) ?_
            exact ret_dat (by walk_at "rc") (h _ _ (bent_rev t)) rfl
          · refine dss_nil ?_
            refine dss_cons ?_
            refine ds_set 6 ?_
            refine de_bm F.plainAttrs_str F.slot_str_split F.type_str_split ?_
            obtain ⟨l, hl1, hl2⟩ := split_at y0 y1
            have hll := split_mem_len sepN (x := t) (List.mem_of_getElem? hl1)
            obtain ⟨hW1, hW2⟩ := split_few2 (l := l) (by omega)
            refine de_ix ?_
            refine de_var 4 rfl ?_
            refine de_var 5 rfl ?_
            refine ⟨_, _, _, rfl, rfl, hl2, (by intro _ hz; cases hz), ?_⟩
            refine ⟨⟨_, rfl⟩, ?_⟩
            refine da_cons ?_
            refine de_str ?_
            refine da_nil ?_
            refine cd_split rfl rfl rfl (by rw [sizeLine_eq]; omega) ?_
            refine ⟨_, rfl, ?_⟩
            refine dss_cons ?_
            refine ds_set 7 ?_
            refine de_call D__law_take D__law_take_mono (hr.mono (by decide)) hz ?_
            refine da_cons ?_
            refine de_var 0 rfl ?_
            refine da_cons ?_
            refine de_callB B.len rfl ?_
            refine da_cons ?_
            refine de_var 6 rfl ?_
            refine da_nil ?_
            refine cd_len rfl rfl (by first | trivial | walk_at "sz") ?_
            refine da_nil ?_
            refine ⟨_, rfl, (by first | exact List.Pairwise.nil | exact nd1 _ | simp [lent]), ?_⟩
            refine ⟨_, _, _, rfl, (Int.ofNat_lt.mpr hW1), fun v ms4 v0 v1 => ⟨trivial, ?_⟩⟩
            refine ⟨_, rfl, ?_⟩
            refine dss_cons ?_
            refine ds_set 8 ?_
            refine de_lst ?_
            refine da_cons ?_
            refine de_str ?_
            refine da_cons ?_
            refine de_str ?_
            refine da_cons ?_
            refine de_str ?_
            refine da_cons ?_
            refine de_str ?_
            refine da_cons ?_
            refine de_str ?_
            refine da_cons ?_
            refine de_str ?_
            refine da_cons ?_
            refine de_str ?_
            refine da_cons ?_
            refine de_str ?_
            refine da_cons ?_
            refine de_str ?_
            refine da_cons ?_
            refine de_str ?_
            refine da_cons ?_
            refine de_str ?_
            refine da_nil ?_
            refine ⟨_, rfl, (by walk_at "sz"), ?_⟩
            refine ⟨_, rfl, ?_⟩
            refine dss_cons ?_
            refine ds_set 6 ?_
            refine de_bin ?_
            refine de_bin ?_
            refine de_sl ?_
            refine de_var 6 rfl ?_
            refine de_var 7 rfl ?_
            refine ⟨_, rfl, ?_⟩
            refine ⟨_, rfl, (by intro _ hz; first | rfl | (cases hz)), ?_⟩
            refine de_lst ?_
            refine da_cons ?_
            refine de_call D__law_choice D__law_choice_mono (hr.mono (by decide)) hz ?_
            refine da_cons ?_
            refine de_var 0 rfl ?_
            refine da_cons ?_
            refine de_var 8 rfl ?_
            refine da_nil ?_
            refine ⟨_, rfl, (by first | exact List.Pairwise.nil | exact nd1 _ | simp [lent]), ?_⟩
            refine ⟨_, _, _, rfl, List.cons_ne_nil _ _, (Nat.le_of_ble_eq_true rfl), fun d ms5 qm => ⟨trivial, ?_⟩⟩
            obtain ⟨z, rfl, z5, z32, z10⟩ := near_word qm
            refine da_nil ?_
            refine ⟨_, rfl, (by walk_at "sz"), ?_⟩
            refine od_addL rfl rfl (add_sz (m := 1) (Nat.le_trans cut_len hW2) (Nat.le_refl _) (by decide)) ?_
            refine de_sl ?_
            refine de_var 6 rfl ?_
            refine de_bin ?_
            refine de_var 7 rfl ?_
            refine de_int ?_
            first | refine od_addI rfl rfl ?_ | refine od_addS rfl rfl (by walk_at "sz") ?_ | refine od_addL rfl rfl (by walk_at "sz") ?_ | refine od_addT rfl rfl (by walk_at "sz") ?_
            refine ⟨_, rfl, ?_⟩
            refine ⟨_, rfl, (by intro _ hz; first | rfl | (cases hz)), ?_⟩
            refine od_addL rfl rfl (add_sz (app_sz (m := 1) (Nat.le_trans cut_len hW2) (Nat.le_refl _)) (Nat.le_trans cut_len hW2) (by decide)) ?_
            refine ⟨_, rfl, ?_⟩
            refine dss_one ?_
            refine ds_ret ?_
            refine de_bm F.plainAttrs_str F.slot_str_join F.type_str_join ?_
            refine de_str ?_
            refine ⟨⟨_, rfl⟩, ?_⟩
            refine da_cons ?_
            refine de_bin ?_
            refine de_bin ?_
            refine de_sl ?_
            refine de_var 4 rfl ?_
            refine de_var 5 rfl ?_
            refine ⟨_, rfl, ?_⟩
            refine ⟨_, rfl, (by intro _ hz; first | rfl | (cases hz)), ?_⟩
            refine de_lst ?_
            refine da_cons ?_
            refine de_bm F.plainAttrs_str F.slot_str_join F.type_str_join ?_
            refine de_str ?_
            refine ⟨⟨_, rfl⟩, ?_⟩
            refine da_cons ?_
            refine de_var 6 rfl ?_
            refine da_nil ?_
            refine cd_join (ys := (Txt.split l " ").take v.toNat ++ [z] ++ (Txt.split l " ").drop (v.toNat + 1)) rfl (congrArg (fun z => some (PyData.list z)) (by rw [map_cutTo _ v0, map_cutFrom _ (by omega), List.map_append, List.map_append, show (v + 1).toNat = v.toNat + 1 by omega]; rfl)) (room_words hl1 z5 ht) ?_
            refine da_nil ?_
            refine ⟨_, rfl, (by walk_at "sz"), ?_⟩
            refine od_addL rfl rfl (add_sz (m := 1) (Nat.le_trans cut_len hL2) (Nat.le_refl _) (by decide)) ?_
            refine de_sl ?_
            refine de_var 4 rfl ?_
            refine de_bin ?_
            refine de_var 5 rfl ?_
            refine de_int ?_
            first | refine od_addI rfl rfl ?_ | refine od_addS rfl rfl (by walk_at "sz") ?_ | refine od_addL rfl rfl (by walk_at "sz") ?_ | refine od_addT rfl rfl (by walk_at "sz") ?_
            refine ⟨_, rfl, ?_⟩
            refine ⟨_, rfl, (by intro _ hz; first | rfl | (cases hz)), ?_⟩
            refine od_addL rfl rfl (add_sz (app_sz (m := 1) (Nat.le_trans cut_len hL2) (Nat.le_refl _)) (Nat.le_trans cut_len hL2) (by decide)) ?_
            refine da_nil ?_
            refine cd_join (ys := (Txt.split t "\n").take y.toNat ++ [Txt.join " " ((Txt.split l " ").take v.toNat ++ [z] ++ (Txt.split l " ").drop (v.toNat + 1))] ++ (Txt.split t "\n").drop (y.toNat + 1)) rfl (congrArg (fun z => some (PyData.list z)) (by rw [map_cutTo _ y0, map_cutFrom _ (by omega), List.map_append, List.map_append, show (y + 1).toNat = y.toNat + 1 by omega]; rfl)) (room_bd (bent_word hl1 (by rw [List.length_map] at v1; omega) z5 z32 z10) ht) ?_
            exact ret_dat (by walk_at "rc") (h _ _ (bent_word hl1 (by rw [List.length_map] at v1; omega) z5 z32 z10)) rfl
abbrev s_law_told : Stmt := top 47
theorem sc_law_told : FnScope ["call", "e"] ["call"] (defScope s_law_told) := ⟨rfl, rfl, rfl, by decide +kernel, rfl, by decide +kernel, by decide +kernel⟩
open HotX L2H LamX in
theorem told_suite (B : Gb mg) (G : Gx K mg) (hTM : mg "TooMany" = some (.ref (He.ga K "TooMany"))) (FN : FdP K mg "_law_named_error" s_law_named_error) {cls : Value} {lab : Str} (hl : LB K cls lab) {cdv : Value} {A : Around} {outer : List PySem.Env} {s : Shared} {H H0 : Hp} {E : XK} {f e : Addr} {oe : Obj} {pn : List (Addr × Obj)} {M0 : AS} {k : Nat} (hz : L2N.Zn cls none oe) (hf : ∃ vs, oe.data = .fields vs) (hr : Room (k + 1) (A.deeper (envOfC "_law_told" (defScope s_law_told) s.heap.objs.size (He.ga K "_law_told") cdv))) (hk : 1 ≤ k) :
    DS ⟨(cxOf (L2N.CX P w) P w K mg base ["call", "e"] "_law_told" (defScope s_law_told) (He.ga K "_law_told") cdv A outer s H E).suite e ((e, oe) :: pn), T, fun _ => False, M0, H0, fun _ _ => False⟩ (errSuite (defBody s_law_told)) [some (.raw (.ref f)), some (.raw (.ref e))] { nx := fun _ => False, rt := fun r _ => r = .dat (.tuple [.none, .str lab]) } := by
  obtain ⟨C, b0, b1, b2, b3, b4, b5, b6, b7, b8, b9, b10, b11, b12, b13, rfl, hc, rfl, _⟩ := hl
  have hot : Hot1 ((cxOf (L2N.CX P w) P w K mg base ["call", "e"] "_law_told" (defScope s_law_told) (He.ga K "_law_told") cdv A outer s H E).suite e ((e, oe) :: pn)).A (e, oe) := by
    obtain ⟨vs, ev⟩ := hf
    exact ⟨rfl, vs, ev, hz.2.2 vs ev⟩
  have hp : HotP ((cxOf (L2N.CX P w) P w K mg base ["call", "e"] "_law_told" (defScope s_law_told) (He.ga K "_law_told") cdv A outer s H E).suite e ((e, oe) :: pn)) (e, oe) := ⟨hot, List.mem_cons_self ..⟩
  have hzc : Zc (.ref C) none (e, oe).2 := hz.zc
  obtain ⟨⟨fd, FN⟩, hmN⟩ := FN
  show DS _ (.Return (some (.Tuple _ _ _)) _) _ _
  refine ds_ret ?_
  refine de_tup ?_
  refine da_cons ?_
  refine de_non ?_
  refine da_cons ?_
  refine de_callHot (F := F_law_named_error e (labelOf [b0, b1, b2, b3, b4, b5, b6, b7, b8, b9, b10, b11, b12, b13])) (N := ["e", "some", "labels", "label", "good"]) (ps := ["e"]) (k := k) FN sc_law_named_error (FN.bindsN (fun _ _ _ _ _ _ us hl => match us, hl with | [_], _ => rfl)) hmN m_law_named_error ⟨hr.dp, hr.un⟩ hp ?_ ?_ ?_ ?_
  · exact takes0N.imp fun cls d σ H' ⟨_, _, z, _⟩ => z
  · rintro cs kk ee ⟨rfl, _⟩; rfl
  · exact fun cdv A outer s H E W0 M0 cs kk ee h _ hot => hot_named_error (ee := ee) B G hTM hc hzc h hot
  refine da_cons ?_
  refine de_var (c := .raw (.ref e)) 1 rfl ?_ rfl
  refine da_nil ?_
  refine ⟨_, rfl, List.Pairwise.nil, rfl, trivial, ?_⟩
  refine da_nil ?_
  exact ⟨_, rfl, (by rw [sizeLine_eq]; exact Nat.le_of_ble_eq_true rfl), rfl⟩
open HotX L2H LamX in
theorem told_def (hPE : mg "PullError" = some (.ref (He.ga K "PullError"))) (FD : FdP K mg "_law_told" s_law_told) : ∃ p1 p2 n7 p7 n8 p8 p9, ToldDef K mg "_law_told" "call" "PullError" "e" (He.ga K "_law_told") (He.ga K "PullError") (defScope s_law_told) [.Return (some (.Tuple [.Call (.Name "call" p1) [] [] p2, .Constant (.str "") n7 p7] n8 p8)) p9] (errSuite (defBody s_law_told)) := by
  obtain ⟨⟨fd, FD⟩, hm⟩ := FD
  exact ⟨_, _, _, _, _, _, _, ⟨⟨_, _, _, _, fd, FD, FD.bindsN (fun _ _ _ _ _ _ us hl => match us, hl with | [_], _ => rfl)⟩, sc_law_told, hm, hPE, rfl, by decide, by decide, by decide, rfl, .inl rfl⟩⟩
open HotX L2H LamX in
/-- _law_told(lambda: body) -/
theorem de_toldX {Z : Ct} {ρ : DL.Env} {Φ : Rv → DL.Env → Prop} (LX : Lx Z.X.K Z.X.mg Z.X.base Z.T) (FT : FdP Z.X.K Z.X.mg "_law_told" s_law_told) {x : Str} (LTm : LamTab Z.X.K Z.X.mg Z.X.base Z.T x) {cdv : Value} (hcd : ∃ o fd, Z.X.K.lookup (He.ga Z.X.K x) = some o ∧ o.data = .func fd ∧ fd.code = cdv)
    {k : Nat} (hr : Room (k + 3) Z.X.A) {params : Arguments} {body : Expr} {scope : Scope} {p4 lpos pos : Pos} (t : LamT Z.X.env.scope scope []) (hdef : defaultsOf params Z.X.env = ([], []))
    (hbind : ∀ (q : Str) (cl : List (Str × Addr)) (pm cv ctv : Value), bindArgs (PySem.W.kla_fn "<lambda>" q params body scope cl pm cv ctv) ⟨[], []⟩ = pure [])
    (hbody : ∀ (q : Str) (f c' : Addr) (cl : List (Str × Addr)) (A : Around) (outer : List PySem.Env) (s : Shared) (H : Hp) (E : XK) (W0 M0 : AS), Room (k + 1) (ctCl Z Z.X.N q scope f c' cl A outer s H E W0 M0 fun cls ρ' => Sim ρ ρ' ∧ ∃ lab, LB Z.X.K cls lab ∧ Φ (.dat (.tuple [.none, .str lab])) ρ').X.A →
      L2N.Takes (ctCl Z Z.X.N q scope f c' cl A outer s H E W0 M0 fun cls ρ' => Sim ρ ρ' ∧ ∃ lab, LB Z.X.K cls lab ∧ Φ (.dat (.tuple [.none, .str lab])) ρ').X (wz (ctCl Z Z.X.N q scope f c' cl A outer s H E W0 M0 fun cls ρ' => Sim ρ ρ' ∧ ∃ lab, LB Z.X.K cls lab ∧ Φ (.dat (.tuple [.none, .str lab])) ρ')) →
      DE (ctCl Z Z.X.N q scope f c' cl A outer s H E W0 M0 fun cls ρ' => Sim ρ ρ' ∧ ∃ lab, LB Z.X.K cls lab ∧ Φ (.dat (.tuple [.none, .str lab])) ρ') body ρ fun r ρ' => ∃ d, vwd r = some d ∧ Φ (.dat (.tuple [d, .str ""])) ρ')
    (e4 : Z.X.env.code = cdv := by rfl) (e5 : Z.X.env.qual = x ++ ".<locals>." := by rfl) (hg : Gl Z.X "_law_told" := by rfl) : DE Z (.Call (.Name "_law_told" p4) [.Lambda params body scope lpos] [] pos) ρ Φ := by
  obtain ⟨p1, p2, n7, p7, n8, p8, p9, ED⟩ := told_def LX.pe FT
  obtain ⟨c, P, TZ⟩ := LTm.z hcd rfl rfl rfl e4 e5
  refine de_told (LB := LB Z.X.K) (k := k + 1) ED TZ hr (fun cls lab h => ?_) (fun cls lab hl cdv A outer s H H0 E f e oe pn M0 hz hf hr' => told_suite LX.B LX.G LX.tm LX.fn hl hz hf hr' (Nat.le_add_left 1 k)) t hdef hbind (fun q f c' cl A outer s H E W0 M0 hr2 hz2 _ => hbody q f c' cl A outer s H E W0 M0 hr2 hz2) hg (by decide)
  obtain ⟨_, _, _, _, _, _, _, _, _, _, _, _, _, _, _, rfl, _, _, e⟩ := h
  exact e
open HotX L2H LamX in
/-- _law_error(lambda: body) -/
theorem de_errX {Z : Ct} {ρ : DL.Env} {Φ : Rv → DL.Env → Prop} (LX : Lx Z.X.K Z.X.mg Z.X.base Z.T) {x : Str} (LTm : LamTab Z.X.K Z.X.mg Z.X.base Z.T x) {cdv : Value} (hcd : ∃ o fd, Z.X.K.lookup (He.ga Z.X.K x) = some o ∧ o.data = .func fd ∧ fd.code = cdv)
    {k : Nat} (hr : Room (k + 3) Z.X.A) {params : Arguments} {body : Expr} {scope : Scope} {p4 lpos pos : Pos} (t : LamT Z.X.env.scope scope []) (hdef : defaultsOf params Z.X.env = ([], []))
    (hbind : ∀ (q : Str) (cl : List (Str × Addr)) (pm cv ctv : Value), bindArgs (PySem.W.kla_fn "<lambda>" q params body scope cl pm cv ctv) ⟨[], []⟩ = pure [])
    (hbody : ∀ (q : Str) (f c' : Addr) (cl : List (Str × Addr)) (A : Around) (outer : List PySem.Env) (s : Shared) (H : Hp) (E : XK) (W0 M0 : AS), Room (k + 1) (ctCl Z Z.X.N q scope f c' cl A outer s H E W0 M0 fun cls ρ' => Sim ρ ρ' ∧ ∃ lab, LB Z.X.K cls lab ∧ Φ (.dat (.str lab)) ρ').X.A →
      L2N.Takes (ctCl Z Z.X.N q scope f c' cl A outer s H E W0 M0 fun cls ρ' => Sim ρ ρ' ∧ ∃ lab, LB Z.X.K cls lab ∧ Φ (.dat (.str lab)) ρ').X (wz (ctCl Z Z.X.N q scope f c' cl A outer s H E W0 M0 fun cls ρ' => Sim ρ ρ' ∧ ∃ lab, LB Z.X.K cls lab ∧ Φ (.dat (.str lab)) ρ')) →
      DE (ctCl Z Z.X.N q scope f c' cl A outer s H E W0 M0 fun cls ρ' => Sim ρ ρ' ∧ ∃ lab, LB Z.X.K cls lab ∧ Φ (.dat (.str lab)) ρ') body ρ fun _ ρ' => Φ (.dat (.str "")) ρ')
    (e4 : Z.X.env.code = cdv := by rfl) (e5 : Z.X.env.qual = x ++ ".<locals>." := by rfl) (hg : Gl Z.X "_law_error" := by rfl) : DE Z (.Call (.Name "_law_error" p4) [.Lambda params body scope lpos] [] pos) ρ Φ := by
  obtain ⟨p1, p2, p3, ED⟩ := err_def LX.pe LX.fe
  obtain ⟨c, P, TZ⟩ := LTm.z hcd rfl rfl rfl e4 e5
  refine de_err (LB := LB Z.X.K) (r0 := .str "") (k := k + 1) ED TZ hr (fun cls lab h => ?_) (fun Y ρ e => err_last Y ρ e) (fun cls lab hl cdv A outer s H H0 E f e oe pn M0 hz hf hr' => err_suite LX.B LX.G LX.tm LX.fn hl hz hf hr' (Nat.le_add_left 1 k)) t hdef hbind (fun q f c' cl A outer s H E W0 M0 hr2 hz2 _ => hbody q f c' cl A outer s H E W0 M0 hr2 hz2) hg (by decide)
  obtain ⟨_, _, _, _, _, _, _, _, _, _, _, _, _, _, _, rfl, _, _, e⟩ := h
  exact e
abbrev s_law : Stmt := top 54
theorem sc_law : FnScope ["script", "k", "bag", "one", "text", "turn", "bent", "due", "odds", "odd", "some", "second"] ["script"] (defScope s_law) := ⟨rfl, rfl, rfl, by decide +kernel, rfl, by decide +kernel, by decide +kernel⟩
theorem fn_law (B : Gb mg) (G : Gx K mg) (D__law_bag : DefOk P w K mg base T "_law_bag" 3 (F_law_bag)) (D__law_some_web : DefOk P w K mg base T "_law_some_web" 5 (F_law_some_web)) (D__law_text : DefOk P w K mg base T "_law_text" 1 (F_law_text)) (D_web_text : DefOk P w K mg base T "web_text" 5 (F_web_text K)) (D_read_web : DefOk P w K mg base T "read_web" 5 (F_read_web K)) (D__law_bent : DefOk P w K mg base T "_law_bent" 3 (F_law_bent8)) (D__law_read : DefOk P w K mg base T "_law_read" 4 (F_law_read)) (FT : FdP K mg "_law_told" s_law_told) (D__law_bad_webs : DefOk P w K mg base T "_law_bad_webs" 1 (F_law_bad_webs)) (D__law_known : DefOk P w K mg base T "_law_known" 1 (F_law_known)) (N_read_web : mg "read_web" = some (.ref (He.ga K "read_web"))) (N_web_text : mg "web_text" = some (.ref (He.ga K "web_text"))) (LX : Lx K mg base T) (LTm : LamTab K mg base T "law") {fd : FuncData} (FD : FunD K "law" "law" (defArgs s_law) (defBody s_law) (defScope s_law) [] [] (He.ga K "law") fd) : FnOk P w K mg base (L2N.CX P w) 10 (He.ga K "law") fd ["script"] (spD K T F_law) := by
  refine mk_fn FD sc_law ?_ fun cdv hcd A outer s0 H E W0 M0 cs kk ee h hr hz => ?_
  · rintro cs kk ee ⟨ns, rfl, _⟩; rfl
  have hN := (sc_law).nd
  have D__law_bag_mono : MonoF (F_law_bag) := m_law_bag
  have D__law_some_web_mono : MonoF (F_law_some_web) := m_law_some_web
  have D__law_text_mono : MonoF (F_law_text) := m_law_text
  have D_web_text_mono : MonoF (F_web_text K) := m_web_text
  have D_read_web_mono : MonoF (F_read_web K) := m_read_web
  have D__law_bent_mono : MonoF (F_law_bent8) := m_law_bent8
  have D__law_read_mono : MonoF (F_law_read) := m_law_read
  have D__law_bad_webs_mono : MonoF (F_law_bad_webs) := m_law_bad_webs
  have D__law_known_mono : MonoF (F_law_known) := m_law_known
  obtain ⟨ns, rfl, hn, h⟩ := h
  refine dss_cons ?_
  refine ds_for ?_
  refine di_range1 B.range ?_
  refine da_cons ?_
  refine de_int ?_
  refine da_nil ?_
  refine ⟨_, rfl, (by walk_at "sz"), (by walk_at "sz"), ?_⟩
  refine ⟨fun r ρ' => ∃ (c1 c2 c3 c4 c5 c6 c7 c8 c9 : Option C) (i : Int) (n : Nat), ρ' = [some (.dat (.list (ns.map .int))), c1, c2, c3, c4, c5, c6, c7, c8, c9, none, none] ∧ r = rng i n ∧ i + n = 8 ∧ 0 ≤ i, ⟨_, _, _, _, _, _, _, _, _, 0, 8, rfl, rfl, by omega, by omega⟩, fun _ _ _ => trivial, ?_, ?_⟩
  · rintro ρ' ⟨c1, c2, c3, c4, c5, c6, c7, c8, c9, i, n, rfl, er, ein, i0⟩
    refine dss_cons ?_
    refine ds_own 10 ?_
    refine de_lst ?_
    refine da_cons ?_
    refine de_str ?_
    refine da_cons ?_
    refine de_str ?_
    refine da_cons ?_
    refine de_str ?_
    refine da_cons ?_
    refine de_str ?_
    refine da_cons ?_
    refine de_str ?_
    refine da_cons ?_
    refine de_str ?_
    refine da_cons ?_
    refine de_str ?_
    refine da_cons ?_
    refine de_str ?_
    refine da_nil ?_
    refine ⟨_, rfl, (by walk_at "sz"), ?_⟩
    refine ⟨_, rfl, fun a10 => ?_⟩
    refine dss_cons ?_
    refine ds_expr ?_
    refine de_bm F.plainAttrs_list F.slot_list_append F.type_list_append ?_
    refine de_var 10 rfl ?_
    refine ⟨⟨_, rfl⟩, ?_⟩
    refine da_cons ?_
    refine de_str ?_
    refine da_nil ?_
    refine cd_append rfl rfl (by walk_at "sz") ?_
    refine dss_cons ?_
    refine ds_own 10 ?_
    refine de_bin ?_
    refine de_var 10 rfl ?_
    refine de_lst ?_
    refine da_cons ?_
    refine de_str ?_
    refine da_cons ?_
    refine de_str ?_
    refine da_cons ?_
    refine de_str ?_
    refine da_cons ?_
    refine de_str ?_
    refine da_nil ?_
    refine ⟨_, rfl, (by walk_at "sz"), ?_⟩
    first | refine od_addI rfl rfl ?_ | refine od_addS rfl rfl (by walk_at "sz") ?_ | refine od_addL rfl rfl (by walk_at "sz") ?_ | refine od_addT rfl rfl (by walk_at "sz") ?_
    refine ⟨_, rfl, fun a10 => ?_⟩
    refine dss_cons ?_
    refine ds_set 10 ?_
    refine de_bin ?_
    refine de_var 10 rfl ?_
    refine de_lst ?_
    refine da_cons ?_
    refine de_str ?_
    refine da_cons ?_
    refine de_str ?_
    refine da_cons ?_
    refine de_str ?_
    refine da_nil ?_
    refine ⟨_, rfl, (by walk_at "sz"), ?_⟩
    first | refine od_addI rfl rfl ?_ | refine od_addS rfl rfl (by walk_at "sz") ?_ | refine od_addL rfl rfl (by walk_at "sz") ?_ | refine od_addT rfl rfl (by walk_at "sz") ?_
    refine ⟨_, rfl, ?_⟩
    refine dss_cons ?_
    refine ds_if ?_
    refine dt_not ?_
    refine dt_val ?_
    refine de_call (ok_refV LX D_read_web N_read_web D_read_web_mono) (FV.mono _ _ _) (hr.mono (by decide)) hz ?_
    refine da_cons ?_
    refine de_globR (v := .ref _) N_read_web rfl ?_
    refine da_cons ?_
    refine de_var 10 rfl ?_
    refine da_cons ?_
    refine de_str ?_
    refine da_nil ?_
    refine ⟨_, rfl, (by first | exact List.Pairwise.nil | exact nd1 _ | simp [lent]), ?_⟩
    refine ⟨_, _, rfl, fun d hd => ?_, trivial, ?_⟩
    · skip
      obtain ⟨b1, b2⟩ := bad_texts d hd
      exact ⟨.error "InvalidText", ⟨d, rfl, b2, .inl ⟨b1, rfl⟩⟩, rfl, LX.lb ("InvalidText", "text") (by simp [excLabels])⟩
    · refine boolR_i ?_
      refine bcase_f ?_
      refine dss_nil ?_
      refine dss_cons ?_
      refine ds_set 11 ?_
      refine de_ix ?_
      refine de_call0 D__law_known D__law_known_mono (hr.mono (by decide)) hz ?_
      refine ⟨_, rfl, List.Pairwise.nil, ?_⟩
      refine ⟨rfl, trivial, ?_⟩
      refine de_int ?_
      refine ⟨_, _, _, rfl, rfl, (by first | rfl | assumption), (by intro _ hz; cases hz), ?_⟩
      refine ⟨_, rfl, ?_⟩
      refine dss_cons ?_
      refine ds_if ?_
      refine dt_w ?_
      refine dw_or ?_
      refine dt_is (b := false) ?_ ?_
      · refine dt_cmp ?_
        refine de_call D_web_text D_web_text_mono (hr.mono (by decide)) hz ?_
        refine da_cons ?_
        refine de_var 11 rfl ?_
        refine da_nil ?_
        refine ⟨_, rfl, (by first | exact List.Pairwise.nil | exact nd1 _ | simp [lent]), ?_⟩
        refine ⟨.ok (.dat (.str (textOf [(0, 1, 1), (1, 0, -1)] [0, 0]))), ⟨_, rfl, (by decide +kernel), on_web 2 [(0, 1, 1), (1, 0, -1)] [0, 0] (by kernel_rfl) (by decide +kernel) rfl⟩, trivial, ?_⟩
        refine de_str ?_
        refine od_neP rfl rfl rfl rfl (Nat.le_of_ble_eq_true rfl) (Room.u64 hr) ?_
        refine boolR_i ?_
        exact ⟨by rw [eqv_str]; decide +kernel, rfl⟩
      · refine bcase_f ?_
        refine dw_or1 ?_
        refine dt_is (b := false) ?_ ?_
        · refine dt_cmp ?_
          refine de_call D_web_text D_web_text_mono (hr.mono (by decide)) hz ?_
          refine da_cons ?_
          refine de_tup ?_
          refine da_cons ?_
          refine de_int ?_
          refine da_cons ?_
          refine de_tup ?_
          refine da_nil ?_
          refine ⟨_, rfl, (by walk_at "sz"), ?_⟩
          refine da_cons ?_
          refine de_tup ?_
          refine da_cons ?_
          refine de_neg ?_
          refine de_int ?_
          refine ⟨_, rfl, ?_⟩
          refine da_nil ?_
          refine ⟨_, rfl, (by walk_at "sz"), ?_⟩
          refine da_nil ?_
          refine ⟨_, rfl, (by walk_at "sz"), ?_⟩
          refine da_nil ?_
          refine ⟨_, rfl, (by first | exact List.Pairwise.nil | exact nd1 _ | simp [lent]), ?_⟩
          refine ⟨.ok (.dat (.str (textOf [] [-3]))), ⟨_, rfl, (by decide +kernel), on_web 1 [] [-3] (by kernel_rfl) (by decide +kernel) rfl⟩, trivial, ?_⟩
          refine de_str ?_
          refine od_neP rfl rfl rfl rfl (Nat.le_of_ble_eq_true rfl) (Room.u64 hr) ?_
          refine boolR_i ?_
          exact ⟨by rw [eqv_str]; decide +kernel, rfl⟩
        · refine bcase_f ?_
          refine dss_nil ?_
          refine dss_one ?_
          refine ds_ret ?_
          refine de_cmp ?_
          refine de_call D_read_web D_read_web_mono (hr.mono (by decide)) hz ?_
          refine da_cons ?_
          refine de_str ?_
          refine da_nil ?_
          refine ⟨_, rfl, (by first | exact List.Pairwise.nil | exact nd1 _ | simp [lent]), ?_⟩
          refine ⟨.ok (.dat (webD 2 [(0, 1, -9)] [0, 0])), ⟨.str "leans 0 0\npull 0 1 -9", rfl, goodTx_ok (by decide +kernel), .inr ⟨by rw [show readD (.str "leans 0 0\npull 0 1 -9") = webD 2 [(0, 1, -9)] [0, 0] by kernel_rfl]; exact web_ne, by rw [show readD (.str "leans 0 0\npull 0 1 -9") = webD 2 [(0, 1, -9)] [0, 0] by kernel_rfl]⟩⟩, trivial, ?_⟩
          refine de_tup ?_
          refine da_cons ?_
          refine de_int ?_
          refine da_cons ?_
          refine de_tup ?_
          refine da_cons ?_
          refine de_tup ?_
          refine da_cons ?_
          refine de_int ?_
          refine da_cons ?_
          refine de_int ?_
          refine da_cons ?_
          refine de_neg ?_
          refine de_int ?_
          refine ⟨_, rfl, ?_⟩
          refine da_nil ?_
          refine ⟨_, rfl, (by walk_at "sz"), ?_⟩
          refine da_nil ?_
          refine ⟨_, rfl, (by walk_at "sz"), ?_⟩
          refine da_cons ?_
          refine de_tup ?_
          refine da_cons ?_
          refine de_int ?_
          refine da_cons ?_
          refine de_int ?_
          refine da_nil ?_
          refine ⟨_, rfl, (by walk_at "sz"), ?_⟩
          refine da_nil ?_
          refine ⟨_, rfl, (by walk_at "sz"), ?_⟩
          refine od_eqP rfl rfl (by decide +kernel) (by decide +kernel) (by decide +kernel) (Room.u64 hr) ?_
          exact ret_dat (by walk_at "rc") h (congrArg PyData.bool (by decide +kernel))
  · rintro d r ρ' ⟨c1, c2, c3, c4, c5, c6, c7, c8, c9, i, n, rfl, er, ein, i0⟩
    obtain ⟨n, rfl, rfl, rfl⟩ := rng_uncons er
    refine dg_name 1 ?_
    refine dss_cons ?_
    refine ds_own 2 ?_
    refine de_call D__law_bag D__law_bag_mono (hr.mono (by decide)) hz ?_
    refine da_cons ?_
    refine de_var 0 rfl ?_
    refine da_cons ?_
    refine de_var 1 rfl ?_
    refine da_nil ?_
    refine ⟨_, rfl, (by first | exact List.Pairwise.nil | exact nd1 _ | simp [lent]), ?_⟩
    refine ⟨ns, _, rfl, by omega, by omega, by omega, fun ms0 => ⟨trivial, ?_⟩⟩
    refine ⟨_, rfl, fun a2 => ?_⟩
    refine dss_cons ?_
    refine ds_set 3 ?_
    refine de_call D__law_some_web D__law_some_web_mono (hr.mono (by decide)) hz ?_
    refine da_cons ?_
    refine de_var 2 rfl ?_
    refine da_cons ?_
    refine de_int ?_
    refine da_nil ?_
    refine ⟨_, rfl, (by first | exact List.Pairwise.nil | exact nd1 _ | simp [lent]), ?_⟩
    refine ⟨_, _, _, rfl, by omega, by omega, fun p ps ls ms1 gw hq => ⟨trivial, ?_⟩⟩
    have p1 := gw.p1
    have p7 := gw.p7
    obtain ⟨ts1, ts2, ts3⟩ := text_size gw (few gw)
    have wpl := web_sm gw
    refine ⟨_, rfl, ?_⟩
    refine dss_cons ?_
    refine ds_set 4 ?_
    refine de_call D__law_text D__law_text_mono (hr.mono (by decide)) hz ?_
    refine da_cons ?_
    refine de_var 3 rfl ?_
    refine da_nil ?_
    refine ⟨_, rfl, (by first | exact List.Pairwise.nil | exact nd1 _ | simp [lent]), ?_⟩
    refine ⟨_, ⟨_, _, _, rfl, gw, rfl⟩, trivial, ?_⟩
    refine ⟨_, rfl, ?_⟩
    refine dss_cons ?_
    refine ds_if ?_
    refine dt_w ?_
    refine dw_or ?_
    refine dt_is (b := false) ?_ ?_
    · refine dt_cmp ?_
      refine de_call D_web_text D_web_text_mono (hr.mono (by decide)) hz ?_
      refine da_cons ?_
      refine de_var 3 rfl ?_
      refine da_nil ?_
      refine ⟨_, rfl, (by first | exact List.Pairwise.nil | exact nd1 _ | simp [lent]), ?_⟩
      refine ⟨.ok (.dat (.str (textOf ps ls))), ⟨_, rfl, gw.small, .inr ⟨_, _, _, rfl, gw, rfl⟩⟩, trivial, ?_⟩
      refine de_var 4 rfl ?_
      refine od_neP rfl rfl rfl rfl (Nat.le_of_ble_eq_true rfl) (Room.u64 hr) ?_
      refine boolR_i ?_
      exact ⟨by rw [eqv_str]; simp, rfl⟩
    · refine bcase_f ?_
      refine dw_or1 ?_
      refine dt_is (b := false) ?_ ?_
      · refine dt_cmp ?_
        refine de_call D_read_web D_read_web_mono (hr.mono (by decide)) hz ?_
        refine da_cons ?_
        refine de_var 4 rfl ?_
        refine da_nil ?_
        refine ⟨_, rfl, (by first | exact List.Pairwise.nil | exact nd1 _ | simp [lent]), ?_⟩
        refine ⟨.ok (.dat (webD p ps ls)), ⟨.str (textOf ps ls), rfl, (fun t e => by cases e; exact txOk gw), .inr ⟨by rw [show readD (.str (textOf ps ls)) = webD p ps ls from read_text gw]; exact web_ne, by rw [show readD (.str (textOf ps ls)) = webD p ps ls from read_text gw]⟩⟩, trivial, ?_⟩
        refine de_var 3 rfl ?_
        refine od_neP rfl rfl (sm_plain wpl.1) (sm_plain wpl.1) (by omega) (Room.u64 hr) ?_
        refine boolR_i ?_
        exact ⟨by rw [PySem.SeqAt.eqv_refl_plain _ (sm_plain wpl.1)]; rfl, rfl⟩
      · refine bcase_f ?_
        refine dss_nil ?_
        refine dss_cons ?_
        refine ds_for ?_
        refine di_range1 B.range ?_
        refine da_cons ?_
        refine de_int ?_
        refine da_nil ?_
        refine ⟨_, rfl, (by walk_at "sz"), (by walk_at "sz"), ?_⟩
        refine ⟨fun r ρ' => ∃ (a : Addr) (ms : List Int) (c5 c6 c7 c8 c9 : Option C) (n2 : Nat) (j : Int), ρ' = [some (.dat (.list (ns.map .int))), some (.dat (.int i)), some (bagC a ms), some (.dat (webD p ps ls)), some (.dat (.str (textOf ps ls))), c5, c6, c7, c8, c9, none, none] ∧ r = rng j n2, ⟨_, _, _, _, _, _, _, 6, 0, rfl, rfl⟩, fun _ _ _ => trivial, ?_, ?_⟩
        · rintro ρ' ⟨a, ms, c5, c6, c7, c8, c9, n2, j, rfl, er⟩
          refine dss_cons ?_
          refine ds_set 8 ?_
          refine de_lst ?_
          refine da_cons ?_
          refine de_non ?_
          refine da_cons ?_
          refine de_int ?_
          refine da_cons ?_
          refine de_lst ?_
          refine da_cons ?_
          refine de_var 4 rfl ?_
          refine da_nil ?_
          refine ⟨_, rfl, (by walk_at "sz"), ?_⟩
          refine da_cons ?_
          refine de_bl ?_
          refine da_cons ?_
          refine de_str ?_
          refine da_cons ?_
          refine de_str ?_
          refine da_cons ?_
          refine de_bin ?_
          refine de_var 4 rfl ?_
          refine de_str ?_
          refine od_addS rfl rfl (by have : (Str.ofString "\n").length = 1 := rfl; rw [sizeLine_eq]; omega) ?_
          refine da_cons ?_
          refine de_bin ?_
          refine de_str ?_
          refine de_var 4 rfl ?_
          refine od_addS rfl rfl (by have : (Str.ofString " ").length = 1 := rfl; rw [sizeLine_eq]; omega) ?_
          refine da_cons ?_
          refine de_bin ?_
          refine de_str ?_
          refine de_var 4 rfl ?_
          refine od_addS rfl rfl (by have : (Str.ofString "\n").length = 1 := rfl; rw [sizeLine_eq]; omega) ?_
          refine da_nil ?_
          refine ⟨_, rfl, (by walk_at "sz"), ?_⟩
          refine ⟨_, rfl, ?_⟩
          refine dss_cons ?_
          refine ds_for ?_
          refine di_list ?_
          refine de_bin ?_
          refine de_var 8 rfl ?_
          refine de_lst ?_
          refine da_cons ?_
          refine de_bin ?_
          refine de_var 4 rfl ?_
          refine de_str ?_
          refine od_addS rfl rfl (by have : (Str.ofString "\npull 0 0 1").length = 11 := rfl; rw [sizeLine_eq]; omega) ?_
          refine da_cons ?_
          refine de_bin ?_
          refine de_var 4 rfl ?_
          refine de_str ?_
          refine od_addS rfl rfl (by have : (Str.ofString " ").length = 1 := rfl; rw [sizeLine_eq]; omega) ?_
          refine da_nil ?_
          refine ⟨_, rfl, (by walk_at "sz"), ?_⟩
          refine od_addL rfl rfl (by rw [sizeLine_eq]; exact Nat.le_of_ble_eq_true rfl) ?_
          refine ⟨_, rfl, ?_⟩
          refine ⟨fun r ρ' => ∃ (a : Addr) (ms : List Int) (c5 c6 c7 c8 c9 : Option C), ρ' = [some (.dat (.list (ns.map .int))), some (.dat (.int i)), some (bagC a ms), some (.dat (webD p ps ls)), some (.dat (.str (textOf ps ls))), c5, c6, c7, c8, c9, none, none] ∧ ∀ d ∈ r, d ∈ oddsT (textOf ps ls), ⟨_, _, _, _, _, _, _, rfl, fun d hd => hd⟩, fun _ _ _ => trivial, ?_, ?_⟩
          · rintro ρ' ⟨a, ms, c5, c6, c7, c8, c9, rfl, _⟩
            refine dss_one ?_
            refine ds_if ?_
            refine dt_not ?_
            refine dt_val ?_
            refine de_call (ok_refV LX D_web_text N_web_text D_web_text_mono) (FV.mono _ _ _) (hr.mono (by decide)) hz ?_
            refine da_cons ?_
            refine de_globR (v := .ref _) N_web_text rfl ?_
            refine da_cons ?_
            refine de_call0 D__law_bad_webs D__law_bad_webs_mono (hr.mono (by decide)) hz ?_
            refine ⟨_, rfl, List.Pairwise.nil, ?_⟩
            refine ⟨rfl, trivial, ?_⟩
            refine da_cons ?_
            refine de_str ?_
            refine da_nil ?_
            refine ⟨_, rfl, (by first | exact List.Pairwise.nil | exact nd1 _ | simp [lent]), ?_⟩
            refine ⟨_, _, rfl, fun d hd => ?_, trivial, ?_⟩
            · skip
              obtain ⟨b1, b2⟩ := bad_webs d hd
              exact ⟨.error "InvalidWeb", ⟨d, rfl, b2, .inl ⟨b1, rfl⟩⟩, rfl, LX.lb ("InvalidWeb", "web") (by simp [excLabels])⟩
            · refine boolR_i ?_
              refine bcase_f ?_
              refine dss_nil ?_
              exact ⟨_, _, _, _, _, _, _, _, _, _, n, rfl, rfl, by omega, by omega⟩
          · rintro d2 r2 ρ' ⟨a, ms, c5, c6, c7, c8, c9, rfl, hd2⟩
            obtain ⟨o1, o2⟩ := odd_bad gw d2 (hd2 d2 (List.mem_cons_self ..))
            refine dg_name 9 ?_
            refine dss_one ?_
            refine ds_if ?_
            refine dt_is (b := false) ?_ ?_
            · refine dt_cmp ?_
              refine de_is (d := .str "text") ?_ ?_
              · refine de_errX (k := 5) LX LTm hcd (hr.mono (by decide)) (lamT_by (by kernel_rfl)) rfl (fun _ _ _ _ _ => rfl) (fun q f c0 cl A2 outer2 s2 H2 E2 W2 M2 hr2 hz2 => ?_)
                refine de_call D_read_web D_read_web_mono (hr2.mono (by decide)) hz2 ?_
                refine da_cons ?_
                refine de_var 9 rfl ?_
                refine da_nil ?_
                refine ⟨_, rfl, (by first | exact List.Pairwise.nil | exact nd1 _ | simp [lent]), ?_⟩
                refine ⟨.error "InvalidText", ⟨d2, rfl, o2, .inl ⟨o1, rfl⟩⟩, ?_⟩
                exact ⟨Sim.refl _, "text", LX.lb ("InvalidText", "text") (by simp [excLabels]), rfl, rfl⟩
              refine de_str ?_
              refine od_neP rfl rfl rfl rfl (Nat.le_of_ble_eq_true rfl) (Room.u64 hr) ?_
              refine boolR_i ?_
              exact ⟨by rw [eqv_str]; simp, rfl⟩
            · refine bcase_f ?_
              refine dss_nil ?_
              exact ⟨_, _, _, _, _, _, _, rfl, fun d hd => hd2 d (List.mem_cons_of_mem _ hd)⟩
        · rintro d r ρ' ⟨a, ms, c5, c6, c7, c8, c9, n2, j, rfl, er⟩
          obtain ⟨n2, rfl, rfl, rfl⟩ := rng_uncons er
          refine dg_name 5 ?_
          refine dss_cons ?_
          refine ds_is (P := fun ρ1 => ∃ (ms : List Int) (tb : Str), TxOk tb ∧ ρ1 = [some (.dat (.list (ns.map .int))), some (.dat (.int i)), some (bagC a ms), some (.dat (webD p ps ls)), some (.dat (.str (textOf ps ls))), some (.dat (.int j)), some (.dat (.str tb)), c7, c8, c9, none, none]) ?_ ?_
          · refine ds_set 6 ?_
            refine de_if ?_
            refine dt_cmp ?_
            refine de_var 5 rfl ?_
            refine de_int ?_
            refine od_lt rfl rfl ?_
            refine boolR_i ?_
            refine bcase_m (fun h1 => ?_) (fun h1 => ?_)
            · refine de_call D__law_bent D__law_bent_mono (hr.mono (by decide)) hz ?_
              refine da_cons ?_
              refine de_var 2 rfl ?_
              refine da_cons ?_
              refine de_var 4 rfl ?_
              refine da_nil ?_
              refine ⟨_, rfl, (by first | exact List.Pairwise.nil | exact nd1 _ | simp [lent]), ?_⟩
              refine ⟨_, _, _, rfl, (by omega), fun t1 ms3 q1 => ⟨trivial, ?_⟩⟩
              refine ⟨_, rfl, ?_⟩
              exact ⟨_, t1, txOk1 gw q1, rfl⟩
            · refine de_call D__law_bent D__law_bent_mono (hr.mono (by decide)) hz ?_
              refine da_cons ?_
              refine de_var 2 rfl ?_
              refine da_cons ?_
              refine de_call D__law_bent D__law_bent_mono (hr.mono (by decide)) hz ?_
              refine da_cons ?_
              refine de_var 2 rfl ?_
              refine da_cons ?_
              refine de_var 4 rfl ?_
              refine da_nil ?_
              refine ⟨_, rfl, (by first | exact List.Pairwise.nil | exact nd1 _ | simp [lent]), ?_⟩
              refine ⟨_, _, _, rfl, (by omega), fun t1 ms3 q1 => ⟨trivial, ?_⟩⟩
              refine da_nil ?_
              refine ⟨_, rfl, (by first | exact List.Pairwise.nil | exact nd1 _ | simp [lent]), ?_⟩
              refine ⟨_, _, _, rfl, (by have := q1.len; omega), fun t2 ms4 q2 => ⟨trivial, ?_⟩⟩
              refine ⟨_, rfl, ?_⟩
              exact ⟨_, t2, txOk2 gw q1 q2, rfl⟩
          · rintro ρ1 ⟨ms2, tb, ok, rfl⟩
            refine dss_cons ?_
            refine ds_set 7 ?_
            refine de_call D__law_read D__law_read_mono (hr.mono (by decide)) hz ?_
            refine da_cons ?_
            refine de_var 6 rfl ?_
            refine da_nil ?_
            refine ⟨_, rfl, (by first | exact List.Pairwise.nil | exact nd1 _ | simp [lent]), ?_⟩
            refine ⟨_, ⟨_, rfl, ok, rfl⟩, trivial, ?_⟩
            refine ⟨_, rfl, ?_⟩
            refine dss_one ?_
            refine ds_if ?_
            refine dt_is (b := false) ?_ ?_
            · refine dt_cmp ?_
              refine de_is (d := .tuple [readT tb, .str (if isNone (readT tb) = true then "text" else "")]) ?_ ?_
              · refine de_toldX (k := 5) LX FT LTm hcd (hr.mono (by decide)) (lamT_by (by kernel_rfl)) rfl (fun _ _ _ _ _ => rfl) (fun q f c0 cl A2 outer2 s2 H2 E2 W2 M2 hr2 hz2 => ?_)
                refine de_call D_read_web D_read_web_mono (hr2.mono (by decide)) hz2 ?_
                refine da_cons ?_
                refine de_var 6 rfl ?_
                refine da_nil ?_
                refine ⟨_, rfl, (by first | exact List.Pairwise.nil | exact nd1 _ | simp [lent]), ?_⟩
                by_cases hq : readT tb = .none
                · refine ⟨.error "InvalidText", ⟨.str tb, rfl, (fun t e => by cases e; exact ok), .inl ⟨hq, rfl⟩⟩, ?_⟩
                  exact ⟨Sim.refl _, "text", LX.lb ("InvalidText", "text") (by simp [excLabels]), by rw [hq]; exact ⟨rfl, rfl⟩⟩
                · refine ⟨.ok (.dat (readT tb)), ⟨.str tb, rfl, (fun t e => by cases e; exact ok), .inr ⟨hq, rfl⟩⟩, trivial, ?_⟩
                  exact ⟨_, rfl, by rw [if_neg (fun q => hq (read_isNone.mp q))]; exact ⟨rfl, rfl⟩⟩
              refine de_if ?_
              refine dt_cmp ?_
              refine de_var 7 rfl ?_
              refine de_non ?_
              first | refine od_isnotN rfl rfl ?_ | refine od_isnotB rfl rfl ?_
              refine boolR_i ?_
              refine bcase_m (fun h2 => ?_) (fun h2 => ?_)
              · refine de_tup ?_
                refine da_cons ?_
                refine de_var 7 rfl ?_
                refine da_cons ?_
                refine de_str ?_
                refine da_nil ?_
                refine ⟨_, rfl, (by walk_at "sz"), ?_⟩
                first | refine od_neP rfl rfl (read_plain _ _).1 (read_plain _ _).1 (read_plain _ _).2 (Room.u64 hr) ?_ | refine od_neP rfl rfl (read_plain _ _).1 rfl (Nat.le_of_ble_eq_true rfl) (Room.u64 hr) ?_
                refine boolR_i ?_
                have hn : isNone (readT tb) = false := by simpa using ‹(!isNone (readT tb)) = true›
                exact ⟨by rw [hn, if_neg (by decide), PySem.SeqAt.eqv_refl_plain _ (read_plain _ _).1]; rfl, rfl⟩
              · refine de_tup ?_
                refine da_cons ?_
                refine de_non ?_
                refine da_cons ?_
                refine de_str ?_
                refine da_nil ?_
                refine ⟨_, rfl, (by walk_at "sz"), ?_⟩
                first | refine od_neP rfl rfl (read_plain _ _).1 (read_plain _ _).1 (read_plain _ _).2 (Room.u64 hr) ?_ | refine od_neP rfl rfl (read_plain _ _).1 rfl (Nat.le_of_ble_eq_true rfl) (Room.u64 hr) ?_
                refine boolR_i ?_
                have hn : isNone (readT tb) = true := by simpa using ‹(!isNone (readT tb)) = false›
                exact ⟨by rw [hn, if_pos rfl, read_isNone.mp hn]; rfl, rfl⟩
            · refine bcase_f ?_
              refine dss_nil ?_
              exact ⟨_, _, _, _, _, _, _, n2, _, rfl, rfl⟩
end
end Law
set_option Elab.async false
set_option linter.all false
set_option maxRecDepth 100000
set_option maxHeartbeats 0
namespace Law
open PySem PySem.Spec PyProof.Rows L2 DL
def d_is_whole : He.DefD := ⟨("is_whole", none), "is_whole", "is_whole", defArgs s_is_whole, defBody s_is_whole, defScope s_is_whole, [], []⟩
def d_fits_pull : He.DefD := ⟨("fits_pull", none), "fits_pull", "fits_pull", defArgs s_fits_pull, defBody s_fits_pull, defScope s_fits_pull, [], []⟩
def d_fits_web : He.DefD := ⟨("fits_web", none), "fits_web", "fits_web", defArgs s_fits_web, defBody s_fits_web, defScope s_fits_web, [], []⟩
def d_need_web : He.DefD := ⟨("need_web", none), "need_web", "need_web", defArgs s_need_web, defBody s_need_web, defScope s_need_web, [], []⟩
def d_as_text : He.DefD := ⟨("as_text", none), "as_text", "as_text", defArgs s_as_text, defBody s_as_text, defScope s_as_text, [], []⟩
def d_web_text : He.DefD := ⟨("web_text", none), "web_text", "web_text", defArgs s_web_text, defBody s_web_text, defScope s_web_text, [], []⟩
def d_is_number : He.DefD := ⟨("is_number", none), "is_number", "is_number", defArgs s_is_number, defBody s_is_number, defScope s_is_number, [], []⟩
def d_numbers_in : He.DefD := ⟨("numbers_in", none), "numbers_in", "numbers_in", defArgs s_numbers_in, defBody s_numbers_in, defScope s_numbers_in, [], []⟩
def d_web_in : He.DefD := ⟨("web_in", none), "web_in", "web_in", defArgs s_web_in, defBody s_web_in, defScope s_web_in, [], []⟩
def d_read_web : He.DefD := ⟨("read_web", none), "read_web", "read_web", defArgs s_read_web, defBody s_read_web, defScope s_read_web, [], []⟩
def d_law_cell : He.DefD := ⟨("_law_cell", none), "_law_cell", "_law_cell", defArgs s_law_cell, defBody s_law_cell, defScope s_law_cell, [], []⟩
def d_law_draws : He.DefD := ⟨("_law_draws", none), "_law_draws", "_law_draws", defArgs s_law_draws, defBody s_law_draws, defScope s_law_draws, [], []⟩
def d_law_bag : He.DefD := ⟨("_law_bag", none), "_law_bag", "_law_bag", defArgs s_law_bag, defBody s_law_bag, defScope s_law_bag, [], []⟩
def d_law_take : He.DefD := ⟨("_law_take", none), "_law_take", "_law_take", defArgs s_law_take, defBody s_law_take, defScope s_law_take, [], []⟩
def d_law_choice : He.DefD := ⟨("_law_choice", none), "_law_choice", "_law_choice", defArgs s_law_choice, defBody s_law_choice, defScope s_law_choice, [], []⟩
def d_law_known : He.DefD := ⟨("_law_known", none), "_law_known", "_law_known", defArgs s_law_known, defBody s_law_known, defScope s_law_known, [], []⟩
def d_law_leans : He.DefD := ⟨("_law_leans", none), "_law_leans", "_law_leans", defArgs s_law_leans, defBody s_law_leans, defScope s_law_leans, [], []⟩
def d_law_web : He.DefD := ⟨("_law_web", none), "_law_web", "_law_web", defArgs s_law_web, defBody s_law_web, defScope s_law_web, [], []⟩
def d_law_even : He.DefD := ⟨("_law_even", none), "_law_even", "_law_even", defArgs s_law_even, defBody s_law_even, defScope s_law_even, [], []⟩
def d_law_some_web : He.DefD := ⟨("_law_some_web", none), "_law_some_web", "_law_some_web", defArgs s_law_some_web, defBody s_law_some_web, defScope s_law_some_web, [], []⟩
def d_law_whole : He.DefD := ⟨("_law_whole", none), "_law_whole", "_law_whole", defArgs s_law_whole, defBody s_law_whole, defScope s_law_whole, [], []⟩
def d_law_is_pull : He.DefD := ⟨("_law_is_pull", none), "_law_is_pull", "_law_is_pull", defArgs s_law_is_pull, defBody s_law_is_pull, defScope s_law_is_pull, [], []⟩
def d_law_is_web : He.DefD := ⟨("_law_is_web", none), "_law_is_web", "_law_is_web", defArgs s_law_is_web, defBody s_law_is_web, defScope s_law_is_web, [], []⟩
def d_law_named_error : He.DefD := ⟨("_law_named_error", none), "_law_named_error", "_law_named_error", defArgs s_law_named_error, defBody s_law_named_error, defScope s_law_named_error, [], []⟩
def d_law_error : He.DefD := ⟨("_law_error", none), "_law_error", "_law_error", defArgs s_law_error, defBody s_law_error, defScope s_law_error, [], []⟩
def d_law_told : He.DefD := ⟨("_law_told", none), "_law_told", "_law_told", defArgs s_law_told, defBody s_law_told, defScope s_law_told, [], []⟩
def d_law_all_refused : He.DefD := ⟨("_law_all_refused", none), "_law_all_refused", "_law_all_refused", defArgs s_law_all_refused, defBody s_law_all_refused, defScope s_law_all_refused, [], []⟩
def d_law_bad_webs : He.DefD := ⟨("_law_bad_webs", none), "_law_bad_webs", "_law_bad_webs", defArgs s_law_bad_webs, defBody s_law_bad_webs, defScope s_law_bad_webs, [], []⟩
def d_law_text : He.DefD := ⟨("_law_text", none), "_law_text", "_law_text", defArgs s_law_text, defBody s_law_text, defScope s_law_text, [], []⟩
def d_law_numbers : He.DefD := ⟨("_law_numbers", none), "_law_numbers", "_law_numbers", defArgs s_law_numbers, defBody s_law_numbers, defScope s_law_numbers, [], []⟩
def d_law_read : He.DefD := ⟨("_law_read", none), "_law_read", "_law_read", defArgs s_law_read, defBody s_law_read, defScope s_law_read, [], []⟩
def d_law_bent : He.DefD := ⟨("_law_bent", none), "_law_bent", "_law_bent", defArgs s_law_bent, defBody s_law_bent, defScope s_law_bent, [], []⟩
def d_law : He.DefD := ⟨("law", none), "law", "law", defArgs s_law, defBody s_law, defScope s_law, [], []⟩
def fn : List He.DefD := [d_is_whole, d_fits_pull, d_fits_web, d_need_web, d_as_text, d_web_text, d_is_number, d_numbers_in, d_web_in, d_read_web, d_law_cell, d_law_draws, d_law_bag, d_law_take, d_law_choice, d_law_known, d_law_leans, d_law_web, d_law_even, d_law_some_web, d_law_whole, d_law_is_pull, d_law_is_web, d_law_named_error, d_law_error, d_law_told, d_law_all_refused, d_law_bad_webs, d_law_text, d_law_numbers, d_law_read, d_law_bent, d_law]
def fa : List He.Fa := [.free "len", .free "isinstance", .free "range", .free "int", .free "bool", .free "str", .free "tuple", .free "list", .free "set", .free "all", .free "sum", .free "zip", .free "sorted", .free "abs", .free "max", .free "min", .free "enumerate", .free "ValueError", .int "PLACES" 7, .int "MOST" 9, .str "FIGURES" "0123456789", .glo "PullError", .exc "PullError", .glo "InvalidWeb", .exc "InvalidWeb", .glo "InvalidSaying", .exc "InvalidSaying", .glo "InvalidPlace", .exc "InvalidPlace", .glo "InvalidScales", .exc "InvalidScales", .glo "InvalidTurn", .exc "InvalidTurn", .glo "InvalidNumber", .exc "InvalidNumber", .glo "InvalidFacts", .exc "InvalidFacts", .glo "InvalidIndex", .exc "InvalidIndex", .glo "InvalidFactors", .exc "InvalidFactors", .glo "InvalidSign", .exc "InvalidSign", .glo "InvalidText", .exc "InvalidText", .glo "Unlike", .exc "Unlike", .glo "NothingToUndo", .exc "NothingToUndo", .glo "is_whole", .glo "fits_pull", .glo "fits_web", .glo "need_web", .glo "as_text", .glo "web_text", .glo "is_number", .glo "numbers_in", .glo "web_in", .glo "read_web", .glo "_law_cell", .glo "_law_draws", .glo "_law_bag", .glo "_law_take", .glo "_law_choice", .glo "_law_known", .glo "_law_leans", .glo "_law_web", .glo "_law_even", .glo "_law_some_web", .glo "_law_whole", .glo "_law_is_pull", .glo "_law_is_web", .glo "_law_named_error", .glo "_law_error", .glo "_law_told", .glo "_law_all_refused", .glo "_law_bad_webs", .glo "_law_text", .glo "_law_numbers", .glo "_law_read", .glo "_law_bent", .glo "law", .glo "TooMany"]
def tf : List He.Defn := [("_law_all_refused", none), ("law", none)]
def exB (K : PySem.W.Frag) : Bool := apartB K tf && (excLabels.dropLast).all (lbB K)
abbrev R : PySem.W.OpenRow := PySem.W.OpenLaw.row PySem.Challenge.rw_scaledpulls_k08_texts_of_webs
abbrev hk : PySem.W.Hook := He.hookX 4 fa fn [] tf exB
def ob (s : PySem.W.SharedT) : He.AlX := He.obsX 4 fa fn [] tf exB (HandSHeadRun.getT s)
theorem ob_eq (s : PySem.W.SharedT) : ob s = hk.obs s.abs := He.obsX_eq (HandSHeadRun.getT_eq s)
def names : List Str := ([("PullError" : Str), ("InvalidWeb" : Str), ("InvalidSaying" : Str), ("InvalidPlace" : Str), ("InvalidScales" : Str), ("InvalidTurn" : Str), ("InvalidNumber" : Str), ("InvalidFacts" : Str), ("InvalidIndex" : Str), ("InvalidFactors" : Str), ("InvalidSign" : Str), ("InvalidText" : Str), ("Unlike" : Str), ("NothingToUndo" : Str), ("TooMany" : Str), ("PLACES" : Str), ("MOST" : Str), ("is_whole" : Str), ("fits_pull" : Str), ("fits_web" : Str)] : List Str) ++ ([("need_web" : Str), ("FIGURES" : Str), ("as_text" : Str), ("web_text" : Str), ("is_number" : Str), ("numbers_in" : Str), ("web_in" : Str), ("read_web" : Str), ("_law_cell" : Str), ("_law_draws" : Str), ("_law_bag" : Str), ("_law_take" : Str), ("_law_choice" : Str), ("_law_known" : Str), ("_law_leans" : Str), ("_law_web" : Str), ("_law_even" : Str), ("_law_some_web" : Str), ("_law_whole" : Str), ("_law_is_pull" : Str)] : List Str) ++ ([("_law_is_web" : Str), ("_law_named_error" : Str), ("_law_error" : Str), ("_law_told" : Str), ("_law_all_refused" : Str), ("_law_bad_webs" : Str), ("_law_text" : Str), ("_law_numbers" : Str), ("_law_read" : Str), ("_law_bent" : Str)] : List Str)
theorem run (w : World) : HandSHeadRun.RunEq R (PySem.W.view R.prog [54]) hk ob 20000 names w := by
  intro os
  kernel_rfl
theorem facts {w : World} {K : PySem.W.Frag} {h : Heap} {mg : Str → Option Value} {f : Addr} (X : K.In h) (G : h.Ns mainGlobals mg) (hfa : mg ("law" : Str) = some (.ref f)) (c : He.SaysX fa fn [] tf exB w h K) : LamX.LawAtS PySem.Challenge.rw_scaledpulls_k08_texts_of_webs w K (L2N.CX (PySem.Challenge.rw_scaledpulls_k08_texts_of_webs).prog w) 10 63 "script" mg f h := by
  obtain ⟨fd, FD⟩ := c.t.d.def_ 32 (d := d_law) rfl
  have e := hfa.symm.trans (He.glo_ok X G (c.t.d.fact 81 (f := .glo "law") rfl))
  cases e
  have b := FunD.bindsA (ps := ["script"]) FD fun _ _ _ _ _ _ us hl => match us, hl with | [_], _ => rfl
  have ex := c.more
  simp only [exB, Bool.and_eq_true] at ex
  obtain ⟨ap, lb⟩ := ex
  have lb : ∀ p ∈ excLabels.dropLast, LB K (.ref (He.ga K p.1)) p.2 := fun p hp => lbB_ok (List.all_eq_true.mp lb p hp)
  have B : Gb mg := ⟨He.free_ok X G (c.t.d.fact 0 (f := .free "len") rfl), He.free_ok X G (c.t.d.fact 1 (f := .free "isinstance") rfl), He.free_ok X G (c.t.d.fact 2 (f := .free "range") rfl), He.free_ok X G (c.t.d.fact 3 (f := .free "int") rfl), He.free_ok X G (c.t.d.fact 4 (f := .free "bool") rfl), He.free_ok X G (c.t.d.fact 5 (f := .free "str") rfl), He.free_ok X G (c.t.d.fact 6 (f := .free "tuple") rfl), He.free_ok X G (c.t.d.fact 7 (f := .free "list") rfl), He.free_ok X G (c.t.d.fact 8 (f := .free "set") rfl), He.free_ok X G (c.t.d.fact 9 (f := .free "all") rfl), He.free_ok X G (c.t.d.fact 10 (f := .free "sum") rfl), He.free_ok X G (c.t.d.fact 11 (f := .free "zip") rfl), He.free_ok X G (c.t.d.fact 12 (f := .free "sorted") rfl), He.free_ok X G (c.t.d.fact 13 (f := .free "abs") rfl), He.free_ok X G (c.t.d.fact 14 (f := .free "max") rfl), He.free_ok X G (c.t.d.fact 15 (f := .free "min") rfl), He.free_ok X G (c.t.d.fact 16 (f := .free "enumerate") rfl), He.free_ok X G (c.t.d.fact 17 (f := .free "ValueError") rfl)⟩
  have GX : Gx K mg := ⟨He.int_ok X G (c.t.d.fact 18 (f := .int "PLACES" 7) rfl), He.int_ok X G (c.t.d.fact 19 (f := .int "MOST" 9) rfl), He.str_ok X G (c.t.d.fact 20 (f := .str "FIGURES" "0123456789") rfl), exF_of X G (c.t.d.fact 21 (f := .glo "PullError") rfl) (c.t.d.fact 22 (f := .exc "PullError") rfl), exF_of X G (c.t.d.fact 23 (f := .glo "InvalidWeb") rfl) (c.t.d.fact 24 (f := .exc "InvalidWeb") rfl), exF_of X G (c.t.d.fact 25 (f := .glo "InvalidSaying") rfl) (c.t.d.fact 26 (f := .exc "InvalidSaying") rfl), exF_of X G (c.t.d.fact 27 (f := .glo "InvalidPlace") rfl) (c.t.d.fact 28 (f := .exc "InvalidPlace") rfl), exF_of X G (c.t.d.fact 29 (f := .glo "InvalidScales") rfl) (c.t.d.fact 30 (f := .exc "InvalidScales") rfl), exF_of X G (c.t.d.fact 31 (f := .glo "InvalidTurn") rfl) (c.t.d.fact 32 (f := .exc "InvalidTurn") rfl), exF_of X G (c.t.d.fact 33 (f := .glo "InvalidNumber") rfl) (c.t.d.fact 34 (f := .exc "InvalidNumber") rfl), exF_of X G (c.t.d.fact 35 (f := .glo "InvalidFacts") rfl) (c.t.d.fact 36 (f := .exc "InvalidFacts") rfl), exF_of X G (c.t.d.fact 37 (f := .glo "InvalidIndex") rfl) (c.t.d.fact 38 (f := .exc "InvalidIndex") rfl), exF_of X G (c.t.d.fact 39 (f := .glo "InvalidFactors") rfl) (c.t.d.fact 40 (f := .exc "InvalidFactors") rfl), exF_of X G (c.t.d.fact 41 (f := .glo "InvalidSign") rfl) (c.t.d.fact 42 (f := .exc "InvalidSign") rfl), exF_of X G (c.t.d.fact 43 (f := .glo "InvalidText") rfl) (c.t.d.fact 44 (f := .exc "InvalidText") rfl), exF_of X G (c.t.d.fact 45 (f := .glo "Unlike") rfl) (c.t.d.fact 46 (f := .exc "Unlike") rfl), exF_of X G (c.t.d.fact 47 (f := .glo "NothingToUndo") rfl) (c.t.d.fact 48 (f := .exc "NothingToUndo") rfl)⟩
  have FD_is_whole : FdP K mg "is_whole" s_is_whole := ⟨c.t.d.def_ 0 (d := d_is_whole) rfl, He.glo_ok X G (c.t.d.fact 49 (f := .glo "is_whole") rfl)⟩
  have FD_fits_pull : FdP K mg "fits_pull" s_fits_pull := ⟨c.t.d.def_ 1 (d := d_fits_pull) rfl, He.glo_ok X G (c.t.d.fact 50 (f := .glo "fits_pull") rfl)⟩
  have FD_fits_web : FdP K mg "fits_web" s_fits_web := ⟨c.t.d.def_ 2 (d := d_fits_web) rfl, He.glo_ok X G (c.t.d.fact 51 (f := .glo "fits_web") rfl)⟩
  have FD_need_web : FdP K mg "need_web" s_need_web := ⟨c.t.d.def_ 3 (d := d_need_web) rfl, He.glo_ok X G (c.t.d.fact 52 (f := .glo "need_web") rfl)⟩
  have FD_as_text : FdP K mg "as_text" s_as_text := ⟨c.t.d.def_ 4 (d := d_as_text) rfl, He.glo_ok X G (c.t.d.fact 53 (f := .glo "as_text") rfl)⟩
  have FD_web_text : FdP K mg "web_text" s_web_text := ⟨c.t.d.def_ 5 (d := d_web_text) rfl, He.glo_ok X G (c.t.d.fact 54 (f := .glo "web_text") rfl)⟩
  have FD_is_number : FdP K mg "is_number" s_is_number := ⟨c.t.d.def_ 6 (d := d_is_number) rfl, He.glo_ok X G (c.t.d.fact 55 (f := .glo "is_number") rfl)⟩
  have FD_numbers_in : FdP K mg "numbers_in" s_numbers_in := ⟨c.t.d.def_ 7 (d := d_numbers_in) rfl, He.glo_ok X G (c.t.d.fact 56 (f := .glo "numbers_in") rfl)⟩
  have FD_web_in : FdP K mg "web_in" s_web_in := ⟨c.t.d.def_ 8 (d := d_web_in) rfl, He.glo_ok X G (c.t.d.fact 57 (f := .glo "web_in") rfl)⟩
  have FD_read_web : FdP K mg "read_web" s_read_web := ⟨c.t.d.def_ 9 (d := d_read_web) rfl, He.glo_ok X G (c.t.d.fact 58 (f := .glo "read_web") rfl)⟩
  have FD__law_cell : FdP K mg "_law_cell" s_law_cell := ⟨c.t.d.def_ 10 (d := d_law_cell) rfl, He.glo_ok X G (c.t.d.fact 59 (f := .glo "_law_cell") rfl)⟩
  have FD__law_draws : FdP K mg "_law_draws" s_law_draws := ⟨c.t.d.def_ 11 (d := d_law_draws) rfl, He.glo_ok X G (c.t.d.fact 60 (f := .glo "_law_draws") rfl)⟩
  have FD__law_bag : FdP K mg "_law_bag" s_law_bag := ⟨c.t.d.def_ 12 (d := d_law_bag) rfl, He.glo_ok X G (c.t.d.fact 61 (f := .glo "_law_bag") rfl)⟩
  have FD__law_take : FdP K mg "_law_take" s_law_take := ⟨c.t.d.def_ 13 (d := d_law_take) rfl, He.glo_ok X G (c.t.d.fact 62 (f := .glo "_law_take") rfl)⟩
  have FD__law_choice : FdP K mg "_law_choice" s_law_choice := ⟨c.t.d.def_ 14 (d := d_law_choice) rfl, He.glo_ok X G (c.t.d.fact 63 (f := .glo "_law_choice") rfl)⟩
  have FD__law_known : FdP K mg "_law_known" s_law_known := ⟨c.t.d.def_ 15 (d := d_law_known) rfl, He.glo_ok X G (c.t.d.fact 64 (f := .glo "_law_known") rfl)⟩
  have FD__law_leans : FdP K mg "_law_leans" s_law_leans := ⟨c.t.d.def_ 16 (d := d_law_leans) rfl, He.glo_ok X G (c.t.d.fact 65 (f := .glo "_law_leans") rfl)⟩
  have FD__law_web : FdP K mg "_law_web" s_law_web := ⟨c.t.d.def_ 17 (d := d_law_web) rfl, He.glo_ok X G (c.t.d.fact 66 (f := .glo "_law_web") rfl)⟩
  have FD__law_even : FdP K mg "_law_even" s_law_even := ⟨c.t.d.def_ 18 (d := d_law_even) rfl, He.glo_ok X G (c.t.d.fact 67 (f := .glo "_law_even") rfl)⟩
  have FD__law_some_web : FdP K mg "_law_some_web" s_law_some_web := ⟨c.t.d.def_ 19 (d := d_law_some_web) rfl, He.glo_ok X G (c.t.d.fact 68 (f := .glo "_law_some_web") rfl)⟩
  have FD__law_whole : FdP K mg "_law_whole" s_law_whole := ⟨c.t.d.def_ 20 (d := d_law_whole) rfl, He.glo_ok X G (c.t.d.fact 69 (f := .glo "_law_whole") rfl)⟩
  have FD__law_is_pull : FdP K mg "_law_is_pull" s_law_is_pull := ⟨c.t.d.def_ 21 (d := d_law_is_pull) rfl, He.glo_ok X G (c.t.d.fact 70 (f := .glo "_law_is_pull") rfl)⟩
  have FD__law_is_web : FdP K mg "_law_is_web" s_law_is_web := ⟨c.t.d.def_ 22 (d := d_law_is_web) rfl, He.glo_ok X G (c.t.d.fact 71 (f := .glo "_law_is_web") rfl)⟩
  have FD__law_named_error : FdP K mg "_law_named_error" s_law_named_error := ⟨c.t.d.def_ 23 (d := d_law_named_error) rfl, He.glo_ok X G (c.t.d.fact 72 (f := .glo "_law_named_error") rfl)⟩
  have FD__law_error : FdP K mg "_law_error" s_law_error := ⟨c.t.d.def_ 24 (d := d_law_error) rfl, He.glo_ok X G (c.t.d.fact 73 (f := .glo "_law_error") rfl)⟩
  have FD__law_told : FdP K mg "_law_told" s_law_told := ⟨c.t.d.def_ 25 (d := d_law_told) rfl, He.glo_ok X G (c.t.d.fact 74 (f := .glo "_law_told") rfl)⟩
  have FD__law_all_refused : FdP K mg "_law_all_refused" s_law_all_refused := ⟨c.t.d.def_ 26 (d := d_law_all_refused) rfl, He.glo_ok X G (c.t.d.fact 75 (f := .glo "_law_all_refused") rfl)⟩
  have FD__law_bad_webs : FdP K mg "_law_bad_webs" s_law_bad_webs := ⟨c.t.d.def_ 27 (d := d_law_bad_webs) rfl, He.glo_ok X G (c.t.d.fact 76 (f := .glo "_law_bad_webs") rfl)⟩
  have FD__law_text : FdP K mg "_law_text" s_law_text := ⟨c.t.d.def_ 28 (d := d_law_text) rfl, He.glo_ok X G (c.t.d.fact 77 (f := .glo "_law_text") rfl)⟩
  have FD__law_numbers : FdP K mg "_law_numbers" s_law_numbers := ⟨c.t.d.def_ 29 (d := d_law_numbers) rfl, He.glo_ok X G (c.t.d.fact 78 (f := .glo "_law_numbers") rfl)⟩
  have FD__law_read : FdP K mg "_law_read" s_law_read := ⟨c.t.d.def_ 30 (d := d_law_read) rfl, He.glo_ok X G (c.t.d.fact 79 (f := .glo "_law_read") rfl)⟩
  have FD__law_bent : FdP K mg "_law_bent" s_law_bent := ⟨c.t.d.def_ 31 (d := d_law_bent) rfl, He.glo_ok X G (c.t.d.fact 80 (f := .glo "_law_bent") rfl)⟩
  have FD_law : FdP K mg "law" s_law := ⟨c.t.d.def_ 32 (d := d_law) rfl, He.glo_ok X G (c.t.d.fact 81 (f := .glo "law") rfl)⟩
  refine ⟨fd, tf.map (He.cT K), spD K (tabsT K tf) F_law, fun p hp => ?_, fun p hp => ?_, fun p hp => ?_, fun s v => b s [v] rfl, fun H a ns hl _ hH hS => law_start hl (fun p hp => hH _ (List.mem_map.mpr ⟨p, hp, rfl⟩)) hS, fun base hb hns hT => ?_⟩
  · obtain ⟨q, hq, rfl⟩ := List.mem_map.mp hp; exact c.empty q hq
  · obtain ⟨q, hq, rfl⟩ := List.mem_map.mp hp; exact c.out q hq
  · obtain ⟨q, hq, rfl⟩ := List.mem_map.mp hp; exact PySem.W.codeHd_of_K X (c.hd q hq)
  have tb : ∀ p ∈ tf, LamX.TabB base mg (He.cT K p).1 (He.cT K p).2 := fun p hp => hT _ (List.mem_map.mpr ⟨p, hp, rfl⟩)
  have LT__law_all_refused : LamTab K mg base (tabsT K tf) "_law_all_refused" := lamTab_of FD__law_all_refused (by simp [tf]) ap tb
  have LT_law : LamTab K mg base (tabsT K tf) "law" := lamTab_of FD_law (by simp [tf]) ap tb
  have LX : Lx K mg base (tabsT K tf) := ⟨B, GX, He.glo_ok X G (c.t.d.fact 82 (f := .glo "TooMany") rfl), He.glo_ok X G (c.t.d.fact 21 (f := .glo "PullError") rfl), FD__law_named_error, FD__law_error, FD__law_all_refused, LT__law_all_refused, lb⟩
  have D__law_told := FD__law_told
  have D_is_whole := ok_is_whole (P := (PySem.Challenge.rw_scaledpulls_k08_texts_of_webs).prog) (w := w) (base := base) (T := tabsT K tf) B GX FD_is_whole
  have D_fits_pull := ok_fits_pull (P := (PySem.Challenge.rw_scaledpulls_k08_texts_of_webs).prog) (w := w) (base := base) (T := tabsT K tf) B GX D_is_whole FD_fits_pull
  have D_fits_web := ok_fits_web (P := (PySem.Challenge.rw_scaledpulls_k08_texts_of_webs).prog) (w := w) (base := base) (T := tabsT K tf) B GX D_is_whole D_fits_pull FD_fits_web
  have D_need_web := ok_need_web (P := (PySem.Challenge.rw_scaledpulls_k08_texts_of_webs).prog) (w := w) (base := base) (T := tabsT K tf) B GX D_fits_web FD_need_web
  have D__law_cell := ok_law_cell (P := (PySem.Challenge.rw_scaledpulls_k08_texts_of_webs).prog) (w := w) (base := base) (T := tabsT K tf) B GX FD__law_cell
  have D__law_draws := ok_law_draws (P := (PySem.Challenge.rw_scaledpulls_k08_texts_of_webs).prog) (w := w) (base := base) (T := tabsT K tf) B GX D__law_cell FD__law_draws
  have D__law_bag := ok_law_bag (P := (PySem.Challenge.rw_scaledpulls_k08_texts_of_webs).prog) (w := w) (base := base) (T := tabsT K tf) B GX D__law_draws FD__law_bag
  have D__law_take := ok_law_take (P := (PySem.Challenge.rw_scaledpulls_k08_texts_of_webs).prog) (w := w) (base := base) (T := tabsT K tf) B GX FD__law_take
  have D__law_choice := ok_law_choice (P := (PySem.Challenge.rw_scaledpulls_k08_texts_of_webs).prog) (w := w) (base := base) (T := tabsT K tf) B GX D__law_take FD__law_choice
  have D__law_leans := ok_law_leans (P := (PySem.Challenge.rw_scaledpulls_k08_texts_of_webs).prog) (w := w) (base := base) (T := tabsT K tf) B GX D__law_choice FD__law_leans
  have D__law_web := ok_law_web (P := (PySem.Challenge.rw_scaledpulls_k08_texts_of_webs).prog) (w := w) (base := base) (T := tabsT K tf) B GX D__law_take D__law_choice D__law_leans FD__law_web
  have D__law_even := ok_law_even (P := (PySem.Challenge.rw_scaledpulls_k08_texts_of_webs).prog) (w := w) (base := base) (T := tabsT K tf) B GX D__law_take D__law_choice D__law_leans FD__law_even
  have D__law_some_web := ok_law_some_web (P := (PySem.Challenge.rw_scaledpulls_k08_texts_of_webs).prog) (w := w) (base := base) (T := tabsT K tf) B GX D__law_take D__law_even D__law_web FD__law_some_web
  have D__law_bad_webs := ok_law_bad_webs (P := (PySem.Challenge.rw_scaledpulls_k08_texts_of_webs).prog) (w := w) (base := base) (T := tabsT K tf) B GX FD__law_bad_webs
  have D__law_known := ok_law_known (P := (PySem.Challenge.rw_scaledpulls_k08_texts_of_webs).prog) (w := w) (base := base) (T := tabsT K tf) B GX FD__law_known
  have D__law_whole := ok_law_whole (P := (PySem.Challenge.rw_scaledpulls_k08_texts_of_webs).prog) (w := w) (base := base) (T := tabsT K tf) B GX FD__law_whole
  have D__law_is_pull := ok_law_is_pull (P := (PySem.Challenge.rw_scaledpulls_k08_texts_of_webs).prog) (w := w) (base := base) (T := tabsT K tf) B GX D__law_whole FD__law_is_pull
  have D__law_is_web := ok_law_is_web (P := (PySem.Challenge.rw_scaledpulls_k08_texts_of_webs).prog) (w := w) (base := base) (T := tabsT K tf) B GX D__law_whole D__law_is_pull FD__law_is_web
  have D_as_text := ok_as_text (P := (PySem.Challenge.rw_scaledpulls_k08_texts_of_webs).prog) (w := w) (base := base) (T := tabsT K tf) B GX FD_as_text
  have D_web_text := ok_web_text (P := (PySem.Challenge.rw_scaledpulls_k08_texts_of_webs).prog) (w := w) (base := base) (T := tabsT K tf) B GX D_need_web D_as_text FD_web_text
  have D_is_number := ok_is_number (P := (PySem.Challenge.rw_scaledpulls_k08_texts_of_webs).prog) (w := w) (base := base) (T := tabsT K tf) B GX FD_is_number
  have D_numbers_in := ok_numbers_in (P := (PySem.Challenge.rw_scaledpulls_k08_texts_of_webs).prog) (w := w) (base := base) (T := tabsT K tf) B GX D_is_number FD_numbers_in
  have D__law_text := ok_law_text (P := (PySem.Challenge.rw_scaledpulls_k08_texts_of_webs).prog) (w := w) (base := base) (T := tabsT K tf) B GX FD__law_text
  have D__law_numbers := ok_law_numbers (P := (PySem.Challenge.rw_scaledpulls_k08_texts_of_webs).prog) (w := w) (base := base) (T := tabsT K tf) B GX FD__law_numbers
  have D__law_read := ok_law_read (P := (PySem.Challenge.rw_scaledpulls_k08_texts_of_webs).prog) (w := w) (base := base) (T := tabsT K tf) B GX D__law_numbers D__law_is_web FD__law_read
  have D_web_in := ok_web_in (P := (PySem.Challenge.rw_scaledpulls_k08_texts_of_webs).prog) (w := w) (base := base) (T := tabsT K tf) B GX D_numbers_in D_fits_web D_as_text FD_web_in
  have D_read_web := ok_read_web (P := (PySem.Challenge.rw_scaledpulls_k08_texts_of_webs).prog) (w := w) (base := base) (T := tabsT K tf) B GX D_web_in FD_read_web
  have D__law_bent := ok_law_bent (P := (PySem.Challenge.rw_scaledpulls_k08_texts_of_webs).prog) (w := w) (base := base) (T := tabsT K tf) B GX D__law_take D__law_choice FD__law_bent
  exact fn_law B GX D__law_bag D__law_some_web D__law_text D_web_text D_read_web D__law_bent D__law_read D__law_told D__law_bad_webs D__law_known FD_read_web.2 FD_web_text.2 LX LT_law FD
end Law
open PySem PySem.W PySem.Calls PyProof.Rows
theorem PySem.Challenge.cw_scaledpulls_k08_texts_of_webs_holds : PySem.Challenge.rw_scaledpulls_k08_texts_of_webs.Holds := by
  w_on; o_law
  refine HandSHeadRun.head_any (r := OpenLaw.row PySem.Challenge.rw_scaledpulls_k08_texts_of_webs) (q := view (OpenLaw.row PySem.Challenge.rw_scaledpulls_k08_texts_of_webs).prog [54]) (H := Law.hk) (ob := Law.ob) (M := 20000) (loose := Law.names) (d := HandSHeadRun.topDef (OpenLaw.row PySem.Challenge.rw_scaledpulls_k08_texts_of_webs).prog 54) (kwd := []) Law.ob_eq
    (by kernel_rfl) (fun s => by kernel_rfl) Law.run (by kernel_rfl) (by kernel_rfl) (by kernel_rfl) (by rfl) (by first | assumption | decide +kernel) (by decide +kernel) ⟨rfl, rfl, rfl, rfl, rfl, by decide +kernel⟩ ?hw ?hc
  case hw => w_witness2
  case hc =>
    refine LamX.walk_ofTsE (l := PySem.Challenge.rw_scaledpulls_k08_texts_of_webs) (n := 63) (k := 10) (x := "script") (CX := fun w => L2N.CX (PySem.Challenge.rw_scaledpulls_k08_texts_of_webs).prog w) rfl (by decide) (by kernel_rfl) ⟨rfl, by decide, by decide⟩ ?F (fun w H s e s' z => Law.no_out H s e s' z)
    intro w mg fa h Y G hmg0
    obtain ⟨K, KX, c⟩ := Y
    have hmg : mg ("law" : PySem.Str) = some (.ref fa) := by
      have e : (HandSHeadRun.topDef (OpenLaw.row PySem.Challenge.rw_scaledpulls_k08_texts_of_webs).prog 54).name = ("law" : PySem.Str) := by kernel_rfl
      rw [← e]
      exact hmg0
    exact ⟨K, KX, Law.facts KX G hmg c⟩
