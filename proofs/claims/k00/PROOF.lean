import PyProof.Rows.All
import HandS.ForMost
import HandS.ExcInit
import HandS.ExcField
import HandS.TryMany
import HandS.Wide
import HandS.Lambda
import HandS.EndTab
import HandS.CallSlots
import HandS.TupAny
import HandS.Style
import HandS.TupMul
import HandS.Conv
import HandS.TupLe
import HandS.IsInst
import HandS.Deep
import HandS.Walk
import HandS.Zip
import HandS.ClsMeth
import HandS.WordsExc
import HandS.HeadWalk
import HandS.HeadHook1
import HandS.HeadHook2
import HandS.HeadHook3
import HandS.HeadHook4
import HandS.Head0
import HandS.Head1
import HandS.Head2
import HandS.NestedK
import HandS.Defaults
import HandS.ExcIs
import HandS.More
import PySem.Challenge.RW_flowpapers_k00_errors
import Wide.All
import OpenK.AllK
import Wide.FinOn
import KE.KStateDown
import Lean
import HandS.HeadEnd
set_option Elab.async false
set_option linter.all false
set_option maxRecDepth 100000
set_option maxHeartbeats 4000000
/-! DA: deep values, how a heap bears them, the shallow monad, judgements -/
namespace DX
open PySem PySem.Spec PyProof.Rows L2
/-- the tables of code objects of the defs that make lambdas, with their names -/
class Tb where
  T : List (Addr × Str)
variable [Tb]

/-- a value as a tree -/
inductive D where
  | non | bl (b : Bool) | int (i : Int) | str (x : Str)
  | tup (xs : List D) | lst (xs : List D) | scr (xs : List D)
  | dic (kvs : List (Key × D)) | dit (kvs : List (List Key × D))
  | ins (c : Str) (fs : List (Str × D)) | exn (c : Str) (fs : List (Str × D))
  | glb (x : Str) | ty (n : String) | hnd (k : Nat)
  | lam (f c : Nat) (q : Str) (vs : List V) (ds : List D)
  deriving Inhabited

/-- a tuple: tracked, or an object of the module -/
def TupAt (K : PySem.W.Frag) (G : Hp) (a : Addr) (xs : List V) : Prop := G a = some (.tup xs) ∨
  ∃ (o : Obj) (its : Array Value) (n : Nat), K.lookup a = some o ∧ o.cls = .type "tuple" ∧ o.data = .seq its n ∧ its.size ≤ sizeLine ∧ Vals xs its.toList
theorem TupAt.sq {K : PySem.W.Frag} {G : Hp} {a : Addr} {xs : List V} (h : TupAt K G a xs) : SqT K G a xs := h.elim (fun h => .inl (.inl h)) .inr
/-- an exception that is held: at a, of the class at C, its dict at d -/
def exoS (a C : Addr) (d : Option Addr) : HO := .ext fun h => ∃ (oe : Obj) (vs : Array Value), h.get? a = some oe ∧ oe.cls = .ref C ∧ oe.dict = d ∧ oe.data = .fields vs
section
variable (K : PySem.W.Frag) (mg : Str → Option Value) (R : List Addr) (G : Hp)
mutual
/-- in G (an abstract heap), v bears d; R: the addresses of the handles -/
inductive Is : V → D → Prop
  | non : Is .non .non
  | bl (b : Bool) : Is (.bl b) (.bl b)
  | int (i : Int) : Is (.int i) (.int i)
  | str (x : Str) : Is (.str x) (.str x)
  | tup {a : Addr} {xs : List V} {ds : List D} : TupAt K G a xs → IsAll xs ds → Is (.ref a) (.tup ds)
  | lst {a : Addr} {xs : List V} {ds : List D} : G a = some (.lst xs) → IsAll xs ds → Is (.ref a) (.lst ds)
  | scr {a : Addr} {xs : List V} {ds : List D} : SqL K G a xs → IsAll xs ds → Is (.ref a) (.scr ds)
  | dic {a : Addr} {kvs : List (Key × V)} {ds : List (Key × D)} : G a = some (.dK kvs) → kvs.map (·.1) = ds.map (·.1) → IsAll (kvs.map (·.2)) (ds.map (·.2)) → Is (.ref a) (.dic ds)
  | dit {a : Addr} {kvs : List (List Key × V)} {ds : List (List Key × D)} : G a = some (.dT kvs) → kvs.map (·.1) = ds.map (·.1) → IsAll (kvs.map (·.2)) (ds.map (·.2)) → Is (.ref a) (.dit ds)
  | ins {a C dx : Addr} {c : Str} {fs : List (Str × V)} {ds : List (Str × D)} : mg c = some (.ref C) → G a = some (.ins C dx fs) → fs.map (·.1) = ds.map (·.1) → IsAll (fs.map (·.2)) (ds.map (·.2)) → Is (.ref a) (.ins c ds)
  | exn {a C : Addr} {d : Option Addr} {c : Str} {fs : List (Str × V)} {ds : List (Str × D)} : mg c = some (.ref C) → G a = some (exoS a C d) → (ds ≠ [] → ∃ b, d = some b ∧ G b = some (.xd fs)) → fs.map (·.1) = ds.map (·.1) → IsAll (fs.map (·.2)) (ds.map (·.2)) → Is (.ref a) (.exn c ds)
  | ex0 {a C : Addr} {c : Str} : mg c = some (.ref C) → G a = some (exoS a C none) → Is (.ref a) (.exn c [("", .non)])
  | glb {a : Addr} {x : Str} : mg x = some (.ref a) → Is (.ref a) (.glb x)
  | ty (n : String) : Is (.ty n) (.ty n)
  | hnd {a : Addr} {k : Nat} : R[k]? = some a → Is (.ref a) (.hnd k)
  | lam {f c : Addr} {q : Str} {vs : List V} {ds : List D} : G c = some (LamX.CodeO c q) → IsAll vs ds → Is (.ref f) (.lam f c q vs ds)
inductive IsAll : List V → List D → Prop
  | nil : IsAll [] []
  | cons {v : V} {vs : List V} {d : D} {ds : List D} : Is v d → IsAll vs ds → IsAll (v :: vs) (d :: ds)
end
end

mutual
/-- no list, no dict within -/
def D.flat : D → Bool
  | .tup xs => flatAll xs
  | .ins _ fs => flatFs fs
  | .exn _ fs => flatFs fs
  | .lam _ _ _ _ ds => flatAll ds
  | .lst _ | .scr _ | .dic _ | .dit _ => false
  | _ => true
def D.flatAll : List D → Bool
  | [] => true
  | d :: ds => d.flat && flatAll ds
def D.flatFs : List (Str × D) → Bool
  | [] => true
  | (_, d) :: ds => d.flat && flatFs ds
end
theorem flatFs_all : ∀ fs : List (Str × D), D.flatFs fs = D.flatAll (fs.map (·.2))
  | [] => by simp [D.flatFs, D.flatAll]
  | (_, d) :: r => by simp [D.flatFs, D.flatAll, flatFs_all r]

/-- a list or a dict -/
def cont : HO → Bool
  | .lst _ | .dK _ | .dT _ => true
  | _ => false
def tbl? : HO → Bool
  | .tbl _ => true
  | _ => false
def Sub (G H : Hp) : Prop := ∀ b o, G b = some o → H b = some o
theorem Sub.refl (G : Hp) : Sub G G := fun _ _ h => h
theorem Sub.trans {A B C : Hp} (h : Sub A B) (k : Sub B C) : Sub A C := fun b o e => k b o (h b o e)

section
variable {K : PySem.W.Frag} {mg : Str → Option Value} {R R' : List Addr} {G G' : Hp}
theorem TupAt.sub {a : Addr} {xs : List V} (h : TupAt K G a xs) (s : Sub G G') : TupAt K G' a xs := h.elim (fun h => .inl (s _ _ h)) .inr
theorem SqT.sub {a : Addr} {xs : List V} (h : TupAt K G a xs) (s : Sub G G') : SqT K G' a xs := (h.sub s).sq
theorem SqL.sub {a : Addr} {xs : List V} (h : SqL K G a xs) (s : Sub G G') : SqL K G' a xs := by
  rcases h with (h | ⟨o, h⟩) | h
  · exact .inl (.inl (s _ _ h))
  · exact .inl (.inr ⟨o, s _ _ h⟩)
  · exact .inr h
mutual
theorem Is.mono (s : Sub G G') (r : ∀ (k : Nat) (a : Addr), R[k]? = some a → R'[k]? = some a) : ∀ {v : V} {d : D}, Is K mg R G v d → Is K mg R' G' v d
  | _, _, .non => .non
  | _, _, .bl b => .bl b
  | _, _, .int i => .int i
  | _, _, .str x => .str x
  | _, _, .tup h k => .tup (h.sub s) (IsAll.mono s r k)
  | _, _, .lst h k => .lst (s _ _ h) (IsAll.mono s r k)
  | _, _, .scr h k => .scr (SqL.sub h s) (IsAll.mono s r k)
  | _, _, .dic h e k => .dic (s _ _ h) e (IsAll.mono s r k)
  | _, _, .dit h e k => .dit (s _ _ h) e (IsAll.mono s r k)
  | _, _, .ins m h e k => .ins m (s _ _ h) e (IsAll.mono s r k)
  | _, _, .exn m h u e k => .exn m (s _ _ h) (fun z => let ⟨b, e1, e2⟩ := u z; ⟨b, e1, s _ _ e2⟩) e (IsAll.mono s r k)
  | _, _, .ex0 m h => .ex0 m (s _ _ h)
  | _, _, .glb h => .glb h
  | _, _, .ty n => .ty n
  | _, _, .hnd h => .hnd (r _ _ h)
  | _, _, .lam h k => .lam (s _ _ h) (IsAll.mono s r k)
theorem IsAll.mono (s : Sub G G') (r : ∀ (k : Nat) (a : Addr), R[k]? = some a → R'[k]? = some a) : ∀ {vs : List V} {ds : List D}, IsAll K mg R G vs ds → IsAll K mg R' G' vs ds
  | _, _, .nil => .nil
  | _, _, .cons h k => .cons (Is.mono s r h) (IsAll.mono s r k)
end
/-- what holds no list and no dict stands without them -/
theorem tup_flat (s : ∀ b o, G b = some o → cont o = false → G' b = some o) {a : Addr} {xs : List V} (h : TupAt K G a xs) : TupAt K G' a xs := h.elim (fun h => .inl (s _ _ h rfl)) .inr
mutual
theorem Is.flat (s : ∀ b o, G b = some o → cont o = false → G' b = some o) : ∀ {v : V} {d : D}, Is K mg R G v d → d.flat = true → Is K mg R G' v d
  | _, _, .non, _ => .non
  | _, _, .bl b, _ => .bl b
  | _, _, .int i, _ => .int i
  | _, _, .str x, _ => .str x
  | _, _, .tup h k, f => .tup (tup_flat s h) (IsAll.flat s k (by simpa [D.flat] using f))
  | _, _, .lst _ _, f => by simp [D.flat] at f
  | _, _, .scr _ _, f => by simp [D.flat] at f
  | _, _, .dic _ _ _, f => by simp [D.flat] at f
  | _, _, .dit _ _ _, f => by simp [D.flat] at f
  | _, _, .ins m h e k, f => .ins m (s _ _ h rfl) e (IsAll.flat s k (by rw [← flatFs_all]; simpa [D.flat] using f))
  | _, _, .exn m h u e k, f => .exn m (s _ _ h rfl) (fun z => let ⟨b, e1, e2⟩ := u z; ⟨b, e1, s _ _ e2 rfl⟩) e (IsAll.flat s k (by rw [← flatFs_all]; simpa [D.flat] using f))
  | _, _, .ex0 m h, _ => .ex0 m (s _ _ h rfl)
  | _, _, .glb h, _ => .glb h
  | _, _, .ty n, _ => .ty n
  | _, _, .hnd h, _ => .hnd h
  | _, _, .lam h k, f => .lam (s _ _ h rfl) (IsAll.flat s k (by simpa [D.flat] using f))
theorem IsAll.flat (s : ∀ b o, G b = some o → cont o = false → G' b = some o) : ∀ {vs : List V} {ds : List D}, IsAll K mg R G vs ds → D.flatAll ds = true → IsAll K mg R G' vs ds
  | _, _, .nil, _ => .nil
  | _, _, .cons h k, f => by
    simp only [D.flatAll, Bool.and_eq_true] at f
    exact .cons (Is.flat s h f.1) (IsAll.flat s k f.2)
end
theorem IsAll.length : ∀ {vs : List V} {ds : List D}, IsAll K mg R G vs ds → vs.length = ds.length
  | _, _, .nil => rfl
  | _, _, .cons _ k => by simp [IsAll.length k]
theorem IsAll.append : ∀ {vs ws : List V} {ds es : List D}, IsAll K mg R G vs ds → IsAll K mg R G ws es → IsAll K mg R G (vs ++ ws) (ds ++ es)
  | _, _, _, _, .nil, k => k
  | _, _, _, _, .cons h t, k => .cons h (IsAll.append t k)
theorem IsAll.get : ∀ {vs : List V} {ds : List D} {i : Nat} {d : D}, IsAll K mg R G vs ds → ds[i]? = some d → ∃ v, vs[i]? = some v ∧ Is K mg R G v d
  | _, _, _, _, .nil, e => by simp at e
  | _, _, 0, _, .cons h _, e => by simp at e; subst e; exact ⟨_, rfl, h⟩
  | _, _, i + 1, _, .cons _ t, e => by
    obtain ⟨v, q, r⟩ := IsAll.get (i := i) t (by simpa using e)
    exact ⟨v, by simpa using q, r⟩
theorem IsAll.getV : ∀ {vs : List V} {ds : List D} {i : Nat} {v : V}, IsAll K mg R G vs ds → vs[i]? = some v → ∃ d, ds[i]? = some d ∧ Is K mg R G v d
  | _, _, _, _, .nil, e => by simp at e
  | _, _, 0, _, .cons h _, e => by simp at e; subst e; exact ⟨_, rfl, h⟩
  | _, _, i + 1, _, .cons _ t, e => by
    obtain ⟨d, q, r⟩ := IsAll.getV (i := i) t (by simpa using e)
    exact ⟨d, by simpa using q, r⟩
theorem IsAll.set {v : V} {d : D} (h : Is K mg R G v d) : ∀ {vs : List V} {ds : List D} (i : Nat), IsAll K mg R G vs ds → IsAll K mg R G (vs.set i v) (ds.set i d)
  | _, _, _, .nil => .nil
  | _, _, 0, .cons _ t => .cons h t
  | _, _, i + 1, .cons q t => .cons q (IsAll.set h i t)
theorem IsAll.take : ∀ {vs : List V} {ds : List D} (n : Nat), IsAll K mg R G vs ds → IsAll K mg R G (vs.take n) (ds.take n)
  | _, _, 0, _ => .nil
  | _, _, _ + 1, .nil => .nil
  | _, _, n + 1, .cons h t => .cons h (IsAll.take n t)
theorem IsAll.drop : ∀ {vs : List V} {ds : List D} (n : Nat), IsAll K mg R G vs ds → IsAll K mg R G (vs.drop n) (ds.drop n)
  | _, _, 0, h => h
  | _, _, _ + 1, .nil => .nil
  | _, _, n + 1, .cons _ t => IsAll.drop n t
theorem IsAll.reverse : ∀ {vs : List V} {ds : List D}, IsAll K mg R G vs ds → IsAll K mg R G vs.reverse ds.reverse
  | _, _, .nil => .nil
  | _, _, .cons h t => by simp only [List.reverse_cons]; exact IsAll.append (IsAll.reverse t) (.cons h .nil)
end

/-! ### what may change: objects under handles -/
inductive Mob where
  | dic (kvs : List (Key × D)) | dit (kvs : List (List Key × D)) | ins (c : Str) (fs : List (Str × D)) | lst (xs : List D)
  deriving Inhabited
/-- an object that is written: at a in H, its items bear in G -/
def ObIs (K : PySem.W.Frag) (mg : Str → Option Value) (R : List Addr) (G H : Hp) (a : Addr) : Mob → Prop
  | .dic ds => ∃ kvs, H a = some (.dK kvs) ∧ kvs.map (·.1) = ds.map (·.1) ∧ IsAll K mg R G (kvs.map (·.2)) (ds.map (·.2))
  | .dit ds => ∃ kvs, H a = some (.dT kvs) ∧ kvs.map (·.1) = ds.map (·.1) ∧ IsAll K mg R G (kvs.map (·.2)) (ds.map (·.2))
  | .ins c ds => ∃ C dx fs, mg c = some (.ref C) ∧ H a = some (.ins C dx fs) ∧ fs.map (·.1) = ds.map (·.1) ∧ IsAll K mg R G (fs.map (·.2)) (ds.map (·.2))
  | .lst ds => ∃ xs, H a = some (.lst xs) ∧ IsAll K mg R G xs ds
theorem ObIs.mono {K : PySem.W.Frag} {mg : Str → Option Value} {R R' : List Addr} {G G' H H' : Hp} {a : Addr} {m : Mob} (h : ObIs K mg R G H a m) (s : Sub G G') (r : ∀ (k : Nat) (a : Addr), R[k]? = some a → R'[k]? = some a)
    (e : H' a = H a) : ObIs K mg R' G' H' a m := by
  cases m with
  | dic ds => obtain ⟨k, h1, h2, h3⟩ := h; exact ⟨k, e.trans h1, h2, h3.mono s r⟩
  | dit ds => obtain ⟨k, h1, h2, h3⟩ := h; exact ⟨k, e.trans h1, h2, h3.mono s r⟩
  | ins c ds => obtain ⟨C, dx, k, h0, h1, h2, h3⟩ := h; exact ⟨C, dx, k, h0, e.trans h1, h2, h3.mono s r⟩
  | lst ds => obtain ⟨k, h1, h3⟩ := h; exact ⟨k, e.trans h1, h3.mono s r⟩
theorem ObIs.there {K : PySem.W.Frag} {mg : Str → Option Value} {R : List Addr} {G H : Hp} {a : Addr} {m : Mob} (h : ObIs K mg R G H a m) : ∃ o, H a = some o ∧ tbl? o = false := by
  cases m with
  | dic ds => obtain ⟨k, h1, _⟩ := h; exact ⟨_, h1, rfl⟩
  | dit ds => obtain ⟨k, h1, _⟩ := h; exact ⟨_, h1, rfl⟩
  | ins c ds => obtain ⟨C, dx, k, _, h1, _⟩ := h; exact ⟨_, h1, rfl⟩
  | lst ds => obtain ⟨k, h1, _⟩ := h; exact ⟨_, h1, rfl⟩

theorem tabs_keep {T : List (Addr × Str)} {H H' : Hp} {p : Addr} (t : LamX.Tabs T H) (k : ∀ b o, b ≠ p → H b = some o → H' b = some o) (hp : ∀ o, H p = some o → (∀ ps, o ≠ .tbl ps) ∧ ∀ c q, o ≠ LamX.CodeO c q) : LamX.Tabs T H' := fun x hx => by
  obtain ⟨ps, h1, h2, h3⟩ := t x hx
  refine ⟨ps, k _ _ (fun z => (hp (.tbl ps) (by rw [← z]; exact h1)).1 ps rfl) h1, h2, fun pos cv hc => ?_⟩
  obtain ⟨c, e1, e2⟩ := h3 pos cv hc
  exact ⟨c, e1, k _ _ (fun z => (hp (LamX.CodeO c x.2) (by rw [← z]; exact e2)).2 c x.2 rfl) e2⟩
theorem codeO_ne {o : HO} {c : Addr} {q : Str} (h : (match o with | .ext _ => false | _ => true) = true) : o ≠ LamX.CodeO c q := fun z => by
  subst z
  unfold LamX.CodeO at h
  cases h
theorem ObIs.notX {K : PySem.W.Frag} {mg : Str → Option Value} {R : List Addr} {G H : Hp} {a : Addr} {m : Mob} (h : ObIs K mg R G H a m) : ∀ o, H a = some o → (∀ ps, o ≠ .tbl ps) ∧ ∀ c q, o ≠ LamX.CodeO c q := fun o e => by
  cases m with
  | dic ds => obtain ⟨k, h1, _⟩ := h; cases h1.symm.trans e; exact ⟨fun ps => nofun, fun c q => codeO_ne rfl⟩
  | dit ds => obtain ⟨k, h1, _⟩ := h; cases h1.symm.trans e; exact ⟨fun ps => nofun, fun c q => codeO_ne rfl⟩
  | ins c ds => obtain ⟨C, dx, k, _, h1, _⟩ := h; cases h1.symm.trans e; exact ⟨fun ps => nofun, fun c q => codeO_ne rfl⟩
  | lst ds => obtain ⟨k, h1, _⟩ := h; cases h1.symm.trans e; exact ⟨fun ps => nofun, fun c q => codeO_ne rfl⟩
structure MuIs (K : PySem.W.Frag) (mg : Str → Option Value) (R : List Addr) (G H : Hp) (μ : List Mob) : Prop where
  len : R.length = μ.length
  nd : R.Nodup
  at_ : ∀ (i : Nat) (a : Addr) (m : Mob), R[i]? = some a → μ[i]? = some m → ObIs K mg R G H a m

/-! ### results -/
inductive Res (α : Type) where
  | ok (a : α) (μ : List Mob) | exc (c : Str) (fs : List (Str × D)) (μ : List Mob) | stuck
abbrev M (α : Type) := List Mob → Res α
def M.pure {α : Type} (a : α) : M α := fun μ => .ok a μ
def M.bind {α β : Type} (m : M α) (f : α → M β) : M β := fun μ => match m μ with
  | .ok a μ' => f a μ'
  | .exc c fs μ' => .exc c fs μ'
  | .stuck => .stuck
instance : Monad M where
  pure := M.pure
  bind := M.bind
def stuck {α : Type} : M α := fun _ => .stuck

/-- a code object -/
def isC (o : HO) : Prop := ∃ c q, o = LamX.CodeO c q
/-- an object that is neither a table nor a code object -/
def Hard (H : Hp) (a : Addr) : Prop := ∃ o, H a = some o ∧ tbl? o = false ∧ ¬ isC o
theorem ObIs.hard {K : PySem.W.Frag} {mg : Str → Option Value} {R : List Addr} {G H : Hp} {a : Addr} {m : Mob} (h : ObIs K mg R G H a m) : Hard H a := by
  obtain ⟨o, h1, h2⟩ := h.there
  exact ⟨o, h1, h2, fun ⟨c, q, z⟩ => (h.notX o h1).2 c q z⟩
/-- from (R, G, H) to (R', G', H'): what stood stands -/
structure Ext (R : List Addr) (G H : Hp) (R' : List Addr) (G' H' : Hp) : Prop where
  r : ∃ t, R' = R ++ t
  g : Sub G G'
  s : Sub G' H'
  cl : ∀ b o, G' b = some o → tbl? o = false ∧ b ∉ R'
  k : ∀ b o, H b = some o → tbl? o = false → b ∉ R → H' b = some o
  th : ∀ b, H b ≠ none → H' b ≠ none
  n : ∀ b, G' b ≠ none → G b ≠ none ∨ H b = none ∨ ∃ o, G' b = some o ∧ isC o
  nr : ∀ a ∈ R', a ∈ R ∨ H a = none
  t : LamX.Tabs Tb.T H → LamX.Tabs Tb.T H'
theorem Ext.idx {R : List Addr} {G H : Hp} {R' : List Addr} {G' H' : Hp} (e : Ext R G H R' G' H') : ∀ (k : Nat) (a : Addr), R[k]? = some a → R'[k]? = some a := fun k a h => by
  obtain ⟨t, rfl⟩ := e.r
  obtain ⟨hl, _⟩ := List.getElem?_eq_some_iff.mp h
  rw [List.getElem?_append_left hl]
  exact h
theorem Ext.refl {R : List Addr} {G H : Hp} (s : Sub G H) (cl : ∀ b o, G b = some o → tbl? o = false ∧ b ∉ R) : Ext R G H R G H :=
  ⟨⟨[], by simp⟩, .refl _, s, cl, fun _ _ h _ _ => h, fun _ h => h, fun _ h => .inl h, fun _ h => .inl h, fun h => h⟩
theorem Ext.trans {R R1 R2 : List Addr} {G H G1 H1 G2 H2 : Hp} (a : Ext R G H R1 G1 H1) (b : Ext R1 G1 H1 R2 G2 H2) : Ext R G H R2 G2 H2 where
  r := by
    obtain ⟨t, rfl⟩ := a.r
    obtain ⟨u, rfl⟩ := b.r
    exact ⟨t ++ u, by simp⟩
  g := a.g.trans b.g
  s := b.s
  cl := b.cl
  k := fun c o h1 h2 h3 => b.k c o (a.k c o h1 h2 h3) h2 fun hm => by
    rcases a.nr c hm with z | z
    · exact h3 z
    · rw [z] at h1; cases h1
  th := fun c h => b.th c (a.th c h)
  n := fun c h => by
    rcases b.n c h with z | z | z
    · rcases a.n c z with z | z | ⟨o, z1, z2⟩
      · exact .inl z
      · exact .inr (.inl z)
      · exact .inr (.inr ⟨o, b.g c o z1, z2⟩)
    · refine .inr (.inl ?_)
      cases q : H c with
      | none => rfl
      | some o => exact absurd z (a.th c (by rw [q]; simp))
    · exact .inr (.inr z)
  nr := fun c h => by
    rcases b.nr c h with z | z
    · exact a.nr c z
    · refine .inr ?_
      cases q : H c with
      | none => rfl
      | some o => exact absurd z (a.th c (by rw [q]; simp))
  t := fun h => b.t (a.t h)

/-- how a value bears what it is told to bear; H: the heap ahead of the step -/
structure Rl (Vv α : Type) where
  r : Hp → List Addr → Hp → Hp → Vv → α → Prop
  mono : ∀ {H H1 : Hp} {R : List Addr} {G H2 : Hp} {w : Vv} {d : α}, (∀ b, H b ≠ none → H1 b ≠ none) → r H1 R G H2 w d → r H R G H2 w d
/-- how a result may go on -/
def After {α W : Type} (K : PySem.W.Frag) (mg : Str → Option Value) (E : XK) (rel : Rl W α) (r : Res α) (R : List Addr) (G H : Hp) (Q : W → Hp → Prop) : Prop :=
  match r with
  | .ok d μ' => ∀ w R' G' H', Ext R G H R' G' H' → rel.r H R' G' H' w d → MuIs K mg R' G' H' μ' → Q w H'
  | .exc c fs μ' => ∀ C dx xs R' G' H', Ext R G H R' G' H' → mg c = some (.ref C) → (fs ≠ [] → ∃ d, dx = some d ∧ G' d = some (.xd xs) ∧ xs.map (·.1) = fs.map (·.1) ∧ IsAll K mg R' G' (xs.map (·.2)) (fs.map (·.2))) →
      MuIs K mg R' G' H' μ' → E (.ref C) dx H'
  | .stuck => False
theorem After.imp {α W : Type} {K : PySem.W.Frag} {mg : Str → Option Value} {E : XK} {rel : Rl W α} {r : Res α} {R : List Addr} {G H : Hp} {Q Q' : W → Hp → Prop} (h : After K mg E rel r R G H Q) (q : ∀ w H', Q w H' → Q' w H') : After K mg E rel r R G H Q' := by
  cases r with
  | ok d μ => exact fun w R' G' H' e r m => q _ _ (h w R' G' H' e r m)
  | exc c fs μ => exact h
  | stuck => exact h
/-- a step, then the rest -/
theorem After.bind {α β W W' : Type} {K : PySem.W.Frag} {mg : Str → Option Value} {E : XK} {rel : Rl W α} {rel' : Rl W' β} {m : M α} {f : α → M β} {μ : List Mob} {R : List Addr} {G H : Hp} {Q : W' → Hp → Prop}
    (h : After K mg E rel' (M.bind m f μ) R G H Q) :
    After K mg E rel (m μ) R G H fun w H1 => ∃ R1 G1 d μ1, Ext R G H R1 G1 H1 ∧ rel.r H R1 G1 H1 w d ∧ MuIs K mg R1 G1 H1 μ1 ∧ After K mg E rel' (f d μ1) R1 G1 H1 Q := by
  unfold M.bind at h
  cases q : m μ with
  | ok d μ1 =>
    rw [q] at h
    refine fun w R1 G1 H1 e r mu => ⟨R1, G1, d, μ1, e, r, mu, ?_⟩
    have h' : After K mg E rel' (f d μ1) R G H Q := h
    cases q2 : f d μ1 with
    | ok d2 μ2 => rw [q2] at h'; exact fun w R2 G2 H2 e2 r2 m2 => h' w R2 G2 H2 (e.trans e2) (rel'.mono e.th r2) m2
    | exc c fs μ2 => rw [q2] at h'; exact fun C dx xs R2 G2 H2 e2 => h' C dx xs R2 G2 H2 (e.trans e2)
    | stuck => rw [q2] at h'; exact h'
  | exc c fs μ1 => rw [q] at h; exact h
  | stuck => rw [q] at h; exact h

/-! ### expressions -/
abbrev Env' := List (Option D)
def EnvIs (K : PySem.W.Frag) (mg : Str → Option Value) (R : List Addr) (G : Hp) (σ : L2.St) (ρ : Env') : Prop := σ.length = ρ.length ∧ ∀ (i : Nat) (d : D), ρ[i]? = some (some d) → ∃ v, σ[i]? = some (some v) ∧ Is K mg R G v d
theorem EnvIs.mono {K : PySem.W.Frag} {mg : Str → Option Value} {R R' : List Addr} {G G' : Hp} {σ : L2.St} {ρ : Env'} (h : EnvIs K mg R G σ ρ) (s : Sub G G') (r : ∀ (k : Nat) (a : Addr), R[k]? = some a → R'[k]? = some a) : EnvIs K mg R' G' σ ρ :=
  ⟨h.1, fun i d e => let ⟨v, a, b⟩ := h.2 i d e; ⟨v, a, b.mono s r⟩⟩
/-- the world of an expression -/
structure Wd (K : PySem.W.Frag) (mg : Str → Option Value) (R : List Addr) (G H : Hp) (σ : L2.St) (ρ : Env') (μ : List Mob) : Prop where
  s : Sub G H
  cl : ∀ b o, G b = some o → tbl? o = false ∧ b ∉ R
  env : EnvIs K mg R G σ ρ
  mu : MuIs K mg R G H μ
  tb : LamX.Tabs Tb.T H
theorem Wd.ext {K : PySem.W.Frag} {mg : Str → Option Value} {R R' : List Addr} {G H G' H' : Hp} {σ : L2.St} {ρ : Env'} {μ μ' : List Mob} (w : Wd K mg R G H σ ρ μ) (e : Ext R G H R' G' H') (m : MuIs K mg R' G' H' μ') : Wd K mg R' G' H' σ ρ μ' :=
  ⟨e.s, e.cl, w.env.mono e.g e.idx, m, e.t w.tb⟩
/-- the reading of an expression with the value m; W: what is wished of an exception, at the slots -/
def tD {α Vv : Type} (K : PySem.W.Frag) (mg : Str → Option Value) (W : WX) (rel : Rl Vv α) (m : Env' → M α) (σ : L2.St) (H : Hp) (Q : Vv → Hp → Prop) : Prop :=
  ∃ R G ρ μ, Wd K mg R G H σ ρ μ ∧ After K mg (fun cls d H' => W cls d σ H') rel (m ρ μ) R G H Q
/-- a step within a reading, then the rest -/
theorem tD.bind {α β Vv Vw : Type} {K : PySem.W.Frag} {mg : Str → Option Value} {W : WX} {rel : Rl Vv α} {rel' : Rl Vw β} {m : Env' → M α} {f : Env' → α → M β} {σ : L2.St} {H : Hp} {Q : Vw → Hp → Prop}
    (h : tD K mg W rel' (fun ρ => M.bind (m ρ) (f ρ)) σ H Q) :
    tD K mg W rel m σ H fun w H1 => ∃ R1 G1 ρ μ1 d, Wd K mg R1 G1 H1 σ ρ μ1 ∧ rel.r H R1 G1 H1 w d ∧ After K mg (fun cls d H' => W cls d σ H') rel' (f ρ d μ1) R1 G1 H1 Q := by
  obtain ⟨R, G, ρ, μ, w, a⟩ := h
  exact ⟨R, G, ρ, μ, w, a.bind.imp fun v H1 ⟨R1, G1, d, μ1, e, r, mu, q⟩ => ⟨R1, G1, ρ, μ1, d, w.ext e mu, r, q⟩⟩
abbrev rIs (K : PySem.W.Frag) (mg : Str → Option Value) : Rl V D := ⟨fun _ R G _ v d => Is K mg R G v d, fun _ h => h⟩
abbrev rAll (K : PySem.W.Frag) (mg : Str → Option Value) : Rl (List V) (List D) := ⟨fun _ R G _ vs ds => IsAll K mg R G vs ds, fun _ h => h⟩
abbrev rEq {α : Type} : Rl α α := ⟨fun _ _ _ _ x y => x = y, fun _ h => h⟩
def toMob : D → Option Mob
  | .lst ds => some (.lst ds)
  | .dic kvs => some (.dic kvs)
  | .dit kvs => some (.dit kvs)
  | _ => none
theorem none_of {H H1 : Hp} (hb : ∀ b, H b ≠ none → H1 b ≠ none) {p : Addr} (h : H1 p = none) : H p = none := by
  cases q : H p with
  | none => rfl
  | some o => exact absurd h (hb p (by rw [q]; simp))
/-- a new list or dict, in nobody else's hand -/
abbrev rFr (K : PySem.W.Frag) (mg : Str → Option Value) : Rl V D := ⟨fun H R G H2 v d => ∃ p m, v = .ref p ∧ H p = none ∧ G p = none ∧ p ∉ R ∧ toMob d = some m ∧ ObIs K mg R G H2 p m, fun {H H1 _ _ _ _ _} hb ⟨p, m, e, h, r⟩ => ⟨p, m, e, none_of hb h, r⟩⟩

theorem PE.weak {X : Cx} {e : Expr} {t t' : TE} (h : PE X e t) (i : ∀ σ H Q, t' σ H Q → t σ H Q) : PE X e t' := ⟨fun pins s σ H Q I q => h.run pins s σ H Q I (i σ H Q q)⟩
theorem PT.weak {X : Cx} {e : Expr} {t t' : TT} (h : PT X e t) (i : ∀ σ H Q, t' σ H Q → t σ H Q) : PT X e t' := ⟨fun pins s σ H Q I q => h.run pins s σ H Q I (i σ H Q q)⟩
theorem PW.weak {X : Cx} {e : Expr} {t t' : TT} (h : PW X e t) (i : ∀ σ H Q, t' σ H Q → t σ H Q) : PW X e t' := ⟨fun w pins s σ H Q I q => h.run w pins s σ H Q I (i σ H Q q)⟩
theorem PA.weak {X : Cx} {e : List Expr} {t t' : TA} (h : PA X e t) (i : ∀ σ H Q, t' σ H Q → t σ H Q) : PA X e t' := ⟨fun p pins s σ H Q I q => h.run p pins s σ H Q I (i σ H Q q)⟩
theorem PS.weak {X : Cx} {e : Stmt} {t t' : TS} (h : PS X e t) (i : ∀ D σ H, t' D σ H → t D σ H) : PS X e t' := ⟨fun pins s σ H D I q => h.run pins s σ H D I (i D σ H q)⟩
theorem PSs.weak {X : Cx} {e : List Stmt} {t t' : TS} (h : PSs X e t) (i : ∀ D σ H, t' D σ H → t D σ H) : PSs X e t' := ⟨fun pins s σ H D I q => h.run pins s σ H D I (i D σ H q)⟩
/-- expression, test, arguments of the value m -/
abbrev E' (X : Cx) (W : WX) (e : Expr) (m : Env' → M D) : Prop := PE X e (tD X.K X.mg W (rIs X.K X.mg) m)
abbrev T' (X : Cx) (W : WX) (e : Expr) (m : Env' → M Bool) : Prop := PT X e (tD X.K X.mg W rEq m)
/-- .. of a new list or dict -/
abbrev F' (X : Cx) (W : WX) (e : Expr) (m : Env' → M D) : Prop := PE X e (tD X.K X.mg W (rFr X.K X.mg) m)
abbrev A' (X : Cx) (W : WX) (es : List Expr) (m : Env' → M (List D)) : Prop := PA X es (tD X.K X.mg W (rAll X.K X.mg) m)
end DX
set_option Elab.async false
set_option linter.all false
set_option maxRecDepth 100000
set_option maxHeartbeats 4000000
/-! DB: pure operations, names, constants, operators, tests, displays, subscripts -/
namespace DX
open PySem PySem.Spec PyProof.Rows L2
variable [Tb]

/-! ### pure steps -/
/-- what a pure step is told: part of the heap -/
structure W0 (R : List Addr) (G H : Hp) : Prop where
  s : Sub G H
  cl : ∀ b o, G b = some o → tbl? o = false ∧ b ∉ R
  hr : ∀ a ∈ R, H a ≠ none
theorem MuIs.hr {K : PySem.W.Frag} {mg : Str → Option Value} {R : List Addr} {G H : Hp} {μ : List Mob} (m : MuIs K mg R G H μ) : ∀ a ∈ R, H a ≠ none := fun a ha => by
  obtain ⟨i, hi, e⟩ := List.getElem_of_mem ha
  have h1 : R[i]? = some a := by rw [List.getElem?_eq_getElem hi, e]
  have hj : i < μ.length := by rw [← m.len]; exact hi
  obtain ⟨o, ho, _⟩ := (m.at_ i a _ h1 (List.getElem?_eq_getElem hj)).there
  rw [ho]; simp
theorem MuIs.hard {K : PySem.W.Frag} {mg : Str → Option Value} {R : List Addr} {G H : Hp} {μ : List Mob} (m : MuIs K mg R G H μ) : ∀ a ∈ R, Hard H a := fun a ha => by
  obtain ⟨i, hi, e⟩ := List.getElem_of_mem ha
  have h1 : R[i]? = some a := by rw [List.getElem?_eq_getElem hi, e]
  have hj : i < μ.length := by rw [← m.len]; exact hi
  exact (m.at_ i a _ h1 (List.getElem?_eq_getElem hj)).hard
theorem Wd.w0 {K : PySem.W.Frag} {mg : Str → Option Value} {R : List Addr} {G H : Hp} {σ : L2.St} {ρ : Env'} {μ : List Mob} (w : Wd K mg R G H σ ρ μ) : W0 R G H := ⟨w.s, w.cl, w.mu.hr⟩
/-- the heap has grown, what stood stands -/
structure Grow (R : List Addr) (G H G' H' : Hp) : Prop where
  e : Ext R G H R G' H'
  k : ∀ b o, H b = some o → H' b = some o
theorem Grow.refl {R : List Addr} {G H : Hp} (w : W0 R G H) : Grow R G H G H := ⟨.refl w.s w.cl, fun _ _ h => h⟩
theorem Grow.mu {K : PySem.W.Frag} {mg : Str → Option Value} {R : List Addr} {G H G' H' : Hp} {μ : List Mob} (g : Grow R G H G' H') (m : MuIs K mg R G H μ) : MuIs K mg R G' H' μ :=
  ⟨m.len, m.nd, fun i a x h1 h2 => by
    have h := m.at_ i a x h1 h2
    obtain ⟨o, ho, _⟩ := h.there
    exact h.mono g.e.g (fun _ _ h => h) ((g.k a o ho).trans ho.symm)⟩
theorem Grow.new {R : List Addr} {G H : Hp} {p : Addr} {o : HO} (w : W0 R G H) (h : H p = none) (t : tbl? o = false) : Grow R G H (upd G p o) (upd H p o) := by
  have gn : G p = none := by
    cases q : G p with
    | none => rfl
    | some u => rw [w.s p u q] at h; cases h
  have nR : p ∉ R := fun z => w.hr p z h
  refine ⟨⟨⟨[], by simp⟩, fun b u e => ?_, fun b u e => ?_, fun b u e => ?_, fun b u e _ _ => ?_, fun b e => ?_, fun b e => ?_, fun a e => .inl e, fun t => t.ext fun b u e => by rw [upd_ne (ne_of_none e h)]; exact e⟩, fun b u e => ?_⟩
  · rw [upd_ne (ne_of_none e gn)]; exact e
  · by_cases hb : b = p
    · subst hb; rw [upd_same] at e ⊢; exact e
    · rw [upd_ne hb] at e ⊢; exact w.s b u e
  · by_cases hb : b = p
    · subst hb; rw [upd_same] at e; cases e; exact ⟨t, nR⟩
    · rw [upd_ne hb] at e; exact w.cl b u e
  · rw [upd_ne (ne_of_none e h)]; exact e
  · by_cases hb : b = p
    · subst hb; rw [upd_same]; simp
    · rw [upd_ne hb]; exact e
  · by_cases hb : b = p
    · subst hb; exact .inr (.inl h)
    · rw [upd_ne hb] at e; exact .inl e
  · rw [upd_ne (ne_of_none e h)]; exact e
def liftO {α : Type} : Option α → M α
  | some a => M.pure a
  | none => stuck
section
variable (K : PySem.W.Frag) (mg : Str → Option Value)
/-- a pure step from one value, two values, a row of values -/
def rP1 (g : D → Option D) : V → Hp → VK → Prop := fun x H Q => ∃ R G d z, W0 R G H ∧ Is K mg R G x d ∧ g d = some z ∧ ∀ v G' H', Grow R G H G' H' → Is K mg R G' v z → Q v H'
def rP2 (g : D → D → Option D) : R2 := fun x y H Q => ∃ R G d e z, W0 R G H ∧ Is K mg R G x d ∧ Is K mg R G y e ∧ g d e = some z ∧ ∀ v G' H', Grow R G H G' H' → Is K mg R G' v z → Q v H'
def rPs (g : List D → Option D) : List V → Hp → VK → Prop := fun xs H Q => ∃ R G ds z, W0 R G H ∧ IsAll K mg R G xs ds ∧ g ds = some z ∧ ∀ v G' H', Grow R G H G' H' → Is K mg R G' v z → Q v H'
end
abbrev Op1 (X : Cx) (f : Value → Sem Value) (g : D → Option D) : Prop := UnR X f (rP1 X.K X.mg g)
abbrev Op2 (X : Cx) (f : Value → Value → Sem Value) (g : D → D → Option D) : Prop := OpR X f (rP2 X.K X.mg g)
abbrev OpS (X : Cx) (f : Value) (g : List D → Option D) : Prop := CallR X f (rPs X.K X.mg g)

theorem bind_map {α β γ V1 V2 : Type} {K : PySem.W.Frag} {mg : Str → Option Value} {E : XK} {r1 : Rl V1 β} {r2 : Rl V2 γ} {m : M α} {f : α → M β} {f' : α → M γ} {μ : List Mob} {R : List Addr} {G H : Hp} {Q : V1 → Hp → Prop} {Q' : V2 → Hp → Prop}
    (k : ∀ d μ', After K mg E r1 (f d μ') R G H Q → After K mg E r2 (f' d μ') R G H Q') (h : After K mg E r1 (M.bind m f μ) R G H Q) : After K mg E r2 (M.bind m f' μ) R G H Q' := by
  unfold M.bind at h ⊢
  cases q : m μ with
  | ok d μ1 => rw [q] at h; exact k d μ1 h
  | exc c fs μ1 => rw [q] at h; exact h
  | stuck => rw [q] at h; exact h
theorem after_lift {α V' : Type} {K : PySem.W.Frag} {mg : Str → Option Value} {E : XK} {rel : Rl V' α} {o : Option α} {μ : List Mob} {R : List Addr} {G H : Hp} {Q : V' → Hp → Prop} (m : MuIs K mg R G H μ) (h : After K mg E rel (liftO o μ) R G H Q) :
    ∃ z, o = some z ∧ ∀ v G' H', Grow R G H G' H' → rel.r H R G' H' v z → Q v H' := by
  cases o with
  | none => exact False.elim h
  | some z => exact ⟨z, rfl, fun v G' H' g i => h v R G' H' g.e i (g.mu m)⟩

section
variable {X : Cx} {W : WX} {a b c : Expr} {pos : Pos}
theorem e_un {op : UnaryOp} {g : D → Option D} {m : Env' → M D} (ho : Op1 X (unaryOp op) g) (ha : E' X W a m) : E' X W (.UnaryOp op a pos) (fun ρ => M.bind (m ρ) fun x => liftO (g x)) :=
  PE.weak (pe_un ho ha) fun σ H Q h => by
    obtain ⟨R, G, ρ, μ, w, h⟩ := tD.bind (rel := rIs X.K X.mg) h
    refine ⟨R, G, ρ, μ, w, h.imp fun v H1 ⟨R1, G1, ρ1, μ1, d, w1, i1, q1⟩ => ?_⟩
    obtain ⟨z, hz, q⟩ := after_lift w1.mu q1
    exact ⟨R1, G1, d, z, w1.w0, i1, hz, q⟩
theorem two {r : R2} {g : D → D → Option D} {m n : Env' → M D} {K : PySem.W.Frag} {mg : Str → Option Value} {σ : L2.St} {H : Hp} {Q : VK}
    (h : tD K mg W (rIs K mg) (fun ρ => M.bind (m ρ) fun x => M.bind (n ρ) fun y => liftO (g x y)) σ H Q) :
    tOp (rP2 K mg g) (tD K mg W (rIs K mg) m) (tD K mg W (rIs K mg) n) σ H Q := by
  obtain ⟨R, G, ρ, μ, w, h⟩ := tD.bind (rel := rIs K mg) h
  refine ⟨R, G, ρ, μ, w, h.imp fun v H1 ⟨R1, G1, ρ1, μ1, d, w1, i1, q1⟩ => ⟨R1, G1, ρ1, μ1, w1, (After.bind (rel := rIs K mg) q1).imp fun u H2 ⟨R2, G2, e, μ2, x2, i2, m2, q2⟩ => ?_⟩⟩
  obtain ⟨z, hz, q⟩ := after_lift m2 q2
  exact ⟨R2, G2, d, e, z, (w1.ext x2 m2).w0, i1.mono x2.g x2.idx, i2, hz, q⟩
theorem e_op {op : Operator} {g : D → D → Option D} {m n : Env' → M D} (ho : Op2 X (binaryOp op) g) (ha : E' X W a m) (hb : E' X W b n) :
    E' X W (.BinOp a op b pos) (fun ρ => M.bind (m ρ) fun x => M.bind (n ρ) fun y => liftO (g x y)) :=
  PE.weak (pe_op ho ha hb) fun σ H Q h => two (r := rP2 X.K X.mg g) h
theorem e_cmp {op : CmpOp} {g : D → D → Option D} {m n : Env' → M D} (ho : Op2 X (compareOp op) g) (hm : behindInMarks op b = false) (ha : E' X W a m) (hb : E' X W b n) :
    E' X W (.Compare a [op] [b] pos) (fun ρ => M.bind (m ρ) fun x => M.bind (n ρ) fun y => liftO (g x y)) :=
  PE.weak (pe_cmpR ho ha hb hm) fun σ H Q h => two (r := rP2 X.K X.mg g) h
/-- what is True or False -/
def asB : D → Option Bool
  | .bl b => some b
  | _ => none
theorem t_cmp {op : CmpOp} {g : D → D → Option D} {m n : Env' → M D} (ho : Op2 X (compareOp op) g) (hm : behindInMarks op b = false) (ha : E' X W a m) (hb : E' X W b n) :
    T' X W (.Compare a [op] [b] pos) (fun ρ => M.bind (m ρ) fun x => M.bind (n ρ) fun y => liftO ((g x y).bind asB)) :=
  PT.weak (pt_cmpR ho ha hb hm) fun σ H Q h => by
    refine two (r := rP2 X.K X.mg g) (Q := fun x H' => ∃ k, x = .bl k ∧ Q k H') ?_
    obtain ⟨R, G, ρ, μ, w, h⟩ := h
    refine ⟨R, G, ρ, μ, w, ?_⟩
    have key : ∀ (o : Option D) μ' R' G' H', After X.K X.mg (fun cls d H' => W cls d σ H') rEq (liftO (o.bind asB) μ') R' G' H' Q → After X.K X.mg (fun cls d H' => W cls d σ H') (rIs X.K X.mg) (liftO o μ') R' G' H' fun x H' => ∃ k, x = .bl k ∧ Q k H' := by
      intro o μ' R' G' H' h
      cases o with
      | none => exact h
      | some d =>
        cases d with
        | bl k => exact fun v R2 G2 H2 e i m => by cases i; exact ⟨k, rfl, h k R2 G2 H2 e rfl m⟩
        | _ => exact False.elim h
    exact bind_map (fun d μ1 h1 => bind_map (fun e μ2 h2 => key (g d e) μ2 R G H h2) h1) h
end
end DX
set_option Elab.async false
set_option linter.all false
set_option maxRecDepth 100000
set_option maxHeartbeats 4000000
/-! DC: names, constants, tests, arguments, displays, subscripts, fields -/
namespace DX
open PySem PySem.Spec PyProof.Rows L2
variable [Tb]

section
variable {X : Cx} {W : WX} {a b c : Expr} {es : List Expr} {pos : Pos}
def dVar (ρ : Env') (i : Nat) : M D := liftO ρ[i]?.join
theorem pure_after {α V' : Type} {K : PySem.W.Frag} {mg : Str → Option Value} {E : XK} {rel : Rl V' α} {z : α} {μ : List Mob} {R : List Addr} {G H : Hp} {Q : V' → Hp → Prop} {v : V'} (h : After K mg E rel (M.pure z μ) R G H Q) (w : W0 R G H) (m : MuIs K mg R G H μ) (r : rel.r H R G H v z) : Q v H :=
  h v R G H (.refl w.s w.cl) r m
theorem e_var (i : Nat) {x : Str} (hN : X.N[i]? = some x := by rfl) (hv : Vis X.env.scope x := by first | exact Or.inl rfl | exact Or.inr (Or.inl rfl) | exact Or.inr (Or.inr rfl)) (hd : (x == ("__debug__" : Str)) = false := by decide)
    (hcd : (x == ("__classdict__" : Str)) = false := by decide) : E' X W (.Name x pos) (fun ρ => dVar ρ i) :=
  PE.weak (pe_var hN hv hd hcd) fun σ H Q h => by
    obtain ⟨R, G, ρ, μ, w, h⟩ := h
    obtain ⟨d, e, q⟩ := after_lift w.mu h
    have e' : ρ[i]? = some (some d) := by
      cases q : ρ[i]? with
      | none => rw [q] at e; cases e
      | some o => rw [q] at e; exact congrArg some e
    obtain ⟨v, e1, i1⟩ := w.env.2 i d e'
    exact ⟨v, e1, q v G H (.refl w.w0) i1⟩
theorem e_const {e : Expr} {v : V} {d : D} (h : PE X e (tC v)) (hi : ∀ R G, Is X.K X.mg R G v d) : E' X W e (fun _ => M.pure d) :=
  PE.weak h fun σ H Q ⟨R, G, ρ, μ, w, q⟩ => pure_after q w.w0 w.mu (hi R G)
theorem e_int {i : Int} {j} : E' X W (.Constant (.int i) j pos) (fun _ => M.pure (.int i)) := e_const pe_int fun _ _ => .int i
theorem e_bl {k : Bool} {j} : E' X W (.Constant (.bool k) j pos) (fun _ => M.pure (.bl k)) := e_const pe_bl fun _ _ => .bl k
theorem e_non {j} : E' X W (.Constant .none j pos) (fun _ => M.pure .non) := e_const pe_non fun _ _ => .non
theorem e_str {x : Str} {j} : E' X W (.Constant (.str x) j pos) (fun _ => M.pure (.str x)) := e_const pe_str fun _ _ => .str x
/-- a def or a class of the module, as a value -/
theorem e_glob {x : Str} {f : Addr} (hg : Gl X x) (hm : X.mg x = some (.ref f)) (hd : (x == ("__debug__" : Str)) = false := by decide) : E' X W (.Name x pos) (fun _ => M.pure (.glb x)) :=
  e_const (pe_glob (v := .ref f) hg hm rfl hd) fun _ _ => .glb hm
/-- a built-in class, as a value -/
theorem e_ty {x : Str} {n : String} (hg : Gl X x) (hm : X.mg x = none) (hv : bootBuiltins x = some (.type n)) (hn : x ≠ "__name__" := by decide) (hd : (x == ("__debug__" : Str)) = false := by decide) : E' X W (.Name x pos) (fun _ => M.pure (.ty n)) :=
  e_const (pe_bltn (v := .ty n) hg hm hv rfl hn hd) fun _ _ => .ty n

/-! ### tests -/
theorem bind_fst {α β V1 V2 : Type} {K : PySem.W.Frag} {mg : Str → Option Value} {E : XK} {r1 : Rl V1 α} {r2 : Rl V2 β} {m : M α} {f : α → M β} {μ : List Mob} {R : List Addr} {G H : Hp} {Q : V2 → Hp → Prop} (h : After K mg E r2 (M.bind m f μ) R G H Q) :
    After K mg E r1 (m μ) R G H fun w H1 => ∃ R1 G1 d μ1, Ext R G H R1 G1 H1 ∧ r1.r H R1 G1 H1 w d ∧ MuIs K mg R1 G1 H1 μ1 ∧ After K mg E r2 (f d μ1) R1 G1 H1 Q := After.bind h
theorem t_and1 {m : Env' → M Bool} (ha : T' X W a m) : PW X (.BoolOp .And [a] pos) (tD X.K X.mg W rEq m) := pw_and1 ha
theorem t_or1 {m : Env' → M Bool} (ha : T' X W a m) : PW X (.BoolOp .Or [a] pos) (tD X.K X.mg W rEq m) := pw_or1 ha
theorem t_and {m n : Env' → M Bool} (ha : T' X W a m) (hb : PW X (.BoolOp .And (b :: es) pos) (tD X.K X.mg W rEq n)) : PW X (.BoolOp .And (a :: b :: es) pos) (tD X.K X.mg W rEq fun ρ => M.bind (m ρ) fun x => if x = true then n ρ else M.pure false) :=
  PW.weak (pw_and ha hb) fun σ H Q h => by
    obtain ⟨R, G, ρ, μ, w, h⟩ := tD.bind (rel := rEq) h
    refine ⟨R, G, ρ, μ, w, h.imp fun v H1 ⟨R1, G1, ρ1, μ1, d, w1, i1, q1⟩ => ?_⟩
    cases (show v = d from i1)
    cases v with
    | true => exact ⟨R1, G1, ρ1, μ1, w1, q1⟩
    | false => exact pure_after q1 w1.w0 w1.mu rfl
theorem t_or {m n : Env' → M Bool} (ha : T' X W a m) (hb : PW X (.BoolOp .Or (b :: es) pos) (tD X.K X.mg W rEq n)) : PW X (.BoolOp .Or (a :: b :: es) pos) (tD X.K X.mg W rEq fun ρ => M.bind (m ρ) fun x => if x = true then M.pure true else n ρ) :=
  PW.weak (pw_or ha hb) fun σ H Q h => by
    obtain ⟨R, G, ρ, μ, w, h⟩ := tD.bind (rel := rEq) h
    refine ⟨R, G, ρ, μ, w, h.imp fun v H1 ⟨R1, G1, ρ1, μ1, d, w1, i1, q1⟩ => ?_⟩
    cases (show v = d from i1)
    cases v with
    | true => exact pure_after q1 w1.w0 w1.mu rfl
    | false => exact ⟨R1, G1, ρ1, μ1, w1, q1⟩
theorem t_not {m : Env' → M Bool} (ha : T' X W a m) : T' X W (.UnaryOp .Not a pos) (fun ρ => M.bind (m ρ) fun x => M.pure (!x)) :=
  PT.weak (pt_not ha) fun σ H Q h => by
    obtain ⟨R, G, ρ, μ, w, h⟩ := tD.bind (rel := rEq) h
    refine ⟨R, G, ρ, μ, w, h.imp fun v H1 ⟨R1, G1, ρ1, μ1, d, w1, i1, q1⟩ => ?_⟩
    cases (show v = d from i1)
    exact pure_after q1 w1.w0 w1.mu rfl
def dTru : D → Option Bool
  | .non => some false
  | .bl b => some b
  | .int i => some (i != 0)
  | .str y => if y.length ≤ 16777216 then some ((y.length : Int) != 0) else none
  | .lst xs => some (!xs.isEmpty)
  | .tup xs => some (!xs.isEmpty)
  | .dic xs => some (!xs.isEmpty)
  | _ => none
theorem isEmpty_len {α β : Type} {xs : List α} {ys : List β} (h : xs.length = ys.length) : xs.isEmpty = ys.isEmpty := by
  cases xs <;> cases ys <;> simp at h ⊢
theorem map_len {α β γ : Type} {f : α → γ} {g : β → γ} {xs : List α} {ys : List β} (h : xs.map f = ys.map g) : xs.length = ys.length := by simpa using congrArg List.length h
theorem tru_of {K : PySem.W.Frag} {mg : Str → Option Value} {R : List Addr} {G H : Hp} {v : V} {d : D} {k : Bool} (w : W0 R G H) (i : Is K mg R G v d) (h : dTru d = some k) : TruV K v H k := by
  cases i with
  | non => cases h; rfl
  | bl b => cases h; rfl
  | int i => cases h; rfl
  | str x =>
    simp only [dTru] at h
    split at h
    · cases h; exact ⟨by rw [sizeLine_eq]; assumption, rfl⟩
    · cases h
  | tup s k => cases h; exact .inr (.inl ⟨_, SqT.sub s w.s, by rw [isEmpty_len (IsAll.length k)]⟩)
  | lst s k => cases h; exact .inl ⟨_, SqL.of (w.s _ _ s), by rw [isEmpty_len (IsAll.length k)]⟩
  | dic s e k => cases h; exact .inr (.inr ⟨_, w.s _ _ s, by rw [isEmpty_len (map_len e)]⟩)
  | _ => cases h
theorem t_val {m : Env' → M D} (ha : E' X W a m) (he : ∀ whole, isTrue a X.env whole = (do let v ← whole; standAt a.pos; holding [v] (truthy v)) := by intro _; rfl) : T' X W a (fun ρ => M.bind (m ρ) fun x => liftO (dTru x)) :=
  PT.weak (pt_truth ha he) fun σ H Q h => by
    obtain ⟨R, G, ρ, μ, w, h⟩ := tD.bind (rel := rIs X.K X.mg) h
    refine ⟨R, G, ρ, μ, w, h.imp fun v H1 ⟨R1, G1, ρ1, μ1, d, w1, i1, q1⟩ => ?_⟩
    obtain ⟨k, e, q⟩ := after_lift w1.mu q1
    exact ⟨k, tru_of w1.w0 i1 e, q k G1 H1 (.refl w1.w0) rfl⟩
theorem e_if {t : Env' → M Bool} {m n : Env' → M D} (hc : T' X W c t) (ha : E' X W a m) (hb : E' X W b n) : E' X W (.IfExp c a b pos) (fun ρ => M.bind (t ρ) fun x => if x = true then m ρ else n ρ) :=
  PE.weak (pe_ifExp hc ha hb) fun σ H Q h => by
    obtain ⟨R, G, ρ, μ, w, h⟩ := tD.bind (rel := rEq) h
    refine ⟨R, G, ρ, μ, w, h.imp fun v H1 ⟨R1, G1, ρ1, μ1, d, w1, i1, q1⟩ => ?_⟩
    cases (show v = d from i1)
    cases v with
    | true => exact ⟨R1, G1, ρ1, μ1, w1, q1⟩
    | false => exact ⟨R1, G1, ρ1, μ1, w1, q1⟩
/-- and, or as values, all but the last True or False -/
theorem e_one {op} {m : Env' → M D} (h : E' X W a m) : E' X W (.BoolOp op [a] pos) m := pe_one h
theorem e_and {m n : Env' → M D} (ha : E' X W a m) (hb : E' X W (.BoolOp .And (b :: es) pos) n) : E' X W (.BoolOp .And (a :: b :: es) pos) (fun ρ => M.bind (m ρ) fun x => M.bind (liftO (asB x)) fun k => if k = true then n ρ else M.pure (.bl false)) :=
  PE.weak (pe_and ha hb) fun σ H Q h => by
    obtain ⟨R, G, ρ, μ, w, h⟩ := tD.bind (rel := rIs X.K X.mg) h
    refine ⟨R, G, ρ, μ, w, h.imp fun v H1 ⟨R1, G1, ρ1, μ1, d, w1, i1, q1⟩ => ?_⟩
    cases d with
    | bl k =>
      cases i1
      cases k with
      | true => exact ⟨true, rfl, ⟨R1, G1, ρ1, μ1, w1, q1⟩⟩
      | false => exact ⟨false, rfl, iteF (pure_after (v := .bl false) q1 w1.w0 w1.mu (.bl false))⟩
    | _ => exact False.elim q1
theorem e_or {m n : Env' → M D} (ha : E' X W a m) (hb : E' X W (.BoolOp .Or (b :: es) pos) n) : E' X W (.BoolOp .Or (a :: b :: es) pos) (fun ρ => M.bind (m ρ) fun x => M.bind (liftO (asB x)) fun k => if k = true then M.pure (.bl true) else n ρ) :=
  PE.weak (pe_or ha hb) fun σ H Q h => by
    obtain ⟨R, G, ρ, μ, w, h⟩ := tD.bind (rel := rIs X.K X.mg) h
    refine ⟨R, G, ρ, μ, w, h.imp fun v H1 ⟨R1, G1, ρ1, μ1, d, w1, i1, q1⟩ => ?_⟩
    cases d with
    | bl k =>
      cases i1
      cases k with
      | true => exact ⟨true, rfl, iteT (pure_after (v := .bl true) q1 w1.w0 w1.mu (.bl true))⟩
      | false => exact ⟨false, rfl, ⟨R1, G1, ρ1, μ1, w1, q1⟩⟩
    | _ => exact False.elim q1
theorem e_not {m : Env' → M D} (ha : E' X W a m) : E' X W (.UnaryOp .Not a pos) (fun ρ => M.bind (m ρ) fun x => liftO ((asB x).map fun k => .bl (!k))) :=
  PE.weak (pe_not ha) fun σ H Q h => by
    obtain ⟨R, G, ρ, μ, w, h⟩ := tD.bind (rel := rIs X.K X.mg) h
    refine ⟨R, G, ρ, μ, w, h.imp fun v H1 ⟨R1, G1, ρ1, μ1, d, w1, i1, q1⟩ => ?_⟩
    cases d with
    | bl k =>
      cases i1
      exact ⟨k, rfl, pure_after (v := .bl (!k)) q1 w1.w0 w1.mu (.bl (!k))⟩
    | _ => exact False.elim q1

/-! ### arguments, displays, calls of built-ins -/
theorem a_nil : A' X W [] (fun _ => M.pure []) := PA.weak pa_nil fun σ H Q ⟨R, G, ρ, μ, w, q⟩ => pure_after q w.w0 w.mu .nil
theorem a_cons {m : Env' → M D} {n : Env' → M (List D)} (ha : E' X W a m) (hb : A' X W es n) (hs : starEach (a :: es) X.env = (false, eval a X.env) :: starEach es X.env := by rfl) :
    A' X W (a :: es) (fun ρ => M.bind (m ρ) fun x => M.bind (n ρ) fun xs => M.pure (x :: xs)) :=
  PA.weak (pa_cons ha hb hs) fun σ H Q h => by
    obtain ⟨R, G, ρ, μ, w, h⟩ := tD.bind (rel := rIs X.K X.mg) h
    refine ⟨R, G, ρ, μ, w, h.imp fun v H1 ⟨R1, G1, ρ1, μ1, d, w1, i1, q1⟩ => ⟨R1, G1, ρ1, μ1, w1, (After.bind (rel := rAll X.K X.mg) q1).imp fun u H2 ⟨R2, G2, ds, μ2, x2, i2, m2, q2⟩ => ?_⟩⟩
    exact pure_after (v := v :: u) q2 (w1.ext x2 m2).w0 m2 (.cons (i1.mono x2.g x2.idx) i2)
/-- lists of values, a pure step of them -/
theorem e_args {α : Type} {e : Expr} {t : TA} {r : List V → Hp → VK → Prop} {m : Env' → M (List D)} {g : List D → Option D} (ha : A' X W es m) (h : A' X W es m → PE X e (fun σ H Q => tD X.K X.mg W (rAll X.K X.mg) m σ H fun vs H1 => rPs X.K X.mg g vs H1 Q)) :
    E' X W e (fun ρ => M.bind (m ρ) fun xs => liftO (g xs)) :=
  PE.weak (h ha) fun σ H Q h => by
    obtain ⟨R, G, ρ, μ, w, h⟩ := tD.bind (rel := rAll X.K X.mg) h
    refine ⟨R, G, ρ, μ, w, h.imp fun v H1 ⟨R1, G1, ρ1, μ1, d, w1, i1, q1⟩ => ?_⟩
    obtain ⟨z, hz, q⟩ := after_lift w1.mu q1
    exact ⟨R1, G1, d, z, w1.w0, i1, hz, q⟩
theorem e_callB {x : Str} {id : String} {p : Pos} {m : Env' → M (List D)} {g : List D → Option D} (hc : OpS X (.builtin id) g) (hg : Gl X x) (hm : X.mg x = none) (hv : bootBuiltins x = some (.builtin id)) (ha : A' X W (a :: es) m) (hn : x ≠ "__name__" := by decide) (hdb : (x == ("__debug__" : Str)) = false := by decide)
    (he : starEach (a :: es) X.env = (false, eval a X.env) :: starEach es X.env := by rfl) (hpl : (backTo pos (starEach es X.env)).any (·.1) = false := by rfl) : E' X W (.Call (.Name x p) (a :: es) [] pos) (fun ρ => M.bind (m ρ) fun xs => liftO (g xs)) :=
  e_args (α := Unit) (t := tNil) (r := fun _ _ _ => True) ha fun ha => pe_callB hc hg hm hv ha hn hdb he hpl
theorem e_callT {x : Str} {T : String} {p : Pos} {m : Env' → M (List D)} {g : List D → Option D} (hc : OpS X (.type T) g) (hg : Gl X x) (hm : X.mg x = none) (hv : bootBuiltins x = some (.type T)) (ha : A' X W (a :: es) m) (hn : x ≠ "__name__" := by decide) (hdb : (x == ("__debug__" : Str)) = false := by decide)
    (he : starEach (a :: es) X.env = (false, eval a X.env) :: starEach es X.env := by rfl) (hpl : (backTo pos (starEach es X.env)).any (·.1) = false := by rfl) : E' X W (.Call (.Name x p) (a :: es) [] pos) (fun ρ => M.bind (m ρ) fun xs => liftO (g xs)) :=
  e_args (α := Unit) (t := tNil) (r := fun _ _ _ => True) ha fun ha => pe_callTy hc hg hm hv ha hn hdb he hpl
def dTup (xs : List D) : Option D := if xs.length ≤ 16777216 then some (.tup xs) else none
def dLst (xs : List D) : Option D := if xs.length ≤ 16777216 then some (.lst xs) else none
theorem new_tup {K : PySem.W.Frag} {mg : Str → Option Value} {R : List Addr} {G H : Hp} {vs : List V} {ds : List D} {p : Addr} (w : W0 R G H) (i : IsAll K mg R G vs ds) (h : H p = none) : Grow R G H (upd G p (.tup vs)) (upd H p (.tup vs)) ∧ Is K mg R (upd G p (.tup vs)) (.ref p) (.tup ds) :=
  ⟨.new w h rfl, Is.tup (.inl upd_same) (i.mono (Grow.new w h rfl).e.g fun _ _ h => h)⟩
theorem new_lst {K : PySem.W.Frag} {mg : Str → Option Value} {R : List Addr} {G H : Hp} {vs : List V} {ds : List D} {p : Addr} (w : W0 R G H) (i : IsAll K mg R G vs ds) (h : H p = none) : Grow R G H (upd G p (.lst vs)) (upd H p (.lst vs)) ∧ Is K mg R (upd G p (.lst vs)) (.ref p) (.lst ds) :=
  ⟨.new w h rfl, .lst upd_same (i.mono (Grow.new w h rfl).e.g fun _ _ h => h)⟩
theorem e_tup {x1} {m : Env' → M (List D)} (h : A' X W es m) : E' X W (.Tuple es x1 pos) (fun ρ => M.bind (m ρ) fun xs => liftO (dTup xs)) :=
  e_args (α := Unit) (t := tNil) (r := fun _ _ _ => True) h fun h => PE.weak (pe_tup h) fun σ H Q h => by
    obtain ⟨R, G, ρ, μ, w, h⟩ := h
    refine ⟨R, G, ρ, μ, w, h.imp fun vs H1 ⟨R1, G1, ds, z, w1, i1, hz, q⟩ => ?_⟩
    unfold dTup at hz
    split at hz
    · rename_i hl
      cases hz
      exact ⟨by rw [i1.length, sizeLine_eq]; exact hl, fun p hp => q _ _ _ (new_tup w1 i1 hp).1 (new_tup w1 i1 hp).2⟩
    · cases hz
theorem e_lst {m : Env' → M (List D)} (h : A' X W es m) : E' X W (.List es pos) (fun ρ => M.bind (m ρ) fun xs => liftO (dLst xs)) :=
  e_args (α := Unit) (t := tNil) (r := fun _ _ _ => True) h fun h => PE.weak (pe_lst h) fun σ H Q h => by
    obtain ⟨R, G, ρ, μ, w, h⟩ := h
    refine ⟨R, G, ρ, μ, w, h.imp fun vs H1 ⟨R1, G1, ds, z, w1, i1, hz, q⟩ => ?_⟩
    unfold dLst at hz
    split at hz
    · rename_i hl
      cases hz
      exact ⟨by rw [i1.length, sizeLine_eq]; exact hl, fun p hp => q _ _ _ (new_lst w1 i1 hp).1 (new_lst w1 i1 hp).2⟩
    · cases hz
end
end DX
set_option Elab.async false
set_option linter.all false
set_option maxRecDepth 100000
set_option maxHeartbeats 4000000
/-! DD: the operators and built-ins on deep values -/
namespace DX
open PySem PySem.Spec PyProof.Rows L2
variable [Tb]

/-! ### new lists and dicts, in nobody else's hand -/
/-- the mark of what stands at an address as told -/
def hoOf (H : Hp) (G : Hp) (p : Addr) : Hp := fun b => if b = p then H p else G b
theorem fresh_is {K : PySem.W.Frag} {mg : Str → Option Value} {R R' : List Addr} {G H G' H' : Hp} {v : V} {d : D} (e : Ext R G H R' G' H') (f : (rFr K mg).r H R' G' H' v d) : ∃ G2, Ext R G H R' G2 H' ∧ Sub G' G2 ∧ Is K mg R' G2 v d := by
  obtain ⟨p, m, rfl, hp, gp, nR, hm, o⟩ := f
  obtain ⟨ob, hob, ht⟩ := o.there
  have sub : Sub G' (hoOf H' G' p) := fun b u q => by
    unfold hoOf
    rw [if_neg (fun z => by rw [z, gp] at q; cases q)]
    exact q
  have at_ : hoOf H' G' p p = H' p := if_pos rfl
  refine ⟨hoOf H' G' p, ⟨e.r, e.g.trans sub, fun b u q => ?_, fun b u q => ?_, e.k, e.th, fun b q => ?_, e.nr, e.t⟩, sub, ?_⟩
  · unfold hoOf at q
    split at q
    · rename_i z; rw [z]; exact q
    · exact e.s b u q
  · unfold hoOf at q
    split at q
    · rename_i z; rw [hob] at q; cases q; rw [z]; exact ⟨ht, nR⟩
    · exact e.cl b u q
  · unfold hoOf at q
    split at q
    · rename_i z; rw [z]; exact .inr (.inl hp)
    · rename_i z
      rcases e.n b q with z1 | z1 | ⟨o1, z1, z2⟩
      · exact .inl z1
      · exact .inr (.inl z1)
      · exact .inr (.inr ⟨o1, sub b o1 z1, z2⟩)
  · cases d with
    | lst ds => cases hm; obtain ⟨xs, h1, h2⟩ := o; exact .lst (at_.trans h1) (h2.mono sub fun _ _ h => h)
    | dic ds => cases hm; obtain ⟨xs, h1, h2, h3⟩ := o; exact .dic (at_.trans h1) h2 (h3.mono sub fun _ _ h => h)
    | dit ds => cases hm; obtain ⟨xs, h1, h2, h3⟩ := o; exact .dit (at_.trans h1) h2 (h3.mono sub fun _ _ h => h)
    | _ => cases hm
theorem MuIs.sub {K : PySem.W.Frag} {mg : Str → Option Value} {R : List Addr} {G G' H : Hp} {μ : List Mob} (m : MuIs K mg R G H μ) (s : Sub G G') : MuIs K mg R G' H μ := ⟨m.len, m.nd, fun i a x h1 h2 => (m.at_ i a x h1 h2).mono s (fun _ _ h => h) rfl⟩
theorem e_of {X : Cx} {W : WX} {e : Expr} {m : Env' → M D} (h : F' X W e m) : E' X W e m :=
  PE.weak h fun σ H Q ⟨R, G, ρ, μ, w, q⟩ => ⟨R, G, ρ, μ, w, by
    cases z : m ρ μ with
    | ok d μ' =>
      rw [z] at q
      intro v R' G' H' x f mu
      obtain ⟨G2, x2, s2, i⟩ := fresh_is x f
      exact q v R' G2 H' x2 i (mu.sub s2)
    | exc c fs μ' => rw [z] at q; exact q
    | stuck => rw [z] at q; exact q⟩
section
variable (K : PySem.W.Frag) (mg : Str → Option Value)
/-- the end of a step that makes a new list or dict -/
def qF (R : List Addr) (G H : Hp) (z : D) (Q : VK) : Prop := ∃ m, toMob z = some m ∧ ∀ p H', H p = none → (∀ b, b ≠ p → H' b = H b) → ObIs K mg R G H' p m → Q (.ref p) H'
def rF1 (g : D → Option D) : V → Hp → VK → Prop := fun x H Q => ∃ R G d z, W0 R G H ∧ Is K mg R G x d ∧ g d = some z ∧ qF K mg R G H z Q
def rF2 (g : D → D → Option D) : R2 := fun x y H Q => ∃ R G d e z, W0 R G H ∧ Is K mg R G x d ∧ Is K mg R G y e ∧ g d e = some z ∧ qF K mg R G H z Q
def rFs (g : List D → Option D) : List V → Hp → VK → Prop := fun xs H Q => ∃ R G ds z, W0 R G H ∧ IsAll K mg R G xs ds ∧ g ds = some z ∧ qF K mg R G H z Q
end
theorem W0.no {R : List Addr} {G H : Hp} (w : W0 R G H) {p : Addr} (h : H p = none) : G p = none ∧ p ∉ R := by
  refine ⟨?_, fun z => w.hr p z h⟩
  cases q : G p with
  | none => rfl
  | some u => rw [w.s p u q] at h; cases h
/-- the end of a new thing, in a reading -/
theorem fr_end {K : PySem.W.Frag} {mg : Str → Option Value} {R : List Addr} {G H : Hp} {z : D} {μ : List Mob} {E : XK} {Q : VK} {o : Option D} (w : W0 R G H) (mu : MuIs K mg R G H μ) (hm : ∀ z, o = some z → (toMob z).isSome = true) (h : After K mg E (rFr K mg) (liftO o μ) R G H Q) :
    ∃ z, o = some z ∧ qF K mg R G H z Q := by
  cases o with
  | none => exact h.elim
  | some z =>
    have := hm z rfl
    cases q : toMob z with
    | none => rw [q] at this; cases this
    | some m =>
      refine ⟨z, rfl, m, q, fun p H' hp hb ob => ?_⟩
      obtain ⟨gp, nR⟩ := w.no hp
      have ne : ∀ b u, H b = some u → b ≠ p := fun b u e => ne_of_none e hp
      refine h (.ref p) R G H' ⟨⟨[], by simp⟩, .refl _, fun b u e => ?_, w.cl, fun b u e _ _ => ?_, fun b e => ?_, fun b e => .inl e, fun a e => .inl e, fun t => t.ext fun b u e => by rw [hb b (ne b u e)]; exact e⟩ ⟨p, m, rfl, hp, gp, nR, q, ob⟩ ⟨mu.len, mu.nd, fun i a x h1 h2 => ?_⟩
      · have e' := w.s b u e
        rw [hb b (ne b u e')]; exact e'
      · rw [hb b (ne b u e)]; exact e
      · by_cases hbp : b = p
        · rw [hbp] at e; exact absurd hp e
        · rw [hb b hbp]; exact e
      · have hx := mu.at_ i a x h1 h2
        obtain ⟨u, hu, _⟩ := hx.there
        exact hx.mono (.refl _) (fun _ _ h => h) (hb a (ne a u hu))
abbrev OpF2 (X : Cx) (f : Value → Value → Sem Value) (g : D → D → Option D) : Prop := OpR X f (rF2 X.K X.mg g)
abbrev OpFs (X : Cx) (f : Value) (g : List D → Option D) : Prop := CallR X f (rFs X.K X.mg g)
theorem qF.lst {K : PySem.W.Frag} {mg : Str → Option Value} {R : List Addr} {G H : Hp} {ds : List D} {xs : List V} {Q : VK} (q : qF K mg R G H (.lst ds) Q) (i : IsAll K mg R G xs ds) : ∀ p, H p = none → Q (.ref p) (upd H p (.lst xs)) := fun p hp => by
  obtain ⟨m, hm, q⟩ := q
  cases hm
  exact q p _ hp (fun b hb => upd_ne hb) ⟨xs, upd_same, i⟩
section
variable {X : Cx} {W : WX} {a b c : Expr} {es : List Expr} {pos : Pos}
theorem f_op {op : Operator} {g : D → D → Option D} {m n : Env' → M D} (ho : OpF2 X (binaryOp op) g) (hm : ∀ d e z, g d e = some z → (toMob z).isSome = true) (ha : E' X W a m) (hb : E' X W b n) :
    F' X W (.BinOp a op b pos) (fun ρ => M.bind (m ρ) fun x => M.bind (n ρ) fun y => liftO (g x y)) :=
  PE.weak (pe_op ho ha hb) fun σ H Q h => by
    obtain ⟨R, G, ρ, μ, w, h⟩ := tD.bind (rel := rIs X.K X.mg) h
    refine ⟨R, G, ρ, μ, w, h.imp fun v H1 ⟨R1, G1, ρ1, μ1, d, w1, i1, q1⟩ => ⟨R1, G1, ρ1, μ1, w1, (After.bind (rel := rIs X.K X.mg) q1).imp fun u H2 ⟨R2, G2, e, μ2, x2, i2, m2, q2⟩ => ?_⟩⟩
    have w2 := (w1.ext x2 m2).w0
    obtain ⟨z, hz, q⟩ := fr_end (z := .non) w2 m2 (fun z e => hm _ _ z e) q2
    exact ⟨R2, G2, d, e, z, w2, i1.mono x2.g x2.idx, i2, hz, q⟩
theorem f_args {e : Expr} {m : Env' → M (List D)} {g : List D → Option D} (hm : ∀ ds z, g ds = some z → (toMob z).isSome = true) (h : PE X e (fun σ H Q => tD X.K X.mg W (rAll X.K X.mg) m σ H fun vs H1 => rFs X.K X.mg g vs H1 Q)) :
    F' X W e (fun ρ => M.bind (m ρ) fun xs => liftO (g xs)) :=
  PE.weak h fun σ H Q h => by
    obtain ⟨R, G, ρ, μ, w, h⟩ := tD.bind (rel := rAll X.K X.mg) h
    refine ⟨R, G, ρ, μ, w, h.imp fun v H1 ⟨R1, G1, ρ1, μ1, d, w1, i1, q1⟩ => ?_⟩
    obtain ⟨z, hz, q⟩ := fr_end (z := .non) w1.w0 w1.mu (fun z e => hm _ z e) q1
    exact ⟨R1, G1, d, z, w1.w0, i1, hz, q⟩
theorem f_callB {x : Str} {id : String} {p : Pos} {m : Env' → M (List D)} {g : List D → Option D} (hc : OpFs X (.builtin id) g) (ht : ∀ ds z, g ds = some z → (toMob z).isSome = true) (hg : Gl X x) (hm : X.mg x = none) (hv : bootBuiltins x = some (.builtin id)) (ha : A' X W (a :: es) m) (hn : x ≠ "__name__" := by decide) (hdb : (x == ("__debug__" : Str)) = false := by decide)
    (he : starEach (a :: es) X.env = (false, eval a X.env) :: starEach es X.env := by rfl) (hpl : (backTo pos (starEach es X.env)).any (·.1) = false := by rfl) : F' X W (.Call (.Name x p) (a :: es) [] pos) (fun ρ => M.bind (m ρ) fun xs => liftO (g xs)) :=
  f_args ht (pe_callB hc hg hm hv ha hn hdb he hpl)
theorem f_callT {x : Str} {T : String} {p : Pos} {m : Env' → M (List D)} {g : List D → Option D} (hc : OpFs X (.type T) g) (ht : ∀ ds z, g ds = some z → (toMob z).isSome = true) (hg : Gl X x) (hm : X.mg x = none) (hv : bootBuiltins x = some (.type T)) (ha : A' X W (a :: es) m) (hn : x ≠ "__name__" := by decide) (hdb : (x == ("__debug__" : Str)) = false := by decide)
    (he : starEach (a :: es) X.env = (false, eval a X.env) :: starEach es X.env := by rfl) (hpl : (backTo pos (starEach es X.env)).any (·.1) = false := by rfl) : F' X W (.Call (.Name x p) (a :: es) [] pos) (fun ρ => M.bind (m ρ) fun xs => liftO (g xs)) :=
  f_args ht (pe_callTy hc hg hm hv ha hn hdb he hpl)
theorem mob_dLst : ∀ ds z, dLst ds = some z → (toMob z).isSome = true := fun ds z h => by
  unfold dLst at h; split at h <;> cases h; rfl
theorem f_lst {m : Env' → M (List D)} (h : A' X W es m) : F' X W (.List es pos) (fun ρ => M.bind (m ρ) fun xs => liftO (dLst xs)) :=
  f_args mob_dLst (PE.weak (pe_lst h) fun σ H Q h => by
    obtain ⟨R, G, ρ, μ, w, h⟩ := h
    refine ⟨R, G, ρ, μ, w, h.imp fun vs H1 ⟨R1, G1, ds, z, w1, i1, hz, q⟩ => ?_⟩
    unfold dLst at hz
    split at hz
    · rename_i hl
      cases hz
      exact ⟨by rw [i1.length, sizeLine_eq]; exact hl, q.lst i1⟩
    · cases hz)

/-! ### + - * // % ** -/
def dAdd : D → D → Option D
  | .int i, .int j => some (.int (i + j))
  | .str x, .str y => if x.length + y.length ≤ 16777216 then some (.str (x ++ y)) else none
  | .tup xs, .tup ys => if xs.length + ys.length ≤ 16777216 then some (.tup (xs ++ ys)) else none
  | .lst xs, .lst ys => if xs.length + ys.length ≤ 16777216 then some (.lst (xs ++ ys)) else none
  | _, _ => none
theorem op_dAdd : Op2 X (binaryOp .Add) dAdd := by
  intro pins s σ H x y v u Q I rx ry h
  obtain ⟨R, G, d, e, z, w, i1, i2, hz, q⟩ := h
  cases i1 with
  | int i =>
    cases i2 with
    | int j => cases hz; exact op_add pins s σ H _ _ v u Q I rx ry ⟨i, j, rfl, rfl, q _ G H (.refl w) (.int _)⟩
    | _ => cases hz
  | str i =>
    cases i2 with
    | str j =>
      simp only [dAdd] at hz
      split at hz
      · rename_i hl
        cases hz
        exact op_add_str pins s σ H _ _ v u Q I rx ry ⟨i, j, rfl, rfl, by rw [sizeLine_eq]; exact hl, q _ G H (.refl w) (.str _)⟩
      · cases hz
    | _ => cases hz
  | @lst a1 xs ds1 h1 k1 =>
    cases i2 with
    | @lst b1 ys ds2 h2 k2 =>
      simp only [dAdd] at hz
      split at hz
      · rename_i hl
        cases hz
        exact op_cat pins s σ H _ _ v u Q I rx ry ⟨a1, b1, xs, ys, rfl, rfl, w.s _ _ h1, w.s _ _ h2, by rw [k1.length, k2.length, sizeLine_eq]; exact hl, fun p hp => q _ _ _ (new_lst w (k1.append k2) hp).1 (new_lst w (k1.append k2) hp).2⟩
      · cases hz
    | _ => cases hz
  | @tup a1 xs ds1 h1 k1 =>
    cases i2 with
    | @tup b1 ys ds2 h2 k2 =>
      simp only [dAdd] at hz
      split at hz
      · rename_i hl
        cases hz
        refine op_catA pins s σ H _ _ v u Q I rx ry ⟨a1, b1, xs, ys, rfl, rfl, SqT.sub h1 w.s, SqT.sub h2 w.s, by rw [k1.length, k2.length, sizeLine_eq]; exact hl, fun e => ?_, fun _ e => ?_, fun _ _ p hp => q _ _ _ (new_tup w (k1.append k2) hp).1 (new_tup w (k1.append k2) hp).2⟩
        · have e1 : ds1 = [] := List.eq_nil_of_length_eq_zero (by rw [← k1.length, e]; rfl)
          exact q _ G H (.refl w) (by rw [e1]; exact .tup h2 k2)
        · have e1 : ds2 = [] := List.eq_nil_of_length_eq_zero (by rw [← k2.length, e]; rfl)
          exact q _ G H (.refl w) (by rw [e1, List.append_nil]; exact .tup h1 k1)
      · cases hz
    | _ => cases hz
  | _ => cases hz
def dCat : D → D → Option D
  | .lst xs, .lst ys => if xs.length + ys.length ≤ 16777216 then some (.lst (xs ++ ys)) else none
  | _, _ => none
theorem opF_cat : OpF2 X (binaryOp .Add) dCat := by
  intro pins s σ H x y v u Q I rx ry h
  obtain ⟨R, G, d, e, z, w, i1, i2, hz, q⟩ := h
  cases i1 with
  | @lst a1 xs ds1 h1 k1 =>
    cases i2 with
    | @lst b1 ys ds2 h2 k2 =>
      simp only [dCat] at hz
      split at hz
      · rename_i hl
        cases hz
        exact op_cat pins s σ H _ _ v u Q I rx ry ⟨a1, b1, xs, ys, rfl, rfl, w.s _ _ h1, w.s _ _ h2, by rw [k1.length, k2.length, sizeLine_eq]; exact hl, q.lst (k1.append k2)⟩
      · cases hz
    | _ => cases hz
  | _ => cases hz
theorem mob_dCat : ∀ d e z, dCat d e = some z → (toMob z).isSome = true := fun d e z h => by
  unfold dCat at h
  split at h
  · split at h <;> cases h; rfl
  · cases h
/-- the lists' product is laid, the ints' is not too long -/
def mulB (i j : Int) : Bool := !(decide (Builtin.Int.intBits i > shortFactorBits) && decide (Builtin.Int.intBits j > shortFactorBits) && Builtin.Int.intTooBig (Builtin.Int.intBits i + Builtin.Int.intBits j))
theorem mulB_ok {i j : Int} (h : mulB i j = true) : IntMulOk i j := by
  unfold mulB at h
  unfold IntMulOk
  intro z
  rw [z] at h
  cases h
def dSub : D → D → Option D
  | .int i, .int j => some (.int (i - j))
  | _, _ => none
theorem op_dSub : Op2 X (binaryOp .Sub) dSub := by
  intro pins s σ H x y v u Q I rx ry h
  obtain ⟨R, G, d, e, z, w, i1, i2, hz, q⟩ := h
  cases i1 with
  | int i =>
    cases i2 with
    | int j => cases hz; exact op_sub pins s σ H _ _ v u Q I rx ry ⟨i, j, rfl, rfl, q _ G H (.refl w) (.int _)⟩
    | _ => cases hz
  | _ => cases hz
theorem op_mulM : OpR X (binaryOp .Mult) (rI (fun i j => IntMulOk i j) fun i j => .int (i * j)) := opI fun _ _ _ _ _ _ _ hc q => mul_int q hc
theorem IsAll.rep {K : PySem.W.Frag} {mg : Str → Option Value} {R : List Addr} {G : Hp} {vs : List V} {ds : List D} (h : IsAll K mg R G vs ds) : ∀ n : Nat, IsAll K mg R G (List.replicate n vs).flatten (List.replicate n ds).flatten
  | 0 => .nil
  | n + 1 => by simp only [List.replicate_succ, List.flatten_cons]; exact h.append (IsAll.rep h n)
def dMul : D → D → Option D
  | .int i, .int j => if mulB i j = true then some (.int (i * j)) else none
  | .lst xs, .int k => if -(2 ^ 63) ≤ k ∧ k < 2 ^ 63 ∧ xs.length * k.toNat ≤ 16777216 then some (.lst (List.replicate k.toNat xs).flatten) else none
  | _, _ => none
theorem op_dMul : Op2 X (binaryOp .Mult) dMul := by
  intro pins s σ H x y v u Q I rx ry h
  obtain ⟨R, G, d, e, z, w, i1, i2, hz, q⟩ := h
  cases i1 with
  | int i =>
    cases i2 with
    | int j =>
      simp only [dMul] at hz
      split at hz
      · rename_i hc
        cases hz
        exact op_mulM pins s σ H _ _ v u Q I rx ry ⟨i, j, rfl, rfl, mulB_ok hc, q _ G H (.refl w) (.int _)⟩
      · cases hz
    | _ => cases hz
  | @lst a1 xs ds1 h1 k1 =>
    cases i2 with
    | int k =>
      simp only [dMul] at hz
      split at hz
      · rename_i hc
        cases hz
        exact op_rep pins s σ H _ _ v u Q I rx ry ⟨a1, k, xs, rfl, rfl, w.s _ _ h1, hc.1, hc.2.1, by rw [k1.length, sizeLine_eq]; exact hc.2.2, fun p hp => q _ _ _ (new_lst w (k1.rep _) hp).1 (new_lst w (k1.rep _) hp).2⟩
      · cases hz
    | _ => cases hz
  | _ => cases hz
def dRep : D → D → Option D
  | .lst xs, .int k => if -(2 ^ 63) ≤ k ∧ k < 2 ^ 63 ∧ xs.length * k.toNat ≤ 16777216 then some (.lst (List.replicate k.toNat xs).flatten) else none
  | _, _ => none
theorem opF_rep : OpF2 X (binaryOp .Mult) dRep := by
  intro pins s σ H x y v u Q I rx ry h
  obtain ⟨R, G, d, e, z, w, i1, i2, hz, q⟩ := h
  cases i1 with
  | @lst a1 xs ds1 h1 k1 =>
    cases i2 with
    | int k =>
      simp only [dRep] at hz
      split at hz
      · rename_i hc
        cases hz
        exact op_rep pins s σ H _ _ v u Q I rx ry ⟨a1, k, xs, rfl, rfl, w.s _ _ h1, hc.1, hc.2.1, by rw [k1.length, sizeLine_eq]; exact hc.2.2, q.lst (k1.rep _)⟩
      · cases hz
    | _ => cases hz
  | _ => cases hz
theorem mob_dRep : ∀ d e z, dRep d e = some z → (toMob z).isSome = true := fun d e z h => by
  unfold dRep at h
  split at h
  · split at h <;> cases h; rfl
  · cases h
def dFdiv : D → D → Option D
  | .int i, .int j => if j ≠ 0 ∧ Builtin.divisionGoesByPylong i j = false then some (.int (i.fdiv j)) else none
  | _, _ => none
theorem op_fdivM : OpR X (binaryOp .FloorDiv) (rI (fun i j => j ≠ 0 ∧ Builtin.divisionGoesByPylong i j = false) fun i j => .int (i.fdiv j)) := opI fun _ _ _ _ _ _ _ hc q => floordiv_int hc.1 q (.inl hc.2)
theorem op_dFdiv : Op2 X (binaryOp .FloorDiv) dFdiv := by
  intro pins s σ H x y v u Q I rx ry h
  obtain ⟨R, G, d, e, z, w, i1, i2, hz, q⟩ := h
  cases i1 with
  | int i =>
    cases i2 with
    | int j =>
      simp only [dFdiv] at hz
      split at hz
      · rename_i hc
        cases hz
        exact op_fdivM pins s σ H _ _ v u Q I rx ry ⟨i, j, rfl, rfl, hc, q _ G H (.refl w) (.int _)⟩
      · cases hz
    | _ => cases hz
  | _ => cases hz
def dMod : D → D → Option D
  | .int i, .int j => if j ≠ 0 then some (.int (i.fmod j)) else none
  | _, _ => none
theorem op_dMod : Op2 X (binaryOp .Mod) dMod := by
  intro pins s σ H x y v u Q I rx ry h
  obtain ⟨R, G, d, e, z, w, i1, i2, hz, q⟩ := h
  cases i1 with
  | int i =>
    cases i2 with
    | int j =>
      simp only [dMod] at hz
      split at hz
      · rename_i hc
        cases hz
        exact op_modN pins s σ H _ _ v u Q I rx ry ⟨i, j, rfl, rfl, hc, q _ G H (.refl w) (.int _)⟩
      · cases hz
    | _ => cases hz
  | _ => cases hz
def dPow : D → D → Option D
  | .int i, .int j => if 0 ≤ j ∧ j ≤ 1000000 ∧ i.natAbs < 2 ^ 64 then some (.int (i ^ j.toNat)) else none
  | _, _ => none
theorem op_dPow : Op2 X (binaryOp .Pow) dPow := by
  intro pins s σ H x y v u Q I rx ry h
  obtain ⟨R, G, d, e, z, w, i1, i2, hz, q⟩ := h
  cases i1 with
  | int i =>
    cases i2 with
    | int j =>
      simp only [dPow] at hz
      split at hz
      · rename_i hc
        cases hz
        exact op_pow pins s σ H _ _ v u Q I rx ry ⟨i, j, rfl, rfl, hc, q _ G H (.refl w) (.int _)⟩
      · cases hz
    | _ => cases hz
  | _ => cases hz
def dNeg : D → Option D
  | .int i => some (.int (-i))
  | _ => none
theorem op_dNeg : Op1 X (unaryOp .USub) dNeg := by
  intro pins s σ H x v Q I rx h
  obtain ⟨R, G, d, z, w, i1, hz, q⟩ := h
  cases i1 with
  | int i => cases hz; exact un_neg pins s σ H _ v Q I rx ⟨i, rfl, q _ G H (.refl w) (.int _)⟩
  | _ => cases hz

/-! ### comparisons -/
def dInt2 (p : Int → Int → Bool) : D → D → Option D
  | .int i, .int j => some (.bl (p i j))
  | _, _ => none
theorem op_int2 {op : CmpOp} {p : Int → Int → Bool} (h : OpR X (compareOp op) (rI0 fun i j => .bl (p i j))) : Op2 X (compareOp op) (dInt2 p) := by
  intro pins s σ H x y v u Q I rx ry hh
  obtain ⟨R, G, d, e, z, w, i1, i2, hz, q⟩ := hh
  cases i1 with
  | int i =>
    cases i2 with
    | int j => cases hz; exact h pins s σ H _ _ v u Q I rx ry ⟨i, j, rfl, rfl, q _ G H (.refl w) (.bl _)⟩
    | _ => cases hz
  | _ => cases hz
abbrev dLt := dInt2 fun i j => decide (i < j)
abbrev dLe := dInt2 fun i j => decide (i ≤ j)
abbrev dGt := dInt2 fun i j => decide (j < i)
abbrev dGe := dInt2 fun i j => decide (j ≤ i)
theorem op_dLt : Op2 X (compareOp .Lt) dLt := op_int2 op_lt
theorem op_dLe : Op2 X (compareOp .LtE) dLe := op_int2 op_le
theorem op_dGt : Op2 X (compareOp .Gt) dGt := op_int2 op_gt
theorem op_dGe : Op2 X (compareOp .GtE) dGe := op_int2 op_ge
/-- is None, is True, is False -/
def dIs (neg : Bool) : D → D → Option D
  | .bl a, .bl b => some (.bl (neg != decide (a = b)))
  | .non, .non => some (.bl (!neg))
  | .hnd _, .non | .int _, .non | .bl _, .non | .str _, .non | .tup _, .non | .lst _, .non | .ins _ _, .non | .dic _, .non | .dit _, .non => some (.bl neg)
  | _, _ => none
theorem isnon {K : PySem.W.Frag} {mg : Str → Option Value} {R : List Addr} {G : Hp} {v : V} {d : D} (i : Is K mg R G v d) : decide (v = .non) = decide (d matches .non) := by
  cases i <;> rfl
theorem op_dIs : Op2 X (compareOp .Is) (dIs false) := by
  intro pins s σ H x y v u Q I rx ry h
  obtain ⟨R, G, d, e, z, w, i1, i2, hz, q⟩ := h
  have fin : ∀ k, x ≠ .non → k = V.non → z = .bl false → y = k → wpAny (model X.prog X.w) X.A (compareOp .Is v u) (EP X pins σ Q) X.xe s := fun k hx hk ez hy => by
    subst hy hk ez
    exact op_isN pins s σ H _ _ v u Q I rx ry ⟨rfl, by rw [decide_eq_false hx]; exact q _ G H (.refl w) (.bl _)⟩
  cases i2 with
  | non =>
    cases i1 with
    | non => cases hz; exact op_isN pins s σ H _ _ v u Q I rx ry ⟨rfl, q _ G H (.refl w) (.bl _)⟩
    | _ => first | (cases hz; exact fin _ (by intro z; cases z) rfl rfl rfl) | cases hz
  | bl b =>
    cases i1 with
    | bl a => cases hz; exact op_is_bl pins s σ H _ _ v u Q I rx ry ⟨a, b, rfl, rfl, q _ G H (.refl w) (by simpa using Is.bl _)⟩
    | _ => cases hz
  | _ => cases i1 <;> cases hz
theorem op_dIsNot : Op2 X (compareOp .IsNot) (dIs true) := by
  intro pins s σ H x y v u Q I rx ry h
  obtain ⟨R, G, d, e, z, w, i1, i2, hz, q⟩ := h
  have fin : ∀ k, x ≠ .non → k = V.non → z = .bl true → y = k → wpAny (model X.prog X.w) X.A (compareOp .IsNot v u) (EP X pins σ Q) X.xe s := fun k hx hk ez hy => by
    subst hy hk ez
    exact op_notN pins s σ H _ _ v u Q I rx ry ⟨rfl, by rw [decide_eq_false hx]; exact q _ G H (.refl w) (.bl _)⟩
  cases i2 with
  | non =>
    cases i1 with
    | non => cases hz; exact op_notN pins s σ H _ _ v u Q I rx ry ⟨rfl, q _ G H (.refl w) (.bl _)⟩
    | _ => first | (cases hz; exact fin _ (by intro z; cases z) rfl rfl rfl) | cases hz
  | bl b =>
    cases i1 with
    | bl a => cases hz; exact op_isnot_bl pins s σ H _ _ v u Q I rx ry ⟨a, b, rfl, rfl, q _ G H (.refl w) (by simpa using Is.bl _)⟩
    | _ => cases hz
  | _ => cases i1 <;> cases hz
end
end DX
set_option Elab.async false
set_option linter.all false
set_option maxRecDepth 100000
set_option maxHeartbeats 4000000
/-! DE: ==, repr, isinstance, subscripts, slices, fields, the common built-ins -/
namespace DX
open PySem PySem.Spec PyProof.Rows L2
variable [Tb]

/-! ### data: what == and repr see -/
mutual
def toPy : D → Option PyData
  | .non => some .none
  | .bl b => some (.bool b)
  | .int i => some (.int i)
  | .str x => some (.str x)
  | .tup ds => (toPyAll ds).map .tuple
  | .lst ds => (toPyAll ds).map .list
  | _ => none
def toPyAll : List D → Option (List PyData)
  | [] => some []
  | d :: ds => match toPy d, toPyAll ds with
    | some p, some ps => some (p :: ps)
    | _, _ => none
end
section
variable {K : PySem.W.Frag} {mg : Str → Option Value} {R : List Addr} {G H : Hp}
mutual
theorem Is.dp (s : Sub G H) : ∀ {v : V} {d : D} {p : PyData}, Is K mg R G v d → toPy d = some p → Dp K H v p
  | _, _, _, .non, e => by cases e; exact .non
  | _, _, _, .bl b, e => by cases e; exact .bl b
  | _, _, _, .int i, e => by cases e; exact .int i
  | _, _, _, .str x, e => by cases e; exact .str x
  | _, _, _, .tup (ds := ds) h k, e => by
    simp only [toPy] at e
    cases q : toPyAll ds with
    | none => rw [q] at e; cases e
    | some ps => rw [q] at e; cases e; exact .tup (SqT.sub h s) (IsAll.dp s k q)
  | _, _, _, .lst (ds := ds) h k, e => by
    simp only [toPy] at e
    cases q : toPyAll ds with
    | none => rw [q] at e; cases e
    | some ps => rw [q] at e; cases e; exact .lst (SqL.of (s _ _ h)) (IsAll.dp s k q)
  | _, _, _, .scr _ _, e => by simp [toPy] at e
  | _, _, _, .dic _ _ _, e => by simp [toPy] at e
  | _, _, _, .dit _ _ _, e => by simp [toPy] at e
  | _, _, _, .ins _ _ _ _, e => by simp [toPy] at e
  | _, _, _, .glb _, e => by simp [toPy] at e
  | _, _, _, .ty _, e => by simp [toPy] at e
  | _, _, _, .hnd _, e => by simp [toPy] at e
  | _, _, _, .lam _ _, e => by simp [toPy] at e
  | _, _, _, .exn _ _ _ _ _, e => by simp [toPy] at e
  | _, _, _, .ex0 _ _, e => by simp [toPy] at e
theorem IsAll.dp (s : Sub G H) : ∀ {vs : List V} {ds : List D} {ps : List PyData}, IsAll K mg R G vs ds → toPyAll ds = some ps → DpAll K H vs ps
  | _, _, _, .nil, e => by cases e; exact .nil
  | _, _, _, .cons (d := d) (ds := ds) h k, e => by
    simp only [toPyAll] at e
    cases q : toPy d with
    | none => rw [q] at e; cases e
    | some p =>
      cases q2 : toPyAll ds with
      | none => rw [q, q2] at e; cases e
      | some ps => rw [q, q2] at e; cases e; exact .cons (Is.dp s h q) (IsAll.dp s k q2)
end
end
def dEq (neg : Bool) : D → D → Option D := fun d e => match toPy d, toPy e with
  | some a, some b => if SeqAt.shaped a = true ∧ SeqAt.shaped b = true then some (.bl (neg != PyData.eqv a b)) else none
  | _, _ => none
theorem dEq_some {neg : Bool} {d e z : D} (h : dEq neg d e = some z) : ∃ a b, toPy d = some a ∧ toPy e = some b ∧ SeqAt.shaped a = true ∧ SeqAt.shaped b = true ∧ z = .bl (neg != PyData.eqv a b) := by
  unfold dEq at h
  cases q : toPy d with
  | none => rw [q] at h; cases h
  | some a =>
    cases q2 : toPy e with
    | none => rw [q, q2] at h; cases h
    | some b =>
      rw [q, q2] at h
      simp only at h
      split at h
      · rename_i hc
        cases h
        exact ⟨a, b, rfl, rfl, hc.1, hc.2, rfl⟩
      · cases h
structure RoomG (k : Nat) (A : Around) : Prop where
  r : Room k A
  g : A.guards = some []
theorem RoomG.mono {j k : Nat} {A : Around} (r : RoomG k A) (h : j ≤ k) : RoomG j A := ⟨r.r.mono h, r.g⟩
theorem RoomG.deeper {k : Nat} {A : Around} (r : RoomG (k + 1) A) (env : PySem.Env) : RoomG k (A.deeper env) := ⟨r.r.deeper env, r.g⟩
/-- what == and repr want of what stands around -/
structure Gd (A : Around) : Prop where
  un : A.units + 64 < cLine
  g : A.guards = some []
theorem RoomG.gd {k : Nat} {A : Around} (r : RoomG k A) : Gd A := ⟨r.r.units, r.g⟩
theorem Gd.mark {A : Around} (r : Gd A) (h : Option Value) : Gd (A.mark h) := ⟨r.un, r.g⟩
section
variable {X : Cx} {W : WX} {a b c : Expr} {es : List Expr} {pos : Pos} {k : Nat} {pins : List (Addr × Obj)} {s : Shared} {σ : L2.St} {H : Hp}
theorem op_dEq (hr : Gd X.A) : Op2 X (compareOp .Eq) (dEq false) := by
  intro pins s σ H x y v u Q I rx ry h
  obtain ⟨R, G, d, e, z, w, i1, i2, hz, q⟩ := h
  obtain ⟨p1, p2, h1, h2, s1, s2, rfl⟩ := dEq_some hz
  exact op_eqD hr.un pins s σ H _ _ v u Q I rx ry ⟨p1, p2, i1.dp w.s h1, i2.dp w.s h2, s1, s2, q _ G H (.refl w) (by simpa using Is.bl _)⟩
theorem op_dNe (hr : Gd X.A) : Op2 X (compareOp .NotEq) (dEq true) := by
  intro pins s σ H x y v u Q I rx ry h
  obtain ⟨R, G, d, e, z, w, i1, i2, hz, q⟩ := h
  obtain ⟨p1, p2, h1, h2, s1, s2, rfl⟩ := dEq_some hz
  exact op_neD hr.un pins s σ H _ _ v u Q I rx ry ⟨p1, p2, i1.dp w.s h1, i2.dp w.s h2, s1, s2, q _ G H (.refl w) (by simpa using Is.bl _)⟩

/-! ### repr -/
/-- leaves alone -/
def leafPy : D → Option PyData
  | .non => some .none
  | .bl b => some (.bool b)
  | .int i => some (.int i)
  | .str x => some (.str x)
  | _ => none
def leavesPy : List (Key × D) → Option (List (PyData × PyData))
  | [] => some []
  | (k, d) :: r => match leafPy d, leavesPy r with
    | some p, some ps => some ((match k with | .inl i => .int i | .inr x => .str x, p) :: ps)
    | _, _ => none
/-- what repr sees: data, or a dict of leaves -/
def toPyR : D → Option PyData
  | .dic kvs => (leavesPy kvs).map .dict
  | d => toPy d
end
theorem leaf_reads {h : Heap} {K : PySem.W.Frag} {mg : Str → Option Value} {R : List Addr} {G : Hp} {v : V} {u : Value} {d : D} {p : PyData} (i : Is K mg R G v d) (e : leafPy d = some p) (r : RelV v u) : Reads h u p [] := by
  cases i with
  | non => cases e; cases r; exact .none
  | bl b => cases e; cases r; exact .bool b
  | int j => cases e; obtain ⟨t, rfl⟩ := r; exact .int j t
  | str x => cases e; obtain ⟨t, rfl⟩ := r; exact .str x t
  | _ => cases e
mutual
theorem hasDict_toPy : ∀ {d : D} {p : PyData}, toPy d = some p → p.hasDict = false
  | .non, _, e => by cases e; rfl
  | .bl _, _, e => by cases e; rfl
  | .int _, _, e => by cases e; rfl
  | .str _, _, e => by cases e; rfl
  | .tup ds, _, e => by
    simp only [toPy] at e
    cases q : toPyAll ds with
    | none => rw [q] at e; cases e
    | some ps => rw [q] at e; cases e; simp only [PyData.hasDict]; exact hasDict_all q
  | .lst ds, _, e => by
    simp only [toPy] at e
    cases q : toPyAll ds with
    | none => rw [q] at e; cases e
    | some ps => rw [q] at e; cases e; simp only [PyData.hasDict]; exact hasDict_all q
  | .scr _, _, e => by simp [toPy] at e
  | .dic _, _, e => by simp [toPy] at e
  | .dit _, _, e => by simp [toPy] at e
  | .ins _ _, _, e => by simp [toPy] at e
  | .glb _, _, e => by simp [toPy] at e
  | .ty _, _, e => by simp [toPy] at e
  | .hnd _, _, e => by simp [toPy] at e
  | .lam _ _ _ _ _, _, e => by simp [toPy] at e
  | .exn _ _, _, e => by simp [toPy] at e
theorem hasDict_all : ∀ {ds : List D} {ps : List PyData}, toPyAll ds = some ps → PyData.hasDictAll ps = false
  | [], _, e => by cases e; rfl
  | d :: ds, _, e => by
    simp only [toPyAll] at e
    cases q : toPy d with
    | none => rw [q] at e; cases e
    | some p =>
      cases q2 : toPyAll ds with
      | none => rw [q, q2] at e; cases e
      | some ps => rw [q, q2] at e; cases e; simp only [PyData.hasDictAll, hasDict_toPy q, hasDict_all q2]; rfl
end
/-- a row of a dict's entries -/
theorem leaves_reads {h : Heap} {P : Program} {w : World} {K : PySem.W.Frag} {mg : Str → Option Value} {R : List Addr} {G : Hp} : ∀ {kvs : List (Key × V)} {ds : List (Key × D)} {vs : List (Key × Value)} {es : List DictEntry} {ps : List (PyData × PyData)},
    kvs.map (·.1) = ds.map (·.1) → IsAll K mg R G (kvs.map (·.2)) (ds.map (·.2)) → KV kvs vs → leavesPy ds = some ps → PySem.Pairs (mixKind P w) es vs →
    ReadsAll h (es.map (·.key)) (ps.map (·.1)) [] ∧ ReadsAll h (es.map (·.val)) (ps.map (·.2)) []
  | [], [], _, _, _, _, _, .nil, e, pr => by cases e; cases pr; exact ⟨.nil, .nil⟩
  | [], _ :: _, _, _, _, hk, _, _, _, _ => by simp at hk
  | _ :: _, [], _, _, _, hk, _, _, _, _ => by simp at hk
  | (k1, v1) :: kvs, (k2, d) :: ds, _, _, _, hk, i, .cons hr hrs, e, pr => by
    simp only [List.map_cons, List.cons.injEq] at hk
    cases pr with
    | cons p1 p1b p2 =>
      simp only [List.map_cons] at i
      cases i with
      | cons i1 i2 =>
        simp only [leavesPy] at e
        cases q : leafPy d with
        | none => rw [q] at e; cases e
        | some p =>
          cases q2 : leavesPy ds with
          | none => rw [q, q2] at e; cases e
          | some ps =>
            rw [q, q2] at e
            cases e
            obtain ⟨r1, r2⟩ := leaves_reads (h := h) (P := P) (w := w) hk.2 i2 hrs q2 p2
            refine ⟨?_, ?_⟩
            · refine ReadsAll.cons (as := []) ?_ r1
              have hk1 : keyIs _ _ = true := p1
              rw [← hr.1] at hk1
              have e12 : k1 = k2 := hk.1
              rcases keyIs_shape hk1 with ⟨i, t, h1, h2⟩ | ⟨x, t, h1, h2⟩
              · have h3 : k1 = Sum.inl i := h1
                subst h3
                subst e12
                show Reads h _ (.int i) []
                dsimp only
                rw [h2]
                exact .int i t
              · have h3 : k1 = Sum.inr x := h1
                subst h3
                subst e12
                show Reads h _ (.str x) []
                dsimp only
                rw [h2]
                exact .str x t
            · refine ReadsAll.cons (as := []) ?_ r2
              dsimp only
              rw [p1b]
              exact leaf_reads i1 q hr.2
section
variable {X : Cx} {k : Nat} {pins : List (Addr × Obj)} {s : Shared} {σ : L2.St} {H : Hp}
theorem is_readsR (I : Inv X pins σ H s) {R : List Addr} {G : Hp} {v : V} {u : Value} {d : D} {p : PyData} (w : W0 R G H) (i : Is X.K X.mg R G v d) (e : toPyR d = some p) (r : RelV v u) : ∃ as, Reads s.heap u p as ∧ (p.hasDict = true → sysModules ∉ as) := by
  have go : ∀ {d : D}, Is X.K X.mg R G v d → toPy d = some p → ∃ as, Reads s.heap u p as ∧ (p.hasDict = true → sysModules ∉ as) := fun i e => by
    obtain ⟨as, h⟩ := Dp.reads I p v u (i.dp w.s e) r
    exact ⟨as, h, fun z => by rw [hasDict_toPy e] at z; cases z⟩
  cases i with
  | @dic a kvs ds h1 h2 h3 =>
    simp only [toPyR] at e
    cases q : leavesPy ds with
    | none => rw [q] at e; cases e
    | some ps =>
      rw [q] at e
      cases e
      cases r
      obtain ⟨_, ns, vs, rv, o, es, ep, ho, hx, hd, _, pr, _⟩ := (show ObjOk X.prog X.w H s.heap a (.dK kvs) from I.hok a _ (w.s _ _ h1))
      obtain ⟨r1, r2⟩ := leaves_reads (h := s.heap) (P := X.prog) (w := X.w) h2 h3 rv q pr
      refine ⟨_, Reads.dict ho hx.1 hd r1 r2, fun _ hm => ?_⟩
      rcases List.mem_append.mp hm with hm | hm
      · rcases List.mem_cons.mp hm with hm | hm
        · rw [← hm] at ns; simp at ns
        · cases hm
      · cases hm
  | ex0 h1 h2 => exact go (.ex0 h1 h2) e
  | _ => exact go (by constructor <;> assumption) e
def dRepr : List D → Option D
  | [d] => match toPyR d with
    | some p => if p.showable = true ∧ p.depth ≤ 60 ∧ p.shown.length ≤ 16777216 then some (.str p.shown) else none
    | none => none
  | _ => none
theorem op_repr (hr : Gd X.A) : OpS X (.builtin "repr") dRepr := by
  intro pins s σ H xs us Q I r h
  obtain ⟨R, G, ds, z, w, i, hz, q⟩ := h
  unfold dRepr at hz
  split at hz
  · rename_i d
    cases i with
    | cons i1 i2 =>
      cases i2
      cases r with
      | cons r1 r2 =>
        cases r2
        rename_i v u
        cases e : toPyR d with
        | none => rw [e] at hz; cases hz
        | some p =>
          rw [e] at hz
          simp only at hz
          split at hz
          · rename_i hc
            cases hz
            obtain ⟨as, rd, hsm⟩ := is_readsR I w i1 e r1
            have fin : ∀ h' t tk, (∀ b o, s.heap.get? b = some o → h'.get? b = some o) → EP X pins σ Q (.str p.shown t) { s with heap := h', toks := tk } := fun h' t tk hk =>
              ⟨.str p.shown, H, I.kept (t' := tk) hk, ⟨t, rfl⟩, q _ G H (.refl w) (.str _)⟩
            have hu : X.A.units + (p.depth + 1) < cLine := by have := hr.un; omega
            cases rd with
            | none => exact PySem.P.repr_of_none (fin _ _ _ fun _ _ h => h)
            | bool b => exact PySem.P.repr_of_bool (fin _ _ _ fun _ _ h => h)
            | int i t =>
              have h1 := hc.1
              simp only [PyData.showable] at h1
              exact PySem.P.repr_of_int (of_decide_eq_true h1) (fin _ _ _ fun _ _ h => h)
            | str x t => exact PySem.P.repr_of_str (fin _ _ _ fun _ _ h => h) (by rw [sizeLine_eq]; exact hc.2.2)
            | list h1 h2 h3 h4 => exact repr_of_reads' (.list h1 h2 h3 h4) hc.1 hsm hr.g hu (fun _ _ e => e) (fun h' u tk hk => fin h' u tk hk) (by rw [sizeLine_eq]; exact hc.2.2)
            | tuple h1 h2 h3 h4 => exact repr_of_reads' (.tuple h1 h2 h3 h4) hc.1 hsm hr.g hu (fun _ _ e => e) (fun h' u tk hk => fin h' u tk hk) (by rw [sizeLine_eq]; exact hc.2.2)
            | dict h1 h2 h3 h4 h5 => exact repr_of_reads' (.dict h1 h2 h3 h4 h5) hc.1 hsm hr.g hu (fun _ _ e => e) (fun h' u tk hk => fin h' u tk hk) (by rw [sizeLine_eq]; exact hc.2.2)
          · cases hz
  · cases hz
end
end DX
set_option Elab.async false
set_option linter.all false
set_option maxRecDepth 100000
set_option maxHeartbeats 4000000
/-! DF: isinstance, subscripts, slices, fields, the common built-ins -/
namespace DX
open PySem PySem.Spec PyProof.Rows L2
variable [Tb]

/-! ### isinstance -/
def tys : List String := ["NoneType", "bool", "int", "str", "tuple", "list", "dict"]
/-- is a built-in class t (of a value) a subclass of n -/
def tyB (t n : String) : Option Bool := if tys.contains t && tys.contains n then some (t == n || (t == "bool" && n == "int")) else none
theorem tyB_ok : (tys.all fun t => tys.all fun n => kitB t n == some (t == n || (t == "bool" && n == "int"))) = true := by decide +kernel
theorem kit_tyB {K : PySem.W.Frag} {t n : String} {b : Bool} (h : tyB t n = some b) : PySem.W.kitOne K (.type t) (.type n) = some b := by
  unfold tyB at h
  split at h
  · rename_i hc
    cases h
    rw [Bool.and_eq_true] at hc
    have h1 := List.all_eq_true.mp tyB_ok t (List.contains_iff_mem.mp hc.1)
    have h2 := List.all_eq_true.mp h1 n (List.contains_iff_mem.mp hc.2)
    exact kit_ty (beq_iff_eq.mp h2)
  · cases h
/-- the kind of a value: a built-in class, or an own one -/
def dKind : D → Option (String ⊕ Str)
  | .non => some (.inl "NoneType")
  | .bl _ => some (.inl "bool")
  | .int _ => some (.inl "int")
  | .str _ => some (.inl "str")
  | .tup _ => some (.inl "tuple")
  | .lst _ => some (.inl "list")
  | .dic _ => some (.inl "dict")
  | .dit _ => some (.inl "dict")
  | .ins c _ => some (.inr c)
  | _ => none
/-- what of the text an own class c at C must have -/
structure OwnC (K : PySem.W.Frag) (C : Addr) : Prop where
  cl : Cls K C
  ha : PySem.W.findIn K (.ref C) "__class__" = some (some (.builtin "object.__class__"))
  hn : PySem.W.specialIn K (.builtin "object.__class__") "__get__" = some (some (.builtin "getset_descriptor.__get__"))
  htk : PySem.W.takesIn K (.builtin "object.__class__") = some true
  hm : PySem.W.mroIn K C (.type "object") = some true
  kb : ∀ n ∈ tys, PySem.W.kitOne K (.ref C) (.type n) = some false
  bk : ∀ t ∈ tys, PySem.W.kitOne K (.type t) (.ref C) = some false
/-- the own classes of a text: their names; tab c c' tells whether c is c' -/
structure OwnT (K : PySem.W.Frag) (mg : Str → Option Value) (tab : List Str) : Prop where
  at_ : ∀ c ∈ tab, ∃ C, mg c = some (.ref C) ∧ OwnC K C
  two : ∀ c ∈ tab, ∀ c' ∈ tab, ∀ C C', mg c = some (.ref C) → mg c' = some (.ref C') → PySem.W.kitOne K (.ref C) (.ref C') = some (c == c')
def isOne (tab : List Str) : String ⊕ Str → D → Option Bool
  | .inl t, .ty n => tyB t n
  | .inl t, .glb c => if tys.contains t && tab.contains c then some false else none
  | .inr c, .ty n => if tys.contains n && tab.contains c then some false else none
  | .inr c, .glb c' => if tab.contains c && tab.contains c' then some (c == c') else none
  | _, _ => none
def isAny (tab : List Str) (k : String ⊕ Str) : List D → Option Bool
  | [] => some false
  | c :: cs => match isOne tab k c with
    | some true => some true
    | some false => isAny tab k cs
    | none => none
def clsD : D → Bool
  | .ty _ | .glb _ => true
  | _ => false
def dIsi (tab : List Str) : List D → Option D
  | [d, .tup cs] => if (!cs.isEmpty && cs.all clsD) = true then match dKind d with
      | some k => (isAny tab k cs).map .bl
      | none => none
    else none
  | [d, c] => match dKind d with
    | some k => (isOne tab k c).map .bl
    | none => none
  | _ => none
section
variable {K : PySem.W.Frag} {mg : Str → Option Value} {R : List Addr} {G H : Hp}
def kindV (mg : Str → Option Value) : String ⊕ Str → Value → Prop
  | .inl t, u => u = .type t
  | .inr c, u => ∃ C, mg c = some (.ref C) ∧ u = .ref C
theorem kind_of {tab : List Str} (T : OwnT K mg tab) (s : Sub G H) {v : V} {d : D} {k : String ⊕ Str} (i : Is K mg R G v d) (h : dKind d = some k) (hk : ∀ c, k = .inr c → c ∈ tab) : ∃ t, kindV mg k t ∧ TyX K H v t := by
  cases i with
  | non => cases h; exact ⟨_, rfl, .base .non⟩
  | bl b => cases h; exact ⟨_, rfl, .base (.bl b)⟩
  | int j => cases h; exact ⟨_, rfl, .base (.int j)⟩
  | str x => cases h; exact ⟨_, rfl, .base (.str x)⟩
  | tup t _ =>
    cases h
    rcases t with t | ⟨o, its, n, h1, h2, _⟩
    · exact ⟨_, rfl, .base (.tup (s _ _ t))⟩
    · exact ⟨_, rfl, .kTuple h1 h2⟩
  | lst t _ => cases h; exact ⟨_, rfl, .base (.lst (s _ _ t))⟩
  | dic t _ _ => cases h; exact ⟨_, rfl, .base (.dK (s _ _ t))⟩
  | dit t _ _ => cases h; exact ⟨_, rfl, .base (.dT (s _ _ t))⟩
  | @ins a C dx c fs ds hc t _ _ =>
    cases h
    obtain ⟨C', h1, h2⟩ := T.at_ c (hk c rfl)
    rw [hc] at h1
    cases h1
    exact ⟨_, ⟨C, hc, rfl⟩, .base (.ins (s _ _ t) h2.cl h2.ha h2.hn h2.htk h2.hm)⟩
  | _ => cases h
theorem isOne_tab {tab : List Str} {k : String ⊕ Str} {c : D} {b : Bool} (h : isOne tab k c = some b) : ∀ c, k = .inr c → c ∈ tab := fun x e => by
  subst e
  cases c with
  | ty n =>
    simp only [isOne] at h
    split at h
    · rename_i hc; rw [Bool.and_eq_true] at hc; exact List.contains_iff_mem.mp hc.2
    · cases h
  | glb y =>
    simp only [isOne] at h
    split at h
    · rename_i hc; rw [Bool.and_eq_true] at hc; exact List.contains_iff_mem.mp hc.1
    · cases h
  | _ => cases h
theorem one_of {tab : List Str} (T : OwnT K mg tab) {v : V} {c : D} {k : String ⊕ Str} {t : Value} {b : Bool} (i : Is K mg R G v c) (ht : kindV mg k t) (h : isOne tab k c = some b) : ∃ u, ClsV v u ∧ PySem.W.kitOne K t u = some b := by
  cases i with
  | ty n =>
    refine ⟨.type n, .ty n, ?_⟩
    cases k with
    | inl t' => cases ht; exact kit_tyB h
    | inr c' =>
      simp only [isOne] at h
      split at h
      · rename_i hc
        cases h
        rw [Bool.and_eq_true] at hc
        obtain ⟨C, h1, rfl⟩ := ht
        obtain ⟨C', h2, h3⟩ := T.at_ c' (List.contains_iff_mem.mp hc.2)
        rw [h1] at h2
        cases h2
        exact h3.kb n (List.contains_iff_mem.mp hc.1)
      · cases h
  | @glb a x hx =>
    refine ⟨.ref a, .own a, ?_⟩
    cases k with
    | inl t' =>
      simp only [isOne] at h
      split at h
      · rename_i hc
        cases h
        cases ht
        rw [Bool.and_eq_true] at hc
        obtain ⟨C', h2, h3⟩ := T.at_ x (List.contains_iff_mem.mp hc.2)
        rw [hx] at h2
        cases h2
        exact h3.bk t' (List.contains_iff_mem.mp hc.1)
      · cases h
    | inr c' =>
      simp only [isOne] at h
      split at h
      · rename_i hc
        cases h
        obtain ⟨C, h1, rfl⟩ := ht
        rw [Bool.and_eq_true] at hc
        exact T.two _ (List.contains_iff_mem.mp hc.1) _ (List.contains_iff_mem.mp hc.2) _ _ h1 hx
      · cases h
  | _ => cases k <;> cases h
theorem cls_of {v : V} {c : D} (i : Is K mg R G v c) (h : clsD c = true) : ∃ u, ClsV v u := by
  cases i with
  | ty n => exact ⟨_, .ty n⟩
  | glb h => exact ⟨_, .own _⟩
  | _ => cases h
theorem clss_of : ∀ {vs : List V} {cs : List D}, IsAll K mg R G vs cs → cs.all clsD = true → ∃ us, Paired ClsV vs us
  | _, _, .nil, _ => ⟨[], .nil⟩
  | _, _, .cons i k, h => by
    simp only [List.all_cons, Bool.and_eq_true] at h
    obtain ⟨u, hu⟩ := cls_of i h.1
    obtain ⟨us, hus⟩ := clss_of k h.2
    exact ⟨u :: us, .cons hu hus⟩
theorem any_of {tab : List Str} (T : OwnT K mg tab) {k : String ⊕ Str} {t : Value} (ht : kindV mg k t) : ∀ {vs : List V} {cs : List D} {b : Bool}, IsAll K mg R G vs cs → cs.all clsD = true → isAny tab k cs = some b → ∃ us, Paired ClsV vs us ∧ PySem.W.kitAny K t us = some b
  | _, _, _, .nil, _, h => by cases h; exact ⟨[], .nil, kitAny_nil⟩
  | _, _, b, .cons (d := c) (ds := cs) i is_, ha, h => by
    simp only [List.all_cons, Bool.and_eq_true] at ha
    simp only [isAny] at h
    cases q : isOne tab k c with
    | none => rw [q] at h; cases h
    | some x =>
      rw [q] at h
      obtain ⟨u, hu, hk⟩ := one_of T i ht q
      cases x with
      | true =>
        cases h
        obtain ⟨us, hus⟩ := clss_of is_ ha.2
        exact ⟨u :: us, .cons hu hus, kitAny_cons hk (fun z => nomatch z) fun _ => rfl⟩
      | false =>
        obtain ⟨us, hus, hks⟩ := any_of T ht is_ ha.2 h
        exact ⟨u :: us, .cons hu hus, kitAny_cons hk (fun _ => hks) fun z => nomatch z⟩
theorem any_tab {tab : List Str} {k : String ⊕ Str} : ∀ {cs : List D} {b : Bool}, isAny tab k cs = some b → cs ≠ [] → ∀ c, k = .inr c → c ∈ tab
  | [], _, _, h => absurd rfl h
  | c :: cs, b, h, _ => by
    simp only [isAny] at h
    cases q : isOne tab k c with
    | none => rw [q] at h; cases h
    | some x => exact isOne_tab q
end
section
variable {X : Cx} {k : Nat}
theorem op_isi {tab : List Str} (T : OwnT X.K X.mg tab) : OpS X (.builtin "isinstance") (dIsi tab) := by
  intro pins s σ H xs us Q I r h
  obtain ⟨R, G, ds, z, w, i, hz, q⟩ := h
  unfold dIsi at hz
  split at hz
  · rename_i d cs
    cases i with
    | cons i1 i2 =>
      cases i2 with
      | cons i2 i3 =>
        cases i3
        split at hz
        · rename_i hc
          cases q1 : dKind d with
          | none => rw [q1] at hz; cases hz
          | some kd =>
            rw [q1] at hz
            cases q2 : isAny tab kd cs with
            | none => simp only [q2] at hz; cases hz
            | some b =>
              simp only [q2] at hz
              cases hz
              simp only [Bool.and_eq_true, Bool.not_eq_true'] at hc
              obtain ⟨t, ht, ty⟩ := kind_of T w.s i1 q1 (any_tab q2 (by intro e; rw [e] at hc; simp at hc))
              have fin : Q (.bl b) H := q _ G H (.refl w) (.bl b)
              cases i2 with
              | tup hT hA =>
                obtain ⟨us', hus, hks⟩ := any_of T ht hA hc.2 q2
                rcases hT with hT | ⟨o, its, n, h1, h2, h3, h4, h5⟩
                · exact call_isiT pins s σ H _ us Q I r ⟨_, _, _, t, us', b, rfl, w.s _ _ hT, hus, ty, hks, fin⟩
                · obtain ⟨oc, od, dt, sl⟩ := o
                  simp only at h2 h3
                  subst h2 h3
                  have e := ClsV.all hus h5
                  rw [← e] at hks
                  exact call_isiK pins s σ H _ us Q I r ⟨_, _, od, its.toList, n, sl, t, b, rfl, by simpa using h1, ty, hks, fin⟩
        · cases hz
  · rename_i d c _
    cases i with
    | cons i1 i2 =>
      cases i2 with
      | cons i2 i3 =>
        cases i3
        cases q1 : dKind d with
        | none => rw [q1] at hz; cases hz
        | some kd =>
          rw [q1] at hz
          cases q2 : isOne tab kd c with
          | none => simp only [q2] at hz; cases hz
          | some b =>
            simp only [q2] at hz
            cases hz
            obtain ⟨t, ht, ty⟩ := kind_of T w.s i1 q1 (isOne_tab q2)
            obtain ⟨u, hu, hk⟩ := one_of T i2 ht q2
            exact call_isi pins s σ H _ us Q I r ⟨_, _, t, u, b, rfl, hu, ty, hk, q _ G H (.refl w) (.bl b)⟩
  · cases hz

/-! ### subscripts and slices -/
def dIx : D → D → Option D
  | .tup xs, .int i => atI xs i
  | .lst xs, .int i => atI xs i
  | .str z, .int i => if z.length ≤ 16777216 then (atI z.cps.toList i).map fun c => .str ⟨#[c]⟩ else none
  | _, _ => none
theorem IsAll.atI {K : PySem.W.Frag} {mg : Str → Option Value} {R : List Addr} {G : Hp} {vs : List V} {ds : List D} {i : Int} {d : D} (h : IsAll K mg R G vs ds) (e : atI ds i = some d) : ∃ v, atI vs i = some v ∧ Is K mg R G v d := by
  unfold L2.atI at e ⊢
  rw [h.length]
  cases q : ixN ds.length i with
  | none => rw [q] at e; cases e
  | some j => rw [q] at e; exact h.get e
theorem ix_d : IxR X (rP2 X.K X.mg dIx) := by
  intro value slice pins s σ H x y v u Q I rx ry h hs
  obtain ⟨R, G, d, e, z, w, i1, i2, hz, q⟩ := h
  cases i1 with
  | tup hT hA =>
    cases i2 with
    | int i =>
      obtain ⟨v', e1, i'⟩ := hA.atI hz
      exact ix_tup value slice pins s σ H _ _ v u Q I rx ry ⟨_, _, i, v', rfl, rfl, SqT.sub hT w.s, e1, q _ G H (.refl w) i'⟩ hs
    | _ => cases hz
  | lst hT hA =>
    cases i2 with
    | int i =>
      obtain ⟨v', e1, i'⟩ := hA.atI hz
      exact ix_list value slice pins s σ H _ _ v u Q I rx ry ⟨_, _, i, v', rfl, rfl, SqL.of (w.s _ _ hT), e1, q _ G H (.refl w) i'⟩ hs
    | _ => cases hz
  | str x =>
    cases i2 with
    | int i =>
      simp only [dIx] at hz
      split at hz
      · rename_i hl
        cases e1 : atI x.cps.toList i with
        | none => rw [e1] at hz; cases hz
        | some c =>
          rw [e1] at hz
          cases hz
          exact ix_str value slice pins s σ H _ _ v u Q I rx ry ⟨x, i, c, rfl, rfl, by rw [sizeLine_eq]; exact hl, e1, q _ G H (.refl w) (.str _)⟩ hs
      · cases hz
    | _ => cases hz
  | _ => cases hz
variable {W : WX} {a b c : Expr} {es : List Expr} {pos : Pos}
theorem e_ix {m n : Env' → M D} (ha : E' X W a m) (hb : E' X W b n) (hs : PlainIx b := by intro _ _; rfl) : E' X W (.Subscript a b pos) (fun ρ => M.bind (m ρ) fun x => M.bind (n ρ) fun y => liftO (dIx x y)) :=
  PE.weak (pe_ix ix_d ha hb hs) fun σ H Q h => two (r := rP2 X.K X.mg dIx) h
abbrev O' (X : Cx) (W : WX) (e : Option Expr) (m : Env' → M (Option Int)) : Prop := PO X e (tD X.K X.mg W rEq m)
def asI : D → Option Int
  | .int i => some i
  | _ => none
theorem o_none : O' X W none (fun _ => M.pure none) := ⟨fun pins s σ H Q I h => by
  obtain ⟨R, G, ρ, μ, w, h⟩ := h
  exact po_none.run pins s σ H Q I (pure_after h w.w0 w.mu rfl)⟩
theorem o_some {m : Env' → M D} (ha : E' X W a m) : O' X W (some a) (fun ρ => M.bind (m ρ) fun x => liftO ((asI x).map some)) := ⟨fun pins s σ H Q I h => by
  refine (po_some ha).run pins s σ H Q I ?_
  obtain ⟨R, G, ρ, μ, w, h⟩ := tD.bind (rel := rIs X.K X.mg) h
  refine ⟨R, G, ρ, μ, w, h.imp fun v H1 ⟨R1, G1, ρ1, μ1, d, w1, i1, q1⟩ => ?_⟩
  obtain ⟨z, hz, q⟩ := after_lift w1.mu q1
  cases i1 with
  | int i => cases hz; exact ⟨i, rfl, q _ G1 H1 (.refl w1.w0) rfl⟩
  | _ => cases hz⟩
def cutD (xs : List D) (lo hi : Option Int) : List D := (xs.drop (HT.sIx xs.length 0 lo)).take (HT.sIx xs.length xs.length hi - HT.sIx xs.length 0 lo)
theorem IsAll.cut {K : PySem.W.Frag} {mg : Str → Option Value} {R : List Addr} {G : Hp} {vs : List V} {ds : List D} {lo hi : Option Int} (h : IsAll K mg R G vs ds) : IsAll K mg R G (cutV vs lo hi) (cutD ds lo hi) := by
  unfold cutV cutD
  rw [h.length]
  exact (h.drop _).take _
theorem cutD_all {ds : List D} {lo hi : Option Int} (h : HT.sIx ds.length 0 lo = 0 ∧ HT.sIx ds.length ds.length hi = ds.length) : cutD ds lo hi = ds := by
  unfold cutD
  rw [h.1, h.2]
  simp
def dSl : D → Option Int → Option Int → Option D
  | .lst xs, lo, hi => some (.lst (cutD xs lo hi))
  | .tup xs, lo, hi => some (.tup (cutD xs lo hi))
  | .str z, lo, hi => if z.length ≤ 16777216 then some (.str (cutS z lo hi)) else none
  | _, _, _ => none
def rSl (K : PySem.W.Frag) (mg : Str → Option Value) : V → Option Int → Option Int → Hp → VK → Prop := fun x lo hi H Q => ∃ R G d z, W0 R G H ∧ Is K mg R G x d ∧ dSl d lo hi = some z ∧ ∀ v G' H', Grow R G H G' H' → Is K mg R G' v z → Q v H'
theorem sl_d : SlR X (rSl X.K X.mg) := by
  intro pins s σ H x v vl vu lo hi sl Q I rx hs pl pu h
  obtain ⟨R, G, d, z, w, i1, hz, q⟩ := h
  cases i1 with
  | lst hT hA =>
    cases hz
    exact sl_list pins s σ H _ v vl vu lo hi sl Q I rx hs pl pu ⟨_, _, rfl, SqL.of (w.s _ _ hT), fun p hp => q _ _ _ (new_lst w hA.cut hp).1 (new_lst w hA.cut hp).2⟩
  | tup hT hA =>
    cases hz
    refine sl_tupA pins s σ H _ v vl vu lo hi sl Q I rx hs pl pu ⟨_, _, rfl, SqT.sub hT w.s, fun e => ?_, fun _ p hp => q _ _ _ (new_tup w hA.cut hp).1 (new_tup w hA.cut hp).2⟩
    rw [hA.length] at e
    exact q _ G H (.refl w) (by rw [cutD_all e]; exact .tup hT hA)
  | str x =>
    simp only [dSl] at hz
    split at hz
    · rename_i hl
      cases hz
      exact sl_str pins s σ H _ v vl vu lo hi sl Q I rx hs pl pu ⟨x, rfl, by rw [sizeLine_eq]; exact hl, q _ G H (.refl w) (.str _)⟩
    · cases hz
  | _ => cases hz
theorem e_sl {lo hi : Option Expr} {m : Env' → M D} {n1 n2 : Env' → M (Option Int)} {p2 : Pos} (ha : E' X W a m) (hl : O' X W lo n1) (hh : O' X W hi n2) :
    E' X W (.Subscript a (.Slice lo hi none p2) pos) (fun ρ => M.bind (m ρ) fun x => M.bind (n1 ρ) fun l => M.bind (n2 ρ) fun h => liftO (dSl x l h)) :=
  PE.weak (pe_slice sl_d ha hl hh) fun σ H Q h => by
    obtain ⟨R, G, ρ, μ, w, h⟩ := tD.bind (rel := rIs X.K X.mg) h
    refine ⟨R, G, ρ, μ, w, h.imp fun v H1 ⟨R1, G1, ρ1, μ1, d, w1, i1, q1⟩ => ⟨R1, G1, ρ1, μ1, w1, (After.bind (rel := rEq) q1).imp fun l H2 ⟨R2, G2, l', μ2, x2, el, m2, q2⟩ => ?_⟩⟩
    cases (show l = l' from el)
    have w2 := w1.ext x2 m2
    refine ⟨R2, G2, ρ1, μ2, w2, (After.bind (rel := rEq) q2).imp fun u H3 ⟨R3, G3, u', μ3, x3, eu, m3, q3⟩ => ?_⟩
    cases (show u = u' from eu)
    obtain ⟨z, hz, q⟩ := after_lift m3 q3
    exact ⟨R3, G3, d, z, (w2.ext x3 m3).w0, (i1.mono x2.g x2.idx).mono x3.g x3.idx, hz, q⟩
/-- xs[::-1] of a list -/
def dRev : D → Option D
  | .lst xs => some (.lst xs.reverse)
  | _ => none
theorem f_rev {m : Env' → M D} {k : Nat} {p1 p2 p3 : Pos} (ha : E' X W a m) : F' X W (.Subscript a (.Slice none none (some (.UnaryOp .USub (.Constant (.int 1) k p1) p2)) p3) pos) (fun ρ => M.bind (m ρ) fun x => liftO (dRev x)) :=
  PE.weak (pe_revL ha) fun σ H Q h => by
    obtain ⟨R, G, ρ, μ, w, h⟩ := tD.bind (rel := rIs X.K X.mg) h
    refine ⟨R, G, ρ, μ, w, h.imp fun v H1 ⟨R1, G1, ρ1, μ1, d, w1, i1, q1⟩ => ?_⟩
    obtain ⟨z, hz, q⟩ := fr_end (z := .non) w1.w0 w1.mu (fun z e => by cases d <;> cases e; rfl) q1
    cases i1 with
    | lst hT hA => cases hz; exact ⟨_, _, rfl, SqL.of (w1.s _ _ hT), q.lst hA.reverse⟩
    | _ => cases hz

/-! ### fields of instances that stay as they are -/
def dFld (cs : List Str) (f : Str) : D → Option D
  | .ins c fs => if cs.contains c then fs.lookup f else none
  | _ => none
theorem lookup_is {K : PySem.W.Frag} {mg : Str → Option Value} {R : List Addr} {G : Hp} {f : Str} {d : D} : ∀ {fs : List (Str × V)} {ds : List (Str × D)}, fs.map (·.1) = ds.map (·.1) → IsAll K mg R G (fs.map (·.2)) (ds.map (·.2)) → ds.lookup f = some d → ∃ v, fs.lookup f = some v ∧ Is K mg R G v d
  | [], [], _, _, e => by cases e
  | [], _ :: _, h, _, _ => by simp at h
  | _ :: _, [], h, _, _ => by simp at h
  | (k1, v) :: fs, (k2, d') :: ds, h, i, e => by
    simp only [List.map_cons, List.cons.injEq] at h
    simp only [List.map_cons] at i
    obtain ⟨rfl, h2⟩ := h
    cases i with
    | cons i1 i2 =>
      simp only [List.lookup] at e ⊢
      cases q : f == k1 with
      | true => rw [q] at e; cases e; exact ⟨v, rfl, i1⟩
      | false => rw [q] at e; exact lookup_is h2 i2 e
theorem e_fld {f : Str} {cs : List Str} {m : Env' → M D} (hc : ∀ c ∈ cs, ∃ C, X.mg c = some (.ref C) ∧ Cls X.K C ∧ NoAttr X.K C f) (ha : E' X W a m) (hb : attributeBase a f X.env (eval a X.env) = eval a X.env := by rfl) :
    E' X W (.Attribute a f pos) (fun ρ => M.bind (m ρ) fun x => liftO (dFld cs f x)) :=
  PE.weak (pe_fld ha hb) fun σ H Q h => by
    obtain ⟨R, G, ρ, μ, w, h⟩ := tD.bind (rel := rIs X.K X.mg) h
    refine ⟨R, G, ρ, μ, w, h.imp fun v H1 ⟨R1, G1, ρ1, μ1, d, w1, i1, q1⟩ => ?_⟩
    obtain ⟨z, hz, q⟩ := after_lift w1.mu q1
    cases i1 with
    | @ins a C dx c fs ds hcl hT he hA =>
      simp only [dFld] at hz
      split at hz
      · rename_i hcs
        obtain ⟨C', h1, h2, h3⟩ := hc c (List.contains_iff_mem.mp hcs)
        rw [hcl] at h1
        cases h1
        obtain ⟨v', e1, i'⟩ := lookup_is he hA hz
        exact ⟨a, C, dx, fs, v', rfl, w1.s _ _ hT, h2, h3, e1, q _ G1 H1 (.refl w1.w0) i'⟩
      · cases hz
    | _ => cases hz

/-! ### len, abs, int, str, tuple, list, sum, max, min, any, all -/
def d1 (g : D → Option D) : List D → Option D
  | [d] => g d
  | _ => none
theorem op_one {f : Value} {g : D → Option D} (h : ∀ (pins : List (Addr × Obj)) (s : Shared) (σ : L2.St) (H : Hp) (x : V) (us : List Value) (Q : VK) (R : List Addr) (G : Hp) (d z : D), Inv X pins σ H s → Vals [x] us → W0 R G H → Is X.K X.mg R G x d → g d = some z →
    (∀ v G' H', Grow R G H G' H' → Is X.K X.mg R G' v z → Q v H') → wpAny (model X.prog X.w) X.A (call f us) (EP X pins σ Q) X.xe s) : OpS X f (d1 g) := by
  intro pins s σ H xs us Q I r hh
  obtain ⟨R, G, ds, z, w, i, hz, q⟩ := hh
  unfold d1 at hz
  split at hz
  · cases i with
    | cons i1 i2 => cases i2; exact h pins s σ H _ us Q R G _ z I r w i1 hz q
  · cases hz
def dLen : D → Option D
  | .tup xs => some (.int xs.length)
  | .lst xs => some (.int xs.length)
  | .scr xs => some (.int xs.length)
  | .str z => if z.length ≤ 16777216 then some (.int z.length) else none
  | .dic xs => some (.int xs.length)
  | _ => none
theorem op_len : OpS X (.builtin "len") (d1 dLen) := op_one fun pins s σ H x us Q R G d z I r w i hz q => by
  cases i with
  | tup hT hA => cases hz; exact call_len_seq pins s σ H _ us Q I r ⟨_, _, rfl, .inr (SqT.sub hT w.s), by rw [hA.length]; exact q _ G H (.refl w) (.int _)⟩
  | lst hT hA => cases hz; exact call_len_seq pins s σ H _ us Q I r ⟨_, _, rfl, .inl (SqL.of (w.s _ _ hT)), by rw [hA.length]; exact q _ G H (.refl w) (.int _)⟩
  | scr hT hA => cases hz; exact call_len_seq pins s σ H _ us Q I r ⟨_, _, rfl, .inl (SqL.sub hT w.s), by rw [hA.length]; exact q _ G H (.refl w) (.int _)⟩
  | str z =>
    simp only [dLen] at hz
    split at hz
    · rename_i hl
      cases hz
      exact call_len_str pins s σ H _ us Q I r ⟨z, rfl, by rw [sizeLine_eq]; exact hl, q _ G H (.refl w) (.int _)⟩
    · cases hz
  | dic hT e hA => cases hz; exact call_lenD pins s σ H _ us Q I r ⟨_, _, rfl, w.s _ _ hT, by rw [map_len e]; exact q _ G H (.refl w) (.int _)⟩
  | _ => cases hz
def dAbs : D → Option D
  | .int i => some (.int (if i < 0 then -i else i))
  | _ => none
theorem op_abs : OpS X (.builtin "abs") (d1 dAbs) := op_one fun pins s σ H x us Q R G d z I r w i hz q => by
  cases i with
  | int i => cases hz; exact call_abs pins s σ H _ us Q I r ⟨i, rfl, q _ G H (.refl w) (.int _)⟩
  | _ => cases hz
def dInt : D → Option D
  | .int i => some (.int i)
  | _ => none
theorem op_int : OpS X (.type "int") (d1 dInt) := op_one fun pins s σ H x us Q R G d z I r w i hz q => by
  cases i with
  | int i => cases hz; exact call_int1 pins s σ H _ us Q I r (.inl ⟨i, rfl, q _ G H (.refl w) (.int _)⟩)
  | _ => cases hz
def dStr : D → Option D
  | .int i => if i.natAbs.log2 < 1920 then some (.str (toString i)) else none
  | _ => none
theorem op_str : OpS X (.type "str") (d1 dStr) := op_one fun pins s σ H x us Q R G d z I r w i hz q => by
  cases i with
  | int i =>
    simp only [dStr] at hz
    split at hz
    · rename_i hl
      cases hz
      exact call_str_int pins s σ H _ us Q I r ⟨i, rfl, hl, q _ G H (.refl w) (.str _)⟩
    · cases hz
  | _ => cases hz
def dTuple : D → Option D
  | .lst xs => some (.tup xs)
  | .tup xs => some (.tup xs)
  | .scr xs => some (.tup xs)
  | _ => none
theorem op_tuple : OpS X (.type "tuple") (d1 dTuple) := op_one fun pins s σ H x us Q R G d z I r w i hz q => by
  cases i with
  | lst hT hA => cases hz; exact call_tuple_of pins s σ H _ us Q I r ⟨_, _, rfl, .inl ⟨SqL.of (w.s _ _ hT), fun p hp => q _ _ _ (new_tup w hA hp).1 (new_tup w hA hp).2⟩⟩
  | scr hT hA => cases hz; exact call_tuple_of pins s σ H _ us Q I r ⟨_, _, rfl, .inl ⟨SqL.sub hT w.s, fun p hp => q _ _ _ (new_tup w hA hp).1 (new_tup w hA hp).2⟩⟩
  | tup hT hA => cases hz; exact call_tuple_of pins s σ H _ us Q I r ⟨_, _, rfl, .inr ⟨SqT.sub hT w.s, q _ G H (.refl w) (.tup hT hA)⟩⟩
  | _ => cases hz
def dList : D → Option D
  | .lst xs => some (.lst xs)
  | .tup xs => some (.lst xs)
  | .scr xs => some (.lst xs)
  | _ => none
theorem opF_list : OpFs X (.type "list") (d1 dList) := by
  intro pins s σ H xs us Q I r hh
  obtain ⟨R, G, ds, z, w, i, hz, q⟩ := hh
  unfold d1 at hz
  split at hz
  · cases i with
    | cons i1 i2 =>
      cases i2
      cases i1 with
      | lst hT hA => cases hz; exact call_list_of pins s σ H _ us Q I r ⟨_, _, rfl, .inl (SqL.of (w.s _ _ hT)), q.lst hA⟩
      | scr hT hA => cases hz; exact call_list_of pins s σ H _ us Q I r ⟨_, _, rfl, .inl (SqL.sub hT w.s), q.lst hA⟩
      | tup hT hA => cases hz; exact call_list_of pins s σ H _ us Q I r ⟨_, _, rfl, .inr (SqT.sub hT w.s), q.lst hA⟩
      | _ => cases hz
  · cases hz
theorem mob_dList : ∀ ds z, d1 dList ds = some z → (toMob z).isSome = true := fun ds z h => by
  unfold d1 at h
  split at h
  · rename_i d; cases d <;> cases h <;> rfl
  · cases h
/-- a row of ints, of bools -/
def intsD : List D → Option (List Int)
  | [] => some []
  | .int i :: r => (intsD r).map (i :: ·)
  | _ => none
def blsD : List D → Option (List Bool)
  | [] => some []
  | .bl i :: r => (blsD r).map (i :: ·)
  | _ => none
theorem ints_is {K : PySem.W.Frag} {mg : Str → Option Value} {R : List Addr} {G : Hp} : ∀ {vs : List V} {ds : List D} {ns : List Int}, IsAll K mg R G vs ds → intsD ds = some ns → vs = ns.map V.int
  | _, _, _, .nil, e => by cases e; rfl
  | _, _, _, .cons (ds := ds) h k, e => by
    cases h with
    | int i =>
      simp only [intsD] at e
      cases q : intsD ds with
      | none => rw [q] at e; cases e
      | some ms => rw [q] at e; cases e; rw [ints_is k q]; rfl
    | _ => cases e
theorem bls_is {K : PySem.W.Frag} {mg : Str → Option Value} {R : List Addr} {G : Hp} : ∀ {vs : List V} {ds : List D} {ns : List Bool}, IsAll K mg R G vs ds → blsD ds = some ns → vs = ns.map V.bl
  | _, _, _, .nil, e => by cases e; rfl
  | _, _, _, .cons (ds := ds) h k, e => by
    cases h with
    | bl i =>
      simp only [blsD] at e
      cases q : blsD ds with
      | none => rw [q] at e; cases e
      | some ms => rw [q] at e; cases e; rw [bls_is k q]; rfl
    | _ => cases e
def dSum : D → Option D
  | .lst xs => (intsD xs).map fun ns => .int ns.sum
  | _ => none
theorem op_sum (hc : X.calm = true) : OpS X (.builtin "sum") (d1 dSum) := op_one fun pins s σ H x us Q R G d z I r w i hz q => by
  cases i with
  | @lst _ xs ds hT hA =>
    simp only [dSum] at hz
    cases e : intsD ds with
    | none => rw [e] at hz; cases hz
    | some ns =>
      rw [e] at hz
      cases hz
      exact cr_sum hc pins s σ H _ us Q I r ⟨_, ns, rfl, SqL.of (by rw [← ints_is hA e]; exact w.s _ _ hT), q _ G H (.refl w) (.int _)⟩
  | _ => cases hz
def maxI : List Int → Option Int
  | [] => none
  | i :: r => some (r.foldl (fun a b => if a < b then b else a) i)
def minI : List Int → Option Int
  | [] => none
  | i :: r => some (r.foldl (fun a b => if b < a then b else a) i)
theorem maxf : ∀ (r : List Int) (i : Int), (r.foldl (fun a b => if a < b then b else a) i = i ∨ r.foldl (fun a b => if a < b then b else a) i ∈ r) ∧ i ≤ r.foldl (fun a b => if a < b then b else a) i ∧ ∀ y ∈ r, y ≤ r.foldl (fun a b => if a < b then b else a) i
  | [], i => ⟨.inl rfl, Int.le_refl _, fun _ h => nomatch h⟩
  | b :: r, i => by
    obtain ⟨h1, h2, h3⟩ := maxf r (if i < b then b else i)
    rw [List.foldl_cons]
    generalize r.foldl (fun a b => if a < b then b else a) (if i < b then b else i) = m at *
    refine ⟨?_, ?_, fun y hy => ?_⟩
    · rcases h1 with h1 | h1
      · split at h1
        · exact .inr (by rw [h1]; exact List.mem_cons_self)
        · exact .inl h1
      · exact .inr (List.mem_cons_of_mem _ h1)
    · split at h2 <;> omega
    · rcases List.mem_cons.mp hy with e | e
      · split at h2 <;> omega
      · exact h3 y e
theorem minf : ∀ (r : List Int) (i : Int), (r.foldl (fun a b => if b < a then b else a) i = i ∨ r.foldl (fun a b => if b < a then b else a) i ∈ r) ∧ r.foldl (fun a b => if b < a then b else a) i ≤ i ∧ ∀ y ∈ r, r.foldl (fun a b => if b < a then b else a) i ≤ y
  | [], i => ⟨.inl rfl, Int.le_refl _, fun _ h => nomatch h⟩
  | b :: r, i => by
    obtain ⟨h1, h2, h3⟩ := minf r (if b < i then b else i)
    rw [List.foldl_cons]
    generalize r.foldl (fun a b => if b < a then b else a) (if b < i then b else i) = m at *
    refine ⟨?_, ?_, fun y hy => ?_⟩
    · rcases h1 with h1 | h1
      · split at h1
        · exact .inr (by rw [h1]; exact List.mem_cons_self)
        · exact .inl h1
      · exact .inr (List.mem_cons_of_mem _ h1)
    · split at h2 <;> omega
    · rcases List.mem_cons.mp hy with e | e
      · split at h2 <;> omega
      · exact h3 y e
def dMax : D → Option D
  | .lst xs => ((intsD xs).bind maxI).map .int
  | _ => none
def dMin : D → Option D
  | .lst xs => ((intsD xs).bind minI).map .int
  | _ => none
theorem op_max (hc : X.calm = true) : OpS X (.builtin "max") (d1 dMax) := op_one fun pins s σ H x us Q R G d z I r w i hz q => by
  cases i with
  | @lst _ xs ds hT hA =>
    simp only [dMax] at hz
    cases e : intsD ds with
    | none => rw [e] at hz; cases hz
    | some ns =>
      rw [e] at hz
      cases ns with
      | nil => cases hz
      | cons n ns =>
        cases hz
        refine cr_max hc pins s σ H _ us Q I r ⟨_, n :: ns, rfl, SqL.of (by rw [← ints_is hA e]; exact w.s _ _ hT), by simp, fun m hm ha => ?_⟩
        obtain ⟨h1, h2, h3⟩ := maxf ns n
        have : m = ns.foldl (fun a b => if a < b then b else a) n := by
          refine Int.le_antisymm ?_ ?_
          · rcases List.mem_cons.mp hm with e | e
            · rw [e]; exact h2
            · exact h3 m e
          · rcases h1 with h1 | h1
            · rw [h1]; exact ha n List.mem_cons_self
            · exact ha _ (List.mem_cons_of_mem _ h1)
        rw [this]
        exact q _ G H (.refl w) (.int _)
  | _ => cases hz
theorem op_min (hc : X.calm = true) : OpS X (.builtin "min") (d1 dMin) := op_one fun pins s σ H x us Q R G d z I r w i hz q => by
  cases i with
  | @lst _ xs ds hT hA =>
    simp only [dMin] at hz
    cases e : intsD ds with
    | none => rw [e] at hz; cases hz
    | some ns =>
      rw [e] at hz
      cases ns with
      | nil => cases hz
      | cons n ns =>
        cases hz
        refine cr_min hc pins s σ H _ us Q I r ⟨_, n :: ns, rfl, SqL.of (by rw [← ints_is hA e]; exact w.s _ _ hT), by simp, fun m hm ha => ?_⟩
        obtain ⟨h1, h2, h3⟩ := minf ns n
        have : m = ns.foldl (fun a b => if b < a then b else a) n := by
          refine Int.le_antisymm ?_ ?_
          · rcases h1 with h1 | h1
            · rw [h1]; exact ha n List.mem_cons_self
            · exact ha _ (List.mem_cons_of_mem _ h1)
          · rcases List.mem_cons.mp hm with e | e
            · rw [e]; exact h2
            · exact h3 m e
        rw [this]
        exact q _ G H (.refl w) (.int _)
  | _ => cases hz
def dAll : D → Option D
  | .lst xs => (blsD xs).map fun bs => .bl (bs.all id)
  | _ => none
def dAny : D → Option D
  | .lst xs => (blsD xs).map fun bs => .bl (bs.any id)
  | _ => none
theorem op_all (hc : X.calm = true) : OpS X (.builtin "all") (d1 dAll) := op_one fun pins s σ H x us Q R G d z I r w i hz q => by
  cases i with
  | @lst _ xs ds hT hA =>
    simp only [dAll] at hz
    cases e : blsD ds with
    | none => rw [e] at hz; cases hz
    | some ns => rw [e] at hz; cases hz; exact cr_all hc pins s σ H _ us Q I r ⟨_, ns, rfl, SqL.of (by rw [← bls_is hA e]; exact w.s _ _ hT), q _ G H (.refl w) (.bl _)⟩
  | _ => cases hz
theorem op_any (hc : X.calm = true) : OpS X (.builtin "any") (d1 dAny) := op_one fun pins s σ H x us Q R G d z I r w i hz q => by
  cases i with
  | @lst _ xs ds hT hA =>
    simp only [dAny] at hz
    cases e : blsD ds with
    | none => rw [e] at hz; cases hz
    | some ns => rw [e] at hz; cases hz; exact cr_any hc pins s σ H _ us Q I r ⟨_, ns, rfl, SqL.of (by rw [← bls_is hA e]; exact w.s _ _ hT), q _ G H (.refl w) (.bl _)⟩
  | _ => cases hz
end
end DX
set_option Elab.async false
set_option linter.all false
set_option maxRecDepth 100000
set_option maxHeartbeats 4000000
/-! DG: statements: slots that are owned, flows, the core of a step within a statement -/
namespace DX
open PySem PySem.Spec PyProof.Rows L2
variable [Tb]

/-- a slot: unbound (or nothing known), a value that stays, a list or dict (or an instance being made) in this slot's hand alone -/
inductive Slot where
  | un | fr (d : D) | ow (d : D)
  deriving Inhabited
abbrev Env := List Slot
inductive SR where
  | nx (ρ : Env) (μ : List Mob) | bk (ρ : Env) (μ : List Mob) | ct (ρ : Env) (μ : List Mob) | rt (d : D) (μ : List Mob)
  | exc (c : Str) (fs : List (Str × D)) (ρ : Env) (μ : List Mob) | stuck
abbrev Sm := Env → List Mob → SR

/-- what an owner holds -/
def owMob : D → Option Mob
  | .lst ds => some (.lst ds)
  | .dic kvs => some (.dic kvs)
  | .dit kvs => some (.dit kvs)
  | .ins c fs => some (.ins c fs)
  | _ => none
structure StI (K : PySem.W.Frag) (mg : Str → Option Value) (O R : List Addr) (G H : Hp) (σ : L2.St) (ρ : Env) : Prop where
  s : Sub G H
  cl : ∀ b o, G b = some o → tbl? o = false ∧ b ∉ R
  len : σ.length = ρ.length
  fr : ∀ (i : Nat) (d : D), ρ[i]? = some (.fr d) → ∃ v, σ[i]? = some (some v) ∧ Is K mg R G v d
  ow : ∀ (i : Nat) (d : D), ρ[i]? = some (.ow d) → ∃ a m, σ[i]? = some (some (.ref a)) ∧ a ∈ O ∧ owMob d = some m ∧ ObIs K mg R G H a m
  inj : ∀ (i j : Nat) (d e : D) (a : Addr), ρ[i]? = some (.ow d) → ρ[j]? = some (.ow e) → σ[i]? = some (some (.ref a)) → σ[j]? = some (some (.ref a)) → i = j
  og : ∀ a ∈ O, G a = none ∧ a ∉ R ∧ Hard H a
  tb : LamX.Tabs Tb.T H
structure ExtS (O R : List Addr) (G H : Hp) (O' R' : List Addr) (G' H' : Hp) : Prop where
  r : ∃ t, R' = R ++ t
  g : Sub G G'
  k : ∀ b o, H b = some o → tbl? o = false → b ∉ R → b ∉ O → H' b = some o
  th : ∀ b, H b ≠ none → H' b ≠ none
  n : ∀ b, G' b ≠ none → G b ≠ none ∨ H b = none ∨ b ∈ O ∨ ∃ o, G' b = some o ∧ isC o
  nr : ∀ a ∈ R', a ∈ R ∨ H a = none
  no : ∀ a ∈ O', a ∈ O ∨ H a = none
  t : LamX.Tabs Tb.T H → LamX.Tabs Tb.T H'
theorem none_or {H H1 : Hp} (th : ∀ b, H b ≠ none → H1 b ≠ none) {a : Addr} (z : H1 a = none) : H a = none := none_of th z
theorem ExtS.refl (O R : List Addr) (G H : Hp) : ExtS O R G H O R G H := ⟨⟨[], by simp⟩, .refl _, fun _ _ h _ _ _ => h, fun _ h => h, fun _ h => .inl h, fun _ h => .inl h, fun _ h => .inl h, fun h => h⟩
theorem ExtS.trans {O R : List Addr} {G H : Hp} {O1 R1 : List Addr} {G1 H1 : Hp} {O2 R2 : List Addr} {G2 H2 : Hp} (a : ExtS O R G H O1 R1 G1 H1) (b : ExtS O1 R1 G1 H1 O2 R2 G2 H2) : ExtS O R G H O2 R2 G2 H2 where
  r := by
    obtain ⟨t, rfl⟩ := a.r
    obtain ⟨u, rfl⟩ := b.r
    exact ⟨t ++ u, by simp⟩
  g := a.g.trans b.g
  k := fun c o h1 h2 h3 h4 => b.k c o (a.k c o h1 h2 h3 h4) h2 (fun hm => by
    rcases a.nr c hm with z | z
    · exact h3 z
    · rw [z] at h1; cases h1) fun hm => by
    rcases a.no c hm with z | z
    · exact h4 z
    · rw [z] at h1; cases h1
  th := fun c h => b.th c (a.th c h)
  n := fun c h => by
    rcases b.n c h with z | z | z | z
    · rcases a.n c z with z | z | z | ⟨o, z1, z2⟩
      · exact .inl z
      · exact .inr (.inl z)
      · exact .inr (.inr (.inl z))
      · exact .inr (.inr (.inr ⟨o, b.g c o z1, z2⟩))
    · exact .inr (.inl (none_or a.th z))
    · rcases a.no c z with z | z
      · exact .inr (.inr (.inl z))
      · exact .inr (.inl z)
    · exact .inr (.inr (.inr z))
  nr := fun c h => by
    rcases b.nr c h with z | z
    · exact a.nr c z
    · exact .inr (none_or a.th z)
  no := fun c h => by
    rcases b.no c h with z | z
    · exact a.no c z
    · exact .inr (none_or a.th z)
  t := fun h => b.t (a.t h)
theorem Ext.toS {O R : List Addr} {G H : Hp} {R' : List Addr} {G' H' : Hp} (e : Ext R G H R' G' H') : ExtS O R G H O R' G' H' :=
  ⟨e.r, e.g, fun b o h1 h2 h3 _ => e.k b o h1 h2 h3, e.th, fun b h => (e.n b h).elim .inl fun z => .inr (z.elim .inl fun z => .inr (.inr z)), e.nr, fun _ h => .inl h, e.t⟩

/-- an exception's fields -/
def XFs (K : PySem.W.Frag) (mg : Str → Option Value) (R : List Addr) (G H : Hp) (dx : Option Addr) (fs : List (Str × D)) : Prop := fs ≠ [] → ∃ d xs, dx = some d ∧ G d = some (.xd xs) ∧ xs.map (·.1) = fs.map (·.1) ∧ IsAll K mg R G (xs.map (·.2)) (fs.map (·.2))
def AftS (K : PySem.W.Frag) (mg : Str → Option Value) (W : WX) (r : SR) (O R : List Addr) (G H : Hp) (E : Ends) : Prop :=
  match r with
  | .nx ρ μ => ∀ O' R' G' H' σ', ExtS O R G H O' R' G' H' → StI K mg O' R' G' H' σ' ρ → MuIs K mg R' G' H' μ → E.nx σ' H'
  | .bk ρ μ => ∀ O' R' G' H' σ', ExtS O R G H O' R' G' H' → StI K mg O' R' G' H' σ' ρ → MuIs K mg R' G' H' μ → E.bk σ' H'
  | .ct ρ μ => ∀ O' R' G' H' σ', ExtS O R G H O' R' G' H' → StI K mg O' R' G' H' σ' ρ → MuIs K mg R' G' H' μ → E.ct σ' H'
  | .rt d μ => ∀ O' R' G' H' v, ExtS O R G H O' R' G' H' → Sub G' H' → (∀ b o, G' b = some o → tbl? o = false ∧ b ∉ R') → Is K mg R' G' v d → MuIs K mg R' G' H' μ → E.rt v H'
  | .exc c fs ρ μ => ∀ O' R' G' H' σ' C dx, ExtS O R G H O' R' G' H' → StI K mg O' R' G' H' σ' ρ → mg c = some (.ref C) → XFs K mg R' G' H' dx fs → MuIs K mg R' G' H' μ → W (.ref C) dx σ' H'
  | .stuck => False
def tS (K : PySem.W.Frag) (mg : Str → Option Value) (W : WX) (m : Sm) : TS := fun E σ H => ∃ O R G ρ μ, StI K mg O R G H σ ρ ∧ MuIs K mg R G H μ ∧ AftS K mg W (m ρ μ) O R G H E
abbrev S' (X : Cx) (W : WX) (st : Stmt) (m : Sm) : Prop := PS X st (tS X.K X.mg W m)
abbrev Ss' (X : Cx) (W : WX) (st : List Stmt) (m : Sm) : Prop := PSs X st (tS X.K X.mg W m)
theorem AftS.ext {K : PySem.W.Frag} {mg : Str → Option Value} {W : WX} {r : SR} {O R O1 R1 : List Addr} {G H G1 H1 : Hp} {E : Ends} (h : AftS K mg W r O R G H E) (e : ExtS O R G H O1 R1 G1 H1) : AftS K mg W r O1 R1 G1 H1 E := by
  cases r with
  | nx ρ μ => exact fun O' R' G' H' σ' x => h O' R' G' H' σ' (e.trans x)
  | bk ρ μ => exact fun O' R' G' H' σ' x => h O' R' G' H' σ' (e.trans x)
  | ct ρ μ => exact fun O' R' G' H' σ' x => h O' R' G' H' σ' (e.trans x)
  | rt d μ => exact fun O' R' G' H' v x => h O' R' G' H' v (e.trans x)
  | exc c fs ρ μ => exact fun O' R' G' H' σ' C dx x => h O' R' G' H' σ' C dx (e.trans x)
  | stuck => exact h
/-- one after the other -/
def sSeq (m n : Sm) : Sm := fun ρ μ => match m ρ μ with
  | .nx ρ' μ' => n ρ' μ'
  | .bk ρ' μ' => .bk ρ' μ'
  | .ct ρ' μ' => .ct ρ' μ'
  | .rt d μ' => .rt d μ'
  | .exc c fs ρ' μ' => .exc c fs ρ' μ'
  | .stuck => .stuck
def sNx : Sm := fun ρ μ => .nx ρ μ
theorem AftS.seq {K : PySem.W.Frag} {mg : Str → Option Value} {W : WX} {m n : Sm} {ρ : Env} {μ : List Mob} {O R : List Addr} {G H : Hp} {E : Ends} (h : AftS K mg W (sSeq m n ρ μ) O R G H E) :
    AftS K mg W (m ρ μ) O R G H { E with nx := fun σ' H' => tS K mg W n E σ' H' } := by
  unfold sSeq at h
  cases q : m ρ μ with
  | nx ρ' μ' =>
    rw [q] at h
    intro O' R' G' H' σ' x st mu
    exact ⟨O', R', G', ρ', μ', st, mu, AftS.ext h x⟩
  | bk ρ' μ' => rw [q] at h; exact h
  | ct ρ' μ' => rw [q] at h; exact h
  | rt d μ' => rw [q] at h; exact h
  | exc c fs ρ' μ' => rw [q] at h; exact h
  | stuck => rw [q] at h; exact h
section
variable {X : Cx} {W : WX} {st : Stmt} {rest : List Stmt} {m n : Sm} {e : Expr} {pos : Pos}
theorem ss_nil : Ss' X W [] sNx := PSs.weak pss_nil fun E σ H ⟨O, R, G, ρ, μ, w, mu, h⟩ => h O R G H σ (.refl _ _ _ _) w mu
theorem ss_cons (h1 : S' X W st m) (h2 : Ss' X W rest n) : Ss' X W (st :: rest) (sSeq m n) := PSs.weak (pss_cons h1 h2) fun E σ H ⟨O, R, G, ρ, μ, w, mu, h⟩ => ⟨O, R, G, ρ, μ, w, mu, h.seq⟩
theorem ss_one (h1 : S' X W st m) : Ss' X W [st] m := pss_one h1
theorem s_pass : S' X W (.Pass pos) sNx := PS.weak ps_pass fun E σ H ⟨O, R, G, ρ, μ, w, mu, h⟩ => h O R G H σ (.refl _ _ _ _) w mu
theorem s_break : S' X W (.Break pos) (fun ρ μ => .bk ρ μ) := PS.weak ps_break fun E σ H ⟨O, R, G, ρ, μ, w, mu, h⟩ => h O R G H σ (.refl _ _ _ _) w mu
theorem s_continue : S' X W (.Continue pos) (fun ρ μ => .ct ρ μ) := PS.weak ps_continue fun E σ H ⟨O, R, G, ρ, μ, w, mu, h⟩ => h O R G H σ (.refl _ _ _ _) w mu
theorem s_doc {x j pos'} : S' X W (.Expr (.Constant (.str x) j pos) pos') sNx := PS.weak ps_doc fun E σ H ⟨O, R, G, ρ, μ, w, mu, h⟩ => h O R G H σ (.refl _ _ _ _) w mu
theorem s_retN : S' X W (.Return none pos) (fun ρ μ => .rt .non μ) := PS.weak ps_retN fun E σ H ⟨O, R, G, ρ, μ, w, mu, h⟩ => h O R G H .non (.refl _ _ _ _) w.s w.cl .non mu
end

/-! ### a step within a statement -/
/-- mode H: owned slots are not seen -/
def vH : Env → Env' := List.map fun s => match s with
  | .fr d => some d
  | _ => none
mutual
def noHnd : D → Bool
  | .tup xs => noHndA xs
  | .lst xs => noHndA xs
  | .scr xs => noHndA xs
  | .dic kvs => noHndK kvs
  | .dit kvs => noHndT kvs
  | .ins _ fs => noHndF fs
  | .hnd _ => false
  | .exn _ fs => noHndF fs
  | .lam _ _ _ _ ds => noHndA ds
  | _ => true
def noHndA : List D → Bool
  | [] => true
  | d :: ds => noHnd d && noHndA ds
def noHndK : List (Key × D) → Bool
  | [] => true
  | (_, d) :: ds => noHnd d && noHndK ds
def noHndT : List (List Key × D) → Bool
  | [] => true
  | (_, d) :: ds => noHnd d && noHndT ds
def noHndF : List (Str × D) → Bool
  | [] => true
  | (_, d) :: ds => noHnd d && noHndF ds
end
theorem noHndK_all : ∀ fs : List (Key × D), noHndK fs = noHndA (fs.map (·.2))
  | [] => by simp [noHndK, noHndA]
  | (_, d) :: r => by simp [noHndK, noHndA, noHndK_all r]
theorem noHndT_all : ∀ fs : List (List Key × D), noHndT fs = noHndA (fs.map (·.2))
  | [] => by simp [noHndT, noHndA]
  | (_, d) :: r => by simp [noHndT, noHndA, noHndT_all r]
theorem noHndF_all : ∀ fs : List (Str × D), noHndF fs = noHndA (fs.map (·.2))
  | [] => by simp [noHndF, noHndA]
  | (_, d) :: r => by simp [noHndF, noHndA, noHndF_all r]
section
variable {K : PySem.W.Frag} {mg : Str → Option Value} {R R' : List Addr} {G : Hp}
mutual
theorem Is.noH : ∀ {v : V} {d : D}, Is K mg R G v d → noHnd d = true → Is K mg R' G v d
  | _, _, .non, _ => .non
  | _, _, .bl b, _ => .bl b
  | _, _, .int i, _ => .int i
  | _, _, .str x, _ => .str x
  | _, _, .tup h k, f => .tup h (IsAll.noH k (by simpa [noHnd] using f))
  | _, _, .lst h k, f => .lst h (IsAll.noH k (by simpa [noHnd] using f))
  | _, _, .scr h k, f => .scr h (IsAll.noH k (by simpa [noHnd] using f))
  | _, _, .dic h e k, f => .dic h e (IsAll.noH k (by rw [← noHndK_all]; simpa [noHnd] using f))
  | _, _, .dit h e k, f => .dit h e (IsAll.noH k (by rw [← noHndT_all]; simpa [noHnd] using f))
  | _, _, .ins m h e k, f => .ins m h e (IsAll.noH k (by rw [← noHndF_all]; simpa [noHnd] using f))
  | _, _, .glb h, _ => .glb h
  | _, _, .ty n, _ => .ty n
  | _, _, .hnd h, f => by simp [noHnd] at f
  | _, _, .lam h k, f => .lam h (IsAll.noH k (by simpa [noHnd] using f))
  | _, _, .exn m h u e k, f => .exn m h u e (IsAll.noH k (by rw [← noHndF_all]; simpa [noHnd] using f))
  | _, _, .ex0 m h, _ => .ex0 m h
theorem IsAll.noH : ∀ {vs : List V} {ds : List D}, IsAll K mg R G vs ds → noHndA ds = true → IsAll K mg R' G vs ds
  | _, _, .nil, _ => .nil
  | _, _, .cons h k, f => by
    simp only [noHndA, Bool.and_eq_true] at f
    exact .cons (Is.noH h f.1) (IsAll.noH k f.2)
end
end
/-- mode P: the owned slots of ms are seen, handles are not -/
def vP (ms : List Nat) (ρ : Env) : Env' := ρ.mapIdx fun i s => match s with
  | .fr d => if noHnd d then some d else none
  | .ow d => if ms.contains i && noHnd d then some d else none
  | .un => none
/-- the owned addresses of ms -/
def adsOf (ms : List Nat) (σ : L2.St) (ρ : Env) : List Addr := ms.filterMap fun i => match (ρ[i]? : Option Slot), (σ[i]? : Option (Option V)) with
  | some (Slot.ow (D.ins _ _)), _ => none
  | some (Slot.ow _), some (some (V.ref a)) => some a
  | _, _ => none
def addH (G H : Hp) (l : List Addr) : Hp := fun b => if b ∈ l then H b else G b
def subH (G : Hp) (l : List Addr) : Hp := fun b => if b ∈ l then none else G b
theorem vH_get {ρ : Env} {i : Nat} {d : D} (h : (vH ρ)[i]? = some (some d)) : ρ[i]? = some (.fr d) := by
  unfold vH at h
  rw [List.getElem?_map] at h
  cases q : ρ[i]? with
  | none => rw [q] at h; cases h
  | some s => rw [q] at h; cases s <;> cases h; rfl
theorem vP_get {ms : List Nat} {ρ : Env} {i : Nat} {d : D} (h : (vP ms ρ)[i]? = some (some d)) : noHnd d = true ∧ (ρ[i]? = some (.fr d) ∨ (ρ[i]? = some (.ow d) ∧ i ∈ ms)) := by
  unfold vP at h
  rw [List.getElem?_mapIdx] at h
  cases q : ρ[i]? with
  | none => rw [q] at h; cases h
  | some s =>
    rw [q] at h
    cases s with
    | un => cases h
    | fr d' =>
      simp only [Option.map_some] at h
      split at h
      · rename_i hn; cases h; exact ⟨hn, .inl rfl⟩
      · cases h
    | ow d' =>
      simp only [Option.map_some] at h
      split at h
      · rename_i hn; cases h; rw [Bool.and_eq_true] at hn; exact ⟨hn.2, .inr ⟨rfl, List.contains_iff_mem.mp hn.1⟩⟩
      · cases h
theorem wd_H {K : PySem.W.Frag} {mg : Str → Option Value} {O R : List Addr} {G H : Hp} {σ : L2.St} {ρ : Env} {μ : List Mob} (w : StI K mg O R G H σ ρ) (mu : MuIs K mg R G H μ) : Wd K mg R G H σ (vH ρ) μ :=
  ⟨w.s, w.cl, ⟨by rw [w.len]; simp [vH], fun i d h => w.fr i d (vH_get h)⟩, mu, w.tb⟩
/-- behind a step in mode H -/
theorem StI.extH {K : PySem.W.Frag} {mg : Str → Option Value} {O R R' : List Addr} {G H G' H' : Hp} {σ : L2.St} {ρ : Env} (w : StI K mg O R G H σ ρ) (e : Ext R G H R' G' H') : StI K mg O R' G' H' σ ρ where
  s := e.s
  cl := e.cl
  len := w.len
  fr := fun i d h => let ⟨v, a, b⟩ := w.fr i d h; ⟨v, a, b.mono e.g e.idx⟩
  ow := fun i d h => by
    obtain ⟨a, m, h1, h2, h3, h4⟩ := w.ow i d h
    obtain ⟨_, nR, o, ho, ht, _⟩ := w.og a h2
    exact ⟨a, m, h1, h2, h3, h4.mono e.g e.idx ((e.k a o ho ht nR).trans ho.symm)⟩
  inj := w.inj
  tb := e.t w.tb
  og := fun a ha => by
    obtain ⟨g, nR, o, ho, ht, hC⟩ := w.og a ha
    refine ⟨?_, fun z => ?_, o, e.k a o ho ht nR, ht, hC⟩
    · cases q : G' a with
      | none => rfl
      | some u =>
        rcases e.n a (by rw [q]; simp) with z | z | ⟨o2, z1, z2⟩
        · exact absurd g z
        · rw [ho] at z; cases z
        · cases (e.s a o2 z1).symm.trans (e.k a o ho ht nR)
          exact absurd z2 hC
    · rcases e.nr a z with z | z
      · exact nR z
      · rw [ho] at z; cases z
theorem owned_obj {K : PySem.W.Frag} {mg : Str → Option Value} {R : List Addr} {G H : Hp} {a : Addr} {d : D} {m : Mob} (hm : owMob d = some m) (nh : noHnd d = true) (o : ObIs K mg R G H a m) : (∃ c fs, d = .ins c fs) ∨ ((∃ u, H a = some u ∧ cont u = true) ∧ ∀ R2 G2, Sub G G2 → G2 a = H a → Is K mg R2 G2 (.ref a) d) := by
  cases d with
  | lst ds =>
    cases hm
    obtain ⟨xs, h1, h2⟩ := o
    exact .inr ⟨⟨_, h1, rfl⟩, fun R2 G2 s e => .lst (e.trans h1) ((h2.noH (R' := R2) (by simpa [noHnd] using nh)).mono s fun _ _ h => h)⟩
  | dic ds =>
    cases hm
    obtain ⟨xs, h1, h2, h3⟩ := o
    exact .inr ⟨⟨_, h1, rfl⟩, fun R2 G2 s e => .dic (e.trans h1) h2 ((h3.noH (R' := R2) (by rw [← noHndK_all]; simpa [noHnd] using nh)).mono s fun _ _ h => h)⟩
  | dit ds =>
    cases hm
    obtain ⟨xs, h1, h2, h3⟩ := o
    exact .inr ⟨⟨_, h1, rfl⟩, fun R2 G2 s e => .dit (e.trans h1) h2 ((h3.noH (R' := R2) (by rw [← noHndT_all]; simpa [noHnd] using nh)).mono s fun _ _ h => h)⟩
  | ins c fs => exact .inl ⟨c, fs, rfl⟩
  | _ => cases hm
/-- may the slots of ms be seen: no instance in the making among them -/
def okMs (ms : List Nat) (ρ : Env) : Bool := ms.all fun i => match ρ[i]? with
  | some (.ow (.ins _ _)) => false
  | _ => true
theorem mem_ads {ms : List Nat} {σ : L2.St} {ρ : Env} {a : Addr} (h : a ∈ adsOf ms σ ρ) : ∃ i d, i ∈ ms ∧ ρ[i]? = some (.ow d) ∧ σ[i]? = some (some (.ref a)) ∧ ∀ c fs, d ≠ .ins c fs := by
  unfold adsOf at h
  obtain ⟨i, hi, h⟩ := List.mem_filterMap.mp h
  cases q : ρ[i]? with
  | none => rw [q] at h; cases h
  | some s =>
    rw [q] at h
    cases s with
    | un => cases h
    | fr d => cases h
    | ow d =>
      cases q2 : σ[i]? with
      | none => rw [q2] at h; cases d <;> cases h
      | some o =>
        rw [q2] at h
        cases o with
        | none => cases d <;> cases h
        | some v => cases v with
          | ref b =>
            refine ⟨i, d, hi, q, ?_, fun c fs z => ?_⟩
            · cases d <;> first | (cases h; exact q2) | cases h
            · subst z; cases h
          | _ => cases d <;> cases h
theorem ads_mem {ms : List Nat} {σ : L2.St} {ρ : Env} {a : Addr} {i : Nat} {d : D} (hi : i ∈ ms) (h1 : ρ[i]? = some (.ow d)) (h2 : σ[i]? = some (some (.ref a))) (h3 : ∀ c fs, d ≠ .ins c fs) : a ∈ adsOf ms σ ρ := by
  unfold adsOf
  refine List.mem_filterMap.mpr ⟨i, hi, ?_⟩
  rw [h1, h2]
  cases d <;> first | rfl | exact absurd rfl (h3 _ _)
section
variable {K : PySem.W.Frag} {mg : Str → Option Value} {O R : List Addr} {G H : Hp} {σ : L2.St} {ρ : Env} {ms : List Nat}
theorem StI.ads (w : StI K mg O R G H σ ρ) {a : Addr} (h : a ∈ adsOf ms σ ρ) : a ∈ O ∧ ∃ u, H a = some u ∧ cont u = true := by
  obtain ⟨i, d, _, h1, h2, h3⟩ := mem_ads h
  obtain ⟨a', m, e1, e2, e3, e4⟩ := w.ow i d h1
  rw [h2] at e1
  cases e1
  refine ⟨e2, ?_⟩
  cases d with
  | lst ds => cases e3; obtain ⟨xs, q, _⟩ := e4; exact ⟨_, q, rfl⟩
  | dic ds => cases e3; obtain ⟨xs, q, _⟩ := e4; exact ⟨_, q, rfl⟩
  | dit ds => cases e3; obtain ⟨xs, q, _⟩ := e4; exact ⟨_, q, rfl⟩
  | ins c fs => exact absurd rfl (h3 c fs)
  | _ => cases e3
theorem StI.sub_add (w : StI K mg O R G H σ ρ) : Sub G (addH G H (adsOf ms σ ρ)) := fun b o h => by
  unfold addH
  split
  · exact w.s b o h
  · exact h
theorem wd_P (w : StI K mg O R G H σ ρ) (ok : okMs ms ρ = true) : Wd K mg [] (addH G H (adsOf ms σ ρ)) H σ (vP ms ρ) [] := by
  refine ⟨fun b o h => ?_, fun b o h => ?_, ⟨by rw [w.len]; simp [vP], fun i d h => ?_⟩, ⟨rfl, by simp, fun i a m h => by simp at h⟩, w.tb⟩
  · unfold addH at h
    split at h
    · exact h
    · exact w.s b o h
  · refine ⟨?_, by simp⟩
    unfold addH at h
    split at h
    · rename_i hb
      obtain ⟨_, u, hu, hc⟩ := w.ads hb
      rw [hu] at h
      cases h
      cases o <;> first | rfl | cases hc
    · exact (w.cl b o h).1
  · obtain ⟨nh, q⟩ := vP_get h
    rcases q with q | ⟨q, hm⟩
    · obtain ⟨v, e, i'⟩ := w.fr i d q
      exact ⟨v, e, (i'.noH nh).mono w.sub_add fun _ _ h => h⟩
    · obtain ⟨a, m, e1, e2, e3, e4⟩ := w.ow i d q
      rcases owned_obj e3 nh e4 with ⟨c, fs, rfl⟩ | ⟨_, f⟩
      · have := List.all_eq_true.mp ok i hm
        rw [q] at this
        cases this
      · refine ⟨.ref a, e1, f [] _ w.sub_add ?_⟩
        have hin : a ∈ adsOf ms σ ρ := ads_mem hm q e1 fun c fs z => by
          have := List.all_eq_true.mp ok i hm
          rw [q, z] at this
          cases this
        unfold addH
        rw [if_pos hin]
/-- behind a step in mode P, the owned ones are taken back -/
theorem StI.extP (w : StI K mg O R G H σ ρ) (hr : ∀ a ∈ R, Hard H a) {G' H' : Hp} (e : Ext [] (addH G H (adsOf ms σ ρ)) H [] G' H') : StI K mg O R (subH G' (adsOf ms σ ρ)) H' σ ρ ∧ ExtS O R G H O R (subH G' (adsOf ms σ ρ)) H' ∧ ∀ b o, H b = some o → tbl? o = false → H' b = some o := by
  have k : ∀ b o, H b = some o → tbl? o = false → H' b = some o := fun b o h1 h2 => e.k b o h1 h2 (by simp)
  have sg : Sub G (subH G' (adsOf ms σ ρ)) := fun b o h => by
    unfold subH
    rw [if_neg]
    · exact e.g b o (w.sub_add b o h)
    · intro z
      have := (w.og b (w.ads z).1).1
      rw [h] at this
      cases this
  have un : ∀ b, subH G' (adsOf ms σ ρ) b ≠ none → b ∉ adsOf ms σ ρ ∧ (G b ≠ none ∨ H b = none ∨ ∃ o, subH G' (adsOf ms σ ρ) b = some o ∧ isC o) := fun b h => by
    by_cases hb : b ∈ adsOf ms σ ρ
    · unfold subH at h
      rw [if_pos hb] at h
      exact absurd rfl h
    · have eq : subH G' (adsOf ms σ ρ) b = G' b := by unfold subH; rw [if_neg hb]
      rw [eq] at h ⊢
      refine ⟨hb, ?_⟩
      rcases e.n b h with z | z | z
      · unfold addH at z
        rw [if_neg hb] at z
        exact .inl z
      · exact .inr (.inl z)
      · exact .inr (.inr z)
  refine ⟨⟨fun b o h => ?_, fun b o h => ?_, w.len, fun i d h => ?_, fun i d h => ?_, w.inj, fun a ha => ?_, e.t w.tb⟩, ⟨⟨[], by simp⟩, sg, fun b o h1 h2 _ _ => k b o h1 h2, e.th, fun b h => (un b h).2.elim .inl fun z => .inr (z.elim .inl fun z => .inr (.inr z)), fun _ h => .inl h, fun _ h => .inl h, e.t⟩, k⟩
  · unfold subH at h
    split at h
    · cases h
    · exact e.s b o h
  · refine ⟨?_, fun z => ?_⟩
    · unfold subH at h
      split at h
      · cases h
      · exact (e.cl b o h).1
    · obtain ⟨o1, k1, k2, k3⟩ := hr b z
      rcases (un b (by rw [h]; simp)).2 with q | q | ⟨o2, q, q2⟩
      · cases q2 : G b with
        | none => exact q q2
        | some u => exact (w.cl b u q2).2 z
      · rw [k1] at q; cases q
      · have q3 : G' b = some o2 := by
          unfold subH at q
          split at q
          · cases q
          · exact q
        cases (e.s b o2 q3).symm.trans (k b o1 k1 k2)
        exact k3 q2
  · obtain ⟨v, a, b⟩ := w.fr i d h
    exact ⟨v, a, b.mono sg fun _ _ h => h⟩
  · obtain ⟨a, m, h1, h2, h3, h4⟩ := w.ow i d h
    obtain ⟨_, nR, o, ho, ht, _⟩ := w.og a h2
    exact ⟨a, m, h1, h2, h3, h4.mono sg (fun _ _ h => h) ((k a o ho ht).trans ho.symm)⟩
  · obtain ⟨g, nR, o, ho, ht, hC⟩ := w.og a ha
    refine ⟨?_, nR, o, k a o ho ht, ht, hC⟩
    cases q : subH G' (adsOf ms σ ρ) a with
    | none => rfl
    | some u =>
      rcases (un a (by rw [q]; simp)).2 with z | z | ⟨o2, z, z2⟩
      · exact absurd g z
      · rw [ho] at z; cases z
      · have q3 : G' a = some o2 := by
          unfold subH at z
          split at z
          · cases z
          · exact z
        cases (e.s a o2 q3).symm.trans (k a o ho ht)
        exact absurd z2 hC
theorem MuIs.keepP {μ : List Mob} {G' H' : Hp} (m : MuIs K mg R G H μ) (s : Sub G G') (k : ∀ b o, H b = some o → tbl? o = false → H' b = some o) : MuIs K mg R G' H' μ :=
  ⟨m.len, m.nd, fun i a x h1 h2 => by
    have h := m.at_ i a x h1 h2
    obtain ⟨o, ho, ht⟩ := h.there
    exact h.mono s (fun _ _ h => h) ((k a o ho ht).trans ho.symm)⟩
end
end DX
set_option Elab.async false
set_option linter.all false
set_option maxRecDepth 100000
set_option maxHeartbeats 4000000
/-! DH: statements with expressions: return, names set, if, while -/
namespace DX
open PySem PySem.Spec PyProof.Rows L2
variable [Tb]

section
variable {K : PySem.W.Frag} {mg : Str → Option Value} {W : WX} {O R : List Addr} {G H : Hp} {σ : L2.St} {ρ : Env} {μ : List Mob} {ms : List Nat} {E : Ends}
/-- a step in mode H, then the rest -/
def sH {α : Type} (m : Env' → M α) (f : α → Sm) : Sm := fun ρ μ => match m (vH ρ) μ with
  | .ok d μ' => f d ρ μ'
  | .exc c fs μ' => .exc c fs ρ μ'
  | .stuck => .stuck
theorem stepH {α Vv : Type} {rel : Rl Vv α} {m : Env' → M α} {f : α → Sm} (w : StI K mg O R G H σ ρ) (mu : MuIs K mg R G H μ) (h : AftS K mg W (sH m f ρ μ) O R G H E) :
    tD K mg W rel m σ H fun v H1 => ∃ R1 G1 d μ1, Ext R G H R1 G1 H1 ∧ rel.r H R1 G1 H1 v d ∧ StI K mg O R1 G1 H1 σ ρ ∧ MuIs K mg R1 G1 H1 μ1 ∧ AftS K mg W (f d ρ μ1) O R G H E := by
  refine ⟨R, G, vH ρ, μ, wd_H w mu, ?_⟩
  unfold sH at h
  cases q : m (vH ρ) μ with
  | ok d μ1 =>
    rw [q] at h
    exact fun v R1 G1 H1 e r mu1 => ⟨R1, G1, d, μ1, e, r, w.extH e, mu1, h⟩
  | exc c fs μ1 =>
    rw [q] at h
    intro C dx xs R1 G1 H1 e hc hx mu1
    refine h O R1 G1 H1 σ C dx e.toS (w.extH e) hc (fun hf => ?_) mu1
    obtain ⟨d, h1, h2, h3, h4⟩ := hx hf
    exact ⟨d, xs, h1, h2, h3, h4⟩
  | stuck => rw [q] at h; exact h
/-- a step in mode P, then the rest -/
def sP {α : Type} (ms : List Nat) (m : Env' → M α) (f : α → Sm) : Sm := fun ρ μ => if okMs ms ρ = true then match m (vP ms ρ) [] with
    | .ok d [] => f d ρ μ
    | .exc c fs [] => if D.flatFs fs = true then .exc c fs ρ μ else .stuck
    | _ => .stuck
  else .stuck
theorem no_ads (w : StI K mg O R G H σ ρ) {G1 H1 : Hp} (e : Ext [] (addH G H (adsOf ms σ ρ)) H [] G1 H1) : ∀ b o, G1 b = some o → cont o = false → subH G1 (adsOf ms σ ρ) b = some o := fun b o e' hcn => by
  unfold subH
  rw [if_neg]
  · exact e'
  · intro z
    obtain ⟨_, u, hu, hcu⟩ := w.ads z
    have h5 := e.k b u hu (by cases u <;> first | rfl | cases hcu) (by simp)
    rw [e.s b o e'] at h5
    cases h5
    rw [hcn] at hcu
    cases hcu
theorem stepP {α Vv : Type} {rel : Rl Vv α} {m : Env' → M α} {f : α → Sm} (w : StI K mg O R G H σ ρ) (mu : MuIs K mg R G H μ) (h : AftS K mg W (sP ms m f ρ μ) O R G H E) :
    tD K mg W rel m σ H fun v H1 => ∃ G1 d, Ext [] (addH G H (adsOf ms σ ρ)) H [] G1 H1 ∧ rel.r H [] G1 H1 v d ∧ AftS K mg W (f d ρ μ) O R G H E := by
  unfold sP at h
  split at h
  · rename_i ok
    refine ⟨[], _, vP ms ρ, [], wd_P w ok, ?_⟩
    cases q : m (vP ms ρ) [] with
    | ok d μ1 =>
      rw [q] at h
      cases μ1 with
      | nil =>
        intro v R1 G1 H1 e r mu1
        have : R1 = [] := List.eq_nil_of_length_eq_zero mu1.len
        subst this
        exact ⟨G1, d, e, r, h⟩
      | cons _ _ => exact h.elim
    | exc c fs μ1 =>
      rw [q] at h
      cases μ1 with
      | nil =>
        simp only at h
        split at h
        · rename_i hf
          intro C dx xs R1 G1 H1 e hc hx mu1
          have : R1 = [] := List.eq_nil_of_length_eq_zero mu1.len
          subst this
          obtain ⟨w2, x2, k2⟩ := w.extP mu.hard e
          refine h O R _ H1 σ C dx x2 w2 hc (fun hne => ?_) (mu.keepP x2.g k2)
          obtain ⟨d, h1, h2, h3, h4⟩ := hx hne
          exact ⟨d, xs, h1, no_ads w e d _ h2 rfl, h3, (h4.flat (no_ads w e) (by rw [← flatFs_all]; exact hf)).mono (.refl _) (fun _ _ h => by simp at h)⟩
        · exact h.elim
      | cons _ _ => exact h.elim
    | stuck => rw [q] at h; exact h.elim
  · exact h.elim
/-- what comes of a step in mode P: the owned ones are taken back -/
theorem backP {G1 H1 : Hp} {r : SR} (w : StI K mg O R G H σ ρ) (mu : MuIs K mg R G H μ) (e : Ext [] (addH G H (adsOf ms σ ρ)) H [] G1 H1) (h : AftS K mg W r O R G H E) :
    StI K mg O R (subH G1 (adsOf ms σ ρ)) H1 σ ρ ∧ MuIs K mg R (subH G1 (adsOf ms σ ρ)) H1 μ ∧ AftS K mg W r O R (subH G1 (adsOf ms σ ρ)) H1 E ∧ ∀ v d, Is K mg [] G1 v d → d.flat = true → Is K mg R (subH G1 (adsOf ms σ ρ)) v d := by
  obtain ⟨w2, x2, k2⟩ := w.extP mu.hard e
  exact ⟨w2, mu.keepP x2.g k2, AftS.ext h x2, fun v d i f => (i.flat (no_ads w e) f).mono (.refl _) fun _ _ h => by simp at h⟩
/-- the slots of ms are given up -/
def frz (ms : List Nat) (ρ : Env) : Env := ρ.mapIdx fun i s => match s with
  | .ow d => if ms.contains i then .fr d else .ow d
  | s => s
theorem frz_ow {i : Nat} {d : D} (h : (frz ms ρ)[i]? = some (.ow d)) : ρ[i]? = some (.ow d) ∧ i ∉ ms := by
  unfold frz at h
  rw [List.getElem?_mapIdx] at h
  cases q : ρ[i]? with
  | none => rw [q] at h; cases h
  | some s =>
    rw [q] at h
    cases s with
    | un => cases h
    | fr d' => cases h
    | ow d' =>
      simp only [Option.map_some] at h
      split at h
      · cases h
      · rename_i hn
        cases h
        exact ⟨rfl, fun z => hn (List.contains_iff_mem.mpr z)⟩
theorem frz_fr {i : Nat} {d : D} (h : (frz ms ρ)[i]? = some (.fr d)) : ρ[i]? = some (.fr d) ∨ (ρ[i]? = some (.ow d) ∧ i ∈ ms) := by
  unfold frz at h
  rw [List.getElem?_mapIdx] at h
  cases q : ρ[i]? with
  | none => rw [q] at h; cases h
  | some s =>
    rw [q] at h
    cases s with
    | un => cases h
    | fr d' => cases h; exact .inl rfl
    | ow d' =>
      simp only [Option.map_some] at h
      split at h
      · rename_i hn
        cases h
        exact .inr ⟨rfl, List.contains_iff_mem.mp hn⟩
      · cases h
/-- .. or given up -/
theorem giveP {G1 H1 : Hp} (w : StI K mg O R G H σ ρ) (ok : okMs ms ρ = true) (mu : MuIs K mg R G H μ) (e : Ext [] (addH G H (adsOf ms σ ρ)) H [] G1 H1) :
    ∃ O1, StI K mg O1 R G1 H1 σ (frz ms ρ) ∧ MuIs K mg R G1 H1 μ ∧ ExtS O R G H O1 R G1 H1 ∧ (∀ v d, Is K mg [] G1 v d → Is K mg R G1 v d) ∧ ∀ a ∈ O1, a ∈ O := by
  obtain ⟨w2, x2, k2⟩ := w.extP mu.hard e
  have sub : Sub (subH G1 (adsOf ms σ ρ)) G1 := fun b o h => by
    unfold subH at h
    split at h
    · cases h
    · exact h
  have inO : ∀ b, G1 b ≠ none → subH G1 (adsOf ms σ ρ) b ≠ none ∨ b ∈ adsOf ms σ ρ := fun b h => by
    by_cases hb : b ∈ adsOf ms σ ρ
    · exact .inr hb
    · refine .inl ?_
      unfold subH
      rw [if_neg hb]
      exact h
  have xs : ExtS O R G H (O.filter fun a => decide (a ∉ adsOf ms σ ρ)) R G1 H1 := ⟨x2.r, x2.g.trans sub, x2.k, x2.th, fun b h => by
    rcases inO b h with z | z
    · rcases x2.n b z with z | z | z | ⟨o, z, z2⟩
      · exact .inl z
      · exact .inr (.inl z)
      · exact .inr (.inr (.inl z))
      · exact .inr (.inr (.inr ⟨o, sub b o z, z2⟩))
    · exact .inr (.inr (.inl (w.ads z).1)), x2.nr, fun a ha => .inl (List.mem_filter.mp ha).1, x2.t⟩
  refine ⟨O.filter fun a => decide (a ∉ adsOf ms σ ρ), ⟨e.s, fun b o h => ⟨(e.cl b o h).1, fun z => ?_⟩, by rw [w.len]; simp [frz], fun i d hf => ?_, fun i d hf => ?_, fun i j d d' a h1 h2 h3 h4 => w.inj i j d d' a (frz_ow h1).1 (frz_ow h2).1 h3 h4, fun a ha => ?_, e.t w.tb⟩, mu.keepP (x2.g.trans sub) k2, xs,
    fun v d i => i.mono (.refl _) fun _ _ h => (by simp at h), fun a ha => (List.mem_filter.mp ha).1⟩
  · rcases inO b (by rw [h]; simp) with q | q
    · cases q2 : subH G1 (adsOf ms σ ρ) b with
      | none => exact q q2
      | some u => exact (w2.cl b u q2).2 z
    · exact (w.og b (w.ads q).1).2.1 z
  · rcases frz_fr hf with q | ⟨q, hm⟩
    · obtain ⟨v, h1, h2⟩ := w2.fr i d q
      exact ⟨v, h1, h2.mono sub fun _ _ h => h⟩
    · obtain ⟨a, m, h1, h2, h3, h4⟩ := w2.ow i d q
      have hni : ∀ c fs, d ≠ .ins c fs := fun c fs z => by
        have := List.all_eq_true.mp ok i hm
        rw [q, z] at this
        cases this
      have hin : a ∈ adsOf ms σ ρ := ads_mem hm q h1 hni
      obtain ⟨_, u, hu, hcu⟩ := w.ads hin
      have hG1 : G1 a = H1 a := by
        have h5 := k2 a u hu (by cases u <;> first | rfl | cases hcu)
        rw [h5]
        have h6 : addH G H (adsOf ms σ ρ) a = some u := by unfold addH; rw [if_pos hin]; exact hu
        exact e.g a u h6
      refine ⟨.ref a, h1, ?_⟩
      cases d with
      | lst ds => cases h3; obtain ⟨xs, q1, q2⟩ := h4; exact .lst (hG1.trans q1) (q2.mono sub fun _ _ h => h)
      | dic ds => cases h3; obtain ⟨xs, q1, q2, q3⟩ := h4; exact .dic (hG1.trans q1) q2 (q3.mono sub fun _ _ h => h)
      | dit ds => cases h3; obtain ⟨xs, q1, q2, q3⟩ := h4; exact .dit (hG1.trans q1) q2 (q3.mono sub fun _ _ h => h)
      | ins c fs => exact absurd rfl (hni c fs)
      | _ => cases h3
  · obtain ⟨q, hm⟩ := frz_ow hf
    obtain ⟨a, m, h1, h2, h3, h4⟩ := w2.ow i d q
    refine ⟨a, m, h1, List.mem_filter.mpr ⟨h2, decide_eq_true fun z => ?_⟩, h3, h4.mono sub (fun _ _ h => h) rfl⟩
    obtain ⟨j, d', hj, e1, e2, _⟩ := mem_ads z
    exact hm (w.inj i j d d' a q e1 h1 e2 ▸ hj)
  · obtain ⟨ha, hd⟩ := List.mem_filter.mp ha
    obtain ⟨g, nR, o, ho, ht⟩ := w2.og a ha
    refine ⟨?_, nR, o, ho, ht⟩
    cases q : G1 a with
    | none => rfl
    | some u =>
      rcases inO a (by rw [q]; simp) with z | z
      · exact absurd g z
      · exact absurd z (of_decide_eq_true hd)
/-- a slot is set to a value -/
theorem StI.set {v : V} {d : D} (w : StI K mg O R G H σ ρ) (i : Nat) (h : Is K mg R G v d) : StI K mg O R G H (σ.set i (some v)) (ρ.set i (.fr d)) where
  s := w.s
  cl := w.cl
  len := by simp [w.len]
  fr := fun j e hj => by
    by_cases hij : i = j
    · subst hij
      by_cases hl : i < ρ.length
      · rw [List.getElem?_set_self hl] at hj
        cases hj
        exact ⟨v, List.getElem?_set_self (by rw [w.len]; exact hl), h⟩
      · rw [List.getElem?_eq_none (by simp; omega)] at hj
        cases hj
    · rw [List.getElem?_set_ne hij] at hj
      rw [List.getElem?_set_ne hij]
      exact w.fr j e hj
  ow := fun j e hj => by
    by_cases hij : i = j
    · subst hij
      by_cases hl : i < ρ.length
      · rw [List.getElem?_set_self hl] at hj
        cases hj
      · rw [List.getElem?_eq_none (by simp; omega)] at hj
        cases hj
    · rw [List.getElem?_set_ne hij] at hj
      rw [List.getElem?_set_ne hij]
      exact w.ow j e hj
  inj := fun j l e e' a h1 h2 h3 h4 => by
    have ne : ∀ {j e}, (ρ.set i (.fr d))[j]? = some (.ow e) → i ≠ j := fun {j e} h z => by
      subst z
      by_cases hl : i < ρ.length
      · rw [List.getElem?_set_self hl] at h; cases h
      · rw [List.getElem?_eq_none (by simp; omega)] at h; cases h
    have n1 := ne h1
    have n2 := ne h2
    rw [List.getElem?_set_ne n1] at h1 h3
    rw [List.getElem?_set_ne n2] at h2 h4
    exact w.inj j l e e' a h1 h2 h3 h4
  og := w.og
  tb := w.tb
/-- a slot is set to a new list or dict -/
theorem StI.setF {p : Addr} {d : D} {m : Mob} (w : StI K mg O R G H σ ρ) (i : Nat) (hp : p ∉ O) (gp : G p = none) (nR : p ∉ R) (hm : owMob d = some m) (o : ObIs K mg R G H p m) : StI K mg (p :: O) R G H (σ.set i (some (.ref p))) (ρ.set i (.ow d)) where
  s := w.s
  cl := w.cl
  len := by simp [w.len]
  fr := fun j e hj => by
    by_cases hij : i = j
    · subst hij
      by_cases hl : i < ρ.length
      · rw [List.getElem?_set_self hl] at hj
        cases hj
      · rw [List.getElem?_eq_none (by simp; omega)] at hj
        cases hj
    · rw [List.getElem?_set_ne hij] at hj
      rw [List.getElem?_set_ne hij]
      exact w.fr j e hj
  ow := fun j e hj => by
    by_cases hij : i = j
    · subst hij
      by_cases hl : i < ρ.length
      · rw [List.getElem?_set_self hl] at hj
        cases hj
        exact ⟨p, m, List.getElem?_set_self (by rw [w.len]; exact hl), List.mem_cons_self, hm, o⟩
      · rw [List.getElem?_eq_none (by simp; omega)] at hj
        cases hj
    · rw [List.getElem?_set_ne hij] at hj
      rw [List.getElem?_set_ne hij]
      obtain ⟨a, m, h1, h2, h3⟩ := w.ow j e hj
      exact ⟨a, m, h1, List.mem_cons_of_mem _ h2, h3⟩
  inj := fun j l e e' a h1 h2 h3 h4 => by
    have old : ∀ {j e}, i ≠ j → (ρ.set i (.ow d))[j]? = some (.ow e) → (σ.set i (some (.ref p)))[j]? = some (some (.ref a)) → a ≠ p := fun {j e} hij q1 q2 z => by
      rw [List.getElem?_set_ne hij] at q1 q2
      obtain ⟨a', m', e1, e2, _⟩ := w.ow j e q1
      rw [q2] at e1
      cases e1
      exact hp (z ▸ e2)
    have self : ∀ {j}, i = j → (σ.set i (some (.ref p)))[j]? = some (some (.ref a)) → a = p := fun {j} hij q => by
      subst hij
      by_cases hl : i < σ.length
      · rw [List.getElem?_set_self hl] at q; cases q; rfl
      · rw [List.getElem?_eq_none (by simp; omega)] at q; cases q
    by_cases n1 : i = j
    · by_cases n2 : i = l
      · rw [← n1, ← n2]
      · exact absurd (self n1 h3) (old n2 h2 h4)
    · by_cases n2 : i = l
      · exact absurd (self n2 h4) (old n1 h1 h3)
      · rw [List.getElem?_set_ne n1] at h1 h3
        rw [List.getElem?_set_ne n2] at h2 h4
        exact w.inj j l e e' a h1 h2 h3 h4
  tb := w.tb
  og := fun a ha => by
    rcases List.mem_cons.mp ha with e | ha
    · rw [e]; exact ⟨gp, nR, o.hard⟩
    · exact w.og a ha
theorem ExtS.more (p : Addr) (h : H p = none) {O' R' : List Addr} {G' H' : Hp} (x : ExtS O R G H O' R' G' H') : ExtS O R G H (p :: O') R' G' H' :=
  ⟨x.r, x.g, x.k, x.th, x.n, x.nr, fun a ha => (List.mem_cons.mp ha).elim (fun e => .inr (e ▸ h)) (x.no a), x.t⟩
theorem toMob_ow {d : D} {m : Mob} (h : toMob d = some m) : owMob d = some m := by cases d <;> first | exact h | cases h
end

section
variable {X : Cx} {W : WX} {st : Stmt} {rest : List Stmt} {e : Expr} {pos pos' : Pos} {ms : List Nat} {i : Nat} {x : Str}
/-! ### return, an expression alone -/
theorem s_retH {m : Env' → M D} (h : E' X W e m) : S' X W (.Return (some e) pos) (sH m fun d _ μ => .rt d μ) :=
  PS.weak (ps_ret h) fun E σ H ⟨O, R, G, ρ, μ, w, mu, a⟩ => by
    obtain ⟨R0, G0, ρ0, μ0, w0, q⟩ := stepH (rel := rIs X.K X.mg) w mu a
    exact ⟨R0, G0, ρ0, μ0, w0, q.imp fun v H1 ⟨R1, G1, d, μ1, x, r, w1, mu1, k⟩ => k O R1 G1 H1 v x.toS w1.s w1.cl r mu1⟩
theorem s_retP (ms : List Nat) {m : Env' → M D} (h : E' X W e m) : S' X W (.Return (some e) pos) (sP ms m fun d _ μ => .rt d μ) :=
  PS.weak (ps_ret h) fun E σ H ⟨O, R, G, ρ, μ, w, mu, a⟩ => by
    have ok : okMs ms ρ = true := by
      unfold sP at a
      split at a
      · assumption
      · exact a.elim
    obtain ⟨R0, G0, ρ0, μ0, w0, q⟩ := stepP (rel := rIs X.K X.mg) w mu a
    refine ⟨R0, G0, ρ0, μ0, w0, q.imp fun v H1 ⟨G1, d, x, r, k⟩ => ?_⟩
    obtain ⟨O1, w1, mu1, x1, f, _⟩ := giveP w ok mu x
    exact k O1 R G1 H1 v x1 w1.s w1.cl (f v d r) mu1
theorem s_exprH {m : Env' → M D} (h : E' X W e m) (hs : swapsWith e none pos.line X.env = pure false := by rfl) : S' X W (.Expr e pos) (sH m fun _ ρ μ => .nx ρ μ) :=
  PS.weak (ps_expr h hs) fun E σ H ⟨O, R, G, ρ, μ, w, mu, a⟩ => by
    obtain ⟨R0, G0, ρ0, μ0, w0, q⟩ := stepH (rel := rIs X.K X.mg) w mu a
    exact ⟨R0, G0, ρ0, μ0, w0, q.imp fun v H1 ⟨R1, G1, d, μ1, x, r, w1, mu1, k⟩ => k O R1 G1 H1 σ x.toS w1 mu1⟩

/-! ### a name is set -/
def sSetH (i : Nat) (m : Env' → M D) : Sm := sH m fun d ρ μ => .nx (ρ.set i (.fr d)) μ
theorem s_setH (i : Nat) {m : Env' → M D} (hN : X.N.Nodup) (hi : X.N[i]? = some x) (hx : Loc X.env.scope x) (h : E' X W e m) (hs : swapsWith e (some (.Name x pos')) pos.line X.env = pure false := by rfl) (hf : X.fn x = true ∨ X.env.scope.names.lookup x = some .local := by first | exact .inl rfl | exact .inr rfl) :
    S' X W (.Assign [.Name x pos'] e pos) (sSetH i m) :=
  PS.weak (ps_set hN hi hx h hs hf) fun E σ H ⟨O, R, G, ρ, μ, w, mu, a⟩ => by
    obtain ⟨R0, G0, ρ0, μ0, w0, q⟩ := stepH (rel := rIs X.K X.mg) w mu a
    exact ⟨R0, G0, ρ0, μ0, w0, q.imp fun v H1 ⟨R1, G1, d, μ1, x, r, w1, mu1, k⟩ => k O R1 G1 H1 _ x.toS (w1.set i r) mu1⟩
/-- mode P: a value without lists; what is owned stays owned -/
def sSetP (ms : List Nat) (i : Nat) (m : Env' → M D) : Sm := sP ms m fun d ρ μ => if d.flat = true then .nx (ρ.set i (.fr d)) μ else .nx ((frz ms ρ).set i (.fr d)) μ
theorem s_setP (ms : List Nat) (i : Nat) {m : Env' → M D} (hN : X.N.Nodup) (hi : X.N[i]? = some x) (hx : Loc X.env.scope x) (h : E' X W e m) (hs : swapsWith e (some (.Name x pos')) pos.line X.env = pure false := by rfl) (hf : X.fn x = true ∨ X.env.scope.names.lookup x = some .local := by first | exact .inl rfl | exact .inr rfl) :
    S' X W (.Assign [.Name x pos'] e pos) (sSetP ms i m) :=
  PS.weak (ps_set hN hi hx h hs hf) fun E σ H ⟨O, R, G, ρ, μ, w, mu, a⟩ => by
    have ok : okMs ms ρ = true := by
      unfold sSetP sP at a
      split at a
      · assumption
      · exact a.elim
    obtain ⟨R0, G0, ρ0, μ0, w0, q⟩ := stepP (rel := rIs X.K X.mg) w mu a
    refine ⟨R0, G0, ρ0, μ0, w0, q.imp fun v H1 ⟨G1, d, x, r, k⟩ => ?_⟩
    split at k
    · rename_i hd
      obtain ⟨w1, mu1, k1, f⟩ := backP w mu x k
      exact k1 O R _ H1 _ (.refl _ _ _ _) (w1.set i (f v d r hd)) mu1
    · obtain ⟨O1, w1, mu1, x1, f, _⟩ := giveP w ok mu x
      exact k O1 R _ H1 _ x1 (w1.set i (f v d r)) mu1
/-- a new list or dict, this slot's own -/
def sSetFH (i : Nat) (m : Env' → M D) : Sm := sH m fun d ρ μ => .nx (ρ.set i (.ow d)) μ
theorem s_setFH (i : Nat) {m : Env' → M D} (hN : X.N.Nodup) (hi : X.N[i]? = some x) (hx : Loc X.env.scope x) (h : F' X W e m) (hs : swapsWith e (some (.Name x pos')) pos.line X.env = pure false := by rfl) (hf : X.fn x = true ∨ X.env.scope.names.lookup x = some .local := by first | exact .inl rfl | exact .inr rfl) :
    S' X W (.Assign [.Name x pos'] e pos) (sSetFH i m) :=
  PS.weak (ps_set hN hi hx h hs hf) fun E σ H ⟨O, R, G, ρ, μ, w, mu, a⟩ => by
    obtain ⟨R0, G0, ρ0, μ0, w0, q⟩ := stepH (rel := rFr X.K X.mg) w mu a
    refine ⟨R0, G0, ρ0, μ0, w0, q.imp fun v H1 ⟨R1, G1, d, μ1, x, r, w1, mu1, k⟩ => ?_⟩
    obtain ⟨p, m', rfl, hp, gp, nR, hm, o⟩ := r
    have nO : p ∉ O := fun z => by
      obtain ⟨_, _, u, hu, _⟩ := w.og p z
      rw [hp] at hu; cases hu
    exact k (p :: O) R1 G1 H1 _ (ExtS.more p hp x.toS) (w1.setF i nO gp nR (toMob_ow hm) o) mu1
/-- .. in mode P: what is owned stays owned where the new one's items hold no lists -/
def itemsFlat : D → Bool
  | .lst ds => D.flatAll ds
  | .dic kvs => D.flatAll (kvs.map (·.2))
  | .dit kvs => D.flatAll (kvs.map (·.2))
  | _ => false
def sSetFP (ms : List Nat) (i : Nat) (m : Env' → M D) : Sm := sP ms m fun d ρ μ => if itemsFlat d = true then .nx (ρ.set i (.ow d)) μ else .nx ((frz ms ρ).set i (.ow d)) μ
theorem ob_flat {K : PySem.W.Frag} {mg : Str → Option Value} {R' : List Addr} {G G' H : Hp} {p : Addr} {d : D} {m : Mob} (hm : toMob d = some m) (o : ObIs K mg [] G H p m) (f : itemsFlat d = true) (s : ∀ b u, G b = some u → cont u = false → G' b = some u) : ObIs K mg R' G' H p m := by
  cases d with
  | lst ds => cases hm; obtain ⟨xs, h1, h2⟩ := o; exact ⟨xs, h1, (h2.flat s f).mono (.refl _) fun _ _ h => by simp at h⟩
  | dic ds => cases hm; obtain ⟨xs, h1, h2, h3⟩ := o; exact ⟨xs, h1, h2, (h3.flat s f).mono (.refl _) fun _ _ h => by simp at h⟩
  | dit ds => cases hm; obtain ⟨xs, h1, h2, h3⟩ := o; exact ⟨xs, h1, h2, (h3.flat s f).mono (.refl _) fun _ _ h => by simp at h⟩
  | _ => cases hm
theorem s_setFP (ms : List Nat) (i : Nat) {m : Env' → M D} (hN : X.N.Nodup) (hi : X.N[i]? = some x) (hx : Loc X.env.scope x) (h : F' X W e m) (hs : swapsWith e (some (.Name x pos')) pos.line X.env = pure false := by rfl) (hf : X.fn x = true ∨ X.env.scope.names.lookup x = some .local := by first | exact .inl rfl | exact .inr rfl) :
    S' X W (.Assign [.Name x pos'] e pos) (sSetFP ms i m) :=
  PS.weak (ps_set hN hi hx h hs hf) fun E σ H ⟨O, R, G, ρ, μ, w, mu, a⟩ => by
    have ok : okMs ms ρ = true := by
      unfold sSetFP sP at a
      split at a
      · assumption
      · exact a.elim
    obtain ⟨R0, G0, ρ0, μ0, w0, q⟩ := stepP (rel := rFr X.K X.mg) w mu a
    refine ⟨R0, G0, ρ0, μ0, w0, q.imp fun v H1 ⟨G1, d, x, r, k⟩ => ?_⟩
    obtain ⟨p, m', rfl, hp, gp, _, hm, o⟩ := r
    have nO : p ∉ O := fun z => by
      obtain ⟨_, _, u, hu, _⟩ := w.og p z
      rw [hp] at hu; cases hu
    have nR : p ∉ R := fun z => mu.hr p z hp
    split at k
    · rename_i hd
      obtain ⟨w1, x1, k1⟩ := w.extP mu.hard x
      refine k (p :: O) R _ H1 _ (ExtS.more p hp x1) (w1.setF i nO ?_ nR (toMob_ow hm) (ob_flat hm o hd (no_ads w x))) (mu.keepP x1.g k1)
      unfold subH
      split
      · rfl
      · exact gp
    · obtain ⟨O1, w1, mu1, x1, f, hO⟩ := giveP w ok mu x
      exact k (p :: O1) R _ H1 _ (ExtS.more p hp x1) (w1.setF i (fun z => nO (hO p z)) gp nR (toMob_ow hm) (o.mono (.refl _) (fun _ _ h => by simp at h) rfl)) mu1

/-! ### tests of statements -/
abbrev Tst := Env → List Mob → Res Bool
def AftT (K : PySem.W.Frag) (mg : Str → Option Value) (W : WX) (r : Res Bool) (O R : List Addr) (G H : Hp) (σ : L2.St) (ρ : Env) (Q : Bool → Hp → Prop) : Prop := match r with
  | .ok b μ => ∀ R' G' H', ExtS O R G H O R' G' H' → StI K mg O R' G' H' σ ρ → MuIs K mg R' G' H' μ → Q b H'
  | .exc c fs μ => ∀ R' G' H' C dx, ExtS O R G H O R' G' H' → StI K mg O R' G' H' σ ρ → mg c = some (.ref C) → XFs K mg R' G' H' dx fs → MuIs K mg R' G' H' μ → W (.ref C) dx σ H'
  | .stuck => False
def tTst (K : PySem.W.Frag) (mg : Str → Option Value) (W : WX) (t : Tst) : TT := fun σ H Q => ∃ O R G ρ μ, StI K mg O R G H σ ρ ∧ MuIs K mg R G H μ ∧ AftT K mg W (t ρ μ) O R G H σ ρ Q
abbrev C' (X : Cx) (W : WX) (c : Expr) (t : Tst) : Prop := PT X c (tTst X.K X.mg W t)
def tH (t : Env' → M Bool) : Tst := fun ρ μ => t (vH ρ) μ
def tP (ms : List Nat) (t : Env' → M Bool) : Tst := fun ρ μ => if okMs ms ρ = true then match t (vP ms ρ) [] with
    | .ok b [] => .ok b μ
    | .exc c fs [] => if D.flatFs fs = true then .exc c fs μ else .stuck
    | _ => .stuck
  else .stuck
/-- what the rest does with a test's answer, as statements see it -/
def sTst (t : Tst) (f : Bool → Sm) : Sm := fun ρ μ => match t ρ μ with
  | .ok b μ' => f b ρ μ'
  | .exc c fs μ' => .exc c fs ρ μ'
  | .stuck => .stuck
theorem c_H {c : Expr} {t : Env' → M Bool} (h : T' X W c t) : C' X W c (tH t) :=
  PT.weak h fun σ H Q ⟨O, R, G, ρ, μ, w, mu, a⟩ => by
    refine ⟨R, G, vH ρ, μ, wd_H w mu, ?_⟩
    unfold tH at a
    cases q : t (vH ρ) μ with
    | ok d μ1 =>
      rw [q] at a
      intro v R1 G1 H1 e r mu1
      cases (show v = d from r)
      exact a R1 G1 H1 e.toS (w.extH e) mu1
    | exc c fs μ1 =>
      rw [q] at a
      intro C dx xs R1 G1 H1 e hc hx mu1
      exact a R1 G1 H1 C dx e.toS (w.extH e) hc (fun hf => let ⟨d, h1, h2, h3, h4⟩ := hx hf; ⟨d, xs, h1, h2, h3, h4⟩) mu1
    | stuck => rw [q] at a; exact a
theorem c_P (ms : List Nat) {c : Expr} {t : Env' → M Bool} (h : T' X W c t) : C' X W c (tP ms t) :=
  PT.weak h fun σ H Q ⟨O, R, G, ρ, μ, w, mu, a⟩ => by
    let E : Ends := ⟨fun σ' H' => False, fun _ _ => False, fun _ _ => False, fun _ _ => False⟩
    unfold tP at a
    split at a
    · rename_i ok
      refine ⟨[], _, vP ms ρ, [], wd_P w ok, ?_⟩
      cases q : t (vP ms ρ) [] with
      | ok d μ1 =>
        rw [q] at a
        cases μ1 with
        | nil =>
          intro v R1 G1 H1 e r mu1
          cases (show v = d from r)
          have : R1 = [] := List.eq_nil_of_length_eq_zero mu1.len
          subst this
          obtain ⟨w2, x2, k2⟩ := w.extP mu.hard e
          exact a R _ H1 x2 w2 (mu.keepP x2.g k2)
        | cons _ _ => exact a.elim
      | exc c fs μ1 =>
        rw [q] at a
        cases μ1 with
        | nil =>
          simp only at a
          split at a
          · rename_i hf
            intro C dx xs R1 G1 H1 e hc hx mu1
            have : R1 = [] := List.eq_nil_of_length_eq_zero mu1.len
            subst this
            obtain ⟨w2, x2, k2⟩ := w.extP mu.hard e
            refine a R _ H1 C dx x2 w2 hc (fun hne => ?_) (mu.keepP x2.g k2)
            obtain ⟨d, h1, h2, h3, h4⟩ := hx hne
            exact ⟨d, xs, h1, no_ads w e d _ h2 rfl, h3, (h4.flat (no_ads w e) (by rw [← flatFs_all]; exact hf)).mono (.refl _) (fun _ _ h => by simp at h)⟩
          · exact a.elim
        | cons _ _ => exact a.elim
      | stuck => rw [q] at a; exact a.elim
    · exact a.elim

/-! ### if -/
def sIf (t : Tst) (m n : Sm) : Sm := sTst t fun b => if b = true then m else n
theorem s_if {c : Expr} {a b : List Stmt} {t : Tst} {m n : Sm} (hc : C' X W c t) (ha : Ss' X W a m) (hb : Ss' X W b n) : S' X W (.If c a b pos) (sIf t m n) :=
  PS.weak (ps_if hc ha hb) fun E σ H ⟨O, R, G, ρ, μ, w, mu, a⟩ => by
    refine ⟨O, R, G, ρ, μ, w, mu, ?_⟩
    unfold sIf sTst at a
    cases q : t ρ μ with
    | ok v μ1 =>
      rw [q] at a
      intro R1 G1 H1 x w1 mu1
      cases v with
      | true => exact ⟨O, R1, G1, ρ, μ1, w1, mu1, AftS.ext a x⟩
      | false => exact ⟨O, R1, G1, ρ, μ1, w1, mu1, AftS.ext a x⟩
    | exc c fs μ1 => rw [q] at a; exact fun R1 G1 H1 C dx x w1 hc hx mu1 => a O R1 G1 H1 σ C dx x w1 hc hx mu1
    | stuck => rw [q] at a; exact a

/-! ### while: by turns -/
/-- at most n turns; none: not through -/
def whN (t : Tst) (b : Sm) : Nat → Env → List Mob → Option SR
  | 0, _, _ => none
  | n + 1, ρ, μ => match t ρ μ with
    | .stuck => some .stuck
    | .exc c fs μ' => some (.exc c fs ρ μ')
    | .ok false μ' => some (.nx ρ μ')
    | .ok true μ' => match b ρ μ' with
      | .nx ρ' μ2 => whN t b n ρ' μ2
      | .ct ρ' μ2 => whN t b n ρ' μ2
      | .bk ρ' μ2 => some (.nx ρ' μ2)
      | .rt d μ2 => some (.rt d μ2)
      | .exc c fs ρ' μ2 => some (.exc c fs ρ' μ2)
      | .stuck => some .stuck
open Classical in
noncomputable def sWh (t : Tst) (b : Sm) : Sm := fun ρ μ => if h : ∃ n, (whN t b n ρ μ).isSome = true then (whN t b h.choose ρ μ).getD .stuck else .stuck
theorem whN_more {t : Tst} {b : Sm} : ∀ {n : Nat} {ρ : Env} {μ : List Mob} {r : SR}, whN t b n ρ μ = some r → whN t b (n + 1) ρ μ = some r
  | 0, _, _, _, h => by cases h
  | n + 1, ρ, μ, r, h => by
    unfold whN at h ⊢
    cases q : t ρ μ with
    | stuck => rw [q] at h; exact h
    | exc c fs μ' => rw [q] at h; exact h
    | ok k μ' =>
      rw [q] at h
      cases k with
      | false => exact h
      | true =>
        dsimp only at h ⊢
        cases q2 : b ρ μ' with
        | nx ρ' μ2 => rw [q2] at h; exact whN_more h
        | ct ρ' μ2 => rw [q2] at h; exact whN_more h
        | bk ρ' μ2 => rw [q2] at h; exact h
        | rt d μ2 => rw [q2] at h; exact h
        | exc c fs ρ' μ2 => rw [q2] at h; exact h
        | stuck => rw [q2] at h; exact h
theorem whN_le {t : Tst} {b : Sm} {n m : Nat} {ρ : Env} {μ : List Mob} {r : SR} (h : whN t b n ρ μ = some r) (hm : n ≤ m) : whN t b m ρ μ = some r := by
  induction hm with
  | refl => exact h
  | step _ ih => exact whN_more ih
theorem sWh_of {t : Tst} {b : Sm} {n : Nat} {ρ : Env} {μ : List Mob} {r : SR} (h : whN t b n ρ μ = some r) : sWh t b ρ μ = r := by
  have hx : ∃ n, (whN t b n ρ μ).isSome = true := ⟨n, by rw [h]; rfl⟩
  unfold sWh
  rw [dif_pos hx]
  obtain ⟨r', hr'⟩ := Option.isSome_iff_exists.mp hx.choose_spec
  rw [hr']
  show r' = r
  rcases Nat.le_total n hx.choose with z | z
  · have := whN_le h z
    rw [hr'] at this
    exact Option.some.inj this
  · have := whN_le hr' z
    rw [h] at this
    exact (Option.some.inj this).symm
theorem sWh_to {t : Tst} {b : Sm} {ρ : Env} {μ : List Mob} (h : sWh t b ρ μ ≠ .stuck) : ∃ n, whN t b n ρ μ = some (sWh t b ρ μ) := by
  by_cases hx : ∃ n, (whN t b n ρ μ).isSome = true
  · obtain ⟨n, hn⟩ := hx
    obtain ⟨r, hr⟩ := Option.isSome_iff_exists.mp hn
    exact ⟨n, by rw [sWh_of hr, hr]⟩
  · unfold sWh at h
    rw [dif_neg hx] at h
    exact absurd rfl h
theorem s_while {c : Expr} {body : List Stmt} {t : Tst} {b : Sm} (hp : PassesOwn (model X.prog X.w) X.A X.env X.xe) (hc : C' X W c t) (hb : Ss' X W body b) : S' X W (.While c body [] pos) (sWh t b) :=
  PS.weak (ps_while hp hc hb) fun E σ H ⟨O, R, G, ρ, μ, w, mu, a⟩ => by
    have hne : sWh t b ρ μ ≠ .stuck := fun z => by rw [z] at a; exact a
    obtain ⟨n, hn⟩ := sWh_to hne
    refine ⟨fun m σ H => ∃ O R G ρ μ r, StI X.K X.mg O R G H σ ρ ∧ MuIs X.K X.mg R G H μ ∧ whN t b m ρ μ = some r ∧ AftS X.K X.mg W r O R G H E, ⟨n, O, R, G, ρ, μ, _, w, mu, hn, a⟩, ?_⟩
    rintro m σ H ⟨O, R, G, ρ, μ, r, w, mu, hm, a⟩
    cases m with
    | zero => cases hm
    | succ m =>
      refine ⟨O, R, G, ρ, μ, w, mu, ?_⟩
      unfold whN at hm
      cases q : t ρ μ with
      | stuck => rw [q] at hm; cases hm; exact a
      | exc c fs μ' => rw [q] at hm; cases hm; exact fun R1 G1 H1 C dx x w1 hc hx mu1 => a O R1 G1 H1 σ C dx x w1 hc hx mu1
      | ok k μ' =>
        rw [q] at hm
        intro R1 G1 H1 x w1 mu1
        cases k with
        | false => cases hm; exact iteF (a O R1 G1 H1 σ x w1 mu1)
        | true =>
          refine iteT ⟨fun σ' H' => ∃ O R G ρ μ r, StI X.K X.mg O R G H' σ' ρ ∧ MuIs X.K X.mg R G H' μ ∧ whN t b m ρ μ = some r ∧ AftS X.K X.mg W r O R G H' E, fun σ' H' h => ⟨m, Nat.lt_succ_self m, h⟩, O, R1, G1, ρ, μ', w1, mu1, ?_⟩
          dsimp only at hm
          have a1 := AftS.ext a x
          cases q2 : b ρ μ' with
          | nx ρ' μ2 => rw [q2] at hm; exact fun O2 R2 G2 H2 σ2 x2 w2 mu2 => ⟨O2, R2, G2, ρ', μ2, r, w2, mu2, hm, AftS.ext a1 x2⟩
          | ct ρ' μ2 => rw [q2] at hm; exact fun O2 R2 G2 H2 σ2 x2 w2 mu2 => ⟨O2, R2, G2, ρ', μ2, r, w2, mu2, hm, AftS.ext a1 x2⟩
          | bk ρ' μ2 => rw [q2] at hm; cases hm; exact a1
          | rt d μ2 => rw [q2] at hm; cases hm; exact a1
          | exc c fs ρ' μ2 => rw [q2] at hm; cases hm; exact a1
          | stuck => rw [q2] at hm; cases hm; exact a1
end
end DX
set_option Elab.async false
set_option linter.all false
set_option maxRecDepth 100000
set_option maxHeartbeats 4000000
/-! DI: targets, iterators, for, comprehensions -/
namespace DX
open PySem PySem.Spec PyProof.Rows L2
variable [Tb]

/-! ### targets: names and tuples of them -/
inductive Pat where
  | nm (i : Nat) | tu (ps : List Pat)
mutual
def gPat (K : PySem.W.Frag) : Pat → TG
  | .nm i => gName i
  | .tu ps => gTup K ps.length (gPats K ps)
def gPats (K : PySem.W.Frag) : List Pat → TGs
  | [] => gNil
  | p :: ps => gCons (gPat K p) (gPats K ps)
end
mutual
def asg {α : Type} (f : D → α) : Pat → D → List α → Option (List α)
  | .nm i, d, ρ => some (ρ.set i (f d))
  | .tu ps, .tup ds, ρ => asgs f ps ds ρ
  | .tu _, _, _ => none
def asgs {α : Type} (f : D → α) : List Pat → List D → List α → Option (List α)
  | [], [], ρ => some ρ
  | p :: ps, d :: ds, ρ => match asg f p d ρ with
    | some ρ' => asgs f ps ds ρ'
    | none => none
  | _, _, _ => none
end
mutual
def patIn (vs : List Nat) : Pat → Bool
  | .nm i => vs.contains i
  | .tu ps => patsIn vs ps
def patsIn (vs : List Nat) : List Pat → Bool
  | [] => true
  | p :: ps => patIn vs p && patsIn vs ps
end
section
variable {K : PySem.W.Frag} {mg : Str → Option Value} {O R : List Addr} {G H : Hp}
theorem asgs_len {α : Type} {f : D → α} : ∀ {ps : List Pat} {ds : List D} {ρ ρ' : List α}, asgs f ps ds ρ = some ρ' → ps.length = ds.length
  | [], [], _, _, _ => rfl
  | [], _ :: _, _, _, e => by simp [asgs] at e
  | _ :: _, [], _, _, e => by simp [asgs] at e
  | p :: ps, d :: ds, ρ, ρ', e => by
    simp only [asgs] at e
    cases q : asg f p d ρ with
    | none => rw [q] at e; cases e
    | some ρ1 => rw [q] at e; simp [asgs_len e]
theorem wipe_out {σ : L2.St} {i : Nat} {v : Option V} : ∀ {vs : List Nat}, i ∉ vs → wipe (σ.set i v) vs = (wipe σ vs).set i v
  | [], _ => rfl
  | w :: vs, h => by
    show (wipe (σ.set i v) vs).set w none = ((wipe σ vs).set w none).set i v
    rw [wipe_out (fun z => h (List.mem_cons_of_mem _ z)), List.set_comm]
    intro e
    exact h (by rw [e]; exact List.mem_cons_self)
theorem wipe_set {σ : L2.St} {i : Nat} {v : Option V} : ∀ {vs : List Nat}, i ∈ vs → wipe (σ.set i v) vs = wipe σ vs
  | w :: vs, h => by
    show (wipe (σ.set i v) vs).set w none = (wipe σ vs).set w none
    by_cases hm : i ∈ vs
    · rw [wipe_set hm]
    · have e : i = w := by
        rcases List.mem_cons.mp h with e | e
        · exact e
        · exact absurd e hm
      subst e
      rw [wipe_out hm, List.set_set]
mutual
/-- a value is set to a target, the slots' relation kept by setting one slot -/
theorem asg_ok {α : Type} {f : D → α} {P : L2.St → List α → Prop} (hP : ∀ σ ρ i v d, P σ ρ → Is K mg R G v d → P (σ.set i (some v)) (ρ.set i (f d))) (s : Sub G H) : ∀ (p : Pat) (v : V) (d : D) (σ : L2.St) (ρ ρ' : List α) (Q : L2.St → Hp → Prop), Is K mg R G v d → P σ ρ → asg f p d ρ = some ρ' → (∀ σ', P σ' ρ' → (∀ vs, patIn vs p = true → wipe σ' vs = wipe σ vs) → Q σ' H) → gPat K p v σ H Q
  | .nm i, v, d, σ, ρ, ρ', Q, hi, hp, e, hq => by
    simp only [asg] at e
    cases e
    refine hq _ (hP _ _ _ _ _ hp hi) fun vs hv => ?_
    exact wipe_set (List.contains_iff_mem.mp (by simpa [patIn] using hv))
  | .tu ps, v, d, σ, ρ, ρ', Q, hi, hp, e, hq => by
    cases hi with
    | @tup a xs ds h k =>
      simp only [asg] at e
      exact ⟨a, xs, rfl, SqT.sub h s, by rw [k.length]; exact (asgs_len e).symm, asgs_ok hP s ps xs ds σ ρ ρ' Q k hp e fun σ' h1 h2 => hq σ' h1 fun vs hv => h2 vs (by simpa [patIn] using hv)⟩
    | _ => simp [asg] at e
theorem asgs_ok {α : Type} {f : D → α} {P : L2.St → List α → Prop} (hP : ∀ σ ρ i v d, P σ ρ → Is K mg R G v d → P (σ.set i (some v)) (ρ.set i (f d))) (s : Sub G H) : ∀ (ps : List Pat) (vs : List V) (ds : List D) (σ : L2.St) (ρ ρ' : List α) (Q : L2.St → Hp → Prop), IsAll K mg R G vs ds → P σ ρ → asgs f ps ds ρ = some ρ' → (∀ σ', P σ' ρ' → (∀ ws, patsIn ws ps = true → wipe σ' ws = wipe σ ws) → Q σ' H) → gPats K ps vs σ H Q
  | [], vs, ds, σ, ρ, ρ', Q, hi, hp, e, hq => by
    cases hi with
    | nil => simp only [asgs] at e; cases e; exact ⟨rfl, hq σ hp fun _ _ => rfl⟩
    | cons _ _ => simp [asgs] at e
  | p :: ps, vs, ds, σ, ρ, ρ', Q, hi, hp, e, hq => by
    cases hi with
    | nil => simp [asgs] at e
    | @cons v vs d ds h k =>
      simp only [asgs] at e
      cases q : asg f p d ρ with
      | none => rw [q] at e; cases e
      | some ρ1 =>
        rw [q] at e
        exact ⟨v, vs, rfl, asg_ok hP s p v d σ ρ ρ1 _ h hp q fun σ1 h1 h2 => asgs_ok hP s ps vs ds σ1 ρ1 ρ' Q k h1 e fun σ' h3 h4 => hq σ' h3 fun ws hw => by
          simp only [patsIn, Bool.and_eq_true] at hw
          rw [h4 ws hw.2, h2 ws hw.1]⟩
end
end

/-! ### iterators -/
/-- J goes through ds -/
def ItOk (K : PySem.W.Frag) (mg : Str → Option Value) (R : List Addr) (G : Hp) (J : It) (ds : List D) : Prop := ∃ (Gw : Hp → Prop) (Y : Nat → Hp → V → Hp → Prop), Walk J ds.length Gw Y ∧ (∀ G2 H2, Sub G G2 → Sub G2 H2 → Gw H2) ∧
  ∀ i R2 G2 H2 x H3, i < ds.length → (∀ (k : Nat) (a : Addr), R[k]? = some a → R2[k]? = some a) → W0 R2 G2 H2 → Sub G G2 → Y i H2 x H3 → ∃ d G3, ds[i]? = some d ∧ Grow R2 G2 H2 G3 H3 ∧ Is K mg R2 G3 x d
abbrev rIt (K : PySem.W.Frag) (mg : Str → Option Value) : Rl It (List D) := ⟨fun _ R G _ J ds => ItOk K mg R G J ds, fun _ h => h⟩
abbrev I' (X : Cx) (W : WX) (tg iter : Expr) (m : Env' → M (List D)) : Prop := PI X tg iter (tD X.K X.mg W (rIt X.K X.mg) m)
theorem PI.weak {X : Cx} {tg e : Expr} {t t' : TI} (h : PI X tg e t) (i : ∀ σ H Q, t' σ H Q → t σ H Q) : PI X tg e t' := ⟨fun pins s σ H R I q => h.run pins s σ H R I (i σ H R q)⟩
section
variable {K : PySem.W.Frag} {mg : Str → Option Value} {R : List Addr} {G : Hp} {ds es : List D} {xs ys : List V} {a b : Addr}
theorem itok_at {J : It} {Gw : Hp → Prop} (w : Walk J xs.length Gw (YAt xs)) (hg : ∀ G2 H2, Sub G G2 → Sub G2 H2 → Gw H2) (k : IsAll K mg R G xs ds) : ItOk K mg R G J ds :=
  ⟨Gw, YAt xs, by rw [← k.length]; exact w, hg, fun i R2 G2 H2 x H3 _ hr w2 s2 y => by
    obtain ⟨e, hx⟩ := y
    rw [e]
    obtain ⟨d, hd, h⟩ := k.getV hx
    exact ⟨d, G2, hd, .refl w2, h.mono s2 hr⟩⟩
def zipD : List D → List D → List D := List.zipWith fun x y => .tup [x, y]
theorem itok_pair {J : It} {Gw : Hp → Prop} {f g : Nat → Option V} {n : Nat} {ps : List D} (hn : ps.length = n) (w : Walk J n Gw (YPair f g)) (hg : ∀ G2 H2, Sub G G2 → Sub G2 H2 → Gw H2)
    (hp : ∀ i x y, i < n → f i = some x → g i = some y → ∃ d e, ps[i]? = some (.tup [d, e]) ∧ Is K mg R G x d ∧ Is K mg R G y e) : ItOk K mg R G J ps :=
  ⟨Gw, YPair f g, by rw [hn]; exact w, hg, fun i R2 G2 H2 v H3 hi hr w2 s2 y => by
    obtain ⟨T, x, y, e1, e2, e3, e4, e5⟩ := y
    subst e1 e3
    obtain ⟨d, e, h1, h2, h3⟩ := hp i x y (hn ▸ hi) e4 e5
    exact ⟨_, _, h1, (new_tup (ds := [d, e]) w2 (.cons (h2.mono s2 hr) (.cons (h3.mono s2 hr) .nil)) e2).1, (new_tup (ds := [d, e]) w2 (.cons (h2.mono s2 hr) (.cons (h3.mono s2 hr) .nil)) e2).2⟩⟩
theorem zip_at {f g : Nat → Option V} (kx : IsAll K mg R G xs ds) (ky : IsAll K mg R G ys es) : ∀ (i : Nat) (x y : V), i < min xs.length ys.length → xs[i]? = some x → ys[i]? = some y → ∃ d e, (zipD ds es)[i]? = some (.tup [d, e]) ∧ Is K mg R G x d ∧ Is K mg R G y e := fun i x y _ h1 h2 => by
  obtain ⟨d, q1, r1⟩ := kx.getV h1
  obtain ⟨e, q2, r2⟩ := ky.getV h2
  exact ⟨d, e, by unfold zipD; rw [List.getElem?_zipWith, q1, q2], r1, r2⟩
theorem zip_len (kx : IsAll K mg R G xs ds) (ky : IsAll K mg R G ys es) : (zipD ds es).length = min xs.length ys.length := by
  unfold zipD; rw [List.length_zipWith, kx.length, ky.length]
theorem walk_zipT {n : Nat} (hn : n = min xs.length ys.length) : Walk (RZ.ItzT K a b) n (fun H => SqT K H a xs ∧ SqT K H b ys) (YPair (fun i => xs[i]?) (fun i => ys[i]?)) := by
  subst hn
  constructor
  · intro i _ hi q
    have h1 : i < xs.length := by omega
    have h2 : i < ys.length := by omega
    refine ⟨xs, ys, xs[i], ys[i], q.1, q.2, ?_, ?_⟩ <;> simp [h1, h2]
  · exact fun _ q => ⟨xs, ys, q.1, q.2, by omega⟩
  · rintro i H v H' _ q ⟨T, x, z, h1, h2, h3, h4, h5⟩
    refine ⟨T, x, z, h1, h2, h3, h4 xs q.1, h5 ys q.2⟩
def enumD (ds : List D) : List D := ds.mapIdx fun i d => .tup [.int i, d]
theorem enum_at (kx : IsAll K mg R G xs ds) : ∀ (i : Nat) (x y : V), i < xs.length → (some (V.int (i : Nat))) = some x → xs[i]? = some y → ∃ d e, (enumD ds)[i]? = some (.tup [d, e]) ∧ Is K mg R G x d ∧ Is K mg R G y e := fun i x y _ h1 h2 => by
  obtain ⟨e, q2, r2⟩ := kx.getV h2
  cases h1
  exact ⟨.int i, e, by unfold enumD; rw [List.getElem?_mapIdx, q2]; rfl, .int _, r2⟩
def rngD (lo : Int) (n : Nat) : List D := (List.range n).map fun i => .int (lo + (i : Nat))
theorem itok_range (lo : Int) (n : Nat) : ItOk K mg R G (Itr lo n) (rngD lo n) :=
  ⟨fun _ => True, YFn fun i => .int (lo + i), by unfold rngD; rw [List.length_map, List.length_range]; exact walk_range, fun _ _ _ _ => trivial, fun i R2 G2 H2 x H3 hi hr w2 s2 y => by
    obtain ⟨e, hx⟩ := y
    subst e hx
    unfold rngD at hi ⊢
    rw [List.length_map, List.length_range] at hi
    exact ⟨_, G2, by rw [List.getElem?_map, List.getElem?_range hi]; rfl, .refl w2, .int _⟩⟩
end
/-- what is walked as it lies: a list, a tuple, the script -/
def dSeq : D → Option (List D)
  | .lst ds => some ds
  | .tup ds => some ds
  | .scr ds => some ds
  | _ => none
section
variable {X : Cx} {W : WX} {tg e e1 e2 : Expr} {p pos tpos : Pos}
theorem i_seq {m : Env' → M D} (he : E' X W e m) : I' X W tg e (fun ρ => M.bind (m ρ) fun x => liftO (dSeq x)) := by
  constructor
  intro pins s σ H R0 I h
  obtain ⟨R, G, ρ, μ, w, h⟩ := tD.bind (rel := rIs X.K X.mg) h
  refine thn (he.run pins s σ H _ I ⟨R, G, ρ, μ, w, h⟩) ?_
  rintro v s1 ⟨x, H1, I1, rx, R1, G1, ρ1, μ1, d, w1, i1, q⟩
  obtain ⟨ds, hds, q2⟩ := after_lift w1.mu q
  have onList : ∀ {a xs}, v = Value.ref a → SqL X.K H1 a xs → R0 (Itl X.K a) H1 → wpAny (model X.prog X.w) X.A (pyIter v) (PIE X pins σ tg R0) X.xe s1 := by
    intro a xs ev hq fin
    subst ev
    obtain ⟨its, _, pl, _⟩ := I1.list hq
    refine wpAny_pyIter_list pl.isList ⟨s1.heap.objs.size, [s1.heap.objs.size], _, _, H1, rfl, ?_, turn_list a _, ⟨_, Heap.get?_push_size _ rfl, rfl, rfl⟩, ?_, fin⟩
    · exact I1.kept (t' := s1.toks) fun _ _ z => Heap.get?_push_of_some _ z
    · intro c hc
      obtain rfl : c = s1.heap.objs.size := by simpa using hc
      exact I1.fpOk (Nat.le_refl _) (I1.hok.fresh (Nat.le_refl _))
  cases i1 with
  | lst h1 k =>
    cases hds
    cases rx
    exact onList rfl (SqL.of (w1.s _ _ h1)) (q2 _ G1 H1 (.refl w1.w0) (itok_at walk_list (fun G2 H2 a1 a2 => SqL.of (a2 _ _ (a1 _ _ h1))) k))
  | scr h1 k =>
    cases hds
    cases rx
    exact onList rfl (SqL.sub h1 w1.s) (q2 _ G1 H1 (.refl w1.w0) (itok_at walk_list (fun G2 H2 a1 a2 => SqL.sub (SqL.sub h1 a1) a2) k))
  | @tup a xs _ h1 k =>
    cases hds
    cases rx
    have fin := q2 _ G1 H1 (.refl w1.w0) (itok_at walk_tup (fun G2 H2 a1 a2 => (SqT.sub (h1.sub a1) a2)) k)
    obtain ⟨its, _, pl, _⟩ := I1.tuple (SqT.sub h1 w1.s)
    refine wpAny_pyIter_tuple (show s1.heap.IsTuple a its.toArray from pl) ⟨s1.heap.objs.size, [s1.heap.objs.size], _, _, H1, rfl, ?_, turn_tuple a _, ⟨_, Heap.get?_push_size _ rfl, rfl, rfl⟩, ?_, fin⟩
    · exact I1.kept (t' := s1.toks) fun _ _ z => Heap.get?_push_of_some _ z
    · intro c hc
      obtain rfl : c = s1.heap.objs.size := by simpa using hc
      exact I1.fpOk (Nat.le_refl _) (I1.hok.fresh (Nat.le_refl _))
  | _ => cases hds
def dRng1 : List D → Option (List D)
  | [.int j] => if -(2 ^ 62) ≤ j ∧ j < 2 ^ 62 then some (rngD 0 j.toNat) else none
  | _ => none
def dRng2 : List D → Option (List D)
  | [.int i, .int j] => if -(2 ^ 62) ≤ i ∧ i < 2 ^ 62 ∧ -(2 ^ 62) ≤ j ∧ j < 2 ^ 62 then some (rngD i (j - i).toNat) else none
  | _ => none
/-- .. an iterator that asks nothing of the heap -/
abbrev rItR (K : PySem.W.Frag) (mg : Str → Option Value) : Rl It (List D) := ⟨fun _ _ _ _ J ds => (∀ R G, ItOk K mg R G J ds), fun _ h => h⟩
abbrev IR' (X : Cx) (W : WX) (tg iter : Expr) (m : Env' → M (List D)) : Prop := PI X tg iter (tD X.K X.mg W (rItR X.K X.mg) m)
theorem i_ofR {m : Env' → M (List D)} (h : IR' X W tg e m) : I' X W tg e m := PI.weak h fun σ H Q ⟨R, G, ρ, μ, w, q⟩ => ⟨R, G, ρ, μ, w, by
  cases z : m ρ μ with
  | ok d μ' => rw [z] at q; exact fun v R' G' H' x f mu => q v R' G' H' x (f R' G') mu
  | exc c fs μ' => rw [z] at q; exact q
  | stuck => rw [z] at q; exact q⟩
theorem i_range1 {m : Env' → M (List D)} (hg : Gl X "range") (hm : X.mg "range" = none) (ha : A' X W [e] m) (hs : starEach [e] X.env = [(false, eval e X.env)] := by rfl) : IR' X W tg (.Call (.Name "range" p) [e] [] pos) (fun ρ => M.bind (m ρ) fun xs => liftO (dRng1 xs)) :=
  PI.weak (pi_range1 hg hm ha hs) fun σ H Q h => by
    obtain ⟨R, G, ρ, μ, w, h⟩ := tD.bind (rel := rAll X.K X.mg) h
    refine ⟨R, G, ρ, μ, w, h.imp fun vs H1 ⟨R1, G1, ρ1, μ1, ds, w1, i1, q1⟩ => ?_⟩
    obtain ⟨z, hz, q⟩ := after_lift w1.mu q1
    unfold dRng1 at hz
    split at hz
    · rename_i j
      split at hz
      · rename_i hc
        cases hz
        cases i1 with
        | cons a1 a2 =>
          cases a2
          cases a1
          exact ⟨j, rfl, hc.1, hc.2, q _ G1 H1 (.refl w1.w0) (fun _ _ => itok_range 0 _)⟩
      · cases hz
    · cases hz
theorem i_range2 {m : Env' → M (List D)} (hg : Gl X "range") (hm : X.mg "range" = none) (ha : A' X W [e1, e2] m) (hs : starEach [e1, e2] X.env = [(false, eval e1 X.env), (false, eval e2 X.env)] := by rfl) (hs2 : starEach [e2] X.env = [(false, eval e2 X.env)] := by rfl) :
    IR' X W tg (.Call (.Name "range" p) [e1, e2] [] pos) (fun ρ => M.bind (m ρ) fun xs => liftO (dRng2 xs)) :=
  PI.weak (pi_range2 hg hm ha hs hs2) fun σ H Q h => by
    obtain ⟨R, G, ρ, μ, w, h⟩ := tD.bind (rel := rAll X.K X.mg) h
    refine ⟨R, G, ρ, μ, w, h.imp fun vs H1 ⟨R1, G1, ρ1, μ1, ds, w1, i1, q1⟩ => ?_⟩
    obtain ⟨z, hz, q⟩ := after_lift w1.mu q1
    unfold dRng2 at hz
    split at hz
    · rename_i i j
      split at hz
      · rename_i hc
        cases hz
        cases i1 with
        | cons a1 a2 =>
          cases a2 with
          | cons a2 a3 =>
            cases a3
            cases a1
            cases a2
            exact ⟨i, j, rfl, ⟨hc.1, hc.2.1, hc.2.2.1, hc.2.2.2⟩, q _ G1 H1 (.refl w1.w0) (fun _ _ => itok_range i _)⟩
      · cases hz
    · cases hz
def dZip : List D → Option (List D)
  | [.lst xs, .lst ys] => some (zipD xs ys)
  | [.tup xs, .tup ys] => some (zipD xs ys)
  | _ => none
theorem i_zip {m : Env' → M (List D)} {elts : List Expr} {kk : Nat} (hg : Gl X "zip") (hm : X.mg "zip" = none) (ha : A' X W [e1, e2] m) (hs : starEach [e1, e2] X.env = (false, eval e1 X.env) :: starEach [e2] X.env := by rfl) (hpl : (backTo pos (starEach [e2] X.env)).any (·.1) = false := by rfl) :
    I' X W (.Tuple elts kk tpos) (.Call (.Name "zip" p) [e1, e2] [] pos) (fun ρ => M.bind (m ρ) fun xs => liftO (dZip xs)) :=
  PI.weak (RZ.pi_zipA hg hm ha hs hpl) fun σ H Q h => by
    obtain ⟨R, G, ρ, μ, w, h⟩ := tD.bind (rel := rAll X.K X.mg) h
    refine ⟨R, G, ρ, μ, w, h.imp fun vs H1 ⟨R1, G1, ρ1, μ1, ds, w1, i1, q1⟩ => ?_⟩
    obtain ⟨z, hz, q⟩ := after_lift w1.mu q1
    cases i1 with
    | nil => cases hz
    | cons a1 a2 =>
      cases a2 with
      | nil => cases a1 <;> cases hz
      | cons a2 a3 =>
        cases a3 with
        | cons _ _ => cases a1 <;> cases a2 <;> cases hz
        | nil =>
          cases a1 with
          | @lst a xs d1 h1 k1 =>
            cases a2 with
            | @lst b ys d2 h2 k2 =>
              cases hz
              exact ⟨a, b, xs, ys, rfl, .inl ⟨SqL.of (w1.s _ _ h1), SqL.of (w1.s _ _ h2), q _ G1 H1 (.refl w1.w0) (itok_pair (zip_len k1 k2) (walk_zip rfl) (fun G2 H2 s1 s2 => ⟨SqL.of (s2 _ _ (s1 _ _ h1)), SqL.of (s2 _ _ (s1 _ _ h2))⟩) (zip_at (f := fun _ => none) (g := fun _ => none) k1 k2))⟩⟩
            | _ => cases hz
          | @tup a xs d1 h1 k1 =>
            cases a2 with
            | @tup b ys d2 h2 k2 =>
              cases hz
              exact ⟨a, b, xs, ys, rfl, .inr ⟨SqT.sub h1 w1.s, SqT.sub h2 w1.s, q _ G1 H1 (.refl w1.w0) (itok_pair (zip_len k1 k2) (walk_zipT rfl) (fun G2 H2 s1 s2 => ⟨SqT.sub (h1.sub s1) s2, SqT.sub (h2.sub s1) s2⟩) (zip_at (f := fun _ => none) (g := fun _ => none) k1 k2))⟩⟩
            | _ => cases hz
          | _ => cases a2 <;> cases hz
def dEnum : List D → Option (List D)
  | [.lst xs] => some (enumD xs)
  | _ => none
theorem i_enum {m : Env' → M (List D)} {elts : List Expr} {kk : Nat} (hg : Gl X "enumerate") (hm : X.mg "enumerate" = none) (ha : A' X W [e] m) (hs : starEach [e] X.env = [(false, eval e X.env)] := by rfl) :
    I' X W (.Tuple elts kk tpos) (.Call (.Name "enumerate" p) [e] [] pos) (fun ρ => M.bind (m ρ) fun xs => liftO (dEnum xs)) :=
  PI.weak (pi_enum hg hm ha hs) fun σ H Q h => by
    obtain ⟨R, G, ρ, μ, w, h⟩ := tD.bind (rel := rAll X.K X.mg) h
    refine ⟨R, G, ρ, μ, w, h.imp fun vs H1 ⟨R1, G1, ρ1, μ1, ds, w1, i1, q1⟩ => ?_⟩
    obtain ⟨z, hz, q⟩ := after_lift w1.mu q1
    cases i1 with
    | nil => cases hz
    | cons a1 a2 =>
      cases a2 with
      | cons _ _ => cases a1 <;> cases hz
      | nil =>
        cases a1 with
        | @lst a xs d1 h1 k1 =>
          cases hz
          exact ⟨a, xs, rfl, SqL.of (w1.s _ _ h1), q _ G1 H1 (.refl w1.w0) (itok_pair (by unfold enumD; rw [List.length_mapIdx, k1.length]) walk_enum (fun G2 H2 s1 s2 => SqL.of (s2 _ _ (s1 _ _ h1))) (enum_at k1))⟩
        | _ => cases hz
end
end DX
set_option Elab.async false
set_option linter.all false
set_option maxRecDepth 100000
set_option maxHeartbeats 4000000
/-! DJ: for, comprehensions -/
namespace DX
open PySem PySem.Spec PyProof.Rows L2
variable [Tb]

theorem ExtS.idx {O R O' R' : List Addr} {G H G' H' : Hp} (e : ExtS O R G H O' R' G' H') : ∀ (k : Nat) (a : Addr), R[k]? = some a → R'[k]? = some a := fun k a h => by
  obtain ⟨t, rfl⟩ := e.r
  obtain ⟨hl, _⟩ := List.getElem?_eq_some_iff.mp h
  rw [List.getElem?_append_left hl]
  exact h
def sForN (p : Pat) (b : Sm) : List D → Sm
  | [] => sNx
  | d :: ds => fun ρ μ => match asg Slot.fr p d ρ with
    | none => .stuck
    | some ρ1 => match b ρ1 μ with
      | .nx ρ2 μ2 => sForN p b ds ρ2 μ2
      | .ct ρ2 μ2 => sForN p b ds ρ2 μ2
      | .bk ρ2 μ2 => .nx ρ2 μ2
      | .rt d μ2 => .rt d μ2
      | .exc c fs ρ2 μ2 => .exc c fs ρ2 μ2
      | .stuck => .stuck
theorem for_core {K : PySem.W.Frag} {mg : Str → Option Value} {W : WX} {O R : List Addr} {G H : Hp} {σ : L2.St} {ρ : Env} {μ : List Mob} {E : Ends} {J : It} {ds : List D} {p : Pat} {b : Sm}
    (w : StI K mg O R G H σ ρ) (mu : MuIs K mg R G H μ) (it : ItOk K mg R G J ds) (a : AftS K mg W (sForN p b ds ρ μ) O R G H E) :
    ∃ Wn : Nat → Nat → L2.St → Hp → Prop, (∃ m, Wn 0 m σ H) ∧ ∀ i m σ H, Wn i m σ H →
      (J.stop i H ∧ E.nx σ H) ∨ (J.go i H ∧ ∃ N : L2.St → Hp → Prop, (∀ σ' H', N σ' H' → ∃ m', m' < m ∧ Wn (i + 1) m' σ' H') ∧ ∀ x H', J.yld i H x H' → gPat K p x σ H' fun σ2 H2 => tS K mg W b { E with nx := N, ct := N, bk := E.nx } σ2 H2) := by
  obtain ⟨Gw, Y, wk, hg, hy⟩ := it
  refine for_it wk (fun i σ H => ∃ O R1 G1 ρ μ, StI K mg O R1 G1 H σ ρ ∧ MuIs K mg R1 G1 H μ ∧ Sub G G1 ∧ (∀ (k : Nat) (a : Addr), R[k]? = some a → R1[k]? = some a) ∧ AftS K mg W (sForN p b (ds.drop i) ρ μ) O R1 G1 H E)
    ⟨O, R, G, ρ, μ, w, mu, .refl _, fun _ _ h => h, by simpa using a⟩ ?_ ?_ ?_
  · rintro i σ H _ ⟨O, R1, G1, ρ, μ, w, mu, s, _, _⟩
    exact hg G1 H s w.s
  · rintro i x σ H H' hi ⟨O, R1, G1, ρ, μ, w, mu, s, hr, a⟩ y
    obtain ⟨d, G3, hd, gr, is_⟩ := hy i R1 G1 H x H' hi hr ⟨w.s, w.cl, mu.hr⟩ s y
    have hdr : ds.drop i = d :: ds.drop (i + 1) := by
      obtain ⟨hl, he⟩ := List.getElem?_eq_some_iff.mp hd
      rw [List.drop_eq_getElem_cons hl, he]
    rw [hdr] at a
    unfold sForN at a
    cases q : asg Slot.fr p d ρ with
    | none => rw [q] at a; exact a.elim
    | some ρ1 =>
      rw [q] at a
      have w3 : StI K mg O R1 G3 H' σ ρ := w.extH gr.e
      have a3 := AftS.ext a gr.e.toS
      refine asg_ok (P := fun σ ρ => StI K mg O R1 G3 H' σ ρ) (fun σ ρ i v d h k => h.set i k) gr.e.s p x d σ ρ ρ1 _ is_ w3 q fun σ2 w4 _ => ⟨O, R1, G3, ρ1, μ, w4, gr.mu mu, ?_⟩
      dsimp only at a3
      have nxt : ∀ ρ2 μ2, AftS K mg W (sForN p b (ds.drop (i + 1)) ρ2 μ2) O R1 G3 H' E → ∀ O' R' G' H2 σ', ExtS O R1 G3 H' O' R' G' H2 → StI K mg O' R' G' H2 σ' ρ2 → MuIs K mg R' G' H2 μ2 →
          ∃ O R1 G1 ρ μ, StI K mg O R1 G1 H2 σ' ρ ∧ MuIs K mg R1 G1 H2 μ ∧ Sub G G1 ∧ (∀ (k : Nat) (a : Addr), R[k]? = some a → R1[k]? = some a) ∧ AftS K mg W (sForN p b (ds.drop (i + 1)) ρ μ) O R1 G1 H2 E :=
        fun ρ2 μ2 a O' R' G' H2 σ' x st mu => ⟨O', R', G', ρ2, μ2, st, mu, s.trans (gr.e.g.trans x.g), fun k c h => x.idx k c (hr k c h), AftS.ext a x⟩
      cases q2 : b ρ1 μ with
      | nx ρ2 μ2 => rw [q2] at a3; exact nxt ρ2 μ2 a3
      | ct ρ2 μ2 => rw [q2] at a3; exact nxt ρ2 μ2 a3
      | bk ρ2 μ2 => rw [q2] at a3; exact a3
      | rt d μ2 => rw [q2] at a3; exact a3
      | exc c fs ρ2 μ2 => rw [q2] at a3; exact a3
      | stuck => rw [q2] at a3; exact a3
  · rintro σ H ⟨O, R1, G1, ρ, μ, w, mu, s, hr, a⟩
    rw [List.drop_eq_nil_of_le (Nat.le_refl _)] at a
    exact a O R1 G1 H σ (.refl _ _ _ _) w mu
section
variable {X : Cx} {W : WX} {tg iter : Expr} {body : List Stmt} {p : Pat} {b : Sm} {m : Env' → M (List D)} {pos : Pos}
def sForH (p : Pat) (m : Env' → M (List D)) (b : Sm) : Sm := sH m fun ds => sForN p b ds
theorem s_forH (p : Pat) (hp : PassesOwn (model X.prog X.w) X.A X.env X.xe) (hc : X.calm = true) (hi : I' X W tg iter m) (hg : PG X tg (gPat X.K p)) (hb : Ss' X W body b) (hs : ∀ x, foldedSetIterable iter X.env x = pure x := by intro _; rfl) : S' X W (.For tg iter body [] pos) (sForH p m b) :=
  PS.weak (ps_for hp hc hi hg hb hs) fun E σ H ⟨O, R, G, ρ, μ, w, mu, a⟩ => by
    obtain ⟨R0, G0, ρ0, μ0, w0, q⟩ := stepH (rel := rIt X.K X.mg) w mu a
    exact ⟨R0, G0, ρ0, μ0, w0, q.imp fun J H1 ⟨R1, G1, ds, μ1, x, r, w1, mu1, k⟩ => for_core w1 mu1 r (AftS.ext k x.toS)⟩
def sForP (ms : List Nat) (p : Pat) (m : Env' → M (List D)) (b : Sm) : Sm := sP ms m fun ds ρ μ => sForN p b ds (frz ms ρ) μ
theorem s_forP (ms : List Nat) (p : Pat) (hp : PassesOwn (model X.prog X.w) X.A X.env X.xe) (hc : X.calm = true) (hi : I' X W tg iter m) (hg : PG X tg (gPat X.K p)) (hb : Ss' X W body b) (hs : ∀ x, foldedSetIterable iter X.env x = pure x := by intro _; rfl) : S' X W (.For tg iter body [] pos) (sForP ms p m b) :=
  PS.weak (ps_for hp hc hi hg hb hs) fun E σ H ⟨O, R, G, ρ, μ, w, mu, a⟩ => by
    have ok : okMs ms ρ = true := by
      unfold sForP sP at a
      split at a
      · assumption
      · exact a.elim
    obtain ⟨R0, G0, ρ0, μ0, w0, q⟩ := stepP (rel := rIt X.K X.mg) w mu a
    refine ⟨R0, G0, ρ0, μ0, w0, q.imp fun J H1 ⟨G1, ds, x, r, k⟩ => ?_⟩
    obtain ⟨O1, w1, mu1, x1, f, _⟩ := giveP w ok mu x
    obtain ⟨Gw, Y, h1, h2, h3⟩ := r
    exact for_core w1 mu1 ⟨Gw, Y, h1, h2, fun i R2 G2 H2 x H3 hi _ => h3 i R2 G2 H2 x H3 hi (fun _ _ h => by simp at h)⟩ (AftS.ext k x1)
/-- over a range that is reckoned from owned lists: they stay owned -/
def sForR (ms : List Nat) (p : Pat) (m : Env' → M (List D)) (b : Sm) : Sm := sP ms m fun ds => sForN p b ds
theorem s_forR (ms : List Nat) (p : Pat) (hp : PassesOwn (model X.prog X.w) X.A X.env X.xe) (hc : X.calm = true) (hi : IR' X W tg iter m) (hg : PG X tg (gPat X.K p)) (hb : Ss' X W body b) (hs : ∀ x, foldedSetIterable iter X.env x = pure x := by intro _; rfl) : S' X W (.For tg iter body [] pos) (sForR ms p m b) :=
  PS.weak (ps_for hp hc hi hg hb hs) fun E σ H ⟨O, R, G, ρ, μ, w, mu, a⟩ => by
    obtain ⟨R0, G0, ρ0, μ0, w0, q⟩ := stepP (rel := rItR X.K X.mg) w mu a
    refine ⟨R0, G0, ρ0, μ0, w0, q.imp fun J H1 ⟨G1, ds, x, r, k⟩ => ?_⟩
    obtain ⟨w1, mu1, k1, f⟩ := backP w mu x k
    exact for_core w1 mu1 (r R _) k1
end

/-! ### comprehensions -/
/-- raising is not followed out of a comprehension -/
def noX {α : Type} (m : M α) : M α := fun μ => match m μ with
  | .ok a μ' => .ok a μ'
  | _ => .stuck
/-- the items of a comprehension; ρ: the slots ahead, its own ones wiped -/
def lcN (p : Pat) (t : Env' → M Bool) (e : Env' → M D) (ρ : Env') : List D → List D → M (List D)
  | acc, [] => M.pure acc
  | acc, d :: ds => match asg some p d ρ with
    | none => stuck
    | some ρ1 => M.bind (noX (t ρ1)) fun k => if k = true then M.bind (noX (e ρ1)) fun x => if acc.length < 16777216 then lcN p t e ρ (acc ++ [x]) ds else stuck else lcN p t e ρ acc ds
def wipeE (vs : List Nat) (ρ : Env') : Env' := vs.foldr (fun v r => r.set v none) ρ
def W0x : WX := fun _ _ _ _ => False
theorem wipeE_is {K : PySem.W.Frag} {mg : Str → Option Value} {R : List Addr} {G : Hp} {σ : L2.St} {ρ : Env'} (h : EnvIs K mg R G σ ρ) : ∀ vs, EnvIs K mg R G (wipe σ vs) (wipeE vs ρ)
  | [] => h
  | v :: vs => by
    have ih := wipeE_is h vs
    show EnvIs K mg R G ((wipe σ vs).set v none) ((wipeE vs ρ).set v none)
    refine ⟨by simp [ih.1], fun i d hi => ?_⟩
    by_cases e : v = i
    · subst e
      by_cases hl : v < (wipeE vs ρ).length
      · rw [List.getElem?_set_self hl] at hi; cases hi
      · rw [List.getElem?_eq_none (by simp; omega)] at hi; cases hi
    · rw [List.getElem?_set_ne e] at hi ⊢
      exact ih.2 i d hi
theorem EnvIs.set {K : PySem.W.Frag} {mg : Str → Option Value} {R : List Addr} {G : Hp} {σ : L2.St} {ρ : Env'} (h : EnvIs K mg R G σ ρ) (i : Nat) {v : V} {d : D} (k : Is K mg R G v d) : EnvIs K mg R G (σ.set i (some v)) (ρ.set i (some d)) := by
  refine ⟨by simp [h.1], fun j e hj => ?_⟩
  by_cases e' : i = j
  · subst e'
    by_cases hl : i < ρ.length
    · rw [List.getElem?_set_self hl] at hj
      cases hj
      exact ⟨v, List.getElem?_set_self (by rw [h.1]; exact hl), k⟩
    · rw [List.getElem?_eq_none (by simp; omega)] at hj; cases hj
  · rw [List.getElem?_set_ne e'] at hj ⊢
    exact h.2 j e hj
theorem noX_after {α Vv : Type} {K : PySem.W.Frag} {mg : Str → Option Value} {E E2 : XK} {rel : Rl Vv α} {m : M α} {μ : List Mob} {R : List Addr} {G H : Hp} {Q : Vv → Hp → Prop} (h : After K mg E rel (noX m μ) R G H Q) : After K mg E2 rel (m μ) R G H Q := by
  unfold noX at h
  cases q : m μ with
  | ok d μ' => rw [q] at h; exact h
  | exc c fs μ' => rw [q] at h; exact h.elim
  | stuck => rw [q] at h; exact h
theorem Ext.upd {R : List Addr} {G H : Hp} {R' : List Addr} {G' H' : Hp} {p : Addr} {o : HO} (e : Ext R G H R' G' H') (hp : H p = none) (gp : G' p = none) (hx : ∀ u, H' p = some u → (∀ ps, u ≠ .tbl ps) ∧ ∀ c q, u ≠ LamX.CodeO c q) : Ext R G H R' G' (L2.upd H' p o) where
  t := fun t => tabs_keep (p := p) (e.t t) (fun b o hb h => by rw [upd_ne hb]; exact h) hx
  r := e.r
  g := e.g
  s := fun b u q => by rw [upd_ne (ne_of_none q gp)]; exact e.s b u q
  cl := e.cl
  k := fun b u q h1 h2 => by rw [upd_ne (ne_of_none q hp)]; exact e.k b u q h1 h2
  th := fun b h => by
    by_cases hb : b = p
    · subst hb; rw [upd_same]; simp
    · rw [upd_ne hb]; exact e.th b h
  n := e.n
  nr := e.nr
theorem MuIs.upd {K : PySem.W.Frag} {mg : Str → Option Value} {R : List Addr} {G H : Hp} {μ : List Mob} {p : Addr} {o : HO} (m : MuIs K mg R G H μ) (nR : p ∉ R) : MuIs K mg R G (L2.upd H p o) μ :=
  ⟨m.len, m.nd, fun i a x h1 h2 => (m.at_ i a x h1 h2).mono (.refl _) (fun _ _ h => h) (upd_ne fun z => nR (z ▸ List.mem_of_getElem? h1))⟩
theorem ext_none {R : List Addr} {G H : Hp} {R' : List Addr} {G' H' : Hp} (e : Ext R G H R' G' H') {p : Addr} (g : G p = none) (h : Hard H p) (nR : p ∉ R) : G' p = none := by
  cases q : G' p with
  | none => rfl
  | some u =>
    obtain ⟨o, h1, h2, h3⟩ := h
    rcases e.n p (by rw [q]; simp) with z | z | ⟨o2, z, z2⟩
    · exact absurd g z
    · rw [h1] at z; cases z
    · cases (e.s p o2 z).symm.trans (e.k p o h1 h2 nR)
      exact absurd z2 h3
theorem hard_lst {H : Hp} {p : Addr} {xs : List V} (h : H p = some (.lst xs)) : Hard H p := ⟨_, h, rfl, fun ⟨c, q, z⟩ => codeO_ne (o := .lst xs) (c := c) (q := q) rfl z⟩
theorem wipe_get (σ : L2.St) (i : Nat) : ∀ vs : List Nat, (wipe σ vs)[i]? = if i ∈ vs then σ[i]?.map fun _ => none else σ[i]?
  | [] => by simp [wipe]
  | v :: vs => by
    have ih := wipe_get σ i vs
    have hl := wipe_length σ vs
    unfold wipe
    by_cases e : v = i
    · subst e
      rw [if_pos List.mem_cons_self]
      by_cases h : v < (wipe σ vs).length
      · rw [List.getElem?_set_self h]
        rw [hl] at h
        rw [List.getElem?_eq_getElem h]
        rfl
      · rw [List.getElem?_eq_none (by simp; omega), List.getElem?_eq_none (by omega)]
        rfl
    · rw [List.getElem?_set_ne e, ih]
      have : i ∈ v :: vs ↔ i ∈ vs := by
        rw [List.mem_cons]
        exact ⟨fun h => h.elim (fun z => absurd z.symm e) id, .inr⟩
      by_cases hm : i ∈ vs
      · rw [if_pos hm, if_pos (this.mpr hm)]
      · rw [if_neg hm, if_neg fun z => hm (this.mp z)]
theorem wipe_wipe (σ : L2.St) (vs : List Nat) : wipe (wipe σ vs) vs = wipe σ vs := by
  apply List.ext_getElem?
  intro i
  rw [wipe_get, wipe_get]
  split
  · cases σ[i]? <;> rfl
  · rfl
theorem after_base {α β γ Vv Vw : Type} {K : PySem.W.Frag} {mg : Str → Option Value} {E E2 : XK} {rel : Rl Vv α} {r2 : Rl Vw γ} {m : M α} {f : α → M β} {g : β → M γ} {μ : List Mob} {R Rb : List Addr} {G H Gb Hb : Hp} {Q : Vw → Hp → Prop}
    (h : After K mg E r2 (M.bind (M.bind (noX m) f) g μ) Rb Gb Hb Q) :
    After K mg E2 rel (m μ) R G H fun w H' => ∃ R' G' d μ', Ext R G H R' G' H' ∧ rel.r H R' G' H' w d ∧ MuIs K mg R' G' H' μ' ∧ After K mg E r2 (M.bind (f d) g μ') Rb Gb Hb Q := by
  unfold M.bind noX at h
  cases q : m μ with
  | ok d μ1 => rw [q] at h; exact fun w R' G' H' e r mu => ⟨R', G', d, μ1, e, r, mu, h⟩
  | exc c fs μ1 => rw [q] at h; exact h.elim
  | stuck => rw [q] at h; exact h.elim
section
variable {X : Cx} {W : WX} {tg iter elt : Expr} {ifs : List Expr} {scope : Scope} {own : List (Str × Nat)} {pos : Pos} {p : Pat}
/-- the environment of a comprehension's block -/
abbrev cenvOf (X : Cx) (scope : Scope) (C : Addr) (cl : List (Str × Addr)) : PySem.Env := compEnvC scope cl C X.env
abbrev blkOf (X : Cx) (scope : Scope) (s : Shared) (H : Hp) (C : Addr) (cl : List (Str × Addr)) (fp : List Addr) : Cx := X.blk s H scope (cenvOf X scope C cl) fp
def tPts (K : PySem.W.Frag) (mg : Str → Option Value) (t : Env' → M Bool) : TT := tD K mg W0x rEq t
theorem pts_d0 : PTs X [] (tPts X.K X.mg fun _ => M.pure true) := ⟨fun pins s σ H Q I ⟨R, G, ρ, μ, w, h⟩ => pts_nil.run pins s σ H Q I (pure_after (v := true) h w.w0 w.mu rfl)⟩
theorem pts_d1 {c : Expr} {t : Env' → M Bool} (h : T' X W0x c t) : PTs X [c] (tPts X.K X.mg t) := pts_one h
def dLc (p : Pat) (vs : List Nat) (m : Env' → M (List D)) (t : Env' → M Bool) (e : Env' → M D) : Env' → M D := fun ρ => M.bind (m ρ) fun ds => M.bind (lcN p t e (wipeE vs ρ) [] ds) fun ys => M.pure (.lst ys)
theorem f_lc (p : Pat) (own : List (Str × Nat)) {m : Env' → M (List D)} {t : Env' → M Bool} {e : Env' → M D} (hc : X.calm = true) (hN : X.N.Nodup) (hi : I' X W tg iter m) (ok : BlkOk X.N X.env.scope scope own)
    (hv : patIn (own.map (·.2)) p = true)
    (hg : ∀ (s : Shared) (H : Hp) (C : Addr) (cl : List (Str × Addr)) (fp : List Addr), PG (blkOf X scope s H C cl fp) tg (gPat X.K p))
    (ht : ∀ (s : Shared) (H : Hp) (C : Addr) (cl : List (Str × Addr)) (fp : List Addr), PTs (blkOf X scope s H C cl fp) ifs (tPts X.K X.mg t))
    (he : ∀ (s : Shared) (H : Hp) (C : Addr) (cl : List (Str × Addr)) (fp : List Addr), E' (blkOf X scope s H C cl fp) W0x elt e)
    (hs : ∀ x, foldedSetIterable iter X.env x = pure x := by intro _; rfl) : F' X W (.ListComp elt [⟨tg, iter, ifs, 0⟩] scope pos) (dLc p (own.map (·.2)) m t e) :=
  PE.weak (pe_lc (te := tD X.K X.mg W0x (rIs X.K X.mg) e) hc hN hi ok hg ht he hs) fun σ H Q h => by
    obtain ⟨R, G, ρ, μ, w, h⟩ := tD.bind (rel := rIt X.K X.mg) h
    refine ⟨R, G, ρ, μ, w, h.imp fun J H1 ⟨R1, G1, ρ1, μ1, ds, w1, it, q⟩ => ?_⟩
    intro Dn hD
    obtain ⟨Gw, Y, wk, hg2, hy⟩ := it
    obtain ⟨gD, nR⟩ := w1.w0.no hD
    refine lc_it wk (fun i H2 => ∃ R2 G2 acc μ2 xs, Ext R1 G1 H1 R2 G2 H2 ∧ MuIs X.K X.mg R2 G2 H2 μ2 ∧ G2 Dn = none ∧ Dn ∉ R2 ∧ H2 Dn = some (.lst xs) ∧ IsAll X.K X.mg R2 G2 xs acc ∧
      After X.K X.mg (fun cls d H' => W cls d σ H') (rFr X.K X.mg) (M.bind (lcN p t e (wipeE (own.map (·.2)) ρ1) acc (ds.drop i)) (fun ys => M.pure (.lst ys)) μ2) R1 G1 H1 Q) ?_ ?_ ?_ ?_
    · refine ⟨R1, G1, [], μ1, [], Ext.upd (.refl w1.s w1.cl) hD gD (fun u z => by rw [hD] at z; cases z), w1.mu.upd nR, gD, nR, upd_same, .nil, by simpa using q⟩
    · rintro i H2 _ ⟨R2, G2, acc, μ2, xs, x2, _⟩
      exact hg2 G2 H2 x2.g x2.s
    · rintro i x H2 H3 hi ⟨R2, G2, acc, μ2, xs, x2, mu2, g2, n2, h2, k2, a⟩ y
      obtain ⟨d, G3, hd, gr, is_⟩ := hy i R2 G2 H2 x H3 hi x2.idx ⟨x2.s, x2.cl, mu2.hr⟩ x2.g y
      have x3 := x2.trans gr.e
      have h3 := gr.k _ _ h2
      have g3 : G3 Dn = none := ext_none gr.e g2 (hard_lst h2) n2
      have env3 : EnvIs X.K X.mg R2 G3 (wipe σ (own.map (·.2))) (wipeE (own.map (·.2)) ρ1) := wipeE_is (w1.env.mono x3.g x3.idx) _
      have hdr : ds.drop i = d :: ds.drop (i + 1) := by
        obtain ⟨hl, he⟩ := List.getElem?_eq_some_iff.mp hd
        rw [List.drop_eq_getElem_cons hl, he]
      rw [hdr] at a
      unfold lcN at a
      cases qa : asg some p d (wipeE (own.map (·.2)) ρ1) with
      | none => rw [qa] at a; exact a.elim
      | some ρ2 =>
        rw [qa] at a
        refine asg_ok (P := fun σ ρ => EnvIs X.K X.mg R2 G3 σ ρ) (fun σ ρ i v d h k => h.set i k) gr.e.s p x d _ _ ρ2 _ is_ env3 qa fun σ2 env4 hw => ⟨?_, ?_⟩
        · rw [hw _ hv, wipe_wipe]
        refine ⟨R2, G3, ρ2, μ2, ⟨gr.e.s, gr.e.cl, env4, gr.mu mu2, x3.t w1.tb⟩, (after_base (rel := rEq) a).imp ?_⟩
        rintro k H4 ⟨R4, G4, k', μ4, x4, ek, mu4, a4⟩
        cases (show k = k' from ek)
        have x4' := x3.trans x4
        have h4 := x4.k _ _ h3 rfl n2
        have g4 : G4 Dn = none := ext_none x4 g3 (hard_lst h3) n2
        have n4 : Dn ∉ R4 := fun z => (x4.nr _ z).elim n2 fun z => by rw [h3] at z; cases z
        cases k with
        | false => exact ⟨R4, G4, acc, μ4, xs, x4', mu4, g4, n4, h4, k2.mono (gr.e.g.trans x4.g) x4.idx, a4⟩
        | true =>
          refine ⟨R4, G4, ρ2, μ4, ⟨x4.s, x4.cl, env4.mono x4.g x4.idx, mu4, x4'.t w1.tb⟩, (after_base (rel := rIs X.K X.mg) a4).imp ?_⟩
          rintro z H5 ⟨R5, G5, dz, μ5, x5, iz, mu5, a5⟩
          have h5 := x5.k _ _ h4 rfl n4
          have g5 : G5 Dn = none := ext_none x5 g4 (hard_lst h4) n4
          have n5 : Dn ∉ R5 := fun z => (x5.nr _ z).elim n4 fun z => by rw [h4] at z; cases z
          have k5 := (k2.mono (gr.e.g.trans x4.g) x4.idx).mono x5.g x5.idx
          by_cases hl : acc.length < 16777216
          · rw [if_pos hl] at a5
            exact ⟨xs, h5, by rw [k2.length, sizeLine_eq]; exact hl, R5, G5, acc ++ [dz], μ5, xs ++ [z], Ext.upd (x4'.trans x5) hD g5 (fun u z => by rw [h5] at z; cases z; exact ⟨fun ps => nofun, fun c q => codeO_ne rfl⟩), mu5.upd n5, g5, n5, upd_same, k5.append (.cons iz .nil), a5⟩
          · rw [if_neg hl] at a5
            exact a5.elim
    · rintro H2 ⟨R2, G2, acc, μ2, xs, x2, mu2, g2, n2, h2, k2, a⟩
      rw [List.drop_eq_nil_of_le (Nat.le_refl _)] at a
      exact a (.ref Dn) R2 G2 H2 x2 ⟨Dn, .lst acc, rfl, hD, g2, n2, rfl, xs, h2, k2⟩ mu2
end
end DX
set_option Elab.async false
set_option linter.all false
set_option maxRecDepth 100000
set_option maxHeartbeats 4000000
/-! DK: targets of several names, lists that are changed -/
namespace DX
open PySem PySem.Spec PyProof.Rows L2
variable [Tb]

section
variable {X : Cx} {W : WX} {e tg : Expr} {pos : Pos} {ms : List Nat}
/-- tg = e, tg a tuple of names -/
def sTupH (p : Pat) (m : Env' → M D) : Sm := sH m fun d ρ μ => match asg Slot.fr p d ρ with
  | some ρ' => .nx ρ' μ
  | none => .stuck
theorem s_tupH (p : Pat) {m : Env' → M D} (h : E' X W e m) (hg : PG X tg (gPat X.K p)) (hs : swapsWithSole [tg] e pos.line X.env = pure false := by rfl) (hw : swappedStores [tg] e X.env = pure none := by rfl) (h1 : (assignEach [tg] X.env).map (·.2) = [assign tg X.env] := by rfl) : S' X W (.Assign [tg] e pos) (sTupH p m) :=
  PS.weak (ps_asg h hg hs hw h1) fun E σ H ⟨O, R, G, ρ, μ, w, mu, a⟩ => by
    obtain ⟨R0, G0, ρ0, μ0, w0, q⟩ := stepH (rel := rIs X.K X.mg) w mu a
    refine ⟨R0, G0, ρ0, μ0, w0, q.imp fun v H1 ⟨R1, G1, d, μ1, x, r, w1, mu1, k⟩ => ?_⟩
    cases qa : asg Slot.fr p d ρ with
    | none => simp only [qa] at k; exact k.elim
    | some ρ' =>
      simp only [qa] at k
      exact asg_ok (P := fun σ ρ => StI X.K X.mg O R1 G1 H1 σ ρ) (fun σ ρ i v d h k => h.set i k) w1.s p v d σ ρ ρ' _ r w1 qa fun σ' w2 _ => k O R1 G1 H1 σ' x.toS w2 mu1
def sTupP (ms : List Nat) (p : Pat) (m : Env' → M D) : Sm := sP ms m fun d ρ μ => match asg Slot.fr p d (if d.flat = true then ρ else frz ms ρ) with
  | some ρ' => .nx ρ' μ
  | none => .stuck
theorem s_tupP (ms : List Nat) (p : Pat) {m : Env' → M D} (h : E' X W e m) (hg : PG X tg (gPat X.K p)) (hs : swapsWithSole [tg] e pos.line X.env = pure false := by rfl) (hw : swappedStores [tg] e X.env = pure none := by rfl) (h1 : (assignEach [tg] X.env).map (·.2) = [assign tg X.env] := by rfl) : S' X W (.Assign [tg] e pos) (sTupP ms p m) :=
  PS.weak (ps_asg h hg hs hw h1) fun E σ H ⟨O, R, G, ρ, μ, w, mu, a⟩ => by
    have ok : okMs ms ρ = true := by
      unfold sTupP sP at a
      split at a
      · assumption
      · exact a.elim
    obtain ⟨R0, G0, ρ0, μ0, w0, q⟩ := stepP (rel := rIs X.K X.mg) w mu a
    refine ⟨R0, G0, ρ0, μ0, w0, q.imp fun v H1 ⟨G1, d, x, r, k⟩ => ?_⟩
    cases hd : d.flat with
    | true =>
      simp only [hd, if_true] at k
      cases qa : asg Slot.fr p d ρ with
      | none => simp only [qa] at k; exact k.elim
      | some ρ' =>
        simp only [qa] at k
        obtain ⟨w1, mu1, k1, f⟩ := backP w mu x k
        exact asg_ok (P := fun σ ρ => StI X.K X.mg O R _ H1 σ ρ) (fun σ ρ i v d h k => h.set i k) w1.s p v d σ ρ ρ' _ (f v d r hd) w1 qa fun σ' w2 _ => k1 O R _ H1 σ' (.refl _ _ _ _) w2 mu1
    | false =>
      simp only [hd, Bool.false_eq_true, if_false] at k
      cases qa : asg Slot.fr p d (frz ms ρ) with
      | none => simp only [qa] at k; exact k.elim
      | some ρ' =>
        simp only [qa] at k
        obtain ⟨O1, w1, mu1, x1, f, _⟩ := giveP w ok mu x
        exact asg_ok (P := fun σ ρ => StI X.K X.mg O1 R G1 H1 σ ρ) (fun σ ρ i v d h k => h.set i k) w1.s p v d σ _ ρ' _ (f v d r) w1 qa fun σ' w2 _ => k O1 R _ H1 σ' x1 w2 mu1
end

/-! ### an owned list or dict is changed -/
theorem StI.change {K : PySem.W.Frag} {mg : Str → Option Value} {O R : List Addr} {G H : Hp} {σ : L2.St} {ρ : Env} {μ : List Mob} {i : Nat} {d d' : D} {a : Addr} {o : HO} {m' : Mob} (w : StI K mg O R G H σ ρ) (mu : MuIs K mg R G H μ) (hi : ρ[i]? = some (.ow d)) (hσ : σ[i]? = some (some (.ref a)))
    (hm : owMob d' = some m') (ob : ObIs K mg R G (upd H a o) a m') : StI K mg O R G (upd H a o) σ (ρ.set i (.ow d')) ∧ MuIs K mg R G (upd H a o) μ ∧ ExtS O R G H O R G (upd H a o) := by
  obtain ⟨a', m, e1, e2, e3, e4⟩ := w.ow i d hi
  rw [hσ] at e1
  cases e1
  obtain ⟨gA, nR, u, hu, ht⟩ := w.og a e2
  have ne : ∀ b u, G b = some u → b ≠ a := fun b u e => ne_of_none e gA
  have hl : i < ρ.length := (List.getElem?_eq_some_iff.mp hi).1
  have tb : LamX.Tabs Tb.T H → LamX.Tabs Tb.T (upd H a o) := fun t => tabs_keep (p := a) t (fun b o hb h => by rw [upd_ne hb]; exact h) e4.notX
  refine ⟨⟨fun b u e => by rw [upd_ne (ne b u e)]; exact w.s b u e, w.cl, by simp [w.len], fun j e hj => ?_, fun j e hj => ?_, fun j l e e' b h1 h2 h3 h4 => ?_, fun b hb => ?_, tb w.tb⟩, mu.upd nR, ⟨⟨[], by simp⟩, .refl _, fun b u e _ _ hO => ?_, fun b hb => ?_, fun b h => .inl h, fun _ h => .inl h, fun _ h => .inl h, tb⟩⟩
  · by_cases hij : i = j
    · subst hij; rw [List.getElem?_set_self hl] at hj; cases hj
    · rw [List.getElem?_set_ne hij] at hj; exact w.fr j e hj
  · by_cases hij : i = j
    · subst hij
      rw [List.getElem?_set_self hl] at hj
      cases hj
      exact ⟨a, m', hσ, e2, hm, ob⟩
    · rw [List.getElem?_set_ne hij] at hj
      obtain ⟨b, mb, h1, h2, h3, h4⟩ := w.ow j e hj
      have hb : b ≠ a := fun z => hij (w.inj i j d e a hi hj hσ (z ▸ h1))
      exact ⟨b, mb, h1, h2, h3, h4.mono (.refl _) (fun _ _ h => h) (upd_ne hb)⟩
  · have back : ∀ {j e}, (ρ.set i (Slot.ow d'))[j]? = some (Slot.ow e) → ∃ e, ρ[j]? = some (Slot.ow e) := fun {j e} h => by
      by_cases hij : i = j
      · subst hij; exact ⟨d, hi⟩
      · rw [List.getElem?_set_ne hij] at h; exact ⟨e, h⟩
    obtain ⟨f1, q1⟩ := back h1
    obtain ⟨f2, q2⟩ := back h2
    exact w.inj j l f1 f2 b q1 q2 h3 h4
  · obtain ⟨g, n, u', hu', ht'⟩ := w.og b hb
    by_cases hba : b = a
    · subst hba
      exact ⟨g, n, ob.hard⟩
    · exact ⟨g, n, u', by rw [upd_ne hba]; exact hu', ht'⟩
  · rw [upd_ne fun z => hO (by rw [z]; exact e2)]; exact e
  · by_cases hba : b = a
    · rw [hba, upd_same]; simp
    · rw [upd_ne hba]; exact hb
/-- x.append(d) of the slot i -/
def appS (i : Nat) (d : D) : Sm := fun ρ μ => match (ρ[i]? : Option Slot) with
  | some (Slot.ow (D.lst xs)) => if xs.length < 16777216 then .nx (ρ.set i (.ow (.lst (xs ++ [d])))) μ else .stuck
  | _ => .stuck
theorem app_end {K : PySem.W.Frag} {mg : Str → Option Value} {W : WX} {O R : List Addr} {G H : Hp} {σ : L2.St} {ρ : Env} {μ : List Mob} {i : Nat} {d : D} {v : V} {E : Ends} (w : StI K mg O R G H σ ρ) (mu : MuIs K mg R G H μ) (hd : Is K mg R G v d) (a : AftS K mg W (appS i d ρ μ) O R G H E) :
    ∃ l xs, σ[i]? = some (some (.ref l)) ∧ H l = some (.lst xs) ∧ xs.length < sizeLine ∧ E.nx σ (upd H l (.lst (xs ++ [v]))) := by
  unfold appS at a
  split at a
  · rename_i ds hi
    split at a
    · rename_i hl
      obtain ⟨l, m, h1, h2, h3, h4⟩ := w.ow i _ hi
      cases h3
      obtain ⟨xs, q1, q2⟩ := h4
      obtain ⟨w2, mu2, x2⟩ := w.change (d' := .lst (ds ++ [d])) (o := .lst (xs ++ [v])) (m' := .lst (ds ++ [d])) mu hi h1 rfl ⟨xs ++ [v], upd_same, q2.append (.cons hd .nil)⟩
      exact ⟨l, xs, h1, q1, by rw [q2.length, sizeLine_eq]; exact hl, a O R G _ σ x2 w2 mu2⟩
    · exact a.elim
  · exact a.elim
/-- x[k] = d of the slot i, a list -/
def setS (i : Nat) (k d : D) : Sm := fun ρ μ => match (ρ[i]? : Option Slot), k with
  | some (Slot.ow (D.lst xs)), .int j => match ixN xs.length j with
    | some n => .nx (ρ.set i (.ow (.lst (xs.set n d)))) μ
    | none => .stuck
  | _, _ => .stuck
theorem set_end {K : PySem.W.Frag} {mg : Str → Option Value} {W : WX} {O R : List Addr} {G H : Hp} {σ : L2.St} {ρ : Env} {μ : List Mob} {i : Nat} {d dk : D} {v vk : V} {E : Ends} (w : StI K mg O R G H σ ρ) (mu : MuIs K mg R G H μ) (hd : Is K mg R G v d) (hk : Is K mg R G vk dk) (a : AftS K mg W (setS i dk d ρ μ) O R G H E) :
    ∃ l xs j n, σ[i]? = some (some (.ref l)) ∧ vk = .int j ∧ H l = some (.lst xs) ∧ ixN xs.length j = some n ∧ E.nx σ (upd H l (.lst (xs.set n v))) := by
  unfold setS at a
  split at a
  · rename_i ds j hi
    obtain ⟨l, m, h1, h2, h3, h4⟩ := w.ow i _ hi
    cases h3
    obtain ⟨xs, q1, q2⟩ := h4
    cases hk
    cases e : ixN ds.length j with
    | none => simp only [e] at a; exact a.elim
    | some n =>
      simp only [e] at a
      obtain ⟨w2, mu2, x2⟩ := w.change (d' := .lst (ds.set n d)) (o := .lst (xs.set n v)) (m' := .lst (ds.set n d)) mu hi h1 rfl ⟨xs.set n v, upd_same, q2.set hd n⟩
      exact ⟨l, xs, j, n, h1, rfl, q1, by rw [q2.length]; exact e, a O R G _ σ x2 w2 mu2⟩
  · exact a.elim
section
variable {X : Cx} {W : WX} {e k : Expr} {pos p1 p2 p3 : Pos} {ms : List Nat} {x : Str} {i : Nat}
/-- the value v of what is flat stays readable, or all of ms is given up -/
theorem ends2 {K : PySem.W.Frag} {mg : Str → Option Value} {O R : List Addr} {G H G1 H1 : Hp} {σ : L2.St} {ρ : Env} {μ : List Mob} {E : Ends} {fl : Bool} {f : Env → SR} (w : StI K mg O R G H σ ρ) (ok : okMs ms ρ = true) (mu : MuIs K mg R G H μ) (x : Ext [] (addH G H (adsOf ms σ ρ)) H [] G1 H1)
    (a : AftS K mg W (f (if fl = true then ρ else frz ms ρ)) O R G H E) :
    ∃ O2 G2, StI K mg O2 R G2 H1 σ (if fl = true then ρ else frz ms ρ) ∧ MuIs K mg R G2 H1 μ ∧ AftS K mg W (f (if fl = true then ρ else frz ms ρ)) O2 R G2 H1 E ∧ ∀ v d, Is K mg [] G1 v d → (fl = true → d.flat = true) → Is K mg R G2 v d := by
  cases fl with
  | true =>
    simp only [if_true] at a ⊢
    obtain ⟨w1, mu1, k1, g⟩ := backP w mu x a
    exact ⟨O, _, w1, mu1, k1, fun v d i h => g v d i (h trivial)⟩
  | false =>
    simp only [Bool.false_eq_true, if_false] at a ⊢
    obtain ⟨O1, w1, mu1, x1, g, _⟩ := giveP w ok mu x
    exact ⟨O1, G1, w1, mu1, AftS.ext a x1, fun v d i _ => g v d i⟩
theorem okP {α : Type} {m : Env' → M α} {f : α → Sm} {K : PySem.W.Frag} {mg : Str → Option Value} {O R : List Addr} {G H : Hp} {ρ : Env} {μ : List Mob} {E : Ends} (a : AftS K mg W (sP ms m f ρ μ) O R G H E) : okMs ms ρ = true := by
  unfold sP at a
  split at a
  · assumption
  · exact a.elim
def sAppH (i : Nat) (m : Env' → M D) : Sm := sH m fun d => appS i d
def sAppP (ms : List Nat) (i : Nat) (m : Env' → M D) : Sm := sP ms m fun d ρ μ => appS i d (if d.flat = true then ρ else frz ms ρ) μ
/-- the statement x.append(e): the name is read first, the list itself is read when it is changed -/
theorem app_ps (hN : X.N[i]? = some x) (hv : Vis X.env.scope x) (hd : (x == ("__debug__" : Str)) = false) (hcd : (x == ("__classdict__" : Str)) = false) {m : Env' → M D} (he : E' X W e m)
    (hb : attributeBase (.Name x p1) "append" X.env (eval (.Name x p1) X.env) = eval (.Name x p1) X.env)
    (hs : starEach (e :: []) X.env = (false, eval e X.env) :: starEach [] X.env) (hl : (p2.endLine == p3.line) = true)
    (hfew : ((backTo p3 (starEach [e] X.env)).all (fun x => !x.1) && (backToKw p3 (keywordEach [] X.env)).all (fun x => x.1.isSome) && decide (([e] : List Expr).length + ([] : List Keyword).length + (if ([] : List Keyword).isEmpty then 0 else 1) < 30)) = true)
    (hpl : (backTo p3 (starEach [] X.env)).any (·.1) = false) (hsw : swapsWith (.Call (.Attribute (.Name x p1) "append" p2) [e] [] p3) none pos.line X.env = pure false) :
    PS X (.Expr (.Call (.Attribute (.Name x p1) "append" p2) [e] [] p3) pos) (fun D σ H => ∃ l, σ[i]? = some (some (.ref l)) ∧ (∃ xs, SqL X.K H l xs) ∧ tD X.K X.mg W (rIs X.K X.mg) m σ H fun v H1 => ∃ xs, H1 l = some (.lst xs) ∧ xs.length < sizeLine ∧ D.nx σ (upd H1 l (.lst (xs ++ [v])))) :=
  PS.weak (ps_expr (pe_bm PySem.F.plainAttrs_list PySem.F.slot_list_append PySem.F.type_list_append mt_append (pe_var hN hv hd hcd) (pa_cons he pa_nil hs) hb hfew hl hs hpl) hsw) fun D σ H ⟨l, h1, ⟨xs, h2⟩, R, G, ρ, μ, w, h3⟩ =>
    ⟨.ref l, h1, .inl ⟨rfl, xs, h2⟩, R, G, ρ, μ, w, h3.imp fun v H1 ⟨ys, q1, q2, q3⟩ => ⟨l, ys, v, rfl, rfl, q1, q2, q3⟩⟩
end
end DX
set_option Elab.async false
set_option linter.all false
set_option maxRecDepth 100000
set_option maxHeartbeats 4000000
/-! DL: a def and the function it computes; calls -/
namespace DX
open PySem PySem.Spec PyProof.Rows L2
variable [Tb]

/-- a def's body as a function of its arguments -/
def bodyF (np n : Nat) (m : Sm) : List D → M D := fun ds μ => if ds.length = np then match m (ds.map Slot.fr ++ List.replicate (n - np) Slot.un) μ with
  | .rt d μ' => .ok d μ'
  | .nx _ μ' => .ok .non μ'
  | .exc c fs _ μ' => .exc c fs μ'
  | _ => .stuck
  else .stuck
/-- the def at f computes F -/
structure FnG (P : Program) (w : World) (K : PySem.W.Frag) (mg : Str → Option Value) (base : Heap) (k : Nat) (f : Addr) (fd : FuncData) (ps : List Str) (F : List D → M D) : Prop where
  len : ∀ ds μ, F ds μ ≠ .stuck → ds.length = ps.length
  run : ∀ (A : Around) (outer : List PySem.Env) (s : Shared) (H : Hp) (args : Args) (us : List Value) (vs : List V) (Q : VK) (E : XK) (R : List Addr) (G : Hp) (μ : List Mob) (ds : List D),
    RoomG k A → Env0 P w K mg base A outer s H → BindsTo s fd args (ps.zip us) → Vals vs us → Sub G H → (∀ b o, G b = some o → tbl? o = false ∧ b ∉ R) → MuIs K mg R G H μ → LamX.Tabs Tb.T H → IsAll K mg R G vs ds → After K mg E (rIs K mg) (F ds μ) R G H Q →
    codeAny (model P w) A (.call (.ref f) args) (CR (L2.CX P w) outer P w H s Q E) s
theorem FnG.mono {P : Program} {w : World} {K : PySem.W.Frag} {mg : Str → Option Value} {base : Heap} {j k : Nat} {f : Addr} {fd : FuncData} {ps : List Str} {F : List D → M D} (h : FnG P w K mg base j f fd ps F) (hk : j ≤ k) : FnG P w K mg base k f fd ps F :=
  ⟨h.len, fun A outer s H args us vs Q E R G μ ds hr => h.run A outer s H args us vs Q E R G μ ds (hr.mono hk)⟩
section
variable {K : PySem.W.Frag} {mg : Str → Option Value} {R : List Addr} {G H : Hp} {μ : List Mob} {vs : List V} {ds : List D}
theorem IsAll.len (h : IsAll K mg R G vs ds) : vs.length = ds.length := h.length
theorem start_sti {N ps : List Str} (s : Sub G H) (cl : ∀ b o, G b = some o → tbl? o = false ∧ b ∉ R) (tb : LamX.Tabs Tb.T H) (i : IsAll K mg R G vs ds) (h1 : ds.length = ps.length) (h2 : ps.length ≤ N.length) :
    StI K mg [] R G H (L2.start N vs) (ds.map Slot.fr ++ List.replicate (N.length - ps.length) Slot.un) := by
  have hl := i.length
  have noOw : ∀ (j : Nat) (d : D), (ds.map Slot.fr ++ List.replicate (N.length - ps.length) Slot.un)[j]? = some (.ow d) → False := fun j d e => by
    rcases Nat.lt_or_ge j (ds.map Slot.fr).length with hj | hj
    · rw [List.getElem?_append_left hj, List.getElem?_map] at e
      cases q : ds[j]? with
      | none => rw [q] at e; cases e
      | some d' => rw [q] at e; cases e
    · rw [List.getElem?_append_right hj] at e
      obtain ⟨_, e2⟩ := List.getElem?_eq_some_iff.mp e
      rw [List.getElem_replicate] at e2
      cases e2
  refine ⟨s, cl, ?_, fun j d e => ?_, fun j d e => (noOw j d e).elim, fun j l d e a h1 => (noOw j d h1).elim, fun a h => absurd h (by simp), tb⟩
  · simp [L2.start]; omega
  · rcases Nat.lt_or_ge j (ds.map Slot.fr).length with hj | hj
    · rw [List.getElem?_append_left hj, List.getElem?_map] at e
      cases q : ds[j]? with
      | none => rw [q] at e; cases e
      | some d' =>
        rw [q] at e
        cases e
        obtain ⟨v, q2, r⟩ := i.get q
        refine ⟨v, ?_, r⟩
        have hj' : j < (vs.map some).length := by simpa [hl] using hj
        show (vs.map some ++ _)[j]? = _
        rw [List.getElem?_append_left hj', List.getElem?_map, q2]
        rfl
    · rw [List.getElem?_append_right hj] at e
      obtain ⟨_, e2⟩ := List.getElem?_eq_some_iff.mp e
      rw [List.getElem_replicate] at e2
      cases e2
theorem ext_of {R' : List Addr} {O' : List Addr} {G' H' : Hp} (x : ExtS [] R G H O' R' G' H') (s : Sub G' H') (cl : ∀ b o, G' b = some o → tbl? o = false ∧ b ∉ R') : Ext R G H R' G' H' :=
  ⟨x.r, x.g, s, cl, fun b o h1 h2 h3 => x.k b o h1 h2 h3 (by simp), x.th, fun b h => (x.n b h).elim .inl fun z => z.elim (fun z => .inr (.inl z)) fun z => z.elim (fun z => absurd z (by simp)) fun z => .inr (.inr z), x.nr, x.t⟩
/-- from a body's readings -/
theorem body_aft {np n : Nat} {m : Sm} {E : XK} {Q : VK} (h : After K mg E (rIs K mg) (bodyF np n m ds μ) R G H Q) :
    ds.length = np ∧ AftS K mg (fun cls d _ H' => E cls d H') (m (ds.map Slot.fr ++ List.replicate (n - np) Slot.un) μ) [] R G H { nx := fun _ H' => Q .non H', rt := Q } := by
  unfold bodyF at h
  split at h
  · rename_i hl
    refine ⟨hl, ?_⟩
    cases q : m (ds.map Slot.fr ++ List.replicate (n - np) Slot.un) μ with
    | nx ρ μ' =>
      rw [q] at h
      exact fun O' R' G' H' σ' x st mu => h .non R' G' H' (ext_of x st.s st.cl) .non mu
    | rt d μ' =>
      rw [q] at h
      exact fun O' R' G' H' v x s cl i mu => h v R' G' H' (ext_of x s cl) i mu
    | exc c fs ρ μ' =>
      rw [q] at h
      intro O' R' G' H' σ' C dx x st hm xf mu
      by_cases hf : fs = []
      · exact h C dx [] R' G' H' (ext_of x st.s st.cl) hm (fun z => absurd hf z) mu
      · obtain ⟨d, xs, e1, e2, e3, e4⟩ := xf hf
        exact h C dx xs R' G' H' (ext_of x st.s st.cl) hm (fun _ => ⟨d, e1, e2, e3, e4⟩) mu
    | bk ρ μ' => rw [q] at h; exact h.elim
    | ct ρ μ' => rw [q] at h; exact h.elim
    | stuck => rw [q] at h; exact h.elim
  · exact h.elim
end
section
variable {P : Program} {w : World} {K : PySem.W.Frag} {mg : Str → Option Value} {base : Heap}
theorem pre_le {N ps : List Str} {sc : Scope} (S : FnScope N ps sc) : ps.length ≤ N.length := by
  have h := congrArg List.length S.pre
  rw [List.length_take] at h
  omega
/-- the body's context -/
abbrev bX (P : Program) (w : World) (K : PySem.W.Frag) (mg : Str → Option Value) (base : Heap) (N : List Str) (qual : Str) (sc : Scope) (f : Addr) (cdv : Value) (A : Around) (outer : List PySem.Env) (s : Shared) (H : Hp) (E : XK) : Cx :=
  cxOf (L2.CX P w) P w K mg base N qual sc f cdv A outer s H E
theorem fnG_of {x qual : Str} {st : Stmt} {f : Addr} {fd : FuncData} {N ps : List Str} {k : Nat} {m : Sm} (F : Fun K x qual st f fd) (S : FnScope N ps (defScope st))
    (hbody : ∀ (cdv : Value) (A : Around) (outer : List PySem.Env) (s : Shared) (H : Hp) (E : XK), RoomG k (A.deeper (envOfC qual (defScope st) s.heap.objs.size f cdv)) →
      Ss' (bX P w K mg base N qual (defScope st) f cdv A outer s H E) (fun cls d _ H' => E cls d H') (defBody st) m) : FnG P w K mg base (k + 1) f fd ps (bodyF ps.length N.length m) where
  len := fun ds μ h => by
    unfold bodyF at h
    split at h
    · assumption
    · exact absurd rfl h
  run := fun A outer s H args us vs Q E R G μ ds hr e0 hb r sb cl mu tb i h => by
    obtain ⟨oc, od, kV, doc, pm, an, cdv, ct, osl, rfl, lk, hcd⟩ := F.ex
    obtain ⟨hl, a⟩ := body_aft h
    refine LamX.run_ofS lk hcd S hr.r e0 hb r (i.length.trans hl) fun _ => ⟨_, hbody cdv A outer s H E (hr.deeper _), [], R, G, _, μ, start_sti sb cl tb i hl (pre_le S), mu, a⟩
/-- the name x means a def that computes F -/
def Has (P : Program) (w : World) (K : PySem.W.Frag) (mg : Str → Option Value) (base : Heap) (x : Str) (k : Nat) (ps : List Str) (F : List D → M D) : Prop :=
  ∃ (f : Addr) (fd : FuncData), mg x = some (.ref f) ∧ PySem.W.keepIn K (.ref f) = true ∧ L2.Binds K fd ps [] ∧ FnG P w K mg base k f fd ps F
/-- what the text says of a def -/
def Wr (K : PySem.W.Frag) (mg : Str → Option Value) (x : Str) (st : Stmt) (ps : List Str) : Prop := ∃ (f : Addr) (fd : FuncData), mg x = some (.ref f) ∧ Fun K x x st f fd ∧ L2.Binds K fd ps []
theorem has_of {x : Str} {st : Stmt} {N ps : List Str} {k : Nat} {m : Sm} (W : Wr K mg x st ps) (S : FnScope N ps (defScope st))
    (hbody : ∀ (f : Addr) (cdv : Value) (A : Around) (outer : List PySem.Env) (s : Shared) (H : Hp) (E : XK), RoomG k (A.deeper (envOfC x (defScope st) s.heap.objs.size f cdv)) →
      Ss' (bX P w K mg base N x (defScope st) f cdv A outer s H E) (fun cls d _ H' => E cls d H') (defBody st) m) : Has P w K mg base x (k + 1) ps (bodyF ps.length N.length m) := by
  obtain ⟨f, fd, h1, h2, h3⟩ := W
  exact ⟨f, fd, h1, h2.kp, h3, fnG_of h2 S (hbody f)⟩
theorem Has.mono {x : Str} {j k : Nat} {ps : List Str} {F : List D → M D} (h : Has P w K mg base x j ps F) (hk : j ≤ k) : Has P w K mg base x k ps F := by
  obtain ⟨f, fd, h1, h2, h3, h4⟩ := h
  exact ⟨f, fd, h1, h2, h3, h4.mono hk⟩
end

/-! ### calls -/
section
variable {X : Cx} {W : WX} {e : Expr} {es : List Expr} {k j : Nat} {f : Addr} {fd : FuncData} {ps : List Str} {F : List D → M D} {x : Str} {p pos : Pos}
theorem run_fnG {pins : List (Addr × Obj)} {σ : L2.St} {H : Hp} {s : Shared} {Q : VK} {us : List Value} {vs : List V} {R : List Addr} {G : Hp} {μ : List Mob} {ds : List D} (h : FnG X.prog X.w X.K X.mg X.base k f fd ps F) (hr : RoomG k X.A) (hb : L2.Binds X.K fd ps []) (tk : Takes X W)
    (I : Inv X pins σ H s) (r : Vals vs us) (w : W0 R G H) (mu : MuIs X.K X.mg R G H μ) (tb : LamX.Tabs Tb.T H) (i : IsAll X.K X.mg R G vs ds) (q : After X.K X.mg (fun cls d H' => W cls d σ H') (rIs X.K X.mg) (F ds μ) R G H Q) :
    wpAny (model X.prog X.w) X.A (call (.ref f) us) (EP X pins σ Q) X.xe s := by
  have hns : F ds μ ≠ .stuck := fun z => by rw [z] at q; exact q
  have hl : (us ++ []).length = ps.length := by
    rw [List.append_nil]
    exact (r.length.symm.trans i.length).trans (h.len ds μ hns)
  have b := hb s us I.kIn hl
  rw [List.append_nil] at b
  refine wpAny_call (codeAny_mono (h.run X.A X.stack s H ⟨us, []⟩ us vs Q (WE W σ) R G μ ds hr I.env0 b r w.s w.cl mu tb i q) fun r s' hq => ?_)
  cases r with
  | error e => exact passAt tk σ pins H s e s' I hq
  | ok fl =>
    cases fl with
    | ret u => exact I.after hq
    | next => exact False.elim hq
    | brk => exact False.elim hq
    | cont => exact False.elim hq
theorem e_call {m : Env' → M (List D)} (h : Has X.prog X.w X.K X.mg X.base x j ps F) (hr : RoomG k X.A) (tk : Takes X W) (hg : Gl X x) (ha : A' X W (e :: es) m) (hj : j ≤ k := by decide) (hdb : (x == ("__debug__" : Str)) = false := by decide)
    (he : starEach (e :: es) X.env = (false, eval e X.env) :: starEach es X.env := by rfl) (hpl : (backTo pos (starEach es X.env)).any (·.1) = false := by rfl) :
    E' X W (.Call (.Name x p) (e :: es) [] pos) (fun ρ => M.bind (m ρ) F) := by
  obtain ⟨f, fd, hm, hk, hb, hF⟩ := h
  refine ⟨fun pins s σ H Q I h => ?_⟩
  refine wpAny_Call_Name_kw (ld_glob I hg hm ?_ hdb)
  refine PySem.W.callWith_K (h₀ := X.base) I.ok.mod.kin hk (thn (ha.run pos pins s σ H _ I (tD.bind (rel := rAll X.K X.mg) (f := fun _ ds => F ds) h)) fun us s1 ⟨vs, H1, I1, r, R1, G1, ρ1, μ1, ds, w1, i1, q⟩ => ⟨I1.kIn, ?_⟩) he hpl
  exact run_fnG hF (hr.mono hj) hb tk I1 r w1.w0 w1.mu w1.tb i1 q
theorem e_call0 (h : Has X.prog X.w X.K X.mg X.base x j ps F) (hr : RoomG k X.A) (tk : Takes X W) (hg : Gl X x) (hj : j ≤ k := by decide) (hdb : (x == ("__debug__" : Str)) = false := by decide) : E' X W (.Call (.Name x p) [] [] pos) (fun _ => F []) := by
  obtain ⟨f, fd, hm, hk, hb, hF⟩ := h
  refine ⟨fun pins s σ H Q I h => ?_⟩
  refine wpAny_Call_Name_kw (ld_glob I hg hm ?_ hdb)
  obtain ⟨R, G, ρ, μ, w, q⟩ := h
  exact PySem.W.callWith_K0 I.kIn hk (run_fnG (us := []) hF (hr.mono hj) hb tk I .nil w.w0 w.mu w.tb .nil q)
end
end DX
set_option Elab.async false
set_option linter.all false
set_option maxRecDepth 100000
set_option maxHeartbeats 4000000
/-! DM: try with clauses of either kind; the exception is an object that is seen -/
namespace DX
open PySem PySem.Spec PyProof.Rows L2
variable [Tb]

theorem exoS_ok {P : Program} {w : World} {H : Hp} {h : Heap} {a C : Addr} {d : Option Addr} {oe : Obj} {vs : Array Value} (he : h.get? a = some oe) (h1 : oe.cls = .ref C) (h2 : oe.dict = d) (h3 : oe.data = .fields vs) : ObjOk P w H h a (exoS a C d) :=
  ⟨⟨oe, vs, he, h1, h2, h3⟩, ⟨oe, he⟩, fun g1 g2 ⟨o, us, q, r⟩ k => ⟨o, us, k _ q, r⟩⟩
/-- the context of an except suite -/
abbrev held (X : Cx) (a : Addr) : Cx := { X with A := X.A.mark (some (.ref a)), calm := false, xe := fun _ _ => False }
section
variable {X : Cx} {pins : List (Addr × Obj)} {σ : L2.St} {H : Hp} {s sI s' : Shared} {a : Addr} {B : Heap}
theorem toHeld (I : Inv X pins σ H s) : Inv (held X a) pins σ H s := ⟨I.ok.suite a X.pn, I.os, I.bare, I.base, I.loc, I.cell, I.free, I.freeC, I.pin, I.hok, I.len⟩
theorem ofHeld (ok : X.Ok) (I : Inv (held X a) pins σ H s) : Inv X pins σ H s := ⟨ok, I.os, I.bare, I.base, I.loc, I.cell, I.free, I.freeC, I.pin, I.hok, I.len⟩
/-- back on the ground, the exception seen from now on -/
theorem landX {C : Addr} {d : Option Addr} {oe : Obj} {vs : Array Value} (I : Inv X pins σ H sI) (nb : ∀ b o, sI.heap.get? b = some o → b ∉ frs X.stack → B.get? b = some o) (st : B.StaysIn s'.heap) (up : sI.heap.UpToSlots s'.heap) (os : s'.os = sI.os) (ag : AllBare s'.gens)
    (na : H a = none) (nf : a ∉ frs X.stack) (nB : B.get? a = none) (he : s'.heap.get? a = some oe) (h1 : oe.cls = .ref C) (h2 : oe.dict = d) (h3 : oe.data = .fields vs) : Inv X pins σ (upd H a (exoS a C d)) s' := by
  have fr : ∀ b ∈ frs X.stack, ∀ o, sI.heap.get? b = some o → ∃ sl, s'.heap.get? b = some { o with slots := sl } := fun b hb o e => by
    obtain ⟨_, u, e', hd⟩ := I.stack.mem hb
    cases e.symm.trans e'
    exact up b o e hd
  have nI : sI.heap.get? a = none := by
    cases q : sI.heap.get? a with
    | none => rfl
    | some o => rw [nb a o q nf] at nB; cases nB
  have ne : ∀ {b : Addr} {o : Obj}, sI.heap.get? b = some o → b ≠ a := fun {b o} q z => by rw [z, nI] at q; cases q
  have tr : ∀ {b : Addr} {o : HO}, H b = some o → b ≠ a := fun {b o} q => ne_of_none q na
  have un : Un (frs X.stack) [] H (upd H a (exoS a C d)) sI.heap s'.heap := by
    constructor
    · intro b o e _ hb _; exact st b o (nb b o e hb)
    · intro b o e _ hb _; exact fr b hb o e
    · intro b o e n _; rw [upd_ne (ne e)]; exact n
    · intro b o e _
      by_cases hb : b ∈ frs X.stack
      · obtain ⟨sl, q⟩ := fr b hb o e; exact ⟨_, q⟩
      · exact ⟨o, st b o (nb b o e hb)⟩
    · intro b xs q; rw [upd_ne (tr q)]; exact q
    · intro b o v q; rw [upd_ne (tr q)]; exact q
    · intro b ps q; exact ⟨#[], by rw [upd_ne (tr q), q]; simp⟩
  have hk : HOk X.prog X.w (upd H a (exoS a C d)) s'.heap := fun b o q => by
    by_cases hb : b = a
    · subst hb
      rw [upd_same] at q
      cases q
      exact exoS_ok he h1 h2 h3
    · rw [upd_ne hb] at q
      exact (((I.inGround nb).kept st) b o q).stay (fun c v _ z => z) (fun c hc => by rw [upd_ne (tr hc)]; exact hc) (fun c xs hc => by rw [upd_ne (tr hc)]; exact hc)
  have J := I.call (ch := []) (h' := s'.heap) (g' := s'.gens) (t' := s'.toks) (d' := s'.drawn) un hk ag (fun _ z => nomatch z)
  cases s'
  cases os
  exact J
end
/-- the flow behind a clause: its name is gone -/
def cutE (i : Option Nat) (D : Ends) : Ends := match i with
  | none => D
  | some i => { nx := fun σ H => D.nx (σ.set i none) H, rt := D.rt, bk := fun σ H => D.bk (σ.set i none) H, ct := fun σ H => D.ct (σ.set i none) H }
def inS (i : Option Nat) (a : Addr) (σ : L2.St) : L2.St := match i with
  | none => σ
  | some i => σ.set i (some (.ref a))
/-- what the clauses wish of an exception of the body -/
def wMix (K : PySem.W.Frag) (Wo : WX) (D : Ends) : List (Value × Option Nat × TS) → WX
  | [] => Wo
  | (c, i, ts) :: r => fun cls d σ H => ∃ b, PySem.W.exmOne K cls c = some b ∧ (b = true → ∃ C, cls = .ref C ∧ ∀ a, H a = none → ts (cutE i D) (inS i a σ) (upd H a (exoS a C d))) ∧ (b = false → wMix K Wo D r cls d σ H)
inductive Hds (X : Cx) : List ExceptHandler → List (Value × Option Nat × TS) → Prop
  | nil : Hds X [] []
  | cons {x : Str} {c : Value} {on : Option Str} {oi : Option Nat} {ts : TS} {b : Stmt} {su : List Stmt} {np hp : Pos} {hds : List ExceptHandler} {l : List (Value × Option Nat × TS)} :
      Names X x c → (match on, oi with | none, none => True | some n, some i => X.N[i]? = some n ∧ X.env.kindOf n = some .local | _, _ => False) → (∀ a, PSs (held X a) (b :: su) ts) → Hds X hds l → Hds X (.ExceptHandler (some (.Name x np)) on (b :: su) hp :: hds) ((c, oi, ts) :: l)
section
variable {X : Cx} {body : List Stmt} {h0 : ExceptHandler} {hds : List ExceptHandler} {l : List (Value × Option Nat × TS)} {pos : Pos} {tb : WX → TS} {Wo : WX}
/-- a suite's flow, told of the frame -/
theorem cut_none {pins : List (Addr × Obj)} {a : Addr} {D : Ends} {f : Flow} {s6 : Shared} (ok : X.Ok) (h : SP (held X a) pins D f s6) : SP X pins D f s6 := by
  cases f with
  | ret u => obtain ⟨v, σ6, H6, S6, r6, q6⟩ := h; exact ⟨v, σ6, H6, ofHeld ok S6, r6, q6⟩
  | next => obtain ⟨σ6, H6, S6, q6⟩ := h; exact ⟨σ6, H6, ofHeld ok S6, q6⟩
  | brk => obtain ⟨σ6, H6, S6, q6⟩ := h; exact ⟨σ6, H6, ofHeld ok S6, q6⟩
  | cont => obtain ⟨σ6, H6, S6, q6⟩ := h; exact ⟨σ6, H6, ofHeld ok S6, q6⟩
theorem ps_tries (hs : X.stack = X.env :: X.outer) (hf : X.env.frame = some X.env.locals) (hN : X.N.Nodup) (tk : Takes X Wo) (hh : Hds X (h0 :: hds) l)
    (hb : ∀ (W : WX) (pn : List (Addr × Obj)) (xe : Value → Shared → Prop), Takes (X.tr pn xe) W → PassesOwn (model X.prog X.w) X.A X.env xe → PSs (X.tr pn xe) body (tb W)) :
    PS X (.Try body (h0 :: hds) [] [] pos) (fun D σ H => tb (wMix X.K Wo D l) D σ H) := by
  constructor
  intro pins s σ H D I h
  have ok := I.ok
  have hfr : X.A.frames = some (X.env :: X.outer) := ok.frames.trans (by rw [hs])
  apply wpAny_Try_except
  let xe : Value → Shared → Prop := fun e s1 => wpAny (model X.prog X.w) X.A (noteFrame e X.env) (fun _ s2 => wpAny (model X.prog X.w) X.A (setFlight e none) (fun _ s3 => wpAny (model X.prog X.w) X.A (handleBy e X.env (h0 :: hds)) (SP X pins D) X.xe s3) X.xe s2) X.xe s1
  have takes : Takes (X.tr (X.pn ++ pins) xe) (wMix X.K Wo D l) := by
    intro u s' ⟨a, B, sI, pn', σ', H', cls, d, eu, J', nb, up, sky, na, os, ag, w⟩
    subst eu
    have J : Inv X pins σ' H' sI := J'.ofTry ok
    have sk : Sky B (X.env :: X.outer) a (Zc cls d) X.env.locals s'.heap := by rw [← hs]; exact sky
    show wpAny (model X.prog X.w) X.A (noteFrame (Value.ref a) X.env) _ _ _
    refine Sky.land Zc.steady hfr hf sk fun g3 fl3 u3 => ?_
    obtain ⟨o3, v3, e3, z3, d3⟩ := fl3.there
    have nfr : ∀ {g : Heap} {o : Obj} {vs : Array Value}, g.FunFrames B (X.env :: X.outer) → g.get? a = some o → o.data = .fields vs → a ∉ frs X.stack := by
      intro g o vs ff e dd
      rw [hs]
      intro hm
      obtain ⟨_, o', e', q⟩ := ff.mem hm
      cases e.symm.trans e'
      exact q _ dd
    have J3 : Inv X pins σ' H' { s' with heap := g3 } := J.landed nb fl3.1 (up.trans u3) os ag
    have go : ∀ {hs' : List ExceptHandler} {l' : List (Value × Option Nat × TS)}, Hds X hs' l' → wMix X.K Wo D l' cls d σ' H' → wpAny (model X.prog X.w) X.A (handleBy (.ref a) X.env hs') (SP X pins D) X.xe { s' with heap := g3 } := by
      intro hs' l' hk
      induction hk with
      | nil =>
        intro w
        apply wpAny_handleBy_nil
        obtain ⟨k1, k2, k3, oe, vs, T, oT, ts', he, hz, hd, q1, hr⟩ := id fl3
        have last : wpAny (model X.prog X.w) X.A (setFlight (.ref a) X.env.frame) (fun _ s4 => wpAny (model X.prog X.w) X.A (throw (.ref a) : Sem Flow) (SP X pins D) X.xe s4) X.xe { s' with heap := g3 } := by
          rw [hf]
          refine PySem.HandSPX.setFlight_upZ fl3 fun g4 q4 u4 => wpAny_throw (tk _ _ ⟨a, B, sI, pins, σ', H', cls, d, rfl, J, nb, (up.trans u3).trans u4, .inr (.inr ?_), na, os, ag, w⟩)
          rw [hs]; exact q4
        unfold PySem.passOn
        refine wpAny_bind (wpAny_field he hd q1 ?_)
        rw [if_neg (by simp)]
        first | exact wpAny_bind (wpAny_pure (wpAny_bind last)) | exact wpAny_bind last
      | @cons x c on oi ts b su np hp hds2 l2 hc hn hsu r ih =>
        intro w
        obtain ⟨t, hb1, yes, no⟩ := w
        refine wpAny_handleBy_cons (codeAny_handlers_test ?_) (by intro q; cases q)
        have LT : PySem.W.Looks (model X.prog X.w) g3 (typeOf (.ref a)) cls := by
          intro A Q E s1 k q
          refine wpAny_typeOf_ref (k _ _ e3) ?_
          rw [z3.1]; exact q
        have LM := PySem.W.exm_one (M := model X.prog X.w) J3.kIn LT hb1
        have test : ∀ {Q : Value → Shared → Prop} {E : Value → Shared → Prop}, Q c { s' with heap := g3 } → wpAny (model X.prog X.w) (X.A.mark (some (.ref a))) (eval (.Name x np) X.env) Q E { s' with heap := g3 } := by
          intro Q E q
          obtain ⟨hg, hdb, hm | ⟨hm, hv, hnn⟩⟩ := hc
          · exact ld_glob (X := held X a) (toHeld J3) hg hm q hdb
          · exact ld_blt (X := held X a) (toHeld J3) hg hm hv q hnn hdb
        refine test (LM.here ?_)
        cases t with
        | false => exact ih (no rfl)
        | true =>
          obtain ⟨C, eC, hy⟩ := yes rfl
          subst eC
          have seen : ∀ {g4 : Heap}, PySem.HandSPX.FlyingZ B (X.env :: X.outer) a (Zc (.ref C) d) g4 → g3.UpToSlots g4 → Inv (held X a) pins σ' (upd H' a (exoS a C d)) { s' with heap := g4 } := by
            intro g4 fl4 u4
            obtain ⟨o4, v4, e4, z4, d4⟩ := fl4.there
            exact toHeld (landX (s' := { s' with heap := g4 }) J nb fl4.1 ((up.trans u3).trans u4) os ag na (nfr fl4.2.2.1 e4 d4) fl4.2.1 e4 z4.1 z4.2 d4)
          cases on with
          | none =>
            cases oi with
            | some i => exact hn.elim
            | none =>
              refine codeAny_handlers_suite (PySem.HandSPX.lands_againZ fl3 fun g4 fl4 u4 => ?_)
              exact wpAny_mono ((hsu a).run pins _ _ _ _ (seen fl4 u4) (hy a na)) (fun f s6 q => cut_none ok q) (fun _ _ z => z.elim)
          | some n =>
            cases oi with
            | none => exact hn.elim
            | some i =>
              obtain ⟨hi, hl⟩ := hn
              refine codeAny_handlers_suite_as (PySem.HandSPX.lands_againZ fl3 fun g4 fl4 u4 => ?_)
              refine store_ok (X := held X a) (v := .ref a) (seen fl4 u4) hN hi (.inl hl) rfl (fun s5 S5 => ?_) (.inr hl)
              refine wpAny_mono ((hsu a).run pins s5 _ _ _ S5 (hy a na)) (fun f s6 q => ?_) (fun _ _ z => z.elim)
              have fin : ∀ {σ6 : L2.St} {H6 : Hp} {Q : Shared → Prop}, Inv (held X a) pins σ6 H6 s6 → (∀ s7, Inv X pins (σ6.set i none) H6 s7 → Q s7) → wpAny (model X.prog X.w) X.A (do bindName X.env n .none; unbindBehindTheSuite X.env n hp) (fun _ s7 => Q s7) X.xe s6 :=
                fun S6 hq => gone_ok (ofHeld ok S6) hN hi hl hq
              cases f with
              | ret u => obtain ⟨v6, σ6, H6, S6, r6, q6⟩ := q; exact fin S6 fun s7 J7 => ⟨_, _, _, J7, r6, q6⟩
              | next => obtain ⟨σ6, H6, S6, q6⟩ := q; exact fin S6 fun s7 J7 => ⟨_, _, J7, q6⟩
              | brk => obtain ⟨σ6, H6, S6, q6⟩ := q; exact fin S6 fun s7 J7 => ⟨_, _, J7, q6⟩
              | cont => obtain ⟨σ6, H6, S6, q6⟩ := q; exact fin S6 fun s7 J7 => ⟨_, _, J7, q6⟩
    exact go hh w
  refine wpAny_mono ((hb _ (X.pn ++ pins) xe takes PassesOwn.looking).run [] s σ H D (I.toTry _) h) (fun f s1 q => ?_) (fun e s1 he => he)
  cases f with
  | ret u => obtain ⟨v, σ', H', J', r, q⟩ := q; exact ⟨v, σ', H', J'.ofTry ok, r, q⟩
  | next => obtain ⟨σ', H', J', q⟩ := q; exact wpAny_execs_nil ⟨σ', H', J'.ofTry ok, q⟩
  | brk => obtain ⟨σ', H', J', q⟩ := q; exact ⟨σ', H', J'.ofTry ok, q⟩
  | cont => obtain ⟨σ', H', J', q⟩ := q; exact ⟨σ', H', J'.ofTry ok, q⟩
end
end DX
set_option Elab.async false
set_option linter.all false
set_option maxRecDepth 100000
set_option maxHeartbeats 4000000
/-! DN: own exceptions: made, raised, caught, read -/
namespace DX
open PySem PySem.Spec PyProof.Rows L2
variable [Tb]

/-! ### their __init__ -/
/-- what is kept of the base class of them all -/
structure BaseT (K : PySem.W.Frag) (mg : Str → Option Value) (x : Str) : Prop where
  ex : ∃ (C : Addr) (mc : Value), mg x = some (.ref C) ∧ ClX.CRead K C mc ∧ PySem.W.findCls K (.ref C) mc "__init__" = some (.val (.builtin "ValueError.__init__"))
def initE (env : PySem.Env) (pl : Sem Bool) (p1 p2 pos : Pos) (es : List Expr) : Sem Value := do
  let ov ← eval (.Name "FlowError" p1) env
  standAt p2.atName
  let (f, first) ← holding [ov] (getMethod ov "__init__" pl)
  callWith pos f first (backTo pos (starEach es env)) (backToKw pos (keywordEach [] env))
section
variable {X : Cx} {e : Expr} {es : List Expr} {ta : TA} {p1 p2 pos : Pos}
theorem pe_baseinit {pl : Sem Bool} (T : BaseT X.K X.mg "FlowError") (hg : Gl X "FlowError") (ha : PA X (e :: es) ta)
    (hc : eval (.Call (.Attribute (.Name "FlowError" p1) "__init__" p2) (e :: es) [] pos) X.env = initE X.env pl p1 p2 pos (e :: es))
    (he : starEach (e :: es) X.env = (false, eval e X.env) :: starEach es X.env := by rfl) (hpl : (backTo pos (starEach es X.env)).any (·.1) = false := by rfl) :
    PE X (.Call (.Attribute (.Name "FlowError" p1) "__init__" p2) (e :: es) [] pos) (tVeI X.K ta) := by
  obtain ⟨C, mc, hm, rd, hv⟩ := T.ex
  constructor
  intro pins s σ H Q I h
  refine PySem.W.methodCall_KW (ld_glob I hg hm ?_) hc
  refine PySem.W.method_cls I.kIn rd.ga (PySem.W.cls_value I.kIn rd.rd hv (by rfl) ?_)
  show wpAny _ _ (callWith pos (.builtin "ValueError.__init__") [] (backTo pos (starEach (e :: es) X.env)) []) _ _ _
  refine PyProof.Rows.callWith_method1 (thn (ha.run pos pins _ σ H _ (I.tok _) h) fun us s1 ⟨vs, H1, I1, r1, a, D, ws, ev, hl, TC, ea, q⟩ => ?_) he hpl
  subst ev
  cases r1 with
  | @cons _ u0 _ ur ra rw' =>
    cases ra
    refine oinit_ok TC I1 ea ?_ fun s' J => ⟨.non, H1, J, rfl, q⟩
    rw [← Paired.length rw', sizeLine_eq]
    omega
end
/-- the promise of such an __init__: the fields ns, in the parameters' order -/
def spI (K : PySem.W.Frag) (C : Addr) (ns : List Str) : Sp := fun vs H Q _ => ∃ (a : Addr) (ys : List V), vs = .ref a :: ys ∧ ys.length = ns.length ∧ H a = some (exo a C none) ∧
  ∀ d, H d = none → d ≠ a → Q .non (upd (upd H d (exd d (ns.zip ys).reverse)) a (exo a C (some d)))
section
variable {P : Program} {w : World} {K : PySem.W.Frag} {mg : Str → Option Value} {base : Heap} {C fI : Addr} {fd : FuncData} {x qual f g t : Str} {st : Stmt} {p1 p2 p3 p4 p5 p6 q1 q2 q3 q4 r1 r2 r3 r4 : Pos} {j : Nat}
theorem init1 (F : Fun K x qual st fI fd) (T : OexC K C) (B : BaseT K mg "FlowError") (hno : PySem.W.findIn K (.ref C) f = some none) (S : FnScope ["self", f] ["self", f] (defScope st)) (hgb : (defScope st).names.lookup ("FlowError" : Str) = some .globalImplicit)
    (hc : ∀ (n fI : Addr) (cdv : Value), ∃ pl : Sem Bool, eval (.Call (.Attribute (.Name "FlowError" p1) "__init__" p2) [.Name "self" p3, .Constant (.str t) j p4] [] p5) (envOfC qual (defScope st) n fI cdv) = initE (envOfC qual (defScope st) n fI cdv) pl p1 p2 p5 [.Name "self" p3, .Constant (.str t) j p4])
    (hb : defBody st = [.Expr (.Call (.Attribute (.Name "FlowError" p1) "__init__" p2) [.Name "self" p3, .Constant (.str t) j p4] [] p5) p6, .Assign [.Attribute (.Name "self" q1) f q2] (.Name f q3) q4])
    (hf1 : (f == ("__debug__" : Str)) = false) (hf2 : (f == ("__classdict__" : Str)) = false) : FnOk P w K mg base (L2.CX P w) 1 fI fd ["self", f] (spI K C [f]) := by
  have vis : ∀ y ∈ (["self", f] : List Str), Vis (defScope st) y := fun y hy => (S.par y hy).elim Or.inl fun z => Or.inr (Or.inl z)
  refine F.okX S (fun vs H Q E ⟨a, ys, e1, e2, _⟩ => by rw [e1]; simpa using e2) (fun cdv A outer s H vs Q E hr h => ?_)
  obtain ⟨a, ys, e1, e2, e3, q⟩ := h
  obtain ⟨y, rfl⟩ : ∃ y, ys = [y] := by
    match ys, e2 with
    | [y], _ => exact ⟨y, rfl⟩
  subst e1
  obtain ⟨pl, hc⟩ := hc s.heap.objs.size fI cdv
  rw [hb]
  refine ⟨_, pss_cons (ps_expr (pe_baseinit (pl := pl) B hgb (pa_cons (pe_var (i := 0) rfl (vis _ (by simp))) (pa_cons pe_str pa_nil)) hc) (by rfl)) (pss_one (ps_ost (pe_var (i := 0) rfl (vis _ (by simp))) (pe_var (i := 1) rfl (vis _ (by simp)) hf1 hf2))), ?_⟩
  refine ⟨_, rfl, a, C, _, rfl, by simp, T, e3, ?_⟩
  refine ⟨_, rfl, _, rfl, a, C, rfl, T, hno, .inl ⟨e3, fun dx h1 h2 => ?_⟩⟩
  exact q dx h1 h2
theorem init2 (F : Fun K x qual st fI fd) (T : OexC K C) (B : BaseT K mg "FlowError") (hno : PySem.W.findIn K (.ref C) f = some none) (hno2 : PySem.W.findIn K (.ref C) g = some none) (S : FnScope ["self", f, g] ["self", f, g] (defScope st)) (hgb : (defScope st).names.lookup ("FlowError" : Str) = some .globalImplicit)
    (hc : ∀ (n fI : Addr) (cdv : Value), ∃ pl : Sem Bool, eval (.Call (.Attribute (.Name "FlowError" p1) "__init__" p2) [.Name "self" p3, .Constant (.str t) j p4] [] p5) (envOfC qual (defScope st) n fI cdv) = initE (envOfC qual (defScope st) n fI cdv) pl p1 p2 p5 [.Name "self" p3, .Constant (.str t) j p4])
    (hb : defBody st = [.Expr (.Call (.Attribute (.Name "FlowError" p1) "__init__" p2) [.Name "self" p3, .Constant (.str t) j p4] [] p5) p6, .Assign [.Attribute (.Name "self" q1) f q2] (.Name f q3) q4, .Assign [.Attribute (.Name "self" r1) g r2] (.Name g r3) r4])
    (hf1 : (f == ("__debug__" : Str)) = false) (hf2 : (f == ("__classdict__" : Str)) = false) (hg1 : (g == ("__debug__" : Str)) = false) (hg2 : (g == ("__classdict__" : Str)) = false) :
    FnOk P w K mg base (L2.CX P w) 1 fI fd ["self", f, g] (spI K C [f, g]) := by
  have vis : ∀ y ∈ (["self", f, g] : List Str), Vis (defScope st) y := fun y hy => (S.par y hy).elim Or.inl fun z => Or.inr (Or.inl z)
  refine F.okX S (fun vs H Q E ⟨a, ys, e1, e2, _⟩ => by rw [e1]; simpa using e2) (fun cdv A outer s H vs Q E hr h => ?_)
  obtain ⟨a, ys, e1, e2, e3, q⟩ := h
  obtain ⟨y, z, rfl⟩ : ∃ y z, ys = [y, z] := by
    match ys, e2 with
    | [y, z], _ => exact ⟨y, z, rfl⟩
  subst e1
  obtain ⟨pl, hc⟩ := hc s.heap.objs.size fI cdv
  rw [hb]
  refine ⟨_, pss_cons (ps_expr (pe_baseinit (pl := pl) B hgb (pa_cons (pe_var (i := 0) rfl (vis _ (by simp))) (pa_cons pe_str pa_nil)) hc) (by rfl)) (pss_cons (ps_ost (pe_var (i := 0) rfl (vis _ (by simp))) (pe_var (i := 1) rfl (vis _ (by simp)) hf1 hf2))
    (pss_one (ps_ost (pe_var (i := 0) rfl (vis _ (by simp))) (pe_var (i := 2) rfl (vis _ (by simp)) hg1 hg2)))), ?_⟩
  refine ⟨_, rfl, a, C, _, rfl, by simp, T, e3, ?_⟩
  refine ⟨_, rfl, _, rfl, a, C, rfl, T, hno, .inl ⟨e3, fun dx h1 h2 => ?_⟩⟩
  refine ⟨_, rfl, _, rfl, a, C, rfl, T, hno2, .inr ⟨dx, [(f, y)], upd_same, ?_, by simp, ?_⟩⟩
  · rw [upd_ne h2, upd_same]
  · have e : upd (upd (upd H dx (exd dx [(f, y)])) a (exo a C (some dx))) dx (exd dx [(g, z), (f, y)]) = upd (upd H dx (exd dx [(g, z), (f, y)])) a (exo a C (some dx)) := by
      funext b
      by_cases hb1 : b = a
      · subst hb1; rw [upd_ne (Ne.symm h2), upd_same, upd_same]
      · by_cases hb2 : b = dx
        · subst hb2; rw [upd_same, upd_ne hb1, upd_same]
        · rw [upd_ne hb2, upd_ne hb1, upd_ne hb2, upd_ne hb1, upd_ne hb2]
    rw [e]
    exact q dx h1 h2
end
/-- the name x means an exception class with the fields ns -/
def ExT (P : Program) (w : World) (K : PySem.W.Frag) (mg : Str → Option Value) (base : Heap) (x : Str) (ns : List Str) : Prop :=
  ∃ (C fI : Addr) (fd : FuncData), mg x = some (.ref C) ∧ OexC K C ∧ XfC K C ∧ PySem.W.findIn K (.ref C) "__init__" = some (some (.ref fI)) ∧ PySem.W.typeIn K (.ref fI) = some (.type "function") ∧ (∀ f ∈ ns, PySem.W.findIn K (.ref C) f = some none) ∧
    L2.Binds K fd ("self" :: ns) [] ∧ FnOk P w K mg base (L2.CX P w) 1 fI fd ("self" :: ns) (spI K C ns)

/-! ### raise -/
theorem IsAll.zipF {K : PySem.W.Frag} {mg : Str → Option Value} {R : List Addr} {G : Hp} {ns : List Str} {vs : List V} {ds : List D} (h : IsAll K mg R G vs ds) (hl : ds.length = ns.length) :
    (ns.zip vs).reverse.map (·.1) = (ns.zip ds).reverse.map (·.1) ∧ IsAll K mg R G ((ns.zip vs).reverse.map (·.2)) ((ns.zip ds).reverse.map (·.2)) := by
  have hv := h.length
  have e1 : (ns.zip vs).map (·.1) = ns := List.map_fst_zip (by omega)
  have e2 : (ns.zip ds).map (·.1) = ns := List.map_fst_zip (by omega)
  have e3 : (ns.zip vs).map (·.2) = vs := List.map_snd_zip (by omega)
  have e4 : (ns.zip ds).map (·.2) = ds := List.map_snd_zip (by omega)
  refine ⟨by rw [List.map_reverse, List.map_reverse, e1, e2], ?_⟩
  rw [List.map_reverse, List.map_reverse, e3, e4]
  exact h.reverse
section
variable {X : Cx} {W : WX} {e : Expr} {es : List Expr} {x : Str} {p pos pos2 : Pos} {ns : List Str} {k : Nat}
def sRaise (x : Str) (ns : List Str) (m : Env' → M (List D)) : Sm := sH m fun ds ρ μ => if ds.length = ns.length ∧ ns.length ≤ 900 then .exc x (ns.zip ds).reverse ρ μ else .stuck
theorem s_raise {m : Env' → M (List D)} (T : ExT X.prog X.w X.K X.mg X.base x ns) (hc : X.calm = true) (hr : RoomG k X.A) (tk : Takes X W) (hg : Gl X x) (ha : A' X W (e :: es) m) (hk : 2 ≤ k := by decide) (hdb : (x == ("__debug__" : Str)) = false := by decide)
    (he : starEach (e :: es) X.env = (false, eval e X.env) :: starEach es X.env := by rfl) (hpl : (backTo pos (starEach es X.env)).any (·.1) = false := by rfl) :
    S' X W (.Raise (some (.Call (.Name x p) (e :: es) [] pos)) none pos2) (sRaise x ns m) := by
  obtain ⟨C, fI, fd, hm, TC, TX, iC, tI, hno, hb, F⟩ := T
  refine PS.weak (ps_raise hc tk (pmk_oex (ds := []) (dvs := []) TC iC tI F (hr.r.mono hk) hb .nil (passes_call tk fun _ _ _ _ z => z.elim) hg hm ha hdb he hpl)) fun E σ H ⟨O, R, G, ρ, μ, w, mu, a⟩ => ?_
  obtain ⟨R0, G0, ρ0, μ0, w0, q⟩ := stepH (rel := rAll X.K X.mg) w mu a
  refine ⟨R0, G0, ρ0, μ0, w0, q.imp fun vs H1 ⟨R1, G1, ds, μ1, x1, i, w1, mu1, k1⟩ => ?_⟩
  split at k1
  · rename_i hl
    have hvs : vs.length = ns.length := i.length.trans hl.1
    refine ⟨by omega, fun a na => ⟨a, vs, by simp, hvs, upd_same, fun d hd hda => ⟨rfl, d, (ns.zip vs).reverse, upd_same, ?_, ?_, ?_⟩⟩⟩
    · rw [upd_ne hda, upd_same]
    · rw [upd_ne hda] at hd; exact hd
    · have hd' : H1 d = none := by rw [upd_ne hda] at hd; exact hd
      have eH : upd (del (upd (upd (upd H1 a (exo a C none)) d (exd d (ns.zip vs).reverse)) a (exo a C (some d))) a) d (.xd (ns.zip vs).reverse) = upd H1 d (.xd (ns.zip vs).reverse) := by
        funext b
        by_cases h1 : b = d
        · subst h1; rw [upd_same, upd_same]
        · rw [upd_ne h1, upd_ne h1]
          by_cases h2 : b = a
          · subst h2; rw [del_same, na]
          · rw [del_ne h2, upd_ne h2, upd_ne h1, upd_ne h2]
      rw [eH]
      have w0' : W0 R1 G1 H1 := ⟨w1.s, w1.cl, mu1.hr⟩
      have gr := Grow.new (o := .xd (ns.zip vs).reverse) w0' hd' rfl
      obtain ⟨z1, z2⟩ := i.zipF hl.1
      refine k1 O R1 _ _ σ C (some d) ((x1.trans gr.e).toS (O := O)) (w1.extH gr.e) hm (fun _ => ⟨d, _, rfl, upd_same, z1, z2.mono gr.e.g fun _ _ h => h⟩) (gr.mu mu1)
  · exact k1.elim
end
/-! ### try -/
def bindX (oi : Option Nat) (d : D) (ρ : Env) : Env := match oi with
  | none => ρ
  | some i => ρ.set i (.fr d)
def unX (oi : Option Nat) (ρ : Env) : Env := match oi with
  | none => ρ
  | some i => ρ.set i .un
def cutR (oi : Option Nat) : SR → SR
  | .nx ρ μ => .nx (unX oi ρ) μ
  | .bk ρ μ => .bk (unX oi ρ) μ
  | .ct ρ μ => .ct (unX oi ρ) μ
  | .rt d μ => .rt d μ
  | _ => .stuck
/-- the clauses, one after the other -/
def hdl (sub : Str → Str → Option Bool) (c : Str) (fs : List (Str × D)) : List (Str × Option Nat × Sm) → Sm
  | [] => fun ρ μ => .exc c fs ρ μ
  | (x, oi, b) :: r => fun ρ μ => match sub c x with
    | some true => cutR oi (b (bindX oi (.exn c fs) ρ) μ)
    | some false => hdl sub c fs r ρ μ
    | none => .stuck
def sTry (sub : Str → Str → Option Bool) (m : Sm) (cl : List (Str × Option Nat × Sm)) : Sm := fun ρ μ => match m ρ μ with
  | .exc c fs ρ' μ' => hdl sub c fs cl ρ' μ'
  | r => r
/-- a clause of the text -/
inductive Cls' (X : Cx) : List ExceptHandler → List (Str × Option Nat × Sm) → List (Value × Option Nat × TS) → Prop
  | nil : Cls' X [] [] []
  | cons {x : Str} {C : Addr} {on : Option Str} {oi : Option Nat} {m : Sm} {b : Stmt} {su : List Stmt} {np hp : Pos} {hds : List ExceptHandler} {l : List (Str × Option Nat × Sm)} {l2 : List (Value × Option Nat × TS)} :
      Names X x (.ref C) → X.mg x = some (.ref C) → (match on, oi with | none, none => True | some n, some i => X.N[i]? = some n ∧ X.env.kindOf n = some .local | _, _ => False) → (∀ a, Ss' (held X a) (fun _ _ _ _ => False) (b :: su) m) → Cls' X hds l l2 →
        Cls' X (.ExceptHandler (some (.Name x np)) on (b :: su) hp :: hds) ((x, oi, m) :: l) ((.ref C, oi, tS X.K X.mg (fun _ _ _ _ => False) m) :: l2)
theorem Cls'.hds {X : Cx} {hs : List ExceptHandler} {l : List (Str × Option Nat × Sm)} {l2 : List (Value × Option Nat × TS)} (h : Cls' X hs l l2) : Hds X hs l2 := by
  induction h with
  | nil => exact .nil
  | cons h1 h2 h3 h4 h5 ih => exact .cons h1 h3 h4 ih
/-- what is known of classes -/
def SubT (K : PySem.W.Frag) (mg : Str → Option Value) (sub : Str → Str → Option Bool) : Prop := ∀ c x b C D, sub c x = some b → mg c = some (.ref C) → mg x = some (.ref D) → PySem.W.exmOne K (.ref C) (.ref D) = some b
section
variable {K : PySem.W.Frag} {mg : Str → Option Value} {O R : List Addr} {G H : Hp} {σ : L2.St} {ρ : Env} {μ : List Mob}
/-- a slot of which nothing is known any more -/
theorem StI.un (w : StI K mg O R G H σ ρ) (i : Nat) : StI K mg O R G H (σ.set i none) (ρ.set i .un) := by
  have ne : ∀ {j : Nat} {s : Slot}, (ρ.set i .un)[j]? = some s → s ≠ .un → i ≠ j ∧ ρ[j]? = some s := fun {j s} e h => by
    by_cases hij : i = j
    · subst hij
      obtain ⟨_, e2⟩ := List.getElem?_eq_some_iff.mp e
      rw [List.getElem_set_self] at e2
      exact absurd e2.symm h
    · rw [List.getElem?_set_ne hij] at e; exact ⟨hij, e⟩
  refine ⟨w.s, w.cl, by simp [w.len], fun j d e => ?_, fun j d e => ?_, fun j l d e a h1 h2 h3 h4 => ?_, w.og, w.tb⟩
  · obtain ⟨h1, h2⟩ := ne e (by simp)
    rw [List.getElem?_set_ne h1]
    exact w.fr j d h2
  · obtain ⟨h1, h2⟩ := ne e (by simp)
    rw [List.getElem?_set_ne h1]
    exact w.ow j d h2
  · obtain ⟨a1, a2⟩ := ne h1 (by simp)
    obtain ⟨b1, b2⟩ := ne h2 (by simp)
    rw [List.getElem?_set_ne a1] at h3
    rw [List.getElem?_set_ne b1] at h4
    exact w.inj j l d e a a2 b2 h3 h4
theorem seen_w {a C : Addr} {dx : Option Addr} {c : Str} {fs : List (Str × D)} (w : StI K mg O R G H σ ρ) (mu : MuIs K mg R G H μ) (hm : mg c = some (.ref C)) (hx : XFs K mg R G H dx fs) (na : H a = none) :
    StI K mg O R (upd G a (exoS a C dx)) (upd H a (exoS a C dx)) σ ρ ∧ MuIs K mg R (upd G a (exoS a C dx)) (upd H a (exoS a C dx)) μ ∧ Ext R G H R (upd G a (exoS a C dx)) (upd H a (exoS a C dx)) ∧ Is K mg R (upd G a (exoS a C dx)) (.ref a) (.exn c fs) := by
  have gr := Grow.new (o := exoS a C dx) (W0.mk w.s w.cl mu.hr) na rfl
  refine ⟨w.extH gr.e, gr.mu mu, gr.e, ?_⟩
  by_cases hf : fs = []
  · subst hf
    exact .exn (fs := []) hm upd_same (fun z => absurd rfl z) rfl .nil
  · obtain ⟨d, xs, e1, e2, e3, e4⟩ := hx hf
    exact .exn hm upd_same (fun _ => ⟨d, e1, gr.e.g d _ e2⟩) e3 (e4.mono gr.e.g fun _ _ h => h)
theorem cut_aft {oi : Option Nat} {r : SR} {Wo : WX} {E : Ends} (h : AftS K mg Wo (cutR oi r) O R G H E) : AftS K mg (fun _ _ _ _ => False) r O R G H (cutE oi E) := by
  cases r with
  | nx ρ μ =>
    intro O' R' G' H' σ' x st mu
    cases oi with
    | none => exact h O' R' G' H' σ' x st mu
    | some i => exact h O' R' G' H' _ x (st.un i) mu
  | bk ρ μ =>
    intro O' R' G' H' σ' x st mu
    cases oi with
    | none => exact h O' R' G' H' σ' x st mu
    | some i => exact h O' R' G' H' _ x (st.un i) mu
  | ct ρ μ =>
    intro O' R' G' H' σ' x st mu
    cases oi with
    | none => exact h O' R' G' H' σ' x st mu
    | some i => exact h O' R' G' H' _ x (st.un i) mu
  | rt d μ =>
    intro O' R' G' H' v x s cl i1 mu
    cases oi with
    | none => exact h O' R' G' H' v x s cl i1 mu
    | some i => exact h O' R' G' H' v x s cl i1 mu
  | exc c fs ρ μ => exact h.elim
  | stuck => exact h.elim
end
section
variable {X : Cx} {W : WX} {body : List Stmt} {h0 : ExceptHandler} {hds : List ExceptHandler} {m : Sm} {l : List (Str × Option Nat × Sm)} {l2 : List (Value × Option Nat × TS)} {pos : Pos} {sub : Str → Str → Option Bool}
theorem mix_of (hsub : SubT X.K X.mg sub) {E : Ends} {hs : List ExceptHandler} {c : Str} {fs : List (Str × D)} {ρ : Env} {μ : List Mob} {O R : List Addr} {G H : Hp} {σ : L2.St} {C : Addr} {dx : Option Addr} (w : StI X.K X.mg O R G H σ ρ) (mu : MuIs X.K X.mg R G H μ) (hm : X.mg c = some (.ref C)) (hx : XFs X.K X.mg R G H dx fs)
    (hc : Cls' X hs l l2) (a : AftS X.K X.mg W (hdl sub c fs l ρ μ) O R G H E) : wMix X.K W E l2 (.ref C) dx σ H := by
  induction hc with
  | nil => exact a O R G H σ C dx (.refl _ _ _ _) w hm hx mu
  | @cons x D on oi m b su np hp hds l l2 h1 h2 h3 h4 h5 ih =>
    unfold hdl at a
    cases q : sub c x with
    | none => rw [q] at a; exact a.elim
    | some t =>
      rw [q] at a
      refine ⟨t, hsub c x t C D q hm h2, fun et => ?_, fun et => ?_⟩
      · subst et
        refine ⟨C, rfl, fun p np => ?_⟩
        obtain ⟨w1, mu1, x1, i1⟩ := seen_w w mu hm hx np
        have k1 := AftS.ext (cut_aft a) (x1.toS (O := O))
        cases oi with
        | none => exact ⟨O, R, _, _, _, w1, mu1, k1⟩
        | some i => exact ⟨O, R, _, _, _, w1.set i i1, mu1, k1⟩
      · subst et
        exact ih a
theorem s_try (hs : X.stack = X.env :: X.outer) (hf : X.env.frame = some X.env.locals) (hN : X.N.Nodup) (tk : Takes X W) (hsub : SubT X.K X.mg sub) (hc : Cls' X (h0 :: hds) l l2)
    (hb : ∀ (W : WX) (pn : List (Addr × Obj)) (xe : Value → Shared → Prop), Takes (X.tr pn xe) W → PassesOwn (model X.prog X.w) X.A X.env xe → Ss' (X.tr pn xe) W body m) :
    S' X W (.Try body (h0 :: hds) [] [] pos) (sTry sub m l) :=
  PS.weak (ps_tries (tb := fun W => tS X.K X.mg W m) hs hf hN tk hc.hds hb) fun E σ H ⟨O, R, G, ρ, μ, w, mu, a⟩ => by
    refine ⟨O, R, G, ρ, μ, w, mu, ?_⟩
    unfold sTry at a
    cases q : m ρ μ with
    | exc c fs ρ' μ' =>
      rw [q] at a
      intro O' R' G' H' σ' C dx x st hm hx mu'
      exact mix_of hsub st mu' hm hx hc (AftS.ext a x)
    | nx ρ' μ' => rw [q] at a; exact a
    | bk ρ' μ' => rw [q] at a; exact a
    | ct ρ' μ' => rw [q] at a; exact a
    | rt d μ' => rw [q] at a; exact a
    | stuck => rw [q] at a; exact a

/-! ### a field of an exception -/
def dXf (cs : List Str) (f : Str) : D → Option D
  | .exn c fs => if cs.contains c = true then fs.lookup f else none
  | _ => none
theorem e_xf {W : WX} {e : Expr} {f : Str} {cs : List Str} {m : Env' → M D} (hc : ∀ c ∈ cs, ∃ C, X.mg c = some (.ref C) ∧ XfC X.K C ∧ PySem.W.findIn X.K (.ref C) f = some none) (he : E' X W e m) (hb : attributeBase e f X.env (eval e X.env) = eval e X.env := by rfl) (hf : (f == ("" : Str)) = false := by decide) :
    E' X W (.Attribute e f pos) (fun ρ => M.bind (m ρ) fun x => liftO (dXf cs f x)) := by
  constructor
  intro pins s σ H Q I h
  refine attr_of hb (thn (he.run pins s σ H _ I (tD.bind (rel := rIs X.K X.mg) (f := fun _ x => liftO (dXf cs f x)) h)) fun u s1 ⟨v, H1, I1, r1, R1, G1, ρ1, μ1, d, w1, i1, q1⟩ => ?_)
  obtain ⟨z, hz, q⟩ := after_lift w1.mu q1
  cases i1 with
  | @exn a C dx c xs fs hm h1 h2 h3 h4 =>
    simp only [dXf] at hz
    split at hz
    · rename_i hcs
      obtain ⟨C', k1, T, hno⟩ := hc c (List.contains_iff_mem.mp hcs)
      rw [hm] at k1
      cases k1
      cases r1
      obtain ⟨v', e1, i'⟩ := lookup_is h3 h4 hz
      obtain ⟨dd, rfl, hd⟩ := h2 (by intro z0; rw [z0] at hz; cases hz)
      have oa : ObjOk X.prog X.w H1 s1.heap a (exoS a C (some dd)) := I1.hok a _ (w1.s _ _ h1)
      obtain ⟨⟨oe, vs, he, c1, c2, c3⟩, _⟩ := oa
      obtain ⟨mA, hns, hr⟩ := (show ObjOk X.prog X.w H1 s1.heap dd (.xd xs) from I1.hok dd _ (w1.s _ _ hd))
      obtain ⟨od, ho, hl⟩ := lookIn_ns hns
      obtain ⟨u, hu, ru⟩ := RelO.some_of (v := v') (o := mA f) (by rw [← e1]; exact hr f)
      have J : PySem.W.InstAt s1.heap a oe C (some od) := ⟨he, c1, by unfold PySem.W.notCls; rw [c3] <;> rfl, by rw [c2]; exact ho⟩
      exact PySem.HandSPX.exc_get I1.kIn J T.ga T.gg T.exC (PySem.W.findObj_own T.hdC hno rfl (by rw [hl, hu])) (handed_of ru) ⟨v', H1, I1.tok _, ru, q _ G1 H1 (.refl w1.w0) i'⟩
    · cases hz
  | ex0 _ _ =>
    simp only [dXf, List.lookup, hf, ite_self] at hz
    cases hz
  | _ => cases hz
end
end DX
set_option Elab.async false
set_option linter.all false
set_option maxRecDepth 100000
set_option maxHeartbeats 4000000
/-! DO: a lambda handed to a def that calls it -/
namespace DX
open PySem PySem.Spec PyProof.Rows L2
variable [Tb]

/-! ### what a lambda has of its maker's slots -/
def capV : L2.St → Env' → List V
  | s :: σ, o :: ρ => (match o with | some _ => s.getD .non | none => .non) :: capV σ ρ
  | _, _ => []
def capD : Env' → List D := List.map fun o => o.getD .non
/-- the slots of which something is known are bound -/
def Bnd (σ : L2.St) (ρ : Env') : Prop := σ.length = ρ.length ∧ ∀ (i : Nat) (d : D), ρ[i]? = some (some d) → ∃ v, σ[i]? = some (some v)
section
variable {K : PySem.W.Frag} {mg : Str → Option Value} {R : List Addr} {G : Hp}
theorem EnvIs.bnd {σ : L2.St} {ρ : Env'} (h : EnvIs K mg R G σ ρ) : Bnd σ ρ := ⟨h.1, fun i d e => let ⟨v, a, _⟩ := h.2 i d e; ⟨v, a⟩⟩
theorem cap_is : ∀ {σ : L2.St} {ρ : Env'}, EnvIs K mg R G σ ρ → IsAll K mg R G (capV σ ρ) (capD ρ)
  | [], [], _ => .nil
  | [], _ :: _, h => by have := h.1; simp at this
  | _ :: _, [], h => by have := h.1; simp at this
  | s :: σ, o :: ρ, h => by
    have t : EnvIs K mg R G σ ρ := ⟨by have := h.1; simpa using this, fun i d e => by simpa using h.2 (i + 1) d (by simpa using e)⟩
    cases o with
    | none => exact .cons .non (cap_is t)
    | some d =>
      obtain ⟨v, e, k⟩ := h.2 0 d rfl
      cases e
      exact .cons k (cap_is t)
theorem of_cap : ∀ {σ : L2.St} {ρ : Env'}, Bnd σ ρ → IsAll K mg R G (capV σ ρ) (capD ρ) → EnvIs K mg R G σ ρ
  | [], [], _, _ => ⟨rfl, fun i d e => by simp at e⟩
  | [], _ :: _, h, _ => by have := h.1; simp at this
  | _ :: _, [], h, _ => by have := h.1; simp at this
  | s :: σ, o :: ρ, h, k => by
    have t : Bnd σ ρ := ⟨by have := h.1; simpa using this, fun i d e => by simpa using h.2 (i + 1) d (by simpa using e)⟩
    cases k with
    | cons k1 k2 =>
      have ih := of_cap t k2
      refine ⟨by simp [ih.1], fun i d e => ?_⟩
      cases i with
      | zero =>
        cases (show o = some d by simpa using e)
        obtain ⟨v, hv⟩ := h.2 0 d rfl
        have hs : s = some v := by simpa using hv
        subst hs
        exact ⟨v, rfl, k1⟩
      | succ i => simpa using ih.2 i d (by simpa using e)
end
open Classical in
/-- the call of what slot i holds, if that is L, which computes th -/
noncomputable def callL (L : D) (i : Nat) (th : M D) : Env' → M D := fun ρ => if ρ[i]? = some (some L) then th else stuck
section
variable {X : Cx} {pins : List (Addr × Obj)} {σ : L2.St} {H : Hp} {s : Shared} {mb : Env' → M D}
/-- x(), in the def that got the lambda -/
theorem e_act {Eg : XK} {Ng : List Str} {qg : Str} {sg : Scope} {g f c' : Addr} {cdg pm ctv : Value} {params : Arguments} {body : Expr} {scope : Scope} {k i : Nat} {a : Str} {pn : List (Addr × Obj)} {xe : Value → Shared → Prop} {W : WX} {p1 p2 : Pos} {ρ0 : Env'}
    (I : Inv X pins σ H s) (L : LamX.LamS X.env.scope scope) (hf : s.heap.get? f = some (PySem.W.kla_obj "<lambda>" (X.env.qual ++ "<lambda>") params body scope (cloFrom X.env.cells scope.names []) pm c' ctv)) (hfn : H f = none) (hfr : f ∉ frs X.stack)
    (hbind : bindArgs (PySem.W.kla_fn "<lambda>" (X.env.qual ++ "<lambda>") params body scope (cloFrom X.env.cells scope.names []) pm (.ref c') ctv) ⟨[], []⟩ = pure [])
    (tk : Takes ((bX X.prog X.w X.K X.mg X.base Ng qg sg g cdg X.A X.stack s H Eg).tr pn xe) W) (hr : RoomG (k + 1) (X.A.deeper (envOfC qg sg s.heap.objs.size g cdg)))
    (hbody : ∀ (A : Around) (outer : List PySem.Env) (s : Shared) (H : Hp) (E : XK), RoomG k (A.deeper (LamX.lamEnv X scope s.heap.objs.size f c')) → E' (LamX.lamCx X A outer s H E scope f c') (fun cls d _ H' => E cls d H') body mb)
    (hN : Ng[i]? = some a) (hv : Vis sg a) (hB : Bnd σ ρ0) (hd : (a == ("__debug__" : Str)) = false) (hcd : (a == ("__classdict__" : Str)) = false) :
    E' ((bX X.prog X.w X.K X.mg X.base Ng qg sg g cdg X.A X.stack s H Eg).tr pn xe) W (.Call (.Name a p1) [] [] p2) (callL (.lam f c' (X.env.qual ++ "<lambda>") (capV σ ρ0) (capD ρ0)) i (mb ρ0)) := by
  constructor
  intro pinsZ sZ σZ HZ Q IZ h
  obtain ⟨R, G, ρ, μ, w, h⟩ := h
  unfold callL at h
  split at h
  case isFalse => exact h.elim
  rename_i hρ
  obtain ⟨v0, hs, iv⟩ := w.env.2 i _ hρ
  cases iv with
  | lam hc ia =>
    refine wpAny_Call_Name_kw (thn ((pe_var (pos := p1) (i := i) hN hv hd hcd).run pinsZ sZ σZ HZ (fun v H1 => v = .ref f ∧ H1 = HZ) IZ ⟨.ref f, hs, rfl, rfl⟩) fun u s1 ⟨v, H1, I1, r1, e1, e2⟩ => ?_)
    subst e1
    subst e2
    cases r1
    have of1 : s1.heap.get? f = some (PySem.W.kla_obj "<lambda>" (X.env.qual ++ "<lambda>") params body scope (cloFrom X.env.cells scope.names []) pm c' ctv) := I1.base.keep f _ hf hfn hfr fun z => nomatch (show f ∈ ([] : List Addr) from z)
    refine PySem.W.callWith_F0 ⟨_, _, _, _, of1⟩ ?_
    obtain ⟨⟨oc, vs, t, q1, q2, q3⟩, _, _⟩ := I1.hok c' _ (w.s _ _ hc)
    have rc : codeAny (model X.prog X.w) (X.A.deeper (envOfC qg sg s.heap.objs.size g cdg)) (.call (.ref f) ⟨[], []⟩) (CR (L2.CX X.prog X.w) (envOfC qg sg s.heap.objs.size g cdg :: X.stack) X.prog X.w H1 s1 Q (WE W σZ)) s1 := by
      refine PySem.W.kla_callFunE hr.r.depth of1 rfl L.co L.gen rfl ⟨c', oc, vs, t, rfl, q1, q2, q3⟩ ?_
      rw [hbind]
      refine wpAny_pure (wpAny_newFunctionEnv (fun y hy => (L.own y hy).2) (fun y hy => by simp at hy) (fun h1 hns hsb => ⟨I1.nolimit.fresh _ hsb, ?_⟩) L.kind)
      show codeAny _ _ (.expr body (LamX.lamEnv X scope s1.heap.objs.size f c')) _ _
      have J := LamX.lam_start2 (f := f) (c' := c') (E := WE W σZ) (h₁ := h1) (tk := s1.toks + ([] : List (Str × Value)).length) I L I1.env0 hr.r.hd (show Un (frs X.stack) [] H H1 s.heap s1.heap from I1.base) hns fun b o e => hsb.extBut b o (Nat.ne_of_lt (Heap.lt_size e)) (Heap.get?_push_of_some _ e)
      refine PySem.W.kla_codeExpr (wpAny_mono ((hbody _ _ s1 H1 (WE W σZ) (hr.deeper _)).run [] _ _ H1 Q J ⟨R, G, ρ0, μ, ⟨w.s, w.cl, of_cap hB ia, w.mu, w.tb⟩, h⟩) (fun v s' hq => ?_) fun e s' hq => hq)
      obtain ⟨w', H', J', rv, q⟩ := hq
      exact ⟨w', H', J'.os, J'.bare, J'.base, J'.hok, rv, q⟩
    refine wpAny_call (codeAny_mono rc fun r s' hq => ?_)
    cases r with
    | error e => exact passAt tk σZ pinsZ H1 s1 e s' I1 hq
    | ok fl =>
      cases fl with
      | ret u => exact I1.after hq
      | next => exact False.elim hq
      | brk => exact False.elim hq
      | cont => exact False.elim hq
/-- the lambda is made; no object goes -/
theorem lam_mk {T : List (Addr × Str)} {c P : Addr} {params : Arguments} {body : Expr} {scope : Scope} {pos : Pos} {E : Value → Shared → Prop} {Q : Value → Shared → Prop} (I : Inv X pins σ H s) (TB : LamX.TabB X.base X.mg c P) (hcode : X.env.code = .ref c)
    (hm : (P, X.env.qual ++ "<lambda>") ∈ T) (hu : ∀ p ∈ T, p.1 = P → p.2 = X.env.qual ++ "<lambda>") (hT : LamX.Tabs T H) (hdef : defaultsOf params X.env = ([], [])) (hfree : ∀ y ∈ scope.names, y.2 = .free → ∃ c, X.env.cells.lookup y.1 = some c)
    (h : ∀ (f c' : Addr) (pm ctv : Value) (H1 : Hp) (s' : Shared), Inv X pins σ H1 s' → LamX.ExtN H H1 → (∀ b, H b ≠ none → H1 b ≠ none) → LamX.Tabs T H1 →
      s'.heap.get? f = some (PySem.W.kla_obj "<lambda>" (X.env.qual ++ "<lambda>") params body scope (cloFrom X.env.cells scope.names []) pm c' ctv) → H1 f = none → f ∉ frs X.stack → H1 c' = some (LamX.CodeO c' (X.env.qual ++ "<lambda>")) → Q (.ref f) s') :
    wpAny (model X.prog X.w) X.A (eval (.Lambda params body scope pos) X.env) Q E s := by
  obtain ⟨ps, hP, ht, ha⟩ := hT _ hm
  have bP : s.heap.BuiltinsAt X.mg P := TB.bm.keeps I.bk
  have oP : s.heap.get? P = some { cls := .none, data := .fields ps } := I.hok P _ hP
  have out : ∀ f, s.heap.objs.size ≤ f → f ∉ frs X.stack := by
    intro f hf z
    rcases List.mem_cons.mp (I.stkSub _ z) with e | e
    · exact Nat.lt_irrefl _ (Nat.lt_of_lt_of_le (e ▸ I.lt) hf)
    · exact I.nofs hf e
  refine PySem.W.kla_eval hdef ?_
  rcases q : codeAmong pos ps.toList with _ | cv
  · refine PySem.W.kla_makeFunction (mg := X.mg) (c := c) (P := P) (ps := ps) (closure_ok hfree) I.ok.glob (I.mod.glob.keeps I.bk) hcode (TB.code.keeps I.bk) oP ht q TB.gP bP fun c' ctv h' tk hx hge hlt hrec htb => ?_
    obtain ⟨c2, oc, vs, t, e2, r1, r2, r3⟩ := hrec
    cases e2
    have hsz := Nat.le_trans hge (Nat.le_of_lt hlt)
    have nC : H c' = none := I.hok.fresh hge
    have J := LamX.inv_table (t' := tk) (more := #[rawInt pos.line, rawInt pos.col, .ref c']) (h' := h'.push (PySem.W.kla_obj "<lambda>" (X.env.qual ++ "<lambda>") params body scope (cloFrom X.env.cells scope.names []) ((X.mg "__name__").getD .none) c' ctv)) I hP
      (fun b o hb e => Heap.get?_push_of_some _ (hx b o hb e)) (Heap.get?_push_of_some _ htb) hge ⟨oc, vs, t, Heap.get?_push_of_some _ r1, r2, r3⟩
    have eN : LamX.ExtN H (upd (upd H P (.tbl (ps ++ #[rawInt pos.line, rawInt pos.col, .ref c']))) c' (LamX.CodeO c' (X.env.qual ++ "<lambda>"))) := by
      intro b o e n
      have nb : b ≠ P := fun z => n ps (Option.some.inj (e.symm.trans (by rw [z]; exact hP)))
      rw [upd_ne (ne_of_none e nC), upd_ne nb]; exact e
    have eL : (ps ++ #[rawInt pos.line, rawInt pos.col, .ref c']).toList = ps.toList ++ [rawInt pos.line, rawInt pos.col, .ref c'] := by simp
    refine h h'.objs.size c' ((X.mg "__name__").getD .none) ctv _ _ J eN (fun b hb => ?_) (fun p hp => ?_) (Heap.get?_push_size _ rfl) ?_ (out _ hsz) upd_same
    · by_cases h1 : b = c'
      · rw [h1, upd_same]; simp
      · rw [upd_ne h1]
        by_cases h2 : b = P
        · rw [h2, upd_same]; simp
        · rw [upd_ne h2]; exact hb
    · by_cases hb : p.1 = P
      · rw [hu p hp hb, hb]
        refine ⟨_, by rw [upd_ne (ne_of_none hP nC), upd_same], by rw [eL]; exact PySem.TriplesOk_snoc _ _ _ _ ht, fun p' cv hcv => ?_⟩
        rw [eL] at hcv
        rcases LamX.among_app _ ht hcv with z | z
        · obtain ⟨c0, e1, e2⟩ := ha p' cv z; exact ⟨c0, e1, eN _ _ e2 LamX.codeO_ne⟩
        · exact ⟨c', z, upd_same⟩
      · obtain ⟨ps', a1, a2, a3⟩ := hT p hp
        refine ⟨ps', by rw [upd_ne (ne_of_none a1 nC), upd_ne hb]; exact a1, a2, fun p' cv hcv => ?_⟩
        obtain ⟨c0, e1, e2⟩ := a3 p' cv hcv; exact ⟨c0, e1, eN _ _ e2 LamX.codeO_ne⟩
    · rw [upd_ne (Nat.ne_of_gt hlt), upd_ne (Nat.ne_of_gt (Nat.lt_of_lt_of_le (Heap.lt_size oP) hsz))]
      exact I.hok.fresh hsz
  · obtain ⟨c', e, hco⟩ := ha pos cv q
    subst e
    refine PySem.W.kla_makeFunctionHit (mg := X.mg) (c := c) (P := P) (ps := ps) (closure_ok hfree) I.ok.glob (I.mod.glob.keeps I.bk) hcode (TB.code.keeps I.bk) oP ht q bP fun ctv h' tk hx hsz => ?_
    exact h h'.objs.size c' ((X.mg "__name__").getD .none) ctv H _ (I.kept (t' := tk) fun b o e => Heap.get?_push_of_some _ (hx b o e)) (LamX.ExtN.refl H) (fun _ z => z) hT (Heap.get?_push_size _ rfl) (I.hok.fresh hsz) (out _ hsz) hco
end
theorem After.more {K : PySem.W.Frag} {mg : Str → Option Value} {E : XK} {r : Res D} {R R1 : List Addr} {G H G1 H1 : Hp} {Q : VK} (h : After K mg E (rIs K mg) r R G H Q) (e : Ext R G H R1 G1 H1) : After K mg E (rIs K mg) r R1 G1 H1 Q := by
  cases r with
  | ok d μ => exact fun w R' G' H' x => h w R' G' H' (e.trans x)
  | exc c fs μ => exact fun C dx xs R' G' H' x => h C dx xs R' G' H' (e.trans x)
  | stuck => exact h
section
variable {X : Cx} {W : WX}
/-- x(lambda: body), x a def of the program: mh is its body, told what the lambda is and what it computes -/
theorem e_lam {x a : Str} {st : Stmt} {g c P : Addr} {fd : FuncData} {Ng : List Str} {k : Nat} {params : Arguments} {body : Expr} {scope : Scope} {mb : Env' → M D} {mh : D → M D → Sm} {Fh : M D → M D} {p lpos pos : Pos}
    (Fu : Fun X.K x x st g fd) (hm : X.mg x = some (.ref g)) (hb : L2.Binds X.K fd [a] []) (Sg : FnScope Ng [a] (defScope st)) (hF : ∀ L th μ, bodyF 1 Ng.length (mh L th) [L] μ = Fh th μ)
    (hh : ∀ (L : D) (th : M D) (cdv : Value) (A : Around) (outer : List PySem.Env) (s : Shared) (H : Hp) (E : XK),
      (∀ (W : WX) (pn : List (Addr × Obj)) (xe : Value → Shared → Prop) (p1 p2 : Pos), Takes ((bX X.prog X.w X.K X.mg X.base Ng x (defScope st) g cdv A outer s H E).tr pn xe) W → E' ((bX X.prog X.w X.K X.mg X.base Ng x (defScope st) g cdv A outer s H E).tr pn xe) W (.Call (.Name a p1) [] [] p2) (callL L 0 th)) →
      RoomG (k + 1) (A.deeper (envOfC x (defScope st) s.heap.objs.size g cdv)) → Ss' (bX X.prog X.w X.K X.mg X.base Ng x (defScope st) g cdv A outer s H E) (fun cls d _ H' => E cls d H') (defBody st) (mh L th))
    (tk : Takes X W) (hg : Gl X x) (TB : LamX.TabB X.base X.mg c P) (hcode : X.env.code = .ref c) (hmT : (P, X.env.qual ++ "<lambda>") ∈ Tb.T) (hu : ∀ p ∈ Tb.T, p.1 = P → p.2 = X.env.qual ++ "<lambda>") (hr : RoomG (k + 2) X.A) (L : LamX.LamS X.env.scope scope) (hdef : defaultsOf params X.env = ([], []))
    (hbind : ∀ (q : Str) (cl : List (Str × Addr)) (pm cv ctv : Value), bindArgs (PySem.W.kla_fn "<lambda>" q params body scope cl pm cv ctv) ⟨[], []⟩ = pure [])
    (hbody : ∀ (A : Around) (outer : List PySem.Env) (s : Shared) (H : Hp) (E : XK) (f c' : Addr), RoomG k (A.deeper (LamX.lamEnv X scope s.heap.objs.size f c')) → E' (LamX.lamCx X A outer s H E scope f c') (fun cls d _ H' => E cls d H') body mb)
    (hdb : (x == ("__debug__" : Str)) = false := by decide) (hd : (a == ("__debug__" : Str)) = false := by decide) (hcd : (a == ("__classdict__" : Str)) = false := by decide) :
    E' X W (.Call (.Name x p) [.Lambda params body scope lpos] [] pos) (fun ρ => Fh (mb ρ)) := by
  constructor
  intro pins s σ H Q I h
  obtain ⟨R, G, ρ, μ, w, h⟩ := h
  have hNg : Ng[0]? = some a := by
    have e := congrArg (·[0]?) Sg.pre
    simpa [List.getElem?_take] using e
  have hva : Vis (defScope st) a := (Sg.par a (by simp)).elim Or.inl fun z => Or.inr (Or.inl z)
  refine wpAny_Call_Name_kw (ld_glob I hg hm ?_ hdb)
  refine PySem.W.callWith_K (h₀ := X.base) I.ok.mod.kin Fu.kp ?_ (by rfl) (by rfl)
  show wpAny _ _ (spliced ((false, eval (.Lambda params body scope lpos) X.env) :: backTo pos (starEach [] X.env))) _ _ s
  refine Calls.spliced_cons (lam_mk I TB hcode hmT hu w.tb hdef (L.has I.ok) fun f c' pm' ctv H1 s' I1 eN th T1 hf hfn hfr hco => ?_)
  refine Calls.spliced_nil ⟨I1.kIn, ?_⟩
  -- the world behind the making
  have gN : ∀ b o, G b = some o → H1 b = some o := fun b o e => eN b o (w.s b o e) fun ps z => by subst z; have := (w.cl b _ e).1; cases this
  have gC : ∀ o, G c' = some o → o = LamX.CodeO c' (X.env.qual ++ "<lambda>") := fun o e => Option.some.inj ((gN c' o e).symm.trans hco)
  have rN : ∀ b ∈ R, ∃ o, H b = some o ∧ H1 b = some o ∧ ¬ isC o := fun b hb => by
    obtain ⟨o, h1, h2, h3⟩ := w.mu.hard b hb
    exact ⟨o, h1, eN b o h1 (fun ps z => by subst z; cases h2), h3⟩
  have cR : c' ∉ R := fun z => by
    obtain ⟨o, _, h2, h3⟩ := rN c' z
    exact h3 ⟨_, _, Option.some.inj (h2.symm.trans hco)⟩
  have x1 : Ext R G H R (upd G c' (LamX.CodeO c' (X.env.qual ++ "<lambda>"))) H1 := by
    refine ⟨⟨[], by simp⟩, fun b o e => ?_, fun b o e => ?_, fun b o e => ?_, fun b o e ht _ => eN b o e fun ps z => by subst z; (cases ht), th, fun b e => ?_, fun a ha => .inl ha, fun _ => T1⟩
    · by_cases hb : b = c'
      · subst hb; rw [upd_same, gC o e]
      · rw [upd_ne hb]; exact e
    · by_cases hb : b = c'
      · subst hb; rw [upd_same] at e; cases e; exact hco
      · rw [upd_ne hb] at e; exact gN b o e
    · by_cases hb : b = c'
      · subst hb; rw [upd_same] at e; cases e; exact ⟨rfl, cR⟩
      · rw [upd_ne hb] at e; exact w.cl b o e
    · by_cases hb : b = c'
      · subst hb; exact .inr (.inr ⟨_, upd_same, _, _, rfl⟩)
      · rw [upd_ne hb] at e; exact .inl e
  have mu1 : MuIs X.K X.mg R (upd G c' (LamX.CodeO c' (X.env.qual ++ "<lambda>"))) H1 μ := ⟨w.mu.len, w.mu.nd, fun i a m h1 h2 => by
    obtain ⟨o, k1, k2, _⟩ := rN a (List.mem_of_getElem? h1)
    exact (w.mu.at_ i a m h1 h2).mono x1.g (fun _ _ h => h) (k2.trans k1.symm)⟩
  have w1 := w.ext x1 mu1
  have iL : Is X.K X.mg R (upd G c' (LamX.CodeO c' (X.env.qual ++ "<lambda>"))) (.ref f) (.lam f c' (X.env.qual ++ "<lambda>") (capV σ ρ) (capD ρ)) := .lam upd_same (cap_is w1.env)
  obtain ⟨oc, od, kV, doc, pm, an, cdv, ct, osl, rfl, lk, hcv⟩ := Fu.ex
  have rc : codeAny (model X.prog X.w) X.A (.call (.ref g) ⟨[.ref f], []⟩) (CR (L2.CX X.prog X.w) X.stack X.prog X.w H1 s' Q (WE W σ)) s' := by
    refine LamX.run_ofS (N := Ng) (ps := [a]) (us := [.ref f]) (vs := [.ref f]) lk hcv Sg hr.r I1.env0 (hb s' [.ref f] I1.kIn rfl) (.cons rfl .nil) rfl fun _ => ?_
    obtain ⟨_, a1⟩ := body_aft (np := 1) (n := Ng.length) (m := mh _ (mb ρ)) (ds := [_]) (by rw [hF (.lam f c' (X.env.qual ++ "<lambda>") (capV σ ρ) (capD ρ)) (mb ρ) μ]; exact h.more x1)
    refine ⟨_, hh _ _ cdv X.A X.stack s' H1 (WE W σ) (fun W' pn xe p1 p2 tk' => ?_) (hr.deeper _), [], R, _, _, μ, start_sti (ps := [a]) w1.s w1.cl w1.tb (.cons iL .nil) rfl (pre_le Sg), mu1, a1⟩
    exact e_act (k := k) I1 L hf hfn hfr (hbind _ _ _ _ _) tk' (hr.deeper _) (fun A outer s H E hr2 => hbody A outer s H E f c' hr2) hNg hva w.env.bnd hd hcd
  refine wpAny_call (codeAny_mono rc fun r s2 hq => ?_)
  cases r with
  | error e => exact passAt tk σ pins H1 s' e s2 I1 hq
  | ok fl =>
    cases fl with
    | ret u => exact I1.after hq
    | next => exact False.elim hq
    | brk => exact False.elim hq
    | cont => exact False.elim hq
end
/-- a def whose code object is known, since it makes lambdas -/
theorem fnG_ofC {P : Program} {w : World} {K : PySem.W.Frag} {mg : Str → Option Value} {base : Heap} {x qual : Str} {st : Stmt} {f : Addr} {oc : Value} {od an : Option Addr} {osl : Array (Option Value)} {kV doc pm cdv ct : Value} {N ps : List Str} {k : Nat} {m : Sm}
    (lk : K.lookup f = some ⟨oc, od, .func (PySem.W.fnOf x qual (defArgs st) (defBody st) (defScope st) .none kV doc pm an cdv ct), osl⟩) (hcd : PySem.W.codeIn K cdv qual = true) (S : FnScope N ps (defScope st))
    (hbody : ∀ (A : Around) (outer : List PySem.Env) (s : Shared) (H : Hp) (E : XK), RoomG k (A.deeper (envOfC qual (defScope st) s.heap.objs.size f cdv)) →
      Ss' (bX P w K mg base N qual (defScope st) f cdv A outer s H E) (fun cls d _ H' => E cls d H') (defBody st) m) : FnG P w K mg base (k + 1) f (PySem.W.fnOf x qual (defArgs st) (defBody st) (defScope st) .none kV doc pm an cdv ct) ps (bodyF ps.length N.length m) where
  len := fun ds μ h => by
    unfold bodyF at h
    split at h
    · assumption
    · exact absurd rfl h
  run := fun A outer s H args us vs Q E R G μ ds hr e0 hb r sb cl mu tb i h => by
    obtain ⟨hl, a⟩ := body_aft h
    exact LamX.run_ofS lk hcd S hr.r e0 hb r (i.length.trans hl) fun _ => ⟨_, hbody A outer s H E (hr.deeper _), [], R, G, _, μ, start_sti sb cl tb i hl (pre_le S), mu, a⟩
/-- what the text says of a def that makes lambdas: its code object at c -/
def WrC (K : PySem.W.Frag) (mg : Str → Option Value) (x : Str) (st : Stmt) (ps : List Str) (c : Addr) : Prop := ∃ (f : Addr) (oc : Value) (od : Option Addr) (kV doc pm : Value) (an : Option Addr) (ct : Value) (osl : Array (Option Value)), mg x = some (.ref f) ∧ PySem.W.keepIn K (.ref f) = true ∧
  K.lookup f = some ⟨oc, od, .func (PySem.W.fnOf x x (defArgs st) (defBody st) (defScope st) .none kV doc pm an (.ref c) ct), osl⟩ ∧ PySem.W.codeIn K (.ref c) x = true ∧ L2.Binds K (PySem.W.fnOf x x (defArgs st) (defBody st) (defScope st) .none kV doc pm an (.ref c) ct) ps []
theorem has_ofC {P : Program} {w : World} {K : PySem.W.Frag} {mg : Str → Option Value} {base : Heap} {x : Str} {st : Stmt} {N ps : List Str} {k : Nat} {m : Sm} {c : Addr} (W : WrC K mg x st ps c) (S : FnScope N ps (defScope st))
    (hbody : ∀ (f : Addr) (A : Around) (outer : List PySem.Env) (s : Shared) (H : Hp) (E : XK), RoomG k (A.deeper (envOfC x (defScope st) s.heap.objs.size f (.ref c))) →
      Ss' (bX P w K mg base N x (defScope st) f (.ref c) A outer s H E) (fun cls d _ H' => E cls d H') (defBody st) m) : Has P w K mg base x (k + 1) ps (bodyF ps.length N.length m) := by
  obtain ⟨f, oc, od, kV, doc, pm, an, ct, osl, h1, h2, h3, h4, h5⟩ := W
  exact ⟨f, _, h1, h2, h5, fnG_ofC h3 h4 S (hbody f)⟩
end DX
set_option Elab.async false
set_option linter.all false
set_option maxRecDepth 100000
set_option maxHeartbeats 4000000
/-! DP: dicts; objects under handles -/
namespace DX
open PySem PySem.Spec PyProof.Rows L2
variable [Tb]

section
variable {κ : Type} [DecidableEq κ]
def valD (kvs : List (κ × D)) (k : κ) : Option D := match kvs with
  | [] => none
  | (a, d) :: r => if a = k then some d else valD r k
def hasD (kvs : List (κ × D)) (k : κ) : Bool := match kvs with
  | [] => false
  | (a, _) :: r => if a = k then true else hasD r k
def repD (kvs : List (κ × D)) (k : κ) (d : D) : List (κ × D) := match kvs with
  | [] => []
  | (a, e) :: r => (a, if a = k then d else e) :: repD r k d
def putD (kvs : List (κ × D)) (k : κ) (d : D) : List (κ × D) := if hasD kvs k = true then repD kvs k d else kvs ++ [(k, d)]
variable {K : PySem.W.Frag} {mg : Str → Option Value} {R : List Addr} {G : Hp}
theorem val_is {k : κ} {d : D} : ∀ {xs : List (κ × V)} {ds : List (κ × D)}, xs.map (·.1) = ds.map (·.1) → IsAll K mg R G (xs.map (·.2)) (ds.map (·.2)) → valD ds k = some d → ∃ v, valV xs k = some v ∧ Is K mg R G v d
  | [], [], _, _, e => by cases e
  | [], _ :: _, h, _, _ => by simp at h
  | _ :: _, [], h, _, _ => by simp at h
  | (a, v) :: xs, (b, d') :: ds, h, i, e => by
    simp only [List.map_cons, List.cons.injEq] at h i
    obtain ⟨rfl, h2⟩ := h
    cases i with
    | cons i1 i2 =>
      unfold valD at e
      by_cases q : a = k
      · rw [if_pos q] at e; cases e; exact ⟨v, valV_pos q, i1⟩
      · rw [if_neg q] at e
        obtain ⟨v', e1, i'⟩ := val_is h2 i2 e
        exact ⟨v', (valV_neg q).trans e1, i'⟩
theorem has_any {k : κ} : ∀ {xs : List (κ × V)} {ds : List (κ × D)}, xs.map (·.1) = ds.map (·.1) → (xs.any fun kv => decide (kv.1 = k)) = hasD ds k
  | [], [], _ => rfl
  | [], _ :: _, h => by simp at h
  | _ :: _, [], h => by simp at h
  | (a, v) :: xs, (b, d') :: ds, h => by
    simp only [List.map_cons, List.cons.injEq] at h
    obtain ⟨rfl, h2⟩ := h
    unfold hasD
    rw [List.any_cons, has_any h2]
    by_cases q : a = k <;> simp [q]
theorem rep_is {k : κ} {v : V} {d : D} (iv : Is K mg R G v d) : ∀ {xs : List (κ × V)} {ds : List (κ × D)}, xs.map (·.1) = ds.map (·.1) → IsAll K mg R G (xs.map (·.2)) (ds.map (·.2)) →
    (xs.map fun kv => if kv.1 = k then (kv.1, v) else kv).map (·.1) = (repD ds k d).map (·.1) ∧ IsAll K mg R G ((xs.map fun kv => if kv.1 = k then (kv.1, v) else kv).map (·.2)) ((repD ds k d).map (·.2))
  | [], [], _, _ => ⟨rfl, .nil⟩
  | [], _ :: _, h, _ => by simp at h
  | _ :: _, [], h, _ => by simp at h
  | (a, w) :: xs, (b, d') :: ds, h, i => by
    simp only [List.map_cons, List.cons.injEq] at h i
    obtain ⟨rfl, h2⟩ := h
    cases i with
    | cons i1 i2 =>
      obtain ⟨e1, e2⟩ := rep_is iv h2 i2
      unfold repD
      by_cases q : a = k
      · simp only [List.map_cons, if_pos q]
        exact ⟨by rw [e1], .cons iv e2⟩
      · simp only [List.map_cons, if_neg q]
        exact ⟨by rw [e1], .cons i1 e2⟩
theorem put_is {k : κ} {v : V} {d : D} {xs : List (κ × V)} {ds : List (κ × D)} (iv : Is K mg R G v d) (h : xs.map (·.1) = ds.map (·.1)) (i : IsAll K mg R G (xs.map (·.2)) (ds.map (·.2))) :
    (putK xs k v).map (·.1) = (putD ds k d).map (·.1) ∧ IsAll K mg R G ((putK xs k v).map (·.2)) ((putD ds k d).map (·.2)) := by
  unfold putK putD
  rw [has_any h]
  by_cases q : hasD ds k = true
  · rw [if_pos q, if_pos q]
    exact rep_is iv h i
  · rw [if_neg q, if_neg q]
    simp only [List.map_append, List.map_cons, List.map_nil]
    exact ⟨by rw [h], i.append (.cons iv .nil)⟩
end
def dKey : D → Option Key
  | .int i => some (.inl i)
  | .str x => some (.inr x)
  | _ => none
theorem key_is {K : PySem.W.Frag} {mg : Str → Option Value} {R : List Addr} {G : Hp} {v : V} {d : D} {k : Key} (i : Is K mg R G v d) (e : dKey d = some k) : v = kV k := by
  cases i with
  | int j => cases e; rfl
  | str x => cases e; rfl
  | _ => cases e

/-! ### reading -/
def dIxM (x y : D) : M D := fun μ => match x with
  | .hnd n => match (μ[n]? : Option Mob), dKey y with
    | some (.dic kvs), some k => match valD kvs k with
      | some d => .ok d μ
      | none => .stuck
    | _, _ => .stuck
  | .dic kvs => match dKey y with
    | some k => liftO (valD kvs k) μ
    | none => .stuck
  | _ => liftO (dIx x y) μ
/-- the value of a subscript, by what is known of the world -/
def rDM (K : PySem.W.Frag) (mg : Str → Option Value) (g : D → D → M D) : R2 := fun x y H Q => ∃ R G μ d e, W0 R G H ∧ MuIs K mg R G H μ ∧ Is K mg R G x d ∧ Is K mg R G y e ∧ After K mg (fun _ _ _ => False) (rIs K mg) (g d e μ) R G H Q
section
variable {X : Cx} {W : WX} {a b : Expr} {pos : Pos}
theorem ix_dget (hu : X.A.units + 1 < cLine) : IxR X (fun x y H Q => ∃ (p : Addr) (v : V), x = .ref p ∧ DGet H p y (some v) ∧ Q v H) := by
  intro value slice pins s σ H x y v u Q I rx ry h hs
  obtain ⟨p, z, rfl, g, q⟩ := h
  cases rx
  exact tail_any (dict_typeIs I g) slot_dict_getitem.lookup (d_getItem hu I g ry fun w' s' I' r' => ⟨z, H, I', r', q⟩) hs
theorem after_o {K : PySem.W.Frag} {mg : Str → Option Value} {E : XK} {o : Option D} {μ : List Mob} {R : List Addr} {G H : Hp} {Q : VK} (h : After K mg E (rIs K mg) (liftO o μ) R G H Q) : ∃ d, o = some d ∧ After K mg E (rIs K mg) (.ok d μ) R G H Q := by
  cases o with
  | none => exact h.elim
  | some d => exact ⟨d, rfl, h⟩
theorem ix_dM (hr : Gd X.A) : IxR X (rDM X.K X.mg dIxM) := by
  intro value slice pins s σ H x y v u Q I rx ry h hs
  have hu : X.A.units + 1 < cLine := by have := hr.un; omega
  obtain ⟨R, G, μ, d, e, w, mu, i1, i2, q⟩ := h
  unfold dIxM at q
  cases i1 with
  | @hnd a n hR =>
    simp only at q
    split at q
    · rename_i kvs k hm hk
      split at q
      · rename_i d hv
        have hy := key_is i2 hk
        subst hy
        obtain ⟨xs, h1, h2, h3⟩ := mu.at_ n a _ hR hm
        obtain ⟨v', e1, i'⟩ := val_is h2 h3 hv
        exact ix_dget hu value slice pins s σ H _ _ v u Q I rx ry ⟨a, v', rfl, by rw [← e1]; exact DGet.k h1, q v' R G H (.refl w.s w.cl) i' mu⟩ hs
      · exact q.elim
    · exact q.elim
  | @dic a xs kvs h1 h2 h3 =>
    simp only at q
    split at q
    · rename_i k hk
      obtain ⟨d, hv, q⟩ := after_o q
      have hy := key_is i2 hk
      subst hy
      obtain ⟨v', e1, i'⟩ := val_is h2 h3 hv
      exact ix_dget hu value slice pins s σ H _ _ v u Q I rx ry ⟨a, v', rfl, by rw [← e1]; exact DGet.k (w.s _ _ h1), q v' R G H (.refl w.s w.cl) i' mu⟩ hs
    · exact q.elim
  | ex0 h1 h2 =>
    obtain ⟨d, hv, q⟩ := after_o q
    refine ix_d value slice pins s σ H _ _ v u Q I rx ry ⟨R, G, _, _, d, w, .ex0 h1 h2, i2, hv, fun v' G' H' gr i' => q v' R G' H' gr.e i' (gr.mu mu)⟩ hs
  | _ =>
    obtain ⟨d, hv, q⟩ := after_o q
    refine ix_d value slice pins s σ H _ _ v u Q I rx ry ⟨R, G, _, _, d, w, by constructor <;> assumption, i2, hv, fun v' G' H' gr i' => q v' R G' H' gr.e i' (gr.mu mu)⟩ hs
theorem noE {K : PySem.W.Frag} {mg : Str → Option Value} {E : XK} {r : Res D} {R : List Addr} {G H : Hp} {Q : VK} (ne : ∀ c fs μ, r ≠ .exc c fs μ) (h : After K mg E (rIs K mg) r R G H Q) : After K mg (fun _ _ _ => False) (rIs K mg) r R G H Q := by
  cases r with
  | ok d μ => exact h
  | exc c fs μ => exact absurd rfl (ne c fs μ)
  | stuck => exact h
theorem liftO_ne {o : Option D} {μ : List Mob} (c fs μ') : liftO o μ ≠ .exc c fs μ' := by cases o <;> exact nofun
theorem dIxM_ne {x y : D} {μ : List Mob} (c fs μ') : dIxM x y μ ≠ .exc c fs μ' := by
  unfold dIxM
  split
  · split
    · split <;> exact nofun
    · exact nofun
  · split
    · exact liftO_ne c fs μ'
    · exact nofun
  · exact liftO_ne c fs μ'
theorem e_ixM {m n : Env' → M D} (hr : Gd X.A) (ha : E' X W a m) (hb : E' X W b n) (hs : PlainIx b := by intro _ _; rfl) : E' X W (.Subscript a b pos) (fun ρ => M.bind (m ρ) fun x => M.bind (n ρ) fun y => dIxM x y) :=
  PE.weak (pe_ix (ix_dM hr) ha hb hs) fun σ H Q h => by
    obtain ⟨R, G, ρ, μ, w, h⟩ := tD.bind (rel := rIs X.K X.mg) h
    refine ⟨R, G, ρ, μ, w, h.imp fun v H1 ⟨R1, G1, ρ1, μ1, d, w1, i1, q1⟩ => ⟨R1, G1, ρ1, μ1, w1, (After.bind (rel := rIs X.K X.mg) q1).imp fun u H2 ⟨R2, G2, e, μ2, x2, i2, m2, q2⟩ => ?_⟩⟩
    exact ⟨R2, G2, μ2, d, e, (w1.ext x2 m2).w0, m2, i1.mono x2.g x2.idx, i2, noE (fun c fs μ' => dIxM_ne c fs μ') q2⟩

/-! ### writing -/
/-- what stands under the handle n is exchanged -/
theorem ext_hnd {K : PySem.W.Frag} {mg : Str → Option Value} {R : List Addr} {G H : Hp} {μ : List Mob} {n : Nat} {a : Addr} {m m' : Mob} {o : HO} (s : Sub G H) (cl : ∀ b o, G b = some o → tbl? o = false ∧ b ∉ R) (mu : MuIs K mg R G H μ) (hR : R[n]? = some a) (hm : μ[n]? = some m)
    (ob : ObIs K mg R G (upd H a o) a m') : Ext R G H R G (upd H a o) ∧ MuIs K mg R G (upd H a o) (μ.set n m') := by
  have aR := List.mem_of_getElem? hR
  have oa := mu.at_ n a m hR hm
  refine ⟨⟨⟨[], by simp⟩, .refl _, fun b u e => ?_, cl, fun b u e _ hb => ?_, fun b hb => ?_, fun b h => .inl h, fun _ h => .inl h, fun t => tabs_keep (p := a) t (fun b u hb h => by rw [upd_ne hb]; exact h) oa.notX⟩, by simp [mu.len], mu.nd, fun i b x h1 h2 => ?_⟩
  · rw [upd_ne fun z => (cl b u e).2 (by rw [z]; exact aR)]; exact s b u e
  · rw [upd_ne fun z => hb (by rw [z]; exact aR)]; exact e
  · by_cases z : b = a
    · rw [z, upd_same]; simp
    · rw [upd_ne z]; exact hb
  · by_cases hi : n = i
    · subst hi
      have hl : n < μ.length := (List.getElem?_eq_some_iff.mp hm).1
      rw [List.getElem?_set_self hl] at h2
      cases h2
      rw [hR] at h1
      cases h1
      exact ob
    · rw [List.getElem?_set_ne hi] at h2
      have hba : b ≠ a := fun z => hi (by
        subst z
        obtain ⟨l1, e1⟩ := List.getElem?_eq_some_iff.mp h1
        obtain ⟨l2, e2⟩ := List.getElem?_eq_some_iff.mp hR
        exact (List.getElem_inj mu.nd).mp (e2.trans e1.symm))
      exact (mu.at_ i b x h1 h2).mono (.refl _) (fun _ _ h => h) (upd_ne hba)
def dPutM (v x y : D) : M Unit := fun μ => match x, dKey y with
  | .hnd n, some k => match (μ[n]? : Option Mob) with
    | some (.dic kvs) => if kvs.length < 16777216 then .ok () (μ.set n (.dic (putD kvs k v))) else .stuck
    | _ => .stuck
  | _, _ => .stuck
end
section
variable {X : Cx} {W : WX} {o i e : Expr} {pos pos' : Pos}
def sPutM (mv mo mi : Env' → M D) : Sm := sH (fun ρ => M.bind (mv ρ) fun v => M.bind (mo ρ) fun x => M.bind (mi ρ) fun y => dPutM v x y) fun _ ρ μ => .nx ρ μ
theorem s_putM {mv mo mi : Env' → M D} (hr : Gd X.A) (hv : E' X W e mv) (ho : E' X W o mo) (hi : E' X W i mi) (hs : swapsWith e (some (.Subscript o i pos')) pos.line X.env = pure false := by rfl) :
    S' X W (.Assign [.Subscript o i pos'] e pos) (sPutM mv mo mi) :=
  PS.weak (ps_dput (by have := hr.un; omega) ho hi hv hs) fun E σ H ⟨O, R, G, ρ, μ, w, mu, a⟩ => by
    obtain ⟨R0, G0, ρ0, μ0, w0, q⟩ := stepH (rel := (rEq : Rl Unit Unit)) w mu a
    refine ⟨R0, G0, ρ0, μ0, w0, (After.bind (rel := rIs X.K X.mg) q).imp fun v H1 ⟨R1, G1, dv, μ1, x1, i1, m1, q1⟩ => ⟨R1, G1, ρ0, μ1, w0.ext x1 m1, (After.bind (rel := rIs X.K X.mg) q1).imp fun x H2 ⟨R2, G2, dx, μ2, x2, i2, m2, q2⟩ => ⟨R2, G2, ρ0, μ2, (w0.ext x1 m1).ext x2 m2, (After.bind (rel := rIs X.K X.mg) q2).imp fun y H3 ⟨R3, G3, dy, μ3, x3, i3, m3, q3⟩ => ?_⟩⟩⟩
    have w3 := ((w0.ext x1 m1).ext x2 m2).ext x3 m3
    have iv := (i1.mono x2.g x2.idx).mono x3.g x3.idx
    have ix := i2.mono x3.g x3.idx
    unfold dPutM at q3
    cases hk : dKey dy with
    | none => rw [hk] at q3; cases dx <;> exact q3.elim
    | some k =>
    rw [hk] at q3
    cases ix with
    | @hnd a n hR =>
      simp only at q3
      split at q3
      · rename_i kvs hm
        split at q3
        · rename_i hl
          · obtain ⟨xs, h1, h2, h3⟩ := m3.at_ n a _ hR hm
            have hy := key_is i3 hk
            subst hy
            obtain ⟨p1, p2⟩ := put_is (k := k) iv h2 h3
            obtain ⟨xe, mue⟩ := ext_hnd (o := .dK (putK xs k v)) (m' := .dic (putD kvs k dv)) w3.s w3.cl m3 hR hm ⟨_, upd_same, p1, p2⟩
            have hlen : xs.length < sizeLine := by
              have := congrArg List.length h2
              simp only [List.length_map] at this
              rw [sizeLine_eq, this]
              exact hl
            obtain ⟨R4, G4, d4, μ4, x4, e4, w4, mu4, k4⟩ := q3 () R3 G3 _ xe rfl mue
            exact ⟨a, _, rfl, DPut.k h1 hlen, k4 O R4 G4 _ σ x4.toS w4 mu4⟩
        · exact q3.elim
      · exact q3.elim
    | _ => exact q3.elim
end
end DX
set_option Elab.async false
set_option linter.all false
set_option maxRecDepth 100000
set_option maxHeartbeats 4000000
/-! DQ: several names at once, dict displays, new handles, calls of what a variable holds -/
namespace DX
open PySem PySem.Spec PyProof.Rows L2
variable [Tb]

section
variable {X : Cx} {W : WX} {a b c e : Expr} {es : List Expr} {pos px py pz pt : Pos} {kt : Nat} {i j l : Nat} {x y z : Str}
def sPar2H (i j : Nat) (m : Env' → M (List D)) : Sm := sH m fun ds ρ μ => match ds with
  | [d1, d2] => .nx ((ρ.set i (.fr d1)).set j (.fr d2)) μ
  | _ => .stuck
theorem s_par2H (i j : Nat) {m : Env' → M (List D)} {kt k2 pt2} (hc : X.calm = true) (hN : X.N.Nodup) (hi : X.N[i]? = some x) (hj : X.N[j]? = some y) (hij : i ≠ j) (hx : X.env.scope.names.lookup x = some .local) (hy : X.env.scope.names.lookup y = some .local) (ha : A' X W [a, b] m)
    (hw : swappedStores [.Tuple [.Name x px, .Name y py] kt pt] (.Tuple [a, b] k2 pt2) X.env = pure (some [x, y]) := by rfl) (hs : swapsWithSole [.Tuple [.Name x px, .Name y py] kt pt] (.Tuple [a, b] k2 pt2) pos.line X.env = pure false := by rfl) :
    S' X W (.Assign [.Tuple [.Name x px, .Name y py] kt pt] (.Tuple [a, b] k2 pt2) pos) (sPar2H i j m) :=
  PS.weak (ps_par hc hN hi hj hij hx hy ha hw hs) fun E σ H ⟨O, R, G, ρ, μ, w, mu, q⟩ => by
    obtain ⟨R0, G0, ρ0, μ0, w0, q⟩ := stepH (rel := rAll X.K X.mg) w mu q
    refine ⟨R0, G0, ρ0, μ0, w0, q.imp fun vs H1 ⟨R1, G1, ds, μ1, x1, r, w1, mu1, k⟩ => ?_⟩
    match ds, r, k with
    | [d1, d2], .cons r1 (.cons r2 .nil), k => exact ⟨_, _, rfl, k O R1 G1 H1 _ x1.toS ((w1.set i r1).set j r2) mu1⟩
    | [], _, k => exact k.elim
    | [_], _, k => exact k.elim
    | _ :: _ :: _ :: _, _, k => exact k.elim
def sPar3H (i j l : Nat) (m : Env' → M (List D)) : Sm := sH m fun ds ρ μ => match ds with
  | [d1, d2, d3] => .nx (((ρ.set i (.fr d1)).set j (.fr d2)).set l (.fr d3)) μ
  | _ => .stuck
theorem s_par3H (i j l : Nat) {m : Env' → M (List D)} {kt k2 pt2} (hc : X.calm = true) (hN : X.N.Nodup) (hi : X.N[i]? = some x) (hj : X.N[j]? = some y) (hl : X.N[l]? = some z) (hij : i ≠ j) (hil : i ≠ l) (hjl : j ≠ l) (hx : X.env.scope.names.lookup x = some .local) (hy : X.env.scope.names.lookup y = some .local)
    (hz : X.env.scope.names.lookup z = some .local) (ha : A' X W [a, b, c] m) (hw : swappedStores [.Tuple [.Name x px, .Name y py, .Name z pz] kt pt] (.Tuple [a, b, c] k2 pt2) X.env = pure (some [x, y, z]) := by rfl)
    (hs : swapsWithSole [.Tuple [.Name x px, .Name y py, .Name z pz] kt pt] (.Tuple [a, b, c] k2 pt2) pos.line X.env = pure false := by rfl) : S' X W (.Assign [.Tuple [.Name x px, .Name y py, .Name z pz] kt pt] (.Tuple [a, b, c] k2 pt2) pos) (sPar3H i j l m) :=
  PS.weak (ps_par3 hc hN hi hj hl hij hil hjl hx hy hz ha hw hs) fun E σ H ⟨O, R, G, ρ, μ, w, mu, q⟩ => by
    obtain ⟨R0, G0, ρ0, μ0, w0, q⟩ := stepH (rel := rAll X.K X.mg) w mu q
    refine ⟨R0, G0, ρ0, μ0, w0, q.imp fun vs H1 ⟨R1, G1, ds, μ1, x1, r, w1, mu1, k⟩ => ?_⟩
    match ds, r, k with
    | [d1, d2, d3], .cons r1 (.cons r2 (.cons r3 .nil)), k => exact ⟨_, _, _, rfl, k O R1 G1 H1 _ x1.toS (((w1.set i r1).set j r2).set l r3) mu1⟩
    | [], _, k => exact k.elim
    | [_], _, k => exact k.elim
    | [_, _], _, k => exact k.elim
    | _ :: _ :: _ :: _ :: _, _, k => exact k.elim
end

/-! ### dict displays with constant keys -/
def zipK (ks : List Key) (vs : List V) : List (Key × V) := ks.zip vs
abbrev P' (X : Cx) (W : WX) (pos : Pos) (keys : List (Option Expr)) (values : List Expr) (ks : List Key) (m : Env' → M (List D)) : Prop :=
  ks.length = keys.length ∧ ∃ trs, PPs X pos keys values trs ∧ ∀ σ H Q, tD X.K X.mg W (rAll X.K X.mg) m σ H (fun vs H' => Q ((ks.zip vs).map fun kv => (kV kv.1, kv.2)) H') → tPairs trs σ H Q
section
variable {X : Cx} {W : WX} {e : Expr} {pos p : Pos} {keys : List (Option Expr)} {values : List Expr} {ks : List Key}
theorem p_nil : P' X W pos [] [] [] (fun _ => M.pure []) := ⟨rfl, [], pps_nil, fun σ H Q ⟨R, G, ρ, μ, w, h⟩ => h [] R G H (.refl w.s w.cl) .nil w.mu⟩
theorem p_str {x : Str} {j : Nat} {m : Env' → M D} {ms : Env' → M (List D)} (he : E' X W e m) (hr : P' X W pos keys values ks ms) :
    P' X W pos (some (.Constant (.str x) j p) :: keys) (e :: values) (.inr x :: ks) (fun ρ => M.bind (m ρ) fun d => M.bind (ms ρ) fun ds => M.pure (d :: ds)) := by
  obtain ⟨hl, trs, h1, h2⟩ := hr
  refine ⟨by simp [hl], _, pps_cons (pe_str (x := x)) he h1, fun σ H Q h => ?_⟩
  refine (show tC (.str x) σ H _ from ?_)
  obtain ⟨R, G, ρ, μ, w, h⟩ := tD.bind (rel := rIs X.K X.mg) h
  refine ⟨R, G, ρ, μ, w, h.imp fun v H1 ⟨R1, G1, ρ1, μ1, d, w1, i1, q1⟩ => h2 σ H1 _ ⟨R1, G1, ρ1, μ1, w1, (After.bind (rel := rAll X.K X.mg) q1).imp fun vs H2 ⟨R2, G2, ds, μ2, x2, i2, m2, q2⟩ => ?_⟩⟩
  exact pure_after (v := v :: vs) q2 (w1.ext x2 m2).w0 m2 (.cons (i1.mono x2.g x2.idx) i2)
theorem merge_id : ∀ {more kvs : List (Key × V)}, ((kvs ++ more).map (·.1)).Nodup → mergeK kvs more = kvs ++ more
  | [], kvs, _ => by simp [mergeK]
  | p :: r, kvs, h => by
    have hp : (kvs.any fun kv => decide (kv.1 = p.1)) = false := by
      rw [List.any_eq_false]
      intro q hq
      simp only [decide_eq_true_eq]
      intro z
      rw [List.map_append, List.nodup_append] at h
      exact h.2.2 q.1 (List.mem_map.mpr ⟨q, hq, rfl⟩) p.1 (by simp) z
    have e : putK kvs p.1 p.2 = kvs ++ [p] := by
      unfold putK
      rw [hp]
      simp
    show mergeK (putK kvs p.1 p.2) r = _
    rw [e, merge_id (by simpa using h)]
    simp
def dDic (ks : List Key) (ds : List D) : Option D := if ds.length = ks.length then some (.dic (ks.zip ds)) else none
theorem f_dic {m : Env' → M (List D)} (h : P' X W pos keys values ks m) (hn : ks.Nodup) (hall : keys.all (·.isSome) = true) (hl : keys.length = values.length) (h0 : keys ≠ []) (h15 : keys.length ≤ 15) :
    F' X W (.Dict keys values pos) (fun ρ => M.bind (m ρ) fun ds => liftO (dDic ks ds)) := by
  obtain ⟨hk, trs, h1, h2⟩ := h
  refine PE.weak (pe_disp h1 hall hl h0 h15) fun σ H Q h => ?_
  intro p hp
  obtain ⟨R, G, ρ, μ, w, h⟩ := h
  obtain ⟨gp, nR⟩ := w.w0.no hp
  have x0 : Ext R G H R G (upd H p (.dK [])) := Ext.upd (.refl w.s w.cl) hp gp fun u z => by rw [hp] at z; cases z
  have w0 : Wd X.K X.mg R G (upd H p (.dK [])) σ ρ μ := ⟨x0.s, w.cl, w.env, w.mu.upd nR, x0.t w.tb⟩
  refine h2 σ _ _ ⟨R, G, ρ, μ, w0, ?_⟩
  have hb := After.bind (rel := rAll X.K X.mg) (rel' := rFr X.K X.mg) h
  have up : After X.K X.mg (fun cls d H' => W cls d σ H') (rAll X.K X.mg) (m ρ μ) R G (upd H p (.dK [])) fun vs H1 => ∃ R1 G1 ds μ1, Ext R G (upd H p (.dK [])) R1 G1 H1 ∧ IsAll X.K X.mg R1 G1 vs ds ∧ MuIs X.K X.mg R1 G1 H1 μ1 ∧
      After X.K X.mg (fun cls d H' => W cls d σ H') (rFr X.K X.mg) (liftO (dDic ks ds) μ1) R G H Q := by
    have h : After X.K X.mg (fun cls d H' => W cls d σ H') (rFr X.K X.mg) (M.bind (m ρ) (fun ds => liftO (dDic ks ds)) μ) R G H Q := h
    unfold M.bind at h
    cases q : m ρ μ with
    | ok ds μ1 => rw [q] at h; exact fun vs R1 G1 H1 x1 i mu => ⟨R1, G1, ds, μ1, x1, i, mu, h⟩
    | exc c fs μ1 => rw [q] at h; exact fun C dx xs R1 G1 H1 x1 => h C dx xs R1 G1 H1 (x0.trans x1)
    | stuck => rw [q] at h; exact h
  refine up.imp fun vs H1 ⟨R1, G1, ds, μ1, x1, i, mu1, q⟩ => ?_
  unfold dDic at q
  split at q
  · rename_i hlen
    have hv : vs.length = ks.length := i.length.trans hlen
    have h1p : H1 p = some (.dK []) := x1.k p _ upd_same rfl nR
    have hkeys : (ks.zip vs).map (·.1) = ks := List.map_fst_zip (by omega)
    refine ⟨h1p, ks.zip vs, rfl, by rw [List.length_zip]; omega, ?_⟩
    rw [merge_id (kvs := []) (by simpa [hkeys] using hn), List.nil_append]
    have g1 : G1 p = none := ext_none x1 gp ⟨_, upd_same, rfl, fun ⟨c, q, z⟩ => codeO_ne (o := .dK []) (c := c) (q := q) rfl z⟩ nR
    have n1 : p ∉ R1 := fun z => (x1.nr p z).elim nR fun z => by rw [upd_same] at z; cases z
    refine q (.ref p) R1 G1 _ ((x0.trans x1).upd hp g1 fun u z => by rw [h1p] at z; cases z; exact ⟨fun ps => nofun, fun c q => codeO_ne rfl⟩) ⟨p, _, rfl, hp, g1, n1, rfl, ks.zip vs, upd_same, ?_, ?_⟩ (mu1.upd n1)
    · rw [hkeys, List.map_fst_zip (by omega)]
    · rw [List.map_snd_zip (by omega), List.map_snd_zip (by omega)]
      exact i
  · exact q.elim
/-- return of a new list or dict: a handle from now on -/
def sRetN (m : Env' → M D) : Sm := sH m fun d _ μ => match toMob d with
  | some o => .rt (.hnd μ.length) (μ ++ [o])
  | none => .stuck
theorem s_retN' {m : Env' → M D} (h : F' X W e m) : S' X W (.Return (some e) pos) (sRetN m) :=
  PS.weak (ps_ret h) fun E σ H ⟨O, R, G, ρ, μ, w, mu, a⟩ => by
    obtain ⟨R0, G0, ρ0, μ0, w0, q⟩ := stepH (rel := rFr X.K X.mg) w mu a
    refine ⟨R0, G0, ρ0, μ0, w0, q.imp fun v H1 ⟨R1, G1, d, μ1, x1, r, w1, mu1, k⟩ => ?_⟩
    obtain ⟨p, o, rfl, hp, gp, nR, hm, ob⟩ := r
    rw [hm] at k
    refine k O (R1 ++ [p]) G1 H1 (.ref p) ?_ w1.s (fun b u z => ⟨(w1.cl b u z).1, fun hb => ?_⟩) ?_ ?_
    · refine ⟨?_, x1.g, fun b u h1 h2 h3 _ => x1.k b u h1 h2 h3, x1.th, fun b h => (x1.n b h).elim .inl fun z => .inr (z.elim .inl fun z => .inr (.inr z)), fun b hb => ?_, fun b hb => .inl hb, x1.t⟩
      · obtain ⟨t, ht⟩ := x1.r
        exact ⟨t ++ [p], by rw [ht, List.append_assoc]⟩
      · rcases List.mem_append.mp hb with z | z
        · exact x1.nr b z
        · rcases List.mem_cons.mp z with z | z
          · rw [z]; exact .inr hp
          · cases z
    · rcases List.mem_append.mp hb with y | y
      · exact (w1.cl b u z).2 y
      · rcases List.mem_cons.mp y with y | y
        · rw [y, gp] at z; cases z
        · cases y
    · refine .hnd ?_
      rw [← mu1.len]
      simp
    · refine ⟨by simp [mu1.len], ?_, fun n b x h1 h2 => ?_⟩
      · rw [List.nodup_append]
        refine ⟨mu1.nd, by simp, fun y hy z hz => ?_⟩
        rcases List.mem_cons.mp hz with e | e
        · rw [e]; exact fun e2 => nR (e2 ▸ hy)
        · cases e
      · have idx : ∀ (k : Nat) (b : Addr), R1[k]? = some b → (R1 ++ [p])[k]? = some b := fun k b z => by
          rw [List.getElem?_append_left (List.getElem?_eq_some_iff.mp z).1]; exact z
        rcases Nat.lt_or_ge n R1.length with hn | hn
        · rw [List.getElem?_append_left hn] at h1
          rw [List.getElem?_append_left (by rw [← mu1.len]; exact hn)] at h2
          exact (mu1.at_ n b x h1 h2).mono (.refl _) idx rfl
        · rw [List.getElem?_append_right hn] at h1
          rw [List.getElem?_append_right (by rw [← mu1.len]; exact hn), ← mu1.len] at h2
          cases q : n - R1.length with
          | zero =>
            rw [q] at h1 h2
            cases h1
            cases h2
            exact ob.mono (.refl _) idx rfl
          | succ t => rw [q] at h1; simp at h1
end

/-! ### a def held by a variable -/
section
variable {X : Cx} {W : WX} {e : Expr} {es : List Expr} {k : Nat} {x : Str} {p pos : Pos}
/-- the defs that a variable may hold -/
def HasT (P : Program) (w : World) (K : PySem.W.Frag) (mg : Str → Option Value) (base : Heap) (k : Nat) (tbl : List (Str × (List D → M D))) : Prop := ∀ x F, tbl.lookup x = some F → ∃ j ps, j ≤ k ∧ Has P w K mg base x j ps F
def dCallV (tbl : List (Str × (List D → M D))) (f : D) (ds : M (List D)) : M D := match f with
  | .glb x => match tbl.lookup x with
    | some F => M.bind ds F
    | none => stuck
  | _ => stuck
theorem e_callV (i : Nat) {tbl : List (Str × (List D → M D))} {m : Env' → M (List D)} (h : HasT X.prog X.w X.K X.mg X.base k tbl) (hr : RoomG k X.A) (tk : Takes X W) (ha : A' X W (e :: es) m) (hN : X.N[i]? = some x := by rfl)
    (hv : Vis X.env.scope x := by first | exact Or.inl rfl | exact Or.inr (Or.inl rfl) | exact Or.inr (Or.inr rfl)) (hd : (x == ("__debug__" : Str)) = false := by decide) (hcd : (x == ("__classdict__" : Str)) = false := by decide)
    (he : starEach (e :: es) X.env = (false, eval e X.env) :: starEach es X.env := by rfl) (hpl : (backTo pos (starEach es X.env)).any (·.1) = false := by rfl) :
    E' X W (.Call (.Name x p) (e :: es) [] pos) (fun ρ => M.bind (dVar ρ i) fun f => dCallV tbl f (m ρ)) := by
  constructor
  intro pins s σ H Q I h0
  obtain ⟨R, G, ρ, μ, w, h0⟩ := h0
  have h0 : After X.K X.mg (fun cls d H' => W cls d σ H') (rIs X.K X.mg) (M.bind (liftO (ρ[i]?.join)) (fun f => dCallV tbl f (m ρ)) μ) R G H Q := h0
  cases hρ : ρ[i]? with
  | none => rw [hρ] at h0; exact h0.elim
  | some o =>
  cases o with
  | none => rw [hρ] at h0; exact h0.elim
  | some df =>
  rw [hρ] at h0
  obtain ⟨vf, hs, iv⟩ := w.env.2 i df hρ
  have h0 : After X.K X.mg (fun cls d H' => W cls d σ H') (rIs X.K X.mg) (dCallV tbl df (m ρ) μ) R G H Q := h0
  refine wpAny_Call_Name_kw (thn ((pe_var (pos := p) (i := i) hN hv hd hcd).run pins s σ H (fun v H1 => v = vf ∧ H1 = H) I ⟨vf, hs, rfl, rfl⟩) fun u s1 ⟨v, H1, I1, r1, e1, e2⟩ => ?_)
  subst e1
  subst e2
  cases iv with
  | @glb a y hm =>
    cases r1
    unfold dCallV at h0
    simp only at h0
    cases ht : tbl.lookup y with
    | none => rw [ht] at h0; exact h0.elim
    | some F =>
      rw [ht] at h0
      obtain ⟨j, ps, hj, f, fd, hm', hk, hb, hF⟩ := h y F ht
      rw [hm] at hm'
      cases hm'
      refine PySem.W.callWith_K (h₀ := X.base) I1.ok.mod.kin hk (thn (ha.run pos pins s1 σ _ _ I1 (tD.bind (rel := rAll X.K X.mg) (f := fun _ ds => F ds) ⟨R, G, ρ, μ, w, h0⟩)) fun us s2 ⟨vs, H2, I2, r, R1, G1, ρ1, μ1, ds, w1, i1, q⟩ => ⟨I2.kIn, ?_⟩) he hpl
      exact run_fnG hF (hr.mono hj) hb tk I2 r w1.w0 w1.mu w1.tb i1 q
  | _ => exact h0.elim
end
end DX
set_option Elab.async false
set_option linter.all false
set_option maxRecDepth 100000
set_option maxHeartbeats 4000000
/-! DR: the law's end -/
namespace DX
open PySem PySem.Spec PyProof.Rows L2
variable [Tb]

theorem roomG_caller (k : Nat) (h : Room k callerA) : RoomG k callerA := ⟨h, rfl⟩
section
variable {P : Program} {w : World} {K : PySem.W.Frag} {mg mb : Str → Option Value} {k : Nat} {fa a : Addr} {cs : List (Addr × Addr)} {fd : FuncData} {x : Str} {F : List D → M D} {s1 : Shared} {vs : List Value} {ns : List Int}
def emptyT : Obj := { cls := .none, data := .fields #[] }
/-- what the law's call finds -/
structure Fnd (K : PySem.W.Frag) (mg mb : Str → Option Value) (a : Addr) (cs : List (Addr × Addr)) (s1 : Shared) (vs : List Value) (ns : List Int) : Prop where
  kx : K.In s1.heap
  gl : s1.heap.Ns mainGlobals mg
  b : s1.heap.Ns builtinsNs mb
  bb : ∀ x : Str, x ≠ "__name__" → mb x = bootBuiltins x
  lim : s1.heap.NoLimit
  g : s1.gens = #[]
  t : ∀ p ∈ cs, s1.heap.get? p.2 = some emptyT
  nt : ∀ p ∈ cs, K.lookup p.2 = none
  c : ∀ p ∈ cs, PySem.W.CodeHd s1.heap p.1 p.2
  bm : ∃ (bm : Addr) (ob : Obj), mg "__builtins__" = some (.ref bm) ∧ bm ≠ builtinsNs ∧ s1.heap.get? bm = some ob ∧ ob.cls = .type "module" ∧ ob.dict = some builtinsNs ∧ ob.data = .plain
  at_ : s1.heap.get? a = some { cls := .type "list", data := .seq vs.toArray }
  i : IntsAre vs ns
  l : ns.length ≤ sizeLine
/-- an abstract heap in which nothing but the script and the tables is tracked -/
structure Trk (K : PySem.W.Frag) (a : Addr) (cs : List (Addr × Addr)) (ns : List Int) (H : Hp) : Prop where
  t : ∀ b, b ∈ cs.map (·.2) → H b = some (.tbl #[])
  o : ∀ b u, H b = some u → b ∈ cs.map (·.2) ∨ (b = a ∧ ∃ ob, u = .frz ob (.lst (ns.map V.int)))
  s : SqL K (fun b => if b ∈ cs.map (·.2) then none else H b) a (ns.map V.int)
  k : H a ≠ none → K.lookup a = none
theorem Fnd.tab (f : Fnd K mg mb a cs s1 vs ns) {b : Addr} (h : b ∈ cs.map (·.2)) : s1.heap.get? b = some emptyT := by
  obtain ⟨p, hp, e⟩ := List.mem_map.mp h
  rw [← e]; exact f.t p hp
theorem Fnd.ne (f : Fnd K mg mb a cs s1 vs ns) : a ∉ cs.map (·.2) := fun z => by
  have q := (f.tab z).symm.trans f.at_
  have := congrArg Obj.data (Option.some.inj q)
  cases this
/-- neither the script nor a table -/
theorem Fnd.free (f : Fnd K mg mb a cs s1 vs ns) {H : Hp} (t : Trk K a cs ns H) {b : Addr} {o : Obj} (e : s1.heap.get? b = some o) (h1 : ∀ us n, o.data ≠ .seq us n) (h2 : o.data ≠ .fields #[]) : H b = none := by
  cases q : H b with
  | none => rfl
  | some u =>
    rcases t.o b u q with z | ⟨z, _⟩
    · cases e.symm.trans (f.tab z)
      exact absurd rfl h2
    · subst z
      cases e.symm.trans f.at_
      exact absurd rfl (h1 _ _)
theorem Fnd.nsH (f : Fnd K mg mb a cs s1 vs ns) {H : Hp} (t : Trk K a cs ns H) {b : Addr} {m : Str → Option Value} (h : s1.heap.Ns b m) : (hidT s1.heap H).Ns b m := by
  obtain ⟨o, es, ep, e, d, r⟩ := h
  exact ⟨o, es, ep, hidT_get e (f.free t e (by rw [d]; exact fun _ _ => nofun) (by rw [d]; exact nofun)), d, r⟩
theorem Fnd.kin (f : Fnd K mg mb a cs s1 vs ns) {H : Hp} (t : Trk K a cs ns H) : K.In (hidT s1.heap H) := fun b o e => by
  refine hidT_get (f.kx b o e) ?_
  cases q : H b with
  | none => rfl
  | some u =>
    rcases t.o b u q with z | ⟨z, _⟩
    · obtain ⟨p, hp, ep⟩ := List.mem_map.mp z
      rw [← ep, f.nt p hp] at e
      cases e
    · subst z
      rw [t.k (by rw [q]; simp)] at e
      cases e
theorem Fnd.tabB (f : Fnd K mg mb a cs s1 vs ns) {H : Hp} (t : Trk K a cs ns H) : ∀ p ∈ cs, LamX.TabB (hidT s1.heap H) mg p.1 p.2 := fun p hp => by
  have hTp := f.t p hp
  constructor
  · obtain ⟨o, us, file, tf, flags, tg, inF, text, tt, e1, r1, r2, r3⟩ := f.c p hp
    refine ⟨o, us, file, tf, flags, tg, inF, text, tt, hidT_get e1 (f.free t e1 ?_ ?_), r1, r2, r3⟩
    · rw [r2]; exact fun _ _ => nofun
    · rw [r2]
      intro z
      cases z
      have := r3.1
      simp at this
  · obtain ⟨bm, ob, b1, b2, b3, b4, b5, b6⟩ := f.bm
    refine ⟨bm, ob, b1, b2, fun q => ?_, fun q => ?_, hidT_get b3 (f.free t b3 ?_ ?_), b4, b5, b6⟩
    · obtain ⟨o, es, ep, e, hd, _⟩ := f.gl
      rw [q] at b3
      cases b3.symm.trans e
      rw [hd] at b6
      cases b6
    · rw [q] at b3
      cases b3.symm.trans hTp
      cases b6
    · rw [b6]; exact fun _ _ => nofun
    · rw [b6]; exact nofun
  · intro z
    obtain ⟨o, es, ep, e, hd, _⟩ := f.gl
    rw [z] at e
    cases e.symm.trans hTp
    cases hd
/-- the law's answer -/
def LawOk (F : List D → M D) (ns : List Int) : Prop := ∃ μ, F [.scr (ns.map D.int)] [] = .ok (.bl true) μ
theorem ints_all {K : PySem.W.Frag} {mg : Str → Option Value} {R : List Addr} {G : Hp} : ∀ ns : List Int, IsAll K mg R G (ns.map V.int) (ns.map D.int)
  | [] => .nil
  | n :: r => .cons (.int n) (ints_all r)
theorem law_core (f : Fnd K mg mb a cs s1 vs ns) {H : Hp} (t : Trk K a cs ns H) (hok : HOk P w H s1.heap) (hr : Room k callerA) (hTb : ∀ p ∈ Tb.T, p.1 ∈ cs.map (·.2))
    (FF : ∀ base : Heap, K.In base → base.Ns mainGlobals mg → (∀ p ∈ cs, LamX.TabB base mg p.1 p.2) → ∃ fd, L2.Binds K fd [x] [] ∧ FnG P w K mg base k fa fd [x] F) (hF : LawOk F ns) :
    codeAny (model P w) callerA (.call (.ref fa) ⟨[.ref a], []⟩) (fun r s' => r = .ok (.ret (.bool true)) ∧ OldK s1.heap s'.heap ∧ s'.os = s1.os ∧ AllBare s'.gens) s1 := by
  obtain ⟨μ, hF⟩ := hF
  have kin := f.kin t
  have e0 : Env0 P w K mg (hidT s1.heap H) callerA [] s1 H := by
    refine ⟨rfl, ⟨kin, f.nsH t f.gl, ⟨mb, f.nsH t f.b, f.bb⟩, ?_⟩, fun b o e => of_hidT e, Nat.le_of_eq (hidT_size _ _), trivial, fun b hb => absurd (show b ∈ ([] : List Addr) from hb) (by simp), hok, .of_eq f.g⟩
    obtain ⟨mc, h1, h2⟩ := f.lim
    exact ⟨mc, f.nsH t h1, h2⟩
  have tb : LamX.Tabs Tb.T H := fun p hp => LamX.TabS.nil (t.t p.1 (hTb p hp))
  have sub : Sub (fun b => if b ∈ cs.map (·.2) then none else H b) H := fun b o e => by
    dsimp only at e
    split at e
    · cases e
    · exact e
  have cl : ∀ b o, (fun b => if b ∈ cs.map (·.2) then none else H b) b = some o → tbl? o = false ∧ b ∉ ([] : List Addr) := fun b o e => by
    refine ⟨?_, by simp⟩
    dsimp only at e
    split at e
    · cases e
    · rename_i hb
      rcases t.o b o e with z | ⟨_, ob, z⟩
      · exact absurd z hb
      · rw [z]; rfl
  obtain ⟨fd, hbind, FF⟩ := FF _ kin (f.nsH t f.gl) (f.tabB t)
  refine codeAny_mono (FF.run callerA [] s1 H ⟨[.ref a], []⟩ [.ref a] [.ref a] (fun v _ => v = .bl true) (fun _ _ _ => False) [] _ [] [.scr (ns.map D.int)] (roomG_caller k hr) e0 (hbind s1 [.ref a] f.kx rfl) (.cons rfl .nil) sub cl
    ⟨rfl, by simp, fun i b m h => by simp at h⟩ tb (.cons (.scr t.s (ints_all ns)) .nil) (by rw [hF]; exact fun v R' G' H' _ i _ => by cases i; rfl)) fun r s' h => ?_
  cases r with
  | error e =>
    obtain ⟨_, _, _, _, _, _, _, _, _, _, _, _, z⟩ := h
    exact z.elim
  | ok fl =>
    cases fl with
    | next => exact False.elim h
    | brk => exact False.elim h
    | cont => exact False.elim h
    | ret u =>
      obtain ⟨v, H', os, bare, un, hok', rv, q⟩ := h
      subst q
      cases rv
      have stay : ∀ b o, b ∉ cs.map (·.2) → s1.heap.get? b = some o → s'.heap.get? b = some o := fun b o nb e => by
        cases q : H b with
        | none => exact un.keep b o e q (by intro z; exact absurd (show b ∈ ([] : List Addr) from z) (by simp)) (by simp)
        | some u =>
          rcases t.o b u q with z | ⟨_, ob, z⟩
          · exact absurd z nb
          · subst z
            obtain ⟨k1, _⟩ := hok b _ q
            obtain ⟨k2, _⟩ := hok' b _ (un.frzs b ob _ q)
            cases e.symm.trans k1
            exact k2
      have grown : ∀ p ∈ cs, ∃ more : Array Value, s'.heap.get? p.2 = some { cls := .none, data := .fields more } := fun p hp => by
        obtain ⟨more, z⟩ := un.tbls p.2 #[] (t.t p.2 (List.mem_map.mpr ⟨p, hp, rfl⟩))
        exact ⟨_, hok' p.2 _ z⟩
      refine ⟨rfl, ⟨fun b o e => ?_, fun b o e => ?_⟩, os, bare⟩
      · by_cases hb : b ∈ cs.map (·.2)
        · obtain ⟨p, hp, rfl⟩ := List.mem_map.mp hb
          obtain ⟨more, hm⟩ := grown p hp
          cases e.symm.trans (f.t p hp)
          exact .inr (.inl ⟨((f.c p hp).tab (f.t p hp)).isCodeTable, rfl, #[], more, rfl, by rw [Array.empty_append]; exact hm⟩)
        · exact .inl (stay b o hb e)
      · by_cases hb : b ∈ cs.map (·.2)
        · obtain ⟨p, hp, rfl⟩ := List.mem_map.mp hb
          obtain ⟨more, hm⟩ := grown p hp
          exact ⟨_, hm⟩
        · exact ⟨o, stay b o hb e⟩
theorem law_endG (f : Fnd K mg mb a cs s1 vs ns) (hr : Room k callerA) (hTb : ∀ p ∈ Tb.T, p.1 ∈ cs.map (·.2))
    (FF : ∀ base : Heap, K.In base → base.Ns mainGlobals mg → (∀ p ∈ cs, LamX.TabB base mg p.1 p.2) → ∃ fd, L2.Binds K fd [x] [] ∧ FnG P w K mg base k fa fd [x] F) (hF : LawOk F ns) :
    codeAny (model P w) callerA (.call (.ref fa) ⟨[.ref a], []⟩) (fun r s' => r = .ok (.ret (.bool true)) ∧ OldK s1.heap s'.heap ∧ s'.os = s1.os ∧ AllBare s'.gens) s1 := by
  have rv := vals_ints f.i
  have lenV := f.i.length
  have tabOk : ∀ {H : Hp} {b : Addr}, b ∈ cs.map (·.2) → ObjOk P w H s1.heap b (.tbl #[]) := fun hb => f.tab hb
  cases hk : K.lookup a with
  | some o =>
    cases (f.kx a o hk).symm.trans f.at_
    refine law_core f (H := fun b => if b ∈ cs.map (·.2) then some (.tbl #[]) else none) ⟨fun b hb => if_pos hb, fun b u z => ?_, .inr ⟨_, vs.toArray, _, hk, rfl, rfl, rfl, ?_, ?_⟩, fun z => absurd (if_neg f.ne) z⟩ (fun b u z => ?_) hr hTb FF hF
    · split at z
      · exact .inl (by assumption)
      · cases z
    · rw [List.size_toArray, lenV]; exact f.l
    · simpa using rv
    · dsimp only at z
      split at z
      · cases z; exact tabOk (by assumption)
      · cases z
  | none =>
    refine law_core f (H := fun b => if b ∈ cs.map (·.2) then some (.tbl #[]) else if b = a then some (.frz { cls := .type "list", data := .seq vs.toArray } (.lst (ns.map V.int))) else none)
      ⟨fun b hb => if_pos hb, fun b u z => ?_, .inl (.inr ⟨{ cls := .type "list", data := .seq vs.toArray }, ?_⟩), fun _ => hk⟩ (fun b u z => ?_) hr hTb FF hF
    · split at z
      · exact .inl (by assumption)
      · split at z
        · cases z; exact .inr ⟨by assumption, _, rfl⟩
        · cases z
    · dsimp only
      rw [if_neg f.ne, if_neg f.ne, if_pos rfl]
    · dsimp only at z
      split at z
      · cases z; exact tabOk (by assumption)
      · split at z
        · rename_i hb
          cases z
          subst hb
          exact ⟨f.at_, by rw [List.length_map]; exact f.l, vs, _, rv, f.at_⟩
        · cases z
end
/-- what is known at the head's heap h -/
def LawAtG (l : PySem.W.OpenLaw) (w : World) (K : PySem.W.Frag) (k n : Nat) (x : Str) (mg : Str → Option Value) (fa : Addr) (h : Heap) : Prop :=
  ∃ (T : Tb) (cs : List (Addr × Addr)) (F : List D → M D), (∀ p ∈ cs, h.get? p.2 = some emptyT) ∧ (∀ p ∈ cs, K.lookup p.2 = none) ∧ (∀ p ∈ cs, PySem.W.CodeHd h p.1 p.2) ∧
    (∀ p ∈ T.T, p.1 ∈ cs.map (·.2)) ∧ (∀ ns : List Int, ns.length ≤ n → (∀ z ∈ ns, Builtin.Int.intBits z ≤ 1048576) → LawOk F ns) ∧
    ∀ base : Heap, K.In base → base.Ns mainGlobals mg → (∀ p ∈ cs, LamX.TabB base mg p.1 p.2) → ∃ fd, L2.Binds K fd [x] [] ∧ @FnG T l.prog w K mg base k fa fd [x] F
omit [Tb] in
theorem walk_G {l : PySem.W.OpenLaw} {n k : Nat} {q : Program} {loose : List Str} {XP : (Str → Option Value) → Heap → Prop} {YP : World → Heap → Prop} {d : DefRec} {x : Str} (hn : l.most = some n) (hn2 : n ≤ sizeLine) (hdf : d.params.defaults = []) (hr : Room k callerA)
    (F : ∀ (w : World) (mg : Str → Option Value) (fa : Addr) (h : Heap), YP w h → h.Ns mainGlobals mg → mg d.name = some (.ref fa) → ∃ K : PySem.W.Frag, K.In h ∧ LawAtG l w K k n x mg fa h) : PySem.W.WalkO q loose XP YP l.row.toRowW d [] (fun f vs => PySem.call f vs) := by
  refine Att.attach_callB hn hdf fun w s₀ s₁ mg mb fa o pm cd doc a vs ns G Y ho hd hcd hmg hobj hints hlen hbits hg => ?_
  obtain ⟨K, KX, T, cs, sp, hT, nT, C, hTb, hsp, hF⟩ := F w mg fa _ Y G.T.g hmg
  exact @law_endG T _ _ _ _ _ _ _ _ _ _ _ _ _ _ ⟨KX, G.T.g, G.T.b, G.T.builtins, G.T.nolimit, hg, hT, nT, C, G.T.bmain, hobj, hints, Nat.le_trans hlen hn2⟩ hr hTb hF (hsp ns hlen hbits)
end DX
set_option Elab.async false
set_option linter.all false
set_option maxRecDepth 100000
set_option maxHeartbeats 4000000
/-! DS: what the head tells -/
namespace DX
open PySem PySem.Spec PyProof.Rows L2

/-! ### the hook -/
def asYo (g : Addr → Option Obj) : Nat → List Addr
  | 0 => [mainGlobals, cStatics]
  | n + 1 => He.growD g (asYo g n)
/-- .. and the modules' dict -/
def asY (g : Addr → Option Obj) (n : Nat) : List Addr := sysModules :: asYo g n
def obsY (n : Nat) (fa : List He.Fa) (fn : List He.DefD) (tf : List He.Defn) (ex : PySem.W.Frag → Bool) (g : Addr → Option Obj) : He.AlX :=
  (He.obsT fa fn [] (He.frT g (asY g n)), ex (He.frT g (asY g n)) && He.tabsB g tf (He.frT g (asY g n)))
theorem saysY_of {n : Nat} {fa : List He.Fa} {fn : List He.DefD} {tf : List He.Defn} {ex : PySem.W.Frag → Bool} {w : World} {h : Heap} (e : obsY n fa fn tf ex h.get? = He.valX fn [] w) : He.SaysX fa fn [] tf ex w h (He.frT h.get? (asY h.get? n)) := by
  have e2 := He.ba (show (ex (He.frT h.get? (asY h.get? n)) && He.tabsB h.get? tf (He.frT h.get? (asY h.get? n))) = true from congrArg (fun z : He.AlX => z.2) e)
  have tab : ∀ p ∈ tf, PySem.W.codeHdIn (He.frT h.get? (asY h.get? n)) (He.cT (He.frT h.get? (asY h.get? n)) p).1 (He.cT (He.frT h.get? (asY h.get? n)) p).2 = true ∧ ∃ o, h.get? (He.cT (He.frT h.get? (asY h.get? n)) p).2 = some o ∧ He.emptyTab o = true := by
    intro p hp
    have q := He.ba (List.all_eq_true.mp e2.2 p hp)
    refine ⟨q.1, ?_⟩
    have q2 := q.2
    revert q2
    cases h.get? (He.cT (He.frT h.get? (asY h.get? n)) p).2 with
    | none => intro z; cases z
    | some o => intro z; exact ⟨o, rfl, z⟩
  constructor
  · exact congrArg (fun z : He.AlX => z.1) e
  · exact e2.1
  · exact fun p hp => (tab p hp).1
  · intro p hp
    obtain ⟨_, o, q, z⟩ := tab p hp
    exact He.frT_none q z
  · intro p hp
    obtain ⟨_, o, q, z⟩ := tab p hp
    rw [q, He.emptyTab_eq z]
def hookY (n : Nat) (fa : List He.Fa) (fn : List He.DefD) (tf : List He.Defn) (ex : PySem.W.Frag → Bool) : PySem.W.Hook where
  α := He.AlX
  obs := fun s => obsY n fa fn tf ex s.heap.get?
  val := fun w => He.valX fn [] w
  says := fun w h => ∃ K : PySem.W.Frag, K.In h ∧ He.SaysX fa fn [] tf ex w h K
  of := fun _ _ e => ⟨_, He.frT_in, saysY_of e⟩
  keeps := fun _ _ _ ⟨K, hK, c⟩ k => ⟨K, PySem.W.Frag.In.keeps hK k, ⟨c.t, c.more, c.hd, c.out, fun p hp => k _ _ (c.empty p hp)⟩⟩
theorem obsY_eq {n : Nat} {fa : List He.Fa} {fn : List He.DefD} {tf : List He.Defn} {ex : PySem.W.Frag → Bool} {g : Addr → Option Obj} {s : Shared} (h : ∀ a, g a = s.heap.get? a) : obsY n fa fn tf ex g = (hookY n fa fn tf ex).obs s := by
  cases (show g = s.heap.get? from funext h)
  rfl

/-! ### facts, decided -/
/-- the class at C: an exception of ours -/
def oexB (K : PySem.W.Frag) (C : Addr) : Bool := (match K.lookup C with
  | some ⟨.type t, _, .cls cd, sl⟩ => t == "type" && (match cd.mro, sl.toList with
    | .ref C' :: bm, [_, _, _, _, some (.builtin n), _] => C' == C && n == "ValueError.__new__" && !cd.hasDel && cd.hasDict && PySem.HandSPX.refsVE bm
    | _, _ => false)
  | _ => false) && decide (PySem.W.findIn K (.ref C) "__setattr__" = some (some (.builtin "object.__setattr__"))) && decide (PySem.W.subIn K (.ref C) (.type "BaseException") = some true) && decide (PySem.W.typeIn K (.ref C) = some (.type "type")) && PySem.W.keepIn K (.ref C)
theorem oexB_ok {K : PySem.W.Frag} {C : Addr} (h : oexB K C = true) : OexC K C := by
  unfold oexB at h
  simp only [Bool.and_eq_true, decide_eq_true_eq] at h
  obtain ⟨⟨⟨⟨h1, h2⟩, h3⟩, h4⟩, h5⟩ := h
  refine ⟨?_, h2, h3, h4, h5⟩
  split at h1
  · rename_i t dd cd sl ho
    rw [Bool.and_eq_true] at h1
    obtain ⟨e0, h1⟩ := h1
    cases beq_iff_eq.mp e0
    split at h1
    · rename_i C' bm k0 k1 k2 k3 n k5 hm hs
      simp only [Bool.and_eq_true, beq_iff_eq, Bool.not_eq_true'] at h1
      obtain ⟨⟨⟨⟨rfl, rfl⟩, hdel⟩, hd⟩, hv⟩ := h1
      obtain ⟨nm, bs, mro, ns, qn, hd', sn, sub, ab, col, del⟩ := cd
      dsimp only at hm hdel hd
      subst hm hdel hd
      have hsl : sl = #[k0, k1, k2, k3, some (.builtin "ValueError.__new__"), k5] := by
        obtain ⟨l⟩ := sl
        simp only at hs
        rw [hs]
      subst hsl
      exact ⟨nm, qn, ns, bs, bm, sn, sub, ab, col, dd, k0, k1, k2, k3, k5, ho, hv⟩
    · cases h1
  · cases h1
def baseB (K : PySem.W.Frag) (C : Addr) : Bool := PySem.W.readsIn K C (.type "type") && decide (PySem.W.specialIn K (.ref C) "__getattribute__" = some (some (.builtin "type.__getattribute__"))) && (match PySem.W.findCls K (.ref C) (.type "type") "__init__" with
  | some (.val (.builtin i)) => i == "ValueError.__init__"
  | _ => false)
theorem baseB_ok {K : PySem.W.Frag} {mg : Str → Option Value} {x : Str} {C : Addr} (hm : mg x = some (.ref C)) (h : baseB K C = true) : BaseT K mg x := by
  unfold baseB at h
  simp only [Bool.and_eq_true, decide_eq_true_eq] at h
  obtain ⟨⟨h1, h2⟩, h3⟩ := h
  refine ⟨C, .type "type", hm, ⟨h1, h2⟩, ?_⟩
  split at h3
  · rename_i i q
    cases beq_iff_eq.mp h3
    exact q
  · cases h3
/-- an exception with the fields ns -/
def excB (K : PySem.W.Frag) (x : Str) (ns : List Str) : Bool := oexB K (He.ga K x) && xfB K (He.ga K x) && decide (PySem.W.findIn K (.ref (He.ga K x)) "__init__" = some (some (.ref (He.ma K (He.ga K x) "__init__")))) &&
  decide (PySem.W.typeIn K (.ref (He.ma K (He.ga K x) "__init__")) = some (.type "function")) && ns.all fun f => decide (PySem.W.findIn K (.ref (He.ga K x)) f = some none)
structure ExcF (K : PySem.W.Frag) (C fI : Addr) (ns : List Str) : Prop where
  o : OexC K C
  x : XfC K C
  i : PySem.W.findIn K (.ref C) "__init__" = some (some (.ref fI))
  t : PySem.W.typeIn K (.ref fI) = some (.type "function")
  n : ∀ f ∈ ns, PySem.W.findIn K (.ref C) f = some none
theorem excB_ok {K : PySem.W.Frag} {x : Str} {ns : List Str} (h : excB K x ns = true) : ExcF K (He.ga K x) (He.ma K (He.ga K x) "__init__") ns := by
  unfold excB at h
  simp only [Bool.and_eq_true, decide_eq_true_eq] at h
  obtain ⟨⟨⟨⟨h1, h2⟩, h3⟩, h4⟩, h5⟩ := h
  exact ⟨oexB_ok h1, xfB_ok h2, h3, h4, fun f hf => of_decide_eq_true (List.all_eq_true.mp h5 f hf)⟩
theorem fun_of {K : PySem.W.Frag} {x qual : Str} {st : Stmt} {f : Addr} {fd : FuncData} (F : FunD K x qual (defArgs st) (defBody st) (defScope st) [] [] f fd) : Fun K x qual st f fd := by
  obtain ⟨oc, od, dV, kV, doc, pm, an, cdv, ct, osl, rfl, lk, hcd, hD, hK⟩ := F.ex
  rcases hD with ⟨_, rfl⟩ | ⟨e, _⟩
  · exact ⟨⟨oc, od, kV, doc, pm, an, cdv, ct, osl, rfl, lk, hcd⟩, F.kp⟩
  · exact absurd rfl e
/-- the classes of clauses -/
def subOf (tbl : List (Str × Str × Bool)) (c x : Str) : Option Bool := match tbl with
  | [] => none
  | (a, b, t) :: r => if a = c ∧ b = x then some t else subOf r c x
def subB (K : PySem.W.Frag) (tbl : List (Str × Str × Bool)) : Bool := tbl.all fun t => decide (PySem.W.exmOne K (.ref (He.ga K t.1)) (.ref (He.ga K t.2.1)) = some t.2.2)
theorem subB_ok {K : PySem.W.Frag} {mg : Str → Option Value} {tbl : List (Str × Str × Bool)} (h : subB K tbl = true) (hg : ∀ t ∈ tbl, mg t.1 = some (.ref (He.ga K t.1)) ∧ mg t.2.1 = some (.ref (He.ga K t.2.1))) : SubT K mg (subOf tbl) := by
  intro c x b C D e h1 h2
  induction tbl with
  | nil => cases e
  | cons t r ih =>
    obtain ⟨a, y, b'⟩ := t
    unfold subOf at e
    split at e
    · rename_i q
      cases e
      obtain ⟨rfl, rfl⟩ := q
      have k := of_decide_eq_true (List.all_eq_true.mp h (a, y, b) List.mem_cons_self)
      obtain ⟨g1, g2⟩ := hg _ List.mem_cons_self
      rw [h1] at g1
      rw [h2] at g2
      cases g1
      cases g2
      exact k
    · exact ih (by unfold subB at h ⊢; exact (Bool.and_eq_true_iff.mp h).2) (fun t ht => hg t (List.mem_cons_of_mem _ ht)) e
/-- the tables of the defs that make lambdas are different ones -/
def nodupB (l : List Addr) : Bool := match l with
  | [] => true
  | a :: r => !r.contains a && nodupB r
theorem nodupB_ok : ∀ {l : List Addr}, nodupB l = true → l.Nodup
  | [], _ => .nil
  | a :: r, h => by
    unfold nodupB at h
    rw [Bool.and_eq_true, Bool.not_eq_true'] at h
    refine List.nodup_cons.mpr ⟨fun z => ?_, nodupB_ok h.2⟩
    rw [List.contains_iff_mem.mpr z] at h
    cases h.1
/-! ### the text, as the head tells it -/
structure Tx (fa : List He.Fa) (fn : List He.DefD) (tf : List He.Defn) (ex : PySem.W.Frag → Bool) (w : World) (K : PySem.W.Frag) (mg : Str → Option Value) (h : Heap) : Prop where
  x : K.In h
  g : h.Ns mainGlobals mg
  c : He.SaysX fa fn [] tf ex w h K
section
variable {fa : List He.Fa} {fn : List He.DefD} {tf : List He.Defn} {ex : PySem.W.Frag → Bool} {w : World} {K : PySem.W.Frag} {mg : Str → Option Value} {h : Heap}
theorem Tx.glo (T : Tx fa fn tf ex w K mg h) {x : Str} (hx : He.Fa.glo x ∈ fa) : mg x = some (.ref (He.ga K x)) := He.glo_ok T.x T.g (T.c.t.d.facts hx)
theorem Tx.free (T : Tx fa fn tf ex w K mg h) {x : Str} (hx : He.Fa.free x ∈ fa) : mg x = none := He.free_ok T.x T.g (T.c.t.d.facts hx)
/-- a def of the top as datum -/
abbrev dTop (x : Str) (st : Stmt) : He.DefD := ⟨(x, none), x, x, defArgs st, defBody st, defScope st, [], []⟩
theorem Tx.wr (T : Tx fa fn tf ex w K mg h) {x : Str} {st : Stmt} {ps : List Str} (i : Nat) (hd : fn[i]? = some (dTop x st)) (hx : He.Fa.glo x ∈ fa)
    (hb : ∀ (kV doc pm : Value) (an : Option Addr) (cdv ct : Value) (us : List Value), us.length = ps.length → bindArgs (PySem.W.fnOf x x (defArgs st) (defBody st) (defScope st) .none kV doc pm an cdv ct) ⟨us, []⟩ = pure (ps.zip us)) : Wr K mg x st ps := by
  obtain ⟨fd, F⟩ := T.c.t.d.def_ i hd
  have F' := fun_of F
  exact ⟨_, fd, T.glo hx, F', F'.binds hb⟩
theorem Tx.wrC (T : Tx fa fn tf ex w K mg h) {x : Str} {st : Stmt} {ps : List Str} (i : Nat) (hd : fn[i]? = some (dTop x st)) (hx : He.Fa.glo x ∈ fa)
    (hb : ∀ (kV doc pm : Value) (an : Option Addr) (cdv ct : Value) (us : List Value), us.length = ps.length → bindArgs (PySem.W.fnOf x x (defArgs st) (defBody st) (defScope st) .none kV doc pm an cdv ct) ⟨us, []⟩ = pure (ps.zip us)) : WrC K mg x st ps (He.cT K (x, none)).1 := by
  obtain ⟨fd, F⟩ := T.c.t.d.def_ i hd
  have F' := fun_of F
  have b := F'.binds hb
  obtain ⟨oc, od, kV, doc, pm, an, cdv, ct, osl, rfl, lk, hcd⟩ := F'.ex
  obtain ⟨c, rfl⟩ := He.codeIn_ref hcd
  have ec : (He.cT K (x, none)).1 = c := He.codeOf_eq lk rfl
  rw [ec]
  exact ⟨_, oc, od, kV, doc, pm, an, ct, osl, T.glo hx, F'.kp, lk, hcd, b⟩
/-- an exception's __init__ as datum -/
abbrev dIni (x q : Str) (st : Stmt) : He.DefD := ⟨(x, some "__init__"), "__init__", q, defArgs st, defBody st, defScope st, [], []⟩
theorem Tx.ini (T : Tx fa fn tf ex w K mg h) {x q : Str} {st : Stmt} {ps : List Str} (i : Nat) (hd : fn[i]? = some (dIni x q st))
    (hb : ∀ (kV doc pm : Value) (an : Option Addr) (cdv ct : Value) (us : List Value), us.length = ps.length → bindArgs (PySem.W.fnOf "__init__" q (defArgs st) (defBody st) (defScope st) .none kV doc pm an cdv ct) ⟨us, []⟩ = pure (ps.zip us)) :
    ∃ fd, Fun K "__init__" q st (He.ma K (He.ga K x) "__init__") fd ∧ L2.Binds K fd ps [] := by
  obtain ⟨fd, F⟩ := T.c.t.d.def_ i hd
  have F' := fun_of F
  exact ⟨fd, F', F'.binds hb⟩
theorem Tx.tabB (T : Tx fa fn tf ex w K mg h) {p : He.Defn} (hp : p ∈ tf) : PySem.W.CodeHd h (He.cT K p).1 (He.cT K p).2 := PySem.W.codeHd_of_K T.x (T.c.hd p hp)
end
end DX
set_option Elab.async false
set_option linter.all false
set_option maxRecDepth 100000
set_option maxHeartbeats 4000000
/-! DT: chains of comparisons -/
namespace DX
open PySem PySem.Spec PyProof.Rows L2
variable [Tb]
section
variable {X : Cx} {W : WX} {a b c : Expr} {pos : Pos} {op op' : CmpOp} {g g' : D → D → Option D} {m n l : Env' → M D}
theorem after_b {α : Type} {K : PySem.W.Frag} {mg : Str → Option Value} {E : XK} {Vv : Type} {rel : Rl Vv α} {o : Option Bool} {f : Bool → M α} {μ : List Mob} {R : List Addr} {G H : Hp} {Q : Vv → Hp → Prop} (h : After K mg E rel (M.bind (liftO o) f μ) R G H Q) : ∃ k, o = some k ∧ After K mg E rel (f k μ) R G H Q := by
  cases o with
  | none => exact h.elim
  | some k => exact ⟨k, rfl, h⟩
theorem t_chain (ho : Op2 X (compareOp op) g) (ho' : Op2 X (compareOp op') g') (ha : E' X W a m) (hb : E' X W b n) (hc : E' X W c l) (hm : lastMarks [op, op'] [b, c] = false := by with_unfolding_all rfl) :
    T' X W (.Compare a [op, op'] [b, c] pos) (fun ρ => M.bind (m ρ) fun x => M.bind (n ρ) fun y => M.bind (liftO ((g x y).bind asB)) fun k => if k = true then M.bind (l ρ) fun z => liftO ((g' y z).bind asB) else M.pure false) :=
  PT.weak (pt_chain ho ho' ha hb hc hm) fun σ H Q h => by
    obtain ⟨R, G, ρ, μ, w, h⟩ := tD.bind (rel := rIs X.K X.mg) h
    refine ⟨R, G, ρ, μ, w, h.imp fun x H1 ⟨R1, G1, ρ1, μ1, d, w1, i1, q1⟩ => ⟨R1, G1, ρ1, μ1, w1, (After.bind (rel := rIs X.K X.mg) q1).imp fun y H2 ⟨R2, G2, e, μ2, x2, i2, m2, q2⟩ => ?_⟩⟩
    have w2 := w1.ext x2 m2
    obtain ⟨k, hk, q3⟩ := after_b q2
    cases hg : g d e with
    | none => rw [hg] at hk; cases hk
    | some z =>
      rw [hg] at hk
      cases z with
      | bl k0 =>
        cases hk
        refine ⟨R2, G2, d, e, .bl k, w2.w0, i1.mono x2.g x2.idx, i2, hg, fun v G' H' gr iv => ?_⟩
        cases iv
        refine ⟨k, rfl, ?_⟩
        have w3 := w2.ext gr.e (gr.mu m2)
        cases k with
        | false =>
          rw [if_neg (by decide)]
          exact ⟨false, rfl, q3 false R2 G' H' gr.e rfl (gr.mu m2)⟩
        | true =>
          rw [if_pos rfl]
          rw [if_pos rfl] at q3
          refine ⟨R2, G', ρ1, μ2, w3, ?_⟩
          have q4 : After X.K X.mg (fun cls d H' => W cls d σ H') rEq (M.bind (l ρ1) (fun z => liftO ((g' e z).bind asB)) μ2) R2 G' H' Q := by
            cases q5 : M.bind (l ρ1) (fun z => liftO ((g' e z).bind asB)) μ2 with
            | ok d0 μ0 => rw [q5] at q3; exact fun v R' G2 H2 x' => q3 v R' G2 H2 (gr.e.trans x')
            | exc c fs μ0 => rw [q5] at q3; exact fun C dx xs R' G2 H2 x' => q3 C dx xs R' G2 H2 (gr.e.trans x')
            | stuck => rw [q5] at q3; exact q3
          refine (After.bind (rel := rIs X.K X.mg) q4).imp fun u H4 ⟨R4, G4, z, μ4, x4, i4, m4, q5⟩ => ?_
          have w4 := w3.ext x4 m4
          cases hg' : g' e z with
          | none => rw [hg'] at q5; exact q5.elim
          | some t =>
            rw [hg'] at q5
            cases t with
            | bl k1 =>
              refine ⟨R4, G4, e, z, .bl k1, w4.w0, (i2.mono gr.e.g gr.e.idx).mono x4.g x4.idx, i4, hg', fun v2 G5 H5 gr2 iv2 => ?_⟩
              cases iv2
              exact ⟨k1, rfl, q5 k1 R4 G5 H5 gr2.e rfl (gr2.mu m4)⟩
            | _ => exact q5.elim
      | _ => cases hk
end
/-! ### defs in variables -/
section
variable {P : Program} {w : World} {K : PySem.W.Frag} {mg : Str → Option Value} {base : Heap} {k : Nat}
theorem hasT_nil : HasT P w K mg base k [] := fun x F h => by cases h
theorem hasT_cons {x : Str} {j : Nat} {ps : List Str} {F : List D → M D} {tbl : List (Str × (List D → M D))} (h : Has P w K mg base x j ps F) (r : HasT P w K mg base k tbl) (hj : j ≤ k := by decide) : HasT P w K mg base k ((x, F) :: tbl) := fun y F' e => by
  rw [List.lookup_cons] at e
  cases q : (y == x) with
  | true =>
    rw [q] at e
    cases e
    cases beq_iff_eq.mp q
    exact ⟨j, ps, hj, h⟩
  | false => rw [q] at e; exact r y F' e
end
/-! ### the text -/
structure TT (fa : List He.Fa) (fn : List He.DefD) (tf : List He.Defn) (ex : PySem.W.Frag → Bool) (w : World) (K : PySem.W.Frag) (mg : Str → Option Value) (base : Heap) : Prop where
  tx : ∃ h, Tx fa fn tf ex w K mg h
  tab : ∀ p ∈ tf, LamX.TabB base mg (He.cT K p).1 (He.cT K p).2
  tb : Tb.T = tf.map fun p => ((He.cT K p).2, p.1 ++ ".<locals>." ++ "<lambda>")
  nd : (tf.map fun p => (He.cT K p).2).Nodup
section
variable {fa : List He.Fa} {fn : List He.DefD} {tf : List He.Defn} {ex : PySem.W.Frag → Bool} {w : World} {K : PySem.W.Frag} {mg : Str → Option Value} {base : Heap} {x : Str} {st : Stmt} {ps : List Str}
theorem TT.glo (T : TT fa fn tf ex w K mg base) (hx : He.Fa.glo x ∈ fa) : mg x = some (.ref (He.ga K x)) := T.tx.elim fun _ t => t.glo hx
theorem TT.free (T : TT fa fn tf ex w K mg base) (hx : He.Fa.free x ∈ fa) : mg x = none := T.tx.elim fun _ t => t.free hx
theorem TT.wr (T : TT fa fn tf ex w K mg base) (i : Nat) (hd : fn[i]? = some (dTop x st)) (hx : He.Fa.glo x ∈ fa)
    (hb : ∀ (kV doc pm : Value) (an : Option Addr) (cdv ct : Value) (us : List Value), us.length = ps.length → bindArgs (PySem.W.fnOf x x (defArgs st) (defBody st) (defScope st) .none kV doc pm an cdv ct) ⟨us, []⟩ = pure (ps.zip us)) : Wr K mg x st ps := T.tx.elim fun _ t => t.wr i hd hx hb
theorem TT.wrC (T : TT fa fn tf ex w K mg base) (i : Nat) (hd : fn[i]? = some (dTop x st)) (hx : He.Fa.glo x ∈ fa)
    (hb : ∀ (kV doc pm : Value) (an : Option Addr) (cdv ct : Value) (us : List Value), us.length = ps.length → bindArgs (PySem.W.fnOf x x (defArgs st) (defBody st) (defScope st) .none kV doc pm an cdv ct) ⟨us, []⟩ = pure (ps.zip us)) : WrC K mg x st ps (He.cT K (x, none)).1 := T.tx.elim fun _ t => t.wrC i hd hx hb
theorem TT.ini (T : TT fa fn tf ex w K mg base) {q : Str} (i : Nat) (hd : fn[i]? = some (dIni x q st))
    (hb : ∀ (kV doc pm : Value) (an : Option Addr) (cdv ct : Value) (us : List Value), us.length = ps.length → bindArgs (PySem.W.fnOf "__init__" q (defArgs st) (defBody st) (defScope st) .none kV doc pm an cdv ct) ⟨us, []⟩ = pure (ps.zip us)) :
    ∃ fd, Fun K "__init__" q st (He.ma K (He.ga K x) "__init__") fd ∧ L2.Binds K fd ps [] := T.tx.elim fun _ t => t.ini i hd hb
theorem TT.more (T : TT fa fn tf ex w K mg base) : ex K = true := T.tx.elim fun _ t => t.c.more
theorem TT.mt (T : TT fa fn tf ex w K mg base) {p : He.Defn} (hp : p ∈ tf) : ((He.cT K p).2, p.1 ++ ".<locals>." ++ "<lambda>") ∈ Tb.T := by
  rw [T.tb]
  exact List.mem_map.mpr ⟨p, hp, rfl⟩
theorem inj_nd {α β : Type} {f : α → β} : ∀ {l : List α}, (l.map f).Nodup → ∀ {a b : α}, a ∈ l → b ∈ l → f a = f b → a = b
  | [], _, _, _, ha, _, _ => by cases ha
  | c :: l, h, a, b, ha, hb, e => by
    rw [List.map_cons, List.nodup_cons] at h
    rcases List.mem_cons.mp ha with ha | ha <;> rcases List.mem_cons.mp hb with hb | hb
    · rw [ha, hb]
    · rw [ha] at e; exact absurd (List.mem_map.mpr ⟨b, hb, e.symm⟩) h.1
    · rw [hb] at e; exact absurd (List.mem_map.mpr ⟨a, ha, e⟩) h.1
    · exact inj_nd h.2 ha hb e
theorem TT.uq (T : TT fa fn tf ex w K mg base) {p : He.Defn} (hp : p ∈ tf) : ∀ q ∈ Tb.T, q.1 = (He.cT K p).2 → q.2 = p.1 ++ ".<locals>." ++ "<lambda>" := fun q hq e => by
  rw [T.tb] at hq
  obtain ⟨p', hp', rfl⟩ := List.mem_map.mp hq
  rw [inj_nd T.nd hp' hp e]
end
theorem callL0 (L : D) (th : M D) (ρ : Env) : callL L 0 th (vH (Slot.fr L :: ρ)) = th := if_pos rfl
theorem cut_ret (oi : Option Nat) (m : Env' → M D) (ρ : Env) (μ : List Mob) : cutR oi (sH m (fun d _ μ => .rt d μ) ρ μ) = match m (vH ρ) μ with
    | .ok d μ' => .rt d μ'
    | _ => .stuck := by
  unfold sH
  cases m (vH ρ) μ <;> rfl
/-- the i-th statement of a class body -/
def inCls (st : Stmt) (i : Nat) : Stmt := match st with
  | .ClassDef (body := b) .. => b.getD i (.Pass ⟨0, 0, 0, 0⟩)
  | _ => .Pass ⟨0, 0, 0, 0⟩
end DX
set_option Elab.async false
set_option linter.all false
set_option maxRecDepth 100000
set_option maxHeartbeats 4000000
/-! DU: how shallow functions are evaluated: rewriting rules -/
namespace DX
open PySem PySem.Spec PyProof.Rows L2
section
variable {α β γ : Type}
/-! ### the monad -/
def bK (r : Res α) (f : α → M β) : Res β := match r with
  | .ok a μ => f a μ
  | .exc c fs μ => .exc c fs μ
  | .stuck => .stuck
theorem ev_bind (m : M α) (f : α → M β) (μ : List Mob) : M.bind m f μ = bK (m μ) f := by unfold M.bind bK; cases m μ <;> rfl
theorem bK_ok (a : α) (μ : List Mob) (f : α → M β) : bK (.ok a μ) f = f a μ := rfl
theorem bK_exc (c : Str) (fs : List (Str × D)) (μ : List Mob) (f : α → M β) : bK (.exc c fs μ) f = .exc c fs μ := rfl
theorem bK_stuck (f : α → M β) : bK .stuck f = .stuck := rfl
theorem ev_pure (a : α) (μ : List Mob) : M.pure a μ = .ok a μ := rfl
theorem ev_lift (a : α) (μ : List Mob) : liftO (some a) μ = .ok a μ := rfl
theorem ev_lift0 (μ : List Mob) : (liftO (none : Option α)) μ = .stuck := rfl
theorem ev_stuck (μ : List Mob) : (stuck : M α) μ = .stuck := rfl
theorem ev_ite (b : Bool) (m n : M α) (μ : List Mob) : (if b = true then m else n) μ = if b = true then m μ else n μ := by cases b <;> rfl
theorem bind_fun (m : M α) (f : α → M β) : M.bind m f = fun μ => bK (m μ) f := funext (ev_bind m f)
end
theorem ev_var0 (d : D) (ρ : Env') (μ : List Mob) : dVar (some d :: ρ) 0 μ = .ok d μ := rfl
theorem ev_varS (o : Option D) (ρ : Env') (i : Nat) (μ : List Mob) : dVar (o :: ρ) (i + 1) μ = dVar ρ i μ := rfl
theorem vH_fr (d : D) (ρ : Env) : vH (.fr d :: ρ) = some d :: vH ρ := rfl
theorem vH_un (ρ : Env) : vH (.un :: ρ) = none :: vH ρ := rfl
theorem vH_ow (d : D) (ρ : Env) : vH (.ow d :: ρ) = none :: vH ρ := rfl
theorem vH_nil : vH [] = [] := rfl

/-! ### statements -/
def sqK (r : SR) (n : Sm) : SR := match r with
  | .nx ρ μ => n ρ μ
  | r => r
theorem ev_seq (m n : Sm) (ρ : Env) (μ : List Mob) : sSeq m n ρ μ = sqK (m ρ μ) n := by unfold sSeq sqK; cases m ρ μ <;> rfl
theorem sqK_nx (n : Sm) (ρ : Env) (μ : List Mob) : sqK (.nx ρ μ) n = n ρ μ := rfl
theorem sqK_rt (n : Sm) (d : D) (μ : List Mob) : sqK (.rt d μ) n = .rt d μ := rfl
theorem sqK_bk (n : Sm) (ρ : Env) (μ : List Mob) : sqK (.bk ρ μ) n = .bk ρ μ := rfl
theorem sqK_ct (n : Sm) (ρ : Env) (μ : List Mob) : sqK (.ct ρ μ) n = .ct ρ μ := rfl
theorem sqK_exc (n : Sm) (c fs) (ρ : Env) (μ : List Mob) : sqK (.exc c fs ρ μ) n = .exc c fs ρ μ := rfl
theorem ev_nx (ρ : Env) (μ : List Mob) : sNx ρ μ = .nx ρ μ := rfl
def hK {α : Type} (r : Res α) (f : α → Sm) (ρ : Env) : SR := match r with
  | .ok d μ => f d ρ μ
  | .exc c fs μ => .exc c fs ρ μ
  | .stuck => .stuck
theorem ev_sH {α : Type} (m : Env' → M α) (f : α → Sm) (ρ : Env) (μ : List Mob) : sH m f ρ μ = hK (m (vH ρ) μ) f ρ := by unfold sH hK; cases m (vH ρ) μ <;> rfl
theorem hK_ok {α : Type} (d : α) (μ : List Mob) (f : α → Sm) (ρ : Env) : hK (.ok d μ) f ρ = f d ρ μ := rfl
theorem hK_exc {α : Type} (c fs) (μ : List Mob) (f : α → Sm) (ρ : Env) : hK (.exc c fs μ) f ρ = .exc c fs ρ μ := rfl
def stK (r : Res D) (i : Nat) (ρ : Env) : SR := match r with
  | .ok d μ => .nx (ρ.set i (.fr d)) μ
  | .exc c fs μ => .exc c fs ρ μ
  | .stuck => .stuck
theorem ev_set (i : Nat) (m : Env' → M D) (ρ : Env) (μ : List Mob) : sSetH i m ρ μ = stK (m (vH ρ) μ) i ρ := by unfold sSetH sH stK; cases m (vH ρ) μ <;> rfl
theorem stK_ok (d : D) (μ : List Mob) (i : Nat) (ρ : Env) : stK (.ok d μ) i ρ = .nx (ρ.set i (.fr d)) μ := rfl
theorem stK_exc (c fs) (μ : List Mob) (i : Nat) (ρ : Env) : stK (.exc c fs μ) i ρ = .exc c fs ρ μ := rfl
def p2K (r : Res (List D)) (i j : Nat) (ρ : Env) : SR := match r with
  | .ok [a, b] μ => .nx ((ρ.set i (.fr a)).set j (.fr b)) μ
  | .exc c fs μ => .exc c fs ρ μ
  | _ => .stuck
theorem ev_par2 (i j : Nat) (m : Env' → M (List D)) (ρ : Env) (μ : List Mob) : sPar2H i j m ρ μ = p2K (m (vH ρ) μ) i j ρ := by
  unfold sPar2H sH p2K
  cases m (vH ρ) μ with
  | ok ds μ' => match ds with
    | [] => rfl
    | [_] => rfl
    | [_, _] => rfl
    | _ :: _ :: _ :: _ => rfl
  | exc c fs μ' => rfl
  | stuck => rfl
theorem p2K_ok (a b : D) (μ : List Mob) (i j : Nat) (ρ : Env) : p2K (.ok [a, b] μ) i j ρ = .nx ((ρ.set i (.fr a)).set j (.fr b)) μ := rfl
theorem p2K_exc (c fs) (μ : List Mob) (i j : Nat) (ρ : Env) : p2K (.exc c fs μ) i j ρ = .exc c fs ρ μ := rfl
def tuK (r : Res D) (p : Pat) (ρ : Env) : SR := match r with
  | .ok d μ => (match asg Slot.fr p d ρ with
    | some ρ' => .nx ρ' μ
    | none => .stuck)
  | .exc c fs μ => .exc c fs ρ μ
  | .stuck => .stuck
theorem ev_tup (p : Pat) (m : Env' → M D) (ρ : Env) (μ : List Mob) : sTupH p m ρ μ = tuK (m (vH ρ) μ) p ρ := by unfold sTupH sH tuK; cases m (vH ρ) μ <;> rfl
theorem tuK_2 (a b : D) (μ : List Mob) (i j : Nat) (ρ : Env) : tuK (.ok (.tup [a, b]) μ) (.tu [.nm i, .nm j]) ρ = .nx ((ρ.set i (.fr a)).set j (.fr b)) μ := rfl
theorem tuK_3 (a b c : D) (μ : List Mob) (i j l : Nat) (ρ : Env) : tuK (.ok (.tup [a, b, c]) μ) (.tu [.nm i, .nm j, .nm l]) ρ = .nx (((ρ.set i (.fr a)).set j (.fr b)).set l (.fr c)) μ := rfl
theorem tuK_exc (c fs) (μ : List Mob) (p : Pat) (ρ : Env) : tuK (.exc c fs μ) p ρ = .exc c fs ρ μ := rfl
def ifK (r : Res Bool) (m n : Sm) (ρ : Env) : SR := match r with
  | .ok b μ => if b = true then m ρ μ else n ρ μ
  | .exc c fs μ => .exc c fs ρ μ
  | .stuck => .stuck
theorem ev_if (t : Env' → M Bool) (m n : Sm) (ρ : Env) (μ : List Mob) : sIf (tH t) m n ρ μ = ifK (t (vH ρ) μ) m n ρ := by
  unfold sIf sTst tH ifK
  cases t (vH ρ) μ with
  | ok b μ' => cases b <;> rfl
  | exc c fs μ' => rfl
  | stuck => rfl
theorem ifK_ok (b : Bool) (μ : List Mob) (m n : Sm) (ρ : Env) : ifK (.ok b μ) m n ρ = if b = true then m ρ μ else n ρ μ := rfl
theorem ifK_exc (c fs) (μ : List Mob) (m n : Sm) (ρ : Env) : ifK (.exc c fs μ) m n ρ = .exc c fs ρ μ := rfl
def raK (r : Res (List D)) (x : Str) (ns : List Str) (ρ : Env) : SR := match r with
  | .ok ds μ => if ds.length = ns.length ∧ ns.length ≤ 900 then .exc x (ns.zip ds).reverse ρ μ else .stuck
  | .exc c fs μ => .exc c fs ρ μ
  | .stuck => .stuck
theorem ev_raise (x : Str) (ns : List Str) (m : Env' → M (List D)) (ρ : Env) (μ : List Mob) : sRaise x ns m ρ μ = raK (m (vH ρ) μ) x ns ρ := by unfold sRaise sH raK; cases m (vH ρ) μ <;> rfl
theorem raK_1 (x n : Str) (a : D) (ρ : Env) (μ : List Mob) : raK (.ok [a] μ) x [n] ρ = .exc x [(n, a)] ρ μ := rfl
theorem raK_2 (x n k : Str) (a b : D) (ρ : Env) (μ : List Mob) : raK (.ok [a, b] μ) x [n, k] ρ = .exc x [(k, b), (n, a)] ρ μ := rfl
def endK (r : SR) : Res D := match r with
  | .rt d μ => .ok d μ
  | .nx _ μ => .ok .non μ
  | .exc c fs _ μ => .exc c fs μ
  | _ => .stuck
theorem endK_rt (d : D) (μ : List Mob) : endK (.rt d μ) = .ok d μ := rfl
theorem endK_nx (ρ : Env) (μ : List Mob) : endK (.nx ρ μ) = .ok .non μ := rfl
theorem endK_exc (c fs) (ρ : Env) (μ : List Mob) : endK (.exc c fs ρ μ) = .exc c fs μ := rfl
theorem ev_body0 (n : Nat) (m : Sm) (μ : List Mob) : bodyF 0 n m [] μ = endK (m (List.replicate n .un) μ) := by
  show (match m (List.replicate n .un) μ with | .rt d μ' => _ | .nx _ μ' => _ | .exc c fs _ μ' => _ | _ => _) = _
  unfold endK
  cases m (List.replicate n .un) μ <;> rfl
theorem ev_body1 (n : Nat) (m : Sm) (a : D) (μ : List Mob) : bodyF 1 n m [a] μ = endK (m (.fr a :: List.replicate (n - 1) .un) μ) := by
  show (match m (.fr a :: List.replicate (n - 1) .un) μ with | .rt d μ' => _ | .nx _ μ' => _ | .exc c fs _ μ' => _ | _ => _) = _
  unfold endK
  cases m (.fr a :: List.replicate (n - 1) .un) μ <;> rfl
theorem ev_body2 (n : Nat) (m : Sm) (a b : D) (μ : List Mob) : bodyF 2 n m [a, b] μ = endK (m (.fr a :: .fr b :: List.replicate (n - 2) .un) μ) := by
  show (match m (.fr a :: .fr b :: List.replicate (n - 2) .un) μ with | .rt d μ' => _ | .nx _ μ' => _ | .exc c fs _ μ' => _ | _ => _) = _
  unfold endK
  cases m (.fr a :: .fr b :: List.replicate (n - 2) .un) μ <;> rfl
theorem ev_body3 (n : Nat) (m : Sm) (a b c : D) (μ : List Mob) : bodyF 3 n m [a, b, c] μ = endK (m (.fr a :: .fr b :: .fr c :: List.replicate (n - 3) .un) μ) := by
  show (match m (.fr a :: .fr b :: .fr c :: List.replicate (n - 3) .un) μ with | .rt d μ' => _ | .nx _ μ' => _ | .exc c fs _ μ' => _ | _ => _) = _
  unfold endK
  cases m (.fr a :: .fr b :: .fr c :: List.replicate (n - 3) .un) μ <;> rfl

/-! ### operators -/
theorem dAdd_ii (i j : Int) : dAdd (.int i) (.int j) = some (.int (i + j)) := rfl
theorem dSub_ii (i j : Int) : dSub (.int i) (.int j) = some (.int (i - j)) := rfl
theorem dNeg_i (i : Int) : dNeg (.int i) = some (.int (-i)) := rfl
theorem dMul_ii (i j : Int) (h : mulB i j = true) : dMul (.int i) (.int j) = some (.int (i * j)) := if_pos h
theorem dMod_ii (i j : Int) (h : j ≠ 0) : dMod (.int i) (.int j) = some (.int (i.fmod j)) := if_pos h
theorem dFdiv_ii (i j : Int) (h : j ≠ 0) (h2 : Builtin.divisionGoesByPylong i j = false) : dFdiv (.int i) (.int j) = some (.int (i.fdiv j)) := if_pos ⟨h, h2⟩
theorem dLt_ii (i j : Int) : dLt (.int i) (.int j) = some (.bl (decide (i < j))) := rfl
theorem dLe_ii (i j : Int) : dLe (.int i) (.int j) = some (.bl (decide (i ≤ j))) := rfl
theorem dGt_ii (i j : Int) : dGt (.int i) (.int j) = some (.bl (decide (i > j))) := rfl
theorem dGe_ii (i j : Int) : dGe (.int i) (.int j) = some (.bl (decide (i ≥ j))) := rfl
theorem dAbs_i (i : Int) : dAbs (.int i) = some (.int (if i < 0 then -i else i)) := rfl
theorem dInt_i (i : Int) : dInt (.int i) = some (.int i) := rfl
theorem d1_ (g : D → Option D) (d : D) : d1 g [d] = g d := rfl
theorem dTru_bl (b : Bool) : dTru (.bl b) = some b := rfl
theorem asB_bl (b : Bool) : asB (.bl b) = some b := rfl
theorem obind (a : D) (f : D → Option Bool) : (some a).bind f = f a := rfl
theorem omapB (b : Bool) (f : Bool → D) : (some b).map f = some (f b) := rfl
theorem dTup_1 (a : D) : dTup [a] = some (.tup [a]) := rfl
theorem dTup_2 (a b : D) : dTup [a, b] = some (.tup [a, b]) := rfl
theorem dTup_3 (a b c : D) : dTup [a, b, c] = some (.tup [a, b, c]) := rfl
theorem dLst_2 (a b : D) : dLst [a, b] = some (.lst [a, b]) := rfl
theorem atI_0 {α : Type} (x : α) (xs : List α) : atI (x :: xs) 0 = some x := by
  unfold atI ixN
  rw [if_pos (by omega), if_pos (by simp)]
  rfl
theorem atI_1 {α : Type} (x y : α) (xs : List α) : atI (x :: y :: xs) 1 = some y := by
  unfold atI ixN
  rw [if_pos (by omega), if_pos (by simp; omega)]
  rfl
theorem dIx_t0 (x : D) (xs : List D) : dIx (.tup (x :: xs)) (.int 0) = some x := atI_0 x xs
theorem dIx_t1 (x y : D) (xs : List D) : dIx (.tup (x :: y :: xs)) (.int 1) = some y := atI_1 x y xs
theorem dIx_l0 (x : D) (xs : List D) : dIx (.lst (x :: xs)) (.int 0) = some x := atI_0 x xs
theorem dIx_l1 (x y : D) (xs : List D) : dIx (.lst (x :: y :: xs)) (.int 1) = some y := atI_1 x y xs
end DX
set_option Elab.async false
set_option linter.all false
set_option maxRecDepth 100000
set_option autoImplicit true
namespace DX
open PySem PySem.Spec PyProof.Rows L2
variable [Tb]
/-! ### exceptions made, not raised -/
section
variable {X : Cx} {W : WX} {e : Expr} {es : List Expr} {x : Str} {p pos pos2 : Pos} {ns : List Str} {k : Nat}
theorem pe_mk {e : Expr} {t : L2.St → Hp → XK → Prop} (h : PMk X e t) : PE X e (fun σ H Q => t σ H fun cls d H' => ∃ C, cls = .ref C ∧ ∀ a, H' a = none → Q (.ref a) (upd H' a (exoS a C d))) := by
  constructor
  intro pins s σ H Q I q0
  refine thn (h pins s σ H _ I q0) fun u s' hu => ?_
  obtain ⟨a, oe, vs, sI, H', cls, d, rfl, J, kk, hne, ha, hz, hd, h1, na, os, ag, r, C, rfl, q⟩ := hu
  have nf : a ∉ frs X.stack := fun hb => by
    obtain ⟨_, u, e', _⟩ := J.stack.mem hb
    rw [hne] at e'; cases e'
  have nB : (PySem.W.hideAll sI.heap (frs X.stack)).get? a = none := by
    cases q : (PySem.W.hideAll sI.heap (frs X.stack)).get? a with
    | none => rfl
    | some o =>
      have z := PySem.W.of_hideAll _ q
      rw [hne] at z; cases z
  exact ⟨.ref a, _, landX J (fun b o e hb => PySem.W.hideAll_get _ e hb) (fun b o e => kk b o (PySem.W.of_hideAll _ e)) (Heap.UpToSlots.of_keeps kk) os ag na nf nB ha hz.1 hz.2 hd, rfl, q a na⟩
def dExn (x : Str) (ns : List Str) (ds : List D) : Option D := if ds.length = ns.length ∧ ns.length ≤ 900 then some (.exn x (ns.zip ds).reverse) else none
theorem e_exn {m : Env' → M (List D)} (T : ExT X.prog X.w X.K X.mg X.base x ns) (hr : RoomG k X.A) (tk : Takes X W) (hg : Gl X x) (ha : A' X W (e :: es) m) (hk : 2 ≤ k := by decide) (hdb : (x == ("__debug__" : Str)) = false := by decide)
    (he : starEach (e :: es) X.env = (false, eval e X.env) :: starEach es X.env := by rfl) (hpl : (backTo pos (starEach es X.env)).any (·.1) = false := by rfl) :
    E' X W (.Call (.Name x p) (e :: es) [] pos) (fun ρ => M.bind (m ρ) fun ds => liftO (dExn x ns ds)) := by
  obtain ⟨C, fI, fd, hm, TC, TX, iC, tI, hno, hb, F⟩ := T
  refine PE.weak (pe_mk (pmk_oex (ds := []) (dvs := []) TC iC tI F (hr.r.mono hk) hb .nil (passes_call tk fun _ _ _ _ z => z.elim) hg hm ha hdb he hpl)) fun σ H Q h => ?_
  obtain ⟨R, G, ρ, μ, w, h⟩ := h.bind (rel := rAll X.K X.mg) (f := fun _ ds => liftO (dExn x ns ds))
  refine ⟨R, G, ρ, μ, w, h.imp fun vs H1 ⟨R1, G1, ρ1, μ1, ds, w1, i1, q1⟩ => ?_⟩
  obtain ⟨z, hz, q⟩ := after_lift w1.mu q1
  unfold dExn at hz
  split at hz
  · rename_i hl
    cases hz
    have hvs : vs.length = ns.length := i1.length.trans hl.1
    refine ⟨by omega, fun a na => ⟨a, vs, by simp, hvs, upd_same, fun d hd hda => ⟨rfl, d, (ns.zip vs).reverse, upd_same, ?_, ?_, ?_⟩⟩⟩
    · rw [upd_ne hda, upd_same]
    · rw [upd_ne hda] at hd; exact hd
    · have hd' : H1 d = none := by rw [upd_ne hda] at hd; exact hd
      have eH : upd (del (upd (upd (upd H1 a (exo a C none)) d (exd d (ns.zip vs).reverse)) a (exo a C (some d))) a) d (.xd (ns.zip vs).reverse) = upd H1 d (.xd (ns.zip vs).reverse) := by
        funext b
        by_cases h1 : b = d
        · subst h1; rw [upd_same, upd_same]
        · rw [upd_ne h1, upd_ne h1]
          by_cases h2 : b = a
          · subst h2; rw [del_same, na]
          · rw [del_ne h2, upd_ne h2, upd_ne h1, upd_ne h2]
      rw [eH]
      refine ⟨C, rfl, fun a2 na2 => ?_⟩
      have w0' : W0 R1 G1 H1 := w1.w0
      have gr := Grow.new (o := .xd (ns.zip vs).reverse) w0' hd' rfl
      have gr2 := Grow.new (o := exoS a2 C (some d)) ⟨gr.e.s, gr.e.cl, (gr.mu w1.mu).hr⟩ na2 rfl
      obtain ⟨z1, z2⟩ := i1.zipF hl.1
      have a2d : a2 ≠ d := fun z => by rw [z, upd_same] at na2; cases na2
      refine q (.ref a2) _ _ ⟨gr.e.trans gr2.e, fun b o hb => gr2.k b o (gr.k b o hb)⟩ (.exn hm upd_same (fun _ => ⟨d, rfl, ?_⟩) z1 (z2.mono (fun b o hb => gr2.e.g b o (gr.e.g b o hb)) fun _ _ h => h))
      exact gr2.e.g d _ upd_same
  · cases hz
end
end DX
set_option Elab.async false
set_option linter.all false
set_option maxRecDepth 100000
set_option maxHeartbeats 4000000
namespace DX
open PySem PySem.Spec PyProof.Rows L2
variable [Tb]
/-! ### exceptions without fields -/
/-- the promise of an __init__ that gives no field -/
def sp0 (K : PySem.W.Frag) (C : Addr) : Sp := fun vs H Q _ => ∃ a : Addr, vs = [.ref a] ∧ H a = some (exo a C none) ∧ Q .non H
section
variable {P : Program} {w : World} {K : PySem.W.Frag} {mg : Str → Option Value} {base : Heap} {C fI : Addr} {fd : FuncData} {x qual t : Str} {st : Stmt} {p1 p2 p3 p4 p5 p6 : Pos} {j : Nat}
theorem init0 (F : Fun K x qual st fI fd) (T : OexC K C) (B : BaseT K mg "FlowError") (S : FnScope ["self"] ["self"] (defScope st)) (hgb : (defScope st).names.lookup ("FlowError" : Str) = some .globalImplicit)
    (hc : ∀ (n fI : Addr) (cdv : Value), ∃ pl : Sem Bool, eval (.Call (.Attribute (.Name "FlowError" p1) "__init__" p2) [.Name "self" p3, .Constant (.str t) j p4] [] p5) (envOfC qual (defScope st) n fI cdv) = initE (envOfC qual (defScope st) n fI cdv) pl p1 p2 p5 [.Name "self" p3, .Constant (.str t) j p4])
    (hb : defBody st = [.Expr (.Call (.Attribute (.Name "FlowError" p1) "__init__" p2) [.Name "self" p3, .Constant (.str t) j p4] [] p5) p6]) : FnOk P w K mg base (L2.CX P w) 1 fI fd ["self"] (sp0 K C) := by
  have vis : ∀ y ∈ (["self"] : List Str), Vis (defScope st) y := fun y hy => (S.par y hy).elim Or.inl fun z => Or.inr (Or.inl z)
  refine F.okX S (fun vs H Q E ⟨a, e1, _⟩ => by rw [e1]; rfl) (fun cdv A outer s H vs Q E hr h => ?_)
  obtain ⟨a, e1, e3, q⟩ := h
  subst e1
  obtain ⟨pl, hc⟩ := hc s.heap.objs.size fI cdv
  rw [hb]
  refine ⟨_, pss_one (ps_expr (pe_baseinit (pl := pl) B hgb (pa_cons (pe_var (i := 0) rfl (vis _ (by simp))) (pa_cons pe_str pa_nil)) hc) (by rfl)), ?_⟩
  exact ⟨_, rfl, a, C, _, rfl, by simp, T, e3, q⟩
end
/-- the name x means an exception class without fields -/
def ExT0 (P : Program) (w : World) (K : PySem.W.Frag) (mg : Str → Option Value) (base : Heap) (x : Str) : Prop :=
  ∃ (C fI : Addr) (fd : FuncData), mg x = some (.ref C) ∧ OexC K C ∧ XfC K C ∧ PySem.W.findIn K (.ref C) "__init__" = some (some (.ref fI)) ∧ PySem.W.typeIn K (.ref fI) = some (.type "function") ∧
    L2.Binds K fd ["self"] [] ∧ FnOk P w K mg base (L2.CX P w) 1 fI fd ["self"] (sp0 K C)
section
variable {X : Cx} {W : WX} {x : Str} {p pos : Pos} {k : Nat} {pins : List (Addr × Obj)} {σ : L2.St} {H : Hp} {s : Shared}
/-- of the exact object only the class and the dict stay known -/
theorem looser {a C : Addr} (I : Inv X pins σ H s) (e : H a = some (exo a C none)) : Inv X pins σ (upd H a (exoS a C none)) s := by
  have tr : ∀ {b : Addr} {o : HO}, H b = some o → o ≠ exo a C none → b ≠ a := fun {b o} q n z => by rw [z, e] at q; cases q; exact n rfl
  have un : Un X.fs [] H (upd H a (exoS a C none)) s.heap s.heap := by
    constructor
    · intro b o q _ _ _; exact q
    · intro b o q _ _ _; exact ⟨o.slots, q⟩
    · intro b o _ n _
      rw [upd_ne (fun z => by rw [z, e] at n; cases n)]
      exact n
    · intro b o q _; exact ⟨o, q⟩
    · intro b xs q; rw [upd_ne (tr q (by intro z; cases z))]; exact q
    · intro b o v q; rw [upd_ne (tr q (by intro z; cases z))]; exact q
    · intro b ps q; exact ⟨#[], by rw [upd_ne (tr q (by intro z; cases z)), q]; simp⟩
  have hk : HOk X.prog X.w (upd H a (exoS a C none)) s.heap := fun b o q => by
    by_cases hb : b = a
    · subst hb
      rw [upd_same] at q
      cases q
      obtain ⟨⟨t1, he⟩, _⟩ := (I.hok b _ e : ObjOk X.prog X.w H s.heap b (exo b C none))
      exact exoS_ok he rfl rfl rfl
    · rw [upd_ne hb] at q
      exact (I.hok b o q).stay (fun c v _ z => z) (fun c hc => by rw [upd_ne (tr hc (by intro z; cases z))]; exact hc) (fun c xs hc => by rw [upd_ne (tr hc (by intro z; cases z))]; exact hc)
  have J := I.un (t' := s.toks) un hk
  cases s
  exact J
theorem e_exn0 (T : ExT0 X.prog X.w X.K X.mg X.base x) (hr : RoomG k X.A) (tk : Takes X W) (hg : Gl X x) (hk : 2 ≤ k := by decide) (hdb : (x == ("__debug__" : Str)) = false := by decide) :
    E' X W (.Call (.Name x p) [] [] pos) (fun _ => M.pure (.exn x [("", .non)])) := by
  obtain ⟨C, fI, fd, hm, TC, TX, iC, tI, hb, F1⟩ := T
  refine ⟨fun pins s σ H Q I h => ?_⟩
  refine wpAny_Call_Name_kw (ld_glob I hg hm ?_ hdb)
  refine PySem.W.callWith_K0 I.kIn TC.kC ?_
  obtain ⟨R, G, ρ, μ, w, q⟩ := h
  obtain ⟨nm, qn, N, bs, bm, sn, sub, ab, col, dd, k0, k1, k2, k3, k5, hC, hbm⟩ := TC.cls
  obtain ⟨hp, g, dr, tk0, os⟩ := s
  have hsz : hp.objs.size ≤ hp.objs.size + 1 := Nat.le_succ _
  have hn : H (hp.objs.size + 1) = none := I.hok.fresh hsz
  have kk : ∀ b o, hp.get? b = some o → ((hp.push (PySem.W.kdv_tup [])).push (PySem.HandSPX.excO C hp.objs.size)).get? b = some o := fun b o e => Heap.get?_push_of_some _ (Heap.get?_push_of_some _ e)
  have hget : ((hp.push (PySem.W.kdv_tup [])).push (PySem.HandSPX.excO C hp.objs.size)).get? (hp.objs.size + 1) = some (PySem.HandSPX.excO C hp.objs.size) := by heap_get
  have I2 : Inv X pins σ (upd H (hp.objs.size + 1) (exo (hp.objs.size + 1) C none)) ⟨(hp.push (PySem.W.kdv_tup [])).push (PySem.HandSPX.excO C hp.objs.size), g, dr, tk0, os⟩ :=
    I.laid (t' := tk0) (a := hp.objs.size + 1) (o := exo (hp.objs.size + 1) C none) (h' := (hp.push (PySem.W.kdv_tup [])).push (PySem.HandSPX.excO C hp.objs.size)) kk hsz (exo_ok hget)
  have r2 : Vals [V.ref (hp.objs.size + 1)] [Value.ref (hp.objs.size + 1)] := .cons rfl .nil
  have px : Passes (L2.CX X.prog X.w) X (fun _ _ _ => False) := passes_call tk fun _ _ _ _ z => z.elim
  refine wpAny_call (PySem.HandSPX.call_own F.excBase_ValueError (fun Y => PySem.HandSPX.refsVE_contains Y bm hbm) (I.kIn _ _ hC) (PySem.W.looks_findIn I.kIn iC) (fun self => PySem.W.bind_fn I.kIn self tI) (Nat.zero_le _)
    (codeAny_mono (F1.run _ X.stack _ _ ⟨[Value.ref (hp.objs.size + 1)], []⟩ [Value.ref (hp.objs.size + 1)] [V.ref (hp.objs.size + 1)] (fun v H2 => v = .non ∧ H2 = upd H (hp.objs.size + 1) (exo (hp.objs.size + 1) C none)) (fun _ _ _ => False) ((hr.r.mono hk).make C [] []) (I2.env0.make C [] [])
      (hb _ [Value.ref (hp.objs.size + 1)] I2.kIn rfl) r2 ⟨_, rfl, upd_same, rfl, rfl⟩) fun r s' hq' => ?_))
  cases r with
  | error er => exact px pins σ _ _ er s' I2 hq'
  | ok fl =>
    cases fl with
    | ret u =>
      obtain ⟨v, H2, os2, bare2, un2, hok2, rv, ev, eH⟩ := hq'
      subst ev
      subst eH
      obtain ⟨h2, g2, d2, t2, os'⟩ := s'
      cases os2
      have I3 := I2.call (ch := []) (h' := h2) (g' := g2) (t' := t2) (d' := d2) un2 hok2 bare2 (fun _ z => nomatch z)
      have I4 := looser (a := hp.objs.size + 1) (C := C) I3 upd_same
      have eH : upd (upd H (hp.objs.size + 1) (exo (hp.objs.size + 1) C none)) (hp.objs.size + 1) (exoS (hp.objs.size + 1) C none) = upd H (hp.objs.size + 1) (exoS (hp.objs.size + 1) C none) := by
        funext b
        by_cases h1 : b = hp.objs.size + 1
        · subst h1; rw [upd_same, upd_same]
        · rw [upd_ne h1, upd_ne h1, upd_ne h1]
      rw [eH] at I4
      have gr := Grow.new (o := exoS (hp.objs.size + 1) C none) w.w0 hn rfl
      exact ⟨rv, .ref (hp.objs.size + 1), _, I4, rfl, q _ R _ _ gr.e (.ex0 hm upd_same) (gr.mu w.mu)⟩
    | next => exact False.elim hq'
    | brk => exact False.elim hq'
    | cont => exact False.elim hq'
end
end DX
set_option Elab.async false
set_option linter.all false
set_option maxRecDepth 100000
set_option maxHeartbeats 4000000
/-! DY: isinstance of an exception object -/
namespace DX
open PySem PySem.Spec PyProof.Rows L2
section
open PySem.W
variable {prog : Program} {w : World} {A : Around} {E : Value → Shared → Prop} {s : Shared} {K : Frag} {x D : Addr} {ox : Obj} {od : Option Obj}
theorem class_find (C : ExcC K D) : findObj K D od "__class__" = some (.bind (.builtin "getset_descriptor.__get__") (.builtin "object.__class__")) := by
  have hcl : (clsIn K D).isSome = true := by
    obtain ⟨cd, hc, _⟩ := any_some C.hd
    rw [hc]; rfl
  cases od with
  | none => exact findObj_dataN hcl C.ha C.hn C.ht
  | some o => exact findObj_data hcl C.ha C.hn C.ht
theorem class_read (C : ExcC K D) {Q : Option Value → Shared → Prop} (X : K.In s.heap) (I : InstAt s.heap x ox D od) (hQ : Q (some (.ref D)) { s with toks := s.toks + 1 }) : wpAny (model prog w) A (getAttr? (.ref x) "__class__") Q E s := by
  obtain ⟨hp, gg, dd, tt, oo⟩ := s
  have k0 := I.type (M := model prog w)
  have k1 := looks_findIn (M := model prog w) X C.hg
  have k2 := looks_findIn (M := model prog w) X C.hk
  have k3 := looks_find (M := model prog w) X I (class_find C)
  have isB : Looks (model prog w) hp (isInstance (.ref x) (.type "BaseException")) true := k0.andThen (looks_subIn X C.hs)
  have n1 : (false && onTheHeap (Value.builtin "BaseException.__getattribute__")) = false := rfl
  have n2 : (onTheHeap (Value.ref D) && Value.builtin "BaseException.__getattribute__" == Value.builtin "object.__getattribute__") = false := by
    have : (Value.builtin "BaseException.__getattribute__" == Value.builtin "object.__getattribute__") = false := by decide +kernel
    rw [this]; rfl
  unfold getAttr? getAttrBy? getAttrBy
  refine wpAny_bind (wpAny_mkText (wpAny_bind (wpAny_attempt (wpAny_holding (wpAny_bind (k0.at (wpAny_bind (k1.at ?_))))))))
  show wpAny _ _ (if (onTheHeap (Value.ref D) && Value.builtin "BaseException.__getattribute__" == Value.builtin "object.__getattribute__") = true then _ else _) _ _ _
  rw [n2, if_neg Bool.false_ne_true]
  unfold getAttrByItsOwn hookBefore
  refine wpAny_bind ?_
  rw [if_pos (show onTheHeap (Value.ref D) = true from rfl)]; refine k2.at ?_
  refine wpAny_bind (wpAny_attempt (wpAny_holding ?_))
  unfold callGetattribute
  rw [n1, if_neg Bool.false_ne_true]
  unfold boundAndCalled
  rw [PySem.F.excAttr_ValueError.ga.bind (.ref x)]; refine wpAny_bind (wpAny_pure ?_)
  show wpAny _ _ (call (.builtin "BaseException.__getattribute__") [.ref x, .str "__class__" tt]) _ _ _
  refine wpAny_call (codeAny_call_builtin PySem.F.excAttr_ValueError.ga.plain PySem.F.entry_bexc_ga ?_)
  refine @check_slot (model prog w) _ _ ⟨hp, gg, dd, tt + 1, oo⟩ "BaseException.__getattribute__" "BaseException" "__getattribute__" (.ref x) [.str "__class__" tt] [] _ (by decide +kernel) (by decide +kernel) isB (PySem.F.args_bexc_ga (.ref x) (.str "__class__" tt)) ?_
  unfold Builtin.«object.__getattribute__»
  refine wpAny_bind (wpAny_of_eq (a := ((Value.ref x : Value), [Value.str "__class__" tt])) (by first | rfl | (simp only [slotArgs]; rfl)) ?_)
  refine wpAny_bind (wpAny_pure (wpAny_bind (k0.at (wpAny_bind (k3.at ?_)))))
  show wpAny _ _ (holding [Value.builtin "object.__class__"] (call (.builtin "getset_descriptor.__get__") [.builtin "object.__class__", .ref x, .ref D]) >>= ret) _ _ _
  refine wpAny_bind (wpAny_holding (wpAny_call (class_get (s := ⟨hp, gg, dd, tt + 1, oo⟩) (ox := ox) (od := od) X I C.hm ?_)))
  refine wpAny_pure ?_
  show wpAny _ _ (handedOut (.ref D)) _ _ _
  rw [handedOut_of (v := .ref D) rfl]
  first
    | exact wpAny_pure (wpAny_pure hQ)
    | exact wpAny_pure hQ
    | exact wpAny_pure (wpAny_bind (wpAny_pure (wpAny_pure hQ)))
theorem type_is (C : ExcC K D) (M : Model) (h : Heap) (X : K.In h) : Looks M h (isType (.ref D)) true := by
  obtain ⟨cd, hcl, _⟩ := any_some C.hd
  unfold clsIn at hcl
  split at hcl
  · rename_i hob
    intro A1 Q1 E1 s1 k1 q1; unfold isType loadHead
    exact wpAny_bind (wpAny_loadPart (k1 _ _ (X _ _ hob)) (wpAny_pure q1))
  · cases hcl
theorem kit_exc (C : ExcC K D) (N : KitX K (.ref x) (.ref D) (fun h => InstAt h x ox D none)) : KitX K (.ref x) (.ref D) (fun h => InstAt h x ox D od) :=
  ⟨fun _ _ _ I => I.type, fun M h X _ => type_is C M h X, N.ne, fun X I k => class_read C X I k⟩
end
section
variable [Tb] {X : Cx}
/-- what isinstance tells of an exception of the class c -/
def SubI (K : PySem.W.Frag) (mg : Str → Option Value) (sub : Str → Str → Option Bool) : Prop :=
  ∀ c x b C D, sub c x = some b → mg c = some (.ref C) → mg x = some (.ref D) → PySem.W.kitOne K (.ref C) (.ref D) = some b ∧ ExcC K C
def SubV (K : PySem.W.Frag) (mg : Str → Option Value) (cs : List Str) : Prop :=
  ∀ c ∈ cs, ∀ C, mg c = some (.ref C) → PySem.W.kitOne K (.ref C) (.type "ValueError") = some true ∧ ExcC K C
def dIsx (sub : Str → Str → Option Bool) (cs : List Str) (tab : List Str) : List D → Option D
  | [.exn c (_ :: _), .glb x] => (sub c x).map .bl
  | [.exn c (_ :: _), .ty n] => if (n == "ValueError" && cs.contains c) = true then some (.bl true) else none
  | ds => dIsi tab ds
theorem isx_go {pins : List (Addr × Obj)} {s : Shared} {σ : L2.St} {H : Hp} {a C : Addr} {d : Option Addr} {cv : Value} {b : Bool} {Q : VK} (I : Inv X pins σ H s) (EC : ExcC X.K C) (ha : H a = some (exoS a C d)) (hd : ∀ dx, d = some dx → ∃ xs, H dx = some (.xd xs)) (hk : PySem.W.kitOne X.K (.ref C) cv = some b) (q : Q (.bl b) H) :
    wpAny (model X.prog X.w) X.A (call (.builtin "isinstance") [.ref a, cv]) (EP X pins σ Q) X.xe s := by
  obtain ⟨⟨oe, vs, he, c1, c2, c3⟩, _⟩ := (I.hok a _ ha : ObjOk X.prog X.w H s.heap a (exoS a C d))
  have J : ∃ od, PySem.W.InstAt s.heap a oe C od := by
    cases d with
    | none => exact ⟨none, he, c1, by unfold PySem.W.notCls; rw [c3] <;> rfl, by rw [c2]; trivial⟩
    | some dd =>
      obtain ⟨xs, hx⟩ := hd dd rfl
      obtain ⟨mA, hns, hr⟩ := (show ObjOk X.prog X.w H s.heap dd (.xd xs) from I.hok dd _ hx)
      obtain ⟨od, ho, hl⟩ := lookIn_ns hns
      exact ⟨some od, he, c1, by unfold PySem.W.notCls; rw [c3] <;> rfl, by rw [c2]; exact ho⟩
  obtain ⟨od, J⟩ := J
  exact PySem.W.kia_one (kit_exc (od := od) (ox := oe) EC (PySem.W.handS_kitx_exc EC.hg EC.hk EC.hs EC.hd EC.ha EC.hn EC.ht EC.hm)) I.kIn J hk (fun z => nomatch z) fun tk => ⟨.bl b, H, I.tok tk, rfl, q⟩
theorem exn_obj {R : List Addr} {G H : Hp} {v : V} {c : Str} {f : Str × D} {fs : List (Str × D)} (sub : Sub G H) (iv : Is X.K X.mg R G v (.exn c (f :: fs))) :
    ∃ a C d, v = .ref a ∧ X.mg c = some (.ref C) ∧ H a = some (exoS a C d) ∧ ∀ dx, d = some dx → ∃ ys, H dx = some (.xd ys) := by
  cases iv with
  | @exn a C d _ ys _ hm hG hd _ _ =>
    obtain ⟨b, e1, e2⟩ := hd (by simp)
    exact ⟨a, C, d, rfl, hm, sub _ _ hG, fun dx e => by rw [e1] at e; cases e; exact ⟨ys, sub _ _ e2⟩⟩
  | @ex0 a C _ hm hG => exact ⟨a, C, none, rfl, hm, sub _ _ hG, fun dx e => nomatch e⟩
theorem op_isx {sub : Str → Str → Option Bool} {cs tab : List Str} (T : OwnT X.K X.mg tab) (S : SubI X.K X.mg sub) (Vv : SubV X.K X.mg cs) : OpS X (.builtin "isinstance") (dIsx sub cs tab) := by
  intro pins s σ H xs us Q I r h
  obtain ⟨R, G, ds, z, w, i, hz, q⟩ := h
  unfold dIsx at hz
  split at hz
  · rename_i c f fs x
    cases i with
    | cons i1 i2 =>
      cases i2 with
      | cons i2 i3 =>
        cases i3
        obtain ⟨a, C, d, rfl, hm, ha, hd⟩ := exn_obj w.s i1
        cases i2 with
        | @glb b _ hx =>
          cases e : sub c x with
          | none => rw [e] at hz; cases hz
          | some t =>
            rw [e] at hz
            cases hz
            obtain ⟨k1, k2⟩ := S c x t C b e hm hx
            obtain ⟨u1, u2, rfl, r1, r2⟩ := vals2 r
            cases r1
            cases r2
            exact isx_go I k2 ha hd k1 (q _ G H (.refl w) (.bl t))
  · rename_i c f fs n
    cases i with
    | cons i1 i2 =>
      cases i2 with
      | cons i2 i3 =>
        cases i3
        obtain ⟨a, C, d, rfl, hm, ha, hd⟩ := exn_obj w.s i1
        cases i2 with
        | ty _ =>
          split at hz
          · rename_i hc
            cases hz
            rw [Bool.and_eq_true] at hc
            have hn : n = "ValueError" := beq_iff_eq.mp hc.1
            subst hn
            obtain ⟨k1, k2⟩ := Vv c (List.contains_iff_mem.mp hc.2) C hm
            obtain ⟨u1, u2, rfl, r1, r2⟩ := vals2 r
            cases r1
            cases r2
            exact isx_go I k2 ha hd k1 (q _ G H (.refl w) (.bl true))
          · cases hz
  · exact op_isi T pins s σ H xs us Q I r ⟨R, G, _, z, w, i, hz, q⟩
end
end DX
set_option Elab.async false
set_option linter.all false
set_option maxRecDepth 100000
namespace DX
open PySem PySem.Spec PyProof.Rows L2
def excCB (K : PySem.W.Frag) (D : Addr) : Bool := xfB K D && (decide (PySem.W.findIn K (.ref D) "__class__" = some (some (.builtin "object.__class__"))) &&
  (decide (PySem.W.specialIn K (.builtin "object.__class__") "__get__" = some (some (.builtin "getset_descriptor.__get__"))) && (decide (PySem.W.takesIn K (.builtin "object.__class__") = some true) && decide (PySem.W.mroIn K D (.type "object") = some true))))
theorem excCB_ok {K : PySem.W.Frag} {D : Addr} (h : excCB K D = true) : ExcC K D := by
  unfold excCB at h
  simp only [Bool.and_eq_true, decide_eq_true_eq] at h
  obtain ⟨h1, h2, h3, h4, h5⟩ := h
  have x := xfB_ok h1
  exact ⟨x.ga, x.gg, x.exC, x.hdC, h2, h3, h4, h5⟩
def isiB (K : PySem.W.Frag) (tbl : List (Str × Str × Bool)) : Bool := tbl.all fun t => decide (PySem.W.kitOne K (.ref (He.ga K t.1)) (.ref (He.ga K t.2.1)) = some t.2.2) && excCB K (He.ga K t.1)
theorem subOf_mem : ∀ {tbl : List (Str × Str × Bool)} {c x : Str} {b : Bool}, subOf tbl c x = some b → (c, x, b) ∈ tbl := by
  intro tbl
  induction tbl with
  | nil => intro c x b h; cases h
  | cons t r ih =>
    intro c x b h
    obtain ⟨a, y, b'⟩ := t
    unfold subOf at h
    split at h
    · rename_i q
      cases h
      obtain ⟨rfl, rfl⟩ := q
      exact List.mem_cons_self
    · exact List.mem_cons_of_mem _ (ih h)
theorem isiB_ok {K : PySem.W.Frag} {mg : Str → Option Value} {tbl : List (Str × Str × Bool)} (h : isiB K tbl = true) (hg : ∀ t ∈ tbl, mg t.1 = some (.ref (He.ga K t.1)) ∧ mg t.2.1 = some (.ref (He.ga K t.2.1))) : SubI K mg (subOf tbl) := by
  intro c x b C D e h1 h2
  have hm := subOf_mem e
  have k := List.all_eq_true.mp h _ hm
  rw [Bool.and_eq_true, decide_eq_true_eq] at k
  obtain ⟨g1, g2⟩ := hg _ hm
  rw [h1] at g1
  rw [h2] at g2
  cases g1
  cases g2
  exact ⟨k.1, excCB_ok k.2⟩
def isvB (K : PySem.W.Frag) (cs : List Str) : Bool := cs.all fun c => decide (PySem.W.kitOne K (.ref (He.ga K c)) (.type "ValueError") = some true) && excCB K (He.ga K c)
theorem isvB_ok {K : PySem.W.Frag} {mg : Str → Option Value} {cs : List Str} (h : isvB K cs = true) (hg : ∀ c ∈ cs, mg c = some (.ref (He.ga K c))) : SubV K mg cs := by
  intro c hc C h1
  have k := List.all_eq_true.mp h _ hc
  rw [Bool.and_eq_true, decide_eq_true_eq] at k
  have g1 := hg _ hc
  rw [h1] at g1
  cases g1
  exact ⟨k.1, excCB_ok k.2⟩
/-- the facts of an exception class without fields -/
theorem ext0_of {P : Program} {w : World} {K : PySem.W.Frag} {mg : Str → Option Value} {base : Heap} {x : Str} {fd : FuncData} (hx : mg x = some (.ref (He.ga K x))) (e : ExcF K (He.ga K x) (He.ma K (He.ga K x) "__init__") []) (hb : L2.Binds K fd ["self"] [])
    [Tb] (F : FnOk P w K mg base (L2.CX P w) 1 (He.ma K (He.ga K x) "__init__") fd ["self"] (sp0 K (He.ga K x))) : ExT0 P w K mg base x := ⟨_, _, fd, hx, e.o, e.x, e.i, e.t, hb, F⟩
end DX
set_option Elab.async false
set_option linter.all false
set_option maxRecDepth 100000
set_option maxHeartbeats 4000000
/-! EA: repr of data of any depth, dicts within -/
namespace DX
open PySem PySem.Spec PyProof.Rows L2
variable [Tb]
def keyPy : Key → PyData
  | .inl i => .int i
  | .inr x => .str x
mutual
def toPyX : D → Option PyData
  | .non => some .none
  | .bl b => some (.bool b)
  | .int i => some (.int i)
  | .str x => some (.str x)
  | .tup ds => (toPyXs ds).map .tuple
  | .lst ds => (toPyXs ds).map .list
  | .dic kvs => (toPyXk kvs).map .dict
  | _ => none
def toPyXs : List D → Option (List PyData)
  | [] => some []
  | d :: ds => match toPyX d, toPyXs ds with
    | some p, some ps => some (p :: ps)
    | _, _ => none
def toPyXk : List (Key × D) → Option (List (PyData × PyData))
  | [] => some []
  | (k, d) :: r => match toPyX d, toPyXk r with
    | some p, some ps => some ((keyPy k, p) :: ps)
    | _, _ => none
end
/-- the modules' dict stands in the written part, as a dict -/
def NoSm (K : PySem.W.Frag) : Prop := ∃ o, K.lookup sysModules = some o ∧ o.cls = .type "dict"
section
variable {X : Cx} {pins : List (Addr × Obj)} {σ : L2.St} {H : Hp} {s : Shared} {R : List Addr} {G : Hp}
mutual
theorem is_readsX (I : Inv X pins σ H s) (ns : NoSm X.K) (w : Sub G H) : ∀ {v : V} {d : D} (u : Value) (p : PyData), Is X.K X.mg R G v d → toPyX d = some p → RelV v u → ∃ as, Reads s.heap u p as ∧ sysModules ∉ as
  | _, _, _, _, .non, e, r => by cases e; cases r; exact ⟨_, .none, by simp⟩
  | _, _, _, _, .bl b, e, r => by cases e; cases r; exact ⟨_, .bool b, by simp⟩
  | _, _, _, _, .int i, e, r => by cases e; obtain ⟨t, rfl⟩ := r; exact ⟨_, .int i t, by simp⟩
  | _, _, _, _, .str x, e, r => by cases e; obtain ⟨t, rfl⟩ := r; exact ⟨_, .str x t, by simp⟩
  | _, _, _, _, .tup (ds := ds) h k, e, r => by
    simp only [toPyX] at e
    cases q : toPyXs ds with
    | none => rw [q] at e; cases e
    | some ps =>
      rw [q] at e
      cases e
      cases r
      obtain ⟨its, rv, ⟨o, ho, hc, n, hd⟩, _⟩ := I.tuple (SqT.sub h w)
      obtain ⟨as, hr, hn⟩ := is_readsXs I ns w its ps k q rv
      exact ⟨_, .tuple ho hc hd hr, hn⟩
  | _, _, _, _, .lst (ds := ds) h k, e, r => by
    simp only [toPyX] at e
    cases q : toPyXs ds with
    | none => rw [q] at e; cases e
    | some ps =>
      rw [q] at e
      cases e
      cases r
      obtain ⟨its, rv, ⟨o, n, ho, hc, _, hd⟩, _⟩ := I.list (SqL.of (w _ _ h))
      obtain ⟨as, hr, hn⟩ := is_readsXs I ns w its ps k q rv
      refine ⟨_, .list ho hc hd hr, fun z => ?_⟩
      rcases List.mem_cons.mp z with z | z
      · obtain ⟨o', h1, h2⟩ := ns
        have h3 := I.kIn _ _ h1
        rw [z] at h3
        cases h3.symm.trans ho
        rw [h2] at hc
        exact absurd hc (by decide)
      · exact hn z
  | _, _, _, _, .scr _ _, e, _ => by simp [toPyX] at e
  | _, _, _, _, .dic (kvs := kvs) (ds := ds) h1 h2 h3, e, r => by
    simp only [toPyX] at e
    cases q : toPyXk ds with
    | none => rw [q] at e; cases e
    | some ps =>
      rw [q] at e
      cases e
      cases r
      obtain ⟨_, nsm, vs, rv, o, es, ep, ho, hx, hd, _, pr, _⟩ := (show ObjOk X.prog X.w H s.heap _ (.dK kvs) from I.hok _ _ (w _ _ h1))
      obtain ⟨bs, r1, r2, hn⟩ := is_readsXk I ns w vs _ ps h2 h3 q rv pr
      refine ⟨_, Reads.dict ho hx.1 hd r1 r2, fun hm => ?_⟩
      rcases List.mem_append.mp hm with hm | hm
      · rcases List.mem_cons.mp hm with hm | hm
        · rw [← hm] at nsm; simp at nsm
        · cases hm
      · exact hn hm
  | _, _, _, _, .dit _ _ _, e, _ => by simp [toPyX] at e
  | _, _, _, _, .ins _ _ _ _, e, _ => by simp [toPyX] at e
  | _, _, _, _, .glb _, e, _ => by simp [toPyX] at e
  | _, _, _, _, .ty _, e, _ => by simp [toPyX] at e
  | _, _, _, _, .hnd _, e, _ => by simp [toPyX] at e
  | _, _, _, _, .lam _ _, e, _ => by simp [toPyX] at e
  | _, _, _, _, .exn _ _ _ _ _, e, _ => by simp [toPyX] at e
  | _, _, _, _, .ex0 _ _, e, _ => by simp [toPyX] at e
theorem is_readsXs (I : Inv X pins σ H s) (ns : NoSm X.K) (w : Sub G H) : ∀ {vs : List V} {ds : List D} (us : List Value) (ps : List PyData), IsAll X.K X.mg R G vs ds → toPyXs ds = some ps → Vals vs us → ∃ as, ReadsAll s.heap us ps as ∧ sysModules ∉ as
  | _, _, _, _, .nil, e, r => by cases e; cases r; exact ⟨_, .nil, by simp⟩
  | _, _, _, _, .cons (d := d) (ds := ds) h k, e, r => by
    simp only [toPyXs] at e
    cases q : toPyX d with
    | none => rw [q] at e; cases e
    | some p =>
      cases q2 : toPyXs ds with
      | none => rw [q, q2] at e; cases e
      | some ps =>
        rw [q, q2] at e
        cases e
        cases r with
        | cons r1 r2 =>
          obtain ⟨as, h1, n1⟩ := is_readsX I ns w _ _ h q r1
          obtain ⟨bs, h2, n2⟩ := is_readsXs I ns w _ _ k q2 r2
          exact ⟨_, .cons h1 h2, fun z => (List.mem_append.mp z).elim n1 n2⟩
theorem is_readsXk (I : Inv X pins σ H s) (ns : NoSm X.K) (w : Sub G H) {P : Program} {w0 : World} : ∀ {kvs : List (Key × V)} {ds : List (Key × D)} (vs : List (Key × Value)) (es : List DictEntry) (ps : List (PyData × PyData)),
    kvs.map (·.1) = ds.map (·.1) → IsAll X.K X.mg R G (kvs.map (·.2)) (ds.map (·.2)) → toPyXk ds = some ps → KV kvs vs → PySem.Pairs (mixKind P w0) es vs →
    ∃ bs, ReadsAll s.heap (es.map (·.key)) (ps.map (·.1)) [] ∧ ReadsAll s.heap (es.map (·.val)) (ps.map (·.2)) bs ∧ sysModules ∉ bs
  | [], [], _, _, _, _, _, e, .nil, pr => by cases e; cases pr; exact ⟨[], .nil, .nil, by simp⟩
  | [], _ :: _, _, _, _, hk, _, _, _, _ => by simp at hk
  | _ :: _, [], _, _, _, hk, _, _, _, _ => by simp at hk
  | (k1, v1) :: kvs, (k2, d) :: ds, _, _, _, hk, i, e, .cons hr hrs, pr => by
    simp only [List.map_cons, List.cons.injEq] at hk
    cases pr with
    | cons p1 p1b p2 =>
      simp only [List.map_cons] at i
      cases i with
      | cons i1 i2 =>
        simp only [toPyXk] at e
        cases q : toPyX d with
        | none => rw [q] at e; cases e
        | some p =>
          cases q2 : toPyXk ds with
          | none => rw [q, q2] at e; cases e
          | some ps =>
            rw [q, q2] at e
            cases e
            obtain ⟨bs, r1, r2, nb⟩ := is_readsXk I ns w _ _ _ hk.2 i2 q2 hrs p2
            obtain ⟨as, ra, na⟩ := is_readsX I ns w _ _ i1 q hr.2
            refine ⟨as ++ bs, ?_, ?_, fun z => (List.mem_append.mp z).elim na nb⟩
            · refine ReadsAll.cons (as := []) ?_ r1
              have hk1 : keyIs _ _ = true := p1
              rw [← hr.1] at hk1
              have e12 : k1 = k2 := hk.1
              rcases keyIs_shape hk1 with ⟨i, t, h1, h2⟩ | ⟨x, t, h1, h2⟩
              · have h3 : k1 = Sum.inl i := h1
                subst h3
                subst e12
                show Reads s.heap _ (.int i) []
                dsimp only
                rw [h2]
                exact .int i t
              · have h3 : k1 = Sum.inr x := h1
                subst h3
                subst e12
                show Reads s.heap _ (.str x) []
                dsimp only
                rw [h2]
                exact .str x t
            · refine ReadsAll.cons ?_ r2
              dsimp only
              rw [p1b]
              exact ra
end
end
def dReprX : List D → Option D
  | [d] => match toPyX d with
    | some p => if p.showable = true ∧ p.depth ≤ 60 ∧ p.shown.length ≤ 16777216 then some (.str p.shown) else none
    | none => none
  | _ => none
theorem op_reprX {X : Cx} (hr : Gd X.A) (ns : NoSm X.K) : OpS X (.builtin "repr") dReprX := by
  intro pins s σ H xs us Q I r h
  obtain ⟨R, G, ds, z, w, i, hz, q⟩ := h
  unfold dReprX at hz
  split at hz
  · rename_i d
    cases i with
    | cons i1 i2 =>
      cases i2
      cases r with
      | cons r1 r2 =>
        cases r2
        rename_i v u
        cases e : toPyX d with
        | none => rw [e] at hz; cases hz
        | some p =>
          rw [e] at hz
          simp only at hz
          split at hz
          · rename_i hc
            cases hz
            obtain ⟨as, rd, hsm⟩ := is_readsX I ns w.s _ _ i1 e r1
            have hsm : p.hasDict = true → sysModules ∉ as := fun _ => hsm
            have fin : ∀ h' t tk, (∀ b o, s.heap.get? b = some o → h'.get? b = some o) → EP X pins σ Q (.str p.shown t) { s with heap := h', toks := tk } := fun h' t tk hk =>
              ⟨.str p.shown, H, I.kept (t' := tk) hk, ⟨t, rfl⟩, q _ G H (.refl w) (.str _)⟩
            have hu : X.A.units + (p.depth + 1) < cLine := by have := hr.un; omega
            cases rd with
            | none => exact PySem.P.repr_of_none (fin _ _ _ fun _ _ h => h)
            | bool b => exact PySem.P.repr_of_bool (fin _ _ _ fun _ _ h => h)
            | int i t =>
              have h1 := hc.1
              simp only [PyData.showable] at h1
              exact PySem.P.repr_of_int (of_decide_eq_true h1) (fin _ _ _ fun _ _ h => h)
            | str x t => exact PySem.P.repr_of_str (fin _ _ _ fun _ _ h => h) (by rw [sizeLine_eq]; exact hc.2.2)
            | list h1 h2 h3 h4 => exact repr_of_reads' (.list h1 h2 h3 h4) hc.1 hsm hr.g hu (fun _ _ e => e) (fun h' u tk hk => fin h' u tk hk) (by rw [sizeLine_eq]; exact hc.2.2)
            | tuple h1 h2 h3 h4 => exact repr_of_reads' (.tuple h1 h2 h3 h4) hc.1 hsm hr.g hu (fun _ _ e => e) (fun h' u tk hk => fin h' u tk hk) (by rw [sizeLine_eq]; exact hc.2.2)
            | dict h1 h2 h3 h4 h5 => exact repr_of_reads' (.dict h1 h2 h3 h4 h5) hc.1 hsm hr.g hu (fun _ _ e => e) (fun h' u tk hk => fin h' u tk hk) (by rw [sizeLine_eq]; exact hc.2.2)
          · cases hz
  · cases hz
/-- what was shown, is shown -/
theorem toPyX_of : ∀ {d : D} {p : PyData}, toPy d = some p → toPyX d = some p
  | .non, _, e => e
  | .bl _, _, e => e
  | .int _, _, e => e
  | .str _, _, e => e
  | .tup ds, _, e => by
    simp only [toPy] at e
    cases q : toPyAll ds with
    | none => rw [q] at e; cases e
    | some ps => rw [q] at e; simp only [toPyX, all_of q]; exact e
  | .lst ds, _, e => by
    simp only [toPy] at e
    cases q : toPyAll ds with
    | none => rw [q] at e; cases e
    | some ps => rw [q] at e; simp only [toPyX, all_of q]; exact e
  | .scr _, _, e => by simp [toPy] at e
  | .dic _, _, e => by simp [toPy] at e
  | .dit _, _, e => by simp [toPy] at e
  | .ins _ _, _, e => by simp [toPy] at e
  | .glb _, _, e => by simp [toPy] at e
  | .ty _, _, e => by simp [toPy] at e
  | .hnd _, _, e => by simp [toPy] at e
  | .lam _ _ _ _ _, _, e => by simp [toPy] at e
  | .exn _ _, _, e => by simp [toPy] at e
where all_of : ∀ {ds : List D} {ps : List PyData}, toPyAll ds = some ps → toPyXs ds = some ps
  | [], _, e => e
  | d :: ds, _, e => by
    simp only [toPyAll] at e
    cases q : toPy d with
    | none => rw [q] at e; cases e
    | some p =>
      cases q2 : toPyAll ds with
      | none => rw [q, q2] at e; cases e
      | some ps => rw [q, q2] at e; simp only [toPyXs, toPyX_of q, all_of q2]; exact e
theorem leafX_of {d : D} {p : PyData} (e : leafPy d = some p) : toPyX d = some p := by
  cases d <;> first | exact e | cases e
theorem leavesX_of : ∀ {kvs : List (Key × D)} {ps : List (PyData × PyData)}, leavesPy kvs = some ps → toPyXk kvs = some ps
  | [], _, e => e
  | (k, d) :: r, _, e => by
    simp only [leavesPy] at e
    cases q : leafPy d with
    | none => rw [q] at e; cases e
    | some p =>
      cases q2 : leavesPy r with
      | none => rw [q, q2] at e; cases e
      | some ps => rw [q, q2] at e; simp only [toPyXk, leafX_of q, leavesX_of q2]; rw [← e]; cases k <;> rfl
theorem reprX_of {d : D} {z : D} (h : dRepr [d] = some z) : dReprX [d] = some z := by
  unfold dRepr at h
  unfold dReprX
  have e : ∀ p, toPyR d = some p → toPyX d = some p := fun p e => by
    cases d with
    | dic kvs =>
      simp only [toPyR] at e
      cases q : leavesPy kvs with
      | none => rw [q] at e; cases e
      | some ps => rw [q] at e; simp only [toPyX, leavesX_of q]; exact e
    | _ => exact toPyX_of e
  simp only at h ⊢
  cases q : toPyR d with
  | none => rw [q] at h; cases h
  | some p => rw [q] at h; rw [e p q]; exact h
end DX
set_option Elab.async false
set_option linter.all false
set_option maxRecDepth 100000
set_option maxHeartbeats 4000000
/-! EB: a comprehension given to a name; append; several names at once, new lists among the values -/
namespace DX
open PySem PySem.Spec PyProof.Rows L2
variable [Tb]
section
variable {X : Cx} {W : WX} {e : Expr} {pos pos' : Pos} {x : Str}
theorem setFH_end {K : PySem.W.Frag} {mg : Str → Option Value} {i : Nat} {m : Env' → M D} {E : Ends} {σ : L2.St} {H : Hp} (h : tS K mg W (sSetFH i m) E σ H) : tAsg (tD K mg W (rFr K mg) m) (gName i) E σ H := by
  obtain ⟨O, R, G, ρ, μ, w, mu, a⟩ := h
  obtain ⟨R0, G0, ρ0, μ0, w0, q⟩ := stepH (rel := rFr K mg) w mu a
  refine ⟨R0, G0, ρ0, μ0, w0, q.imp fun v H1 ⟨R1, G1, d, μ1, x, r, w1, mu1, k⟩ => ?_⟩
  obtain ⟨p, m', rfl, hp, gp, nR, hm, o⟩ := r
  have nO : p ∉ O := fun z => by
    obtain ⟨_, _, u, hu, _⟩ := w.og p z
    rw [hp] at hu; cases hu
  exact k (p :: O) R1 G1 H1 _ (ExtS.more p hp x.toS) (w1.setF i nO gp nR (toMob_ow hm) o) mu1
theorem setFP_end {K : PySem.W.Frag} {mg : Str → Option Value} {ms : List Nat} {i : Nat} {m : Env' → M D} {E : Ends} {σ : L2.St} {H : Hp} (h : tS K mg W (sSetFP ms i m) E σ H) : tAsg (tD K mg W (rFr K mg) m) (gName i) E σ H := by
  obtain ⟨O, R, G, ρ, μ, w, mu, a⟩ := h
  have ok : okMs ms ρ = true := by
    unfold sSetFP sP at a
    split at a
    · assumption
    · exact a.elim
  obtain ⟨R0, G0, ρ0, μ0, w0, q⟩ := stepP (rel := rFr K mg) w mu a
  refine ⟨R0, G0, ρ0, μ0, w0, q.imp fun v H1 ⟨G1, d, x, r, k⟩ => ?_⟩
  obtain ⟨p, m', rfl, hp, gp, _, hm, o⟩ := r
  have nO : p ∉ O := fun z => by
    obtain ⟨_, _, u, hu, _⟩ := w.og p z
    rw [hp] at hu; cases hu
  have nR : p ∉ R := fun z => mu.hr p z hp
  split at k
  · rename_i hd
    obtain ⟨w1, x1, k1⟩ := w.extP mu.hard x
    refine k (p :: O) R _ H1 _ (ExtS.more p hp x1) (w1.setF i nO ?_ nR (toMob_ow hm) (ob_flat hm o hd (no_ads w x))) (mu.keepP x1.g k1)
    unfold subH
    split
    · rfl
    · exact gp
  · obtain ⟨O1, w1, mu1, x1, f, hO⟩ := giveP w ok mu x
    exact k (p :: O1) R _ H1 _ (ExtS.more p hp x1) (w1.setF i (fun z => nO (hO p z)) gp nR (toMob_ow hm) (o.mono (.refl _) (fun _ _ h => by simp at h) rfl)) mu1
/-- a value set to a name, whichever way the text does it -/
theorem setH_end {K : PySem.W.Frag} {mg : Str → Option Value} {i : Nat} {m : Env' → M D} {E : Ends} {σ : L2.St} {H : Hp} (h : tS K mg W (sSetH i m) E σ H) : tAsg (tD K mg W (rIs K mg) m) (gName i) E σ H := by
  obtain ⟨O, R, G, ρ, μ, w, mu, a⟩ := h
  obtain ⟨R0, G0, ρ0, μ0, w0, q⟩ := stepH (rel := rIs K mg) w mu a
  exact ⟨R0, G0, ρ0, μ0, w0, q.imp fun v H1 ⟨R1, G1, d, μ1, x, r, w1, mu1, k⟩ => k O R1 G1 H1 _ x.toS (w1.set i r) mu1⟩
end
/-! ### the loop of a comprehension -/
section
variable {K : PySem.W.Frag} {mg : Str → Option Value}
/-- where a comprehension's loop stands: the new list at Dn, of acc; f: what comes of it -/
structure LcAt {β Vw : Type} (K : PySem.W.Frag) (mg : Str → Option Value) (E : XK) (rel : Rl Vw β) (Rb : List Addr) (Gb Hb : Hp) (Q : Vw → Hp → Prop) (Dn : Addr) (m : List D → M β) (H : Hp) (R : List Addr) (G : Hp) (acc : List D) (μ : List Mob) (xs : List V) : Prop where
  x : Ext Rb Gb Hb R G H
  mu : MuIs K mg R G H μ
  g : G Dn = none
  n : Dn ∉ R
  h : H Dn = some (.lst xs)
  i : IsAll K mg R G xs acc
  a : After K mg E rel (m acc μ) Rb Gb Hb Q
theorem lc_loop {β Vw : Type} {rel : Rl Vw β} {E : XK} {Rb : List Addr} {Gb Hb : Hp} {Q : Vw → Hp → Prop} {Dn : Addr} {J : It} {ds : List D} {p : Pat} {t : Env' → M Bool} {e : Env' → M D} {vs : List Nat} {σ : L2.St} {ρ : Env'} {f : List D → M β} {Post : Hp → Prop} {R1 : List Addr} {G1 H1 : Hp} {acc1 : List D} {μ1 : List Mob} {xs1 : List V}
    (hD : Hb Dn = none) (tb : LamX.Tabs Tb.T Hb) (hv : patIn vs p = true) (env : EnvIs K mg R1 G1 σ ρ) (it : ItOk K mg R1 G1 J ds)
    (st : LcAt K mg E rel Rb Gb Hb Q Dn (fun acc => M.bind (lcN p t e (wipeE vs ρ) acc ds) f) H1 R1 G1 acc1 μ1 xs1)
    (post : ∀ H R G acc μ xs, Sub G1 G → (∀ (k : Nat) (a : Addr), R1[k]? = some a → R[k]? = some a) → LcAt K mg E rel Rb Gb Hb Q Dn f H R G acc μ xs → Post H) :
    ∃ W : Nat → Nat → Hp → Prop, (∃ m, W 0 m H1) ∧ ∀ i m H, W i m H →
      (J.stop i H ∧ Post H) ∨ (J.go i H ∧ ∃ Nx : Hp → Prop, (∀ H', Nx H' → ∃ m', m' < m ∧ W (i + 1) m' H') ∧ ∀ x H', J.yld i H x H' → gPat K p x (wipe σ vs) H' fun σ2 H2 => wipe σ2 vs = wipe σ vs ∧ tD K mg W0x rEq t σ2 H2 fun b H3 =>
        if b = true then tD K mg W0x (rIs K mg) e σ2 H3 fun y H4 => ∃ acc, H4 Dn = some (.lst acc) ∧ acc.length < sizeLine ∧ Nx (upd H4 Dn (.lst (acc ++ [y]))) else Nx H3) := by
  obtain ⟨Gw, Y, wk, hg2, hy⟩ := it
  let Pv : Nat → Hp → Prop := fun i H => ∃ R G acc μ xs, Sub G1 G ∧ (∀ (k : Nat) (a : Addr), R1[k]? = some a → R[k]? = some a) ∧ LcAt K mg E rel Rb Gb Hb Q Dn (fun acc => M.bind (lcN p t e (wipeE vs ρ) acc (ds.drop i)) f) H R G acc μ xs
  refine ⟨fun i m H => m = ds.length - i ∧ i ≤ ds.length ∧ Pv i H, ⟨ds.length, by simp, Nat.zero_le _, R1, G1, acc1, μ1, xs1, .refl _, fun _ _ h => h, by simpa using st⟩, ?_⟩
  rintro i m H ⟨rfl, hi, R2, G2, acc, μ2, xs, sg, sr, ⟨x2, mu2, g2, n2, h2, k2, a⟩⟩
  have hgw := hg2 G2 H sg x2.s
  by_cases hlt : i < ds.length
  · refine .inr ⟨wk.goes i H hlt hgw, Pv (i + 1), fun H' p' => ⟨ds.length - (i + 1), by omega, rfl, hlt, p'⟩, fun x H3 y => ?_⟩
    have y := wk.yields i H x H3 hlt hgw y
    obtain ⟨d, G3, hd, gr, is_⟩ := hy i R2 G2 H x H3 hlt sr ⟨x2.s, x2.cl, mu2.hr⟩ sg y
    have x3 := x2.trans gr.e
    have h3 := gr.k _ _ h2
    have g3 : G3 Dn = none := ext_none gr.e g2 (hard_lst h2) n2
    have env3 : EnvIs K mg R2 G3 (wipe σ vs) (wipeE vs ρ) := wipeE_is (env.mono (sg.trans gr.e.g) sr) _
    have hdr : ds.drop i = d :: ds.drop (i + 1) := by
      obtain ⟨hl, he⟩ := List.getElem?_eq_some_iff.mp hd
      rw [List.drop_eq_getElem_cons hl, he]
    rw [hdr] at a
    unfold lcN at a
    cases qa : asg some p d (wipeE vs ρ) with
    | none => rw [qa] at a; exact a.elim
    | some ρ2 =>
      rw [qa] at a
      refine asg_ok (P := fun σ ρ => EnvIs K mg R2 G3 σ ρ) (fun σ ρ i v d h k => h.set i k) gr.e.s p x d _ _ ρ2 _ is_ env3 qa fun σ2 env4 hw => ⟨?_, ?_⟩
      · rw [hw _ hv, wipe_wipe]
      refine ⟨R2, G3, ρ2, μ2, ⟨gr.e.s, gr.e.cl, env4, gr.mu mu2, x3.t tb⟩, (after_base (rel := rEq) a).imp ?_⟩
      rintro k H4 ⟨R4, G4, k', μ4, x4, ek, mu4, a4⟩
      cases (show k = k' from ek)
      have x4' := x3.trans x4
      have h4 := x4.k _ _ h3 rfl n2
      have g4 : G4 Dn = none := ext_none x4 g3 (hard_lst h3) n2
      have n4 : Dn ∉ R4 := fun z => (x4.nr _ z).elim n2 fun z => by rw [h3] at z; cases z
      cases k with
      | false => exact ⟨R4, G4, acc, μ4, xs, (sg.trans gr.e.g).trans x4.g, fun k c q => x4.idx k c (sr k c q), x4', mu4, g4, n4, h4, k2.mono (gr.e.g.trans x4.g) x4.idx, a4⟩
      | true =>
        refine ⟨R4, G4, ρ2, μ4, ⟨x4.s, x4.cl, env4.mono x4.g x4.idx, mu4, x4'.t tb⟩, (after_base (rel := rIs K mg) a4).imp ?_⟩
        rintro z H5 ⟨R5, G5, dz, μ5, x5, iz, mu5, a5⟩
        have h5 := x5.k _ _ h4 rfl n4
        have g5 : G5 Dn = none := ext_none x5 g4 (hard_lst h4) n4
        have n5 : Dn ∉ R5 := fun z => (x5.nr _ z).elim n4 fun z => by rw [h4] at z; cases z
        have k5 := (k2.mono (gr.e.g.trans x4.g) x4.idx).mono x5.g x5.idx
        by_cases hl : acc.length < 16777216
        · rw [if_pos hl] at a5
          have un : ∀ u, H5 Dn = some u → (∀ ps, u ≠ .tbl ps) ∧ ∀ c q, u ≠ LamX.CodeO c q := fun u z => by rw [h5] at z; cases z; exact ⟨fun ps => nofun, fun c q => codeO_ne rfl⟩
          exact ⟨xs, h5, by rw [k2.length, sizeLine_eq]; exact hl, R5, G5, acc ++ [dz], μ5, xs ++ [z], ((sg.trans gr.e.g).trans x4.g).trans x5.g, fun k c q => x5.idx k c (x4.idx k c (sr k c q)), Ext.upd (x4'.trans x5) hD g5 un, mu5.upd n5, g5, n5, upd_same, k5.append (.cons iz .nil), a5⟩
        · rw [if_neg hl] at a5
          exact a5.elim
  · have e : i = ds.length := by omega
    subst e
    rw [List.drop_eq_nil_of_le (Nat.le_refl _)] at a
    exact .inl ⟨wk.stops H hgw, post H R2 G2 acc μ2 xs sg sr ⟨x2, mu2, g2, n2, h2, k2, a⟩⟩

/-- the reading of a comprehension -/
theorem lc_tLc {W : WX} {p : Pat} {t : Env' → M Bool} {e : Env' → M D} {vs : List Nat} {m : Env' → M (List D)} {σ : L2.St} {H : Hp} {Q : VK} (hv : patIn vs p = true) (h : tD K mg W (rFr K mg) (dLc p vs m t e) σ H Q) :
    tLc (tD K mg W (rIt K mg) m) (gPat K p) (tD K mg W0x rEq t) (tD K mg W0x (rIs K mg) e) vs σ H Q := by
  obtain ⟨R, G, ρ, μ, w, h⟩ := tD.bind (rel := rIt K mg) h
  refine ⟨R, G, ρ, μ, w, h.imp fun J H1 ⟨R1, G1, ρ1, μ1, ds, w1, it, q⟩ => fun Dn hD => ?_⟩
  obtain ⟨gD, nR⟩ := w1.w0.no hD
  have x0 : Ext R1 G1 H1 R1 G1 (upd H1 Dn (.lst [])) := Ext.upd (.refl w1.s w1.cl) hD gD (fun u z => by rw [hD] at z; cases z)
  refine lc_loop (f := fun ys => M.pure (.lst ys)) (rel := rFr K mg) (Q := Q) hD w1.tb hv w1.env it ⟨x0, w1.mu.upd nR, gD, nR, upd_same, .nil, q⟩ ?_
  exact fun H2 R2 G2 acc μ2 xs _ _ st => st.a (.ref Dn) R2 G2 H2 st.x ⟨Dn, .lst acc, rfl, hD, st.g, st.n, rfl, xs, st.h, st.i⟩ st.mu
/-! ### two clauses -/
def lcN2 (p : Pat) (t : Env' → M Bool) (m1 : Env' → M (List D)) (p1 : Pat) (t1 : Env' → M Bool) (e : Env' → M D) (vs1 : List Nat) (ρ : Env') : List D → List D → M (List D)
  | acc, [] => M.pure acc
  | acc, d :: ds => match asg some p d ρ with
    | none => stuck
    | some ρ1 => M.bind (noX (t ρ1)) fun k => if k = true then M.bind (noX (m1 ρ1)) fun ds1 => M.bind (lcN p1 t1 e (wipeE vs1 ρ1) acc ds1) fun acc' => lcN2 p t m1 p1 t1 e vs1 ρ acc' ds else lcN2 p t m1 p1 t1 e vs1 ρ acc ds
def dLc2 (p : Pat) (vs : List Nat) (m : Env' → M (List D)) (t : Env' → M Bool) (p1 : Pat) (vs1 : List Nat) (m1 : Env' → M (List D)) (t1 : Env' → M Bool) (e : Env' → M D) : Env' → M D := fun ρ => M.bind (m ρ) fun ds => M.bind (lcN2 p t m1 p1 t1 e vs1 (wipeE vs ρ) [] ds) fun ys => M.pure (.lst ys)
theorem bind_assoc {α β γ : Type} (m : M α) (f : α → M β) (g : β → M γ) : M.bind (M.bind m f) g = M.bind m fun x => M.bind (f x) g := by
  funext μ
  unfold M.bind
  cases m μ <;> rfl
theorem lc_tLc2 {W : WX} {p p1 : Pat} {t t1 : Env' → M Bool} {e : Env' → M D} {vs vs1 : List Nat} {m m1 : Env' → M (List D)} {σ : L2.St} {H : Hp} {Q : VK} (hv : patIn vs p = true) (hv1 : patIn vs1 p1 = true) (h : tD K mg W (rFr K mg) (dLc2 p vs m t p1 vs1 m1 t1 e) σ H Q) :
    tLc2 (tD K mg W (rIt K mg) m) (gPat K p) (tD K mg W0x rEq t) (tD K mg W0x (rIt K mg) m1) (gPat K p1) (tD K mg W0x rEq t1) (tD K mg W0x (rIs K mg) e) vs vs1 σ H Q := by
  obtain ⟨R, G, ρ, μ, w, h⟩ := tD.bind (rel := rIt K mg) h
  refine ⟨R, G, ρ, μ, w, h.imp fun J H1 ⟨R1, G1, ρ1, μ1, ds, w1, it, q⟩ => fun Dn hD => ?_⟩
  obtain ⟨gD, nR⟩ := w1.w0.no hD
  have x0 : Ext R1 G1 H1 R1 G1 (upd H1 Dn (.lst [])) := Ext.upd (.refl w1.s w1.cl) hD gD (fun u z => by rw [hD] at z; cases z)
  obtain ⟨Gw, Y, wk, hg2, hy⟩ := it
  let A := fun (R : List Addr) (G : Hp) (H : Hp) (acc : List D) (μ : List Mob) (xs : List V) (i : Nat) => LcAt K mg (fun cls d H' => W cls d σ H') (rFr K mg) R1 G1 H1 Q Dn (fun acc => M.bind (lcN2 p t m1 p1 t1 e vs1 (wipeE vs ρ1) acc (ds.drop i)) fun ys => M.pure (.lst ys)) H R G acc μ xs
  let Pv : Nat → Hp → Prop := fun i H => ∃ R G acc μ xs, Sub G1 G ∧ (∀ (k : Nat) (a : Addr), R1[k]? = some a → R[k]? = some a) ∧ A R G H acc μ xs i
  refine ⟨fun i m H => m = ds.length - i ∧ i ≤ ds.length ∧ Pv i H, ⟨ds.length, by simp, Nat.zero_le _, R1, G1, [], μ1, [], .refl _, fun _ _ h => h, ⟨x0, w1.mu.upd nR, gD, nR, upd_same, .nil, by simpa using q⟩⟩, ?_⟩
  rintro i m H ⟨rfl, hi, R2, G2, acc, μ2, xs, sg, sr, ⟨x2, mu2, g2, n2, h2, k2, a⟩⟩
  have hgw := hg2 G2 H sg x2.s
  by_cases hlt : i < ds.length
  · refine .inr ⟨wk.goes i H hlt hgw, Pv (i + 1), fun H' p' => ⟨ds.length - (i + 1), by omega, rfl, hlt, p'⟩, fun x H3 y => ?_⟩
    have y := wk.yields i H x H3 hlt hgw y
    obtain ⟨d, G3, hd, gr, is_⟩ := hy i R2 G2 H x H3 hlt sr ⟨x2.s, x2.cl, mu2.hr⟩ sg y
    have x3 := x2.trans gr.e
    have h3 := gr.k _ _ h2
    have g3 : G3 Dn = none := ext_none gr.e g2 (hard_lst h2) n2
    have env3 : EnvIs K mg R2 G3 (wipe σ vs) (wipeE vs ρ1) := wipeE_is (w1.env.mono (sg.trans gr.e.g) sr) _
    have hdr : ds.drop i = d :: ds.drop (i + 1) := by
      obtain ⟨hl, he⟩ := List.getElem?_eq_some_iff.mp hd
      rw [List.drop_eq_getElem_cons hl, he]
    rw [hdr] at a
    unfold lcN2 at a
    cases qa : asg some p d (wipeE vs ρ1) with
    | none => rw [qa] at a; exact a.elim
    | some ρ2 =>
      rw [qa] at a
      refine asg_ok (P := fun σ ρ => EnvIs K mg R2 G3 σ ρ) (fun σ ρ i v d h k => h.set i k) gr.e.s p x d _ _ ρ2 _ is_ env3 qa fun σ2 env4 hw => ⟨?_, ?_⟩
      · rw [hw _ hv, wipe_wipe]
      refine ⟨R2, G3, ρ2, μ2, ⟨gr.e.s, gr.e.cl, env4, gr.mu mu2, x3.t w1.tb⟩, (after_base (rel := rEq) a).imp ?_⟩
      rintro k H4 ⟨R4, G4, k', μ4, x4, ek, mu4, a4⟩
      cases (show k = k' from ek)
      have x4' := x3.trans x4
      have h4 := x4.k _ _ h3 rfl n2
      have g4 : G4 Dn = none := ext_none x4 g3 (hard_lst h3) n2
      have n4 : Dn ∉ R4 := fun z => (x4.nr _ z).elim n2 fun z => by rw [h3] at z; cases z
      have sg4 : Sub G1 G4 := (sg.trans gr.e.g).trans x4.g
      have sr4 : ∀ (k : Nat) (a : Addr), R1[k]? = some a → R4[k]? = some a := fun k c q => x4.idx k c (sr k c q)
      have k4 := k2.mono (gr.e.g.trans x4.g) x4.idx
      cases k with
      | false => exact ⟨R4, G4, acc, μ4, xs, sg4, sr4, x4', mu4, g4, n4, h4, k4, a4⟩
      | true =>
        refine ⟨R4, G4, ρ2, μ4, ⟨x4.s, x4.cl, env4.mono x4.g x4.idx, mu4, x4'.t w1.tb⟩, (after_base (rel := rIt K mg) a4).imp ?_⟩
        rintro J1 H5 ⟨R5, G5, ds1, μ5, x5, it1, mu5, a5⟩
        have x5' := x4'.trans x5
        have h5 := x5.k _ _ h4 rfl n4
        have g5 : G5 Dn = none := ext_none x5 g4 (hard_lst h4) n4
        have n5 : Dn ∉ R5 := fun z => (x5.nr _ z).elim n4 fun z => by rw [h4] at z; cases z
        have k5 := k4.mono x5.g x5.idx
        have env5 : EnvIs K mg R5 G5 σ2 ρ2 := (env4.mono x4.g x4.idx).mono x5.g x5.idx
        rw [bind_assoc] at a5
        refine lc_loop (f := fun acc' => M.bind (lcN2 p t m1 p1 t1 e vs1 (wipeE vs ρ1) acc' (ds.drop (i + 1))) fun ys => M.pure (.lst ys)) (rel := rFr K mg) (Q := Q) (E := fun cls d H' => W cls d σ H') hD w1.tb hv1 env5 it1 ⟨x5', mu5, g5, n5, h5, k5, a5⟩ ?_
        exact fun H6 R6 G6 acc6 μ6 xs6 s6 r6 st => ⟨R6, G6, acc6, μ6, xs6, (sg4.trans x5.g).trans s6, fun k c q => r6 k c (x5.idx k c (sr4 k c q)), st⟩
  · have e : i = ds.length := by omega
    subst e
    rw [List.drop_eq_nil_of_le (Nat.le_refl _)] at a
    exact .inl ⟨wk.stops H hgw, a (.ref Dn) R2 G2 H x2 ⟨Dn, .lst acc, rfl, hD, g2, n2, rfl, xs, h2, k2⟩ mu2⟩
end
end DX
set_option Elab.async false
set_option linter.all false
set_option maxRecDepth 100000
set_option maxHeartbeats 4000000
/-! EC: statements in either mode -/
namespace DX
open PySem PySem.Spec PyProof.Rows L2
variable [Tb]
/-- h: owned slots unseen; p ms: those of ms seen, handles not -/
inductive Md where
  | h | p (ms : List Nat)
def sMd {α : Type} (md : Md) (fl : α → Bool) (m : Env' → M α) (f : α → Sm) : Sm := match md with
  | .h => sH m f
  | .p ms => sP ms m fun d ρ μ => f d (if fl d = true then ρ else frz ms ρ) μ
/-- what a relation keeps when the owned ones are taken back, or given up -/
structure Tr {Vv α : Type} (rel : Rl Vv α) (fl : α → Bool) : Prop where
  back : ∀ {H : Hp} {R' : List Addr} {G G' H2 : Hp} {v : Vv} {d : α}, Sub G' G → (∀ b o, G b = some o → cont o = false → G' b = some o) → (∀ a ∈ R', H a ≠ none) → fl d = true → rel.r H [] G H2 v d → rel.r H R' G' H2 v d
  give : ∀ {H : Hp} {R' : List Addr} {G H2 : Hp} {v : Vv} {d : α}, (∀ a ∈ R', H a ≠ none) → rel.r H [] G H2 v d → rel.r H R' G H2 v d
section
variable {K : PySem.W.Frag} {mg : Str → Option Value} {W : WX} {O R : List Addr} {G H : Hp} {σ : L2.St} {ρ : Env} {μ : List Mob} {E : Ends}
theorem tr_is : Tr (rIs K mg) D.flat := ⟨fun _ k _ f i => (i.flat k f).mono (.refl _) (fun _ _ h => by simp at h), fun _ i => i.mono (.refl _) (fun _ _ h => by simp at h)⟩
theorem tr_all : Tr (rAll K mg) D.flatAll := ⟨fun _ k _ f i => IsAll.mono (.refl _) (fun _ _ h => by simp at h) (IsAll.flat k i f), fun _ i => IsAll.mono (.refl _) (fun _ _ h => by simp at h) i⟩
theorem tr_fr : Tr (rFr K mg) itemsFlat where
  back := by
    rintro H R' G G' H2 v d s k hR f ⟨p, m, e, hp, gp, _, hm, o⟩
    refine ⟨p, m, e, hp, ?_, fun z => hR p z hp, hm, ob_flat hm o f k⟩
    cases q : G' p with
    | none => rfl
    | some u => rw [s p u q] at gp; cases gp
  give := by
    rintro H R' G H2 v d hR ⟨p, m, e, hp, gp, _, hm, o⟩
    exact ⟨p, m, e, hp, gp, fun z => hR p z hp, hm, o.mono (.refl _) (fun _ _ h => by simp at h) rfl⟩
theorem sub_subH (G1 : Hp) (l : List Addr) : Sub (subH G1 l) G1 := fun b o h => by
  unfold subH at h
  split at h
  · cases h
  · exact h
/-- a step in either mode, then the rest -/
theorem stepM {α Vv : Type} {rel : Rl Vv α} {fl : α → Bool} {md : Md} {m : Env' → M α} {f : α → Sm} (T : Tr rel fl) (w : StI K mg O R G H σ ρ) (mu : MuIs K mg R G H μ) (a : AftS K mg W (sMd md fl m f ρ μ) O R G H E) :
    tD K mg W rel m σ H fun v H1 => ∃ O1 R1 G1 ρ1 d μ1, ExtS O R G H O1 R1 G1 H1 ∧ StI K mg O1 R1 G1 H1 σ ρ1 ∧ MuIs K mg R1 G1 H1 μ1 ∧ rel.r H R1 G1 H1 v d ∧ ((∀ a ∈ O1, a ∈ O) ∧ ∀ b o, H b = some o → tbl? o = false → b ∉ R → H1 b = some o) ∧ AftS K mg W (f d ρ1 μ1) O R G H E := by
  cases md with
  | h =>
    obtain ⟨R0, G0, ρ0, μ0, w0, q⟩ := stepH (rel := rel) w mu a
    exact ⟨R0, G0, ρ0, μ0, w0, q.imp fun v H1 ⟨R1, G1, d, μ1, x, r, w1, mu1, k⟩ => ⟨O, R1, G1, ρ, d, μ1, x.toS, w1, mu1, r, ⟨fun _ h => h, x.k⟩, k⟩⟩
  | p ms =>
    have a : AftS K mg W (sP ms m (fun d ρ μ => f d (if fl d = true then ρ else frz ms ρ) μ) ρ μ) O R G H E := a
    have ok := okP a
    obtain ⟨R0, G0, ρ0, μ0, w0, q⟩ := stepP (rel := rel) w mu a
    refine ⟨R0, G0, ρ0, μ0, w0, q.imp fun v H1 ⟨G1, d, x, r, k⟩ => ?_⟩
    by_cases hd : fl d = true
    · rw [if_pos hd] at k
      obtain ⟨w1, x1, k1⟩ := w.extP mu.hard x
      exact ⟨O, R, _, ρ, d, μ, x1, w1, mu.keepP x1.g k1, T.back (sub_subH _ _) (no_ads w x) mu.hr hd r, ⟨fun _ h => h, fun b o h1 h2 _ => k1 b o h1 h2⟩, k⟩
    · rw [if_neg hd] at k
      obtain ⟨O1, w1, mu1, x1, f1, hO⟩ := giveP w ok mu x
      exact ⟨O1, R, G1, _, d, μ, x1, w1, mu1, T.give mu.hr r, ⟨hO, fun b o h1 h2 _ => x.k b o h1 h2 (by simp)⟩, k⟩
end
/-! ### a name is set -/
section
variable {X : Cx} {W : WX} {e tg : Expr} {es : List Expr} {pos pos' : Pos} {x : Str} {K : PySem.W.Frag} {mg : Str → Option Value}
def sSetM (md : Md) (i : Nat) (m : Env' → M D) : Sm := sMd md D.flat m fun d ρ μ => .nx (ρ.set i (.fr d)) μ
def sSetFM (md : Md) (i : Nat) (m : Env' → M D) : Sm := sMd md itemsFlat m fun d ρ μ => .nx (ρ.set i (.ow d)) μ
theorem setM_end {md : Md} {i : Nat} {m : Env' → M D} {E : Ends} {σ : L2.St} {H : Hp} (h : tS K mg W (sSetM md i m) E σ H) : tAsg (tD K mg W (rIs K mg) m) (gName i) E σ H := by
  obtain ⟨O, R, G, ρ, μ, w, mu, a⟩ := h
  obtain ⟨R0, G0, ρ0, μ0, w0, q⟩ := stepM tr_is w mu a
  exact ⟨R0, G0, ρ0, μ0, w0, q.imp fun v H1 ⟨O1, R1, G1, ρ1, d, μ1, x, w1, mu1, r, _, k⟩ => k O1 R1 G1 H1 _ x (w1.set i r) mu1⟩
theorem setFM_end {md : Md} {i : Nat} {m : Env' → M D} {E : Ends} {σ : L2.St} {H : Hp} (h : tS K mg W (sSetFM md i m) E σ H) : tAsg (tD K mg W (rFr K mg) m) (gName i) E σ H := by
  obtain ⟨O, R, G, ρ, μ, w, mu, a⟩ := h
  obtain ⟨R0, G0, ρ0, μ0, w0, q⟩ := stepM tr_fr w mu a
  refine ⟨R0, G0, ρ0, μ0, w0, q.imp fun v H1 ⟨O1, R1, G1, ρ1, d, μ1, x, w1, mu1, r, hO, k⟩ => ?_⟩
  obtain ⟨p, m', rfl, hp, gp, nR, hm, o⟩ := r
  have nO : p ∉ O1 := fun z => by
    obtain ⟨_, _, u, hu, _⟩ := w.og p (hO.1 p z)
    rw [hp] at hu; cases hu
  exact k (p :: O1) R1 G1 H1 _ (ExtS.more p hp x) (w1.setF i nO gp nR (toMob_ow hm) o) mu1

theorem s_setM (md : Md) (i : Nat) {m : Env' → M D} (hN : X.N.Nodup) (hi : X.N[i]? = some x) (hx : Loc X.env.scope x) (h : E' X W e m) (hs : swapsWith e (some (.Name x pos')) pos.line X.env = pure false := by rfl) (hf : X.fn x = true ∨ X.env.scope.names.lookup x = some .local := by first | exact .inl rfl | exact .inr rfl) :
    S' X W (.Assign [.Name x pos'] e pos) (sSetM md i m) := PS.weak (ps_set hN hi hx h hs hf) fun E σ H a => setM_end a
theorem s_setFM (md : Md) (i : Nat) {m : Env' → M D} (hN : X.N.Nodup) (hi : X.N[i]? = some x) (hx : Loc X.env.scope x) (h : F' X W e m) (hs : swapsWith e (some (.Name x pos')) pos.line X.env = pure false := by rfl) (hf : X.fn x = true ∨ X.env.scope.names.lookup x = some .local := by first | exact .inl rfl | exact .inr rfl) :
    S' X W (.Assign [.Name x pos'] e pos) (sSetFM md i m) := PS.weak (ps_set hN hi hx h hs hf) fun E σ H a => setFM_end a
theorem tD_of {m : Env' → M D} {σ : L2.St} {H : Hp} {Q : VK} (h : tD K mg W (rIs K mg) m σ H Q) : tD K mg W (rFr K mg) m σ H Q := by
  obtain ⟨R, G, ρ, μ, w, q⟩ := h
  refine ⟨R, G, ρ, μ, w, ?_⟩
  cases z : m ρ μ with
  | ok d μ' =>
    rw [z] at q
    intro v R' G' H' x f mu
    obtain ⟨G2, x2, s2, i⟩ := fresh_is x f
    exact q v R' G2 H' x2 i (mu.sub s2)
  | exc c fs μ' => rw [z] at q; exact q
  | stuck => rw [z] at q; exact q
/-! ### several names by a tuple; return; an expression alone -/
def sTupM (md : Md) (p : Pat) (m : Env' → M D) : Sm := sMd md D.flat m fun d ρ μ => match asg Slot.fr p d ρ with
  | some ρ' => .nx ρ' μ
  | none => .stuck
theorem s_tupM (md : Md) (p : Pat) {m : Env' → M D} (h : E' X W e m) (hg : PG X tg (gPat X.K p)) (hs : swapsWithSole [tg] e pos.line X.env = pure false := by rfl) (hw : swappedStores [tg] e X.env = pure none := by rfl) (h1 : (assignEach [tg] X.env).map (·.2) = [assign tg X.env] := by rfl) : S' X W (.Assign [tg] e pos) (sTupM md p m) :=
  PS.weak (ps_asg h hg hs hw h1) fun E σ H ⟨O, R, G, ρ, μ, w, mu, a⟩ => by
    obtain ⟨R0, G0, ρ0, μ0, w0, q⟩ := stepM tr_is w mu a
    refine ⟨R0, G0, ρ0, μ0, w0, q.imp fun v H1 ⟨O1, R1, G1, ρ1, d, μ1, x, w1, mu1, r, _, k⟩ => ?_⟩
    cases qa : asg Slot.fr p d ρ1 with
    | none => simp only [qa] at k; exact k.elim
    | some ρ' =>
      simp only [qa] at k
      exact asg_ok (P := fun σ ρ => StI X.K X.mg O1 R1 G1 H1 σ ρ) (fun σ ρ i v d h k => h.set i k) w1.s p v d σ ρ1 ρ' _ r w1 qa fun σ' w2 _ => k O1 R1 G1 H1 σ' x w2 mu1
def sRetM (md : Md) (m : Env' → M D) : Sm := sMd md D.flat m fun d _ μ => .rt d μ
theorem s_retM (md : Md) {m : Env' → M D} (h : E' X W e m) : S' X W (.Return (some e) pos) (sRetM md m) :=
  PS.weak (ps_ret h) fun E σ H ⟨O, R, G, ρ, μ, w, mu, a⟩ => by
    obtain ⟨R0, G0, ρ0, μ0, w0, q⟩ := stepM tr_is w mu a
    exact ⟨R0, G0, ρ0, μ0, w0, q.imp fun v H1 ⟨O1, R1, G1, ρ1, d, μ1, x, w1, mu1, r, _, k⟩ => k O1 R1 G1 H1 v x w1.s w1.cl r mu1⟩
def sExpM (md : Md) (m : Env' → M D) : Sm := sMd md D.flat m fun _ ρ μ => .nx ρ μ
theorem s_expM (md : Md) {m : Env' → M D} (h : E' X W e m) (hs : swapsWith e none pos.line X.env = pure false := by rfl) : S' X W (.Expr e pos) (sExpM md m) :=
  PS.weak (ps_expr h hs) fun E σ H ⟨O, R, G, ρ, μ, w, mu, a⟩ => by
    obtain ⟨R0, G0, ρ0, μ0, w0, q⟩ := stepM tr_is w mu a
    exact ⟨R0, G0, ρ0, μ0, w0, q.imp fun v H1 ⟨O1, R1, G1, ρ1, d, μ1, x, w1, mu1, r, _, k⟩ => k O1 R1 G1 H1 σ x w1 mu1⟩
end
/-! ### comprehensions -/
section
variable {X : Cx} {W : WX} {tg iter elt tg1 iter1 : Expr} {ifs ifs1 : List Expr} {scope : Scope} {own : List (Str × Nat)} {pos spos py : Pos} {p p1 : Pat} {y : Str} {vs1 : List Nat}
abbrev PGb (X : Cx) (scope : Scope) (tg : Expr) (p : Pat) : Prop := ∀ (s : Shared) (H : Hp) (C : Addr) (cl : List (Str × Addr)) (fp : List Addr), PG (blkOf X scope s H C cl fp) tg (gPat X.K p)
abbrev PTb (X : Cx) (scope : Scope) (ifs : List Expr) (t : Env' → M Bool) : Prop := ∀ (s : Shared) (H : Hp) (C : Addr) (cl : List (Str × Addr)) (fp : List Addr), PTs (blkOf X scope s H C cl fp) ifs (tPts X.K X.mg t)
abbrev PEb (X : Cx) (scope : Scope) (elt : Expr) (e : Env' → M D) : Prop := ∀ (s : Shared) (H : Hp) (C : Addr) (cl : List (Str × Addr)) (fp : List Addr), E' (blkOf X scope s H C cl fp) W0x elt e
abbrev PIb (X : Cx) (scope : Scope) (tg iter : Expr) (m : Env' → M (List D)) : Prop := ∀ (s : Shared) (H : Hp) (C : Addr) (cl : List (Str × Addr)) (fp : List Addr), I' (blkOf X scope s H C cl fp) W0x tg iter m
theorem f_lcN (p : Pat) (own : List (Str × Nat)) {m : Env' → M (List D)} {t : Env' → M Bool} {e : Env' → M D} (hc : X.calm = true) (hN : X.N.Nodup) (hi : I' X W tg iter m) (ok : BlkOk X.N X.env.scope scope own) (hv : patIn (own.map (·.2)) p = true)
    (hg : PGb X scope tg p) (ht : PTb X scope ifs t) (he : PEb X scope elt e) (hs : ∀ x, foldedSetIterable iter X.env x = pure x := by intro _; rfl) : F' X W (.ListComp elt [⟨tg, iter, ifs, 0⟩] scope pos) (dLc p (own.map (·.2)) m t e) :=
  PE.weak (pe_lc (te := tD X.K X.mg W0x (rIs X.K X.mg) e) hc hN hi ok hg ht he hs) fun σ H Q h => lc_tLc hv h
theorem f_lcN2 (p p1 : Pat) (own : List (Str × Nat)) (vs1 : List Nat) {m m1 : Env' → M (List D)} {t t1 : Env' → M Bool} {e : Env' → M D} (hc : X.calm = true) (hN : X.N.Nodup) (hi : I' X W tg iter m) (ok : BlkOk X.N X.env.scope scope own) (hv : patIn (own.map (·.2)) p = true) (hv1 : patIn vs1 p1 = true) (hv2 : ∀ i ∈ vs1, i ∈ own.map (·.2))
    (hg : PGb X scope tg p) (ht : PTb X scope ifs t) (hi1 : PIb X scope tg1 iter1 m1) (hg1 : PGb X scope tg1 p1) (ht1 : PTb X scope ifs1 t1) (he : PEb X scope elt e) (hs : ∀ x, foldedSetIterable iter X.env x = pure x := by intro _; rfl) (hs1 : ∀ env x, foldedSetIterable iter1 env x = pure x := by intro _ _; rfl) :
    F' X W (.ListComp elt [⟨tg, iter, ifs, 0⟩, ⟨tg1, iter1, ifs1, 0⟩] scope pos) (dLc2 p (own.map (·.2)) m t p1 vs1 m1 t1 e) :=
  PE.weak (pe_lc2 (te := tD X.K X.mg W0x (rIs X.K X.mg) e) hc hN hi ok hv2 hg ht hi1 hg1 ht1 he hs hs1) fun σ H Q h => lc_tLc2 hv hv1 h
/-- name = [..], the name read as a value from then on -/
theorem s_lcM (md : Md) (i : Nat) (p : Pat) (own : List (Str × Nat)) {m : Env' → M (List D)} {t : Env' → M Bool} {e : Env' → M D} (hc : X.calm = true) (hN : X.N.Nodup) (hy : X.N[i]? = some y) (hyl : X.env.scope.names.lookup y = some .local) (hsw : swapsWith (.ListComp elt [⟨tg, iter, ifs, 0⟩] scope pos) (some (.Name y py)) spos.line X.env = pure true)
    (hi : I' X W tg iter m) (ok : BlkOk X.N X.env.scope scope own) (hv : patIn (own.map (·.2)) p = true) (hg : PGb X scope tg p) (ht : PTb X scope ifs t) (he : PEb X scope elt e) (hs : ∀ x, foldedSetIterable iter X.env x = pure x := by intro _; rfl) :
    S' X W (.Assign [.Name y py] (.ListComp elt [⟨tg, iter, ifs, 0⟩] scope pos) spos) (sSetM md i (dLc p (own.map (·.2)) m t e)) :=
  PS.weak (ps_setLc (te := tD X.K X.mg W0x (rIs X.K X.mg) e) hc hN hy hyl hsw hi ok hg ht he hs) fun E σ H a => lc_tLc hv (tD_of (setM_end a))
theorem s_lcFM (md : Md) (i : Nat) (p : Pat) (own : List (Str × Nat)) {m : Env' → M (List D)} {t : Env' → M Bool} {e : Env' → M D} (hc : X.calm = true) (hN : X.N.Nodup) (hy : X.N[i]? = some y) (hyl : X.env.scope.names.lookup y = some .local) (hsw : swapsWith (.ListComp elt [⟨tg, iter, ifs, 0⟩] scope pos) (some (.Name y py)) spos.line X.env = pure true)
    (hi : I' X W tg iter m) (ok : BlkOk X.N X.env.scope scope own) (hv : patIn (own.map (·.2)) p = true) (hg : PGb X scope tg p) (ht : PTb X scope ifs t) (he : PEb X scope elt e) (hs : ∀ x, foldedSetIterable iter X.env x = pure x := by intro _; rfl) :
    S' X W (.Assign [.Name y py] (.ListComp elt [⟨tg, iter, ifs, 0⟩] scope pos) spos) (sSetFM md i (dLc p (own.map (·.2)) m t e)) :=
  PS.weak (ps_setLc (te := tD X.K X.mg W0x (rIs X.K X.mg) e) hc hN hy hyl hsw hi ok hg ht he hs) fun E σ H a => lc_tLc hv (setFM_end a)
theorem s_lc2M (md : Md) (i : Nat) (p p1 : Pat) (own : List (Str × Nat)) (vs1 : List Nat) {m m1 : Env' → M (List D)} {t t1 : Env' → M Bool} {e : Env' → M D} (hc : X.calm = true) (hN : X.N.Nodup) (hy : X.N[i]? = some y) (hyl : X.env.scope.names.lookup y = some .local) (hsw : swapsWith (.ListComp elt [⟨tg, iter, ifs, 0⟩, ⟨tg1, iter1, ifs1, 0⟩] scope pos) (some (.Name y py)) spos.line X.env = pure true)
    (hi : I' X W tg iter m) (ok : BlkOk X.N X.env.scope scope own) (hv : patIn (own.map (·.2)) p = true) (hv1 : patIn vs1 p1 = true) (hv2 : ∀ i ∈ vs1, i ∈ own.map (·.2))
    (hg : PGb X scope tg p) (ht : PTb X scope ifs t) (hi1 : PIb X scope tg1 iter1 m1) (hg1 : PGb X scope tg1 p1) (ht1 : PTb X scope ifs1 t1) (he : PEb X scope elt e) (hs : ∀ x, foldedSetIterable iter X.env x = pure x := by intro _; rfl) (hs1 : ∀ env x, foldedSetIterable iter1 env x = pure x := by intro _ _; rfl) :
    S' X W (.Assign [.Name y py] (.ListComp elt [⟨tg, iter, ifs, 0⟩, ⟨tg1, iter1, ifs1, 0⟩] scope pos) spos) (sSetM md i (dLc2 p (own.map (·.2)) m t p1 vs1 m1 t1 e)) :=
  PS.weak (ps_setLc2 (te := tD X.K X.mg W0x (rIs X.K X.mg) e) hc hN hy hyl hsw hi ok hv2 hg ht hi1 hg1 ht1 he hs hs1) fun E σ H a => lc_tLc2 hv hv1 (tD_of (setM_end a))
theorem s_lc2FM (md : Md) (i : Nat) (p p1 : Pat) (own : List (Str × Nat)) (vs1 : List Nat) {m m1 : Env' → M (List D)} {t t1 : Env' → M Bool} {e : Env' → M D} (hc : X.calm = true) (hN : X.N.Nodup) (hy : X.N[i]? = some y) (hyl : X.env.scope.names.lookup y = some .local) (hsw : swapsWith (.ListComp elt [⟨tg, iter, ifs, 0⟩, ⟨tg1, iter1, ifs1, 0⟩] scope pos) (some (.Name y py)) spos.line X.env = pure true)
    (hi : I' X W tg iter m) (ok : BlkOk X.N X.env.scope scope own) (hv : patIn (own.map (·.2)) p = true) (hv1 : patIn vs1 p1 = true) (hv2 : ∀ i ∈ vs1, i ∈ own.map (·.2))
    (hg : PGb X scope tg p) (ht : PTb X scope ifs t) (hi1 : PIb X scope tg1 iter1 m1) (hg1 : PGb X scope tg1 p1) (ht1 : PTb X scope ifs1 t1) (he : PEb X scope elt e) (hs : ∀ x, foldedSetIterable iter X.env x = pure x := by intro _; rfl) (hs1 : ∀ env x, foldedSetIterable iter1 env x = pure x := by intro _ _; rfl) :
    S' X W (.Assign [.Name y py] (.ListComp elt [⟨tg, iter, ifs, 0⟩, ⟨tg1, iter1, ifs1, 0⟩] scope pos) spos) (sSetFM md i (dLc2 p (own.map (·.2)) m t p1 vs1 m1 t1 e)) :=
  PS.weak (ps_setLc2 (te := tD X.K X.mg W0x (rIs X.K X.mg) e) hc hN hy hyl hsw hi ok hv2 hg ht hi1 hg1 ht1 he hs hs1) fun E σ H a => lc_tLc2 hv hv1 (setFM_end a)
end
/-! ### lists that are changed -/
def isOwL (i : Nat) (ρ : Env) : Bool := match ρ[i]? with
  | some (.ow (.lst _)) => true
  | _ => false
def gdL (i : Nat) (m : Sm) : Sm := fun ρ μ => if isOwL i ρ = true then m ρ μ else .stuck
section
variable {K : PySem.W.Frag} {mg : Str → Option Value} {W : WX} {O R : List Addr} {G H : Hp} {σ : L2.St} {ρ : Env} {μ : List Mob} {E : Ends} {i : Nat}
theorem gd_L {m : Sm} (w : StI K mg O R G H σ ρ) (a : AftS K mg W (gdL i m ρ μ) O R G H E) : AftS K mg W (m ρ μ) O R G H E ∧ ∃ l xs ds, ρ[i]? = some (.ow (.lst ds)) ∧ σ[i]? = some (some (.ref l)) ∧ H l = some (.lst xs) ∧ IsAll K mg R G xs ds := by
  unfold gdL isOwL at a
  cases q : ρ[i]? with
  | none => rw [q] at a; exact a.elim
  | some s =>
    rw [q] at a
    cases s with
    | un => exact a.elim
    | fr d => exact a.elim
    | ow d =>
      cases d with
      | lst ds =>
        obtain ⟨l, m', h1, h2, h3, h4⟩ := w.ow i _ q
        cases h3
        obtain ⟨xs, q1, q2⟩ := h4
        exact ⟨a, l, xs, ds, rfl, h1, q1, q2⟩
      | _ => exact a.elim
def sAppM (md : Md) (i : Nat) (m : Env' → M D) : Sm := gdL i (sMd md D.flat m fun d => appS i d)
def popS (i : Nat) (k : D → Sm) : Sm := fun ρ μ => match (ρ[i]? : Option Slot) with
  | some (Slot.ow (D.lst xs)) => match xs[xs.length - 1]? with
    | some d => k d (ρ.set i (.ow (.lst xs.dropLast))) μ
    | none => .stuck
  | _ => .stuck
theorem IsAll.dropLast {vs : List V} {ds : List D} (h : IsAll K mg R G vs ds) : IsAll K mg R G vs.dropLast ds.dropLast := by
  rw [List.dropLast_eq_take, List.dropLast_eq_take, h.length]
  exact h.take _
theorem IsAll.eraseIdx : ∀ {vs : List V} {ds : List D} (n : Nat), IsAll K mg R G vs ds → IsAll K mg R G (vs.eraseIdx n) (ds.eraseIdx n)
  | _, _, _, .nil => .nil
  | _, _, 0, .cons _ t => t
  | _, _, n + 1, .cons h t => .cons h (IsAll.eraseIdx n t)
theorem pop_end {k : D → Sm} (w : StI K mg O R G H σ ρ) (mu : MuIs K mg R G H μ) (a : AftS K mg W (popS i k ρ μ) O R G H E) :
    ∃ l xs y d ds, σ[i]? = some (some (.ref l)) ∧ H l = some (.lst xs) ∧ xs[xs.length - 1]? = some y ∧ Is K mg R G y d ∧ StI K mg O R G (upd H l (.lst xs.dropLast)) σ (ρ.set i (.ow (.lst ds))) ∧ MuIs K mg R G (upd H l (.lst xs.dropLast)) μ ∧ ExtS O R G H O R G (upd H l (.lst xs.dropLast)) ∧ AftS K mg W (k d (ρ.set i (.ow (.lst ds))) μ) O R G H E := by
  unfold popS at a
  split at a
  · rename_i ds hi
    split at a
    · rename_i d hd
      obtain ⟨l, m, h1, h2, h3, h4⟩ := w.ow i _ hi
      cases h3
      obtain ⟨xs, q1, q2⟩ := h4
      obtain ⟨y, hy, iy⟩ := q2.get hd
      obtain ⟨w2, mu2, x2⟩ := w.change (d' := .lst ds.dropLast) (o := .lst xs.dropLast) (m' := .lst ds.dropLast) mu hi h1 rfl ⟨xs.dropLast, upd_same, q2.dropLast⟩
      exact ⟨l, xs, y, d, ds.dropLast, h1, q1, by rw [q2.length]; exact hy, iy, w2, mu2, x2, a⟩
    · exact a.elim
  · exact a.elim
def popAtS (i : Nat) (dk : D) (k : D → Sm) : Sm := fun ρ μ => match (ρ[i]? : Option Slot), dk with
  | some (Slot.ow (D.lst xs)), .int j => match ixN xs.length j with
    | some n => match xs[n]? with
      | some d => if xs.length < 2 ^ 63 then k d (ρ.set i (.ow (.lst (xs.eraseIdx n)))) μ else .stuck
      | none => .stuck
    | none => .stuck
  | _, _ => .stuck
theorem popAt_end {k : D → Sm} {vk : V} {dk : D} (w : StI K mg O R G H σ ρ) (mu : MuIs K mg R G H μ) (hk : Is K mg R G vk dk) (a : AftS K mg W (popAtS i dk k ρ μ) O R G H E) :
    ∃ l xs j n y d ds, σ[i]? = some (some (.ref l)) ∧ vk = .int j ∧ H l = some (.lst xs) ∧ -(2 ^ 63) ≤ j ∧ j < 2 ^ 63 ∧ seqIndex? j xs.length = some n ∧ xs[n]? = some y ∧ Is K mg R G y d ∧ StI K mg O R G (upd H l (.lst (xs.eraseIdx n))) σ (ρ.set i (.ow (.lst ds))) ∧ MuIs K mg R G (upd H l (.lst (xs.eraseIdx n))) μ ∧
      ExtS O R G H O R G (upd H l (.lst (xs.eraseIdx n))) ∧ AftS K mg W (k d (ρ.set i (.ow (.lst ds))) μ) O R G H E := by
  unfold popAtS at a
  split at a
  · rename_i ds j hi
    split at a
    · rename_i n hn
      split at a
      · rename_i d hd
        split at a
        · rename_i hlen
          obtain ⟨l, m, h1, h2, h3, h4⟩ := w.ow i _ hi
          cases h3
          obtain ⟨xs, q1, q2⟩ := h4
          cases hk
          obtain ⟨y, hy, iy⟩ := q2.get hd
          rw [← q2.length] at hn hlen
          obtain ⟨s1, s2, s3, s4⟩ := ixN_seq hn
          obtain ⟨w2, mu2, x2⟩ := w.change (d' := .lst (ds.eraseIdx n)) (o := .lst (xs.eraseIdx n)) (m' := .lst (ds.eraseIdx n)) mu hi h1 rfl ⟨xs.eraseIdx n, upd_same, q2.eraseIdx n⟩
          exact ⟨l, xs, j, n, y, d, ds.eraseIdx n, h1, rfl, q1, by omega, by omega, s1, hy, iy, w2, mu2, x2, a⟩
        · exact a.elim
      · exact a.elim
    · exact a.elim
  · exact a.elim
def sPopAtM (md : Md) (i : Nat) (m : Env' → M D) (k : D → Sm) : Sm := gdL i (sMd md D.flat m fun dk => popAtS i dk k)
end
section
variable {X : Cx} {W : WX} {e k tg : Expr} {pos pos' p1 p2 p3 : Pos} {x y : Str} {i : Nat}
theorem s_appM (md : Md) (i : Nat) {m : Env' → M D} (he : E' X W e m) (hN : X.N[i]? = some x := by rfl) (hv : Vis X.env.scope x := by first | exact Or.inl rfl | exact Or.inr (Or.inl rfl) | exact Or.inr (Or.inr rfl)) (hd : (x == ("__debug__" : Str)) = false := by decide) (hcd : (x == ("__classdict__" : Str)) = false := by decide)
    (hb : attributeBase (.Name x p1) "append" X.env (eval (.Name x p1) X.env) = eval (.Name x p1) X.env := by rfl)
    (hs : starEach (e :: []) X.env = (false, eval e X.env) :: starEach [] X.env := by rfl) (hl : (p2.endLine == p3.line) = true := by rfl)
    (hfew : ((backTo p3 (starEach [e] X.env)).all (fun x => !x.1) && (backToKw p3 (keywordEach [] X.env)).all (fun x => x.1.isSome) && decide (([e] : List Expr).length + ([] : List Keyword).length + (if ([] : List Keyword).isEmpty then 0 else 1) < 30)) = true := by rfl)
    (hpl : (backTo p3 (starEach [] X.env)).any (·.1) = false := by rfl) (hsw : swapsWith (.Call (.Attribute (.Name x p1) "append" p2) [e] [] p3) none pos.line X.env = pure false := by rfl) :
    S' X W (.Expr (.Call (.Attribute (.Name x p1) "append" p2) [e] [] p3) pos) (sAppM md i m) :=
  PS.weak (app_ps hN hv hd hcd he hb hs hl hfew hpl hsw) fun E σ H ⟨O, R, G, ρ, μ, w, mu, a⟩ => by
    obtain ⟨a, l, xs, ds, hi, h1, q1, q2⟩ := gd_L w a
    refine ⟨l, h1, ⟨xs, SqL.of q1⟩, ?_⟩
    obtain ⟨R0, G0, ρ0, μ0, w0, q⟩ := stepM tr_is w mu a
    refine ⟨R0, G0, ρ0, μ0, w0, q.imp fun v H1 ⟨O1, R1, G1, ρ1, d, μ1, x, w1, mu1, r, _, k⟩ => ?_⟩
    obtain ⟨l', xs', e1, e2, e3, e4⟩ := app_end w1 mu1 r (AftS.ext k x)
    cases h1.symm.trans e1
    exact ⟨xs', e2, e3, e4⟩
theorem pop_pe (hN : X.N[i]? = some x) (hv : Vis X.env.scope x) (hd : (x == ("__debug__" : Str)) = false) (hcd : (x == ("__classdict__" : Str)) = false) (hb : attributeBase (.Name x p1) "pop" X.env (eval (.Name x p1) X.env) = eval (.Name x p1) X.env) (hl : (p2.endLine == p3.line) = true) :
    PE X (.Call (.Attribute (.Name x p1) "pop" p2) [] [] p3) (fun σ H Q => ∃ l xs y, σ[i]? = some (some (.ref l)) ∧ H l = some (.lst xs) ∧ xs[xs.length - 1]? = some y ∧ Q y (upd H l (.lst xs.dropLast))) :=
  PE.weak (pe_bm0 PySem.F.plainAttrs_list PySem.F.slot_list_pop PySem.F.type_list_pop mt_pop (pe_var hN hv hd hcd) hb hl) fun σ H Q ⟨l, xs, y, h1, h2, h3, q⟩ => ⟨.ref l, h1, .inl ⟨rfl, xs, SqL.of h2⟩, l, xs, y, rfl, rfl, h2, h3, q⟩
theorem popAt_pe {m : Env' → M D} (he : E' X W e m) (hN : X.N[i]? = some x) (hv : Vis X.env.scope x) (hd : (x == ("__debug__" : Str)) = false) (hcd : (x == ("__classdict__" : Str)) = false) (hb : attributeBase (.Name x p1) "pop" X.env (eval (.Name x p1) X.env) = eval (.Name x p1) X.env)
    (hs : starEach (e :: []) X.env = (false, eval e X.env) :: starEach [] X.env) (hl : (p2.endLine == p3.line) = true)
    (hfew : ((backTo p3 (starEach [e] X.env)).all (fun x => !x.1) && (backToKw p3 (keywordEach [] X.env)).all (fun x => x.1.isSome) && decide (([e] : List Expr).length + ([] : List Keyword).length + (if ([] : List Keyword).isEmpty then 0 else 1) < 30)) = true)
    (hpl : (backTo p3 (starEach [] X.env)).any (·.1) = false) :
    PE X (.Call (.Attribute (.Name x p1) "pop" p2) [e] [] p3) (fun σ H Q => ∃ l, σ[i]? = some (some (.ref l)) ∧ (∃ xs, SqL X.K H l xs) ∧ tD X.K X.mg W (rIs X.K X.mg) m σ H fun v H1 => ∃ xs j n y, v = .int j ∧ H1 l = some (.lst xs) ∧ -(2 ^ 63) ≤ j ∧ j < 2 ^ 63 ∧ seqIndex? j xs.length = some n ∧ xs[n]? = some y ∧ Q y (upd H1 l (.lst (xs.eraseIdx n)))) :=
  PE.weak (pe_bm PySem.F.plainAttrs_list PySem.F.slot_list_pop PySem.F.type_list_pop mt_popAt (pe_var hN hv hd hcd) (pa_cons he pa_nil hs) hb hfew hl hs hpl) fun σ H Q ⟨l, h1, ⟨xs, h2⟩, R, G, ρ, μ, w, h3⟩ =>
    ⟨.ref l, h1, .inl ⟨rfl, xs, h2⟩, R, G, ρ, μ, w, h3.imp fun v H1 ⟨ys, j, n, y, e1, q1, q2, q3, q4, q5, q6⟩ => ⟨l, ys, j, n, y, rfl, by rw [e1], q1, q2, q3, q4, q5, q6⟩⟩
/-- x.pop() alone; y = x.pop(); a tuple of names = x.pop() -/
def kNx : D → Sm := fun _ ρ μ => .nx ρ μ
def kSet (j : Nat) : D → Sm := fun d ρ μ => .nx (ρ.set j (.fr d)) μ
def kPat (p : Pat) : D → Sm := fun d ρ μ => match asg Slot.fr p d ρ with
  | some ρ' => .nx ρ' μ
  | none => .stuck
theorem s_popE (i : Nat) (hN : X.N[i]? = some x := by rfl) (hv : Vis X.env.scope x := by first | exact Or.inl rfl | exact Or.inr (Or.inl rfl) | exact Or.inr (Or.inr rfl)) (hd : (x == ("__debug__" : Str)) = false := by decide) (hcd : (x == ("__classdict__" : Str)) = false := by decide)
    (hb : attributeBase (.Name x p1) "pop" X.env (eval (.Name x p1) X.env) = eval (.Name x p1) X.env := by rfl) (hl : (p2.endLine == p3.line) = true := by rfl) (hsw : swapsWith (.Call (.Attribute (.Name x p1) "pop" p2) [] [] p3) none pos.line X.env = pure false := by rfl) :
    S' X W (.Expr (.Call (.Attribute (.Name x p1) "pop" p2) [] [] p3) pos) (popS i kNx) :=
  PS.weak (ps_expr (pop_pe hN hv hd hcd hb hl) hsw) fun E σ H ⟨O, R, G, ρ, μ, w, mu, a⟩ => by
    obtain ⟨l, xs, y, d, ds, h1, h2, h3, iy, w2, mu2, x2, k⟩ := pop_end w mu a
    exact ⟨l, xs, y, h1, h2, h3, k O R G _ σ x2 w2 mu2⟩
theorem s_popN (i j : Nat) (hNd : X.N.Nodup) (hj : X.N[j]? = some y) (hy : Loc X.env.scope y) (hN : X.N[i]? = some x := by rfl) (hv : Vis X.env.scope x := by first | exact Or.inl rfl | exact Or.inr (Or.inl rfl) | exact Or.inr (Or.inr rfl)) (hd : (x == ("__debug__" : Str)) = false := by decide) (hcd : (x == ("__classdict__" : Str)) = false := by decide)
    (hb : attributeBase (.Name x p1) "pop" X.env (eval (.Name x p1) X.env) = eval (.Name x p1) X.env := by rfl) (hl : (p2.endLine == p3.line) = true := by rfl) (hsw : swapsWith (.Call (.Attribute (.Name x p1) "pop" p2) [] [] p3) (some (.Name y pos')) pos.line X.env = pure false := by rfl)
    (hf : X.fn y = true ∨ X.env.scope.names.lookup y = some .local := by first | exact .inl rfl | exact .inr rfl) :
    S' X W (.Assign [.Name y pos'] (.Call (.Attribute (.Name x p1) "pop" p2) [] [] p3) pos) (popS i (kSet j)) :=
  PS.weak (ps_set hNd hj hy (pop_pe hN hv hd hcd hb hl) hsw hf) fun E σ H ⟨O, R, G, ρ, μ, w, mu, a⟩ => by
    obtain ⟨l, xs, y, d, ds, h1, h2, h3, iy, w2, mu2, x2, k⟩ := pop_end w mu a
    exact ⟨l, xs, y, h1, h2, h3, k O R G _ _ x2 (w2.set j iy) mu2⟩
theorem s_popT (i : Nat) (p : Pat) (hg : PG X tg (gPat X.K p)) (hN : X.N[i]? = some x := by rfl) (hv : Vis X.env.scope x := by first | exact Or.inl rfl | exact Or.inr (Or.inl rfl) | exact Or.inr (Or.inr rfl)) (hd : (x == ("__debug__" : Str)) = false := by decide) (hcd : (x == ("__classdict__" : Str)) = false := by decide)
    (hb : attributeBase (.Name x p1) "pop" X.env (eval (.Name x p1) X.env) = eval (.Name x p1) X.env := by rfl) (hl : (p2.endLine == p3.line) = true := by rfl) (hs : swapsWithSole [tg] (.Call (.Attribute (.Name x p1) "pop" p2) [] [] p3) pos.line X.env = pure false := by rfl)
    (hw : swappedStores [tg] (.Call (.Attribute (.Name x p1) "pop" p2) [] [] p3) X.env = pure none := by rfl) (ha : (assignEach [tg] X.env).map (·.2) = [assign tg X.env] := by rfl) :
    S' X W (.Assign [tg] (.Call (.Attribute (.Name x p1) "pop" p2) [] [] p3) pos) (popS i (kPat p)) :=
  PS.weak (ps_asg (pop_pe hN hv hd hcd hb hl) hg hs hw ha) fun E σ H ⟨O, R, G, ρ, μ, w, mu, a⟩ => by
    obtain ⟨l, xs, y, d, ds, h1, h2, h3, iy, w2, mu2, x2, k⟩ := pop_end w mu a
    refine ⟨l, xs, y, h1, h2, h3, ?_⟩
    unfold kPat at k
    cases qa : asg Slot.fr p d (ρ.set i (.ow (.lst ds))) with
    | none => simp only [qa] at k; exact k.elim
    | some ρ' =>
      simp only [qa] at k
      exact asg_ok (P := fun σ ρ => StI X.K X.mg O R G _ σ ρ) (fun σ ρ i v d h k => h.set i k) w2.s p y d σ _ ρ' _ iy w2 qa fun σ' w3 _ => k O R G _ σ' x2 w3 mu2
theorem s_popAtN (md : Md) (i j : Nat) {m : Env' → M D} (he : E' X W e m) (hNd : X.N.Nodup) (hj : X.N[j]? = some y) (hy : Loc X.env.scope y) (hN : X.N[i]? = some x := by rfl) (hv : Vis X.env.scope x := by first | exact Or.inl rfl | exact Or.inr (Or.inl rfl) | exact Or.inr (Or.inr rfl)) (hd : (x == ("__debug__" : Str)) = false := by decide) (hcd : (x == ("__classdict__" : Str)) = false := by decide)
    (hb : attributeBase (.Name x p1) "pop" X.env (eval (.Name x p1) X.env) = eval (.Name x p1) X.env := by rfl) (hs : starEach (e :: []) X.env = (false, eval e X.env) :: starEach [] X.env := by rfl) (hl : (p2.endLine == p3.line) = true := by rfl)
    (hfew : ((backTo p3 (starEach [e] X.env)).all (fun x => !x.1) && (backToKw p3 (keywordEach [] X.env)).all (fun x => x.1.isSome) && decide (([e] : List Expr).length + ([] : List Keyword).length + (if ([] : List Keyword).isEmpty then 0 else 1) < 30)) = true := by rfl)
    (hpl : (backTo p3 (starEach [] X.env)).any (·.1) = false := by rfl) (hsw : swapsWith (.Call (.Attribute (.Name x p1) "pop" p2) [e] [] p3) (some (.Name y pos')) pos.line X.env = pure false := by rfl)
    (hf : X.fn y = true ∨ X.env.scope.names.lookup y = some .local := by first | exact .inl rfl | exact .inr rfl) :
    S' X W (.Assign [.Name y pos'] (.Call (.Attribute (.Name x p1) "pop" p2) [e] [] p3) pos) (sPopAtM md i m (kSet j)) :=
  PS.weak (ps_set hNd hj hy (popAt_pe he hN hv hd hcd hb hs hl hfew hpl) hsw hf) fun E σ H ⟨O, R, G, ρ, μ, w, mu, a⟩ => by
    obtain ⟨a, l, xs, ds, hi, h1, q1, q2⟩ := gd_L w a
    refine ⟨l, h1, ⟨xs, SqL.of q1⟩, ?_⟩
    obtain ⟨R0, G0, ρ0, μ0, w0, q⟩ := stepM tr_is w mu a
    refine ⟨R0, G0, ρ0, μ0, w0, q.imp fun v H1 ⟨O1, R1, G1, ρ1, d, μ1, x, w1, mu1, r, _, k⟩ => ?_⟩
    obtain ⟨l', ys, j', n, y, d, ds', e1, e2, e3, e4, e5, e6, e7, iy, w2, mu2, x2, k2⟩ := popAt_end w1 mu1 r (AftS.ext k x)
    cases h1.symm.trans e1
    exact ⟨ys, j', n, y, e2, e3, e4, e5, e6, e7, k2 O1 R1 G1 _ _ x2 (w2.set j iy) mu2⟩
/-! ### x[k] = e, x[k] op= e -/
def sPutI (md : Md) (i : Nat) (mv mk : Env' → M D) : Sm := gdL i (sMd md D.flat mv fun v => sMd md D.flat mk fun k => setS i k v)
theorem sub_is {K : PySem.W.Frag} {mg : Str → Option Value} {O R O1 R1 : List Addr} {G H G1 H1 : Hp} {v : V} {d : D} (x : ExtS O R G H O1 R1 G1 H1) (i : Is K mg R G v d) : Is K mg R1 G1 v d := i.mono x.g x.idx
theorem s_putI (md : Md) (i : Nat) {mv mk : Env' → M D} (he : E' X W e mv) (hk : E' X W k mk) (hN : X.N[i]? = some x := by rfl) (hv : Vis X.env.scope x := by first | exact Or.inl rfl | exact Or.inr (Or.inl rfl) | exact Or.inr (Or.inr rfl)) (hd : (x == ("__debug__" : Str)) = false := by decide) (hcd : (x == ("__classdict__" : Str)) = false := by decide)
    (hg : ∀ v, assign (.Subscript (.Name x p1) k p2) X.env v = (do
      let ov ← holding [v] (eval (.Name x p1) X.env)
      let iv ← holding [v, ov] (eval k X.env)
      standAt p2
      holding [v, ov, iv] (setItem ov iv v)
      release [v, ov, iv] []) := by intro _; rfl)
    (hs : swapsWithSole [.Subscript (.Name x p1) k p2] e pos.line X.env = pure false := by rfl) (hw : swappedStores [.Subscript (.Name x p1) k p2] e X.env = pure none := by rfl) (h1 : (assignEach [.Subscript (.Name x p1) k p2] X.env).map (·.2) = [assign (.Subscript (.Name x p1) k p2) X.env] := by rfl) :
    S' X W (.Assign [.Subscript (.Name x p1) k p2] e pos) (sPutI md i mv mk) :=
  PS.weak (ps_asg he (pg_sub (pe_var hN hv hd hcd) hk set_list hg) hs hw h1) fun E σ H ⟨O, R, G, ρ, μ, w, mu, a⟩ => by
    obtain ⟨a, l, xs, ds, hi, h1, q1, q2⟩ := gd_L w a
    obtain ⟨R0, G0, ρ0, μ0, w0, q⟩ := stepM tr_is w mu a
    refine ⟨R0, G0, ρ0, μ0, w0, q.imp fun v H1 ⟨O1, R1, G1, ρ1, d, μ1, x1, w1, mu1, r, _, k⟩ => ⟨.ref l, h1, ?_⟩⟩
    obtain ⟨R2, G2, ρ2, μ2, w2, q2⟩ := stepM tr_is w1 mu1 (AftS.ext k x1)
    refine ⟨R2, G2, ρ2, μ2, w2, q2.imp fun vk H2 ⟨O3, R3, G3, ρ3, dk, μ3, x3, w3, mu3, r3, _, k3⟩ => ?_⟩
    obtain ⟨l', ys, j, n, e1, e2, e3, e4, e5⟩ := set_end w3 mu3 (sub_is x3 r) r3 (AftS.ext k3 x3)
    cases h1.symm.trans e1
    exact ⟨l, ys, j, n, rfl, e2, e3, e4, e5⟩
end
end DX
set_option Elab.async false
set_option linter.all false
set_option maxRecDepth 100000
set_option maxHeartbeats 4000000
/-! ED: x op= e, x[k] op= e; several names at once, new lists among them -/
namespace DX
open PySem PySem.Spec PyProof.Rows L2
variable [Tb]
section
variable {X : Cx} {W : WX} {e k tg a b c : Expr} {es : List Expr} {pos pos' p1 p2 p3 : Pos} {x y z : Str} {i : Nat}
def dIAdd : D → D → Option D
  | .int i, .int j => some (.int (i + j))
  | .str x, .str y => if x.length + y.length ≤ 16777216 then some (.str (x ++ y)) else none
  | _, _ => none
def dISub : D → D → Option D
  | .int i, .int j => some (.int (i - j))
  | _, _ => none
theorem ip_dAdd : PIp X .Add (rP2 X.K X.mg dIAdd) := by
  intro pins s σ H x y v u Q I rx ry h
  obtain ⟨R, G, d, e, z, w, i1, i2, hz, q⟩ := h
  cases i1 with
  | int i =>
    cases i2 with
    | int j => cases hz; exact iop_add pins s σ H _ _ v u Q I rx ry ⟨i, j, rfl, rfl, q _ G H (.refl w) (.int _)⟩
    | _ => cases hz
  | str i =>
    cases i2 with
    | str j =>
      simp only [dIAdd] at hz
      split at hz
      · rename_i hl
        cases hz
        exact iop_add_str pins s σ H _ _ v u Q I rx ry ⟨i, j, rfl, rfl, by rw [sizeLine_eq]; exact hl, q _ G H (.refl w) (.str _)⟩
      · cases hz
    | _ => cases hz
  | _ => cases hz
theorem ip_dSub : PIp X .Sub (rP2 X.K X.mg dISub) := by
  intro pins s σ H x y v u Q I rx ry h
  obtain ⟨R, G, d, e, z, w, i1, i2, hz, q⟩ := h
  cases i1 with
  | int i =>
    cases i2 with
    | int j => cases hz; exact iop_sub pins s σ H _ _ v u Q I rx ry ⟨i, j, rfl, rfl, q _ G H (.refl w) (.int _)⟩
    | _ => cases hz
  | _ => cases hz
def setG (i : Nat) (g : D → D → Option D) (d y : D) : Sm := fun ρ μ => match g d y with
  | some z => .nx (ρ.set i (.fr z)) μ
  | none => .stuck
def sAugM (md : Md) (i : Nat) (g : D → D → Option D) (m : Env' → M D) : Sm := fun ρ μ => match (ρ[i]? : Option Slot) with
  | some (Slot.fr d) => sMd md D.flat m (setG i g d) ρ μ
  | _ => .stuck
theorem s_augM (md : Md) (i : Nat) {op : Operator} {g : D → D → Option D} {m : Env' → M D} (ho : PIp X op (rP2 X.K X.mg g)) (hN : X.N.Nodup) (hi : X.N[i]? = some x) (hx : Loc X.env.scope x) (he : E' X W e m) (hf : X.fn x = true ∨ X.env.scope.names.lookup x = some .local := by first | exact .inl rfl | exact .inr rfl) :
    S' X W (.AugAssign (.Name x pos') op e pos) (sAugM md i g m) :=
  PS.weak (ps_aug hN hi hx he ho hf) fun E σ H ⟨O, R, G, ρ, μ, w, mu, a⟩ => by
    unfold sAugM at a
    split at a
    · rename_i d hd
      obtain ⟨v, h1, i1⟩ := w.fr i d hd
      refine ⟨v, h1, ?_⟩
      obtain ⟨R0, G0, ρ0, μ0, w0, q⟩ := stepM tr_is w mu a
      refine ⟨R0, G0, ρ0, μ0, w0, q.imp fun u H1 ⟨O1, R1, G1, ρ1, d2, μ1, x1, w1, mu1, r, _, k⟩ => ?_⟩
      unfold setG at k
      cases hz : g d d2 with
      | none => simp only [hz] at k; exact k.elim
      | some z =>
        simp only [hz] at k
        refine ⟨R1, G1, d, d2, z, ⟨w1.s, w1.cl, mu1.hr⟩, sub_is x1 i1, r, hz, fun v2 G2 H2 gr iv => ?_⟩
        exact k O1 R1 G2 H2 _ (x1.trans gr.e.toS) ((w1.extH gr.e).set i iv) (gr.mu mu1)
    · exact a.elim
/-- x[k] op= e -/
def augS (i : Nat) (g : D → D → Option D) (k y : D) : Sm := fun ρ μ => match (ρ[i]? : Option Slot), k with
  | some (Slot.ow (D.lst xs)), .int j => match ixN xs.length j with
    | some n => match xs[n]? with
      | some d => match g d y with
        | some z => .nx (ρ.set i (.ow (.lst (xs.set n z)))) μ
        | none => .stuck
      | none => .stuck
    | none => .stuck
  | _, _ => .stuck
/-- the place is there -/
def gdK (i : Nat) (k : D) (m : Sm) : Sm := fun ρ μ => match (ρ[i]? : Option Slot), k with
  | some (Slot.ow (D.lst xs)), .int j => if (ixN xs.length j).isSome = true then m ρ μ else .stuck
  | _, _ => .stuck
def sAugI (md : Md) (i : Nat) (g : D → D → Option D) (mk me : Env' → M D) : Sm := gdL i (sMd md D.flat mk fun k => gdK i k (sMd md D.flat me fun y => augS i g k y))
theorem get_list : PGet X (fun o i H Q => ∃ l xs j n v, o = .ref l ∧ i = .int j ∧ H l = some (.lst xs) ∧ ixN xs.length j = some n ∧ xs[n]? = some v ∧ Q v H) := by
  intro pins s σ H o i ov iv Q I ro ri h
  obtain ⟨l, xs, j, n, v, rfl, rfl, hl, hn, hv, q⟩ := h
  cases ro
  obtain ⟨t, rfl⟩ := ri
  have hq : SqL X.K H l xs := SqL.of hl
  have he : atI xs j = some v := by unfold atI; rw [hn]; exact hv
  obtain ⟨its, r, pl, hz⟩ := I.list hq
  obtain ⟨m, h1, h2, h3, h4, h5⟩ := atI_get he
  obtain ⟨w, ew, rw'⟩ := r.get h2
  have hl := r.length
  have hn := line63
  have fin : EP X pins σ Q w s := ⟨v, H, I, rw', q⟩
  by_cases h0 : 0 ≤ j
  · have hj : j.toNat = m := by
      rw [seqIndex_of h0 h5] at h1
      exact Option.some.inj h1
    exact wpAny_getItem_list pl.isList h0 (by omega) (by rw [hj]; simpa using ew) fin
  · have hj : (j + (its.toArray.size : Int)).toNat = m := by
      rw [seqIndex_neg (by omega) h4] at h1
      rw [List.size_toArray, ← hl]
      exact Option.some.inj h1
    exact wpAny_getItem_list_neg pl.isList (by omega) (by rw [List.size_toArray] <;> omega) (by omega) (by rw [hj]; simpa using ew) fin
theorem s_augI (md : Md) (i : Nat) {op : Operator} {g : D → D → Option D} {mk me : Env' → M D} (ho : PIp X op (rP2 X.K X.mg g)) (hk : E' X W k mk) (he : E' X W e me) (hN : X.N[i]? = some x := by rfl) (hv : Vis X.env.scope x := by first | exact Or.inl rfl | exact Or.inr (Or.inl rfl) | exact Or.inr (Or.inr rfl)) (hd : (x == ("__debug__" : Str)) = false := by decide) (hcd : (x == ("__classdict__" : Str)) = false := by decide)
    (hst : ∀ ov iv new, augStore k ov iv new = (do holding [new, ov, iv] (setItem ov iv new); release [new, ov, iv] []; pure .next) := by intros; rfl) : S' X W (.AugAssign (.Subscript (.Name x p1) k p2) op e pos) (sAugI md i g mk me) :=
  PS.weak (ps_augS (pe_var hN hv hd hcd) hk get_list he ho set_list hst) fun E σ H ⟨O, R, G, ρ, μ, w, mu, a⟩ => by
    obtain ⟨a, l, xs, ds, hi, h1, q1, q2⟩ := gd_L w a
    refine ⟨.ref l, h1, ?_⟩
    obtain ⟨R0, G0, ρ0, μ0, w0, q⟩ := stepM tr_is w mu a
    refine ⟨R0, G0, ρ0, μ0, w0, q.imp fun vk H1 ⟨O1, R1, G1, ρ1, dk, μ1, x1, w1, mu1, rk, _, k1⟩ => ?_⟩
    have k1 := AftS.ext k1 x1
    have kk : ∃ ds1 j, dk = .int j ∧ ρ1[i]? = some (.ow (.lst ds1)) ∧ (ixN ds1.length j).isSome = true ∧ AftS X.K X.mg W (sMd md D.flat me (fun y => augS i g dk y) ρ1 μ1) O1 R1 G1 H1 E := by
      unfold gdK at k1
      cases qi : ρ1[i]? with
      | none => rw [qi] at k1; exact k1.elim
      | some sl =>
        rw [qi] at k1
        cases sl with
        | un => exact k1.elim
        | fr _ => exact k1.elim
        | ow dd =>
          cases dd with
          | lst ds1 =>
            cases dk with
            | int j =>
              simp only at k1
              by_cases hn : (ixN ds1.length j).isSome = true
              · rw [if_pos hn] at k1; exact ⟨ds1, j, rfl, rfl, hn, k1⟩
              · rw [if_neg hn] at k1; exact k1.elim
            | _ => exact k1.elim
          | _ => exact k1.elim
    obtain ⟨ds1, j, rfl, hi1, hn, k1⟩ := kk
    cases rk
    obtain ⟨n, hn⟩ := Option.isSome_iff_exists.mp hn
    obtain ⟨l1, m1, e1, e2, e3, e4⟩ := w1.ow i _ hi1
    cases h1.symm.trans e1
    cases e3
    obtain ⟨xs1, z1, z2⟩ := e4
    have hn' : ixN xs1.length j = some n := by rw [z2.length]; exact hn
    obtain ⟨_, hlt, _, _⟩ := ixN_seq hn'
    have hv1 : xs1[n]? = some xs1[n] := List.getElem?_eq_getElem hlt
    refine ⟨l, xs1, j, n, _, rfl, rfl, z1, hn', hv1, ?_⟩
    obtain ⟨R2, G2, ρ2, μ2, w2, q2⟩ := stepM tr_is w1 mu1 k1
    refine ⟨R2, G2, ρ2, μ2, w2, q2.imp fun vy H2 ⟨O3, R3, G3, ρ3, dy, μ3, x3, w3, mu3, r3, ⟨_, hkeep⟩, k3⟩ => ?_⟩
    have k3 := AftS.ext k3 x3
    have kk3 : ∃ ds3 n3 d3 z, ρ3[i]? = some (.ow (.lst ds3)) ∧ ixN ds3.length j = some n3 ∧ ds3[n3]? = some d3 ∧ g d3 dy = some z ∧ AftS X.K X.mg W (.nx (ρ3.set i (.ow (.lst (ds3.set n3 z)))) μ3) O3 R3 G3 H2 E := by
      unfold augS at k3
      cases qi : ρ3[i]? with
      | none => rw [qi] at k3; exact k3.elim
      | some sl =>
        rw [qi] at k3
        cases sl with
        | un => exact k3.elim
        | fr _ => exact k3.elim
        | ow dd =>
          cases dd with
          | lst ds3 =>
            simp only at k3
            cases q1 : ixN ds3.length j with
            | none => simp only [q1] at k3; exact k3.elim
            | some n3 =>
              simp only [q1] at k3
              cases q2 : ds3[n3]? with
              | none => simp only [q2] at k3; exact k3.elim
              | some d3 =>
                simp only [q2] at k3
                cases q3 : g d3 dy with
                | none => simp only [q3] at k3; exact k3.elim
                | some z => simp only [q3] at k3; exact ⟨ds3, n3, d3, z, rfl, q1, q2, q3, k3⟩
          | _ => exact k3.elim
    obtain ⟨ds3, n3, d3, z, hi3, hn3, hd3, hz, k3⟩ := kk3
    obtain ⟨l3, m3, f1, f2, f3, f4⟩ := w3.ow i _ hi3
    cases h1.symm.trans f1
    cases f3
    obtain ⟨xs3, y1, y2⟩ := f4
    have same : xs3 = xs1 := by
      have hk := hkeep l (.lst xs1) z1 rfl (w1.og l e2).2.1
      rw [hk] at y1
      cases y1
      rfl
    subst same
    have nn : n3 = n := by
      rw [← y2.length, hn'] at hn3
      exact (Option.some.inj hn3).symm
    subst nn
    obtain ⟨v3, hv3, iv3⟩ := y2.get hd3
    rw [hv1] at hv3
    cases hv3
    refine ⟨R3, G3, d3, dy, z, ⟨w3.s, w3.cl, mu3.hr⟩, iv3, r3, hz, fun v4 G4 H4 gr iv4 => ?_⟩
    have w4 := w3.extH gr.e
    have mu4 := gr.mu mu3
    obtain ⟨w5, mu5, x5⟩ := w4.change (d' := .lst (ds3.set n3 z)) (o := .lst (xs3.set n3 v4)) (m' := .lst (ds3.set n3 z)) mu4 hi3 h1 rfl ⟨_, upd_same, (y2.mono gr.e.g gr.e.idx).set iv4 n3⟩
    exact ⟨l, xs3, j, n3, rfl, rfl, gr.k _ _ y1, hn', k3 O3 R3 G4 _ σ ((Ext.toS gr.e).trans x5) w5 mu5⟩
end
end DX
set_option Elab.async false
set_option linter.all false
set_option maxRecDepth 100000
set_option maxHeartbeats 4000000
/-! EE: several names at once, new lists among the values -/
namespace DX
open PySem PySem.Spec PyProof.Rows L2
variable [Tb]
/-- the new ones' addresses -/
def frV : List Bool → List V → List Addr
  | true :: fs, .ref p :: vs => p :: frV fs vs
  | _ :: fs, _ :: vs => frV fs vs
  | _, _ => []
def MxI (K : PySem.W.Frag) (mg : Str → Option Value) (H : Hp) (R : List Addr) (G H2 : Hp) : List Bool → List V → List D → Prop
  | [], [], [] => True
  | false :: fs, v :: vs, d :: ds => Is K mg R G v d ∧ MxI K mg H R G H2 fs vs ds
  | true :: fs, v :: vs, d :: ds => (∃ p m, v = .ref p ∧ H p = none ∧ G p = none ∧ p ∉ R ∧ toMob d = some m ∧ ObIs K mg R G H2 p m ∧ p ∉ frV fs vs) ∧ MxI K mg H R G H2 fs vs ds
  | _, _, _ => False
theorem MxI.mono {K : PySem.W.Frag} {mg : Str → Option Value} {H H1 : Hp} {R : List Addr} {G H2 : Hp} (hb : ∀ b, H b ≠ none → H1 b ≠ none) : ∀ {fs : List Bool} {vs : List V} {ds : List D}, MxI K mg H1 R G H2 fs vs ds → MxI K mg H R G H2 fs vs ds
  | [], [], [], _ => trivial
  | false :: fs, v :: vs, d :: ds, h => ⟨h.1, MxI.mono hb h.2⟩
  | true :: fs, v :: vs, d :: ds, ⟨⟨p, m, e, h, r⟩, t⟩ => ⟨⟨p, m, e, none_of hb h, r⟩, MxI.mono hb t⟩
  | [], [], _ :: _, h => h.elim
  | [], _ :: _, _, h => h.elim
  | true :: _, [], _, h => h.elim
  | true :: _, _ :: _, [], h => h.elim
  | false :: _, [], _, h => h.elim
  | false :: _, _ :: _, [], h => h.elim
abbrev rMx (K : PySem.W.Frag) (mg : Str → Option Value) (fs : List Bool) : Rl (List V) (List D) := ⟨fun H R G H2 vs ds => MxI K mg H R G H2 fs vs ds, fun hb h => MxI.mono hb h⟩
theorem MxI.fresh {K : PySem.W.Frag} {mg : Str → Option Value} {H : Hp} {R : List Addr} {G H2 : Hp} : ∀ {fs : List Bool} {vs : List V} {ds : List D}, MxI K mg H R G H2 fs vs ds → ∀ p ∈ frV fs vs, H p = none
  | [], [], [], _, p, hp => by simp [frV] at hp
  | false :: fs, v :: vs, d :: ds, h, p, hp => MxI.fresh h.2 p (by cases v <;> exact hp)
  | true :: fs, v :: vs, d :: ds, ⟨⟨q, m, e, h, r⟩, t⟩, p, hp => by
    subst e
    rcases List.mem_cons.mp hp with e | hp
    · rw [e]; exact h
    · exact MxI.fresh t p hp
  | [], [], _ :: _, h, _, _ => h.elim
  | [], _ :: _, _, h, _, _ => h.elim
  | true :: _, [], _, h, _, _ => h.elim
  | true :: _, _ :: _, [], h, _, _ => h.elim
  | false :: _, [], _, h, _, _ => h.elim
  | false :: _, _ :: _, [], h, _, _ => h.elim
abbrev AM' (X : Cx) (W : WX) (fs : List Bool) (es : List Expr) (m : Env' → M (List D)) : Prop := PA X es (tD X.K X.mg W (rMx X.K X.mg fs) m)
theorem am_split {α Vv : Type} {K : PySem.W.Frag} {mg : Str → Option Value} {E : XK} {ra : Rl Vv α} {fs gs : List Bool} {m : M α} {n : M (List D)} {c : α → D} {μ : List Mob} {R : List Addr} {G H : Hp} {Q : List V → Hp → Prop}
    (h : After K mg E (rMx K mg gs) (M.bind m (fun x => M.bind n fun xs => M.pure (c x :: xs)) μ) R G H Q) :
    After K mg E ra (m μ) R G H fun v H1 => ∃ R1 G1 d μ1, Ext R G H R1 G1 H1 ∧ ra.r H R1 G1 H1 v d ∧ MuIs K mg R1 G1 H1 μ1 ∧ After K mg E (rMx K mg fs) (n μ1) R1 G1 H1 fun vs H2 => ∃ R2 G2 ds μ2, Ext R1 G1 H1 R2 G2 H2 ∧ MxI K mg H1 R2 G2 H2 fs vs ds ∧ MuIs K mg R2 G2 H2 μ2 ∧
      ∀ w, MxI K mg H R2 G2 H2 gs w (c d :: ds) → Q w H2 := by
  unfold M.bind at h
  cases q : m μ with
  | exc c fs μ1 => rw [q] at h; exact h
  | stuck => rw [q] at h; exact h
  | ok d μ1 =>
    rw [q] at h
    refine fun v R1 G1 H1 e r mu => ⟨R1, G1, d, μ1, e, r, mu, ?_⟩
    simp only at h
    cases q2 : n μ1 with
    | exc c fs μ2 => rw [q2] at h; exact fun C dx xs R2 G2 H2 e2 => h C dx xs R2 G2 H2 (e.trans e2)
    | stuck => rw [q2] at h; exact h
    | ok ds μ2 =>
      rw [q2] at h
      exact fun vs R2 G2 H2 e2 r2 mu2 => ⟨R2, G2, ds, μ2, e2, r2, mu2, fun w hw => h w R2 G2 H2 (e.trans e2) hw mu2⟩
section
variable {X : Cx} {W : WX} {a b c e : Expr} {es : List Expr} {pos : Pos} {fs : List Bool}
theorem am_nil : AM' X W [] [] (fun _ => M.pure []) := PA.weak pa_nil fun σ H Q ⟨R, G, ρ, μ, w, q⟩ => pure_after q w.w0 w.mu trivial
theorem am_val {m : Env' → M D} {n : Env' → M (List D)} (ha : E' X W a m) (hb : AM' X W fs es n) (hs : starEach (a :: es) X.env = (false, eval a X.env) :: starEach es X.env := by rfl) :
    AM' X W (false :: fs) (a :: es) (fun ρ => M.bind (m ρ) fun x => M.bind (n ρ) fun xs => M.pure (x :: xs)) :=
  PA.weak (pa_cons ha hb hs) fun σ H Q ⟨R, G, ρ, μ, w, h⟩ => ⟨R, G, ρ, μ, w, (am_split (ra := rIs X.K X.mg) (fs := fs) (c := id) h).imp fun v H1 ⟨R1, G1, d, μ1, x1, i1, m1, q1⟩ =>
    ⟨R1, G1, ρ, μ1, w.ext x1 m1, q1.imp fun vs H2 ⟨R2, G2, ds, μ2, x2, i2, m2, q2⟩ => q2 (v :: vs) ⟨i1.mono x2.g x2.idx, MxI.mono x1.th i2⟩⟩⟩
theorem am_new {m : Env' → M D} {n : Env' → M (List D)} (ha : F' X W a m) (hb : AM' X W fs es n) (hs : starEach (a :: es) X.env = (false, eval a X.env) :: starEach es X.env := by rfl) :
    AM' X W (true :: fs) (a :: es) (fun ρ => M.bind (m ρ) fun x => M.bind (n ρ) fun xs => M.pure (x :: xs)) :=
  PA.weak (pa_cons ha hb hs) fun σ H Q ⟨R, G, ρ, μ, w, h⟩ => ⟨R, G, ρ, μ, w, (am_split (ra := rFr X.K X.mg) (fs := fs) (c := id) h).imp fun v H1 ⟨R1, G1, d, μ1, x1, ⟨p, m, e, hp, gp, nR, hm, ob⟩, m1, q1⟩ =>
    ⟨R1, G1, ρ, μ1, w.ext x1 m1, q1.imp fun vs H2 ⟨R2, G2, ds, μ2, x2, i2, m2, q2⟩ => by
      obtain ⟨u, hu, ht⟩ := ob.there
      have nn : H1 p ≠ none := by rw [hu]; simp
      have n2 : p ∉ R2 := fun z => (x2.nr p z).elim nR nn
      exact q2 (v :: vs) ⟨⟨p, m, e, hp, ext_none x2 gp ob.hard nR, n2, hm, ob.mono x2.g x2.idx ((x2.k p u hu ht nR).trans hu.symm), fun z => nn (MxI.fresh i2 p z)⟩, MxI.mono x1.th i2⟩⟩⟩
/-- which of the values are flat -/
def mxFlat : List Bool → List D → Bool
  | true :: fs, d :: ds => itemsFlat d && mxFlat fs ds
  | false :: fs, d :: ds => d.flat && mxFlat fs ds
  | _, _ => true
theorem tr_mx {K : PySem.W.Frag} {mg : Str → Option Value} (fs : List Bool) : Tr (rMx K mg fs) (mxFlat fs) where
  back := by
    intro H R' G G' H2 vs ds s k hR f h
    induction fs generalizing vs ds with
    | nil =>
      cases vs with
      | nil => cases ds with
        | nil => trivial
        | cons _ _ => exact h.elim
      | cons _ _ => exact h.elim
    | cons b fs ih =>
      cases vs with
      | nil => cases b <;> exact h.elim
      | cons v vs =>
        cases ds with
        | nil => cases b <;> exact h.elim
        | cons d ds =>
          cases b with
          | false =>
            simp only [mxFlat, Bool.and_eq_true] at f
            exact ⟨tr_is.back (H2 := H2) s k hR f.1 h.1, ih f.2 h.2⟩
          | true =>
            simp only [mxFlat, Bool.and_eq_true] at f
            obtain ⟨⟨p, m, e, hp, gp, nR, hm, ob, np⟩, t⟩ := h
            obtain ⟨p', m', e', a1, a2, a3, a4, a5⟩ := tr_fr.back s k hR f.1 (v := v) (d := d) (H2 := H2) (show (rFr K mg).r H [] G H2 v d from ⟨p, m, e, hp, gp, nR, hm, ob⟩)
            subst e
            cases e'
            exact ⟨⟨p, m', rfl, a1, a2, a3, a4, a5, np⟩, ih f.2 t⟩
  give := by
    intro H R' G H2 vs ds hR h
    induction fs generalizing vs ds with
    | nil =>
      cases vs with
      | nil => cases ds with
        | nil => trivial
        | cons _ _ => exact h.elim
      | cons _ _ => exact h.elim
    | cons b fs ih =>
      cases vs with
      | nil => cases b <;> exact h.elim
      | cons v vs =>
        cases ds with
        | nil => cases b <;> exact h.elim
        | cons d ds =>
          cases b with
          | false => exact ⟨tr_is.give (H2 := H2) hR h.1, ih h.2⟩
          | true =>
            obtain ⟨⟨p, m, e, hp, gp, nR, hm, ob, np⟩, t⟩ := h
            obtain ⟨p', m', e', a1, a2, a3, a4, a5⟩ := tr_fr.give hR (v := v) (d := d) (H2 := H2) (show (rFr K mg).r H [] G H2 v d from ⟨p, m, e, hp, gp, nR, hm, ob⟩)
            subst e
            cases e'
            exact ⟨⟨p, m', rfl, a1, a2, a3, a4, a5, np⟩, ih t⟩
/-- the slots set, one after the other -/
def setMs : List (Bool × Nat) → List D → Env → Option Env
  | [], [], ρ => some ρ
  | (true, i) :: r, d :: ds, ρ => setMs r ds (ρ.set i (.ow d))
  | (false, i) :: r, d :: ds, ρ => setMs r ds (ρ.set i (.fr d))
  | _, _, _ => none
def setVs : List Nat → List V → L2.St → L2.St
  | i :: r, v :: vs, σ => setVs r vs (σ.set i (some v))
  | _, _, σ => σ
theorem setMs_ok {K : PySem.W.Frag} {mg : Str → Option Value} {H0 : Hp} {R : List Addr} {G H : Hp} : ∀ (l : List (Bool × Nat)) (vs : List V) (ds : List D) (O : List Addr) (σ : L2.St) (ρ ρ' : Env), StI K mg O R G H σ ρ → (∀ a ∈ O, a ∉ frV (l.map (·.1)) vs) → MxI K mg H0 R G H (l.map (·.1)) vs ds → setMs l ds ρ = some ρ' →
    ∃ O', StI K mg O' R G H (setVs (l.map (·.2)) vs σ) ρ' ∧ ∀ a ∈ O', a ∈ O ∨ H0 a = none
  | [], vs, ds, O, σ, ρ, ρ', w, _, h, e => by
    cases vs with
    | cons _ _ => exact h.elim
    | nil =>
      cases ds with
      | cons _ _ => exact h.elim
      | nil => cases e; exact ⟨O, w, fun a h => .inl h⟩
  | (b, i) :: r, vs, ds, O, σ, ρ, ρ', w, hO, h, e => by
    cases vs with
    | nil => cases b <;> exact h.elim
    | cons v vs =>
      cases ds with
      | nil => cases b <;> exact h.elim
      | cons d ds =>
        cases b with
        | false => exact setMs_ok r vs ds O _ _ ρ' (w.set i h.1) (fun a ha z => hO a ha (by cases v <;> exact z)) h.2 e
        | true =>
          obtain ⟨⟨p, m, ev, hp, gp, nR, hm, ob, np⟩, t⟩ := h
          subst ev
          obtain ⟨O', w', h'⟩ := setMs_ok r vs ds (p :: O) _ _ ρ' (w.setF i (fun z => hO p z List.mem_cons_self) gp nR (toMob_ow hm) ob) (fun a ha z => by
            rcases List.mem_cons.mp ha with q | q
            · rw [q] at z; exact np z
            · exact hO a q (List.mem_cons_of_mem _ z)) t e
          refine ⟨O', w', fun a ha => ?_⟩
          rcases h' a ha with q | q
          · rcases List.mem_cons.mp q with q | q
            · rw [q]; exact .inr hp
            · exact .inl q
          · exact .inr q
def sParM (md : Md) (l : List (Bool × Nat)) (m : Env' → M (List D)) : Sm := sMd md (mxFlat (l.map (·.1))) m fun ds ρ μ => match setMs l ds ρ with
  | some ρ' => .nx ρ' μ
  | none => .stuck
theorem par_end {md : Md} {l : List (Bool × Nat)} {m : Env' → M (List D)} {E : Ends} {σ : L2.St} {H : Hp} (h : tS X.K X.mg W (sParM md l m) E σ H) : tD X.K X.mg W (rMx X.K X.mg (l.map (·.1))) m σ H fun vs H1 => E.nx (setVs (l.map (·.2)) vs σ) H1 ∧ vs.length = l.length := by
  obtain ⟨O, R, G, ρ, μ, w, mu, a⟩ := h
  obtain ⟨R0, G0, ρ0, μ0, w0, q⟩ := stepM (tr_mx (l.map (·.1))) w mu a
  refine ⟨R0, G0, ρ0, μ0, w0, q.imp fun vs H1 ⟨O1, R1, G1, ρ1, ds, μ1, x1, w1, mu1, r, ⟨hO, _⟩, k⟩ => ?_⟩
  cases qs : setMs l ds ρ1 with
  | none => simp only [qs] at k; exact k.elim
  | some ρ' =>
    simp only [qs] at k
    have r : MxI X.K X.mg H R1 G1 H1 (l.map (·.1)) vs ds := r
    obtain ⟨O', w', h'⟩ := setMs_ok l vs ds O1 σ ρ1 ρ' w1 (fun a ha z => by
      obtain ⟨_, _, u, hu, _⟩ := w.og a (hO a ha)
      have := MxI.fresh r a z
      rw [this] at hu; cases hu) r qs
    refine ⟨k O' R1 G1 H1 _ ⟨x1.r, x1.g, x1.k, x1.th, x1.n, x1.nr, fun a ha => ?_, x1.t⟩ w' mu1, ?_⟩
    · rcases h' a ha with q | q
      · exact x1.no a q
      · exact .inr q
    · clear qs k w' h'
      have : ∀ (fs : List Bool) (vs : List V) (ds : List D), MxI X.K X.mg H R1 G1 H1 fs vs ds → vs.length = fs.length := by
        intro fs
        induction fs with
        | nil => intro vs ds h; cases vs with
          | nil => rfl
          | cons _ _ => exact h.elim
        | cons b fs ih =>
          intro vs ds h
          cases vs with
          | nil => cases b <;> exact h.elim
          | cons v vs =>
            cases ds with
            | nil => cases b <;> exact h.elim
            | cons d ds => cases b <;> simp [ih vs ds h.2]
      simpa using this _ _ _ r
variable {x y z : Str} {px py pz pt : Pos}
theorem s_par2M (md : Md) (f1 f2 : Bool) (i j : Nat) {m : Env' → M (List D)} {kt k2 pt2} (hc : X.calm = true) (hN : X.N.Nodup) (hi : X.N[i]? = some x) (hj : X.N[j]? = some y) (hij : i ≠ j) (hx : X.env.scope.names.lookup x = some .local) (hy : X.env.scope.names.lookup y = some .local) (ha : AM' X W [f1, f2] [a, b] m)
    (hw : swappedStores [.Tuple [.Name x px, .Name y py] kt pt] (.Tuple [a, b] k2 pt2) X.env = pure (some [x, y]) := by rfl) (hs : swapsWithSole [.Tuple [.Name x px, .Name y py] kt pt] (.Tuple [a, b] k2 pt2) pos.line X.env = pure false := by rfl) :
    S' X W (.Assign [.Tuple [.Name x px, .Name y py] kt pt] (.Tuple [a, b] k2 pt2) pos) (sParM md [(f1, i), (f2, j)] m) :=
  PS.weak (ps_par hc hN hi hj hij hx hy ha hw hs) fun E σ H h => by
    obtain ⟨R0, G0, ρ0, μ0, w0, q⟩ := par_end h
    refine ⟨R0, G0, ρ0, μ0, w0, q.imp fun vs H1 ⟨k, hl⟩ => ?_⟩
    match vs, hl, k with
    | [v, w], _, k => exact ⟨v, w, rfl, k⟩
theorem s_par3M (md : Md) (f1 f2 f3 : Bool) (i j l : Nat) {m : Env' → M (List D)} {kt k2 pt2} (hc : X.calm = true) (hN : X.N.Nodup) (hi : X.N[i]? = some x) (hj : X.N[j]? = some y) (hl : X.N[l]? = some z) (hij : i ≠ j) (hil : i ≠ l) (hjl : j ≠ l) (hx : X.env.scope.names.lookup x = some .local) (hy : X.env.scope.names.lookup y = some .local)
    (hz : X.env.scope.names.lookup z = some .local) (ha : AM' X W [f1, f2, f3] [a, b, c] m) (hw : swappedStores [.Tuple [.Name x px, .Name y py, .Name z pz] kt pt] (.Tuple [a, b, c] k2 pt2) X.env = pure (some [x, y, z]) := by rfl)
    (hs : swapsWithSole [.Tuple [.Name x px, .Name y py, .Name z pz] kt pt] (.Tuple [a, b, c] k2 pt2) pos.line X.env = pure false := by rfl) : S' X W (.Assign [.Tuple [.Name x px, .Name y py, .Name z pz] kt pt] (.Tuple [a, b, c] k2 pt2) pos) (sParM md [(f1, i), (f2, j), (f3, l)] m) :=
  PS.weak (ps_par3 hc hN hi hj hl hij hil hjl hx hy hz ha hw hs) fun E σ H h => by
    obtain ⟨R0, G0, ρ0, μ0, w0, q⟩ := par_end h
    refine ⟨R0, G0, ρ0, μ0, w0, q.imp fun vs H1 ⟨k, hl⟩ => ?_⟩
    match vs, hl, k with
    | [u, v, w], _, k => exact ⟨u, v, w, rfl, k⟩
end
end DX
set_option Elab.async false
set_option linter.all false
set_option maxRecDepth 100000
set_option maxHeartbeats 4000000
/-! EF: facts for the generator -/
namespace DX
open PySem PySem.Spec PyProof.Rows L2
def nosmB (K : PySem.W.Frag) : Bool := match K.lookup sysModules with
  | some o => decide (o.cls = .type "dict")
  | none => false
theorem nosmB_ok {K : PySem.W.Frag} (h : nosmB K = true) : NoSm K := by
  unfold nosmB at h
  split at h
  · rename_i o e
    exact ⟨o, e, of_decide_eq_true h⟩
  · cases h
theorem xnil {P : Str → Prop} : ∀ c ∈ ([] : List Str), P c := fun _ h => nomatch h
theorem xcons {P : Str → Prop} {a : Str} {l : List Str} (h : ∀ c ∈ ([a] : List Str), P c) (t : ∀ c ∈ l, P c) : ∀ c ∈ a :: l, P c := fun c hc => by
  rcases List.mem_cons.mp hc with e | hc
  · exact h c (by rw [e]; exact List.mem_cons_self)
  · exact t c hc
theorem gcons {P : Str → Prop} {a : Str} {l : List Str} (h : P a) (t : ∀ c ∈ l, P c) : ∀ c ∈ a :: l, P c := fun c hc => by
  rcases List.mem_cons.mp hc with e | hc
  · rw [e]; exact h
  · exact t c hc
theorem all2 {P : Str → Prop} {names : List Str} {tbl : List (Str × Str × Bool)} (h : ∀ x ∈ names, P x) (hc : (tbl.all fun t => names.contains t.1 && names.contains t.2.1) = true) : ∀ t ∈ tbl, P t.1 ∧ P t.2.1 := fun t ht => by
  have := List.all_eq_true.mp hc t ht
  rw [Bool.and_eq_true] at this
  exact ⟨h _ (List.contains_iff_mem.mp this.1), h _ (List.contains_iff_mem.mp this.2)⟩
theorem all1 {P : Str → Prop} {names tbl : List Str} (h : ∀ x ∈ names, P x) (hc : (tbl.all fun t => names.contains t) = true) : ∀ t ∈ tbl, P t := fun t ht => h _ (List.contains_iff_mem.mp (List.all_eq_true.mp hc t ht))
end DX
set_option Elab.async false
set_option linter.all false
set_option maxRecDepth 100000
set_option maxHeartbeats 8000000
/-! what the defs of law_k00_errors compute, printed by a program of ours -/
namespace Wk
open PySem PySem.Spec PyProof.Rows L2 DX
noncomputable section
def lam0 : D := .lam 0 0 "" [] []
def ownT : List Str := []
def subL : List (Str × Str × Bool) := []
def subT : Str → Str → Option Bool := subOf subL
def isiL : List (Str × Str × Bool) := ([("BadText", "BadLine", false), ("BadText", "BadName", false), ("BadText", "BadNumber", false), ("BadText", "BadRow", false), ("BadText", "BadText", true), ("BadText", "FlowError", true), ("BadText", "NoName", false), ("BadText", "NoRest", false), ("BadText", "NotKept", false), ("BadText", "NotRound", false), ("BadText", "NothingToRedo", false), ("BadText", "NothingToUndo", false), ("BadText", "Shared", false), ("BadText", "TakenName", false), ("BadLine", "BadLine", true), ("BadLine", "BadName", false), ("BadLine", "BadNumber", false), ("BadLine", "BadRow", false), ("BadLine", "BadText", false), ("BadLine", "FlowError", true)] : List (Str × Str × Bool)) ++ ([("BadLine", "NoName", false), ("BadLine", "NoRest", false), ("BadLine", "NotKept", false), ("BadLine", "NotRound", false), ("BadLine", "NothingToRedo", false), ("BadLine", "NothingToUndo", false), ("BadLine", "Shared", false), ("BadLine", "TakenName", false), ("BadNumber", "BadLine", false), ("BadNumber", "BadName", false), ("BadNumber", "BadNumber", true), ("BadNumber", "BadRow", false), ("BadNumber", "BadText", false), ("BadNumber", "FlowError", true), ("BadNumber", "NoName", false), ("BadNumber", "NoRest", false), ("BadNumber", "NotKept", false), ("BadNumber", "NotRound", false), ("BadNumber", "NothingToRedo", false), ("BadNumber", "NothingToUndo", false)] : List (Str × Str × Bool)) ++ ([("BadNumber", "Shared", false), ("BadNumber", "TakenName", false), ("BadRow", "BadLine", false), ("BadRow", "BadName", false), ("BadRow", "BadNumber", false), ("BadRow", "BadRow", true), ("BadRow", "BadText", false), ("BadRow", "FlowError", true), ("BadRow", "NoName", false), ("BadRow", "NoRest", false), ("BadRow", "NotKept", false), ("BadRow", "NotRound", false), ("BadRow", "NothingToRedo", false), ("BadRow", "NothingToUndo", false), ("BadRow", "Shared", false), ("BadRow", "TakenName", false), ("BadName", "BadLine", false), ("BadName", "BadName", true), ("BadName", "BadNumber", false), ("BadName", "BadRow", false)] : List (Str × Str × Bool)) ++ ([("BadName", "BadText", false), ("BadName", "FlowError", true), ("BadName", "NoName", false), ("BadName", "NoRest", false), ("BadName", "NotKept", false), ("BadName", "NotRound", false), ("BadName", "NothingToRedo", false), ("BadName", "NothingToUndo", false), ("BadName", "Shared", false), ("BadName", "TakenName", false), ("Shared", "BadLine", false), ("Shared", "BadName", false), ("Shared", "BadNumber", false), ("Shared", "BadRow", false), ("Shared", "BadText", false), ("Shared", "FlowError", true), ("Shared", "NoName", false), ("Shared", "NoRest", false), ("Shared", "NotKept", false), ("Shared", "NotRound", false)] : List (Str × Str × Bool)) ++ ([("Shared", "NothingToRedo", false), ("Shared", "NothingToUndo", false), ("Shared", "Shared", true), ("Shared", "TakenName", false), ("NoRest", "BadLine", false), ("NoRest", "BadName", false), ("NoRest", "BadNumber", false), ("NoRest", "BadRow", false), ("NoRest", "BadText", false), ("NoRest", "FlowError", true), ("NoRest", "NoName", false), ("NoRest", "NoRest", true), ("NoRest", "NotKept", false), ("NoRest", "NotRound", false), ("NoRest", "NothingToRedo", false), ("NoRest", "NothingToUndo", false), ("NoRest", "Shared", false), ("NoRest", "TakenName", false), ("NotRound", "BadLine", false), ("NotRound", "BadName", false)] : List (Str × Str × Bool)) ++ ([("NotRound", "BadNumber", false), ("NotRound", "BadRow", false), ("NotRound", "BadText", false), ("NotRound", "FlowError", true), ("NotRound", "NoName", false), ("NotRound", "NoRest", false), ("NotRound", "NotKept", false), ("NotRound", "NotRound", true), ("NotRound", "NothingToRedo", false), ("NotRound", "NothingToUndo", false), ("NotRound", "Shared", false), ("NotRound", "TakenName", false), ("NoName", "BadLine", false), ("NoName", "BadName", false), ("NoName", "BadNumber", false), ("NoName", "BadRow", false), ("NoName", "BadText", false), ("NoName", "FlowError", true), ("NoName", "NoName", true), ("NoName", "NoRest", false)] : List (Str × Str × Bool)) ++ ([("NoName", "NotKept", false), ("NoName", "NotRound", false), ("NoName", "NothingToRedo", false), ("NoName", "NothingToUndo", false), ("NoName", "Shared", false), ("NoName", "TakenName", false), ("TakenName", "BadLine", false), ("TakenName", "BadName", false), ("TakenName", "BadNumber", false), ("TakenName", "BadRow", false), ("TakenName", "BadText", false), ("TakenName", "FlowError", true), ("TakenName", "NoName", false), ("TakenName", "NoRest", false), ("TakenName", "NotKept", false), ("TakenName", "NotRound", false), ("TakenName", "NothingToRedo", false), ("TakenName", "NothingToUndo", false), ("TakenName", "Shared", false), ("TakenName", "TakenName", true)] : List (Str × Str × Bool)) ++ ([("NotKept", "BadLine", false), ("NotKept", "BadName", false), ("NotKept", "BadNumber", false), ("NotKept", "BadRow", false), ("NotKept", "BadText", false), ("NotKept", "FlowError", true), ("NotKept", "NoName", false), ("NotKept", "NoRest", false), ("NotKept", "NotKept", true), ("NotKept", "NotRound", false), ("NotKept", "NothingToRedo", false), ("NotKept", "NothingToUndo", false), ("NotKept", "Shared", false), ("NotKept", "TakenName", false), ("NothingToUndo", "BadLine", false), ("NothingToUndo", "BadName", false), ("NothingToUndo", "BadNumber", false), ("NothingToUndo", "BadRow", false), ("NothingToUndo", "BadText", false), ("NothingToUndo", "FlowError", true)] : List (Str × Str × Bool)) ++ ([("NothingToUndo", "NoName", false), ("NothingToUndo", "NoRest", false), ("NothingToUndo", "NotKept", false), ("NothingToUndo", "NotRound", false), ("NothingToUndo", "NothingToRedo", false), ("NothingToUndo", "NothingToUndo", true), ("NothingToUndo", "Shared", false), ("NothingToUndo", "TakenName", false), ("NothingToRedo", "BadLine", false), ("NothingToRedo", "BadName", false), ("NothingToRedo", "BadNumber", false), ("NothingToRedo", "BadRow", false), ("NothingToRedo", "BadText", false), ("NothingToRedo", "FlowError", true), ("NothingToRedo", "NoName", false), ("NothingToRedo", "NoRest", false), ("NothingToRedo", "NotKept", false), ("NothingToRedo", "NotRound", false), ("NothingToRedo", "NothingToRedo", true), ("NothingToRedo", "NothingToUndo", false)] : List (Str × Str × Bool)) ++ ([("NothingToRedo", "Shared", false), ("NothingToRedo", "TakenName", false)] : List (Str × Str × Bool))
def isiT : Str → Str → Option Bool := subOf isiL
def isvL : List Str := ["BadText", "BadLine", "BadNumber", "BadRow", "BadName", "Shared", "NoRest", "NotRound", "NoName", "TakenName", "NotKept", "NothingToUndo", "NothingToRedo"]
def clsN : List Str := ["BadLine", "BadName", "BadNumber", "BadRow", "BadText", "FlowError", "NoName", "NoRest", "NotKept", "NotRound", "NothingToRedo", "NothingToUndo", "Shared", "TakenName"]
/-! ### what the defs compute -/
noncomputable def lb__law_pen_0 : Sm := (sSetH 1 (fun ρ => M.bind ((fun ρ => M.bind ((fun ρ => M.bind ((fun ρ => M.bind ((fun ρ => M.bind ((fun ρ => dVar ρ 1) ρ) fun x => M.bind ((fun _ => M.pure (.int 47)) ρ) fun y => liftO (dMul x y)) ρ) fun x => M.bind ((fun ρ => dVar ρ 2) ρ) fun y => liftO (dAdd x y)) ρ) fun x => M.bind ((fun _ => M.pure []) ρ) fun xs => M.pure (x :: xs)) ρ) fun xs => liftO (d1 dInt xs)) ρ) fun x => M.bind ((fun _ => M.pure (.int 1000000007)) ρ) fun y => liftO (dMod x y)))
noncomputable def f__law_pen : List D → M D := bodyF 1 3 ((sSeq (sSetH 1 (fun _ => M.pure (.int 0))) (sSeq (sForH (.nm 2) (fun ρ => M.bind ((fun ρ => dVar ρ 0) ρ) fun x => liftO (dSeq x)) lb__law_pen_0) (sRetN (fun ρ => M.bind ((fun ρ => M.bind ((fun ρ => M.bind ((fun ρ => M.bind ((fun ρ => dVar ρ 0) ρ) fun x => M.bind ((fun _ => M.pure []) ρ) fun xs => M.pure (x :: xs)) ρ) fun xs => liftO (d1 dList xs)) ρ) fun d => M.bind ((fun ρ => M.bind ((fun _ => M.pure (.int 0)) ρ) fun d => M.bind ((fun ρ => M.bind ((fun _ => M.pure (.int 0)) ρ) fun d => M.bind ((fun ρ => M.bind ((fun _ => M.pure (.int 0)) ρ) fun d => M.bind ((fun ρ => M.bind ((fun ρ => dVar ρ 1) ρ) fun d => M.bind ((fun _ => M.pure []) ρ) fun ds => M.pure (d :: ds)) ρ) fun ds => M.pure (d :: ds)) ρ) fun ds => M.pure (d :: ds)) ρ) fun ds => M.pure (d :: ds)) ρ) fun ds => M.pure (d :: ds)) ρ) fun ds => liftO (dDic [.inr "cells", .inr "at", .inr "digits", .inr "count", .inr "fold"] ds))))))
noncomputable def f__law_objects : List D → M D := bodyF 2 3 ((sSeq (sSetH 2 (fun ρ => M.bind ((fun ρ => M.bind ((fun ρ => M.bind ((fun ρ => M.bind ((fun ρ => dVar ρ 0) ρ) fun x => M.bind ((fun _ => M.pure []) ρ) fun xs => M.pure (x :: xs)) ρ) fun ds => liftO (dExn "BadText" ["column"] ds)) ρ) fun x => M.bind ((fun ρ => M.bind ((fun ρ => M.bind ((fun ρ => M.bind ((fun ρ => dVar ρ 0) ρ) fun x => M.bind ((fun ρ => M.bind ((fun ρ => dVar ρ 1) ρ) fun x => M.bind ((fun _ => M.pure []) ρ) fun xs => M.pure (x :: xs)) ρ) fun xs => M.pure (x :: xs)) ρ) fun ds => liftO (dExn "BadLine" ["line", "column"] ds)) ρ) fun x => M.bind ((fun ρ => M.bind ((fun ρ => M.bind ((fun ρ => M.bind ((fun ρ => dVar ρ 0) ρ) fun x => M.bind ((fun ρ => M.bind ((fun ρ => dVar ρ 1) ρ) fun x => M.bind ((fun _ => M.pure []) ρ) fun xs => M.pure (x :: xs)) ρ) fun xs => M.pure (x :: xs)) ρ) fun ds => liftO (dExn "BadNumber" ["what", "number"] ds)) ρ) fun x => M.bind ((fun ρ => M.bind ((fun ρ => M.bind ((fun ρ => M.bind ((fun ρ => dVar ρ 0) ρ) fun x => M.bind ((fun _ => M.pure []) ρ) fun xs => M.pure (x :: xs)) ρ) fun ds => liftO (dExn "BadRow" ["row"] ds)) ρ) fun x => M.bind ((fun ρ => M.bind ((fun ρ => M.bind ((fun ρ => M.bind ((fun ρ => dVar ρ 0) ρ) fun x => M.bind ((fun _ => M.pure []) ρ) fun xs => M.pure (x :: xs)) ρ) fun ds => liftO (dExn "BadName" ["name"] ds)) ρ) fun x => M.bind ((fun ρ => M.bind ((fun ρ => M.bind ((fun ρ => M.bind ((fun ρ => dVar ρ 0) ρ) fun x => M.bind ((fun _ => M.pure []) ρ) fun xs => M.pure (x :: xs)) ρ) fun ds => liftO (dExn "Shared" ["plane"] ds)) ρ) fun x => M.bind ((fun ρ => M.bind ((fun ρ => M.bind ((fun ρ => M.bind ((fun ρ => dVar ρ 0) ρ) fun x => M.bind ((fun _ => M.pure []) ρ) fun xs => M.pure (x :: xs)) ρ) fun ds => liftO (dExn "NoRest" ["place"] ds)) ρ) fun x => M.bind ((fun ρ => M.bind ((fun _ => M.pure (.exn "NotRound" [("", .non)])) ρ) fun x => M.bind ((fun _ => M.pure []) ρ) fun xs => M.pure (x :: xs)) ρ) fun xs => M.pure (x :: xs)) ρ) fun xs => M.pure (x :: xs)) ρ) fun xs => M.pure (x :: xs)) ρ) fun xs => M.pure (x :: xs)) ρ) fun xs => M.pure (x :: xs)) ρ) fun xs => M.pure (x :: xs)) ρ) fun xs => M.pure (x :: xs)) ρ) fun xs => liftO (dLst xs))) (sSeq (sSetH 2 (fun ρ => M.bind ((fun ρ => dVar ρ 2) ρ) fun x => M.bind ((fun ρ => M.bind ((fun ρ => M.bind ((fun ρ => M.bind ((fun ρ => M.bind ((fun ρ => dVar ρ 0) ρ) fun x => M.bind ((fun _ => M.pure []) ρ) fun xs => M.pure (x :: xs)) ρ) fun ds => liftO (dExn "NoName" ["name"] ds)) ρ) fun x => M.bind ((fun ρ => M.bind ((fun ρ => M.bind ((fun ρ => M.bind ((fun ρ => dVar ρ 0) ρ) fun x => M.bind ((fun _ => M.pure []) ρ) fun xs => M.pure (x :: xs)) ρ) fun ds => liftO (dExn "TakenName" ["name"] ds)) ρ) fun x => M.bind ((fun ρ => M.bind ((fun ρ => M.bind ((fun ρ => M.bind ((fun ρ => dVar ρ 0) ρ) fun x => M.bind ((fun ρ => M.bind ((fun ρ => dVar ρ 1) ρ) fun x => M.bind ((fun _ => M.pure []) ρ) fun xs => M.pure (x :: xs)) ρ) fun xs => M.pure (x :: xs)) ρ) fun ds => liftO (dExn "NotKept" ["promise", "witness"] ds)) ρ) fun x => M.bind ((fun _ => M.pure []) ρ) fun xs => M.pure (x :: xs)) ρ) fun xs => M.pure (x :: xs)) ρ) fun xs => M.pure (x :: xs)) ρ) fun xs => liftO (dLst xs)) ρ) fun y => liftO (dAdd x y))) (sH (fun ρ => M.bind ((fun ρ => dVar ρ 2) ρ) fun x => M.bind ((fun ρ => M.bind ((fun ρ => M.bind ((fun _ => M.pure (.exn "NothingToUndo" [("", .non)])) ρ) fun x => M.bind ((fun ρ => M.bind ((fun _ => M.pure (.exn "NothingToRedo" [("", .non)])) ρ) fun x => M.bind ((fun _ => M.pure []) ρ) fun xs => M.pure (x :: xs)) ρ) fun xs => M.pure (x :: xs)) ρ) fun xs => liftO (dLst xs)) ρ) fun y => liftO (dAdd x y)) fun d _ μ => .rt d μ))))
noncomputable def f__law_draw : List D → M D := bodyF 2 5 ((sSeq (sPutM (fun ρ => M.bind ((fun ρ => M.bind ((fun ρ => dVar ρ 0) ρ) fun x => M.bind ((fun _ => M.pure (.str "count")) ρ) fun y => dIxM x y) ρ) fun x => M.bind ((fun _ => M.pure (.int 1)) ρ) fun y => liftO (dAdd x y)) (fun ρ => dVar ρ 0) (fun _ => M.pure (.str "count"))) (sSeq (sIf (tH (fun ρ => M.bind ((fun ρ => M.bind ((fun ρ => M.bind ((fun ρ => dVar ρ 0) ρ) fun x => M.bind ((fun _ => M.pure (.str "digits")) ρ) fun y => dIxM x y) ρ) fun x => M.bind ((fun _ => M.pure (.int 0)) ρ) fun y => liftO (((dEq false) x y).bind asB)) ρ) fun x => if x = true then (fun ρ => M.bind ((fun ρ => M.bind ((fun ρ => dVar ρ 0) ρ) fun x => M.bind ((fun _ => M.pure (.str "at")) ρ) fun y => dIxM x y) ρ) fun x => M.bind ((fun ρ => M.bind ((fun ρ => M.bind ((fun ρ => M.bind ((fun ρ => dVar ρ 0) ρ) fun x => M.bind ((fun _ => M.pure (.str "cells")) ρ) fun y => dIxM x y) ρ) fun x => M.bind ((fun _ => M.pure []) ρ) fun xs => M.pure (x :: xs)) ρ) fun xs => liftO (d1 dLen xs)) ρ) fun y => liftO ((dLt x y).bind asB)) ρ else M.pure false))
    (sSeq (sSetH 2 (fun ρ => M.bind ((fun ρ => M.bind ((fun ρ => dVar ρ 0) ρ) fun x => M.bind ((fun _ => M.pure (.str "cells")) ρ) fun y => dIxM x y) ρ) fun x => M.bind ((fun ρ => M.bind ((fun ρ => dVar ρ 0) ρ) fun x => M.bind ((fun _ => M.pure (.str "at")) ρ) fun y => dIxM x y) ρ) fun y => liftO (dIx x y))) (sSeq (sPutM (fun ρ => M.bind ((fun ρ => M.bind ((fun ρ => dVar ρ 0) ρ) fun x => M.bind ((fun _ => M.pure (.str "at")) ρ) fun y => dIxM x y) ρ) fun x => M.bind ((fun _ => M.pure (.int 1)) ρ) fun y => liftO (dAdd x y)) (fun ρ => dVar ρ 0) (fun _ => M.pure (.str "at"))) (sIf (tH (fun ρ => M.bind ((fun ρ => dVar ρ 2) ρ) fun x => M.bind ((fun ρ => M.bind ((fun _ => M.pure (.int 10)) ρ) fun x => M.bind ((fun _ => M.pure (.int 18)) ρ) fun y => liftO (dPow x y)) ρ) fun y => liftO ((dGe x y).bind asB)))
    (sPutM (fun ρ => M.bind ((fun ρ => dVar ρ 2) ρ) fun x => M.bind ((fun ρ => M.bind ((fun _ => M.pure (.int 10)) ρ) fun x => M.bind ((fun _ => M.pure (.int 18)) ρ) fun y => liftO (dPow x y)) ρ) fun y => liftO (dSub x y)) (fun ρ => dVar ρ 0) (fun _ => M.pure (.str "digits")))
    (sPutM (fun ρ => M.bind ((fun ρ => M.bind ((fun ρ => M.bind ((fun ρ => M.bind ((fun ρ => M.bind ((fun ρ => M.bind ((fun ρ => dVar ρ 0) ρ) fun x => M.bind ((fun _ => M.pure (.str "fold")) ρ) fun y => dIxM x y) ρ) fun x => M.bind ((fun _ => M.pure (.int 69069)) ρ) fun y => liftO (dMul x y)) ρ) fun x => M.bind ((fun ρ => dVar ρ 2) ρ) fun y => liftO (dAdd x y)) ρ) fun x => M.bind ((fun _ => M.pure []) ρ) fun xs => M.pure (x :: xs)) ρ) fun xs => liftO (d1 dInt xs)) ρ) fun x => M.bind ((fun _ => M.pure (.int 2147483587)) ρ) fun y => liftO (dMod x y)) (fun ρ => dVar ρ 0) (fun _ => M.pure (.str "fold"))))))
    sNx) (sSeq (sIf (tH (fun ρ => M.bind ((fun ρ => M.bind ((fun ρ => dVar ρ 0) ρ) fun x => M.bind ((fun _ => M.pure (.str "digits")) ρ) fun y => dIxM x y) ρ) fun x => M.bind ((fun _ => M.pure (.int 0)) ρ) fun y => liftO ((dGt x y).bind asB)))
    (sSeq (sSetH 3 (fun ρ => M.bind ((fun ρ => M.bind ((fun ρ => M.bind ((fun ρ => M.bind ((fun ρ => dVar ρ 0) ρ) fun x => M.bind ((fun _ => M.pure (.str "digits")) ρ) fun y => dIxM x y) ρ) fun x => M.bind ((fun _ => M.pure []) ρ) fun xs => M.pure (x :: xs)) ρ) fun xs => liftO (d1 dInt xs)) ρ) fun x => M.bind ((fun ρ => dVar ρ 1) ρ) fun y => liftO (dMod x y))) (sSeq (sPutM (fun ρ => M.bind ((fun ρ => M.bind ((fun ρ => dVar ρ 0) ρ) fun x => M.bind ((fun _ => M.pure (.str "digits")) ρ) fun y => dIxM x y) ρ) fun x => M.bind ((fun ρ => dVar ρ 1) ρ) fun y => liftO (dFdiv x y)) (fun ρ => dVar ρ 0) (fun _ => M.pure (.str "digits"))) (sH (fun ρ => dVar ρ 3) fun d _ μ => .rt d μ)))
    sNx) (sSeq (sSetH 4 (fun ρ => M.bind ((fun ρ => M.bind ((fun ρ => M.bind ((fun ρ => dVar ρ 0) ρ) fun x => M.bind ((fun _ => M.pure (.str "fold")) ρ) fun y => dIxM x y) ρ) fun x => M.bind ((fun ρ => M.bind ((fun ρ => M.bind ((fun ρ => dVar ρ 0) ρ) fun x => M.bind ((fun _ => M.pure (.str "count")) ρ) fun y => dIxM x y) ρ) fun x => M.bind ((fun _ => M.pure (.int 7907)) ρ) fun y => liftO (dMul x y)) ρ) fun y => liftO (dAdd x y)) ρ) fun x => M.bind ((fun _ => M.pure (.int 43)) ρ) fun y => liftO (dAdd x y))) (sH (fun ρ => M.bind ((fun ρ => M.bind ((fun ρ => M.bind ((fun ρ => M.bind ((fun ρ => M.bind ((fun ρ => M.bind ((fun ρ => dVar ρ 4) ρ) fun x => M.bind ((fun _ => M.pure (.int 17)) ρ) fun y => liftO (dPow x y)) ρ) fun x => M.bind ((fun _ => M.pure (.int 2305843009213693951)) ρ) fun y => liftO (dMod x y)) ρ) fun x => M.bind ((fun _ => M.pure []) ρ) fun xs => M.pure (x :: xs)) ρ) fun xs => liftO (d1 dInt xs)) ρ) fun x => M.bind ((fun _ => M.pure (.int 128)) ρ) fun y => liftO (dFdiv x y)) ρ) fun x => M.bind ((fun ρ => dVar ρ 1) ρ) fun y => liftO (dMod x y)) fun d _ μ => .rt d μ))))))
noncomputable def f__law_pick : List D → M D := bodyF 2 2 ((sH (fun ρ => M.bind ((fun ρ => dVar ρ 1) ρ) fun x => M.bind ((fun ρ => M.bind ((fun ρ => M.bind ((fun ρ => dVar ρ 0) ρ) fun x => M.bind ((fun ρ => M.bind ((fun ρ => M.bind ((fun ρ => M.bind ((fun ρ => dVar ρ 1) ρ) fun x => M.bind ((fun _ => M.pure []) ρ) fun xs => M.pure (x :: xs)) ρ) fun xs => liftO (d1 dLen xs)) ρ) fun x => M.bind ((fun _ => M.pure []) ρ) fun xs => M.pure (x :: xs)) ρ) fun xs => M.pure (x :: xs)) ρ) f__law_draw) ρ) fun y => liftO (dIx x y)) fun d _ μ => .rt d μ))
noncomputable def lb__law_far_0 : Sm := (sSetH 1 (fun ρ => M.bind ((fun ρ => M.bind ((fun ρ => dVar ρ 1) ρ) fun x => M.bind ((fun _ => M.pure (.int 1000)) ρ) fun y => liftO (dMul x y)) ρ) fun x => M.bind ((fun ρ => M.bind ((fun ρ => M.bind ((fun ρ => dVar ρ 0) ρ) fun x => M.bind ((fun ρ => M.bind ((fun _ => M.pure (.int 1000)) ρ) fun x => M.bind ((fun _ => M.pure []) ρ) fun xs => M.pure (x :: xs)) ρ) fun xs => M.pure (x :: xs)) ρ) f__law_draw) ρ) fun y => liftO (dAdd x y)))
noncomputable def f__law_far : List D → M D := bodyF 1 3 ((sSeq (sSetH 1 (fun _ => M.pure (.int 0))) (sSeq (sForH (.nm 2) (fun ρ => M.bind ((fun ρ => M.bind ((fun ρ => M.bind ((fun ρ => M.bind ((fun ρ => dVar ρ 0) ρ) fun x => M.bind ((fun ρ => M.bind ((fun ρ => M.bind ((fun ρ => M.bind ((fun _ => M.pure (.int 0)) ρ) fun x => M.bind ((fun ρ => M.bind ((fun _ => M.pure (.int 1)) ρ) fun x => M.bind ((fun ρ => M.bind ((fun _ => M.pure (.int 1)) ρ) fun x => M.bind ((fun ρ => M.bind ((fun _ => M.pure (.int 2)) ρ) fun x => M.bind ((fun ρ => M.bind ((fun _ => M.pure (.int 6)) ρ) fun x => M.bind ((fun _ => M.pure []) ρ) fun xs => M.pure (x :: xs)) ρ) fun xs => M.pure (x :: xs)) ρ) fun xs => M.pure (x :: xs)) ρ) fun xs => M.pure (x :: xs)) ρ) fun xs => M.pure (x :: xs)) ρ) fun xs => liftO (dLst xs)) ρ) fun x => M.bind ((fun _ => M.pure []) ρ) fun xs => M.pure (x :: xs)) ρ) fun xs => M.pure (x :: xs)) ρ) f__law_pick) ρ) fun x => M.bind ((fun _ => M.pure []) ρ) fun xs => M.pure (x :: xs)) ρ) fun xs => liftO (dRng1 xs)) lb__law_far_0) (sH (fun ρ => M.bind ((fun ρ => M.bind ((fun ρ => M.bind ((fun ρ => M.bind ((fun ρ => dVar ρ 0) ρ) fun x => M.bind ((fun ρ => M.bind ((fun _ => M.pure (.int 3)) ρ) fun x => M.bind ((fun _ => M.pure []) ρ) fun xs => M.pure (x :: xs)) ρ) fun xs => M.pure (x :: xs)) ρ) f__law_draw) ρ) fun x => M.bind ((fun _ => M.pure (.int 0)) ρ) fun y => liftO ((dGt x y).bind asB)) ρ) fun x => if x = true then (fun ρ => dVar ρ 1) ρ else (fun ρ => M.bind ((fun ρ => dVar ρ 1) ρ) fun x => liftO (dNeg x)) ρ) fun d _ μ => .rt d μ))))
noncomputable def f__law_fields : List D → M D := bodyF 1 2 ((sSeq (sSetH 1 (fun ρ => M.bind ((fun ρ => M.bind ((fun ρ => M.bind ((fun ρ => M.bind ((fun ρ => M.bind ((fun ρ => M.bind ((fun ρ => dVar ρ 0) ρ) fun x => M.bind ((fun _ => M.pure (.int 0)) ρ) fun y => liftO (dIx x y)) ρ) fun x => liftO (dXf ["BadText", "BadLine"] "column" x)) ρ) fun x => M.bind ((fun _ => M.pure []) ρ) fun xs => M.pure (x :: xs)) ρ) fun xs => liftO (dLst xs)) ρ) fun x => M.bind ((fun ρ => M.bind ((fun ρ => M.bind ((fun ρ => M.bind ((fun ρ => M.bind ((fun ρ => M.bind ((fun ρ => dVar ρ 0) ρ) fun x => M.bind ((fun _ => M.pure (.int 1)) ρ) fun y => liftO (dIx x y)) ρ) fun x => liftO (dXf ["BadLine"] "line" x)) ρ) fun x => M.bind ((fun ρ => M.bind ((fun ρ => M.bind ((fun ρ => M.bind ((fun ρ => dVar ρ 0) ρ) fun x => M.bind ((fun _ => M.pure (.int 1)) ρ) fun y => liftO (dIx x y)) ρ) fun x => liftO (dXf ["BadText", "BadLine"] "column" x)) ρ) fun x => M.bind ((fun _ => M.pure []) ρ) fun xs => M.pure (x :: xs)) ρ) fun xs => M.pure (x :: xs)) ρ) fun xs => liftO (dLst xs)) ρ) fun x => M.bind ((fun ρ => M.bind ((fun ρ => M.bind ((fun ρ => M.bind ((fun ρ => M.bind ((fun ρ => M.bind ((fun ρ => dVar ρ 0) ρ) fun x => M.bind ((fun _ => M.pure (.int 2)) ρ) fun y => liftO (dIx x y)) ρ) fun x => liftO (dXf ["BadNumber"] "what" x)) ρ) fun x => M.bind ((fun ρ => M.bind ((fun ρ => M.bind ((fun ρ => M.bind ((fun ρ => dVar ρ 0) ρ) fun x => M.bind ((fun _ => M.pure (.int 2)) ρ) fun y => liftO (dIx x y)) ρ) fun x => liftO (dXf ["BadNumber"] "number" x)) ρ) fun x => M.bind ((fun _ => M.pure []) ρ) fun xs => M.pure (x :: xs)) ρ) fun xs => M.pure (x :: xs)) ρ) fun xs => liftO (dLst xs)) ρ) fun x => M.bind ((fun ρ => M.bind ((fun ρ => M.bind ((fun ρ => M.bind ((fun ρ => M.bind ((fun ρ => M.bind ((fun ρ => dVar ρ 0) ρ) fun x => M.bind ((fun _ => M.pure (.int 3)) ρ) fun y => liftO (dIx x y)) ρ) fun x => liftO (dXf ["BadRow"] "row" x)) ρ) fun x => M.bind ((fun _ => M.pure []) ρ) fun xs => M.pure (x :: xs)) ρ) fun xs => liftO (dLst xs)) ρ) fun x => M.bind ((fun _ => M.pure []) ρ) fun xs => M.pure (x :: xs)) ρ) fun xs => M.pure (x :: xs)) ρ) fun xs => M.pure (x :: xs)) ρ) fun xs => M.pure (x :: xs)) ρ) fun xs => liftO (dLst xs))) (sSeq (sSetH 1 (fun ρ => M.bind ((fun ρ => dVar ρ 1) ρ) fun x => M.bind ((fun ρ => M.bind ((fun ρ => M.bind ((fun ρ => M.bind ((fun ρ => M.bind ((fun ρ => M.bind ((fun ρ => M.bind ((fun ρ => dVar ρ 0) ρ) fun x => M.bind ((fun _ => M.pure (.int 4)) ρ) fun y => liftO (dIx x y)) ρ) fun x => liftO (dXf ["BadName", "NoName", "TakenName"] "name" x)) ρ) fun x => M.bind ((fun _ => M.pure []) ρ) fun xs => M.pure (x :: xs)) ρ) fun xs => liftO (dLst xs)) ρ) fun x => M.bind ((fun ρ => M.bind ((fun ρ => M.bind ((fun ρ => M.bind ((fun ρ => M.bind ((fun ρ => M.bind ((fun ρ => dVar ρ 0) ρ) fun x => M.bind ((fun _ => M.pure (.int 5)) ρ) fun y => liftO (dIx x y)) ρ) fun x => liftO (dXf ["Shared"] "plane" x)) ρ) fun x => M.bind ((fun _ => M.pure []) ρ) fun xs => M.pure (x :: xs)) ρ) fun xs => liftO (dLst xs)) ρ) fun x => M.bind ((fun ρ => M.bind ((fun ρ => M.bind ((fun ρ => M.bind ((fun ρ => M.bind ((fun ρ => M.bind ((fun ρ => dVar ρ 0) ρ) fun x => M.bind ((fun _ => M.pure (.int 6)) ρ) fun y => liftO (dIx x y)) ρ) fun x => liftO (dXf ["NoRest"] "place" x)) ρ) fun x => M.bind ((fun _ => M.pure []) ρ) fun xs => M.pure (x :: xs)) ρ) fun xs => liftO (dLst xs)) ρ) fun x => M.bind ((fun ρ => M.bind ((fun ρ => M.bind ((fun _ => M.pure []) ρ) fun xs => liftO (dLst xs)) ρ) fun x => M.bind ((fun ρ => M.bind ((fun ρ => M.bind ((fun ρ => M.bind ((fun ρ => M.bind ((fun ρ => M.bind ((fun ρ => dVar ρ 0) ρ) fun x => M.bind ((fun _ => M.pure (.int 8)) ρ) fun y => liftO (dIx x y)) ρ) fun x => liftO (dXf ["BadName", "NoName", "TakenName"] "name" x)) ρ) fun x => M.bind ((fun _ => M.pure []) ρ) fun xs => M.pure (x :: xs)) ρ) fun xs => liftO (dLst xs)) ρ) fun x => M.bind ((fun ρ => M.bind ((fun ρ => M.bind ((fun ρ => M.bind ((fun ρ => M.bind ((fun ρ => M.bind ((fun ρ => dVar ρ 0) ρ) fun x => M.bind ((fun _ => M.pure (.int 9)) ρ) fun y => liftO (dIx x y)) ρ) fun x => liftO (dXf ["BadName", "NoName", "TakenName"] "name" x)) ρ) fun x => M.bind ((fun _ => M.pure []) ρ) fun xs => M.pure (x :: xs)) ρ) fun xs => liftO (dLst xs)) ρ) fun x => M.bind ((fun _ => M.pure []) ρ) fun xs => M.pure (x :: xs)) ρ) fun xs => M.pure (x :: xs)) ρ) fun xs => M.pure (x :: xs)) ρ) fun xs => M.pure (x :: xs)) ρ) fun xs => M.pure (x :: xs)) ρ) fun xs => M.pure (x :: xs)) ρ) fun xs => liftO (dLst xs)) ρ) fun y => liftO (dAdd x y))) (sH (fun ρ => M.bind ((fun ρ => dVar ρ 1) ρ) fun x => M.bind ((fun ρ => M.bind ((fun ρ => M.bind ((fun ρ => M.bind ((fun ρ => M.bind ((fun ρ => M.bind ((fun ρ => M.bind ((fun ρ => dVar ρ 0) ρ) fun x => M.bind ((fun _ => M.pure (.int 10)) ρ) fun y => liftO (dIx x y)) ρ) fun x => liftO (dXf ["NotKept"] "promise" x)) ρ) fun x => M.bind ((fun ρ => M.bind ((fun ρ => M.bind ((fun ρ => M.bind ((fun ρ => dVar ρ 0) ρ) fun x => M.bind ((fun _ => M.pure (.int 10)) ρ) fun y => liftO (dIx x y)) ρ) fun x => liftO (dXf ["NotKept"] "witness" x)) ρ) fun x => M.bind ((fun _ => M.pure []) ρ) fun xs => M.pure (x :: xs)) ρ) fun xs => M.pure (x :: xs)) ρ) fun xs => liftO (dLst xs)) ρ) fun x => M.bind ((fun ρ => M.bind ((fun ρ => M.bind ((fun _ => M.pure []) ρ) fun xs => liftO (dLst xs)) ρ) fun x => M.bind ((fun ρ => M.bind ((fun ρ => M.bind ((fun _ => M.pure []) ρ) fun xs => liftO (dLst xs)) ρ) fun x => M.bind ((fun _ => M.pure []) ρ) fun xs => M.pure (x :: xs)) ρ) fun xs => M.pure (x :: xs)) ρ) fun xs => M.pure (x :: xs)) ρ) fun xs => liftO (dLst xs)) ρ) fun y => liftO (dAdd x y)) fun d _ μ => .rt d μ))))
noncomputable def f__law_kinds : List D → M D := bodyF 1 2 ((sSeq (sSetH 1 (fun ρ => M.bind ((fun ρ => M.bind ((fun ρ => M.bind ((fun ρ => M.bind ((fun ρ => dVar ρ 0) ρ) fun x => M.bind ((fun ρ => M.bind ((fun _ => M.pure (.glb "BadText")) ρ) fun x => M.bind ((fun _ => M.pure []) ρ) fun xs => M.pure (x :: xs)) ρ) fun xs => M.pure (x :: xs)) ρ) fun xs => liftO (dIsx isiT isvL ownT xs)) ρ) fun x => M.bind ((fun ρ => M.bind ((fun ρ => M.bind ((fun ρ => M.bind ((fun ρ => dVar ρ 0) ρ) fun x => M.bind ((fun ρ => M.bind ((fun _ => M.pure (.glb "BadLine")) ρ) fun x => M.bind ((fun _ => M.pure []) ρ) fun xs => M.pure (x :: xs)) ρ) fun xs => M.pure (x :: xs)) ρ) fun xs => liftO (dIsx isiT isvL ownT xs)) ρ) fun x => M.bind ((fun ρ => M.bind ((fun ρ => M.bind ((fun ρ => M.bind ((fun ρ => dVar ρ 0) ρ) fun x => M.bind ((fun ρ => M.bind ((fun _ => M.pure (.glb "BadNumber")) ρ) fun x => M.bind ((fun _ => M.pure []) ρ) fun xs => M.pure (x :: xs)) ρ) fun xs => M.pure (x :: xs)) ρ) fun xs => liftO (dIsx isiT isvL ownT xs)) ρ) fun x => M.bind ((fun ρ => M.bind ((fun ρ => M.bind ((fun ρ => M.bind ((fun ρ => dVar ρ 0) ρ) fun x => M.bind ((fun ρ => M.bind ((fun _ => M.pure (.glb "BadRow")) ρ) fun x => M.bind ((fun _ => M.pure []) ρ) fun xs => M.pure (x :: xs)) ρ) fun xs => M.pure (x :: xs)) ρ) fun xs => liftO (dIsx isiT isvL ownT xs)) ρ) fun x => M.bind ((fun _ => M.pure []) ρ) fun xs => M.pure (x :: xs)) ρ) fun xs => M.pure (x :: xs)) ρ) fun xs => M.pure (x :: xs)) ρ) fun xs => M.pure (x :: xs)) ρ) fun xs => liftO (dLst xs))) (sSeq (sSetH 1 (fun ρ => M.bind ((fun ρ => dVar ρ 1) ρ) fun x => M.bind ((fun ρ => M.bind ((fun ρ => M.bind ((fun ρ => M.bind ((fun ρ => M.bind ((fun ρ => dVar ρ 0) ρ) fun x => M.bind ((fun ρ => M.bind ((fun _ => M.pure (.glb "BadName")) ρ) fun x => M.bind ((fun _ => M.pure []) ρ) fun xs => M.pure (x :: xs)) ρ) fun xs => M.pure (x :: xs)) ρ) fun xs => liftO (dIsx isiT isvL ownT xs)) ρ) fun x => M.bind ((fun ρ => M.bind ((fun ρ => M.bind ((fun ρ => M.bind ((fun ρ => dVar ρ 0) ρ) fun x => M.bind ((fun ρ => M.bind ((fun _ => M.pure (.glb "Shared")) ρ) fun x => M.bind ((fun _ => M.pure []) ρ) fun xs => M.pure (x :: xs)) ρ) fun xs => M.pure (x :: xs)) ρ) fun xs => liftO (dIsx isiT isvL ownT xs)) ρ) fun x => M.bind ((fun ρ => M.bind ((fun ρ => M.bind ((fun ρ => M.bind ((fun ρ => dVar ρ 0) ρ) fun x => M.bind ((fun ρ => M.bind ((fun _ => M.pure (.glb "NoRest")) ρ) fun x => M.bind ((fun _ => M.pure []) ρ) fun xs => M.pure (x :: xs)) ρ) fun xs => M.pure (x :: xs)) ρ) fun xs => liftO (dIsx isiT isvL ownT xs)) ρ) fun x => M.bind ((fun ρ => M.bind ((fun ρ => M.bind ((fun ρ => M.bind ((fun ρ => dVar ρ 0) ρ) fun x => M.bind ((fun ρ => M.bind ((fun _ => M.pure (.glb "NotRound")) ρ) fun x => M.bind ((fun _ => M.pure []) ρ) fun xs => M.pure (x :: xs)) ρ) fun xs => M.pure (x :: xs)) ρ) fun xs => liftO (dIsx isiT isvL ownT xs)) ρ) fun x => M.bind ((fun _ => M.pure []) ρ) fun xs => M.pure (x :: xs)) ρ) fun xs => M.pure (x :: xs)) ρ) fun xs => M.pure (x :: xs)) ρ) fun xs => M.pure (x :: xs)) ρ) fun xs => liftO (dLst xs)) ρ) fun y => liftO (dAdd x y))) (sSeq (sSetH 1 (fun ρ => M.bind ((fun ρ => dVar ρ 1) ρ) fun x => M.bind ((fun ρ => M.bind ((fun ρ => M.bind ((fun ρ => M.bind ((fun ρ => M.bind ((fun ρ => dVar ρ 0) ρ) fun x => M.bind ((fun ρ => M.bind ((fun _ => M.pure (.glb "NoName")) ρ) fun x => M.bind ((fun _ => M.pure []) ρ) fun xs => M.pure (x :: xs)) ρ) fun xs => M.pure (x :: xs)) ρ) fun xs => liftO (dIsx isiT isvL ownT xs)) ρ) fun x => M.bind ((fun _ => M.pure []) ρ) fun xs => M.pure (x :: xs)) ρ) fun xs => liftO (dLst xs)) ρ) fun y => liftO (dAdd x y))) (sSeq (sSetH 1 (fun ρ => M.bind ((fun ρ => dVar ρ 1) ρ) fun x => M.bind ((fun ρ => M.bind ((fun ρ => M.bind ((fun ρ => M.bind ((fun ρ => M.bind ((fun ρ => dVar ρ 0) ρ) fun x => M.bind ((fun ρ => M.bind ((fun _ => M.pure (.glb "TakenName")) ρ) fun x => M.bind ((fun _ => M.pure []) ρ) fun xs => M.pure (x :: xs)) ρ) fun xs => M.pure (x :: xs)) ρ) fun xs => liftO (dIsx isiT isvL ownT xs)) ρ) fun x => M.bind ((fun ρ => M.bind ((fun ρ => M.bind ((fun ρ => M.bind ((fun ρ => dVar ρ 0) ρ) fun x => M.bind ((fun ρ => M.bind ((fun _ => M.pure (.glb "NotKept")) ρ) fun x => M.bind ((fun _ => M.pure []) ρ) fun xs => M.pure (x :: xs)) ρ) fun xs => M.pure (x :: xs)) ρ) fun xs => liftO (dIsx isiT isvL ownT xs)) ρ) fun x => M.bind ((fun _ => M.pure []) ρ) fun xs => M.pure (x :: xs)) ρ) fun xs => M.pure (x :: xs)) ρ) fun xs => liftO (dLst xs)) ρ) fun y => liftO (dAdd x y))) (sH (fun ρ => M.bind ((fun ρ => dVar ρ 1) ρ) fun x => M.bind ((fun ρ => M.bind ((fun ρ => M.bind ((fun ρ => M.bind ((fun ρ => M.bind ((fun ρ => dVar ρ 0) ρ) fun x => M.bind ((fun ρ => M.bind ((fun _ => M.pure (.glb "NothingToUndo")) ρ) fun x => M.bind ((fun _ => M.pure []) ρ) fun xs => M.pure (x :: xs)) ρ) fun xs => M.pure (x :: xs)) ρ) fun xs => liftO (dIsx isiT isvL ownT xs)) ρ) fun x => M.bind ((fun ρ => M.bind ((fun ρ => M.bind ((fun ρ => M.bind ((fun ρ => dVar ρ 0) ρ) fun x => M.bind ((fun ρ => M.bind ((fun _ => M.pure (.glb "NothingToRedo")) ρ) fun x => M.bind ((fun _ => M.pure []) ρ) fun xs => M.pure (x :: xs)) ρ) fun xs => M.pure (x :: xs)) ρ) fun xs => liftO (dIsx isiT isvL ownT xs)) ρ) fun x => M.bind ((fun _ => M.pure []) ρ) fun xs => M.pure (x :: xs)) ρ) fun xs => M.pure (x :: xs)) ρ) fun xs => liftO (dLst xs)) ρ) fun y => liftO (dAdd x y)) fun d _ μ => .rt d μ))))))
noncomputable def lb_law_0 : Sm := (sSeq (sSetH 4 (fun ρ => M.bind ((fun ρ => M.bind ((fun ρ => dVar ρ 1) ρ) fun x => M.bind ((fun _ => M.pure []) ρ) fun xs => M.pure (x :: xs)) ρ) f__law_far)) (sAppM .h 2 (fun ρ => M.bind ((fun ρ => M.bind ((fun ρ => dVar ρ 1) ρ) fun x => M.bind ((fun ρ => M.bind ((fun ρ => M.bind ((fun ρ => M.bind ((fun ρ => dVar ρ 4) ρ) fun x => M.bind ((fun ρ => M.bind ((fun ρ => M.bind ((fun ρ => dVar ρ 4) ρ) fun x => liftO (dNeg x)) ρ) fun x => M.bind ((fun ρ => M.bind ((fun ρ => M.bind ((fun _ => M.pure (.str "x")) ρ) fun x => M.bind ((fun ρ => M.bind ((fun ρ => M.bind ((fun ρ => dVar ρ 4) ρ) fun x => M.bind ((fun _ => M.pure []) ρ) fun xs => M.pure (x :: xs)) ρ) fun xs => liftO (d1 dStr xs)) ρ) fun y => liftO (dAdd x y)) ρ) fun x => M.bind ((fun ρ => M.bind ((fun _ => M.pure .non) ρ) fun x => M.bind ((fun ρ => M.bind ((fun ρ => M.bind ((fun ρ => M.bind ((fun ρ => dVar ρ 4) ρ) fun x => M.bind ((fun ρ => M.bind ((fun _ => M.pure (.str "a")) ρ) fun x => M.bind ((fun _ => M.pure []) ρ) fun xs => M.pure (x :: xs)) ρ) fun xs => M.pure (x :: xs)) ρ) fun xs => liftO (dTup xs)) ρ) fun x => M.bind ((fun ρ => M.bind ((fun ρ => M.bind ((fun ρ => M.bind ((fun ρ => dVar ρ 4) ρ) fun x => M.bind ((fun ρ => M.bind ((fun _ => M.pure .non) ρ) fun x => M.bind ((fun _ => M.pure []) ρ) fun xs => M.pure (x :: xs)) ρ) fun xs => M.pure (x :: xs)) ρ) fun xs => liftO (dLst xs)) ρ) fun x => M.bind ((fun ρ => M.bind ((fun _ => M.pure (.bl true)) ρ) fun x => M.bind ((fun ρ => M.bind ((fun _ => M.pure (.str "")) ρ) fun x => M.bind ((fun ρ => M.bind ((fun ρ => M.bind ((fun ρ => M.bind ((fun ρ => dVar ρ 4) ρ) fun d => M.bind ((fun _ => M.pure []) ρ) fun ds => M.pure (d :: ds)) ρ) fun ds => liftO (dDic [.inr "a"] ds)) ρ) fun x => M.bind ((fun _ => M.pure []) ρ) fun xs => M.pure (x :: xs)) ρ) fun xs => M.pure (x :: xs)) ρ) fun xs => M.pure (x :: xs)) ρ) fun xs => M.pure (x :: xs)) ρ) fun xs => M.pure (x :: xs)) ρ) fun xs => M.pure (x :: xs)) ρ) fun xs => M.pure (x :: xs)) ρ) fun xs => M.pure (x :: xs)) ρ) fun xs => M.pure (x :: xs)) ρ) fun xs => liftO (dLst xs)) ρ) fun x => M.bind ((fun _ => M.pure []) ρ) fun xs => M.pure (x :: xs)) ρ) fun xs => M.pure (x :: xs)) ρ) f__law_pick)))
noncomputable def lb_law_1 : Sm := (sSeq (sIf (tH (fun ρ => M.bind ((fun ρ => M.bind ((fun ρ => M.bind ((fun ρ => M.bind ((fun ρ => M.bind ((fun ρ => dVar ρ 6) ρ) fun x => M.bind ((fun ρ => M.bind ((fun _ => M.pure (.glb "FlowError")) ρ) fun x => M.bind ((fun _ => M.pure []) ρ) fun xs => M.pure (x :: xs)) ρ) fun xs => M.pure (x :: xs)) ρ) fun xs => liftO (dIsx isiT isvL ownT xs)) ρ) fun x => liftO (dTru x)) ρ) fun x => M.pure (!x)) ρ) fun x => if x = true then M.pure true else (fun ρ => M.bind ((fun ρ => M.bind ((fun ρ => M.bind ((fun ρ => M.bind ((fun ρ => dVar ρ 6) ρ) fun x => M.bind ((fun ρ => M.bind ((fun _ => M.pure (.ty "ValueError")) ρ) fun x => M.bind ((fun _ => M.pure []) ρ) fun xs => M.pure (x :: xs)) ρ) fun xs => M.pure (x :: xs)) ρ) fun xs => liftO (dIsx isiT isvL ownT xs)) ρ) fun x => liftO (dTru x)) ρ) fun x => M.pure (!x)) ρ))
    (sH (fun _ => M.pure (.bl false)) fun d _ μ => .rt d μ)
    sNx) (sIf (tH (fun ρ => M.bind ((fun ρ => M.bind ((fun ρ => M.bind ((fun ρ => dVar ρ 6) ρ) fun x => M.bind ((fun _ => M.pure []) ρ) fun xs => M.pure (x :: xs)) ρ) f__law_kinds) ρ) fun x => M.bind ((dLc (.nm 7) [7] (fun ρ => M.bind ((fun ρ => M.bind ((fun ρ => M.bind ((fun ρ => M.bind ((fun ρ => dVar ρ 5) ρ) fun x => M.bind ((fun _ => M.pure []) ρ) fun xs => M.pure (x :: xs)) ρ) fun xs => liftO (d1 dLen xs)) ρ) fun x => M.bind ((fun _ => M.pure []) ρ) fun xs => M.pure (x :: xs)) ρ) fun xs => liftO (dRng1 xs)) (fun _ => M.pure true) (fun ρ => M.bind ((fun ρ => dVar ρ 7) ρ) fun x => M.bind ((fun ρ => dVar ρ 3) ρ) fun y => liftO ((dEq false) x y))) ρ) fun y => liftO (((dEq true) x y).bind asB)))
    (sH (fun _ => M.pure (.bl false)) fun d _ μ => .rt d μ)
    sNx))
noncomputable def lb_law_2 : Sm := (sIf (tP [2] (fun ρ => M.bind ((fun ρ => M.bind ((fun ρ => M.bind ((fun ρ => dVar ρ 8) ρ) fun x => M.bind ((fun _ => M.pure []) ρ) fun xs => M.pure (x :: xs)) ρ) fun xs => liftO (dReprX xs)) ρ) fun x => M.bind ((fun ρ => M.bind ((fun ρ => M.bind ((fun ρ => M.bind ((fun ρ => dVar ρ 2) ρ) fun x => M.bind ((fun _ => M.pure none) ρ) fun l => M.bind ((fun ρ => M.bind ((fun ρ => dVar ρ 9) ρ) fun x => liftO ((asI x).map some)) ρ) fun h => liftO (dSl x l h)) ρ) fun x => M.bind ((fun _ => M.pure []) ρ) fun xs => M.pure (x :: xs)) ρ) fun xs => liftO (dReprX xs)) ρ) fun y => liftO (((dEq true) x y).bind asB)))
    (sH (fun _ => M.pure (.bl false)) fun d _ μ => .rt d μ)
    sNx)
noncomputable def f_law : List D → M D := bodyF 1 10 ((sSeq (sSetH 1 (fun ρ => M.bind ((fun ρ => M.bind ((fun ρ => dVar ρ 0) ρ) fun x => M.bind ((fun _ => M.pure []) ρ) fun xs => M.pure (x :: xs)) ρ) f__law_pen)) (sSeq (sSetFM .h 2 (fun ρ => M.bind ((fun _ => M.pure []) ρ) fun xs => liftO (dLst xs))) (sSeq (sForH (.nm 3) (fun ρ => M.bind ((fun ρ => M.bind ((fun _ => M.pure (.int 2)) ρ) fun x => M.bind ((fun _ => M.pure []) ρ) fun xs => M.pure (x :: xs)) ρ) fun xs => liftO (dRng1 xs)) lb_law_0) (sSeq (sSetM (.p [2]) 5 (fun ρ => M.bind ((fun ρ => M.bind ((fun ρ => M.bind ((fun ρ => dVar ρ 2) ρ) fun x => M.bind ((fun _ => M.pure (.int 0)) ρ) fun y => liftO (dIx x y)) ρ) fun x => M.bind ((fun ρ => M.bind ((fun ρ => M.bind ((fun ρ => dVar ρ 2) ρ) fun x => M.bind ((fun _ => M.pure (.int 1)) ρ) fun y => liftO (dIx x y)) ρ) fun x => M.bind ((fun _ => M.pure []) ρ) fun xs => M.pure (x :: xs)) ρ) fun xs => M.pure (x :: xs)) ρ) f__law_objects)) (sSeq (sForH (.tu [(.nm 3), (.nm 6)]) (fun ρ => M.bind ((fun ρ => M.bind ((fun ρ => dVar ρ 5) ρ) fun x => M.bind ((fun _ => M.pure []) ρ) fun xs => M.pure (x :: xs)) ρ) fun xs => liftO (dEnum xs)) lb_law_1) (sSeq (sForH (.tu [(.nm 8), (.nm 9)]) (fun ρ => M.bind ((fun ρ => M.bind ((fun ρ => M.bind ((fun ρ => M.bind ((fun ρ => dVar ρ 5) ρ) fun x => M.bind ((fun _ => M.pure []) ρ) fun xs => M.pure (x :: xs)) ρ) f__law_fields) ρ) fun x => M.bind ((fun ρ => M.bind ((fun ρ => M.bind ((fun ρ => M.bind ((fun _ => M.pure (.int 1)) ρ) fun x => M.bind ((fun ρ => M.bind ((fun _ => M.pure (.int 2)) ρ) fun x => M.bind ((fun ρ => M.bind ((fun _ => M.pure (.int 2)) ρ) fun x => M.bind ((fun ρ => M.bind ((fun _ => M.pure (.int 1)) ρ) fun x => M.bind ((fun ρ => M.bind ((fun _ => M.pure (.int 1)) ρ) fun x => M.bind ((fun ρ => M.bind ((fun _ => M.pure (.int 1)) ρ) fun x => M.bind ((fun ρ => M.bind ((fun _ => M.pure (.int 1)) ρ) fun x => M.bind ((fun ρ => M.bind ((fun _ => M.pure (.int 0)) ρ) fun x => M.bind ((fun ρ => M.bind ((fun _ => M.pure (.int 1)) ρ) fun x => M.bind ((fun ρ => M.bind ((fun _ => M.pure (.int 1)) ρ) fun x => M.bind ((fun ρ => M.bind ((fun _ => M.pure (.int 2)) ρ) fun x => M.bind ((fun ρ => M.bind ((fun _ => M.pure (.int 0)) ρ) fun x => M.bind ((fun ρ => M.bind ((fun _ => M.pure (.int 0)) ρ) fun x => M.bind ((fun _ => M.pure []) ρ) fun xs => M.pure (x :: xs)) ρ) fun xs => M.pure (x :: xs)) ρ) fun xs => M.pure (x :: xs)) ρ) fun xs => M.pure (x :: xs)) ρ) fun xs => M.pure (x :: xs)) ρ) fun xs => M.pure (x :: xs)) ρ) fun xs => M.pure (x :: xs)) ρ) fun xs => M.pure (x :: xs)) ρ) fun xs => M.pure (x :: xs)) ρ) fun xs => M.pure (x :: xs)) ρ) fun xs => M.pure (x :: xs)) ρ) fun xs => M.pure (x :: xs)) ρ) fun xs => M.pure (x :: xs)) ρ) fun xs => liftO (dLst xs)) ρ) fun x => M.bind ((fun _ => M.pure []) ρ) fun xs => M.pure (x :: xs)) ρ) fun xs => M.pure (x :: xs)) ρ) fun xs => liftO (dZip xs)) lb_law_2) (sH (fun _ => M.pure (.bl true)) fun d _ μ => .rt d μ))))))))
end
end Wk
set_option Elab.async false
set_option linter.all false
set_option maxRecDepth 100000
set_option maxHeartbeats 8000000
/-! the walk of law_k00_errors, printed by a program of ours from the text's own tree -/
namespace Wk
open PySem PySem.Spec PyProof.Rows L2 DX
abbrev tt (i : Nat) : Stmt := PySem.Challenge.pw_flowpapers_k00_errors.main.body.getD i (.Pass ⟨0, 0, 0, 0⟩)
/-! ### facts -/
def fa : List He.Fa := [.glo "_law_pen", .free "int", .free "list", .glo "_law_objects", .glo "_law_draw", .free "len", .glo "_law_pick", .glo "_law_far", .free "range", .glo "_law_fields", .glo "_law_kinds", .glo "BadRow", .free "isinstance", .glo "BadNumber", .glo "BadLine", .glo "BadText", .glo "NotRound", .glo "NoRest", .glo "Shared", .glo "BadName", .glo "NoName", .glo "NotKept", .glo "TakenName", .glo "NothingToRedo", .glo "NothingToUndo", .glo "law", .free "str", .free "enumerate", .free "ValueError", .glo "FlowError", .free "zip", .free "repr"]
def fn : List He.DefD := [dTop "_law_pen" (tt 16), dTop "_law_objects" (tt 21), dTop "_law_draw" (tt 17), dTop "_law_pick" (tt 18), dTop "_law_far" (tt 19), dTop "_law_fields" (tt 22), dTop "_law_kinds" (tt 20), dTop "law" (tt 23), dIni "BadText" "BadText.__init__" (inCls (tt 2) 0), dIni "BadLine" "BadLine.__init__" (inCls (tt 3) 0), dIni "BadNumber" "BadNumber.__init__" (inCls (tt 4) 0), dIni "BadRow" "BadRow.__init__" (inCls (tt 5) 0), dIni "BadName" "BadName.__init__" (inCls (tt 6) 0), dIni "Shared" "Shared.__init__" (inCls (tt 7) 0), dIni "NoRest" "NoRest.__init__" (inCls (tt 8) 0), dIni "NotRound" "NotRound.__init__" (inCls (tt 9) 0), dIni "NoName" "NoName.__init__" (inCls (tt 10) 0), dIni "TakenName" "TakenName.__init__" (inCls (tt 11) 0), dIni "NotKept" "NotKept.__init__" (inCls (tt 12) 0), dIni "NothingToUndo" "NothingToUndo.__init__" (inCls (tt 13) 0), dIni "NothingToRedo" "NothingToRedo.__init__" (inCls (tt 14) 0)]
def tf : List He.Defn := []
def ex (K : PySem.W.Frag) : Bool := nodupB (tf.map fun p => (He.cT K p).2) && baseB K (He.ga K "FlowError") && excB K "BadText" ["column"] && excB K "BadLine" ["line", "column"] && excB K "BadNumber" ["what", "number"] && excB K "BadRow" ["row"] && excB K "BadName" ["name"] && excB K "Shared" ["plane"] && excB K "NoRest" ["place"] && excB K "NotRound" [] && excB K "NoName" ["name"] && excB K "TakenName" ["name"] && excB K "NotKept" ["promise", "witness"] && excB K "NothingToUndo" [] && excB K "NothingToRedo" [] && nosmB K && isiB K isiL && isvB K isvL
theorem bt_ValueError : bootBuiltins "ValueError" = some (.type "ValueError") := by decide +kernel
theorem bt_int : bootBuiltins "int" = some (.type "int") := by decide +kernel
theorem bt_isinstance : bootBuiltins "isinstance" = some (.builtin "isinstance") := by decide +kernel
theorem bt_len : bootBuiltins "len" = some (.builtin "len") := by decide +kernel
theorem bt_list : bootBuiltins "list" = some (.type "list") := by decide +kernel
theorem bt_repr : bootBuiltins "repr" = some (.builtin "repr") := by decide +kernel
theorem bt_str : bootBuiltins "str" = some (.type "str") := by decide +kernel
section
variable [Tb] {P : Program} {w : World} {K : PySem.W.Frag} {mg : Str → Option Value} {base : Heap}
theorem _root_.DX.TT.own (T : TT fa fn tf ex w K mg base) : OwnT K mg ownT := ⟨fun c hc => (nomatch hc), fun c hc => (nomatch hc)⟩
theorem base_ok (T : TT fa fn tf ex w K mg base) : BaseT K mg "FlowError" := baseB_ok (T.glo (List.mem_of_getElem? (i := 29) rfl)) (He.ba (He.ba (He.ba (He.ba (He.ba (He.ba (He.ba (He.ba (He.ba (He.ba (He.ba (He.ba (He.ba (He.ba (He.ba (He.ba (He.ba T.more).1).1).1).1).1).1).1).1).1).1).1).1).1).1).1).1).2
theorem sc_init_BadText : FnScope ["self", "column"] ["self", "column"] (defScope (inCls (tt 2) 0)) := ⟨rfl, rfl, rfl, by decide +kernel, rfl, by decide +kernel, by decide +kernel⟩
theorem _root_.DX.TT.ex_BadText (T : TT fa fn tf ex w K mg base) : ExT P w K mg base "BadText" ["column"] := by
  obtain ⟨fd, F, b⟩ := T.ini (ps := ["self", "column"]) 8 rfl (fun _ _ _ _ _ _ us hl => match us, hl with | [_, _], _ => rfl)
  have e := excB_ok (K := K) (x := "BadText") (ns := ["column"]) (He.ba (He.ba (He.ba (He.ba (He.ba (He.ba (He.ba (He.ba (He.ba (He.ba (He.ba (He.ba (He.ba (He.ba (He.ba (He.ba T.more).1).1).1).1).1).1).1).1).1).1).1).1).1).1).1).2
  refine ⟨_, _, fd, (T.glo (List.mem_of_getElem? (i := 15) rfl)), e.o, e.x, e.i, e.t, e.n, b, ?_⟩
  exact init1 F e.o (base_ok T) (e.n "column" (by simp)) sc_init_BadText rfl (fun _ _ _ => ⟨_, rfl⟩) rfl (by decide) (by decide)
theorem _root_.DX.TT.xf_BadText (T : TT fa fn tf ex w K mg base) (f : Str) (hf : f ∈ (["column"] : List Str)) : ∀ c ∈ (["BadText"] : List Str), ∃ C, mg c = some (.ref C) ∧ XfC K C ∧ PySem.W.findIn K (.ref C) f = some none := by
  intro c hc
  cases List.mem_singleton.mp hc
  have e := excB_ok (K := K) (x := "BadText") (ns := ["column"]) (He.ba (He.ba (He.ba (He.ba (He.ba (He.ba (He.ba (He.ba (He.ba (He.ba (He.ba (He.ba (He.ba (He.ba (He.ba (He.ba T.more).1).1).1).1).1).1).1).1).1).1).1).1).1).1).1).2
  exact ⟨_, (T.glo (List.mem_of_getElem? (i := 15) rfl)), e.x, e.n f hf⟩
theorem sc_init_BadLine : FnScope ["self", "line", "column"] ["self", "line", "column"] (defScope (inCls (tt 3) 0)) := ⟨rfl, rfl, rfl, by decide +kernel, rfl, by decide +kernel, by decide +kernel⟩
theorem _root_.DX.TT.ex_BadLine (T : TT fa fn tf ex w K mg base) : ExT P w K mg base "BadLine" ["line", "column"] := by
  obtain ⟨fd, F, b⟩ := T.ini (ps := ["self", "line", "column"]) 9 rfl (fun _ _ _ _ _ _ us hl => match us, hl with | [_, _, _], _ => rfl)
  have e := excB_ok (K := K) (x := "BadLine") (ns := ["line", "column"]) (He.ba (He.ba (He.ba (He.ba (He.ba (He.ba (He.ba (He.ba (He.ba (He.ba (He.ba (He.ba (He.ba (He.ba (He.ba T.more).1).1).1).1).1).1).1).1).1).1).1).1).1).1).2
  refine ⟨_, _, fd, (T.glo (List.mem_of_getElem? (i := 14) rfl)), e.o, e.x, e.i, e.t, e.n, b, ?_⟩
  exact init2 F e.o (base_ok T) (e.n "line" (by simp)) (e.n "column" (by simp)) sc_init_BadLine rfl (fun _ _ _ => ⟨_, rfl⟩) rfl (by decide) (by decide) (by decide) (by decide)
theorem _root_.DX.TT.xf_BadLine (T : TT fa fn tf ex w K mg base) (f : Str) (hf : f ∈ (["line", "column"] : List Str)) : ∀ c ∈ (["BadLine"] : List Str), ∃ C, mg c = some (.ref C) ∧ XfC K C ∧ PySem.W.findIn K (.ref C) f = some none := by
  intro c hc
  cases List.mem_singleton.mp hc
  have e := excB_ok (K := K) (x := "BadLine") (ns := ["line", "column"]) (He.ba (He.ba (He.ba (He.ba (He.ba (He.ba (He.ba (He.ba (He.ba (He.ba (He.ba (He.ba (He.ba (He.ba (He.ba T.more).1).1).1).1).1).1).1).1).1).1).1).1).1).1).2
  exact ⟨_, (T.glo (List.mem_of_getElem? (i := 14) rfl)), e.x, e.n f hf⟩
theorem sc_init_BadNumber : FnScope ["self", "what", "number"] ["self", "what", "number"] (defScope (inCls (tt 4) 0)) := ⟨rfl, rfl, rfl, by decide +kernel, rfl, by decide +kernel, by decide +kernel⟩
theorem _root_.DX.TT.ex_BadNumber (T : TT fa fn tf ex w K mg base) : ExT P w K mg base "BadNumber" ["what", "number"] := by
  obtain ⟨fd, F, b⟩ := T.ini (ps := ["self", "what", "number"]) 10 rfl (fun _ _ _ _ _ _ us hl => match us, hl with | [_, _, _], _ => rfl)
  have e := excB_ok (K := K) (x := "BadNumber") (ns := ["what", "number"]) (He.ba (He.ba (He.ba (He.ba (He.ba (He.ba (He.ba (He.ba (He.ba (He.ba (He.ba (He.ba (He.ba (He.ba T.more).1).1).1).1).1).1).1).1).1).1).1).1).1).2
  refine ⟨_, _, fd, (T.glo (List.mem_of_getElem? (i := 13) rfl)), e.o, e.x, e.i, e.t, e.n, b, ?_⟩
  exact init2 F e.o (base_ok T) (e.n "what" (by simp)) (e.n "number" (by simp)) sc_init_BadNumber rfl (fun _ _ _ => ⟨_, rfl⟩) rfl (by decide) (by decide) (by decide) (by decide)
theorem _root_.DX.TT.xf_BadNumber (T : TT fa fn tf ex w K mg base) (f : Str) (hf : f ∈ (["what", "number"] : List Str)) : ∀ c ∈ (["BadNumber"] : List Str), ∃ C, mg c = some (.ref C) ∧ XfC K C ∧ PySem.W.findIn K (.ref C) f = some none := by
  intro c hc
  cases List.mem_singleton.mp hc
  have e := excB_ok (K := K) (x := "BadNumber") (ns := ["what", "number"]) (He.ba (He.ba (He.ba (He.ba (He.ba (He.ba (He.ba (He.ba (He.ba (He.ba (He.ba (He.ba (He.ba (He.ba T.more).1).1).1).1).1).1).1).1).1).1).1).1).1).2
  exact ⟨_, (T.glo (List.mem_of_getElem? (i := 13) rfl)), e.x, e.n f hf⟩
theorem sc_init_BadRow : FnScope ["self", "row"] ["self", "row"] (defScope (inCls (tt 5) 0)) := ⟨rfl, rfl, rfl, by decide +kernel, rfl, by decide +kernel, by decide +kernel⟩
theorem _root_.DX.TT.ex_BadRow (T : TT fa fn tf ex w K mg base) : ExT P w K mg base "BadRow" ["row"] := by
  obtain ⟨fd, F, b⟩ := T.ini (ps := ["self", "row"]) 11 rfl (fun _ _ _ _ _ _ us hl => match us, hl with | [_, _], _ => rfl)
  have e := excB_ok (K := K) (x := "BadRow") (ns := ["row"]) (He.ba (He.ba (He.ba (He.ba (He.ba (He.ba (He.ba (He.ba (He.ba (He.ba (He.ba (He.ba (He.ba T.more).1).1).1).1).1).1).1).1).1).1).1).1).2
  refine ⟨_, _, fd, (T.glo (List.mem_of_getElem? (i := 11) rfl)), e.o, e.x, e.i, e.t, e.n, b, ?_⟩
  exact init1 F e.o (base_ok T) (e.n "row" (by simp)) sc_init_BadRow rfl (fun _ _ _ => ⟨_, rfl⟩) rfl (by decide) (by decide)
theorem _root_.DX.TT.xf_BadRow (T : TT fa fn tf ex w K mg base) (f : Str) (hf : f ∈ (["row"] : List Str)) : ∀ c ∈ (["BadRow"] : List Str), ∃ C, mg c = some (.ref C) ∧ XfC K C ∧ PySem.W.findIn K (.ref C) f = some none := by
  intro c hc
  cases List.mem_singleton.mp hc
  have e := excB_ok (K := K) (x := "BadRow") (ns := ["row"]) (He.ba (He.ba (He.ba (He.ba (He.ba (He.ba (He.ba (He.ba (He.ba (He.ba (He.ba (He.ba (He.ba T.more).1).1).1).1).1).1).1).1).1).1).1).1).2
  exact ⟨_, (T.glo (List.mem_of_getElem? (i := 11) rfl)), e.x, e.n f hf⟩
theorem sc_init_BadName : FnScope ["self", "name"] ["self", "name"] (defScope (inCls (tt 6) 0)) := ⟨rfl, rfl, rfl, by decide +kernel, rfl, by decide +kernel, by decide +kernel⟩
theorem _root_.DX.TT.ex_BadName (T : TT fa fn tf ex w K mg base) : ExT P w K mg base "BadName" ["name"] := by
  obtain ⟨fd, F, b⟩ := T.ini (ps := ["self", "name"]) 12 rfl (fun _ _ _ _ _ _ us hl => match us, hl with | [_, _], _ => rfl)
  have e := excB_ok (K := K) (x := "BadName") (ns := ["name"]) (He.ba (He.ba (He.ba (He.ba (He.ba (He.ba (He.ba (He.ba (He.ba (He.ba (He.ba (He.ba T.more).1).1).1).1).1).1).1).1).1).1).1).2
  refine ⟨_, _, fd, (T.glo (List.mem_of_getElem? (i := 19) rfl)), e.o, e.x, e.i, e.t, e.n, b, ?_⟩
  exact init1 F e.o (base_ok T) (e.n "name" (by simp)) sc_init_BadName rfl (fun _ _ _ => ⟨_, rfl⟩) rfl (by decide) (by decide)
theorem _root_.DX.TT.xf_BadName (T : TT fa fn tf ex w K mg base) (f : Str) (hf : f ∈ (["name"] : List Str)) : ∀ c ∈ (["BadName"] : List Str), ∃ C, mg c = some (.ref C) ∧ XfC K C ∧ PySem.W.findIn K (.ref C) f = some none := by
  intro c hc
  cases List.mem_singleton.mp hc
  have e := excB_ok (K := K) (x := "BadName") (ns := ["name"]) (He.ba (He.ba (He.ba (He.ba (He.ba (He.ba (He.ba (He.ba (He.ba (He.ba (He.ba (He.ba T.more).1).1).1).1).1).1).1).1).1).1).1).2
  exact ⟨_, (T.glo (List.mem_of_getElem? (i := 19) rfl)), e.x, e.n f hf⟩
theorem sc_init_Shared : FnScope ["self", "plane"] ["self", "plane"] (defScope (inCls (tt 7) 0)) := ⟨rfl, rfl, rfl, by decide +kernel, rfl, by decide +kernel, by decide +kernel⟩
theorem _root_.DX.TT.ex_Shared (T : TT fa fn tf ex w K mg base) : ExT P w K mg base "Shared" ["plane"] := by
  obtain ⟨fd, F, b⟩ := T.ini (ps := ["self", "plane"]) 13 rfl (fun _ _ _ _ _ _ us hl => match us, hl with | [_, _], _ => rfl)
  have e := excB_ok (K := K) (x := "Shared") (ns := ["plane"]) (He.ba (He.ba (He.ba (He.ba (He.ba (He.ba (He.ba (He.ba (He.ba (He.ba (He.ba T.more).1).1).1).1).1).1).1).1).1).1).2
  refine ⟨_, _, fd, (T.glo (List.mem_of_getElem? (i := 18) rfl)), e.o, e.x, e.i, e.t, e.n, b, ?_⟩
  exact init1 F e.o (base_ok T) (e.n "plane" (by simp)) sc_init_Shared rfl (fun _ _ _ => ⟨_, rfl⟩) rfl (by decide) (by decide)
theorem _root_.DX.TT.xf_Shared (T : TT fa fn tf ex w K mg base) (f : Str) (hf : f ∈ (["plane"] : List Str)) : ∀ c ∈ (["Shared"] : List Str), ∃ C, mg c = some (.ref C) ∧ XfC K C ∧ PySem.W.findIn K (.ref C) f = some none := by
  intro c hc
  cases List.mem_singleton.mp hc
  have e := excB_ok (K := K) (x := "Shared") (ns := ["plane"]) (He.ba (He.ba (He.ba (He.ba (He.ba (He.ba (He.ba (He.ba (He.ba (He.ba (He.ba T.more).1).1).1).1).1).1).1).1).1).1).2
  exact ⟨_, (T.glo (List.mem_of_getElem? (i := 18) rfl)), e.x, e.n f hf⟩
theorem sc_init_NoRest : FnScope ["self", "place"] ["self", "place"] (defScope (inCls (tt 8) 0)) := ⟨rfl, rfl, rfl, by decide +kernel, rfl, by decide +kernel, by decide +kernel⟩
theorem _root_.DX.TT.ex_NoRest (T : TT fa fn tf ex w K mg base) : ExT P w K mg base "NoRest" ["place"] := by
  obtain ⟨fd, F, b⟩ := T.ini (ps := ["self", "place"]) 14 rfl (fun _ _ _ _ _ _ us hl => match us, hl with | [_, _], _ => rfl)
  have e := excB_ok (K := K) (x := "NoRest") (ns := ["place"]) (He.ba (He.ba (He.ba (He.ba (He.ba (He.ba (He.ba (He.ba (He.ba (He.ba T.more).1).1).1).1).1).1).1).1).1).2
  refine ⟨_, _, fd, (T.glo (List.mem_of_getElem? (i := 17) rfl)), e.o, e.x, e.i, e.t, e.n, b, ?_⟩
  exact init1 F e.o (base_ok T) (e.n "place" (by simp)) sc_init_NoRest rfl (fun _ _ _ => ⟨_, rfl⟩) rfl (by decide) (by decide)
theorem _root_.DX.TT.xf_NoRest (T : TT fa fn tf ex w K mg base) (f : Str) (hf : f ∈ (["place"] : List Str)) : ∀ c ∈ (["NoRest"] : List Str), ∃ C, mg c = some (.ref C) ∧ XfC K C ∧ PySem.W.findIn K (.ref C) f = some none := by
  intro c hc
  cases List.mem_singleton.mp hc
  have e := excB_ok (K := K) (x := "NoRest") (ns := ["place"]) (He.ba (He.ba (He.ba (He.ba (He.ba (He.ba (He.ba (He.ba (He.ba (He.ba T.more).1).1).1).1).1).1).1).1).1).2
  exact ⟨_, (T.glo (List.mem_of_getElem? (i := 17) rfl)), e.x, e.n f hf⟩
theorem sc_init_NotRound : FnScope ["self"] ["self"] (defScope (inCls (tt 9) 0)) := ⟨rfl, rfl, rfl, by decide +kernel, rfl, by decide +kernel, by decide +kernel⟩
theorem _root_.DX.TT.ex_NotRound (T : TT fa fn tf ex w K mg base) : ExT0 P w K mg base "NotRound" := by
  obtain ⟨fd, F, b⟩ := T.ini (ps := ["self"]) 15 rfl (fun _ _ _ _ _ _ us hl => match us, hl with | [_], _ => rfl)
  have e := excB_ok (K := K) (x := "NotRound") (ns := []) (He.ba (He.ba (He.ba (He.ba (He.ba (He.ba (He.ba (He.ba (He.ba T.more).1).1).1).1).1).1).1).1).2
  exact ext0_of (T.glo (List.mem_of_getElem? (i := 16) rfl)) e b (init0 F e.o (base_ok T) sc_init_NotRound rfl (fun _ _ _ => ⟨_, rfl⟩) rfl)
theorem sc_init_NoName : FnScope ["self", "name"] ["self", "name"] (defScope (inCls (tt 10) 0)) := ⟨rfl, rfl, rfl, by decide +kernel, rfl, by decide +kernel, by decide +kernel⟩
theorem _root_.DX.TT.ex_NoName (T : TT fa fn tf ex w K mg base) : ExT P w K mg base "NoName" ["name"] := by
  obtain ⟨fd, F, b⟩ := T.ini (ps := ["self", "name"]) 16 rfl (fun _ _ _ _ _ _ us hl => match us, hl with | [_, _], _ => rfl)
  have e := excB_ok (K := K) (x := "NoName") (ns := ["name"]) (He.ba (He.ba (He.ba (He.ba (He.ba (He.ba (He.ba (He.ba T.more).1).1).1).1).1).1).1).2
  refine ⟨_, _, fd, (T.glo (List.mem_of_getElem? (i := 20) rfl)), e.o, e.x, e.i, e.t, e.n, b, ?_⟩
  exact init1 F e.o (base_ok T) (e.n "name" (by simp)) sc_init_NoName rfl (fun _ _ _ => ⟨_, rfl⟩) rfl (by decide) (by decide)
theorem _root_.DX.TT.xf_NoName (T : TT fa fn tf ex w K mg base) (f : Str) (hf : f ∈ (["name"] : List Str)) : ∀ c ∈ (["NoName"] : List Str), ∃ C, mg c = some (.ref C) ∧ XfC K C ∧ PySem.W.findIn K (.ref C) f = some none := by
  intro c hc
  cases List.mem_singleton.mp hc
  have e := excB_ok (K := K) (x := "NoName") (ns := ["name"]) (He.ba (He.ba (He.ba (He.ba (He.ba (He.ba (He.ba (He.ba T.more).1).1).1).1).1).1).1).2
  exact ⟨_, (T.glo (List.mem_of_getElem? (i := 20) rfl)), e.x, e.n f hf⟩
theorem sc_init_TakenName : FnScope ["self", "name"] ["self", "name"] (defScope (inCls (tt 11) 0)) := ⟨rfl, rfl, rfl, by decide +kernel, rfl, by decide +kernel, by decide +kernel⟩
theorem _root_.DX.TT.ex_TakenName (T : TT fa fn tf ex w K mg base) : ExT P w K mg base "TakenName" ["name"] := by
  obtain ⟨fd, F, b⟩ := T.ini (ps := ["self", "name"]) 17 rfl (fun _ _ _ _ _ _ us hl => match us, hl with | [_, _], _ => rfl)
  have e := excB_ok (K := K) (x := "TakenName") (ns := ["name"]) (He.ba (He.ba (He.ba (He.ba (He.ba (He.ba (He.ba T.more).1).1).1).1).1).1).2
  refine ⟨_, _, fd, (T.glo (List.mem_of_getElem? (i := 22) rfl)), e.o, e.x, e.i, e.t, e.n, b, ?_⟩
  exact init1 F e.o (base_ok T) (e.n "name" (by simp)) sc_init_TakenName rfl (fun _ _ _ => ⟨_, rfl⟩) rfl (by decide) (by decide)
theorem _root_.DX.TT.xf_TakenName (T : TT fa fn tf ex w K mg base) (f : Str) (hf : f ∈ (["name"] : List Str)) : ∀ c ∈ (["TakenName"] : List Str), ∃ C, mg c = some (.ref C) ∧ XfC K C ∧ PySem.W.findIn K (.ref C) f = some none := by
  intro c hc
  cases List.mem_singleton.mp hc
  have e := excB_ok (K := K) (x := "TakenName") (ns := ["name"]) (He.ba (He.ba (He.ba (He.ba (He.ba (He.ba (He.ba T.more).1).1).1).1).1).1).2
  exact ⟨_, (T.glo (List.mem_of_getElem? (i := 22) rfl)), e.x, e.n f hf⟩
theorem sc_init_NotKept : FnScope ["self", "promise", "witness"] ["self", "promise", "witness"] (defScope (inCls (tt 12) 0)) := ⟨rfl, rfl, rfl, by decide +kernel, rfl, by decide +kernel, by decide +kernel⟩
theorem _root_.DX.TT.ex_NotKept (T : TT fa fn tf ex w K mg base) : ExT P w K mg base "NotKept" ["promise", "witness"] := by
  obtain ⟨fd, F, b⟩ := T.ini (ps := ["self", "promise", "witness"]) 18 rfl (fun _ _ _ _ _ _ us hl => match us, hl with | [_, _, _], _ => rfl)
  have e := excB_ok (K := K) (x := "NotKept") (ns := ["promise", "witness"]) (He.ba (He.ba (He.ba (He.ba (He.ba (He.ba T.more).1).1).1).1).1).2
  refine ⟨_, _, fd, (T.glo (List.mem_of_getElem? (i := 21) rfl)), e.o, e.x, e.i, e.t, e.n, b, ?_⟩
  exact init2 F e.o (base_ok T) (e.n "promise" (by simp)) (e.n "witness" (by simp)) sc_init_NotKept rfl (fun _ _ _ => ⟨_, rfl⟩) rfl (by decide) (by decide) (by decide) (by decide)
theorem _root_.DX.TT.xf_NotKept (T : TT fa fn tf ex w K mg base) (f : Str) (hf : f ∈ (["promise", "witness"] : List Str)) : ∀ c ∈ (["NotKept"] : List Str), ∃ C, mg c = some (.ref C) ∧ XfC K C ∧ PySem.W.findIn K (.ref C) f = some none := by
  intro c hc
  cases List.mem_singleton.mp hc
  have e := excB_ok (K := K) (x := "NotKept") (ns := ["promise", "witness"]) (He.ba (He.ba (He.ba (He.ba (He.ba (He.ba T.more).1).1).1).1).1).2
  exact ⟨_, (T.glo (List.mem_of_getElem? (i := 21) rfl)), e.x, e.n f hf⟩
theorem sc_init_NothingToUndo : FnScope ["self"] ["self"] (defScope (inCls (tt 13) 0)) := ⟨rfl, rfl, rfl, by decide +kernel, rfl, by decide +kernel, by decide +kernel⟩
theorem _root_.DX.TT.ex_NothingToUndo (T : TT fa fn tf ex w K mg base) : ExT0 P w K mg base "NothingToUndo" := by
  obtain ⟨fd, F, b⟩ := T.ini (ps := ["self"]) 19 rfl (fun _ _ _ _ _ _ us hl => match us, hl with | [_], _ => rfl)
  have e := excB_ok (K := K) (x := "NothingToUndo") (ns := []) (He.ba (He.ba (He.ba (He.ba (He.ba T.more).1).1).1).1).2
  exact ext0_of (T.glo (List.mem_of_getElem? (i := 24) rfl)) e b (init0 F e.o (base_ok T) sc_init_NothingToUndo rfl (fun _ _ _ => ⟨_, rfl⟩) rfl)
theorem sc_init_NothingToRedo : FnScope ["self"] ["self"] (defScope (inCls (tt 14) 0)) := ⟨rfl, rfl, rfl, by decide +kernel, rfl, by decide +kernel, by decide +kernel⟩
theorem _root_.DX.TT.ex_NothingToRedo (T : TT fa fn tf ex w K mg base) : ExT0 P w K mg base "NothingToRedo" := by
  obtain ⟨fd, F, b⟩ := T.ini (ps := ["self"]) 20 rfl (fun _ _ _ _ _ _ us hl => match us, hl with | [_], _ => rfl)
  have e := excB_ok (K := K) (x := "NothingToRedo") (ns := []) (He.ba (He.ba (He.ba (He.ba T.more).1).1).1).2
  exact ext0_of (T.glo (List.mem_of_getElem? (i := 23) rfl)) e b (init0 F e.o (base_ok T) sc_init_NothingToRedo rfl (fun _ _ _ => ⟨_, rfl⟩) rfl)
theorem _root_.DX.TT.clsG (T : TT fa fn tf ex w K mg base) : ∀ x ∈ clsN, mg x = some (.ref (He.ga K x)) := (gcons (T.glo (List.mem_of_getElem? (i := 14) rfl)) (gcons (T.glo (List.mem_of_getElem? (i := 19) rfl)) (gcons (T.glo (List.mem_of_getElem? (i := 13) rfl)) (gcons (T.glo (List.mem_of_getElem? (i := 11) rfl)) (gcons (T.glo (List.mem_of_getElem? (i := 15) rfl)) (gcons (T.glo (List.mem_of_getElem? (i := 29) rfl)) (gcons (T.glo (List.mem_of_getElem? (i := 20) rfl)) (gcons (T.glo (List.mem_of_getElem? (i := 17) rfl)) (gcons (T.glo (List.mem_of_getElem? (i := 21) rfl)) (gcons (T.glo (List.mem_of_getElem? (i := 16) rfl)) (gcons (T.glo (List.mem_of_getElem? (i := 23) rfl)) (gcons (T.glo (List.mem_of_getElem? (i := 24) rfl)) (gcons (T.glo (List.mem_of_getElem? (i := 18) rfl)) (gcons (T.glo (List.mem_of_getElem? (i := 22) rfl)) xnil))))))))))))))
theorem _root_.DX.TT.nosm (T : TT fa fn tf ex w K mg base) : NoSm K := nosmB_ok (He.ba (He.ba (He.ba T.more).1).1).2
theorem _root_.DX.TT.isi (T : TT fa fn tf ex w K mg base) : SubI K mg isiT := isiB_ok (He.ba (He.ba T.more).1).2 (all2 T.clsG (by decide +kernel))
theorem _root_.DX.TT.isv (T : TT fa fn tf ex w K mg base) : SubV K mg isvL := isvB_ok (He.ba T.more).2 (all1 T.clsG (by decide +kernel))
/-! ### the defs -/
theorem sc__law_pen : FnScope ["_law_script", "_law_fold", "_law_cell"] ["_law_script"] (defScope (tt 16)) := ⟨rfl, rfl, rfl, by decide +kernel, rfl, by decide +kernel, by decide +kernel⟩
theorem ok__law_pen (T : TT fa fn tf ex w K mg base) : Has P w K mg base "_law_pen" 1 ["_law_script"] f__law_pen := by
  refine has_of (N := ["_law_script", "_law_fold", "_law_cell"]) (T.wr 0 rfl (List.mem_of_getElem? (i := 0) rfl) (fun _ _ _ _ _ _ us hl => match us, hl with | [_], _ => rfl)) sc__law_pen fun f cdv A outer s H E hr => ?_
  have tk : Takes (bX P w K mg base ["_law_script", "_law_fold", "_law_cell"] "_law_pen" (defScope (tt 16)) f cdv A outer s H E) (fun cls d _ H' => E cls d H') := takes_of rfl rfl rfl rfl
  exact (ss_cons (s_setH 1 (sc__law_pen).nd rfl (by first | exact Or.inl rfl | exact Or.inr rfl) e_int)
    (ss_cons (s_forH (.nm 2) (passes_of rfl) rfl (i_seq (e_var 0)) (pg_name (i := 2) (sc__law_pen).nd rfl (by first | exact Or.inl rfl | exact Or.inr rfl))
    (ss_one (s_setH 1 (sc__law_pen).nd rfl (by first | exact Or.inl rfl | exact Or.inr rfl) (e_op op_dMod (e_callT op_int (by rfl) (T.free (List.mem_of_getElem? (i := 1) rfl)) bt_int (a_cons (e_op op_dAdd (e_op op_dMul (e_var 1) e_int) (e_var 2)) a_nil)) e_int))))
    (ss_one (s_retN' (f_dic (ks := [.inr "cells", .inr "at", .inr "digits", .inr "count", .inr "fold"]) (p_str (e_of (f_callT opF_list mob_dList (by rfl) (T.free (List.mem_of_getElem? (i := 2) rfl)) bt_list (a_cons (e_var 0) a_nil))) (p_str e_int (p_str e_int (p_str e_int (p_str (e_var 1) p_nil))))) (by decide) rfl rfl (by simp) (by decide))))))
theorem sc__law_objects : FnScope ["_law_a", "_law_b", "_law_first"] ["_law_a", "_law_b"] (defScope (tt 21)) := ⟨rfl, rfl, rfl, by decide +kernel, rfl, by decide +kernel, by decide +kernel⟩
theorem ok__law_objects (T : TT fa fn tf ex w K mg base) : Has P w K mg base "_law_objects" 3 ["_law_a", "_law_b"] f__law_objects := by
  refine has_of (N := ["_law_a", "_law_b", "_law_first"]) (T.wr 1 rfl (List.mem_of_getElem? (i := 3) rfl) (fun _ _ _ _ _ _ us hl => match us, hl with | [_, _], _ => rfl)) sc__law_objects fun f cdv A outer s H E hr => ?_
  have tk : Takes (bX P w K mg base ["_law_a", "_law_b", "_law_first"] "_law_objects" (defScope (tt 21)) f cdv A outer s H E) (fun cls d _ H' => E cls d H') := takes_of rfl rfl rfl rfl
  exact (ss_cons (s_setH 2 (sc__law_objects).nd rfl (by first | exact Or.inl rfl | exact Or.inr rfl) (e_lst (a_cons (e_exn (T.ex_BadText) hr tk (by rfl) (a_cons (e_var 0) a_nil)) (a_cons (e_exn (T.ex_BadLine) hr tk (by rfl) (a_cons (e_var 0) (a_cons (e_var 1) a_nil))) (a_cons (e_exn (T.ex_BadNumber) hr tk (by rfl) (a_cons (e_var 0) (a_cons (e_var 1) a_nil))) (a_cons (e_exn (T.ex_BadRow) hr tk (by rfl) (a_cons (e_var 0) a_nil)) (a_cons (e_exn (T.ex_BadName) hr tk (by rfl) (a_cons (e_var 0) a_nil)) (a_cons (e_exn (T.ex_Shared) hr tk (by rfl) (a_cons (e_var 0) a_nil)) (a_cons (e_exn (T.ex_NoRest) hr tk (by rfl) (a_cons (e_var 0) a_nil)) (a_cons (e_exn0 (T.ex_NotRound) hr tk (by rfl)) a_nil))))))))))
    (ss_cons (s_setH 2 (sc__law_objects).nd rfl (by first | exact Or.inl rfl | exact Or.inr rfl) (e_op op_dAdd (e_var 2) (e_lst (a_cons (e_exn (T.ex_NoName) hr tk (by rfl) (a_cons (e_var 0) a_nil)) (a_cons (e_exn (T.ex_TakenName) hr tk (by rfl) (a_cons (e_var 0) a_nil)) (a_cons (e_exn (T.ex_NotKept) hr tk (by rfl) (a_cons (e_var 0) (a_cons (e_var 1) a_nil))) a_nil))))))
    (ss_one (s_retH (e_op op_dAdd (e_var 2) (e_lst (a_cons (e_exn0 (T.ex_NothingToUndo) hr tk (by rfl)) (a_cons (e_exn0 (T.ex_NothingToRedo) hr tk (by rfl)) a_nil))))))))
theorem sc__law_draw : FnScope ["_law_pen_here", "_law_many", "_law_cell", "_law_digit", "_law_mixed"] ["_law_pen_here", "_law_many"] (defScope (tt 17)) := ⟨rfl, rfl, rfl, by decide +kernel, rfl, by decide +kernel, by decide +kernel⟩
theorem ok__law_draw (T : TT fa fn tf ex w K mg base) : Has P w K mg base "_law_draw" 1 ["_law_pen_here", "_law_many"] f__law_draw := by
  refine has_of (N := ["_law_pen_here", "_law_many", "_law_cell", "_law_digit", "_law_mixed"]) (T.wr 2 rfl (List.mem_of_getElem? (i := 4) rfl) (fun _ _ _ _ _ _ us hl => match us, hl with | [_, _], _ => rfl)) sc__law_draw fun f cdv A outer s H E hr => ?_
  have tk : Takes (bX P w K mg base ["_law_pen_here", "_law_many", "_law_cell", "_law_digit", "_law_mixed"] "_law_draw" (defScope (tt 17)) f cdv A outer s H E) (fun cls d _ H' => E cls d H') := takes_of rfl rfl rfl rfl
  exact (ss_cons (s_putM hr.gd (e_op op_dAdd (e_ixM hr.gd (e_var 0) e_str) e_int) (e_var 0) e_str)
    (ss_cons (s_if (c_H (t_and (t_cmp (op_dEq hr.gd) (nomark _) (e_ixM hr.gd (e_var 0) e_str) e_int) (t_and1 (t_cmp op_dLt (nomark _) (e_ixM hr.gd (e_var 0) e_str) (e_callB op_len (by rfl) (T.free (List.mem_of_getElem? (i := 5) rfl)) bt_len (a_cons (e_ixM hr.gd (e_var 0) e_str) a_nil))))).pt)
    (ss_cons (s_setH 2 (sc__law_draw).nd rfl (by first | exact Or.inl rfl | exact Or.inr rfl) (e_ix (e_ixM hr.gd (e_var 0) e_str) (e_ixM hr.gd (e_var 0) e_str)))
    (ss_cons (s_putM hr.gd (e_op op_dAdd (e_ixM hr.gd (e_var 0) e_str) e_int) (e_var 0) e_str)
    (ss_one (s_if (c_H (t_cmp op_dGe (nomark _) (e_var 2) (e_op op_dPow e_int e_int)))
    (ss_one (s_putM hr.gd (e_op op_dSub (e_var 2) (e_op op_dPow e_int e_int)) (e_var 0) e_str))
    (ss_one (s_putM hr.gd (e_op op_dMod (e_callT op_int (by rfl) (T.free (List.mem_of_getElem? (i := 1) rfl)) bt_int (a_cons (e_op op_dAdd (e_op op_dMul (e_ixM hr.gd (e_var 0) e_str) e_int) (e_var 2)) a_nil)) e_int) (e_var 0) e_str))))))
    ss_nil)
    (ss_cons (s_if (c_H (t_cmp op_dGt (nomark _) (e_ixM hr.gd (e_var 0) e_str) e_int))
    (ss_cons (s_setH 3 (sc__law_draw).nd rfl (by first | exact Or.inl rfl | exact Or.inr rfl) (e_op op_dMod (e_callT op_int (by rfl) (T.free (List.mem_of_getElem? (i := 1) rfl)) bt_int (a_cons (e_ixM hr.gd (e_var 0) e_str) a_nil)) (e_var 1)))
    (ss_cons (s_putM hr.gd (e_op op_dFdiv (e_ixM hr.gd (e_var 0) e_str) (e_var 1)) (e_var 0) e_str)
    (ss_one (s_retH (e_var 3)))))
    ss_nil)
    (ss_cons (s_setH 4 (sc__law_draw).nd rfl (by first | exact Or.inl rfl | exact Or.inr rfl) (e_op op_dAdd (e_op op_dAdd (e_ixM hr.gd (e_var 0) e_str) (e_op op_dMul (e_ixM hr.gd (e_var 0) e_str) e_int)) e_int))
    (ss_one (s_retH (e_op op_dMod (e_op op_dFdiv (e_callT op_int (by rfl) (T.free (List.mem_of_getElem? (i := 1) rfl)) bt_int (a_cons (e_op op_dMod (e_op op_dPow (e_var 4) e_int) e_int) a_nil)) e_int) (e_var 1))))))))
theorem sc__law_pick : FnScope ["_law_pen_here", "_law_some"] ["_law_pen_here", "_law_some"] (defScope (tt 18)) := ⟨rfl, rfl, rfl, by decide +kernel, rfl, by decide +kernel, by decide +kernel⟩
theorem ok__law_pick (T : TT fa fn tf ex w K mg base) : Has P w K mg base "_law_pick" 2 ["_law_pen_here", "_law_some"] f__law_pick := by
  refine has_of (N := ["_law_pen_here", "_law_some"]) (T.wr 3 rfl (List.mem_of_getElem? (i := 6) rfl) (fun _ _ _ _ _ _ us hl => match us, hl with | [_, _], _ => rfl)) sc__law_pick fun f cdv A outer s H E hr => ?_
  have tk : Takes (bX P w K mg base ["_law_pen_here", "_law_some"] "_law_pick" (defScope (tt 18)) f cdv A outer s H E) (fun cls d _ H' => E cls d H') := takes_of rfl rfl rfl rfl
  exact (ss_one (s_retH (e_ix (e_var 1) (e_call (ok__law_draw T) hr tk (by rfl) (a_cons (e_var 0) (a_cons (e_callB op_len (by rfl) (T.free (List.mem_of_getElem? (i := 5) rfl)) bt_len (a_cons (e_var 1) a_nil)) a_nil))))))
theorem sc__law_far : FnScope ["_law_pen_here", "_law_found", "_law_k"] ["_law_pen_here"] (defScope (tt 19)) := ⟨rfl, rfl, rfl, by decide +kernel, rfl, by decide +kernel, by decide +kernel⟩
theorem ok__law_far (T : TT fa fn tf ex w K mg base) : Has P w K mg base "_law_far" 3 ["_law_pen_here"] f__law_far := by
  refine has_of (N := ["_law_pen_here", "_law_found", "_law_k"]) (T.wr 4 rfl (List.mem_of_getElem? (i := 7) rfl) (fun _ _ _ _ _ _ us hl => match us, hl with | [_], _ => rfl)) sc__law_far fun f cdv A outer s H E hr => ?_
  have tk : Takes (bX P w K mg base ["_law_pen_here", "_law_found", "_law_k"] "_law_far" (defScope (tt 19)) f cdv A outer s H E) (fun cls d _ H' => E cls d H') := takes_of rfl rfl rfl rfl
  exact (ss_cons (s_setH 1 (sc__law_far).nd rfl (by first | exact Or.inl rfl | exact Or.inr rfl) e_int)
    (ss_cons (s_forH (.nm 2) (passes_of rfl) rfl (i_ofR (i_range1 (by rfl) (T.free (List.mem_of_getElem? (i := 8) rfl)) (a_cons (e_call (ok__law_pick T) hr tk (by rfl) (a_cons (e_var 0) (a_cons (e_lst (a_cons e_int (a_cons e_int (a_cons e_int (a_cons e_int (a_cons e_int a_nil)))))) a_nil))) a_nil))) (pg_name (i := 2) (sc__law_far).nd rfl (by first | exact Or.inl rfl | exact Or.inr rfl))
    (ss_one (s_setH 1 (sc__law_far).nd rfl (by first | exact Or.inl rfl | exact Or.inr rfl) (e_op op_dAdd (e_op op_dMul (e_var 1) e_int) (e_call (ok__law_draw T) hr tk (by rfl) (a_cons (e_var 0) (a_cons e_int a_nil)))))))
    (ss_one (s_retH (e_if (t_cmp op_dGt (nomark _) (e_call (ok__law_draw T) hr tk (by rfl) (a_cons (e_var 0) (a_cons e_int a_nil))) e_int) (e_var 1) (e_un op_dNeg (e_var 1)))))))
theorem sc__law_fields : FnScope ["_law_row", "_law_first"] ["_law_row"] (defScope (tt 22)) := ⟨rfl, rfl, rfl, by decide +kernel, rfl, by decide +kernel, by decide +kernel⟩
theorem ok__law_fields (T : TT fa fn tf ex w K mg base) : Has P w K mg base "_law_fields" 1 ["_law_row"] f__law_fields := by
  refine has_of (N := ["_law_row", "_law_first"]) (T.wr 5 rfl (List.mem_of_getElem? (i := 9) rfl) (fun _ _ _ _ _ _ us hl => match us, hl with | [_], _ => rfl)) sc__law_fields fun f cdv A outer s H E hr => ?_
  have tk : Takes (bX P w K mg base ["_law_row", "_law_first"] "_law_fields" (defScope (tt 22)) f cdv A outer s H E) (fun cls d _ H' => E cls d H') := takes_of rfl rfl rfl rfl
  exact (ss_cons (s_setH 1 (sc__law_fields).nd rfl (by first | exact Or.inl rfl | exact Or.inr rfl) (e_lst (a_cons (e_lst (a_cons (e_xf (cs := ["BadText", "BadLine"]) (xcons (T.xf_BadText "column" (by decide)) (xcons (T.xf_BadLine "column" (by decide)) xnil)) (e_ix (e_var 0) e_int)) a_nil)) (a_cons (e_lst (a_cons (e_xf (cs := ["BadLine"]) (xcons (T.xf_BadLine "line" (by decide)) xnil) (e_ix (e_var 0) e_int)) (a_cons (e_xf (cs := ["BadText", "BadLine"]) (xcons (T.xf_BadText "column" (by decide)) (xcons (T.xf_BadLine "column" (by decide)) xnil)) (e_ix (e_var 0) e_int)) a_nil))) (a_cons (e_lst (a_cons (e_xf (cs := ["BadNumber"]) (xcons (T.xf_BadNumber "what" (by decide)) xnil) (e_ix (e_var 0) e_int)) (a_cons (e_xf (cs := ["BadNumber"]) (xcons (T.xf_BadNumber "number" (by decide)) xnil) (e_ix (e_var 0) e_int)) a_nil))) (a_cons (e_lst (a_cons (e_xf (cs := ["BadRow"]) (xcons (T.xf_BadRow "row" (by decide)) xnil) (e_ix (e_var 0) e_int)) a_nil)) a_nil))))))
    (ss_cons (s_setH 1 (sc__law_fields).nd rfl (by first | exact Or.inl rfl | exact Or.inr rfl) (e_op op_dAdd (e_var 1) (e_lst (a_cons (e_lst (a_cons (e_xf (cs := ["BadName", "NoName", "TakenName"]) (xcons (T.xf_BadName "name" (by decide)) (xcons (T.xf_NoName "name" (by decide)) (xcons (T.xf_TakenName "name" (by decide)) xnil))) (e_ix (e_var 0) e_int)) a_nil)) (a_cons (e_lst (a_cons (e_xf (cs := ["Shared"]) (xcons (T.xf_Shared "plane" (by decide)) xnil) (e_ix (e_var 0) e_int)) a_nil)) (a_cons (e_lst (a_cons (e_xf (cs := ["NoRest"]) (xcons (T.xf_NoRest "place" (by decide)) xnil) (e_ix (e_var 0) e_int)) a_nil)) (a_cons (e_lst a_nil) (a_cons (e_lst (a_cons (e_xf (cs := ["BadName", "NoName", "TakenName"]) (xcons (T.xf_BadName "name" (by decide)) (xcons (T.xf_NoName "name" (by decide)) (xcons (T.xf_TakenName "name" (by decide)) xnil))) (e_ix (e_var 0) e_int)) a_nil)) (a_cons (e_lst (a_cons (e_xf (cs := ["BadName", "NoName", "TakenName"]) (xcons (T.xf_BadName "name" (by decide)) (xcons (T.xf_NoName "name" (by decide)) (xcons (T.xf_TakenName "name" (by decide)) xnil))) (e_ix (e_var 0) e_int)) a_nil)) a_nil)))))))))
    (ss_one (s_retH (e_op op_dAdd (e_var 1) (e_lst (a_cons (e_lst (a_cons (e_xf (cs := ["NotKept"]) (xcons (T.xf_NotKept "promise" (by decide)) xnil) (e_ix (e_var 0) e_int)) (a_cons (e_xf (cs := ["NotKept"]) (xcons (T.xf_NotKept "witness" (by decide)) xnil) (e_ix (e_var 0) e_int)) a_nil))) (a_cons (e_lst a_nil) (a_cons (e_lst a_nil) a_nil)))))))))
theorem sc__law_kinds : FnScope ["_law_e", "_law_first"] ["_law_e"] (defScope (tt 20)) := ⟨rfl, rfl, rfl, by decide +kernel, rfl, by decide +kernel, by decide +kernel⟩
theorem ok__law_kinds (T : TT fa fn tf ex w K mg base) : Has P w K mg base "_law_kinds" 1 ["_law_e"] f__law_kinds := by
  refine has_of (N := ["_law_e", "_law_first"]) (T.wr 6 rfl (List.mem_of_getElem? (i := 10) rfl) (fun _ _ _ _ _ _ us hl => match us, hl with | [_], _ => rfl)) sc__law_kinds fun f cdv A outer s H E hr => ?_
  have tk : Takes (bX P w K mg base ["_law_e", "_law_first"] "_law_kinds" (defScope (tt 20)) f cdv A outer s H E) (fun cls d _ H' => E cls d H') := takes_of rfl rfl rfl rfl
  exact (ss_cons (s_setH 1 (sc__law_kinds).nd rfl (by first | exact Or.inl rfl | exact Or.inr rfl) (e_lst (a_cons (e_callB (op_isx T.own T.isi T.isv) (by rfl) (T.free (List.mem_of_getElem? (i := 12) rfl)) bt_isinstance (a_cons (e_var 0) (a_cons (e_glob (by rfl) (T.glo (List.mem_of_getElem? (i := 15) rfl))) a_nil))) (a_cons (e_callB (op_isx T.own T.isi T.isv) (by rfl) (T.free (List.mem_of_getElem? (i := 12) rfl)) bt_isinstance (a_cons (e_var 0) (a_cons (e_glob (by rfl) (T.glo (List.mem_of_getElem? (i := 14) rfl))) a_nil))) (a_cons (e_callB (op_isx T.own T.isi T.isv) (by rfl) (T.free (List.mem_of_getElem? (i := 12) rfl)) bt_isinstance (a_cons (e_var 0) (a_cons (e_glob (by rfl) (T.glo (List.mem_of_getElem? (i := 13) rfl))) a_nil))) (a_cons (e_callB (op_isx T.own T.isi T.isv) (by rfl) (T.free (List.mem_of_getElem? (i := 12) rfl)) bt_isinstance (a_cons (e_var 0) (a_cons (e_glob (by rfl) (T.glo (List.mem_of_getElem? (i := 11) rfl))) a_nil))) a_nil))))))
    (ss_cons (s_setH 1 (sc__law_kinds).nd rfl (by first | exact Or.inl rfl | exact Or.inr rfl) (e_op op_dAdd (e_var 1) (e_lst (a_cons (e_callB (op_isx T.own T.isi T.isv) (by rfl) (T.free (List.mem_of_getElem? (i := 12) rfl)) bt_isinstance (a_cons (e_var 0) (a_cons (e_glob (by rfl) (T.glo (List.mem_of_getElem? (i := 19) rfl))) a_nil))) (a_cons (e_callB (op_isx T.own T.isi T.isv) (by rfl) (T.free (List.mem_of_getElem? (i := 12) rfl)) bt_isinstance (a_cons (e_var 0) (a_cons (e_glob (by rfl) (T.glo (List.mem_of_getElem? (i := 18) rfl))) a_nil))) (a_cons (e_callB (op_isx T.own T.isi T.isv) (by rfl) (T.free (List.mem_of_getElem? (i := 12) rfl)) bt_isinstance (a_cons (e_var 0) (a_cons (e_glob (by rfl) (T.glo (List.mem_of_getElem? (i := 17) rfl))) a_nil))) (a_cons (e_callB (op_isx T.own T.isi T.isv) (by rfl) (T.free (List.mem_of_getElem? (i := 12) rfl)) bt_isinstance (a_cons (e_var 0) (a_cons (e_glob (by rfl) (T.glo (List.mem_of_getElem? (i := 16) rfl))) a_nil))) a_nil)))))))
    (ss_cons (s_setH 1 (sc__law_kinds).nd rfl (by first | exact Or.inl rfl | exact Or.inr rfl) (e_op op_dAdd (e_var 1) (e_lst (a_cons (e_callB (op_isx T.own T.isi T.isv) (by rfl) (T.free (List.mem_of_getElem? (i := 12) rfl)) bt_isinstance (a_cons (e_var 0) (a_cons (e_glob (by rfl) (T.glo (List.mem_of_getElem? (i := 20) rfl))) a_nil))) a_nil))))
    (ss_cons (s_setH 1 (sc__law_kinds).nd rfl (by first | exact Or.inl rfl | exact Or.inr rfl) (e_op op_dAdd (e_var 1) (e_lst (a_cons (e_callB (op_isx T.own T.isi T.isv) (by rfl) (T.free (List.mem_of_getElem? (i := 12) rfl)) bt_isinstance (a_cons (e_var 0) (a_cons (e_glob (by rfl) (T.glo (List.mem_of_getElem? (i := 22) rfl))) a_nil))) (a_cons (e_callB (op_isx T.own T.isi T.isv) (by rfl) (T.free (List.mem_of_getElem? (i := 12) rfl)) bt_isinstance (a_cons (e_var 0) (a_cons (e_glob (by rfl) (T.glo (List.mem_of_getElem? (i := 21) rfl))) a_nil))) a_nil)))))
    (ss_one (s_retH (e_op op_dAdd (e_var 1) (e_lst (a_cons (e_callB (op_isx T.own T.isi T.isv) (by rfl) (T.free (List.mem_of_getElem? (i := 12) rfl)) bt_isinstance (a_cons (e_var 0) (a_cons (e_glob (by rfl) (T.glo (List.mem_of_getElem? (i := 24) rfl))) a_nil))) (a_cons (e_callB (op_isx T.own T.isi T.isv) (by rfl) (T.free (List.mem_of_getElem? (i := 12) rfl)) bt_isinstance (a_cons (e_var 0) (a_cons (e_glob (by rfl) (T.glo (List.mem_of_getElem? (i := 23) rfl))) a_nil))) a_nil))))))))))
theorem sc_law : FnScope ["_law_script", "_law_pen_here", "_law_given", "_law_k", "_law_far_here", "_law_row", "_law_e", "_law_j", "_law_fields_here", "_law_many"] ["_law_script"] (defScope (tt 23)) := ⟨rfl, rfl, rfl, by decide +kernel, rfl, by decide +kernel, by decide +kernel⟩
theorem ok_law (T : TT fa fn tf ex w K mg base) : Has P w K mg base "law" 4 ["_law_script"] f_law := by
  refine has_of (N := ["_law_script", "_law_pen_here", "_law_given", "_law_k", "_law_far_here", "_law_row", "_law_e", "_law_j", "_law_fields_here", "_law_many"]) (T.wr 7 rfl (List.mem_of_getElem? (i := 25) rfl) (fun _ _ _ _ _ _ us hl => match us, hl with | [_], _ => rfl)) sc_law fun f cdv A outer s H E hr => ?_
  have tk : Takes (bX P w K mg base ["_law_script", "_law_pen_here", "_law_given", "_law_k", "_law_far_here", "_law_row", "_law_e", "_law_j", "_law_fields_here", "_law_many"] "law" (defScope (tt 23)) f cdv A outer s H E) (fun cls d _ H' => E cls d H') := takes_of rfl rfl rfl rfl
  exact (ss_cons (s_setH 1 (sc_law).nd rfl (by first | exact Or.inl rfl | exact Or.inr rfl) (e_call (ok__law_pen T) hr tk (by rfl) (a_cons (e_var 0) a_nil)))
    (ss_cons (s_setFM .h 2 (sc_law).nd rfl (by first | exact Or.inl rfl | exact Or.inr rfl) (f_lst a_nil))
    (ss_cons (s_forH (.nm 3) (passes_of rfl) rfl (i_ofR (i_range1 (by rfl) (T.free (List.mem_of_getElem? (i := 8) rfl)) (a_cons e_int a_nil))) (pg_name (i := 3) (sc_law).nd rfl (by first | exact Or.inl rfl | exact Or.inr rfl))
    (ss_cons (s_setH 4 (sc_law).nd rfl (by first | exact Or.inl rfl | exact Or.inr rfl) (e_call (ok__law_far T) hr tk (by rfl) (a_cons (e_var 1) a_nil)))
    (ss_one (s_appM .h 2 (e_call (ok__law_pick T) hr tk (by rfl) (a_cons (e_var 1) (a_cons (e_lst (a_cons (e_var 4) (a_cons (e_un op_dNeg (e_var 4)) (a_cons (e_op op_dAdd e_str (e_callT op_str (by rfl) (T.free (List.mem_of_getElem? (i := 26) rfl)) bt_str (a_cons (e_var 4) a_nil))) (a_cons e_non (a_cons (e_tup (a_cons (e_var 4) (a_cons e_str a_nil))) (a_cons (e_lst (a_cons (e_var 4) (a_cons e_non a_nil))) (a_cons e_bl (a_cons e_str (a_cons (e_of (f_dic (ks := [.inr "a"]) (p_str (e_var 4) p_nil) (by decide) rfl rfl (by simp) (by decide))) a_nil)))))))))) a_nil)))))))
    (ss_cons (s_setM (.p [2]) 5 (sc_law).nd rfl (by first | exact Or.inl rfl | exact Or.inr rfl) (e_call (ok__law_objects T) hr tk (by rfl) (a_cons (e_ix (e_var 2) e_int) (a_cons (e_ix (e_var 2) e_int) a_nil))))
    (ss_cons (s_forH (.tu [(.nm 3), (.nm 6)]) (passes_of rfl) rfl (i_enum (by rfl) (T.free (List.mem_of_getElem? (i := 27) rfl)) (a_cons (e_var 5) a_nil)) (pg_tup rfl (pgs_cons (pg_name (i := 3) (sc_law).nd rfl (by first | exact Or.inl rfl | exact Or.inr rfl)) (pgs_cons (pg_name (i := 6) (sc_law).nd rfl (by first | exact Or.inl rfl | exact Or.inr rfl)) pgs_nil)))
    (ss_cons (s_if (c_H (t_or (t_not (t_val (e_callB (op_isx T.own T.isi T.isv) (by rfl) (T.free (List.mem_of_getElem? (i := 12) rfl)) bt_isinstance (a_cons (e_var 6) (a_cons (e_glob (by rfl) (T.glo (List.mem_of_getElem? (i := 29) rfl))) a_nil))))) (t_or1 (t_not (t_val (e_callB (op_isx T.own T.isi T.isv) (by rfl) (T.free (List.mem_of_getElem? (i := 12) rfl)) bt_isinstance (a_cons (e_var 6) (a_cons (e_ty (by rfl) (T.free (List.mem_of_getElem? (i := 28) rfl)) bt_ValueError) a_nil))))))).pt)
    (ss_one (s_retH e_bl))
    ss_nil)
    (ss_one (s_if (c_H (t_cmp (op_dNe hr.gd) (nomark _) (e_call (ok__law_kinds T) hr tk (by rfl) (a_cons (e_var 6) a_nil)) (e_of (f_lcN (.nm 7) ([("_law_j", 7)] : List (Str × Nat)) rfl (sc_law).nd (i_ofR (i_range1 (by rfl) (T.free (List.mem_of_getElem? (i := 8) rfl)) (a_cons (e_callB op_len (by rfl) (T.free (List.mem_of_getElem? (i := 5) rfl)) bt_len (a_cons (e_var 5) a_nil)) a_nil))) (blkOk_by (by kernel_rfl)) rfl (fun _ _ _ _ _ => (pg_name (i := 7) (sc_law).nd rfl (by first | exact Or.inl rfl | exact Or.inr rfl))) (fun _ _ _ _ _ => pts_d0) (fun _ _ _ _ _ => (e_cmp (op_dEq hr.gd) (nomark _) (e_var 7) (e_var 3)))))))
    (ss_one (s_retH e_bl))
    ss_nil))))
    (ss_cons (s_forH (.tu [(.nm 8), (.nm 9)]) (passes_of rfl) rfl (i_zip (by rfl) (T.free (List.mem_of_getElem? (i := 30) rfl)) (a_cons (e_call (ok__law_fields T) hr tk (by rfl) (a_cons (e_var 5) a_nil)) (a_cons (e_lst (a_cons e_int (a_cons e_int (a_cons e_int (a_cons e_int (a_cons e_int (a_cons e_int (a_cons e_int (a_cons e_int (a_cons e_int (a_cons e_int (a_cons e_int (a_cons e_int (a_cons e_int a_nil)))))))))))))) a_nil))) (pg_tup rfl (pgs_cons (pg_name (i := 8) (sc_law).nd rfl (by first | exact Or.inl rfl | exact Or.inr rfl)) (pgs_cons (pg_name (i := 9) (sc_law).nd rfl (by first | exact Or.inl rfl | exact Or.inr rfl)) pgs_nil)))
    (ss_one (s_if (c_P [2] (t_cmp (op_dNe hr.gd) (nomark _) (e_callB (op_reprX hr.gd T.nosm) (by rfl) (T.free (List.mem_of_getElem? (i := 31) rfl)) bt_repr (a_cons (e_var 8) a_nil)) (e_callB (op_reprX hr.gd T.nosm) (by rfl) (T.free (List.mem_of_getElem? (i := 31) rfl)) bt_repr (a_cons (e_sl (e_var 2) o_none (o_some (e_var 9))) a_nil))))
    (ss_one (s_retH e_bl))
    ss_nil)))
    (ss_one (s_retH e_bl))))))))
end
end Wk
set_option Elab.async false
set_option linter.all false
set_option maxRecDepth 100000
set_option maxHeartbeats 4000000
namespace Wk
open PySem PySem.Spec PyProof.Rows L2 DX
/-- of at most 2000 bits -/
def Bd (i : Int) : Prop := i.natAbs < 2 ^ 2000
theorem bits_le {i : Int} (h : Bd i) : Builtin.Int.intBits i ≤ 2000 := by
  unfold Builtin.Int.intBits
  split
  · omega
  · rename_i hi
    have h0 : i.natAbs ≠ 0 := by
      intro z
      apply hi
      rw [Int.natAbs_eq_zero.mp z]
      rfl
    have := (Nat.log2_lt h0).mpr h
    omega
theorem mul_bd {i j : Int} (hi : Bd i) (hj : Bd j) : mulB i j = true := by
  have h1 := bits_le hi
  have h2 := bits_le hj
  have h3 : Builtin.Int.intTooBig (Builtin.Int.intBits i + Builtin.Int.intBits j) = false := by
    unfold Builtin.Int.intTooBig
    apply decide_eq_false
    unfold bitsLine
    omega
  unfold mulB
  rw [h3, Bool.and_false]
  rfl
theorem div_bd {i j : Int} (hj : Bd j) : Builtin.divisionGoesByPylong i j = false := by
  unfold Builtin.divisionGoesByPylong
  have h : (if (j == 0) = true then 0 else j.natAbs.log2 / 30 + 1) ≤ 300 := by
    split
    · omega
    · rename_i hi
      have h0 : j.natAbs ≠ 0 := by
        intro z
        apply hi
        rw [Int.natAbs_eq_zero.mp z]
        rfl
      have := (Nat.log2_lt h0).mpr hj
      omega
  have : decide ((if (j == 0) = true then 0 else j.natAbs.log2 / 30 + 1) > 300) = false := decide_eq_false (by omega)
  simp only [this, Bool.false_and]
theorem fmod_dec {a b : Int} (h : b ≠ 0) : (a.fmod b).natAbs < b.natAbs := by
  rcases Int.lt_or_gt_of_ne h with h | h
  · have h1 := Int.fmod_nonneg_of_pos (-a) (b := -b) (by omega)
    have h2 := Int.fmod_lt_of_pos (-a) (b := -b) (by omega)
    rw [Int.neg_fmod_neg] at h1 h2
    omega
  · have h1 := Int.fmod_nonneg_of_pos a h
    have h2 := Int.fmod_lt_of_pos a h
    omega
theorem gcd_fmod (a b : Int) : Int.gcd b (a.fmod b) = Int.gcd a b := by
  rw [Int.fmod_def, Int.gcd_sub_mul_left_right, Int.gcd_comm]
theorem dEq_ii (neg : Bool) (i j : Int) : dEq neg (.int i) (.int j) = some (.bl (neg != decide (i = j))) := by
  unfold dEq
  simp only [toPy]
  rw [if_pos (by constructor <;> rfl)]
  congr 3
theorem abs_nat (i : Int) : (if i < 0 then -i else i) = (i.natAbs : Int) := by split <;> omega
/-- a ratio as told -/
def rD (q : Rat) : D := .tup [.int q.num, .int q.den]
theorem gcd_pos {a b : Int} (h : b ≠ 0) : 0 < ((Int.gcd a b : Nat) : Int) := by
  have := Int.gcd_pos_of_ne_zero_right a h
  omega
theorem gcd_bd {a b : Int} (h : b ≠ 0) (hb : Bd b) : Bd ((Int.gcd a b : Nat) : Int) := by
  unfold Bd at *
  have h1 : Int.gcd a b ∣ b.natAbs := Int.gcd_dvd_natAbs_right a b
  have h2 := Nat.le_of_dvd (by omega) h1
  omega
theorem bd_neg {a : Int} (h : Bd a) : Bd (-a) := by unfold Bd at *; omega
theorem low_num {a b : Int} (h : b ≠ 0) : a.fdiv (if b > 0 then ((Int.gcd a b : Nat) : Int) else -((Int.gcd a b : Nat) : Int)) = (Rat.divInt a b).num := by
  have g := gcd_pos (a := a) h
  obtain ⟨k, hk⟩ := Int.gcd_dvd_left a b
  rw [Rat.num_divInt, Int.gcd_comm b a]
  generalize hg : ((Int.gcd a b : Nat) : Int) = G at *
  have hg0 : G ≠ 0 := by omega
  rcases Int.lt_or_gt_of_ne h with hb | hb
  · rw [if_neg (by omega), Int.sign_eq_neg_one_of_neg hb, hk]
    have e1 : (G * k).fdiv (-G) = -k := by
      rw [show G * k = (-k) * (-G) by rw [Int.neg_mul_neg, Int.mul_comm]]
      exact Int.mul_fdiv_cancel _ (by omega)
    have e2 : (-1 * (G * k)) / G = -k := by
      rw [show -1 * (G * k) = (-k) * G by rw [Int.neg_mul, Int.neg_mul, Int.one_mul, Int.mul_comm]]
      exact Int.mul_ediv_cancel _ hg0
    rw [e1, e2]
  · rw [if_pos hb, Int.sign_eq_one_of_pos hb, Int.one_mul, hk]
    rw [Int.mul_comm G k, Int.mul_fdiv_cancel _ hg0, Int.mul_ediv_cancel _ hg0]
theorem low_den {a b : Int} (h : b ≠ 0) : b.fdiv (if b > 0 then ((Int.gcd a b : Nat) : Int) else -((Int.gcd a b : Nat) : Int)) = ((Rat.divInt a b).den : Int) := by
  have g := gcd_pos (a := a) h
  obtain ⟨k, hk⟩ := Int.gcd_dvd_right a b
  rw [Rat.den_divInt, if_neg h, Int.gcd_comm b a, Int.natCast_ediv]
  generalize hg : ((Int.gcd a b : Nat) : Int) = G at *
  have hg0 : G ≠ 0 := by omega
  rcases Int.lt_or_gt_of_ne h with hb | hb
  · rw [if_neg (by omega), show ((b.natAbs : Nat) : Int) = -b by omega, hk]
    have e1 : (G * k).fdiv (-G) = -k := by
      rw [show G * k = (-k) * (-G) by rw [Int.neg_mul_neg, Int.mul_comm]]
      exact Int.mul_fdiv_cancel _ (by omega)
    have e2 : (-(G * k)) / G = -k := by
      rw [show -(G * k) = (-k) * G by rw [Int.neg_mul, Int.mul_comm]]
      exact Int.mul_ediv_cancel _ hg0
    rw [e1, e2]
  · rw [if_pos hb, show ((b.natAbs : Nat) : Int) = b by omega, hk]
    rw [Int.mul_comm G k, Int.mul_fdiv_cancel _ hg0, Int.mul_ediv_cancel _ hg0]
def foK (r : SR) (i : Nat) (b : Sm) (ds : List D) : SR := match r with
  | .nx ρ μ => sForN (.nm i) b ds ρ μ
  | .ct ρ μ => sForN (.nm i) b ds ρ μ
  | .bk ρ μ => .nx ρ μ
  | r => r
theorem for_cons (i : Nat) (b : Sm) (d : D) (ds : List D) (ρ : DX.Env) (μ : List Mob) : sForN (.nm i) b (d :: ds) ρ μ = foK (b (ρ.set i (.fr d)) μ) i b ds := by
  show (match b (ρ.set i (.fr d)) μ with | .nx ρ2 μ2 => _ | .ct ρ2 μ2 => _ | .bk ρ2 μ2 => _ | .rt d μ2 => _ | .exc c fs ρ2 μ2 => _ | .stuck => _) = _
  unfold foK
  cases b (ρ.set i (.fr d)) μ <;> rfl
theorem for_nil (p : Pat) (b : Sm) (ρ : DX.Env) (μ : List Mob) : sForN p b [] ρ μ = .nx ρ μ := rfl
theorem foK_nx (i : Nat) (b : Sm) (ds : List D) (ρ : DX.Env) (μ : List Mob) : foK (.nx ρ μ) i b ds = sForN (.nm i) b ds ρ μ := rfl
theorem foK_bk (i : Nat) (b : Sm) (ds : List D) (ρ : DX.Env) (μ : List Mob) : foK (.bk ρ μ) i b ds = .nx ρ μ := rfl
theorem foK_rt (i : Nat) (b : Sm) (ds : List D) (d : D) (μ : List Mob) : foK (.rt d μ) i b ds = .rt d μ := rfl
theorem gcd_abs (a b : Int) : Int.gcd (a.natAbs : Int) (b.natAbs : Int) = Int.gcd a b := by simp [Int.gcd]
theorem rng_len (lo : Int) (n : Nat) : (rngD lo n).length = n := by unfold rngD; rw [List.length_map, List.length_range]
theorem rng_eq (j : Int) (h : -(2 ^ 62) ≤ j ∧ j < 2 ^ 62) : dRng1 [.int j] = some (rngD 0 j.toNat) := if_pos h
def Sz (n : Nat) (i : Int) : Prop := i.natAbs < 2 ^ n
theorem Sz.mono {n m : Nat} {i : Int} (h : Sz n i) (k : n ≤ m) : Sz m i := Nat.lt_of_lt_of_le h (Nat.pow_le_pow_right (by decide) k)
theorem Sz.bd {n : Nat} {i : Int} (h : Sz n i) (k : n ≤ 2000) : Bd i := h.mono k
theorem Sz.mul {n m : Nat} {i j : Int} (h : Sz n i) (k : Sz m j) : Sz (n + m) (i * j) := by
  unfold Sz at *
  rw [Int.natAbs_mul, Nat.pow_add]
  exact Nat.mul_lt_mul'' h k
theorem Sz.add {n : Nat} {i j : Int} (h : Sz n i) (k : Sz n j) : Sz (n + 1) (i + j) := by
  unfold Sz at *
  have := Int.natAbs_add_le i j
  rw [Nat.pow_succ]
  omega
theorem Sz.neg {n : Nat} {i : Int} (h : Sz n i) : Sz n (-i) := by unfold Sz at *; omega
theorem Sz.sub {n : Nat} {i j : Int} (h : Sz n i) (k : Sz n j) : Sz (n + 1) (i - j) := by rw [Int.sub_eq_add_neg]; exact h.add k.neg
structure Rs (k : Nat) (q : Rat) : Prop where
  n : Sz k q.num
  d : Sz k (q.den : Int)
theorem Rs.mono {n m : Nat} {q : Rat} (h : Rs n q) (k : n ≤ m) : Rs m q := ⟨h.n.mono k, h.d.mono k⟩
theorem natAbs_ediv_le (a : Int) (g : Nat) (hg : 0 < g) (hd : (g : Int) ∣ a) : (a / (g : Int)).natAbs ≤ a.natAbs := by
  obtain ⟨k, rfl⟩ := hd
  rw [Int.mul_comm, Int.mul_ediv_cancel _ (by omega), Int.natAbs_mul]
  simp only [Int.natAbs_natCast]
  exact Nat.le_mul_of_pos_right _ hg
theorem Rs.of {n : Nat} {a b : Int} (hb : b ≠ 0) (h1 : Sz n a) (h2 : Sz n b) : Rs n (Rat.divInt a b) := by
  have g : 0 < Int.gcd b a := Int.gcd_pos_of_ne_zero_left a hb
  constructor
  · unfold Sz at *
    rw [Rat.num_divInt]
    refine Nat.lt_of_le_of_lt (natAbs_ediv_le _ _ g ?_) ?_
    · exact Int.dvd_mul_of_dvd_right (Int.gcd_dvd_right b a)
    · rw [Int.natAbs_mul]
      have : b.sign.natAbs ≤ 1 := by rw [Int.natAbs_sign]; split <;> omega
      have : b.sign.natAbs * a.natAbs ≤ 1 * a.natAbs := Nat.mul_le_mul_right _ this
      omega
  · unfold Sz at *
    rw [Rat.den_divInt, if_neg hb]
    simp only [Int.natAbs_natCast]
    exact Nat.lt_of_le_of_lt (Nat.div_le_self _ _) h2
theorem mul_small {i j : Int} (h : Builtin.Int.intBits j ≤ 64) : mulB i j = true := by
  unfold mulB
  have : decide (Builtin.Int.intBits j > shortFactorBits) = false := decide_eq_false (by unfold shortFactorBits; omega)
  rw [this, Bool.and_false, Bool.false_and]
  rfl
theorem dPow_ii (i j : Int) (h : 0 ≤ j ∧ j ≤ 1000000 ∧ i.natAbs < 2 ^ 64) : dPow (.int i) (.int j) = some (.int (i ^ j.toNat)) := if_pos h
theorem dLen_l (xs : List D) : dLen (.lst xs) = some (.int xs.length) := rfl
theorem at_mem {xs : List D} {v : Int} (h1 : 0 ≤ v) (h2 : v < (xs.length : Int)) : ∃ d ∈ xs, atI xs v = some d := by
  obtain ⟨n, rfl⟩ := Int.eq_ofNat_of_zero_le h1
  have hn : n < xs.length := by omega
  refine ⟨xs[n], List.getElem_mem hn, ?_⟩
  unfold atI ixN
  rw [if_pos (by omega), if_pos (by omega)]
  show xs[(n : Int).toNat]? = _
  simp [hn]
theorem dLst_5 (a b c d e : D) : dLst [a, b, c, d, e] = some (.lst [a, b, c, d, e]) := rfl
theorem den_pos (q : Rat) : 0 < (q.den : Int) := by have := q.den_pos; omega
theorem dLst_4 (a b c d : D) : dLst [a, b, c, d] = some (.lst [a, b, c, d]) := rfl
theorem rD_int (q : Rat) (h : q.den = 1) : D.tup [.int q.num, .int 1] = rD q := by unfold rD; rw [h]; rfl
def plR (p q : Rat) : Rat := Rat.divInt (p.num * q.den + q.num * p.den) (p.den * q.den)
def miR (p q : Rat) : Rat := Rat.divInt (p.num * q.den - q.num * p.den) (p.den * q.den)
def tiR (p q : Rat) : Rat := Rat.divInt (p.num * q.num) (p.den * q.den)
def shR (p q : Rat) : Rat := Rat.divInt (p.num * q.den) (p.den * q.num)
theorem ok_of (s : String) : PyData.strOk (Str.ofString s) = true := by
  unfold PyData.strOk
  rw [PySem.Str.ofString_eq_toList]
  rw [Array.all_eq_true_iff_forall_mem]
  intro c hc
  simp only [List.mem_toArray, List.mem_map] at hc
  obtain ⟨ch, _, rfl⟩ := hc
  apply decide_eq_true
  have := ch.valid
  unfold UInt32.isValidChar Nat.isValidChar at this
  show ch.val.toNat < 1114112
  omega
theorem ok_app {x y : Str} (hx : PyData.strOk x = true) (hy : PyData.strOk y = true) : PyData.strOk (x ++ y) = true := by
  unfold PyData.strOk at *
  rw [Str.cps_append, Array.all_append, hx, hy]
  rfl
theorem log_of {n : Nat} {i : Int} (h : Sz n i) (hn : 0 < n) : i.natAbs.log2 < n := by
  by_cases h0 : i.natAbs = 0
  · rw [h0]; simpa using hn
  · exact (Nat.log2_lt h0).mpr h
theorem str_len {i : Int} (h : Sz 700 i) : (toString i : Str).length ≤ 701 := by
  show (Str.ofString (toString i)).length ≤ 701
  rw [PySem.ofString_length]
  exact int_text_length_le (by decide) (log_of h (by decide))
theorem dEq_ss (neg : Bool) (x y : Str) (hx : PyData.strOk x = true) (hy : PyData.strOk y = true) : dEq neg (.str x) (.str y) = some (.bl (neg != decide (x = y))) := by
  unfold dEq
  simp only [toPy]
  have sx : SeqAt.shaped (.str x) = true := by
    unfold SeqAt.shaped
    simp only [PyData.canLay0, hx, PyData.depth]
    rfl
  have sy : SeqAt.shaped (.str y) = true := by
    unfold SeqAt.shaped
    simp only [PyData.canLay0, hy, PyData.depth]
    rfl
  rw [if_pos ⟨sx, sy⟩]
  congr 3
theorem dStr_i {i : Int} (h : Sz 700 i) : dStr (.int i) = some (.str (toString i)) := if_pos (by have := log_of h (by decide); omega)
theorem dAdd_ss (x y : Str) (h : x.length + y.length ≤ 16777216) : dAdd (.str x) (.str y) = some (.str (x ++ y)) := if_pos h
theorem floor_le (q : Rat) : q.num.fdiv q.den * q.den ≤ q.num ∧ q.num < (q.num.fdiv q.den + 1) * q.den := by
  have hp := den_pos q
  have h := Int.fdiv_mul_add_fmod q.num q.den
  have h1 := Int.fmod_nonneg_of_pos q.num hp
  have h2 := Int.fmod_lt_of_pos q.num hp
  rw [Int.add_mul, Int.one_mul]
  omega
def tyK (r : SR) (sub : Str → Str → Option Bool) (cl : List (Str × Option Nat × Sm)) : SR := match r with
  | .exc c fs ρ μ => hdl sub c fs cl ρ μ
  | r => r
theorem ev_try (sub : Str → Str → Option Bool) (m : Sm) (cl : List (Str × Option Nat × Sm)) (ρ : DX.Env) (μ : List Mob) : sTry sub m cl ρ μ = tyK (m ρ μ) sub cl := by unfold sTry tyK; cases m ρ μ <;> rfl
theorem tyK_exc (c : Str) (fs : List (Str × D)) (ρ : DX.Env) (μ : List Mob) (sub : Str → Str → Option Bool) (cl : List (Str × Option Nat × Sm)) : tyK (.exc c fs ρ μ) sub cl = hdl sub c fs cl ρ μ := rfl
theorem hdl_no {sub : Str → Str → Option Bool} {c x : Str} (h : sub c x = some false) (fs : List (Str × D)) (oi : Option Nat) (b : Sm) (cl : List (Str × Option Nat × Sm)) (ρ : DX.Env) (μ : List Mob) : hdl sub c fs ((x, oi, b) :: cl) ρ μ = hdl sub c fs cl ρ μ := by
  show (match sub c x with | some true => _ | some false => _ | none => _) = _
  rw [h]
theorem hdl_yes {sub : Str → Str → Option Bool} {c x : Str} (h : sub c x = some true) (fs : List (Str × D)) (i : Nat) (b : Sm) (cl : List (Str × Option Nat × Sm)) (ρ : DX.Env) (μ : List Mob) : hdl sub c fs ((x, some i, b) :: cl) ρ μ = cutR (some i) (b (ρ.set i (.fr (.exn c fs))) μ) := by
  show (match sub c x with | some true => _ | some false => _ | none => _) = _
  rw [h]
  rfl
theorem cutR_rt (oi : Option Nat) (d : D) (μ : List Mob) : cutR oi (.rt d μ) = .rt d μ := rfl
theorem callL1 (L : D) (th : M D) (ρ : Env') : callL L 0 th (some L :: ρ) = th := if_pos rfl
theorem dEq_3 (neg : Bool) (x y z : Str) (hx : PyData.strOk x = true) (hy : PyData.strOk y = true) (hz : PyData.strOk z = true) : dEq neg (.tup [.str x, .str y, .str z]) (.tup [.str x, .str y, .str z]) = some (.bl (!neg)) := by
  unfold dEq
  simp only [toPy, toPyAll]
  have sx : SeqAt.shaped (.tuple [.str x, .str y, .str z]) = true := by
    unfold SeqAt.shaped
    simp only [PyData.canLay0, PyData.canLayAll0, hx, hy, hz, PyData.depth, PyData.depthAll]
    rfl
  show (if SeqAt.shaped (.tuple [.str x, .str y, .str z]) = true ∧ SeqAt.shaped (.tuple [.str x, .str y, .str z]) = true then _ else _) = _
  rw [if_pos ⟨sx, sx⟩]
  have : PyData.eqv (.tuple [.str x, .str y, .str z]) (.tuple [.str x, .str y, .str z]) = true := by simp [PyData.eqv, PyData.eqvAll]
  rw [this]
  cases neg <;> rfl
theorem dLst_of (xs : List D) (h : xs.length ≤ 16777216) : dLst xs = some (.lst xs) := if_pos h
end Wk
set_option Elab.async false
set_option linter.all false
set_option maxRecDepth 100000
set_option maxHeartbeats 4000000
namespace Wk
open PySem PySem.Spec PyProof.Rows L2 DX
structure Pen where
  cells : List Int
  at_ : Nat
  digits : Int
  count : Int
  fold : Int
def penM (p : Pen) : Mob := .dic [(.inr "cells", .lst (p.cells.map .int)), (.inr "at", .int p.at_), (.inr "digits", .int p.digits), (.inr "count", .int p.count), (.inr "fold", .int p.fold)]
theorem ix_cells (p : Pen) : dIxM (.hnd 0) (.str "cells") [penM p] = .ok (.lst (p.cells.map .int)) [penM p] := rfl
theorem ix_at (p : Pen) : dIxM (.hnd 0) (.str "at") [penM p] = .ok (.int p.at_) [penM p] := rfl
theorem ix_digits (p : Pen) : dIxM (.hnd 0) (.str "digits") [penM p] = .ok (.int p.digits) [penM p] := rfl
theorem ix_count (p : Pen) : dIxM (.hnd 0) (.str "count") [penM p] = .ok (.int p.count) [penM p] := rfl
theorem ix_fold (p : Pen) : dIxM (.hnd 0) (.str "fold") [penM p] = .ok (.int p.fold) [penM p] := rfl
theorem put_at (p : Pen) (n : Nat) : dPutM (.int ((n : Nat) : Int)) (.hnd 0) (.str "at") [penM p] = .ok () [penM { p with at_ := n }] := rfl
theorem put_digits (p : Pen) (i : Int) : dPutM (.int i) (.hnd 0) (.str "digits") [penM p] = .ok () [penM { p with digits := i }] := rfl
theorem put_count (p : Pen) (i : Int) : dPutM (.int i) (.hnd 0) (.str "count") [penM p] = .ok () [penM { p with count := i }] := rfl
theorem put_fold (p : Pen) (i : Int) : dPutM (.int i) (.hnd 0) (.str "fold") [penM p] = .ok () [penM { p with fold := i }] := rfl
structure PenOk (n : Nat) (p : Pen) : Prop where
  d : 0 ≤ p.digits
  f : 0 ≤ p.fold ∧ p.fold < 2147483648
  c : 0 ≤ p.count ∧ p.count + n < 1000000000000
theorem PenOk.less {n m : Nat} {p : Pen} (h : PenOk n p) (k : m ≤ n) : PenOk m p := ⟨h.d, h.f, h.c.1, by have := h.c.2; omega⟩
theorem ix_cell (cs : List Int) (n : Nat) (h : n < cs.length) : ∃ c, dIx (.lst (cs.map .int)) (.int ((n : Nat) : Int)) = some (.int c) := by
  refine ⟨cs[n], ?_⟩
  show atI _ _ = _
  unfold atI ixN
  rw [if_pos (by omega), if_pos (by simp; omega)]
  simp [h]
theorem draw_eq (p : Pen) (n : Nat) (h : PenOk (n + 1) p) (many : Int) (hm : 0 < many) (hb : Bd many) :
    ∃ v p', f__law_draw [.hnd 0, .int many] [penM p] = .ok (.int v) [penM p'] ∧ 0 ≤ v ∧ v < many ∧ PenOk n p' := by
  obtain ⟨hd, hf, hc⟩ := h
  have h0 : many ≠ 0 := by omega
  have m1 : ∀ i : Int, mulB i 7907 = true := fun i => mul_small (by decide)
  have m2 : ∀ i : Int, mulB i 69069 = true := fun i => mul_small (by decide)
  have p1 : dPow (.int 10) (.int 18) = some (.int 1000000000000000000) := by rw [dPow_ii 10 18 (by decide)]; rfl
  have n1 : (2147483587 : Int) ≠ 0 := by decide
  have n2 : (2305843009213693951 : Int) ≠ 0 := by decide
  have n3 : (128 : Int) ≠ 0 := by decide
  have pw : ∀ (c f : Int), 0 ≤ f → f < 2147483648 → 0 ≤ c → c < 1000000000000 → dPow (.int (f + c * 7907 + 43)) (.int 17) = some (.int ((f + c * 7907 + 43) ^ 17)) := fun c f h1 h2 h3 h4 => dPow_ii _ 17 ⟨by decide, by decide, by omega⟩
  have dv : ∀ i : Int, Builtin.divisionGoesByPylong i 128 = false := fun i => div_bd (by unfold Bd; decide)
  have dm : ∀ i : Int, Builtin.divisionGoesByPylong i many = false := fun i => div_bd hb
  have fm : ∀ i : Int, 0 ≤ i.fmod many ∧ i.fmod many < many := fun i => ⟨Int.fmod_nonneg_of_pos _ hm, Int.fmod_lt_of_pos _ hm⟩
  have f7 : ∀ i : Int, 0 ≤ i.fmod 2147483587 ∧ i.fmod 2147483587 < 2147483648 := fun i => ⟨Int.fmod_nonneg_of_pos _ (by decide), by have := Int.fmod_lt_of_pos i (b := 2147483587) (by decide); omega⟩
  have ec : ((p.at_ : Nat) : Int) + 1 = ((p.at_ + 1 : Nat) : Int) := by omega
  by_cases hz : p.digits = 0
  · have e0 : decide (p.digits = 0) = true := decide_eq_true hz
    have e0' : decide (p.digits > 0) = false := decide_eq_false (by omega)
    by_cases hl : p.at_ < p.cells.length
    · obtain ⟨cv, hcv⟩ := ix_cell p.cells p.at_ hl
      have e1 : decide (((p.at_ : Nat) : Int) < (((p.cells.map D.int).length : Nat) : Int)) = true := decide_eq_true (by rw [List.length_map]; omega)
      by_cases hc18 : cv ≥ 1000000000000000000
      · have e2 : decide (cv ≥ 1000000000000000000) = true := decide_eq_true hc18
        by_cases hd2 : cv - 1000000000000000000 > 0
        · have e3 : decide (cv - 1000000000000000000 > 0) = true := decide_eq_true hd2
          refine ⟨(cv - 1000000000000000000).fmod many, { p with count := p.count + 1, at_ := p.at_ + 1, digits := (cv - 1000000000000000000).fdiv many }, ?_, (fm _).1, (fm _).2, ⟨Int.fdiv_nonneg (by omega) (by omega), hf, ⟨by show 0 ≤ p.count + 1; omega, by show p.count + 1 + n < _; omega⟩⟩⟩
          simp -implicitDefEqProofs only [Bool.false_bne, Bool.true_bne, decide_true, decide_false, ev_bind, bK_ok, bK_exc, bK_stuck, ev_pure, ev_lift, ev_lift0, ev_stuck, ev_ite, ev_var0, ev_varS, vH_fr, vH_un, vH_ow, vH_nil, ev_seq, sqK_nx, sqK_rt, sqK_bk, sqK_ct, sqK_exc, ev_nx, ev_sH, hK_ok, hK_exc, ev_set, stK_ok, stK_exc, ev_par2, p2K_ok, p2K_exc, ev_tup, tuK_2, tuK_3, tuK_exc, ev_if, ifK_ok, ifK_exc, ev_raise, raK_1, raK_2, endK_rt, endK_nx, endK_exc, ev_body0, ev_body1, ev_body2, ev_body3, dAdd_ii, dSub_ii, dNeg_i, dLt_ii, dLe_ii, dGt_ii, dGe_ii, dAbs_i, dInt_i, d1_, dTru_bl, asB_bl, obind, omapB, dTup_1, dTup_2, dTup_3, dLst_2, dIx_t0, dIx_t1, dIx_l0, dIx_l1, List.replicate_succ, List.replicate_zero, Nat.reduceSub, Nat.reduceAdd, List.set_cons_zero, List.set_cons_succ, if_true, if_false, Bool.false_eq_true, Bool.true_eq_false, Bool.not_true, Bool.not_false, ite_true, ite_false, f__law_draw, sPutM, ix_cells, ix_at, ix_digits, ix_count, ix_fold, put_count, put_at, put_digits, put_fold, dEq_ii, e0, dLen_l, e1, hcv, p1, e2, e3, ec, dMod_ii _ _ h0, dFdiv_ii _ _ h0 (dm _)]
        · have e3 : decide (cv - 1000000000000000000 > 0) = false := decide_eq_false hd2
          refine ⟨(((((p.fold + (p.count + 1) * 7907 + 43) ^ 17).fmod 2305843009213693951).fdiv 128).fmod many), { p with count := p.count + 1, at_ := p.at_ + 1, digits := cv - 1000000000000000000 }, ?_, (fm _).1, (fm _).2, ⟨by show 0 ≤ cv - _; omega, hf, ⟨by show 0 ≤ p.count + 1; omega, by show p.count + 1 + n < _; omega⟩⟩⟩
          simp -implicitDefEqProofs only [Bool.false_bne, Bool.true_bne, decide_true, decide_false, ev_bind, bK_ok, bK_exc, bK_stuck, ev_pure, ev_lift, ev_lift0, ev_stuck, ev_ite, ev_var0, ev_varS, vH_fr, vH_un, vH_ow, vH_nil, ev_seq, sqK_nx, sqK_rt, sqK_bk, sqK_ct, sqK_exc, ev_nx, ev_sH, hK_ok, hK_exc, ev_set, stK_ok, stK_exc, ev_par2, p2K_ok, p2K_exc, ev_tup, tuK_2, tuK_3, tuK_exc, ev_if, ifK_ok, ifK_exc, ev_raise, raK_1, raK_2, endK_rt, endK_nx, endK_exc, ev_body0, ev_body1, ev_body2, ev_body3, dAdd_ii, dSub_ii, dNeg_i, dLt_ii, dLe_ii, dGt_ii, dGe_ii, dAbs_i, dInt_i, d1_, dTru_bl, asB_bl, obind, omapB, dTup_1, dTup_2, dTup_3, dLst_2, dIx_t0, dIx_t1, dIx_l0, dIx_l1, List.replicate_succ, List.replicate_zero, Nat.reduceSub, Nat.reduceAdd, List.set_cons_zero, List.set_cons_succ, if_true, if_false, Bool.false_eq_true, Bool.true_eq_false, Bool.not_true, Bool.not_false, ite_true, ite_false, f__law_draw, sPutM, ix_cells, ix_at, ix_digits, ix_count, ix_fold, put_count, put_at, put_digits, put_fold, dEq_ii, e0, dLen_l, e1, hcv, p1, e2, e3, ec, dMul_ii _ _ (m1 _), pw (p.count + 1) p.fold hf.1 hf.2 (by omega) (by omega), dMod_ii _ _ n2, dFdiv_ii _ _ n3 (dv _), dMod_ii _ _ h0]
      · have e2 : decide (cv ≥ 1000000000000000000) = false := decide_eq_false hc18
        have hf2 := f7 (p.fold * 69069 + cv)
        refine ⟨((((((p.fold * 69069 + cv).fmod 2147483587 + (p.count + 1) * 7907 + 43) ^ 17).fmod 2305843009213693951).fdiv 128).fmod many), { p with count := p.count + 1, at_ := p.at_ + 1, fold := (p.fold * 69069 + cv).fmod 2147483587 }, ?_, (fm _).1, (fm _).2, ⟨hd, hf2, ⟨by show 0 ≤ p.count + 1; omega, by show p.count + 1 + n < _; omega⟩⟩⟩
        simp -implicitDefEqProofs only [Bool.false_bne, Bool.true_bne, decide_true, decide_false, ev_bind, bK_ok, bK_exc, bK_stuck, ev_pure, ev_lift, ev_lift0, ev_stuck, ev_ite, ev_var0, ev_varS, vH_fr, vH_un, vH_ow, vH_nil, ev_seq, sqK_nx, sqK_rt, sqK_bk, sqK_ct, sqK_exc, ev_nx, ev_sH, hK_ok, hK_exc, ev_set, stK_ok, stK_exc, ev_par2, p2K_ok, p2K_exc, ev_tup, tuK_2, tuK_3, tuK_exc, ev_if, ifK_ok, ifK_exc, ev_raise, raK_1, raK_2, endK_rt, endK_nx, endK_exc, ev_body0, ev_body1, ev_body2, ev_body3, dAdd_ii, dSub_ii, dNeg_i, dLt_ii, dLe_ii, dGt_ii, dGe_ii, dAbs_i, dInt_i, d1_, dTru_bl, asB_bl, obind, omapB, dTup_1, dTup_2, dTup_3, dLst_2, dIx_t0, dIx_t1, dIx_l0, dIx_l1, List.replicate_succ, List.replicate_zero, Nat.reduceSub, Nat.reduceAdd, List.set_cons_zero, List.set_cons_succ, if_true, if_false, Bool.false_eq_true, Bool.true_eq_false, Bool.not_true, Bool.not_false, ite_true, ite_false, f__law_draw, sPutM, ix_cells, ix_at, ix_digits, ix_count, ix_fold, put_count, put_at, put_digits, put_fold, dEq_ii, e0, e0', dLen_l, e1, hcv, p1, e2, ec, dMul_ii _ _ (m1 _), dMul_ii _ _ (m2 _), pw (p.count + 1) _ hf2.1 hf2.2 (by omega) (by omega), dMod_ii _ _ n1, dMod_ii _ _ n2, dFdiv_ii _ _ n3 (dv _), dMod_ii _ _ h0]
    · have e1 : decide (((p.at_ : Nat) : Int) < (((p.cells.map D.int).length : Nat) : Int)) = false := decide_eq_false (by rw [List.length_map]; omega)
      refine ⟨(((((p.fold + (p.count + 1) * 7907 + 43) ^ 17).fmod 2305843009213693951).fdiv 128).fmod many), { p with count := p.count + 1 }, ?_, (fm _).1, (fm _).2, ⟨hd, hf, ⟨by show 0 ≤ p.count + 1; omega, by show p.count + 1 + n < _; omega⟩⟩⟩
      simp -implicitDefEqProofs only [Bool.false_bne, Bool.true_bne, decide_true, decide_false, ev_bind, bK_ok, bK_exc, bK_stuck, ev_pure, ev_lift, ev_lift0, ev_stuck, ev_ite, ev_var0, ev_varS, vH_fr, vH_un, vH_ow, vH_nil, ev_seq, sqK_nx, sqK_rt, sqK_bk, sqK_ct, sqK_exc, ev_nx, ev_sH, hK_ok, hK_exc, ev_set, stK_ok, stK_exc, ev_par2, p2K_ok, p2K_exc, ev_tup, tuK_2, tuK_3, tuK_exc, ev_if, ifK_ok, ifK_exc, ev_raise, raK_1, raK_2, endK_rt, endK_nx, endK_exc, ev_body0, ev_body1, ev_body2, ev_body3, dAdd_ii, dSub_ii, dNeg_i, dLt_ii, dLe_ii, dGt_ii, dGe_ii, dAbs_i, dInt_i, d1_, dTru_bl, asB_bl, obind, omapB, dTup_1, dTup_2, dTup_3, dLst_2, dIx_t0, dIx_t1, dIx_l0, dIx_l1, List.replicate_succ, List.replicate_zero, Nat.reduceSub, Nat.reduceAdd, List.set_cons_zero, List.set_cons_succ, if_true, if_false, Bool.false_eq_true, Bool.true_eq_false, Bool.not_true, Bool.not_false, ite_true, ite_false, f__law_draw, sPutM, ix_cells, ix_at, ix_digits, ix_count, ix_fold, put_count, put_at, put_digits, put_fold, dEq_ii, e0, e0', dLen_l, e1, dMul_ii _ _ (m1 _), pw (p.count + 1) p.fold hf.1 hf.2 (by omega) (by omega), dMod_ii _ _ n2, dFdiv_ii _ _ n3 (dv _), dMod_ii _ _ h0]
  · have e0 : decide (p.digits = 0) = false := decide_eq_false hz
    have e0' : decide (p.digits > 0) = true := decide_eq_true (by omega)
    refine ⟨p.digits.fmod many, { p with count := p.count + 1, digits := p.digits.fdiv many }, ?_, (fm _).1, (fm _).2, ⟨Int.fdiv_nonneg hd (by omega), hf, ⟨by show 0 ≤ p.count + 1; omega, by show p.count + 1 + n < _; omega⟩⟩⟩
    simp -implicitDefEqProofs only [Bool.false_bne, Bool.true_bne, decide_true, decide_false, ev_bind, bK_ok, bK_exc, bK_stuck, ev_pure, ev_lift, ev_lift0, ev_stuck, ev_ite, ev_var0, ev_varS, vH_fr, vH_un, vH_ow, vH_nil, ev_seq, sqK_nx, sqK_rt, sqK_bk, sqK_ct, sqK_exc, ev_nx, ev_sH, hK_ok, hK_exc, ev_set, stK_ok, stK_exc, ev_par2, p2K_ok, p2K_exc, ev_tup, tuK_2, tuK_3, tuK_exc, ev_if, ifK_ok, ifK_exc, ev_raise, raK_1, raK_2, endK_rt, endK_nx, endK_exc, ev_body0, ev_body1, ev_body2, ev_body3, dAdd_ii, dSub_ii, dNeg_i, dLt_ii, dLe_ii, dGt_ii, dGe_ii, dAbs_i, dInt_i, d1_, dTru_bl, asB_bl, obind, omapB, dTup_1, dTup_2, dTup_3, dLst_2, dIx_t0, dIx_t1, dIx_l0, dIx_l1, List.replicate_succ, List.replicate_zero, Nat.reduceSub, Nat.reduceAdd, List.set_cons_zero, List.set_cons_succ, if_true, if_false, Bool.false_eq_true, Bool.true_eq_false, Bool.not_true, Bool.not_false, ite_true, ite_false, f__law_draw, sPutM, ix_cells, ix_at, ix_digits, ix_count, ix_fold, put_count, put_at, put_digits, put_fold, dEq_ii, e0, e0', dMod_ii _ _ h0, dFdiv_ii _ _ h0 (dm _)]
theorem pick_eq (p : Pen) (n : Nat) (h : PenOk (n + 1) p) (xs : List D) (h1 : 0 < xs.length) (h2 : xs.length < 1000000) :
    ∃ d p', f__law_pick [.hnd 0, .lst xs] [penM p] = .ok d [penM p'] ∧ d ∈ xs ∧ PenOk n p' := by
  obtain ⟨v, p', e, v1, v2, ok⟩ := draw_eq p n h (xs.length : Int) (by omega) (by unfold Bd; have : (1000000 : Nat) < 2 ^ 2000 := by decide
                                                                                  omega)
  obtain ⟨d, hd, ed⟩ := at_mem v1 v2
  refine ⟨d, p', ?_, hd, ok⟩
  have ed' : dIx (.lst xs) (.int v) = some d := ed
  simp -implicitDefEqProofs only [Bool.false_bne, Bool.true_bne, decide_true, decide_false, ev_bind, bK_ok, bK_exc, bK_stuck, ev_pure, ev_lift, ev_lift0, ev_stuck, ev_ite, ev_var0, ev_varS, vH_fr, vH_un, vH_ow, vH_nil, ev_seq, sqK_nx, sqK_rt, sqK_bk, sqK_ct, sqK_exc, ev_nx, ev_sH, hK_ok, hK_exc, ev_set, stK_ok, stK_exc, ev_par2, p2K_ok, p2K_exc, ev_tup, tuK_2, tuK_3, tuK_exc, ev_if, ifK_ok, ifK_exc, ev_raise, raK_1, raK_2, endK_rt, endK_nx, endK_exc, ev_body0, ev_body1, ev_body2, ev_body3, dAdd_ii, dSub_ii, dNeg_i, dLt_ii, dLe_ii, dGt_ii, dGe_ii, dAbs_i, dInt_i, d1_, dTru_bl, asB_bl, obind, omapB, dTup_1, dTup_2, dTup_3, dLst_2, dIx_t0, dIx_t1, dIx_l0, dIx_l1, List.replicate_succ, List.replicate_zero, Nat.reduceSub, Nat.reduceAdd, List.set_cons_zero, List.set_cons_succ, if_true, if_false, Bool.false_eq_true, Bool.true_eq_false, Bool.not_true, Bool.not_false, ite_true, ite_false, f__law_pick, dLen_l, e, ed']
theorem pen_loop : ∀ (ns : List Int) (s d : D) (f : Int) (l : DX.Slot) (μ : List Mob), 0 ≤ f → f < 2147483648 → ∃ f' l', 0 ≤ f' ∧ f' < 2147483648 ∧
    sForN (.nm 2) lb__law_pen_0 (ns.map .int) [.fr s, .fr (.int f), l] μ = .nx [.fr s, .fr (.int f'), l'] μ
  | [], s, d, f, l, μ, h1, h2 => ⟨f, l, h1, h2, rfl⟩
  | n :: ns, s, d, f, l, μ, h1, h2 => by
    have q1 := Int.fmod_nonneg_of_pos (f * 47 + n) (b := 1000000007) (by decide)
    have q2 := Int.fmod_lt_of_pos (f * 47 + n) (b := 1000000007) (by decide)
    obtain ⟨f', l', a1, a2, a3⟩ := pen_loop ns s d ((f * 47 + n).fmod 1000000007) (.fr (.int n)) μ q1 (by omega)
    refine ⟨f', l', a1, a2, ?_⟩
    have m1 : mulB f 47 = true := mul_small (by decide)
    have n1 : (1000000007 : Int) ≠ 0 := by decide
    have e : lb__law_pen_0 [.fr s, .fr (.int f), .fr (.int n)] μ = .nx [.fr s, .fr (.int ((f * 47 + n).fmod 1000000007)), .fr (.int n)] μ := by
      simp -implicitDefEqProofs only [Bool.false_bne, Bool.true_bne, decide_true, decide_false, ev_bind, bK_ok, bK_exc, bK_stuck, ev_pure, ev_lift, ev_lift0, ev_stuck, ev_ite, ev_var0, ev_varS, vH_fr, vH_un, vH_ow, vH_nil, ev_seq, sqK_nx, sqK_rt, sqK_bk, sqK_ct, sqK_exc, ev_nx, ev_sH, hK_ok, hK_exc, ev_set, stK_ok, stK_exc, ev_par2, p2K_ok, p2K_exc, ev_tup, tuK_2, tuK_3, tuK_exc, ev_if, ifK_ok, ifK_exc, ev_raise, raK_1, raK_2, endK_rt, endK_nx, endK_exc, ev_body0, ev_body1, ev_body2, ev_body3, dAdd_ii, dSub_ii, dNeg_i, dLt_ii, dLe_ii, dGt_ii, dGe_ii, dAbs_i, dInt_i, d1_, dTru_bl, asB_bl, obind, omapB, dTup_1, dTup_2, dTup_3, dLst_2, dIx_t0, dIx_t1, dIx_l0, dIx_l1, List.replicate_succ, List.replicate_zero, Nat.reduceSub, Nat.reduceAdd, List.set_cons_zero, List.set_cons_succ, if_true, if_false, Bool.false_eq_true, Bool.true_eq_false, Bool.not_true, Bool.not_false, ite_true, ite_false, lb__law_pen_0, dMul_ii _ _ m1, dMod_ii _ _ n1]
    rw [List.map_cons, for_cons]
    simp only [List.set_cons_succ, List.set_cons_zero]
    rw [e, foK_nx]
    exact a3
theorem pen_eq (ns : List Int) : ∃ p, f__law_pen [.scr (ns.map .int)] [] = .ok (.hnd 0) [penM p] ∧ PenOk 900000000000 p := by
  obtain ⟨f', l', a1, a2, a3⟩ := pen_loop ns (.scr (ns.map .int)) .non 0 .un [] (by omega) (by omega)
  refine ⟨⟨ns, 0, 0, 0, f'⟩, ?_, ⟨Int.le_refl 0, ⟨a1, a2⟩, Int.le_refl 0, (by show (0 : Int) + ((900000000000 : Nat) : Int) < 1000000000000; omega)⟩⟩
  have e1 : dSeq (.scr (ns.map .int)) = some (ns.map .int) := rfl
  have e2 : dList (.scr (ns.map .int)) = some (.lst (ns.map .int)) := rfl
  have e3 : dDic [.inr "cells", .inr "at", .inr "digits", .inr "count", .inr "fold"] [.lst (ns.map .int), .int 0, .int 0, .int 0, .int f'] = some (.dic [(.inr "cells", .lst (ns.map .int)), (.inr "at", .int 0), (.inr "digits", .int 0), (.inr "count", .int 0), (.inr "fold", .int f')]) := rfl
  unfold f__law_pen sForH sRetN
  simp -implicitDefEqProofs only [Bool.false_bne, Bool.true_bne, decide_true, decide_false, ev_bind, bK_ok, bK_exc, bK_stuck, ev_pure, ev_lift, ev_lift0, ev_stuck, ev_ite, ev_var0, ev_varS, vH_fr, vH_un, vH_ow, vH_nil, ev_seq, sqK_nx, sqK_rt, sqK_bk, sqK_ct, sqK_exc, ev_nx, ev_sH, hK_ok, hK_exc, ev_set, stK_ok, stK_exc, ev_par2, p2K_ok, p2K_exc, ev_tup, tuK_2, tuK_3, tuK_exc, ev_if, ifK_ok, ifK_exc, ev_raise, raK_1, raK_2, endK_rt, endK_nx, endK_exc, ev_body0, ev_body1, ev_body2, ev_body3, dAdd_ii, dSub_ii, dNeg_i, dLt_ii, dLe_ii, dGt_ii, dGe_ii, dAbs_i, dInt_i, d1_, dTru_bl, asB_bl, obind, omapB, dTup_1, dTup_2, dTup_3, dLst_2, dIx_t0, dIx_t1, dIx_l0, dIx_l1, List.replicate_succ, List.replicate_zero, Nat.reduceSub, Nat.reduceAdd, List.set_cons_zero, List.set_cons_succ, if_true, if_false, Bool.false_eq_true, Bool.true_eq_false, Bool.not_true, Bool.not_false, ite_true, ite_false, e1, a3, e2, e3]
  rfl
end Wk
set_option Elab.async false
set_option linter.all false
set_option maxRecDepth 100000
set_option maxHeartbeats 4000000
namespace Wk
open PySem PySem.Spec PyProof.Rows L2 DX
theorem far_loop : ∀ (ds : List D) (p : Pen) (n : Nat) (h : PenOk (n + ds.length) p) (f : Int) (l : DX.Slot), 0 ≤ f →
    ∃ v l' p', sForN (.nm 2) lb__law_far_0 ds [.fr (.hnd 0), .fr (.int f), l] [penM p] = .nx [.fr (.hnd 0), .fr (.int v), l'] [penM p'] ∧ 0 ≤ v ∧ v < (f + 1) * 1000 ^ ds.length ∧ PenOk n p'
  | [], p, n, h, f, l, hf => ⟨f, l, p, rfl, hf, by simp; omega, h⟩
  | d :: ds, p, n, h, f, l, hf => by
    obtain ⟨v, p1, e, v1, v2, ok⟩ := draw_eq p (n + ds.length) (by simpa [Nat.add_assoc] using h) 1000 (by decide) (by unfold Bd; decide)
    obtain ⟨v', l', p', a1, a2, a3, a4⟩ := far_loop ds p1 n ok (f * 1000 + v) (.fr d) (by omega)
    refine ⟨v', l', p', ?_, a2, ?_, a4⟩
    · have m1 : mulB f 1000 = true := mul_small (by decide)
      have eb : lb__law_far_0 [.fr (.hnd 0), .fr (.int f), .fr d] [penM p] = .nx [.fr (.hnd 0), .fr (.int (f * 1000 + v)), .fr d] [penM p1] := by
        simp -implicitDefEqProofs only [Bool.false_bne, Bool.true_bne, decide_true, decide_false, ev_bind, bK_ok, bK_exc, bK_stuck, ev_pure, ev_lift, ev_lift0, ev_stuck, ev_ite, ev_var0, ev_varS, vH_fr, vH_un, vH_ow, vH_nil, ev_seq, sqK_nx, sqK_rt, sqK_bk, sqK_ct, sqK_exc, ev_nx, ev_sH, hK_ok, hK_exc, ev_set, stK_ok, stK_exc, ev_par2, p2K_ok, p2K_exc, ev_tup, tuK_2, tuK_3, tuK_exc, ev_if, ifK_ok, ifK_exc, ev_raise, raK_1, raK_2, endK_rt, endK_nx, endK_exc, ev_body0, ev_body1, ev_body2, ev_body3, dAdd_ii, dSub_ii, dNeg_i, dLt_ii, dLe_ii, dGt_ii, dGe_ii, dAbs_i, dInt_i, d1_, dTru_bl, asB_bl, obind, omapB, dTup_1, dTup_2, dTup_3, dLst_2, dIx_t0, dIx_t1, dIx_l0, dIx_l1, List.replicate_succ, List.replicate_zero, Nat.reduceSub, Nat.reduceAdd, List.set_cons_zero, List.set_cons_succ, if_true, if_false, Bool.false_eq_true, Bool.true_eq_false, Bool.not_true, Bool.not_false, ite_true, ite_false, lb__law_far_0, dMul_ii _ _ m1, e]
      rw [for_cons]
      simp only [List.set_cons_succ, List.set_cons_zero]
      rw [eb, foK_nx]
      exact a1
    · refine Int.lt_of_lt_of_le a3 ?_
      rw [List.length_cons, Int.pow_succ, Int.mul_comm (1000 ^ ds.length) 1000, ← Int.mul_assoc]
      exact Int.mul_le_mul_of_nonneg_right (by omega) (Int.pow_nonneg (by decide))
theorem far_eq (p : Pen) (n : Nat) (h : PenOk (n + 8) p) : ∃ v p', f__law_far [.hnd 0] [penM p] = .ok (.int v) [penM p'] ∧ Sz 60 v ∧ PenOk n p' := by
  obtain ⟨d, p1, e, hd, ok⟩ := pick_eq p (n + 7) h [.int 0, .int 1, .int 1, .int 2, .int 6] (by decide) (by decide)
  obtain ⟨k, hk, ek⟩ : ∃ k : Nat, k ≤ 6 ∧ d = .int (k : Nat) := by
    simp only [List.mem_cons, List.not_mem_nil, or_false] at hd
    rcases hd with rfl | rfl | rfl | rfl | rfl
    · exact ⟨0, by decide, rfl⟩
    · exact ⟨1, by decide, rfl⟩
    · exact ⟨1, by decide, rfl⟩
    · exact ⟨2, by decide, rfl⟩
    · exact ⟨6, by decide, rfl⟩
  subst ek
  obtain ⟨L, hr, hl⟩ : ∃ L, dRng1 [.int ((k : Nat) : Int)] = some L ∧ L.length = k := ⟨_, rng_eq _ (by omega), by rw [rng_len]; omega⟩
  obtain ⟨v, l', p2, a1, a2, a3, a4⟩ := far_loop L p1 (n + 1) (ok.less (by omega)) 0 .un (by decide)
  obtain ⟨w, p3, e3, w1, w2, ok3⟩ := draw_eq p2 n a4 3 (by decide) (by unfold Bd; decide)
  have hv : v < 1000000000000000000 := by
    rw [hl] at a3
    have h6 : ∀ j : Nat, j ≤ 6 → (1000 : Int) ^ j ≤ 1000000000000000000 := by
      intro j hj
      match j, hj with
      | 0, _ => decide
      | 1, _ => decide
      | 2, _ => decide
      | 3, _ => decide
      | 4, _ => decide
      | 5, _ => decide
      | 6, _ => decide
    have := h6 k hk
    rw [Int.zero_add, Int.one_mul] at a3
    omega
  have sz : Sz 60 v := by unfold Sz; omega
  by_cases hw : w > 0
  · have ew : decide (w > 0) = true := decide_eq_true hw
    refine ⟨v, p3, ?_, sz, ok3⟩
    unfold f__law_far sForH
    simp -implicitDefEqProofs only [Bool.false_bne, Bool.true_bne, decide_true, decide_false, ev_bind, bK_ok, bK_exc, bK_stuck, ev_pure, ev_lift, ev_lift0, ev_stuck, ev_ite, ev_var0, ev_varS, vH_fr, vH_un, vH_ow, vH_nil, ev_seq, sqK_nx, sqK_rt, sqK_bk, sqK_ct, sqK_exc, ev_nx, ev_sH, hK_ok, hK_exc, ev_set, stK_ok, stK_exc, ev_par2, p2K_ok, p2K_exc, ev_tup, tuK_2, tuK_3, tuK_exc, ev_if, ifK_ok, ifK_exc, ev_raise, raK_1, raK_2, endK_rt, endK_nx, endK_exc, ev_body0, ev_body1, ev_body2, ev_body3, dAdd_ii, dSub_ii, dNeg_i, dLt_ii, dLe_ii, dGt_ii, dGe_ii, dAbs_i, dInt_i, d1_, dTru_bl, asB_bl, obind, omapB, dTup_1, dTup_2, dTup_3, dLst_2, dIx_t0, dIx_t1, dIx_l0, dIx_l1, List.replicate_succ, List.replicate_zero, Nat.reduceSub, Nat.reduceAdd, List.set_cons_zero, List.set_cons_succ, if_true, if_false, Bool.false_eq_true, Bool.true_eq_false, Bool.not_true, Bool.not_false, ite_true, ite_false, dLst_5, e, hr, a1, e3, ew]
  · have ew : decide (w > 0) = false := decide_eq_false hw
    refine ⟨-v, p3, ?_, sz.neg, ok3⟩
    unfold f__law_far sForH
    simp -implicitDefEqProofs only [Bool.false_bne, Bool.true_bne, decide_true, decide_false, ev_bind, bK_ok, bK_exc, bK_stuck, ev_pure, ev_lift, ev_lift0, ev_stuck, ev_ite, ev_var0, ev_varS, vH_fr, vH_un, vH_ow, vH_nil, ev_seq, sqK_nx, sqK_rt, sqK_bk, sqK_ct, sqK_exc, ev_nx, ev_sH, hK_ok, hK_exc, ev_set, stK_ok, stK_exc, ev_par2, p2K_ok, p2K_exc, ev_tup, tuK_2, tuK_3, tuK_exc, ev_if, ifK_ok, ifK_exc, ev_raise, raK_1, raK_2, endK_rt, endK_nx, endK_exc, ev_body0, ev_body1, ev_body2, ev_body3, dAdd_ii, dSub_ii, dNeg_i, dLt_ii, dLe_ii, dGt_ii, dGe_ii, dAbs_i, dInt_i, d1_, dTru_bl, asB_bl, obind, omapB, dTup_1, dTup_2, dTup_3, dLst_2, dIx_t0, dIx_t1, dIx_l0, dIx_l1, List.replicate_succ, List.replicate_zero, Nat.reduceSub, Nat.reduceAdd, List.set_cons_zero, List.set_cons_succ, if_true, if_false, Bool.false_eq_true, Bool.true_eq_false, Bool.not_true, Bool.not_false, ite_true, ite_false, dLst_5, e, hr, a1, e3, ew]
end Wk
set_option Elab.async false
set_option linter.all false
set_option maxRecDepth 100000
set_option maxHeartbeats 4000000
namespace Wk
open PySem PySem.Spec PyProof.Rows L2 DX
/-! ### statements in mode p, evaluated -/
def pK {α : Type} (r : Res α) (f : α → Sm) (ρ : DX.Env) (μ : List Mob) : SR := match r with
  | .ok d [] => f d ρ μ
  | .exc c fs [] => if D.flatFs fs = true then .exc c fs ρ μ else .stuck
  | _ => .stuck
theorem ev_sP {α : Type} (ms : List Nat) (m : Env' → M α) (f : α → Sm) (ρ : DX.Env) (μ : List Mob) : sP ms m f ρ μ = if okMs ms ρ = true then pK (m (vP ms ρ) []) f ρ μ else .stuck := by
  unfold sP pK
  split
  · cases m (vP ms ρ) [] with
    | ok d l => cases l <;> rfl
    | exc c fs l => cases l <;> rfl
    | stuck => rfl
  · rfl
theorem pK_ok {α : Type} (d : α) (f : α → Sm) (ρ : DX.Env) (μ : List Mob) : pK (.ok d []) f ρ μ = f d ρ μ := rfl
theorem ev_mdH {α : Type} (fl : α → Bool) (m : Env' → M α) (f : α → Sm) (ρ : DX.Env) (μ : List Mob) : sMd .h fl m f ρ μ = hK (m (vH ρ) μ) f ρ := ev_sH m f ρ μ
theorem ev_mdP {α : Type} (ms : List Nat) (fl : α → Bool) (m : Env' → M α) (f : α → Sm) (ρ : DX.Env) (μ : List Mob) : sMd (.p ms) fl m f ρ μ = if okMs ms ρ = true then pK (m (vP ms ρ) []) (fun d ρ μ => f d (if fl d = true then ρ else frz ms ρ) μ) ρ μ else .stuck := ev_sP ms m (fun d ρ μ => f d (if fl d = true then ρ else frz ms ρ) μ) ρ μ
/-- what mode p sees, slot by slot -/
def vPn (ms : List Nat) : Nat → DX.Env → Env'
  | _, [] => []
  | n, .fr d :: ρ => (if noHnd d = true then some d else none) :: vPn ms (n + 1) ρ
  | n, .ow d :: ρ => (if (ms.contains n && noHnd d) = true then some d else none) :: vPn ms (n + 1) ρ
  | n, .un :: ρ => none :: vPn ms (n + 1) ρ
theorem vP_at (ms : List Nat) : ∀ (ρ : DX.Env) (n : Nat), (ρ.mapIdx fun i s => match s with
  | .fr d => if noHnd d then some d else none
  | .ow d => if ms.contains (n + i) && noHnd d then some d else none
  | .un => none) = vPn ms n ρ
  | [], _ => rfl
  | s :: ρ, n => by
    rw [List.mapIdx_cons]
    have h := vP_at ms ρ (n + 1)
    have e : (fun (i : Nat) (s : Slot) => match s with
      | .fr d => if noHnd d then some d else none
      | .ow d => if ms.contains (n + (i + 1)) && noHnd d then some d else none
      | .un => none) = fun i s => match s with
      | .fr d => if noHnd d then some d else none
      | .ow d => if ms.contains (n + 1 + i) && noHnd d then some d else none
      | .un => none := by
      funext i s
      rw [show n + (i + 1) = n + 1 + i by omega]
    rw [e, h]
    cases s <;> rfl
theorem vP_eq (ms : List Nat) (ρ : DX.Env) : vP ms ρ = vPn ms 0 ρ := by
  rw [← vP_at ms ρ 0]
  unfold vP
  simp only [Nat.zero_add] <;> rfl
/-- given up, slot by slot -/
def frzn (ms : List Nat) : Nat → DX.Env → DX.Env
  | _, [] => []
  | n, .ow d :: ρ => (if ms.contains n = true then .fr d else .ow d) :: frzn ms (n + 1) ρ
  | n, s :: ρ => s :: frzn ms (n + 1) ρ
theorem frz_at (ms : List Nat) : ∀ (ρ : DX.Env) (n : Nat), (ρ.mapIdx fun i s => match s with
  | .ow d => if ms.contains (n + i) then .fr d else .ow d
  | s => s) = frzn ms n ρ
  | [], _ => rfl
  | s :: ρ, n => by
    rw [List.mapIdx_cons]
    have h := frz_at ms ρ (n + 1)
    have e : (fun (i : Nat) (s : Slot) => match s with
      | .ow d => if ms.contains (n + (i + 1)) then Slot.fr d else .ow d
      | s => s) = fun i s => match s with
      | .ow d => if ms.contains (n + 1 + i) then .fr d else .ow d
      | s => s := by
      funext i s
      rw [show n + (i + 1) = n + 1 + i by omega]
    rw [e, h]
    cases s <;> rfl
theorem frz_eq (ms : List Nat) (ρ : DX.Env) : frz ms ρ = frzn ms 0 ρ := by
  rw [← frz_at ms ρ 0]
  unfold frz
  simp only [Nat.zero_add] <;> rfl
def spv (ms : List Nat) (n : Nat) (s : Slot) : Option D := match s with
  | .fr d => if noHnd d = true then some d else none
  | .ow d => if (ms.contains n && noHnd d) = true then some d else none
  | .un => none
theorem vPn_cons (ms : List Nat) (n : Nat) (s : Slot) (ρ : DX.Env) : vPn ms n (s :: ρ) = spv ms n s :: vPn ms (n + 1) ρ := by cases s <;> rfl
theorem vPn_nil (ms : List Nat) (n : Nat) : vPn ms n [] = [] := rfl
theorem spv_fr (ms : List Nat) (n : Nat) {d : D} (h : noHnd d = true) : spv ms n (.fr d) = some d := if_pos h
theorem spv_ow (ms : List Nat) (n : Nat) {d : D} (h : noHnd d = true) (hm : ms.contains n = true) : spv ms n (.ow d) = some d := by
  show (if (ms.contains n && noHnd d) = true then some d else none) = some d
  rw [hm, h]
  rfl
def frs1 (ms : List Nat) (n : Nat) (s : Slot) : Slot := match s with
  | .ow d => if ms.contains n = true then .fr d else .ow d
  | s => s
theorem frzn_cons (ms : List Nat) (n : Nat) (s : Slot) (ρ : DX.Env) : frzn ms n (s :: ρ) = frs1 ms n s :: frzn ms (n + 1) ρ := by cases s <;> rfl
theorem frzn_nil (ms : List Nat) (n : Nat) : frzn ms n [] = [] := rfl
theorem frs1_fr (ms : List Nat) (n : Nat) (d : D) : frs1 ms n (.fr d) = .fr d := rfl
theorem frs1_un (ms : List Nat) (n : Nat) : frs1 ms n .un = .un := rfl
theorem frs1_ow (ms : List Nat) (n : Nat) (d : D) (hm : ms.contains n = true) : frs1 ms n (.ow d) = .fr d := if_pos hm
/-- a test in mode p -/
def tpK (r : Res Bool) (m n : Sm) (ρ : DX.Env) (μ : List Mob) : SR := match r with
  | .ok b [] => if b = true then m ρ μ else n ρ μ
  | .exc c fs [] => if D.flatFs fs = true then .exc c fs ρ μ else .stuck
  | _ => .stuck
theorem ev_ifP (ms : List Nat) (t : Env' → M Bool) (m n : Sm) (ρ : DX.Env) (μ : List Mob) : sIf (tP ms t) m n ρ μ = if okMs ms ρ = true then tpK (t (vP ms ρ) []) m n ρ μ else .stuck := by
  show (match (if okMs ms ρ = true then (match t (vP ms ρ) [] with
      | .ok b [] => .ok b μ
      | .exc c fs [] => if D.flatFs fs = true then .exc c fs μ else .stuck
      | _ => .stuck : Res Bool) else .stuck : Res Bool) with
    | .ok b μ' => (if b = true then m else n) ρ μ'
    | .exc c fs μ' => .exc c fs ρ μ'
    | .stuck => .stuck) = _
  unfold tpK
  by_cases h : okMs ms ρ = true
  · rw [if_pos h, if_pos h]
    cases t (vP ms ρ) [] with
    | ok b l => cases l <;> cases b <;> rfl
    | exc c fs l =>
      cases l with
      | nil =>
        by_cases hf : D.flatFs fs = true
        · simp only [if_pos hf]
        · simp only [if_neg hf]
      | cons _ _ => rfl
    | stuck => rfl
  · rw [if_neg h, if_neg h]
theorem tpK_ok (b : Bool) (m n : Sm) (ρ : DX.Env) (μ : List Mob) : tpK (.ok b []) m n ρ μ = if b = true then m ρ μ else n ρ μ := rfl
theorem ev_for (p : Pat) (m : Env' → M (List D)) (b : Sm) (ρ : DX.Env) (μ : List Mob) : sForH p m b ρ μ = hK (m (vH ρ) μ) (fun ds => sForN p b ds) ρ := ev_sH m _ ρ μ
theorem ev_setM (md : Md) (i : Nat) (m : Env' → M D) : sSetM md i m = sMd md D.flat m fun d ρ μ => .nx (ρ.set i (.fr d)) μ := rfl
theorem ev_setFM (md : Md) (i : Nat) (m : Env' → M D) : sSetFM md i m = sMd md itemsFlat m fun d ρ μ => .nx (ρ.set i (.ow d)) μ := rfl
end Wk
set_option Elab.async false
set_option linter.all false
set_option maxRecDepth 100000
set_option maxHeartbeats 4000000
namespace Wk
open PySem PySem.Spec PyProof.Rows L2 DX
/-! ### what repr shows -/
theorem reprChar_ok (q c : Nat) (hc : c < 0x110000) (hq : q < 0x110000) : ∀ z ∈ Builtin.Str.reprChar q c, z < 0x110000 := by
  have hd : ∀ w : Nat, ∀ z ∈ (let d := (Nat.toDigits 16 c).map Char.toNat; List.replicate (w - d.length) 48 ++ d), z < 0x110000 := by
    intro w z hz
    rcases List.mem_append.mp hz with h | h
    · have := List.eq_of_mem_replicate h; omega
    · obtain ⟨ch, _, rfl⟩ := List.mem_map.mp h
      have := ch.valid
      unfold UInt32.isValidChar Nat.isValidChar at this
      show ch.val.toNat < 0x110000
      omega
  intro z hz
  unfold Builtin.Str.reprChar at hz
  simp only at hz
  repeat' split at hz
  all_goals first
    | (simp only [List.mem_cons, List.not_mem_nil, or_false] at hz; omega)
    | (rcases List.mem_append.mp hz with h | h
       · simp only [List.mem_cons, List.not_mem_nil, or_false] at h; omega
       · exact hd _ z h)
theorem fold_repr_ok (q : Nat) (hq : q < 0x110000) : ∀ (l : List Nat) (acc : Array Nat), (∀ c ∈ l, c < 0x110000) → (∀ z ∈ acc, z < 0x110000) → ∀ z ∈ l.foldl (fun out c => out ++ (Builtin.Str.reprChar q c).toArray) acc, z < 0x110000
  | [], acc, _, ha => ha
  | c :: r, acc, hl, ha => by
    rw [List.foldl_cons]
    refine fold_repr_ok q hq r _ (fun d hd => hl d (List.mem_cons_of_mem _ hd)) fun z hz => ?_
    rcases Array.mem_append.mp hz with h | h
    · exact ha z h
    · exact reprChar_ok q c (hl c List.mem_cons_self) hq z (by simpa using h)
theorem strOk_iff (x : Str) : PyData.strOk x = true ↔ ∀ c ∈ x.cps, c < 0x110000 := by
  unfold PyData.strOk
  rw [Array.all_eq_true_iff_forall_mem]
  exact ⟨fun h c hc => of_decide_eq_true (h c hc), fun h c hc => decide_eq_true (h c hc)⟩
theorem reprText_ok {x : Str} (h : PyData.strOk x = true) : PyData.strOk (reprText x) = true := by
  rw [strOk_iff] at h ⊢
  have hq : reprQuote x < 0x110000 := by unfold reprQuote; split <;> decide
  intro c hc
  unfold reprText at hc
  rcases Array.mem_push.mp hc with hc | hc
  · rw [← Array.foldl_toList] at hc
    exact fold_repr_ok _ hq _ _ (fun d hd => h d (by simpa using hd)) (fun z hz => by simp only [List.mem_toArray, List.mem_cons, List.not_mem_nil, or_false] at hz; omega) c hc
  · omega
theorem textFrom_ok : ∀ (ts : List Str) (k : Nat) (acc : Str), PyData.strOk acc = true → (∀ t ∈ ts, PyData.strOk t = true) → PyData.strOk (textFrom k acc ts) = true
  | [], _, _, h, _ => h
  | t :: ts, k, acc, h, ht => textFrom_ok ts (k + 1) _ (ok_app (ok_app h (ok_of _)) (ht t List.mem_cons_self)) fun u hu => ht u (List.mem_cons_of_mem _ hu)
theorem join_ok {sep : Str} (hs : PyData.strOk sep = true) : ∀ (ts : List Str), (∀ t ∈ ts, PyData.strOk t = true) → PyData.strOk (Str.join sep ts) = true
  | [], _ => by show PyData.strOk Str.empty = true; decide +kernel
  | [x], h => h x List.mem_cons_self
  | x :: y :: r, h => ok_app (ok_app (h x List.mem_cons_self) hs) (join_ok hs (y :: r) fun t ht => h t (List.mem_cons_of_mem _ ht))
mutual
def fine : PyData → Bool
  | .none | .bool _ => true
  | .int i => decide (i.natAbs.log2 < 700)
  | .str x => PyData.strOk x
  | .list xs | .tuple xs => fineAll xs
  | .dict kvs => fineKv kvs
def fineAll : List PyData → Bool
  | [] => true
  | x :: xs => fine x && fineAll xs
def fineKv : List (PyData × PyData) → Bool
  | [] => true
  | (k, v) :: r => fine k && fine v && fineKv r
end
mutual
theorem fine_ok : ∀ {p : PyData}, fine p = true → p.showable = true ∧ p.leavesShort 800 = true ∧ PyData.strOk p.shown = true
  | .none, _ => ⟨rfl, rfl, ok_of _⟩
  | .bool b, _ => ⟨rfl, rfl, by cases b <;> exact ok_of _⟩
  | .int i, h => by
    have hl : i.natAbs.log2 < 700 := of_decide_eq_true h
    have hb : Sz 700 i := by
      unfold Sz
      by_cases h0 : i.natAbs = 0
      · rw [h0]; exact Nat.pow_pos (by decide)
      · exact (Nat.log2_lt h0).mp hl
    refine ⟨?_, ?_, ok_of _⟩
    · simp only [PyData.showable]; exact decide_eq_true (by omega)
    · simp only [PyData.leavesShort, PyData.shown]; exact decide_eq_true (by have := str_len hb; omega)
  | .str x, h => by
    refine ⟨rfl, ?_, reprText_ok h⟩
    simp only [PyData.leavesShort, List.all_eq_true]
    intro c hc
    have := (strOk_iff x).mp h c (by simpa using hc)
    exact decide_eq_true (by have : (0x110000 : Nat) < 16 ^ 8 := by decide
                             omega)
  | .list xs, h => by
    obtain ⟨h1, h2, h3⟩ := fineAll_ok (xs := xs) (by simpa only [fine] using h)
    exact ⟨by simpa only [PyData.showable] using h1, by simpa only [PyData.leavesShort] using h2, by
      simp only [PyData.shown]
      exact ok_app (textFrom_ok _ 0 _ (ok_of _) h3) (ok_of _)⟩
  | .tuple xs, h => by
    obtain ⟨h1, h2, h3⟩ := fineAll_ok (xs := xs) (by simpa only [fine] using h)
    exact ⟨by simpa only [PyData.showable] using h1, by simpa only [PyData.leavesShort] using h2, by
      simp only [PyData.shown]
      exact ok_app (ok_app (ok_of _) (join_ok (ok_of _) _ h3)) (ok_of _)⟩
  | .dict kvs, h => by
    obtain ⟨h1, h2, h3⟩ := fineKv_ok (kvs := kvs) (by simpa only [fine] using h)
    exact ⟨by simpa only [PyData.showable] using h1, by simpa only [PyData.leavesShort] using h2, by
      simp only [PyData.shown]
      exact ok_app (ok_app (ok_of _) (join_ok (ok_of _) _ h3)) (ok_of _)⟩
theorem fineAll_ok : ∀ {xs : List PyData}, fineAll xs = true → PyData.showableAll xs = true ∧ PyData.leavesShortAll 800 xs = true ∧ ∀ t ∈ PyData.shownAll xs, PyData.strOk t = true
  | [], _ => ⟨rfl, rfl, fun _ h => nomatch h⟩
  | x :: xs, h => by
    simp only [fineAll, Bool.and_eq_true] at h
    obtain ⟨a1, a2, a3⟩ := fine_ok h.1
    obtain ⟨b1, b2, b3⟩ := fineAll_ok h.2
    refine ⟨by simp only [PyData.showableAll, a1, b1]; rfl, by simp only [PyData.leavesShortAll, a2, b2]; rfl, fun t ht => ?_⟩
    simp only [PyData.shownAll] at ht
    rcases List.mem_cons.mp ht with e | ht
    · rw [e]; exact a3
    · exact b3 t ht
theorem fineKv_ok : ∀ {kvs : List (PyData × PyData)}, fineKv kvs = true → PyData.showableKv kvs = true ∧ PyData.leavesShortKv 800 kvs = true ∧ ∀ t ∈ PyData.shownKv kvs, PyData.strOk t = true
  | [], _ => ⟨rfl, rfl, fun _ h => nomatch h⟩
  | (k, v) :: r, h => by
    simp only [fineKv, Bool.and_eq_true] at h
    obtain ⟨a1, a2, a3⟩ := fine_ok h.1.1
    obtain ⟨c1, c2, c3⟩ := fine_ok h.1.2
    obtain ⟨b1, b2, b3⟩ := fineKv_ok h.2
    refine ⟨by simp only [PyData.showableKv, a1, c1, b1]; rfl, by simp only [PyData.leavesShortKv, a2, c2, b2]; rfl, fun t ht => ?_⟩
    simp only [PyData.shownKv] at ht
    rcases List.mem_cons.mp ht with e | ht
    · rw [e]; exact ok_app (ok_app a3 (ok_of _)) c3
    · exact b3 t ht
end
/-- a value that repr shows -/
structure Fd (k w : Nat) (d : D) : Prop where
  ex : ∃ p : PyData, toPyX d = some p ∧ fine p = true ∧ p.depth ≤ k ∧ p.weight ≤ w
structure FdA (k w : Nat) (ds : List D) : Prop where
  ex : ∃ ps : List PyData, toPyXs ds = some ps ∧ fineAll ps = true ∧ PyData.depthAll ps ≤ k ∧ PyData.weightAll ps ≤ w
theorem Fd.mono {k j w v : Nat} {d : D} (h : Fd k w d) (hk : k ≤ j) (hw : w ≤ v) : Fd j v d := by
  obtain ⟨p, h1, h2, h3, h4⟩ := h.ex
  exact ⟨p, h1, h2, by omega, by omega⟩
theorem Fd.repr {k w : Nat} {d : D} (h : Fd k w d) (hk : k ≤ 60) (hw : w ≤ 20000) : ∃ z, dReprX [d] = some (.str z) ∧ PyData.strOk z = true := by
  obtain ⟨p, h1, h2, h3, h4⟩ := h.ex
  obtain ⟨f1, f2, f3⟩ := fine_ok h2
  have hs := PyData.shown_le 800 (by decide) p f2
  refine ⟨p.shown, ?_, f3⟩
  show (match toPyX d with | some p => (if p.showable = true ∧ p.depth ≤ 60 ∧ p.shown.length ≤ 16777216 then some (D.str p.shown) else none) | none => none) = _
  rw [h1]
  have hm : 802 * p.weight ≤ 802 * 20000 := Nat.mul_le_mul_left _ (by omega)
  exact if_pos ⟨f1, by omega, by omega⟩
theorem Fd.non : Fd 0 0 .non := ⟨.none, rfl, rfl, Nat.le_refl _, Nat.le_refl _⟩
theorem Fd.bl (b : Bool) : Fd 0 0 (.bl b) := ⟨.bool b, rfl, rfl, Nat.le_refl _, Nat.le_refl _⟩
theorem Fd.int {i : Int} (h : Sz 700 i) : Fd 0 701 (.int i) := by
  have hl := log_of h (by decide)
  refine ⟨.int i, rfl, decide_eq_true hl, by simp only [PyData.depth]; omega, ?_⟩
  simp only [PyData.weight]
  split <;> omega
theorem Fd.str {x : Str} (h : PyData.strOk x = true) : Fd 0 x.length (.str x) := ⟨.str x, rfl, h, by simp only [PyData.depth]; omega, by simp only [PyData.weight]; exact Nat.le_refl _⟩
theorem Fd.tup {k w : Nat} {ds : List D} (h : FdA k w ds) : Fd (k + 1) w (.tup ds) := by
  obtain ⟨ps, h1, h2, h3, h4⟩ := h.ex
  exact ⟨.tuple ps, by simp only [toPyX, h1]; rfl, by simpa only [fine] using h2, by simp only [PyData.depth]; omega, by simpa only [PyData.weight] using h4⟩
theorem Fd.lst {k w : Nat} {ds : List D} (h : FdA k w ds) : Fd (k + 1) w (.lst ds) := by
  obtain ⟨ps, h1, h2, h3, h4⟩ := h.ex
  exact ⟨.list ps, by simp only [toPyX, h1]; rfl, by simpa only [fine] using h2, by simp only [PyData.depth]; omega, by simpa only [PyData.weight] using h4⟩
theorem FdA.nil : FdA 0 0 [] := ⟨[], rfl, rfl, Nat.le_refl _, Nat.le_refl _⟩
theorem FdA.cons {k w v : Nat} {d : D} {ds : List D} (h : Fd k w d) (t : FdA k v ds) : FdA k (w + 1 + v) (d :: ds) := by
  obtain ⟨p, a1, a2, a3, a4⟩ := h.ex
  obtain ⟨ps, b1, b2, b3, b4⟩ := t.ex
  exact ⟨p :: ps, by simp only [toPyXs, a1, b1], by simp only [fineAll, a2, b2]; rfl, by simp only [PyData.depthAll]; omega, by simp only [PyData.weightAll]; omega⟩
theorem FdA.mono {k j w v : Nat} {ds : List D} (h : FdA k w ds) (hk : k ≤ j) (hw : w ≤ v) : FdA j v ds := by
  obtain ⟨p, h1, h2, h3, h4⟩ := h.ex
  exact ⟨p, h1, h2, by omega, by omega⟩
theorem Fd.rat {q : Rat} (h : Rs 700 q) : Fd 1 1404 (rD q) := Fd.tup (FdA.cons (Fd.int h.n) (FdA.cons (Fd.int h.d) FdA.nil))
theorem Fd.dic1 {k w : Nat} {x : Str} {d : D} (hx : PyData.strOk x = true) (h : Fd k w d) : Fd (k + 1) (x.length + w + 2) (.dic [(.inr x, d)]) := by
  obtain ⟨p, a1, a2, a3, a4⟩ := h.ex
  refine ⟨.dict [(.str x, p)], by simp only [toPyX, toPyXk, a1]; rfl, ?_, ?_, ?_⟩
  · simp only [fine, fineKv, a2, hx]; rfl
  · simp only [PyData.depth, PyData.depthKv]; omega
  · simp only [PyData.weight, PyData.weightKv]
    have : x.cps.size = x.length := rfl
    omega
theorem dEq_same (x : Str) (hx : PyData.strOk x = true) : dEq true (.str x) (.str x) = some (.bl false) := by
  rw [dEq_ss true x x hx hx, decide_eq_true rfl]; rfl
end Wk
set_option Elab.async false
set_option linter.all false
set_option maxRecDepth 100000
set_option maxHeartbeats 4000000
namespace Wk
open PySem PySem.Spec PyProof.Rows L2 DX
/-! ### what may be given -/
def givL (v : Int) : List D := [.int v, .int (-v), .str (("x" : Str) ++ toString v), .non, .tup [.int v, .str "a"], .lst [.int v, .non], .bl true, .str "", .dic [(.inr "a", .int v)]]
theorem dDic_1 (x : Str) (a : D) : dDic [.inr x] [a] = some (.dic [(.inr x, a)]) := rfl
theorem dLst_0 : dLst [] = some (.lst []) := rfl
/-- a given value -/
structure Gv (d : D) : Prop where
  p : Fd 1 1500 d
  h : noHnd d = true
theorem giv_ok {v : Int} (hv : Sz 60 v) {d : D} (h : d ∈ givL v) : Gv d := by
  have s7 : Sz 700 v := hv.mono (by decide)
  have i7 := Fd.int s7
  have l1 := str_len s7
  have lx : ("x" : Str).length = 1 := rfl
  have la : ("a" : Str).length = 1 := rfl
  have l0 : ("" : Str).length = 0 := rfl
  simp only [givL, List.mem_cons, List.not_mem_nil, or_false] at h
  rcases h with rfl | rfl | rfl | rfl | rfl | rfl | rfl | rfl | rfl
  · exact ⟨i7.mono (by decide) (by decide), rfl⟩
  · exact ⟨(Fd.int s7.neg).mono (by decide) (by decide), rfl⟩
  · exact ⟨(Fd.str (ok_app (ok_of _) (ok_of _))).mono (by decide) (by rw [strLen_append]; omega), rfl⟩
  · exact ⟨Fd.non.mono (by decide) (by decide), rfl⟩
  · exact ⟨(Fd.tup (FdA.cons i7 (FdA.cons (Fd.str (ok_of "a")) FdA.nil))).mono (by decide) (by omega), rfl⟩
  · exact ⟨(Fd.lst (FdA.cons i7 (FdA.cons Fd.non FdA.nil))).mono (by decide) (by omega), rfl⟩
  · exact ⟨(Fd.bl true).mono (by decide) (by decide), rfl⟩
  · exact ⟨(Fd.str (ok_of "")).mono (by decide) (by omega), rfl⟩
  · exact ⟨(Fd.dic1 (ok_of "a") i7).mono (by decide) (by omega), rfl⟩
theorem dStr_60 {v : Int} (h : Sz 60 v) : dStr (.int v) = some (.str (toString v)) := dStr_i (h.mono (by decide))
/-- one given value more -/
theorem give_eq (p : Pen) (n : Nat) (h : PenOk (n + 9) p) (s0 s3 s4 s5 s6 s7 s8 s9 : Slot) (ds : List D) (hl : ds.length < 100) :
    ∃ d v p', lb_law_0 [s0, .fr (.hnd 0), .ow (.lst ds), s3, s4, s5, s6, s7, s8, s9] [penM p] = .nx [s0, .fr (.hnd 0), .ow (.lst (ds ++ [d])), s3, .fr v, s5, s6, s7, s8, s9] [penM p'] ∧ Gv d ∧ PenOk n p' := by
  obtain ⟨v, p1, e1, sv, ok1⟩ := far_eq p (n + 1) h
  obtain ⟨d, p2, e2, hd, ok2⟩ := pick_eq p1 n ok1 (givL v) (Nat.succ_pos _) (by show 9 < 1000000; decide)
  refine ⟨d, .int v, p2, ?_, giv_ok sv hd, ok2⟩
  have s1 := dStr_60 sv
  have lx : ("x" : Str).length = 1 := rfl
  have a1 := dAdd_ss "x" (toString v) (by have := str_len (sv.mono (by decide : 60 ≤ 700)); omega)
  have d1 := dDic_1 "a" (.int v)
  have g : dLst [.int v, .int (-v), .str (("x" : Str) ++ toString v), .non, .tup [.int v, .str "a"], .lst [.int v, .non], .bl true, .str "", .dic [(.inr "a", .int v)]] = some (.lst (givL v)) := rfl
  have ap : appS 2 d [s0, .fr (.hnd 0), .ow (.lst ds), s3, .fr (.int v), s5, s6, s7, s8, s9] [penM p2] = .nx [s0, .fr (.hnd 0), .ow (.lst (ds ++ [d])), s3, .fr (.int v), s5, s6, s7, s8, s9] [penM p2] := if_pos (by omega)
  have sh : ∀ s : Slot, ∃ o, ∀ ρ : DX.Env, vH (s :: ρ) = o :: vH ρ := fun s => by cases s <;> exact ⟨_, fun _ => rfl⟩
  obtain ⟨o0, h0⟩ := sh s0
  have ow : isOwL 2 [s0, .fr (.hnd 0), .ow (.lst ds), s3, .fr (.int v), s5, s6, s7, s8, s9] = true := rfl
  obtain ⟨o3, h3⟩ := sh s3
  obtain ⟨o4, h4⟩ := sh s4
  simp -implicitDefEqProofs only [Bool.false_bne, Bool.true_bne, decide_true, decide_false, ev_bind, bK_ok, bK_exc, bK_stuck, ev_pure, ev_lift, ev_lift0, ev_stuck, ev_ite, ev_var0, ev_varS, vH_fr, vH_un, vH_ow, vH_nil, ev_seq, sqK_nx, sqK_rt, sqK_bk, sqK_ct, sqK_exc, ev_nx, ev_sH, hK_ok, hK_exc, ev_set, stK_ok, stK_exc, ev_par2, p2K_ok, p2K_exc, ev_tup, tuK_2, tuK_3, tuK_exc, ev_if, ifK_ok, ifK_exc, ev_raise, raK_1, raK_2, endK_rt, endK_nx, endK_exc, ev_body0, ev_body1, ev_body2, ev_body3, dAdd_ii, dSub_ii, dNeg_i, dLt_ii, dLe_ii, dGt_ii, dGe_ii, dAbs_i, dInt_i, d1_, dTru_bl, asB_bl, obind, omapB, dTup_1, dTup_2, dTup_3, dLst_2, dIx_t0, dIx_t1, dIx_l0, dIx_l1, List.replicate_succ, List.replicate_zero, Nat.reduceSub, Nat.reduceAdd, List.set_cons_zero, List.set_cons_succ, if_true, if_false, Bool.false_eq_true, Bool.true_eq_false, Bool.not_true, Bool.not_false, ite_true, ite_false, lb_law_0, h0, h3, h4, e1, sAppM, gdL, ow, ev_mdH, s1, a1, d1, g, e2, ap]
/-- the errors that are made -/
def rowD (a b : D) : List D := [.exn "BadText" [("column", a)], .exn "BadLine" [("column", b), ("line", a)], .exn "BadNumber" [("number", b), ("what", a)], .exn "BadRow" [("row", a)], .exn "BadName" [("name", a)], .exn "Shared" [("plane", a)], .exn "NoRest" [("place", a)], .exn "NotRound" [("", .non)],
  .exn "NoName" [("name", a)], .exn "TakenName" [("name", a)], .exn "NotKept" [("witness", b), ("promise", a)], .exn "NothingToUndo" [("", .non)], .exn "NothingToRedo" [("", .non)]]
theorem objects_eq (a b : D) : f__law_objects [a, b] [] = .ok (.lst (rowD a b)) [] := by kernel_rfl
theorem fields_eq (a b : D) (μ : List Mob) : f__law_fields [.lst (rowD a b)] μ = .ok (.lst [.lst [a], .lst [a, b], .lst [a, b], .lst [a], .lst [a], .lst [a], .lst [a], .lst [], .lst [a], .lst [a], .lst [a, b], .lst [], .lst []]) μ := by kernel_rfl
theorem kinds_eq (a b : D) (sg sf s5 s6 s7 s8 s9 : Slot) (s k : D) (μ : List Mob) : ∃ k' e', sForN (.tu [.nm 3, .nm 6]) lb_law_1 (enumD (rowD a b)) [.fr s, .fr (.hnd 0), sg, .fr k, sf, .fr (.lst (rowD a b)), s6, s7, s8, s9] μ = .nx [.fr s, .fr (.hnd 0), sg, .fr k', sf, .fr (.lst (rowD a b)), .fr e', s7, s8, s9] μ :=
  ⟨.int 12, .exn "NothingToRedo" [("", .non)], by kernel_rfl⟩
section
variable {a b : D} (ha : Gv a) (hb : Gv b)
include ha hb
theorem show_0 : ∃ z, dReprX [.lst []] = some (.str z) ∧ PyData.strOk z = true := (Fd.lst FdA.nil).repr (by decide) (by decide)
theorem show_1 : ∃ z, dReprX [.lst [a]] = some (.str z) ∧ PyData.strOk z = true := (Fd.lst (FdA.cons ha.p (FdA.nil.mono (Nat.zero_le _) (Nat.le_refl _)))).repr (by decide) (by decide)
theorem show_2 : ∃ z, dReprX [.lst [a, b]] = some (.str z) ∧ PyData.strOk z = true := (Fd.lst (FdA.cons ha.p (FdA.cons hb.p (FdA.nil.mono (Nat.zero_le _) (Nat.le_refl _))))).repr (by decide) (by decide)
/-- a row of fields and their number -/
def Fit (a b : D) (d : D) : Prop := d = .tup [.lst [], .int 0] ∨ d = .tup [.lst [a], .int 1] ∨ d = .tup [.lst [a, b], .int 2]
theorem body_eq (s0 s1 s3 s4 s5 s6 s7 s8 s9 : Slot) (d : D) (hd : Fit a b d) (μ : List Mob) : ∃ ρ8 ρ9 : D, asg Slot.fr (.tu [.nm 8, .nm 9]) d [s0, s1, .fr (.lst [a, b]), s3, s4, s5, s6, s7, s8, s9] = some [s0, s1, .fr (.lst [a, b]), s3, s4, s5, s6, s7, .fr ρ8, .fr ρ9] ∧
    lb_law_2 [s0, s1, .fr (.lst [a, b]), s3, s4, s5, s6, s7, .fr ρ8, .fr ρ9] μ = .nx [s0, s1, .fr (.lst [a, b]), s3, s4, s5, s6, s7, .fr ρ8, .fr ρ9] μ := by
  have nab : noHnd (.lst [a, b]) = true := by simp only [noHnd, noHndA, ha.h, hb.h]; rfl
  have na : noHnd (.lst [a]) = true := by simp only [noHnd, noHndA, ha.h]; rfl
  obtain ⟨z0, w0, k0⟩ := show_0 ha hb
  obtain ⟨z1, w1, k1⟩ := show_1 ha hb
  obtain ⟨z2, w2, k2⟩ := show_2 ha hb
  have c0 : dSl (.lst [a, b]) none (some 0) = some (.lst []) := rfl
  have c1 : dSl (.lst [a, b]) none (some 1) = some (.lst [a]) := rfl
  have c2 : dSl (.lst [a, b]) none (some 2) = some (.lst [a, b]) := rfl
  have ai : ∀ i : Int, (asI (.int i)).map some = some (some i) := fun _ => rfl
  rcases hd with rfl | rfl | rfl
  · refine ⟨.lst [], .int 0, rfl, ?_⟩
    have ok : okMs [2] [s0, s1, .fr (.lst [a, b]), s3, s4, s5, s6, s7, .fr (.lst []), .fr (.int 0)] = true := rfl
    simp -implicitDefEqProofs only [Bool.false_bne, Bool.true_bne, decide_true, decide_false, ev_bind, bK_ok, bK_exc, bK_stuck, ev_pure, ev_lift, ev_lift0, ev_stuck, ev_ite, ev_var0, ev_varS, vH_fr, vH_un, vH_ow, vH_nil, ev_seq, sqK_nx, sqK_rt, sqK_bk, sqK_ct, sqK_exc, ev_nx, ev_sH, hK_ok, hK_exc, ev_set, stK_ok, stK_exc, ev_par2, p2K_ok, p2K_exc, ev_tup, tuK_2, tuK_3, tuK_exc, ev_if, ifK_ok, ifK_exc, ev_raise, raK_1, raK_2, endK_rt, endK_nx, endK_exc, ev_body0, ev_body1, ev_body2, ev_body3, dAdd_ii, dSub_ii, dNeg_i, dLt_ii, dLe_ii, dGt_ii, dGe_ii, dAbs_i, dInt_i, d1_, dTru_bl, asB_bl, obind, omapB, dTup_1, dTup_2, dTup_3, dLst_2, dIx_t0, dIx_t1, dIx_l0, dIx_l1, List.replicate_succ, List.replicate_zero, Nat.reduceSub, Nat.reduceAdd, List.set_cons_zero, List.set_cons_succ, if_true, if_false, Bool.false_eq_true, Bool.true_eq_false, Bool.not_true, Bool.not_false, ite_true, ite_false, lb_law_2, ev_ifP, ok, vP_eq, vPn_cons, vPn_nil, spv_fr [2] _ nab, spv_fr [2] _ (show noHnd (.lst []) = true from rfl), spv_fr [2] _ (show noHnd (.int 0) = true from rfl), w0, ai, c0, dEq_same z0 k0, tpK_ok]
  · refine ⟨.lst [a], .int 1, rfl, ?_⟩
    have ok : okMs [2] [s0, s1, .fr (.lst [a, b]), s3, s4, s5, s6, s7, .fr (.lst [a]), .fr (.int 1)] = true := rfl
    simp -implicitDefEqProofs only [Bool.false_bne, Bool.true_bne, decide_true, decide_false, ev_bind, bK_ok, bK_exc, bK_stuck, ev_pure, ev_lift, ev_lift0, ev_stuck, ev_ite, ev_var0, ev_varS, vH_fr, vH_un, vH_ow, vH_nil, ev_seq, sqK_nx, sqK_rt, sqK_bk, sqK_ct, sqK_exc, ev_nx, ev_sH, hK_ok, hK_exc, ev_set, stK_ok, stK_exc, ev_par2, p2K_ok, p2K_exc, ev_tup, tuK_2, tuK_3, tuK_exc, ev_if, ifK_ok, ifK_exc, ev_raise, raK_1, raK_2, endK_rt, endK_nx, endK_exc, ev_body0, ev_body1, ev_body2, ev_body3, dAdd_ii, dSub_ii, dNeg_i, dLt_ii, dLe_ii, dGt_ii, dGe_ii, dAbs_i, dInt_i, d1_, dTru_bl, asB_bl, obind, omapB, dTup_1, dTup_2, dTup_3, dLst_2, dIx_t0, dIx_t1, dIx_l0, dIx_l1, List.replicate_succ, List.replicate_zero, Nat.reduceSub, Nat.reduceAdd, List.set_cons_zero, List.set_cons_succ, if_true, if_false, Bool.false_eq_true, Bool.true_eq_false, Bool.not_true, Bool.not_false, ite_true, ite_false, lb_law_2, ev_ifP, ok, vP_eq, vPn_cons, vPn_nil, spv_fr [2] _ nab, spv_fr [2] _ na, spv_fr [2] _ (show noHnd (.int 1) = true from rfl), w1, ai, c1, dEq_same z1 k1, tpK_ok]
  · refine ⟨.lst [a, b], .int 2, rfl, ?_⟩
    have ok : okMs [2] [s0, s1, .fr (.lst [a, b]), s3, s4, s5, s6, s7, .fr (.lst [a, b]), .fr (.int 2)] = true := rfl
    simp -implicitDefEqProofs only [Bool.false_bne, Bool.true_bne, decide_true, decide_false, ev_bind, bK_ok, bK_exc, bK_stuck, ev_pure, ev_lift, ev_lift0, ev_stuck, ev_ite, ev_var0, ev_varS, vH_fr, vH_un, vH_ow, vH_nil, ev_seq, sqK_nx, sqK_rt, sqK_bk, sqK_ct, sqK_exc, ev_nx, ev_sH, hK_ok, hK_exc, ev_set, stK_ok, stK_exc, ev_par2, p2K_ok, p2K_exc, ev_tup, tuK_2, tuK_3, tuK_exc, ev_if, ifK_ok, ifK_exc, ev_raise, raK_1, raK_2, endK_rt, endK_nx, endK_exc, ev_body0, ev_body1, ev_body2, ev_body3, dAdd_ii, dSub_ii, dNeg_i, dLt_ii, dLe_ii, dGt_ii, dGe_ii, dAbs_i, dInt_i, d1_, dTru_bl, asB_bl, obind, omapB, dTup_1, dTup_2, dTup_3, dLst_2, dIx_t0, dIx_t1, dIx_l0, dIx_l1, List.replicate_succ, List.replicate_zero, Nat.reduceSub, Nat.reduceAdd, List.set_cons_zero, List.set_cons_succ, if_true, if_false, Bool.false_eq_true, Bool.true_eq_false, Bool.not_true, Bool.not_false, ite_true, ite_false, lb_law_2, ev_ifP, ok, vP_eq, vPn_cons, vPn_nil, spv_fr [2] _ nab, spv_fr [2] _ (show noHnd (.int 2) = true from rfl), w2, ai, c2, dEq_same z2 k2, tpK_ok]
theorem shows_eq (s0 s1 s3 s4 s5 s6 s7 : Slot) (μ : List Mob) : ∀ (ds : List D) (s8 s9 : Slot), (∀ d ∈ ds, Fit a b d) → ∃ t8 t9, sForN (.tu [.nm 8, .nm 9]) lb_law_2 ds [s0, s1, .fr (.lst [a, b]), s3, s4, s5, s6, s7, s8, s9] μ = .nx [s0, s1, .fr (.lst [a, b]), s3, s4, s5, s6, s7, t8, t9] μ
  | [], s8, s9, _ => ⟨s8, s9, rfl⟩
  | d :: ds, s8, s9, h => by
    obtain ⟨r8, r9, e1, e2⟩ := body_eq ha hb s0 s1 s3 s4 s5 s6 s7 s8 s9 d (h d List.mem_cons_self) μ
    obtain ⟨t8, t9, e3⟩ := shows_eq s0 s1 s3 s4 s5 s6 s7 μ ds (.fr r8) (.fr r9) fun x hx => h x (List.mem_cons_of_mem _ hx)
    refine ⟨t8, t9, ?_⟩
    unfold sForN
    rw [e1]
    simp only
    rw [e2]
    exact e3
end
theorem law_ok (ns : List Int) : LawOk f_law ns := by
  obtain ⟨p, e, ok⟩ := pen_eq ns
  obtain ⟨a, v1, p1, e1, ha, ok1⟩ := give_eq p 9 (ok.less (by decide)) (.fr (.scr (ns.map .int))) (.fr (.int 0)) .un .un .un .un .un .un [] (by decide)
  obtain ⟨b, v2, p2, e2, hb, ok2⟩ := give_eq p1 0 ok1 (.fr (.scr (ns.map .int))) (.fr (.int 1)) (.fr v1) .un .un .un .un .un [a] (by show 1 < 100; decide)
  obtain ⟨k', e', e3⟩ := kinds_eq a b (.fr (.lst [a, b])) (.fr v2) .un .un .un .un .un (.scr (ns.map .int)) (.int 1) [penM p2]
  have fit : ∀ d ∈ zipD [.lst [a], .lst [a, b], .lst [a, b], .lst [a], .lst [a], .lst [a], .lst [a], .lst [], .lst [a], .lst [a], .lst [a, b], .lst [], .lst []] [.int 1, .int 2, .int 2, .int 1, .int 1, .int 1, .int 1, .int 0, .int 1, .int 1, .int 2, .int 0, .int 0], Fit a b d := by
    intro d hd
    simp only [zipD, List.zipWith_cons_cons, List.zipWith_nil_right, List.mem_cons, List.not_mem_nil, or_false] at hd
    unfold Fit
    rcases hd with rfl | rfl | rfl | rfl | rfl | rfl | rfl | rfl | rfl | rfl | rfl | rfl | rfl <;> first | exact .inl rfl | exact .inr (.inl rfl) | exact .inr (.inr rfl)
  obtain ⟨t8, t9, e4⟩ := shows_eq ha hb (.fr (.scr (ns.map .int))) (.fr (.hnd 0)) (.fr k') (.fr v2) (.fr (.lst (rowD a b))) (.fr e') .un [penM p2] _ .un .un fit
  have nab : noHnd (.lst [a, b]) = true := by simp only [noHnd, noHndA, ha.h, hb.h]; rfl
  have r2 : dRng1 [.int 2] = some [.int 0, .int 1] := rfl
  have en : dEnum [.lst (rowD a b)] = some (enumD (rowD a b)) := rfl
  have zp : ∀ xs ys, dZip [.lst xs, .lst ys] = some (zipD xs ys) := fun _ _ => rfl
  have ms : dLst [.int 1, .int 2, .int 2, .int 1, .int 1, .int 1, .int 1, .int 0, .int 1, .int 1, .int 2, .int 0, .int 0] = some (.lst [.int 1, .int 2, .int 2, .int 1, .int 1, .int 1, .int 1, .int 0, .int 1, .int 1, .int 2, .int 0, .int 0]) := rfl
  have ok5 : okMs [2] [.fr (.scr (ns.map .int)), .fr (.hnd 0), .ow (.lst [a, b]), .fr (.int 1), .fr v2, .un, .un, .un, .un, .un] = true := rfl
  have i0 : dIx (.lst [a, b]) (.int 0) = some a := rfl
  have i1 : dIx (.lst [a, b]) (.int 1) = some b := rfl
  have fl : D.flat (.lst (rowD a b)) = false := rfl
  refine ⟨[penM p2], ?_⟩
  have f1 : sForN (.nm 3) lb_law_0 [.int 0, .int 1] [.fr (.scr (ns.map .int)), .fr (.hnd 0), .ow (.lst []), .un, .un, .un, .un, .un, .un, .un] [penM p] = .nx [.fr (.scr (ns.map .int)), .fr (.hnd 0), .ow (.lst [a, b]), .fr (.int 1), .fr v2, .un, .un, .un, .un, .un] [penM p2] := by
    rw [for_cons]
    simp only [List.set_cons_succ, List.set_cons_zero]
    rw [e1, foK_nx, for_cons]
    simp only [List.set_cons_succ, List.set_cons_zero, List.nil_append]
    rw [e2, foK_nx]
    rfl
  simp -implicitDefEqProofs only [Bool.false_bne, Bool.true_bne, decide_true, decide_false, ev_bind, bK_ok, bK_exc, bK_stuck, ev_pure, ev_lift, ev_lift0, ev_stuck, ev_ite, ev_var0, ev_varS, vH_fr, vH_un, vH_ow, vH_nil, ev_seq, sqK_nx, sqK_rt, sqK_bk, sqK_ct, sqK_exc, ev_nx, ev_sH, hK_ok, hK_exc, ev_set, stK_ok, stK_exc, ev_par2, p2K_ok, p2K_exc, ev_tup, tuK_2, tuK_3, tuK_exc, ev_if, ifK_ok, ifK_exc, ev_raise, raK_1, raK_2, endK_rt, endK_nx, endK_exc, ev_body0, ev_body1, ev_body2, ev_body3, dAdd_ii, dSub_ii, dNeg_i, dLt_ii, dLe_ii, dGt_ii, dGe_ii, dAbs_i, dInt_i, d1_, dTru_bl, asB_bl, obind, omapB, dTup_1, dTup_2, dTup_3, dLst_2, dIx_t0, dIx_t1, dIx_l0, dIx_l1, List.replicate_succ, List.replicate_zero, Nat.reduceSub, Nat.reduceAdd, List.set_cons_zero, List.set_cons_succ, if_true, if_false, Bool.false_eq_true, Bool.true_eq_false, Bool.not_true, Bool.not_false, ite_true, ite_false, f_law, e, ev_setFM, ev_setM, ev_mdH, dLst_0, ev_for, r2, f1, ev_mdP, ok5, vP_eq, vPn_cons, vPn_nil, spv_ow [2] 2 nab rfl, i0, i1, objects_eq, pK_ok, fl, frz_eq, frzn_cons, frzn_nil, frs1_fr, frs1_un, frs1_ow [2] 2 _ rfl, en, e3, fields_eq, ms, zp, e4]
end Wk
set_option Elab.async false
set_option linter.all false
set_option maxRecDepth 100000
set_option maxHeartbeats 0
namespace Wk
open PySem PySem.Spec PyProof.Rows L2 DX
abbrev R : PySem.W.OpenRow := PySem.W.OpenLaw.row PySem.Challenge.rw_flowpapers_k00_errors
abbrev hk : PySem.W.Hook := hookY 5 fa fn tf ex
def ob (s : PySem.W.SharedT) : He.AlX := obsY 5 fa fn tf ex (HandSHeadRun.getT s)
theorem ob_eq (s : PySem.W.SharedT) : ob s = hk.obs s.abs := obsY_eq (HandSHeadRun.getT_eq s)
def loose : List PySem.Str := (["FlowError", "BadText", "BadLine", "BadNumber", "BadRow", "BadName", "Shared", "NoRest", "NotRound", "NoName", "TakenName", "NotKept", "NothingToUndo", "NothingToRedo", "_law_pen", "_law_draw", "_law_pick", "_law_far", "_law_kinds", "_law_objects"] : List PySem.Str) ++ (["_law_fields"] : List PySem.Str)
theorem run (w : World) : HandSHeadRun.RunEq R (PySem.W.view R.prog [23]) hk ob 6000 loose w := by
  intro os
  kernel_rfl
theorem facts {w : World} {mg : Str → Option Value} {fa' : Addr} {h : Heap} (hp : ∀ ns : List Int, ns.length ≤ 63 → (∀ z ∈ ns, Builtin.Int.intBits z ≤ 1048576) → LawOk f_law ns) (Y : hk.says w h) (G : h.Ns mainGlobals mg) (hmg : mg "law" = some (.ref fa')) :
    ∃ K : PySem.W.Frag, K.In h ∧ LawAtG PySem.Challenge.rw_flowpapers_k00_errors w K 4 63 "_law_script" mg fa' h := by
  obtain ⟨K, KX, c⟩ := Y
  refine ⟨K, KX, ⟨tf.map fun p => ((He.cT K p).2, p.1 ++ ".<locals>." ++ "<lambda>")⟩, tf.map (He.cT K), f_law, ?_, ?_, ?_, ?_, hp, ?_⟩
  · intro p hp
    obtain ⟨q, hq, rfl⟩ := List.mem_map.mp hp
    exact c.empty q hq
  · intro p hp
    obtain ⟨q, hq, rfl⟩ := List.mem_map.mp hp
    exact c.out q hq
  · intro p hp
    obtain ⟨q, hq, rfl⟩ := List.mem_map.mp hp
    exact PySem.W.codeHd_of_K KX (c.hd q hq)
  · intro p hp
    obtain ⟨q, hq, rfl⟩ := List.mem_map.mp hp
    exact List.mem_map.mpr ⟨He.cT K q, List.mem_map.mpr ⟨q, hq, rfl⟩, rfl⟩
  · intro base hb hG hT
    letI : Tb := ⟨tf.map fun p => ((He.cT K p).2, p.1 ++ ".<locals>." ++ "<lambda>")⟩
    have T : TT fa fn tf ex w K mg base := ⟨⟨h, KX, G, c⟩, fun p hp => hT _ (List.mem_map.mpr ⟨p, hp, rfl⟩), rfl, nodupB_ok (He.ba (He.ba (He.ba (He.ba (He.ba (He.ba (He.ba (He.ba (He.ba (He.ba (He.ba (He.ba (He.ba (He.ba (He.ba (He.ba (He.ba c.more).1).1).1).1).1).1).1).1).1).1).1).1).1).1).1).1).1⟩
    obtain ⟨f, fd, h1, h2, h3, h4⟩ := ok_law (P := PySem.Challenge.rw_flowpapers_k00_errors.prog) T
    rw [hmg] at h1
    cases h1
    exact ⟨fd, h3, h4⟩
theorem holds_of (hp : ∀ ns : List Int, ns.length ≤ 63 → (∀ z ∈ ns, Builtin.Int.intBits z ≤ 1048576) → LawOk f_law ns) : PySem.Challenge.rw_flowpapers_k00_errors.Holds := by
  open PySem.W PySem.Calls in
  w_on; o_law
  refine HandSHeadRun.head_any (r := PySem.W.OpenLaw.row PySem.Challenge.rw_flowpapers_k00_errors) (q := PySem.W.view (PySem.W.OpenLaw.row PySem.Challenge.rw_flowpapers_k00_errors).prog [23]) (H := hk) (ob := ob) (M := 6000) (loose := loose) (d := HandSHeadRun.topDef (PySem.W.OpenLaw.row PySem.Challenge.rw_flowpapers_k00_errors).prog 23) (kwd := []) ob_eq
    (by kernel_rfl) (fun s => by kernel_rfl) run (by kernel_rfl) (by kernel_rfl) (by kernel_rfl) (by rfl) (by first | assumption | decide +kernel) (by decide +kernel) ⟨rfl, rfl, rfl, rfl, rfl, by decide +kernel⟩ ?hw ?hc
  case hw => w_witness2
  case hc =>
    refine walk_G (l := PySem.Challenge.rw_flowpapers_k00_errors) (n := 63) (k := 4) (x := "_law_script") rfl (by decide) (by kernel_rfl) ⟨rfl, by decide, by decide⟩ ?F
    intro w mg fa h Y G hmg0
    have hmg : mg ("law" : PySem.Str) = some (.ref fa) := by
      have e : (HandSHeadRun.topDef (PySem.W.OpenLaw.row PySem.Challenge.rw_flowpapers_k00_errors).prog 23).name = ("law" : PySem.Str) := by kernel_rfl
      rw [← e]
      exact hmg0
    exact facts hp Y G hmg
end Wk
theorem PySem.Challenge.cw_flowpapers_k00_errors_holds : PySem.Challenge.rw_flowpapers_k00_errors.Holds := by
  exact Wk.holds_of fun ns _ _ => Wk.law_ok ns
