import PyProof.Rows.All
import Wide.All
import OpenK.AllK
import Wide.FinOn
import HandS.ForMost
import HandS.ForExc
import HandS.More
import HandS.Property
import HandS.IsInst
import HandS.CallLocal
import HandS.Defaults
import HandS.Star
import HandS.Zip
import HandS.ListItems
import HandS.Finally
import HandS.Conv
import HandS.Style
import HandS.Deep
import HandS.Sort
import KE.KDictPairs
import KE.SortData
import HandS.ClsMeth
import HandS.Head0
import HandS.Head1
import HandS.Head2
import HandS.HeadEnd
import HandS.HeadHook1
import HandS.HeadHook2
import PyProof.ReprRoads
import PyProof.ReprBulk
import PyProof.Rows.ReprShort
import KE.KStateDown
import Lean
import PySem.Challenge.RW_lanelots_k83_whole_papers_of_walks
set_option Elab.async false
set_option linter.all false
set_option maxRecDepth 100000
set_option maxHeartbeats 0
/-! Ln0: data (Dm), what represents it (Rp), the state of a def by data (Ok), expressions, tests, statements by data. -/
namespace Ln
open PySem PySem.Spec PyProof.Rows L2
/-- plain data; obj C f d: an instance of the class at C whose one attribute f is d -/
inductive Dm where
  | non | bl (b : Bool) | int (i : Int) | str (x : Str)
  | lst (ds : List Dm) | tup (ds : List Dm) | ftp (ds : List Dm) | dic (kvs : List (Key × Dm)) | obj (C : Addr) (f : Str) (d : Dm) | fn (a : Addr) | scr (ns : List Int) | ty (n : String)
mutual
/-- over the heap H the value stands for the datum -/
inductive Rp (K : PySem.W.Frag) (H : Hp) : V → Dm → Prop
  | non : Rp K H .non .non
  | bl (b : Bool) : Rp K H (.bl b) (.bl b)
  | int (i : Int) : Rp K H (.int i) (.int i)
  | str (x : Str) : Rp K H (.str x) (.str x)
  | lst {a : Addr} {xs : List V} {ds : List Dm} : H a = some (.lst xs) → RpL K H xs ds → Rp K H (.ref a) (.lst ds)
  | tup {a : Addr} {xs : List V} {ds : List Dm} : H a = some (.tup xs) → RpL K H xs ds → Rp K H (.ref a) (.tup ds)
  | ftp {a : Addr} {o : Obj} {xs : List V} {ds : List Dm} : H a = some (.frz o (.tup xs)) → o.dict = none → RpL K H xs ds → Rp K H (.ref a) (.ftp ds)
  | dic {a : Addr} {kvs : List (Key × V)} {ds : List (Key × Dm)} : H a = some (.dK kvs) → RpK K H kvs ds → Rp K H (.ref a) (.dic ds)
  | obj {a C dx : Addr} {f : Str} {v : V} {d : Dm} : H a = some (.ins C dx [(f, v)]) → Rp K H v d → Rp K H (.ref a) (.obj C f d)
  | fn (a : Addr) : Rp K H (.ref a) (.fn a)
  | ty (n : String) : Rp K H (.ty n) (.ty n)
  | scr {a : Addr} {ns : List Int} : SqL K H a (ns.map V.int) → Rp K H (.ref a) (.scr ns)
inductive RpL (K : PySem.W.Frag) (H : Hp) : List V → List Dm → Prop
  | nil : RpL K H [] []
  | cons {v : V} {vs : List V} {d : Dm} {ds : List Dm} : Rp K H v d → RpL K H vs ds → RpL K H (v :: vs) (d :: ds)
inductive RpK (K : PySem.W.Frag) (H : Hp) : List (Key × V) → List (Key × Dm) → Prop
  | nil : RpK K H [] []
  | cons {k : Key} {v : V} {vs : List (Key × V)} {d : Dm} {ds : List (Key × Dm)} : Rp K H v d → RpK K H vs ds → RpK K H ((k, v) :: vs) ((k, d) :: ds)
end
theorem same_t {K : PySem.W.Frag} {H H' : Hp} {a : Addr} {xs : List V} (e : Same H H') (h : SqT K H a xs) : SqT K H' a xs := by
  rcases h with (h | ⟨o, h⟩) | h
  · exact .inl (.inl (e _ _ h))
  · exact .inl (.inr ⟨o, e _ _ h⟩)
  · exact .inr h
theorem rd_mono {H H' : Hp} {a : Addr} {u : HO} (e : Same H H') (h : Rd H a u) : Rd H' a u := by
  rcases h with h | ⟨o, h⟩
  · exact .inl (e _ _ h)
  · exact .inr ⟨o, e _ _ h⟩
mutual
theorem Rp.mono {K : PySem.W.Frag} {H H' : Hp} (e : Same H H') : ∀ {v : V} {d : Dm}, Rp K H v d → Rp K H' v d
  | _, _, .non => .non
  | _, _, .bl b => .bl b
  | _, _, .int i => .int i
  | _, _, .str x => .str x
  | _, _, .lst h r => .lst (e _ _ h) (RpL.mono e r)
  | _, _, .tup h r => .tup (e _ _ h) (RpL.mono e r)
  | _, _, .ftp h n r => .ftp (e _ _ h) n (RpL.mono e r)
  | _, _, .dic h r => .dic (e _ _ h) (RpK.mono e r)
  | _, _, .obj h r => .obj (e _ _ h) (Rp.mono e r)
  | _, _, .fn a => .fn a
  | _, _, .ty n => .ty n
  | _, _, .scr h => .scr (e.seq h)
theorem RpL.mono {K : PySem.W.Frag} {H H' : Hp} (e : Same H H') : ∀ {v : List V} {d : List Dm}, RpL K H v d → RpL K H' v d
  | _, _, .nil => .nil
  | _, _, .cons h r => .cons (Rp.mono e h) (RpL.mono e r)
theorem RpK.mono {K : PySem.W.Frag} {H H' : Hp} (e : Same H H') : ∀ {v : List (Key × V)} {d : List (Key × Dm)}, RpK K H v d → RpK K H' v d
  | _, _, .nil => .nil
  | _, _, .cons h r => .cons (Rp.mono e h) (RpK.mono e r)
end
section
variable {K : PySem.W.Frag} {H H' : Hp} {v w : V} {d : Dm} {vs ws : List V} {ds es : List Dm}
theorem Rp.non_inv (h : Rp K H v .non) : v = .non := by cases h; rfl
theorem Rp.bl_inv {b : Bool} (h : Rp K H v (.bl b)) : v = .bl b := by cases h; rfl
theorem Rp.int_inv {i : Int} (h : Rp K H v (.int i)) : v = .int i := by cases h; rfl
theorem Rp.str_inv {x : Str} (h : Rp K H v (.str x)) : v = .str x := by cases h; rfl
theorem Rp.lst_inv (h : Rp K H v (.lst ds)) : ∃ a xs, v = .ref a ∧ H a = some (.lst xs) ∧ RpL K H xs ds := by
  cases h with
  | lst h r => exact ⟨_, _, rfl, h, r⟩
theorem Rp.tup_inv (h : Rp K H v (.tup ds)) : ∃ a xs, v = .ref a ∧ H a = some (.tup xs) ∧ RpL K H xs ds := by
  cases h with
  | tup h r => exact ⟨_, _, rfl, h, r⟩
/-- a tuple's items, of either kind -/
def Dm.tp : Dm → Option (List Dm)
  | .tup ds => some ds
  | .ftp ds => some ds
  | _ => none
theorem Rp.tp_inv (t : d.tp = some ds) (h : Rp K H v d) : ∃ a xs, v = .ref a ∧ SqT K H a xs ∧ RpL K H xs ds := by
  cases d <;> first | exact nomatch (show (none : Option (List Dm)) = some ds from t) | skip
  · cases (Option.some.inj t)
    cases h with
    | tup h r => exact ⟨_, _, rfl, .inl (.inl h), r⟩
  · cases (Option.some.inj t)
    cases h with
    | ftp h n r => exact ⟨_, _, rfl, .inl (.inr ⟨_, h⟩), r⟩
theorem Rp.ftp_inv (h : Rp K H v (.ftp ds)) : ∃ a o xs, v = .ref a ∧ H a = some (.frz o (.tup xs)) ∧ o.dict = none ∧ RpL K H xs ds := by
  cases h with
  | ftp h n r => exact ⟨_, _, _, rfl, h, n, r⟩
theorem Rp.dic_inv {ks : List (Key × Dm)} (h : Rp K H v (.dic ks)) : ∃ a kvs, v = .ref a ∧ H a = some (.dK kvs) ∧ RpK K H kvs ks := by
  cases h with
  | dic h r => exact ⟨_, _, rfl, h, r⟩
theorem Rp.obj_inv {C : Addr} {f : Str} (h : Rp K H v (.obj C f d)) : ∃ a dx w, v = .ref a ∧ H a = some (.ins C dx [(f, w)]) ∧ Rp K H w d := by
  cases h with
  | obj h r => exact ⟨_, _, _, rfl, h, r⟩
theorem Rp.scr_inv {ns : List Int} (h : Rp K H v (.scr ns)) : ∃ a, v = .ref a ∧ SqL K H a (ns.map V.int) := by
  cases h with
  | scr h => exact ⟨_, rfl, h⟩
theorem Rp.ty_inv {n : String} (h : Rp K H v (.ty n)) : v = .ty n := by cases h; rfl
theorem Rp.fn_inv {a : Addr} (h : Rp K H v (.fn a)) : v = .ref a := by cases h; rfl
theorem RpL.length (h : RpL K H vs ds) : vs.length = ds.length := by
  induction ds generalizing vs with
  | nil => cases h; rfl
  | cons d ds ih =>
    cases h with
    | cons a b => simp [ih b]
theorem RpL.get (h : RpL K H vs ds) {i : Nat} {v : V} (e : vs[i]? = some v) : ∃ d, ds[i]? = some d ∧ Rp K H v d := by
  induction ds generalizing vs i with
  | nil => cases h; simp at e
  | cons d ds ih =>
    cases h with
    | cons a b =>
      cases i with
      | zero => simp at e; subst e; exact ⟨d, rfl, a⟩
      | succ i => simp at e; simpa using ih b e
theorem RpL.get' (h : RpL K H vs ds) {i : Nat} {d : Dm} (e : ds[i]? = some d) : ∃ v, vs[i]? = some v ∧ Rp K H v d := by
  induction ds generalizing vs i with
  | nil => simp at e
  | cons d ds ih =>
    cases h with
    | cons a b =>
      cases i with
      | zero => simp at e; subst e; exact ⟨_, rfl, a⟩
      | succ i => simp at e; simpa using ih b e
theorem RpL.append (h : RpL K H vs ds) (h' : RpL K H ws es) : RpL K H (vs ++ ws) (ds ++ es) := by
  induction ds generalizing vs with
  | nil => cases h; exact h'
  | cons d ds ih =>
    cases h with
    | cons a b => exact .cons a (ih b)
theorem RpL.one (h : Rp K H v d) : RpL K H [v] [d] := .cons h .nil
theorem RpL.drop (n : Nat) (h : RpL K H vs ds) : RpL K H (vs.drop n) (ds.drop n) := by
  induction n generalizing vs ds with
  | zero => exact h
  | succ n ih =>
    cases h with
    | nil => exact .nil
    | cons a b => exact ih b
theorem RpL.take (n : Nat) (h : RpL K H vs ds) : RpL K H (vs.take n) (ds.take n) := by
  induction n generalizing vs ds with
  | zero => exact .nil
  | succ n ih =>
    cases h with
    | nil => exact .nil
    | cons a b => exact .cons a (ih b)
theorem RpL.ints {ns : List Int} (h : RpL K H vs (ns.map .int)) : vs = ns.map V.int := by
  induction ns generalizing vs with
  | nil => cases h; rfl
  | cons n ns ih =>
    cases h with
    | cons a b => rw [List.map_cons, ih b, a.int_inv]
theorem RpL.of_ints {ns : List Int} : RpL K H (ns.map V.int) (ns.map .int) := by
  induction ns with
  | nil => exact .nil
  | cons n ns ih => exact .cons (.int n) ih
theorem RpL.bls {ns : List Bool} (h : RpL K H vs (ns.map .bl)) : vs = ns.map V.bl := by
  induction ns generalizing vs with
  | nil => cases h; rfl
  | cons n ns ih =>
    cases h with
    | cons a b => rw [List.map_cons, ih b, a.bl_inv]
end
/-! ### the state of a def -/
/-- what a slot holds: a datum; the pot that is drawn from; a list or a dict that this def alone holds; a new instance without an attribute, with its one attribute -/
inductive Cl where
  | v (d : Dm) | pot | o (d : Dm) | ro (d : Dm) | new (a C : Addr) | made (a C : Addr) (f : Str) (d : Dm) | x (p : Hp → Hp → V → Prop)
abbrev Env := List (Option Cl)
/-- what stays the same through a def: the pot's address, what stood at the entry (but the pot), what was known then -/
structure Fr where
  P : Option Addr
  F : Hp
  G0 : Hp
def OwnAt (K : PySem.W.Frag) (G H : Hp) (a : Addr) : Dm → Prop
  | .lst ds => ∃ xs, H a = some (.lst xs) ∧ RpL K G xs ds
  | .dic ks => ∃ kvs, H a = some (.dK kvs) ∧ RpK K G kvs ks
  | _ => False
/-- what an expression may do: new objects alone, and draws -/
structure Adv (P : Option Addr) (G H G' H' : Hp) : Prop where
  gg : Same G G'
  hh : ∀ q o, P ≠ some q → H q = some o → H' q = some o
  gr : ∀ q, G q = none → H q ≠ none → G' q = none
  gh : Same G' H'
  pot : ∀ p, P = some p → ∃ a b, H' p = some (.lst [.int a, .int b])
def CellOk (K : PySem.W.Frag) (Z : Fr) (G H : Hp) (v : V) : Cl → Prop
  | .v d => Rp K G v d
  | .pot => ∃ p, Z.P = some p ∧ v = .ref p
  | .o d => ∃ a, v = .ref a ∧ G a = none ∧ Z.F a = none ∧ Z.P ≠ some a ∧ OwnAt K G H a d
  | .ro d => ∃ a, v = .ref a ∧ G a = none ∧ Z.P ≠ some a ∧ OwnAt K G H a d
  | .new a C => ∃ dx, v = .ref a ∧ G a = none ∧ Z.F a = none ∧ Z.P ≠ some a ∧ H a = some (.ins C dx [])
  | .made a C f d => ∃ dx w, v = .ref a ∧ G a = none ∧ Z.F a = none ∧ Z.P ≠ some a ∧ H a = some (.ins C dx [(f, w)]) ∧ Rp K G w d
  | .x p => ∀ G' H', Adv Z.P G H G' H' → p G' H' v
def Cl.isOwn : Cl → Bool
  | .o _ => true
  | .ro _ => true
  | .new _ _ => true
  | .made _ _ _ _ => true
  | _ => false
/-- the heap's part -/
structure Hz (Z : Fr) (G H : Hp) : Prop where
  exG : Same G H
  exF : Same Z.F H
  g0 : Same Z.G0 G
  fg : ∀ q, Z.F q ≠ none → Z.G0 q = none → G q = none
  pot : ∀ p, Z.P = some p → G p = none ∧ Z.F p = none ∧ ∃ a b, H p = some (.lst [.int a, .int b])
structure Ok (K : PySem.W.Frag) (Z : Fr) (G H : Hp) (σ : L2.St) (env : Env) : Prop where
  hz : Hz Z G H
  len : σ.length = env.length
  slots : ∀ (i : Nat) (c : Cl), env[i]? = some (some c) → ∃ v, σ[i]? = some (some v) ∧ CellOk K Z G H v c
  sep : ∀ (i j : Nat) (ci cj : Cl) (a : Addr), i ≠ j → env[i]? = some (some ci) → ci.isOwn = true → env[j]? = some (some cj) → cj.isOwn = true → σ[i]? = some (some (.ref a)) → σ[j]? = some (some (.ref a)) → False
theorem same_refl {H : Hp} : Same H H := fun _ _ e => e
section
variable {K : PySem.W.Frag} {Z : Fr} {P : Option Addr} {G H G' H' G2 H2 : Hp} {σ : L2.St} {env : Env} {v : V} {c : Cl}
theorem Adv.trans (a : Adv P G H G' H') (b : Adv P G' H' G2 H2) : Adv P G H G2 H2 := by
  refine ⟨a.gg.trans b.gg, fun q o n e => b.hh q o n (a.hh q o n e), fun q h1 h2 => ?_, b.gh, b.pot⟩
  refine b.gr q (a.gr q h1 h2) ?_
  by_cases hp : P = some q
  · obtain ⟨x, y, e⟩ := a.pot q hp
    rw [e]; simp
  · cases e : H q with
    | none => exact absurd e h2
    | some o => rw [a.hh q o hp e]; simp
theorem Hz.refl (h : Hz Z G H) : Adv Z.P G H G H := ⟨same_refl, fun _ _ _ e => e, fun _ e _ => e, h.exG, fun p hp => (h.pot p hp).2.2⟩
theorem OwnAt.adv {a : Addr} {d : Dm} (h : OwnAt K G H a d) (n : P ≠ some a) (x : Adv P G H G' H') : OwnAt K G' H' a d := by
  cases d with
  | lst ds => obtain ⟨xs, e, r⟩ := h; exact ⟨xs, x.hh a _ n e, r.mono x.gg⟩
  | dic ds => obtain ⟨xs, e, r⟩ := h; exact ⟨xs, x.hh a _ n e, r.mono x.gg⟩
  | _ => exact (show False from h).elim
theorem OwnAt.there {a : Addr} {d : Dm} (h : OwnAt K G H a d) : H a ≠ none := by
  cases d with
  | lst ds => obtain ⟨xs, e, r⟩ := h; rw [e]; simp
  | dic ds => obtain ⟨xs, e, r⟩ := h; rw [e]; simp
  | _ => exact (show False from h).elim
theorem CellOk.adv (h : CellOk K Z G H v c) (x : Adv Z.P G H G' H') : CellOk K Z G' H' v c := by
  cases c with
  | v d => exact Rp.mono x.gg h
  | pot => exact h
  | o d =>
    obtain ⟨a, e, g, f, n, w⟩ := h
    exact ⟨a, e, x.gr a g w.there, f, n, w.adv n x⟩
  | ro d =>
    obtain ⟨a, e, g, n, w⟩ := h
    exact ⟨a, e, x.gr a g w.there, n, w.adv n x⟩
  | new a C =>
    obtain ⟨dx, e, g, f, n, w⟩ := h
    exact ⟨dx, e, x.gr a g (by rw [w]; simp), f, n, x.hh a _ n w⟩
  | made a C fl d =>
    obtain ⟨dx, y, e, g, f, n, w, r⟩ := h
    exact ⟨dx, y, e, x.gr a g (by rw [w]; simp), f, n, x.hh a _ n w, r.mono x.gg⟩
  | x p => exact fun G2 H2 y => h G2 H2 (x.trans y)
theorem Hz.adv (h : Hz Z G H) (x : Adv Z.P G H G' H') : Hz Z G' H' := by
  have keepF : Same Z.F H' := fun q o e => x.hh q o (fun z => by have := (h.pot q z).2.1; rw [this] at e; cases e) (h.exF q o e)
  refine ⟨x.gh, keepF, h.g0.trans x.gg, fun q h1 h2 => x.gr q (h.fg q h1 h2) ?_, fun p hp => ?_⟩
  · cases e : Z.F q with
    | none => exact absurd e h1
    | some o => rw [h.exF q o e]; simp
  · obtain ⟨h1, h2, a, b, e⟩ := h.pot p hp
    exact ⟨x.gr p h1 (by rw [e]; simp), h2, x.pot p hp⟩
theorem Ok.adv (h : Ok K Z G H σ env) (x : Adv Z.P G H G' H') : Ok K Z G' H' σ env :=
  ⟨h.hz.adv x, h.len, fun i c e => let ⟨v, e1, e2⟩ := h.slots i c e; ⟨v, e1, e2.adv x⟩, h.sep⟩
/-- a new object, known from now on -/
theorem Adv.new {p : Addr} {o : HO} (h : Hz Z G H) (n : H p = none) : Adv Z.P G H (upd G p o) (upd H p o) := by
  have gn : G p = none := h.exG.free n
  refine ⟨fun q u e => ?_, fun q u _ e => ?_, fun q e1 e2 => ?_, fun q u e => ?_, fun q hq => ?_⟩
  · rw [upd_ne (ne_of_none e gn)]; exact e
  · rw [upd_ne (ne_of_none e n)]; exact e
  · by_cases z : q = p
    · subst z; exact absurd n e2
    · rw [upd_ne z]; exact e1
  · by_cases z : q = p
    · subst z; rw [upd_same] at e ⊢; exact e
    · rw [upd_ne z] at e ⊢; exact h.exG q u e
  · obtain ⟨_, _, a, b, e⟩ := h.pot q hq
    exact ⟨a, b, by rw [upd_ne (ne_of_none e n)]; exact e⟩
/-- a new object that nobody speaks of -/
theorem Adv.skip {p : Addr} {o : HO} (h : Hz Z G H) (n : H p = none) : Adv Z.P G H G (upd H p o) := by
  refine ⟨same_refl, fun q u _ e => ?_, fun q e1 e2 => e1, fun q u e => ?_, fun q hq => ?_⟩
  · rw [upd_ne (ne_of_none e n)]; exact e
  · have e' := h.exG q u e
    rw [upd_ne (ne_of_none e' n)]; exact e'
  · obtain ⟨_, _, a, b, e⟩ := h.pot q hq
    exact ⟨a, b, by rw [upd_ne (ne_of_none e n)]; exact e⟩
end
end Ln
/-! Ln1: what expressions, tests, arguments, targets, statements do, by data. -/
namespace Ln
open PySem PySem.Spec PyProof.Rows L2
/-- an argument: a datum, or the pot -/
inductive Ag where
  | v (d : Dm) | pot
def ArgOk (K : PySem.W.Frag) (P : Option Addr) (G : Hp) (v : V) : Ag → Prop
  | .v d => Rp K G v d
  | .pot => ∃ p, P = some p ∧ v = .ref p
inductive Args (K : PySem.W.Frag) (P : Option Addr) (G : Hp) : List V → List Ag → Prop
  | nil : Args K P G [] []
  | cons {v : V} {vs : List V} {a : Ag} {as : List Ag} : ArgOk K P G v a → Args K P G vs as → Args K P G (v :: vs) (a :: as)
theorem ArgOk.mono {K : PySem.W.Frag} {P : Option Addr} {G G' : Hp} {v : V} {a : Ag} (e : Same G G') (h : ArgOk K P G v a) : ArgOk K P G' v a := by
  cases a with
  | v d => exact Rp.mono e h
  | pot => exact h
theorem Args.mono {K : PySem.W.Frag} {P : Option Addr} {G G' : Hp} (e : Same G G') : ∀ {vs : List V} {as : List Ag}, Args K P G vs as → Args K P G' vs as
  | _, _, .nil => .nil
  | _, _, .cons h r => .cons (h.mono e) (r.mono e)
theorem Args.length {K : PySem.W.Frag} {P : Option Addr} {G : Hp} : ∀ {vs : List V} {as : List Ag}, Args K P G vs as → vs.length = as.length
  | _, _, .nil => rfl
  | _, _, .cons h r => by simp [r.length]
theorem Args.of_rpl {K : PySem.W.Frag} {P : Option Addr} {G : Hp} : ∀ {vs : List V} {ds : List Dm}, RpL K G vs ds → Args K P G vs (ds.map .v)
  | _, _, .nil => .nil
  | _, _, .cons h r => .cons h (Args.of_rpl r)
theorem Args.rpl {K : PySem.W.Frag} {P : Option Addr} {G : Hp} : ∀ {vs : List V} {ds : List Dm}, Args K P G vs (ds.map .v) → RpL K G vs ds
  | _, [], .nil => .nil
  | _, _ :: _, .cons h r => .cons h (Args.rpl r)
section
variable (K : PySem.W.Frag) (Z : Fr)
def Ev (te : TE) (env : Env) (k : Dm → Prop) : Prop :=
  ∀ (G H : Hp) (σ : L2.St), Ok K Z G H σ env → ∀ Q : VK, (∀ d v G' H', k d → Adv Z.P G H G' H' → Rp K G' v d → Q v H') → te σ H Q
def Ec (te : TE) (env : Env) (k : Ag → Prop) : Prop :=
  ∀ (G H : Hp) (σ : L2.St), Ok K Z G H σ env → ∀ Q : VK, (∀ a v G' H', k a → Adv Z.P G H G' H' → ArgOk K Z.P G' v a → Q v H') → te σ H Q
def Ea (ta : TA) (env : Env) (k : List Ag → Prop) : Prop :=
  ∀ (G H : Hp) (σ : L2.St), Ok K Z G H σ env → ∀ Q : List V → Hp → Prop, (∀ as vs G' H', k as → Adv Z.P G H G' H' → Args K Z.P G' vs as → Q vs H') → ta σ H Q
def Et (tt : TT) (env : Env) (k : Bool → Prop) : Prop :=
  ∀ (G H : Hp) (σ : L2.St), Ok K Z G H σ env → ∀ Q : Bool → Hp → Prop, (∀ b G' H', k b → Adv Z.P G H G' H' → Q b H') → tt σ H Q
/-- a store of the datum d -/
def Eg (g : TG) (d : Dm) (env : Env) (k : Env → Prop) : Prop :=
  ∀ (G H : Hp) (σ : L2.St) (v : V), Ok K Z G H σ env → Rp K G v d → ∀ Q : L2.St → Hp → Prop, (∀ env' σ' G' H', k env' → Ok K Z G' H' σ' env' → Same G G' → Q σ' H') → g v σ H Q
def Egs (g : TGs) (ds : List Dm) (env : Env) (k : Env → Prop) : Prop :=
  ∀ (G H : Hp) (σ : L2.St) (vs : List V), Ok K Z G H σ env → RpL K G vs ds → ∀ Q : L2.St → Hp → Prop, (∀ env' σ' G' H', k env' → Ok K Z G' H' σ' env' → Same G G' → Q σ' H') → g vs σ H Q
/-- what is wanted behind a statement -/
structure Wn where
  nx : Env → Prop
  rt : Dm → Prop
  bk : Env → Prop := fun _ => False
  ct : Env → Prop := fun _ => False
  rx : (Hp → Hp → V → Prop) → Prop := fun _ => False
structure Ends' (G : Hp) (D : Wn) (D' : Ends) : Prop where
  nx : ∀ env' σ' G' H', D.nx env' → Ok K Z G' H' σ' env' → Same G G' → D'.nx σ' H'
  bk : ∀ env' σ' G' H', D.bk env' → Ok K Z G' H' σ' env' → Same G G' → D'.bk σ' H'
  ct : ∀ env' σ' G' H', D.ct env' → Ok K Z G' H' σ' env' → Same G G' → D'.ct σ' H'
  rt : ∀ d v G' H', D.rt d → Hz Z G' H' → Same G G' → Rp K G' v d → D'.rt v H'
  rx : ∀ (p : Hp → Hp → V → Prop) v G' H', D.rx p → Hz Z G' H' → Same G G' → (∀ G2 H2, Adv Z.P G' H' G2 H2 → p G2 H2 v) → D'.rt v H'
def Es (ts : TS) (env : Env) (D : Wn) : Prop :=
  ∀ (G H : Hp) (σ : L2.St), Ok K Z G H σ env → ∀ D' : Ends, Ends' K Z G D D' → ts D' σ H
end
section
variable {K : PySem.W.Frag} {Z : Fr} {te ta tb tc : TE} {env : Env} {k : Dm → Prop}
theorem Ev.mono {k' : Dm → Prop} (h : Ev K Z te env k) (i : ∀ d, k d → k' d) : Ev K Z te env k' := fun G H σ ok Q q => h G H σ ok Q fun d v G' H' kd => q d v G' H' (i d kd)
theorem Et.mono {tt : TT} {k k' : Bool → Prop} (h : Et K Z tt env k) (i : ∀ d, k d → k' d) : Et K Z tt env k' := fun G H σ ok Q q => h G H σ ok Q fun d G' H' kd => q d G' H' (i d kd)
/-! ### expressions -/
theorem ev_var {i : Nat} {d : Dm} (h : env[i]? = some (some (.v d))) (q : k d) : Ev K Z (tVar i) env k := fun G H σ ok Q c => by
  obtain ⟨v, e1, e2⟩ := ok.slots i _ h
  exact ⟨v, e1, c d v G H q ok.hz.refl e2⟩
theorem ev_int {i : Int} (q : k (.int i)) : Ev K Z (tC (.int i)) env k := fun G H σ ok Q c => c _ _ G H q ok.hz.refl (.int i)
theorem ev_bl {b : Bool} (q : k (.bl b)) : Ev K Z (tC (.bl b)) env k := fun G H σ ok Q c => c _ _ G H q ok.hz.refl (.bl b)
theorem ev_str {b : Str} (q : k (.str b)) : Ev K Z (tC (.str b)) env k := fun G H σ ok Q c => c _ _ G H q ok.hz.refl (.str b)
theorem ev_non (q : k .non) : Ev K Z (tC .non) env k := fun G H σ ok Q c => c _ _ G H q ok.hz.refl .non
theorem ev_ty {n : String} (q : k (.ty n)) : Ev K Z (tC (.ty n)) env k := fun G H σ ok Q c => c _ _ G H q ok.hz.refl (.ty n)
theorem ev_fn {a : Addr} (q : k (.fn a)) : Ev K Z (tC (.ref a)) env k := fun G H σ ok Q c => c _ _ G H q ok.hz.refl (.fn a)
/-- two operands, then an operation on their values -/
def Er (K : PySem.W.Frag) (Z : Fr) (r : R2) (da db : Dm) (k : Dm → Prop) : Prop :=
  ∀ (G H : Hp) (x y : V), Hz Z G H → Rp K G x da → Rp K G y db → ∀ Q : VK, (∀ d v G' H', k d → Adv Z.P G H G' H' → Rp K G' v d → Q v H') → r x y H Q
theorem ev_op {r : R2} (h : Ev K Z ta env fun da => Ev K Z tb env fun db => Er K Z r da db k) : Ev K Z (tOp r ta tb) env k := fun G H σ ok Q c => by
  refine h G H σ ok _ fun da x G1 H1 hb a1 rx => ?_
  refine hb G1 H1 σ (ok.adv a1) _ fun db y G2 H2 hr a2 ry => ?_
  exact hr G2 H2 x y ((ok.adv a1).adv a2).hz (rx.mono a2.gg) ry Q fun d v G' H' kd a3 rv => c d v G' H' kd ((a1.trans a2).trans a3) rv
theorem er_val {r : R2} {da db d : Dm} (q : k d) (h : ∀ (G H : Hp) (x y : V), Hz Z G H → Rp K G x da → Rp K G y db → ∀ Q : VK, (∀ v, Rp K G v d → Q v H) → r x y H Q) : Er K Z r da db k := fun G H x y hz rx ry Q c =>
  h G H x y hz rx ry Q fun v rv => c d v G H q hz.refl rv
theorem er_i0 {g : Int → Int → Int} {i j : Int} (q : k (.int (g i j))) : Er K Z (rI0 fun i j => .int (g i j)) (.int i) (.int j) k :=
  er_val q fun G H x y _ rx ry Q c => ⟨i, j, rx.int_inv, ry.int_inv, c _ (.int _)⟩
theorem er_b0 {g : Int → Int → Bool} {i j : Int} (q : k (.bl (g i j))) : Er K Z (rI0 fun i j => .bl (g i j)) (.int i) (.int j) k :=
  er_val q fun G H x y _ rx ry Q c => ⟨i, j, rx.int_inv, ry.int_inv, c _ (.bl _)⟩
theorem er_i {C : Int → Int → Prop} {g : Int → Int → Int} {i j : Int} (hc : C i j) (q : k (.int (g i j))) : Er K Z (rI C fun i j => .int (g i j)) (.int i) (.int j) k :=
  er_val q fun G H x y _ rx ry Q c => ⟨i, j, rx.int_inv, ry.int_inv, hc, c _ (.int _)⟩
theorem ev_un {r : V → Hp → VK → Prop} (h : Ev K Z ta env fun da => ∀ (G H : Hp) (x : V), Hz Z G H → Rp K G x da → ∀ Q : VK, (∀ d v G' H', k d → Adv Z.P G H G' H' → Rp K G' v d → Q v H') → r x H Q) : Ev K Z (tUn r ta) env k := fun G H σ ok Q c => by
  refine h G H σ ok _ fun da x G1 H1 hb a1 rx => ?_
  exact hb G1 H1 x (ok.adv a1).hz rx Q fun d v G' H' kd a2 rv => c d v G' H' kd (a1.trans a2) rv
theorem ev_neg (h : Ev K Z ta env fun da => ∃ i, da = .int i ∧ k (.int (-i))) : Ev K Z (tUn (rU fun i => .int (-i)) ta) env k := ev_un (h.mono fun d ⟨i, e, q⟩ G H x hz rx Q c => by
  subst e
  exact ⟨i, rx.int_inv, c _ _ G H q hz.refl (.int _)⟩)
/-! ### scalars compared -/
def sEq : Dm → Dm → Option Bool
  | .non, .non => some true | .non, .int _ => some false | .int _, .non => some false
  | .int i, .int j => some (decide (i = j)) | .bl i, .bl j => some (i == j) | .str i, .str j => some (decide (i = j))
  | _, _ => none
theorem sEq_ok {K : PySem.W.Frag} {G : Hp} {x y : V} {da db : Dm} {b : Bool} (h : sEq da db = some b) (rx : Rp K G x da) (ry : Rp K G y db) : scal x y = true ∧ decide (x = y) = b := by
  cases da <;> cases db <;> first
    | (exact nomatch (show (none : Option Bool) = some b from h); done)
    | (have e := Option.some.inj h
       subst e
       first
         | (rw [rx.non_inv, ry.non_inv]; exact ⟨rfl, by simp⟩)
         | (rw [rx.non_inv, ry.int_inv]; exact ⟨rfl, by simp⟩)
         | (rw [rx.int_inv, ry.non_inv]; exact ⟨rfl, by simp⟩)
         | (rw [rx.bl_inv, ry.bl_inv]; exact ⟨rfl, dec_bl⟩)
         | (rw [rx.int_inv, ry.int_inv]; exact ⟨rfl, by simp⟩)
         | (rw [rx.str_inv, ry.str_inv]; exact ⟨rfl, by simp⟩))
theorem er_eq {da db : Dm} (h : ∃ b, sEq da db = some b ∧ k (.bl b)) : Er K Z rEq da db k := by
  obtain ⟨b, h, q⟩ := h
  refine er_val q fun G H x y _ rx ry Q c => ?_
  obtain ⟨h1, h2⟩ := sEq_ok h rx ry
  exact ⟨h1, by rw [h2]; exact c _ (.bl b)⟩
theorem er_ne {da db : Dm} (h : ∃ b, sEq da db = some b ∧ k (.bl (!b))) : Er K Z rNe da db k := by
  obtain ⟨b, h, q⟩ := h
  refine er_val q fun G H x y _ rx ry Q c => ?_
  obtain ⟨h1, h2⟩ := sEq_ok h rx ry
  exact ⟨h1, by rw [h2]; exact c _ (.bl _)⟩
/-- is it None -/
def Dm.isNon : Dm → Bool
  | .non => true
  | _ => false
theorem Rp.isNon {K : PySem.W.Frag} {G : Hp} {x : V} {d : Dm} (r : Rp K G x d) : decide (x = .non) = d.isNon := by
  cases r <;> simp [Dm.isNon]
theorem er_isN {da : Dm} (q : k (.bl da.isNon)) : Er K Z (fun x y H Q => y = .non ∧ Q (.bl (decide (x = .non))) H) da .non k :=
  er_val q fun G H x y _ rx ry Q c => ⟨ry.non_inv, by rw [rx.isNon]; exact c _ (.bl _)⟩
theorem er_notN {da : Dm} (q : k (.bl (!da.isNon))) : Er K Z (fun x y H Q => y = .non ∧ Q (.bl (!decide (x = .non))) H) da .non k :=
  er_val q fun G H x y _ rx ry Q c => ⟨ry.non_inv, by rw [rx.isNon]; exact c _ (.bl _)⟩
/-! ### bools -/
theorem ev_andV (h : Ev K Z ta env fun da => ∃ b, da = .bl b ∧ if b = true then Ev K Z tb env k else k (.bl false)) : Ev K Z (tAndV ta tb) env k := fun G H σ ok Q c => by
  refine h G H σ ok _ fun da x G1 H1 hb a1 rx => ?_
  obtain ⟨b, e, q⟩ := hb
  subst e
  refine ⟨b, rx.bl_inv, ?_⟩
  cases b with
  | true => exact q G1 H1 σ (ok.adv a1) Q fun d v G' H' kd a2 rv => c d v G' H' kd (a1.trans a2) rv
  | false => exact c _ _ G1 H1 q a1 (.bl false)
theorem ev_orV (h : Ev K Z ta env fun da => ∃ b, da = .bl b ∧ if b = true then k (.bl true) else Ev K Z tb env k) : Ev K Z (tOrV ta tb) env k := fun G H σ ok Q c => by
  refine h G H σ ok _ fun da x G1 H1 hb a1 rx => ?_
  obtain ⟨b, e, q⟩ := hb
  subst e
  refine ⟨b, rx.bl_inv, ?_⟩
  cases b with
  | false => exact q G1 H1 σ (ok.adv a1) Q fun d v G' H' kd a2 rv => c d v G' H' kd (a1.trans a2) rv
  | true => exact c _ _ G1 H1 q a1 (.bl true)
theorem ev_notV (h : Ev K Z ta env fun da => ∃ b, da = .bl b ∧ k (.bl (!b))) : Ev K Z (tNotV ta) env k := fun G H σ ok Q c => by
  refine h G H σ ok _ fun da x G1 H1 hb a1 rx => ?_
  obtain ⟨b, e, q⟩ := hb
  subst e
  exact ⟨b, rx.bl_inv, c _ _ G1 H1 q a1 (.bl _)⟩
theorem ev_if {t : TT} (h : Et K Z t env fun b => if b = true then Ev K Z ta env k else Ev K Z tb env k) : Ev K Z (tIf t ta tb) env k := fun G H σ ok Q c => by
  refine h G H σ ok _ fun b G1 H1 hb a1 => ?_
  cases b with
  | true => exact hb G1 H1 σ (ok.adv a1) Q fun d v G' H' kd a2 rv => c d v G' H' kd (a1.trans a2) rv
  | false => exact hb G1 H1 σ (ok.adv a1) Q fun d v G' H' kd a2 rv => c d v G' H' kd (a1.trans a2) rv
/-- a op b op' c -/
theorem ev_chain {r r' : R2} (h : Ev K Z ta env fun da => Ev K Z tb env fun db => Er K Z r da db fun d => ∃ b, d = .bl b ∧ if b = true then Ev K Z tc env (fun dc => Er K Z r' db dc k) else k (.bl false)) : Ev K Z (tChain r r' ta tb tc) env k := fun G H σ ok Q c => by
  refine h G H σ ok _ fun da x G1 H1 hb a1 rx => ?_
  refine hb G1 H1 σ (ok.adv a1) _ fun db y G2 H2 hr a2 ry => ?_
  refine hr G2 H2 x y ((ok.adv a1).adv a2).hz (rx.mono a2.gg) ry _ fun d v G3 H3 kd a3 rv => ?_
  obtain ⟨b, e, q⟩ := kd
  subst e
  have ok3 := ((ok.adv a1).adv a2).adv a3
  refine ⟨b, rv.bl_inv, ?_⟩
  cases b with
  | true =>
    refine q G3 H3 σ ok3 _ fun dc z G4 H4 hr' a4 rz => ?_
    exact hr' G4 H4 y z (ok3.adv a4).hz ((ry.mono a3.gg).mono a4.gg) rz Q fun d v G' H' kd a5 rv => c d v G' H' kd ((((a1.trans a2).trans a3).trans a4).trans a5) rv
  | false => exact c _ _ G3 H3 q ((a1.trans a2).trans a3) (.bl false)
/-! ### tests -/
theorem et_test {kb : Bool → Prop} (h : Ev K Z ta env fun da => ∃ b, da = .bl b ∧ kb b) : Et K Z (tTest ta) env kb := fun G H σ ok Q c => by
  refine h G H σ ok _ fun da x G1 H1 hb a1 rx => ?_
  obtain ⟨b, e, q⟩ := hb
  subst e
  exact ⟨b, rx.bl_inv, c b G1 H1 q a1⟩
theorem et_B {kb : Bool → Prop} (h : Ev K Z ta env fun da => ∃ b, da = .bl b ∧ kb b) : Et K Z (tB ta) env kb := fun G H σ ok Q c => by
  refine h G H σ ok _ fun da x G1 H1 hb a1 rx => ?_
  obtain ⟨b, e, q⟩ := hb
  subst e
  exact ⟨b, rx.bl_inv, c b G1 H1 q a1⟩
theorem et_yes {kb : Bool → Prop} (h : kb true) : Et K Z tYes env kb := fun G H σ ok Q c => c true G H h ok.hz.refl
theorem et_and {t u : TT} {kb : Bool → Prop} (h : Et K Z t env fun b => if b = true then Et K Z u env kb else kb false) : Et K Z (tAnd t u) env kb := fun G H σ ok Q c => by
  refine h G H σ ok _ fun b G1 H1 hb a1 => ?_
  cases b with
  | true => exact hb G1 H1 σ (ok.adv a1) Q fun d G' H' kd a2 => c d G' H' kd (a1.trans a2)
  | false => exact c false G1 H1 hb a1
theorem et_or {t u : TT} {kb : Bool → Prop} (h : Et K Z t env fun b => if b = true then kb true else Et K Z u env kb) : Et K Z (tOr t u) env kb := fun G H σ ok Q c => by
  refine h G H σ ok _ fun b G1 H1 hb a1 => ?_
  cases b with
  | false => exact hb G1 H1 σ (ok.adv a1) Q fun d G' H' kd a2 => c d G' H' kd (a1.trans a2)
  | true => exact c true G1 H1 hb a1
theorem et_not {t : TT} {kb : Bool → Prop} (h : Et K Z t env fun b => kb (!b)) : Et K Z (tNot t) env kb := fun G H σ ok Q c => by
  refine h G H σ ok _ fun b G1 H1 hb a1 => c (!b) G1 H1 hb a1
/-! ### arguments -/
theorem ec_pot {i : Nat} {ka : Ag → Prop} (h : env[i]? = some (some .pot)) (q : ka .pot) : Ec K Z (tVar i) env ka := fun G H σ ok Q c => by
  obtain ⟨v, e1, e2⟩ := ok.slots i _ h
  exact ⟨v, e1, c .pot v G H q ok.hz.refl e2⟩
theorem ec_v {ka : Ag → Prop} (h : Ev K Z te env fun d => ka (.v d)) : Ec K Z te env ka := fun G H σ ok Q c =>
  h G H σ ok Q fun d v G' H' kd a1 rv => c (.v d) v G' H' kd a1 rv
theorem ea_nil {ka : List Ag → Prop} (q : ka []) : Ea K Z tNil env ka := fun G H σ ok Q c => c [] [] G H q ok.hz.refl .nil
theorem ea_cons {ta : TE} {tr : TA} {ka : List Ag → Prop} (h : Ec K Z ta env fun a => Ea K Z tr env fun as => ka (a :: as)) : Ea K Z (tCons ta tr) env ka := fun G H σ ok Q c => by
  refine h G H σ ok _ fun a x G1 H1 hb a1 rx => ?_
  refine hb G1 H1 σ (ok.adv a1) _ fun as vs G2 H2 hr a2 ry => ?_
  exact c (a :: as) (x :: vs) G2 H2 hr (a1.trans a2) (.cons (rx.mono a2.gg) ry)
theorem ea_v {ta : TE} {tr : TA} {ka : List Ag → Prop} (h : Ev K Z ta env fun d => Ea K Z tr env fun as => ka (.v d :: as)) : Ea K Z (tCons ta tr) env ka := ea_cons (ec_v h)
theorem ea_pot {i : Nat} {tr : TA} {ka : List Ag → Prop} (h : env[i]? = some (some .pot)) (q : Ea K Z tr env fun as => ka (.pot :: as)) : Ea K Z (tCons (tVar i) tr) env ka := ea_cons (ec_pot h q)
/-! ### displays -/
theorem rpl_of_args {P : Option Addr} {G : Hp} {vs : List V} {as : List Ag} {ds : List Dm} (h : Args K P G vs as) (e : as = ds.map .v) : RpL K G vs ds := by
  subst e
  exact h.rpl
theorem ev_tup {t : TA} (h : Ea K Z t env fun as => ∃ ds, as = ds.map .v ∧ ds.length ≤ sizeLine ∧ k (.tup ds)) : Ev K Z (tTup t) env k := fun G H σ ok Q c => by
  refine h G H σ ok _ fun as vs G1 H1 hb a1 rx => ?_
  obtain ⟨ds, e, hl, q⟩ := hb
  have r := rpl_of_args rx e
  refine ⟨by rw [r.length]; exact hl, fun p hp => ?_⟩
  have a2 := Adv.new (o := .tup vs) (ok.adv a1).hz hp
  exact c _ _ _ _ q (a1.trans a2) (.tup upd_same (r.mono a2.gg))
theorem ev_lst {t : TA} (h : Ea K Z t env fun as => ∃ ds, as = ds.map .v ∧ ds.length ≤ sizeLine ∧ k (.lst ds)) : Ev K Z (tLst t) env k := fun G H σ ok Q c => by
  refine h G H σ ok _ fun as vs G1 H1 hb a1 rx => ?_
  obtain ⟨ds, e, hl, q⟩ := hb
  have r := rpl_of_args rx e
  refine ⟨by rw [r.length]; exact hl, fun p hp => ?_⟩
  have a2 := Adv.new (o := .lst vs) (ok.adv a1).hz hp
  exact c _ _ _ _ q (a1.trans a2) (.lst upd_same (r.mono a2.gg))
/-! ### calls -/
/-- what a def does, by data: W as k: called with as it gives back some d of which k d holds -/
abbrev Wf := List Ag → (Dm → Prop) → Prop
def spD (K : PySem.W.Frag) (W : Wf) : Sp := fun vs H Q _ => ∃ (P : Option Addr) (G : Hp) (as : List Ag) (k : Dm → Prop), Same G H ∧ (∀ p, P = some p → G p = none ∧ ∃ a b, H p = some (.lst [.int a, .int b])) ∧
  Args K P G vs as ∧ W as k ∧ ∀ d v G' H', k d → Adv P G H G' H' → Rp K G' v d → Q v H'
theorem spD_of {W : Wf} {G H : Hp} {vs : List V} {as : List Ag} {Q : VK} {E : XK} (hz : Hz Z G H) (r : Args K Z.P G vs as) (h : W as k) (c : ∀ d v G' H', k d → Adv Z.P G H G' H' → Rp K G' v d → Q v H') : spD K W vs H Q E :=
  ⟨Z.P, G, as, k, hz.exG, fun p hp => ⟨(hz.pot p hp).1, (hz.pot p hp).2.2⟩, r, h, c⟩
theorem ev_call {W : Wf} {t : TA} {E : XK} (h : Ea K Z t env fun as => W as k) : Ev K Z (tCall (spD K W) [] E t) env k := fun G H σ ok Q c => by
  refine h G H σ ok _ fun as vs G1 H1 hb a1 rx => ?_
  rw [List.append_nil]
  exact spD_of (ok.adv a1).hz rx hb fun d v G' H' kd a2 rv => c d v G' H' kd (a1.trans a2) rv
/-- a built-in's call -/
def Eb (K : PySem.W.Frag) (Z : Fr) (r : List V → Hp → VK → Prop) (as : List Ag) (k : Dm → Prop) : Prop :=
  ∀ (G H : Hp) (vs : List V), Hz Z G H → Args K Z.P G vs as → ∀ Q : VK, (∀ d v G' H', k d → Adv Z.P G H G' H' → Rp K G' v d → Q v H') → r vs H Q
theorem ev_cb {r : List V → Hp → VK → Prop} {t : TA} (h : Ea K Z t env fun as => Eb K Z r as k) : Ev K Z (tCB r t) env k := fun G H σ ok Q c => by
  refine h G H σ ok _ fun as vs G1 H1 hb a1 rx => ?_
  exact hb G1 H1 vs (ok.adv a1).hz rx Q fun d v G' H' kd a2 rv => c d v G' H' kd (a1.trans a2) rv
/-- o.m(..) of an instance -/
theorem ev_meth {C : Addr} {m : Str} {W : Wf} {t : TA} {E : XK} (h : Ev K Z ta env fun d => ∃ f d', d = .obj C f d' ∧ f ≠ m ∧ Ea K Z t env fun as => W (.v d :: as) k) : Ev K Z (tMeth C m (spD K W) [] E ta t) env k := fun G H σ ok Q c => by
  refine h G H σ ok _ fun d x G1 H1 hb a1 rx => ?_
  obtain ⟨f, d', e, hf, ha⟩ := hb
  subst e
  obtain ⟨a, dx, w, e1, e2, e3⟩ := rx.obj_inv
  subst e1
  refine ⟨a, dx, _, rfl, (ok.adv a1).hz.exG _ _ e2, ?_, ?_⟩
  · have : (m == f) = false := by simpa using fun z : m = f => hf z.symm
    simp [List.lookup, this]
  · refine ha G1 H1 σ (ok.adv a1) _ fun as vs G2 H2 hw a2 rs => ?_
    rw [List.append_nil]
    exact spD_of ((ok.adv a1).adv a2).hz (.cons (show ArgOk K Z.P G2 _ (.v _) from Rp.mono a2.gg rx) rs) hw fun d v G' H' kd a3 rv => c d v G' H' kd ((a1.trans a2).trans a3) rv
/-- e.f of an instance -/
theorem ev_fld {C : Addr} {f : Str} (hc : Cls K C) (hn : NoAttr K C f) (h : Ev K Z ta env fun d => ∃ d', d = .obj C f d' ∧ k d') : Ev K Z (tFld K ta f) env k := fun G H σ ok Q c => by
  refine h G H σ ok _ fun d x G1 H1 hb a1 rx => ?_
  obtain ⟨d', e, q⟩ := hb
  subst e
  obtain ⟨a, dx, w, e1, e2, e3⟩ := rx.obj_inv
  subst e1
  exact ⟨a, C, dx, _, w, rfl, (ok.adv a1).hz.exG _ _ e2, hc, hn, by simp [List.lookup], c _ _ _ _ q a1 e3⟩
/-! ### targets -/
theorem eg_name {i : Nat} {d : Dm} {ke : Env → Prop} (h : ∀ v, env[i]? = some v → v.all (fun c => !c.isOwn || true) = true) (hk : ke (env.set i (some (.v d)))) : Eg K Z (gName i) d env ke := fun G H σ v ok rv Q c => by
  refine c _ _ G H hk ⟨ok.hz, by simp [ok.len], fun j cl e => ?_, fun a b ca cb ad hne e1 o1 e2 o2 s1 s2 => ?_⟩ same_refl
  · by_cases hj : i = j
    · subst hj
      have hi : i < env.length := by
        have := (List.getElem?_eq_some_iff.mp e).1
        simpa using this
      rw [List.getElem?_set_self (by simpa using hi)] at e
      cases e
      exact ⟨v, by rw [List.getElem?_set_self (by rw [ok.len]; exact hi)], rv⟩
    · rw [List.getElem?_set_ne hj] at e
      obtain ⟨w, e1, e2⟩ := ok.slots j cl e
      exact ⟨w, by rw [List.getElem?_set_ne hj]; exact e1, e2⟩
  · have key : ∀ {j : Nat} {cj : Cl}, (env.set i (some (.v d)))[j]? = some (some cj) → cj.isOwn = true → i ≠ j ∧ env[j]? = some (some cj) := fun {j cj} e o => by
      by_cases hj : i = j
      · subst hj
        have hi : i < env.length := by
          have := (List.getElem?_eq_some_iff.mp e).1
          simpa using this
        rw [List.getElem?_set_self (by simpa using hi)] at e
        cases e
        cases o
      · rw [List.getElem?_set_ne hj] at e
        exact ⟨hj, e⟩
    obtain ⟨n1, e1⟩ := key e1 o1
    obtain ⟨n2, e2⟩ := key e2 o2
    rw [List.getElem?_set_ne n1] at s1
    rw [List.getElem?_set_ne n2] at s2
    exact ok.sep a b ca cb ad hne e1 o1 e2 o2 s1 s2
theorem eg_nm {i : Nat} {d : Dm} {ke : Env → Prop} (hk : ke (env.set i (some (.v d)))) : Eg K Z (gName i) d env ke := eg_name (fun v _ => by cases v <;> simp [Option.all]) hk
theorem egs_nil {ke : Env → Prop} (hk : ke env) : Egs K Z gNil [] env ke := fun G H σ vs ok r Q c => by
  cases r
  exact ⟨rfl, c env σ G H hk ok same_refl⟩
theorem egs_cons {g : TG} {gs : TGs} {d : Dm} {ds : List Dm} {ke : Env → Prop} (h : Eg K Z g d env fun env' => Egs K Z gs ds env' ke) : Egs K Z (gCons g gs) (d :: ds) env ke := fun G H σ vs ok r Q c => by
  cases r with
  | cons r rr =>
    refine ⟨_, _, rfl, h G H σ _ ok r _ fun env' σ' G' H' he ok' sg => ?_⟩
    exact he G' H' σ' _ ok' (rr.mono sg) Q fun e2 s2 G2 H2 k2 ok2 sg2 => c e2 s2 G2 H2 k2 ok2 (sg.trans sg2)
theorem eg_tup {n : Nat} {gs : TGs} {d : Dm} {ke : Env → Prop} (h : ∃ ds, d.tp = some ds ∧ ds.length = n ∧ Egs K Z gs ds env ke) : Eg K Z (gTup K n gs) d env ke := fun G H σ v ok rv Q c => by
  obtain ⟨ds, e, hl, h⟩ := h
  obtain ⟨a, xs, e1, e2, e3⟩ := rv.tp_inv e
  exact ⟨a, xs, e1, same_t ok.hz.exG e2, by rw [e3.length, hl], h G H σ xs ok e3 Q c⟩
/-! ### statements -/
variable {D : Wn} {t u : TS}
theorem es_seq (h : Es K Z t env { D with nx := fun e => Es K Z u e D }) : Es K Z (tSeq t u) env D := fun G H σ ok D' c =>
  h G H σ ok { D' with nx := u D' } ⟨fun e s G' H' q ok' sg => q G' H' s ok' D' ⟨fun e2 s2 G2 H2 q2 ok2 sg2 => c.nx e2 s2 G2 H2 q2 ok2 (sg.trans sg2), fun e2 s2 G2 H2 q2 ok2 sg2 => c.bk e2 s2 G2 H2 q2 ok2 (sg.trans sg2),
    fun e2 s2 G2 H2 q2 ok2 sg2 => c.ct e2 s2 G2 H2 q2 ok2 (sg.trans sg2), fun d v G2 H2 q2 hz sg2 rv => c.rt d v G2 H2 q2 hz (sg.trans sg2) rv, fun p v G2 H2 q2 hz sg2 rv => c.rx p v G2 H2 q2 hz (sg.trans sg2) rv⟩, c.bk, c.ct, c.rt, c.rx⟩
theorem es_next (h : D.nx env) : Es K Z tNext env D := fun G H σ ok D' c => c.nx env σ G H h ok same_refl
theorem es_asg {g : TG} (h : Ev K Z te env fun d => Eg K Z g d env D.nx) : Es K Z (tAsg te g) env D := fun G H σ ok D' c => by
  refine h G H σ ok _ fun d v G1 H1 hg a1 rv => ?_
  exact hg G1 H1 σ v (ok.adv a1) rv _ fun e2 s2 G2 H2 k2 ok2 sg2 => c.nx e2 s2 G2 H2 k2 ok2 (a1.gg.trans sg2)
theorem es_set {i : Nat} (h : Ev K Z te env fun d => D.nx (env.set i (some (.v d)))) : Es K Z (tAsg te (gName i)) env D := es_asg (h.mono fun _ q => eg_nm q)
theorem es_if {tt : TT} (h : Et K Z tt env fun b => if b = true then Es K Z t env D else Es K Z u env D) : Es K Z (tIfS tt t u) env D := fun G H σ ok D' c => by
  refine h G H σ ok _ fun b G1 H1 hb a1 => ?_
  have c' : Ends' K Z G1 D D' := ⟨fun e s G' H' q ok' sg => c.nx e s G' H' q ok' (a1.gg.trans sg), fun e s G' H' q ok' sg => c.bk e s G' H' q ok' (a1.gg.trans sg), fun e s G' H' q ok' sg => c.ct e s G' H' q ok' (a1.gg.trans sg), fun d v G' H' q hz sg rv => c.rt d v G' H' q hz (a1.gg.trans sg) rv, fun p v G' H' q hz sg rv => c.rx p v G' H' q hz (a1.gg.trans sg) rv⟩
  cases b with
  | true => exact hb G1 H1 σ (ok.adv a1) D' c'
  | false => exact hb G1 H1 σ (ok.adv a1) D' c'
theorem es_ret (h : Ev K Z te env D.rt) : Es K Z (tRet te) env D := fun G H σ ok D' c => by
  refine h G H σ ok _ fun d v G1 H1 hd a1 rv => ?_
  exact c.rt d v G1 H1 hd (ok.adv a1).hz a1.gg rv
/-- what is returned is told by a predicate -/
theorem es_retX {i : Nat} {p : Hp → Hp → V → Prop} (h : env[i]? = some (some (.x p))) (q : D.rx p) : Es K Z (tRet (tVar i)) env D := fun G H σ ok D' c => by
  obtain ⟨v, e1, e2⟩ := ok.slots i _ h
  exact ⟨v, e1, c.rx p v G H q ok.hz same_refl e2⟩
def ownP (K : PySem.W.Frag) (Z : Fr) (d : Dm) : Hp → Hp → V → Prop := fun G H v => ∃ a, v = .ref a ∧ G a = none ∧ Z.F a = none ∧ Z.P ≠ some a ∧ OwnAt K G H a d
theorem es_retO {i : Nat} {d : Dm} (h : env[i]? = some (some (.o d))) (q : D.rx (ownP K Z d)) : Es K Z (tRet (tVar i)) env D := fun G H σ ok D' c => by
  obtain ⟨v, e1, e2⟩ := ok.slots i _ h
  exact ⟨v, e1, c.rx _ v G H q ok.hz same_refl fun G2 H2 a => CellOk.adv (c := .o d) e2 a⟩
theorem es_drop (h : Ev K Z te env fun _ => D.nx env) : Es K Z (tDrop te) env D := fun G H σ ok D' c => by
  refine h G H σ ok _ fun d v G1 H1 hd a1 rv => ?_
  exact c.nx env σ G1 H1 hd (ok.adv a1) a1.gg
theorem es_par {i j : Nat} {ta : TA} (h : Ea K Z ta env fun as => ∃ d e, as = [.v d, .v e] ∧ D.nx ((env.set i (some (.v d))).set j (some (.v e)))) : Es K Z (tPar i j ta) env D := fun G H σ ok D' c => by
  refine h G H σ ok _ fun as vs G1 H1 hd a1 rv => ?_
  obtain ⟨d, e, rfl, q⟩ := hd
  cases rv with
  | cons r1 r2 =>
    cases r2 with
    | cons r2 r3 =>
      cases r3
      refine ⟨_, _, rfl, ?_⟩
      refine eg_nm (K := K) (Z := Z) (i := i) (d := d) (env := env) (ke := fun e1 => Eg K Z (gName j) e e1 D.nx) (eg_nm q) G1 H1 σ _ (ok.adv a1) r1 (fun s2 H2 => D'.nx (s2.set j (some _)) H2) fun e1 s1 G2 H2 k2 ok2 sg2 => ?_
      exact k2 G2 H2 s1 _ ok2 (Rp.mono sg2 r2) D'.nx fun e3 s3 G3 H3 k3 ok3 sg3 => c.nx e3 s3 G3 H3 k3 ok3 ((a1.gg.trans sg2).trans sg3)
end
/-! ### a def by its body -/
section
variable {P : Program} {w : World} {K : PySem.W.Frag} {mg : Str → Option Value} {base : Heap}
def wo (P : Option Addr) (H : Hp) : Hp := fun q => if P = some q then none else H q
theorem wo_at {P : Option Addr} {H : Hp} {q : Addr} (h : P ≠ some q) : wo P H q = H q := if_neg h
theorem wo_pot {P : Option Addr} {H : Hp} {q : Addr} (h : P = some q) : wo P H q = none := if_pos h
def startE (N : List Str) (as : List Ag) : Env := as.map (fun a => some (match a with | .v d => Cl.v d | .pot => .pot)) ++ List.replicate (N.length - as.length) none
theorem Args.get {K : PySem.W.Frag} {P : Option Addr} {G : Hp} : ∀ {vs : List V} {as : List Ag} {i : Nat} {a : Ag}, Args K P G vs as → as[i]? = some a → ∃ v, vs[i]? = some v ∧ ArgOk K P G v a
  | _, _, _, _, .nil, e => by simp at e
  | _, _, 0, _, .cons h r, e => by simp at e; subst e; exact ⟨_, rfl, h⟩
  | _, _, i + 1, _, .cons h r, e => by simp at e; simpa using Args.get r e
theorem entry_ok {Po : Option Addr} {G H : Hp} {vs : List V} {as : List Ag} {N : List Str} (e1 : Same G H) (e2 : ∀ p, Po = some p → G p = none ∧ ∃ a b, H p = some (.lst [.int a, .int b])) (r : Args K Po G vs as) :
    Ok K ⟨Po, wo Po H, G⟩ G H (L2.start N vs) (startE N as) := by
  have hl := r.length
  refine ⟨⟨e1, fun q o e => ?_, same_refl, fun q _ h => h, fun p hp => ⟨(e2 p hp).1, wo_pot hp, (e2 p hp).2⟩⟩, ?_, fun i c e => ?_, fun i j ci cj a hne e1 o1 e2 o2 s1 s2 => ?_⟩
  · by_cases h : Po = some q
    · have e : wo Po H q = some o := e
      rw [wo_pot h] at e; cases e
    · have e : wo Po H q = some o := e
      rw [wo_at h] at e; exact e
  · unfold L2.start startE
    simp [hl]
  · unfold startE at e
    unfold L2.start
    by_cases hi : i < as.length
    · rw [List.getElem?_append_left (by simpa using hi), List.getElem?_map] at e
      cases ea : as[i]? with
      | none => rw [ea] at e; cases e
      | some a =>
        rw [ea] at e
        obtain ⟨v, ev, hv⟩ := r.get ea
        refine ⟨v, by rw [List.getElem?_append_left (by simpa [hl] using hi), List.getElem?_map, ev]; rfl, ?_⟩
        cases a with
        | v d => cases e; exact hv
        | pot => cases e; exact hv
    · rw [List.getElem?_append_right (by simpa using hi), List.getElem?_replicate] at e
      split at e <;> cases e
  · unfold startE at e1
    by_cases hi : i < as.length
    · rw [List.getElem?_append_left (by simpa using hi), List.getElem?_map] at e1
      cases ea : as[i]? with
      | none => rw [ea] at e1; cases e1
      | some a =>
        rw [ea] at e1
        cases a <;> cases e1 <;> cases o1
    · rw [List.getElem?_append_right (by simpa using hi), List.getElem?_replicate] at e1
      split at e1 <;> cases e1
theorem exit_adv {Po : Option Addr} {G H G' H' : Hp} (hz : Hz ⟨Po, wo Po H, G⟩ G' H') (sg : Same G G') : Adv Po G H G' H' := by
  refine ⟨sg, fun q o n e => hz.exF q o (by show wo Po H q = some o; rw [wo_at n]; exact e), fun q h1 h2 => ?_, hz.exG, fun p hp => (hz.pot p hp).2.2⟩
  by_cases h : Po = some q
  · exact (hz.pot q h).1
  · exact hz.fg q (by show wo Po H q ≠ none; rw [wo_at h]; exact h2) h1
/-- the reading of a body that does by data what W says -/
theorem body_ok {W : Wf} {t : TS} {N : List Str} {vs : List V} {H : Hp} {Q : VK} {E : XK} (h : ∀ (Z : Fr) (as : List Ag) (k : Dm → Prop), W as k → Es K Z t (startE N as) ⟨fun _ => k .non, k, fun _ => False, fun _ => False, fun _ => False⟩) (sp : spD K W vs H Q E) :
    t { nx := fun _ H' => Q .non H', rt := Q } (L2.start N vs) H := by
  obtain ⟨Po, G, as, k, e1, e2, r, hw, c⟩ := sp
  refine h ⟨Po, wo Po H, G⟩ as k hw G H _ (entry_ok e1 e2 r) _ ⟨fun e s G' H' q ok sg => ?_, fun _ _ _ _ z => z.elim, fun _ _ _ _ z => z.elim, fun d v G' H' q hz sg rv => ?_, fun p v G' H' q hz sg rv => ?_⟩
  · exact c .non .non G' H' q (exit_adv ok.hz sg) .non
  · exact c d v G' H' q (exit_adv hz sg) rv
  · exact q.elim
theorem spD_len {W : Wf} {n : Nat} (h : ∀ as k, W as k → as.length = n) : ∀ vs H Q E, spD K W vs H Q E → vs.length = n := fun vs H Q E ⟨Po, G, as, k, _, _, r, hw, _⟩ => by
  rw [r.length]
  exact h as k hw
end
end Ln
/-! Ln2: lists, tuples, numbers, built-ins, walks, comprehensions, loops, by data. -/
namespace Ln
open PySem PySem.Spec PyProof.Rows L2
section
variable {K : PySem.W.Frag} {Z : Fr} {te ta tb tc : TE} {env : Env} {k : Dm → Prop}
/-! ### places -/
theorem atI_rp {G : Hp} {xs : List V} {ds : List Dm} {i : Int} {d : Dm} (r : RpL K G xs ds) (h : atI ds i = some d) : ∃ v, atI xs i = some v ∧ Rp K G v d := by
  unfold atI at h ⊢
  rw [r.length]
  cases e : ixN ds.length i with
  | none => rw [e] at h; cases h
  | some j =>
    rw [e] at h
    obtain ⟨v, h1, h2⟩ := r.get' (show ds[j]? = some d from h)
    exact ⟨v, h1, h2⟩
theorem er_ixL {ds : List Dm} {i : Int} (h : ∃ d, atI ds i = some d ∧ k d) : Er K Z (rIxL K) (.lst ds) (.int i) k := by
  obtain ⟨d, h, q⟩ := h
  refine er_val q fun G H x y hz rx ry Q c => ?_
  obtain ⟨a, xs, e1, e2, e3⟩ := rx.lst_inv
  obtain ⟨v, h1, h2⟩ := atI_rp e3 h
  exact ⟨a, xs, i, v, e1, ry.int_inv, .inl (.inl (hz.exG _ _ e2)), h1, c v h2⟩
theorem er_ixT {dt : Dm} {i : Int} (h : ∃ ds d, dt.tp = some ds ∧ atI ds i = some d ∧ k d) : Er K Z (rIxT K) dt (.int i) k := by
  obtain ⟨ds, d, t, h, q⟩ := h
  refine er_val q fun G H x y hz rx ry Q c => ?_
  obtain ⟨a, xs, e1, e2, e3⟩ := rx.tp_inv t
  obtain ⟨v, h1, h2⟩ := atI_rp e3 h
  exact ⟨a, xs, i, v, e1, ry.int_inv, same_t hz.exG e2, h1, c v h2⟩
theorem er_ixS {ns : List Int} {i : Int} (h : ∃ n, atI ns i = some n ∧ k (.int n)) : Er K Z (rIxL K) (.scr ns) (.int i) k := by
  obtain ⟨d, h, q⟩ := h
  refine er_val q fun G H x y hz rx ry Q c => ?_
  obtain ⟨a, e1, e2⟩ := rx.scr_inv
  have h1 : atI (ns.map V.int) i = some (.int d) := by
    unfold atI at h ⊢
    rw [List.length_map]
    cases e : ixN ns.length i with
    | none => rw [e] at h; cases h
    | some j =>
      rw [e] at h
      have h : ns[j]? = some d := h
      show (ns.map V.int)[j]? = some (.int d)
      rw [List.getElem?_map, h]; rfl
  exact ⟨a, _, i, _, e1, ry.int_inv, Same.seq hz.exG e2, h1, c _ (.int d)⟩
/-! ### slices -/
def Eo (K : PySem.W.Frag) (Z : Fr) (to : TO) (env : Env) (ko : Option Int → Prop) : Prop :=
  ∀ (G H : Hp) (σ : L2.St), Ok K Z G H σ env → ∀ Q : Option Int → Hp → Prop, (∀ o G' H', ko o → Adv Z.P G H G' H' → Q o H') → to σ H Q
theorem eo_no {ko : Option Int → Prop} (q : ko none) : Eo K Z tNoPart env ko := fun G H σ ok Q c => c none G H q ok.hz.refl
theorem eo_some {ko : Option Int → Prop} (h : Ev K Z te env fun d => ∃ i, d = .int i ∧ ko (some i)) : Eo K Z (tPart te) env ko := fun G H σ ok Q c => by
  refine h G H σ ok _ fun d v G1 H1 hd a1 rv => ?_
  obtain ⟨i, e, q⟩ := hd
  subst e
  exact ⟨i, rv.int_inv, c _ G1 H1 q a1⟩
def cutD (ds : List Dm) (lo hi : Option Int) : List Dm := (ds.drop (HT.sIx ds.length 0 lo)).take (HT.sIx ds.length ds.length hi - HT.sIx ds.length 0 lo)
theorem cut_rp {G : Hp} {xs : List V} {ds : List Dm} {lo hi : Option Int} (r : RpL K G xs ds) : RpL K G (cutV xs lo hi) (cutD ds lo hi) := by
  unfold cutV cutD
  rw [r.length]
  exact (r.drop _).take _
theorem ev_slL {tl th : TO} (h : Ev K Z te env fun d => ∃ ds, d = .lst ds ∧ Eo K Z tl env fun lo => Eo K Z th env fun hi => k (.lst (cutD ds lo hi))) : Ev K Z (tSl (rSlL K) te tl th) env k := fun G H σ ok Q c => by
  refine h G H σ ok _ fun d v G1 H1 hd a1 rv => ?_
  obtain ⟨ds, e, h2⟩ := hd
  subst e
  refine h2 G1 H1 σ (ok.adv a1) _ fun lo G2 H2 h3 a2 => ?_
  refine h3 G2 H2 σ ((ok.adv a1).adv a2) _ fun hi G3 H3 q a3 => ?_
  have ok3 := ((ok.adv a1).adv a2).adv a3
  obtain ⟨a, xs, e1, e2, e3⟩ := ((rv.mono a2.gg).mono a3.gg).lst_inv
  refine ⟨a, xs, e1, .inl (.inl (ok3.hz.exG _ _ e2)), fun p hp => ?_⟩
  have a4 := Adv.new (o := .lst (cutV xs lo hi)) ok3.hz hp
  exact c _ _ _ _ q (((a1.trans a2).trans a3).trans a4) (.lst upd_same ((cut_rp e3).mono a4.gg))
theorem ev_slT {tl th : TO} (h : Ev K Z te env fun d => ∃ ds, d.tp = some ds ∧ Eo K Z tl env fun lo => Eo K Z th env fun hi => ¬ (HT.sIx ds.length 0 lo = 0 ∧ HT.sIx ds.length ds.length hi = ds.length) ∧ k (.tup (cutD ds lo hi))) : Ev K Z (tSl (rSlT K) te tl th) env k := fun G H σ ok Q c => by
  refine h G H σ ok _ fun d v G1 H1 hd a1 rv => ?_
  obtain ⟨ds, e, h2⟩ := hd
  refine h2 G1 H1 σ (ok.adv a1) _ fun lo G2 H2 h3 a2 => ?_
  refine h3 G2 H2 σ ((ok.adv a1).adv a2) _ fun hi G3 H3 q a3 => ?_
  have ok3 := ((ok.adv a1).adv a2).adv a3
  obtain ⟨a, xs, e1, e2, e3⟩ := ((rv.mono a2.gg).mono a3.gg).tp_inv e
  obtain ⟨nw, q⟩ := q
  refine ⟨a, xs, e1, same_t ok3.hz.exG e2, by rw [e3.length]; exact nw, fun p hp => ?_⟩
  have a4 := Adv.new (o := .tup (cutV xs lo hi)) ok3.hz hp
  exact c _ _ _ _ q (((a1.trans a2).trans a3).trans a4) (.tup upd_same ((cut_rp e3).mono a4.gg))
/-! ### lists put together -/
theorem er_cat {ds es : List Dm} (hl : ds.length + es.length ≤ sizeLine) (q : k (.lst (ds ++ es))) : Er K Z rCat (.lst ds) (.lst es) k := fun G H x y hz rx ry Q c => by
  obtain ⟨a, xs, e1, e2, e3⟩ := rx.lst_inv
  obtain ⟨b, ys, f1, f2, f3⟩ := ry.lst_inv
  refine ⟨a, b, xs, ys, e1, f1, hz.exG _ _ e2, hz.exG _ _ f2, by rw [e3.length, f3.length]; exact hl, fun p hp => ?_⟩
  have a4 := Adv.new (o := .lst (xs ++ ys)) hz hp
  exact c _ _ _ _ q a4 (.lst upd_same ((e3.append f3).mono a4.gg))
theorem rep_rp {G : Hp} {xs : List V} {ds : List Dm} (r : RpL K G xs ds) : ∀ n : Nat, RpL K G (List.replicate n xs).flatten (List.replicate n ds).flatten
  | 0 => .nil
  | n + 1 => by
    rw [List.replicate_succ, List.replicate_succ, List.flatten_cons, List.flatten_cons]
    exact r.append (rep_rp r n)
theorem er_rep {ds : List Dm} {n : Int} (h0 : -(2 ^ 63) ≤ n) (h1 : n < 2 ^ 63) (hl : ds.length * n.toNat ≤ sizeLine) (q : k (.lst (List.replicate n.toNat ds).flatten)) : Er K Z rRep (.lst ds) (.int n) k := fun G H x y hz rx ry Q c => by
  obtain ⟨a, xs, e1, e2, e3⟩ := rx.lst_inv
  refine ⟨a, n, xs, e1, ry.int_inv, hz.exG _ _ e2, h0, h1, by rw [e3.length]; exact hl, fun p hp => ?_⟩
  have a4 := Adv.new (o := .lst (List.replicate n.toNat xs).flatten) hz hp
  exact c _ _ _ _ q a4 (.lst upd_same ((rep_rp e3 _).mono a4.gg))
/-! ### built-ins -/
def Dm.seq : Dm → Option (List Dm)
  | .lst ds => some ds
  | .tup ds => some ds
  | .ftp ds => some ds
  | _ => none
theorem seq_rp {G : Hp} {x : V} {d : Dm} {ds : List Dm} (h : d.seq = some ds) (r : Rp K G x d) : ∃ a xs, x = .ref a ∧ (SqL K G a xs ∨ SqT K G a xs) ∧ RpL K G xs ds := by
  cases d <;> first | exact nomatch (show (none : Option (List Dm)) = some ds from h) | skip
  · cases (Option.some.inj h)
    obtain ⟨a, xs, e1, e2, e3⟩ := r.lst_inv
    exact ⟨a, xs, e1, .inl (.inl (.inl e2)), e3⟩
  · obtain ⟨a, xs, e1, e2, e3⟩ := r.tp_inv (show (Dm.tup _).tp = some ds from h)
    exact ⟨a, xs, e1, .inr e2, e3⟩
  · obtain ⟨a, xs, e1, e2, e3⟩ := r.tp_inv (show (Dm.ftp _).tp = some ds from h)
    exact ⟨a, xs, e1, .inr e2, e3⟩
theorem same_or {H H' : Hp} {a : Addr} {xs : List V} (e : Same H H') (h : SqL K H a xs ∨ SqT K H a xs) : SqL K H' a xs ∨ SqT K H' a xs := h.elim (fun z => .inl (e.seq z)) fun z => .inr (same_t e z)
theorem args1 {P : Option Addr} {G : Hp} {vs : List V} {d : Dm} (h : Args K P G vs [.v d]) : ∃ v, vs = [v] ∧ Rp K G v d := by
  cases h with
  | cons h r => cases r; exact ⟨_, rfl, h⟩
theorem args2 {P : Option Addr} {G : Hp} {vs : List V} {d e : Dm} (h : Args K P G vs [.v d, .v e]) : ∃ v w, vs = [v, w] ∧ Rp K G v d ∧ Rp K G w e := by
  cases h with
  | cons h r =>
    obtain ⟨w, rfl, h2⟩ := args1 r
    exact ⟨_, w, rfl, h, h2⟩
theorem eb_val1 {r : List V → Hp → VK → Prop} {d e : Dm} (q : k e) (h : ∀ (G H : Hp) (x : V), Hz Z G H → Rp K G x d → ∀ Q : VK, (∀ v, Rp K G v e → Q v H) → r [x] H Q) : Eb K Z r [.v d] k := fun G H vs hz rs Q c => by
  obtain ⟨v, rfl, rv⟩ := args1 rs
  exact h G H v hz rv Q fun w rw' => c e w G H q hz.refl rw'
theorem eb_len {d : Dm} (h : ∃ ds, d.seq = some ds ∧ k (.int ds.length)) : Eb K Z (fun xs H Q => ∃ p ys, xs = [.ref p] ∧ (SqL K H p ys ∨ SqT K H p ys) ∧ Q (.int ys.length) H) [.v d] k := by
  obtain ⟨ds, h, q⟩ := h
  refine eb_val1 q fun G H x hz rx Q c => ?_
  obtain ⟨a, xs, e1, e2, e3⟩ := seq_rp h rx
  exact ⟨a, xs, by rw [e1], same_or hz.exG e2, by rw [e3.length]; exact c _ (.int _)⟩
theorem eb_lenS {ns : List Int} (q : k (.int ns.length)) : Eb K Z (fun xs H Q => ∃ p ys, xs = [.ref p] ∧ (SqL K H p ys ∨ SqT K H p ys) ∧ Q (.int ys.length) H) [.v (.scr ns)] k := by
  refine eb_val1 q fun G H x hz rx Q c => ?_
  obtain ⟨a, e1, e2⟩ := rx.scr_inv
  exact ⟨a, _, by rw [e1], .inl (hz.exG.seq e2), by rw [List.length_map]; exact c _ (.int _)⟩
theorem eb_list {d : Dm} (h : ∃ ds, d.seq = some ds ∧ k (.lst ds)) : Eb K Z (fun xs H Q => ∃ p ys, xs = [.ref p] ∧ (SqL K H p ys ∨ SqT K H p ys) ∧ ∀ l, H l = none → Q (.ref l) (upd H l (.lst ys))) [.v d] k := fun G H vs hz rs Q c => by
  obtain ⟨ds, h, q⟩ := h
  obtain ⟨v, rfl, rv⟩ := args1 rs
  obtain ⟨a, xs, e1, e2, e3⟩ := seq_rp h rv
  refine ⟨a, xs, by rw [e1], same_or hz.exG e2, fun p hp => ?_⟩
  have a4 := Adv.new (o := .lst xs) hz hp
  exact c _ _ _ _ q a4 (.lst upd_same (e3.mono a4.gg))
theorem eb_tuple {d : Dm} (h : ∃ ds, (d = .lst ds ∨ d = .tup ds) ∧ k (.tup ds)) : Eb K Z (fun xs H Q => ∃ p ys, xs = [.ref p] ∧ ((SqL K H p ys ∧ ∀ l, H l = none → Q (.ref l) (upd H l (.tup ys))) ∨ (SqT K H p ys ∧ Q (.ref p) H))) [.v d] k := fun G H vs hz rs Q c => by
  obtain ⟨ds, h, q⟩ := h
  obtain ⟨v, rfl, rv⟩ := args1 rs
  rcases h with rfl | rfl
  · obtain ⟨a, xs, e1, e2, e3⟩ := rv.lst_inv
    refine ⟨a, xs, by rw [e1], .inl ⟨.inl (.inl (hz.exG _ _ e2)), fun p hp => ?_⟩⟩
    have a4 := Adv.new (o := .tup xs) hz hp
    exact c _ _ _ _ q a4 (.tup upd_same (e3.mono a4.gg))
  · obtain ⟨a, xs, e1, e2, e3⟩ := rv.tup_inv
    exact ⟨a, xs, by rw [e1], .inr ⟨.inl (.inl (hz.exG _ _ e2)), e1 ▸ c _ _ _ _ q hz.refl rv⟩⟩
theorem lst_sql {G H : Hp} {x : V} {ds : List Dm} (hz : Hz Z G H) (r : Rp K G x (.lst ds)) : ∃ a xs, x = .ref a ∧ SqL K H a xs ∧ RpL K G xs ds := by
  obtain ⟨a, xs, e1, e2, e3⟩ := r.lst_inv
  exact ⟨a, xs, e1, .inl (.inl (hz.exG _ _ e2)), e3⟩
theorem eb_any {bs : List Bool} (q : k (.bl (bs.any id))) : Eb K Z (rAny K) [.v (.lst (bs.map .bl))] k := eb_val1 q fun G H x hz rx Q c => by
  obtain ⟨a, xs, e1, e2, e3⟩ := lst_sql hz rx
  have := e3.bls
  subst this
  exact ⟨a, bs, by rw [e1], e2, c _ (.bl _)⟩
theorem eb_all {bs : List Bool} (q : k (.bl (bs.all id))) : Eb K Z (rAll K) [.v (.lst (bs.map .bl))] k := eb_val1 q fun G H x hz rx Q c => by
  obtain ⟨a, xs, e1, e2, e3⟩ := lst_sql hz rx
  have := e3.bls
  subst this
  exact ⟨a, bs, by rw [e1], e2, c _ (.bl _)⟩
theorem eb_sum {ns : List Int} (q : k (.int ns.sum)) : Eb K Z (rSum K) [.v (.lst (ns.map .int))] k := eb_val1 q fun G H x hz rx Q c => by
  obtain ⟨a, xs, e1, e2, e3⟩ := lst_sql hz rx
  have := e3.ints
  subst this
  exact ⟨a, ns, by rw [e1], e2, c _ (.int _)⟩
theorem eb_max {ns : List Int} (h : 0 < ns.length) (q : ∀ m, m ∈ ns → (∀ y, y ∈ ns → y ≤ m) → k (.int m)) : Eb K Z (rMax K) [.v (.lst (ns.map .int))] k := fun G H vs hz rs Q c => by
  obtain ⟨x, rfl, rx⟩ := args1 rs
  obtain ⟨a, xs, e1, e2, e3⟩ := lst_sql hz rx
  have := e3.ints
  subst this
  exact ⟨a, ns, by rw [e1], e2, h, fun m h1 h2 => c _ _ _ _ (q m h1 h2) hz.refl (.int _)⟩
theorem eb_min {ns : List Int} (h : 0 < ns.length) (q : ∀ m, m ∈ ns → (∀ y, y ∈ ns → m ≤ y) → k (.int m)) : Eb K Z (rMin K) [.v (.lst (ns.map .int))] k := fun G H vs hz rs Q c => by
  obtain ⟨x, rfl, rx⟩ := args1 rs
  obtain ⟨a, xs, e1, e2, e3⟩ := lst_sql hz rx
  have := e3.ints
  subst this
  exact ⟨a, ns, by rw [e1], e2, h, fun m h1 h2 => c _ _ _ _ (q m h1 h2) hz.refl (.int _)⟩
theorem eb_abs {i : Int} (q : k (.int (if i < 0 then -i else i))) : Eb K Z (fun xs H Q => ∃ i, xs = [.int i] ∧ Q (.int (if i < 0 then -i else i)) H) [.v (.int i)] k := eb_val1 q fun G H x hz rx Q c => ⟨i, by rw [rx.int_inv], c _ (.int _)⟩
theorem eb_int {i : Int} (q : k (.int i)) : Eb K Z (fun xs H Q => (∃ i, xs = [.int i] ∧ Q (.int i) H) ∨ ∃ k, xs = [.bl k] ∧ Q (.int (if k then 1 else 0)) H) [.v (.int i)] k := eb_val1 q fun G H x hz rx Q c => .inl ⟨i, by rw [rx.int_inv], c _ (.int _)⟩
theorem eb_max2 {i j : Int} (q : k (.int (if j > i then j else i))) : Eb K Z (fun xs H Q => ∃ i j, xs = [.int i, .int j] ∧ Q (.int (if j > i then j else i)) H) [.v (.int i), .v (.int j)] k := fun G H vs hz rs Q c => by
  obtain ⟨x, y, rfl, rx, ry⟩ := args2 rs
  exact ⟨i, j, by rw [rx.int_inv, ry.int_inv], c _ _ _ _ q hz.refl (.int _)⟩
theorem eb_min2 {i j : Int} (q : k (.int (if j < i then j else i))) : Eb K Z (fun xs H Q => ∃ i j, xs = [.int i, .int j] ∧ Q (.int (if j < i then j else i)) H) [.v (.int i), .v (.int j)] k := fun G H vs hz rs Q c => by
  obtain ⟨x, y, rfl, rx, ry⟩ := args2 rs
  exact ⟨i, j, by rw [rx.int_inv, ry.int_inv], c _ _ _ _ q hz.refl (.int _)⟩
theorem eb_sorted {ns : List Int} (h : ns.length < 64) (q : ∀ ns' : List Int, ns'.Perm ns → ns'.Pairwise (· ≤ ·) → k (.lst (ns'.map .int))) : Eb K Z (rSorted K) [.v (.lst (ns.map .int))] k := fun G H vs hz rs Q c => by
  obtain ⟨x, rfl, rx⟩ := args1 rs
  obtain ⟨a, xs, e1, e2, e3⟩ := lst_sql hz rx
  have := e3.ints
  subst this
  refine ⟨a, ns, by rw [e1], e2, h, fun ns' p h1 h2 hp => ?_⟩
  have a4 := Adv.new (o := .lst (ns'.map V.int)) hz hp
  exact c _ _ _ _ (q ns' h1 h2) a4 (.lst upd_same RpL.of_ints)
/-! ### walks -/
/-- J goes over the data ds, whatever is new; it leans on what is known (G1) -/
def Wk (K : PySem.W.Frag) (P : Option Addr) (G1 : Hp) (J : It) (ds : List Dm) : Prop :=
  ∀ (Z : Fr) (G H : Hp), Z.P = P → Same G1 G → Hz Z G H → ∀ i : Nat, (∀ d, ds[i]? = some d → J.go i H ∧ ∀ x H', J.yld i H x H' → ∃ G', Adv P G H G' H' ∧ Rp K G' x d) ∧ (ds.length ≤ i → J.stop i H)
def Ei (K : PySem.W.Frag) (Z : Fr) (wi : TI) (env : Env) (ki : List Dm → Prop) : Prop :=
  ∀ (G H : Hp) (σ : L2.St), Ok K Z G H σ env → ∀ R : It → Hp → Prop, (∀ ds J G1 H1, ki ds → Adv Z.P G H G1 H1 → Wk K Z.P G1 J ds → R J H1) → wi σ H R
theorem wk_list {P : Option Addr} {G : Hp} {a : Addr} {xs : List V} {ds : List Dm} (h : G a = some (.lst xs)) (r : RpL K G xs ds) : Wk K P G (Itl K a) ds := fun Z G2 H e sg hz i => by
  have h2 : SqL K H a xs := .inl (.inl (hz.exG _ _ (sg _ _ h)))
  refine ⟨fun d hd => ?_, fun hl => ⟨xs, h2, by rw [r.length]; exact hl⟩⟩
  obtain ⟨v, e1, e2⟩ := r.get' hd
  refine ⟨⟨xs, v, h2, e1⟩, fun x H' y => ?_⟩
  obtain ⟨rfl, y⟩ := y
  have ex : x = v := Option.some.inj ((y xs h2).symm.trans e1)
  subst ex
  exact ⟨G2, e ▸ hz.refl, e2.mono sg⟩
theorem wk_tup {P : Option Addr} {G : Hp} {a : Addr} {xs : List V} {ds : List Dm} (h : SqT K G a xs) (r : RpL K G xs ds) : Wk K P G (Itt K a) ds := fun Z G2 H e sg hz i => by
  have h2 : SqT K H a xs := same_t hz.exG (same_t sg h)
  refine ⟨fun d hd => ?_, fun hl => ⟨xs, h2, by rw [r.length]; exact hl⟩⟩
  obtain ⟨v, e1, e2⟩ := r.get' hd
  refine ⟨⟨xs, v, h2, e1⟩, fun x H' y => ?_⟩
  obtain ⟨rfl, y⟩ := y
  have ex : x = v := Option.some.inj ((y xs h2).symm.trans e1)
  subst ex
  exact ⟨G2, e ▸ hz.refl, e2.mono sg⟩
theorem ei_list {ki : List Dm → Prop} (h : Ev K Z te env fun d => ∃ ds, d = .lst ds ∧ ki ds) : Ei K Z (iList K te) env ki := fun G H σ ok R c => by
  refine h G H σ ok _ fun d v G1 H1 hd a1 rv => ?_
  obtain ⟨ds, e, q⟩ := hd
  subst e
  obtain ⟨a, xs, e1, e2, e3⟩ := rv.lst_inv
  exact ⟨a, e1, ⟨xs, .inl (.inl ((ok.adv a1).hz.exG _ _ e2))⟩, c ds _ G1 H1 q a1 (wk_list e2 e3)⟩
theorem ei_tup {ki : List Dm → Prop} (h : Ev K Z te env fun d => ∃ ds, d.tp = some ds ∧ ki ds) : Ei K Z (iTup K te) env ki := fun G H σ ok R c => by
  refine h G H σ ok _ fun d v G1 H1 hd a1 rv => ?_
  obtain ⟨ds, e, q⟩ := hd
  obtain ⟨a, xs, e1, e2, e3⟩ := rv.tp_inv e
  exact ⟨a, e1, ⟨xs, same_t (ok.adv a1).hz.exG e2⟩, c ds _ G1 H1 q a1 (wk_tup e2 e3)⟩
def intsD (lo : Int) : Nat → List Dm
  | 0 => []
  | n + 1 => .int lo :: intsD (lo + 1) n
theorem intsD_len : ∀ (n : Nat) (lo : Int), (intsD lo n).length = n
  | 0, _ => rfl
  | n + 1, lo => by rw [intsD, List.length_cons, intsD_len n]
theorem intsD_at : ∀ (n : Nat) (lo : Int) {i : Nat} {d : Dm}, (intsD lo n)[i]? = some d → d = .int (lo + i)
  | 0, _, _, _, h => by simp [intsD] at h
  | n + 1, lo, 0, d, h => by simp [intsD] at h; rw [← h]; simp
  | n + 1, lo, i + 1, d, h => by
    rw [intsD, List.getElem?_cons_succ] at h
    have e := intsD_at n (lo + 1) h
    rw [e]
    congr 1
    omega
theorem wk_range {P : Option Addr} {G : Hp} {lo : Int} {n : Nat} : Wk K P G (Itr lo n) (intsD lo n) := fun Z G2 H e sg hz i => by
  rw [intsD_len]
  refine ⟨fun d hd => ⟨?_, fun x H' y => ?_⟩, fun h => h⟩
  · have := (List.getElem?_eq_some_iff.mp hd).1
    rw [intsD_len] at this
    exact this
  · obtain ⟨rfl, rfl⟩ := y
    rw [intsD_at n lo hd]
    exact ⟨G2, e ▸ hz.refl, .int _⟩
theorem ei_range1 {t : TA} {ki : List Dm → Prop} (h : Ea K Z t env fun as => ∃ n : Int, as = [.v (.int n)] ∧ -(2 ^ 62) ≤ n ∧ n < 2 ^ 62 ∧ ki (intsD 0 n.toNat)) : Ei K Z (iRng1 t) env ki := fun G H σ ok R c => by
  refine h G H σ ok _ fun as vs G1 H1 hd a1 rs => ?_
  obtain ⟨n, e, h1, h2, q⟩ := hd
  subst e
  obtain ⟨v, rfl, rv⟩ := args1 rs
  exact ⟨n, by rw [rv.int_inv], h1, h2, c _ _ G1 H1 q a1 wk_range⟩
theorem ei_range2 {t : TA} {ki : List Dm → Prop} (h : Ea K Z t env fun as => ∃ m n : Int, as = [.v (.int m), .v (.int n)] ∧ (-(2 ^ 62) ≤ m ∧ m < 2 ^ 62 ∧ -(2 ^ 62) ≤ n ∧ n < 2 ^ 62) ∧ ki (intsD m (n - m).toNat)) : Ei K Z (iRng2 t) env ki := fun G H σ ok R c => by
  refine h G H σ ok _ fun as vs G1 H1 hd a1 rs => ?_
  obtain ⟨m, n, e, h1, q⟩ := hd
  subst e
  obtain ⟨v, w, rfl, rv, rw'⟩ := args2 rs
  exact ⟨m, n, by rw [rv.int_inv, rw'.int_inv], h1, c _ _ G1 H1 q a1 wk_range⟩
def enumD (j : Nat) : List Dm → List Dm
  | [] => []
  | d :: ds => .tup [.int j, d] :: enumD (j + 1) ds
theorem enumD_len : ∀ (ds : List Dm) (j : Nat), (enumD j ds).length = ds.length
  | [], _ => rfl
  | d :: ds, j => by rw [enumD, List.length_cons, List.length_cons, enumD_len ds]
theorem enumD_at : ∀ (ds : List Dm) (j : Nat) {i : Nat} {d : Dm}, (enumD j ds)[i]? = some d → ∃ e, ds[i]? = some e ∧ d = .tup [.int (j + i : Nat), e]
  | [], _, _, _, h => by simp [enumD] at h
  | a :: ds, j, 0, d, h => by simp [enumD] at h; exact ⟨a, rfl, by rw [← h]; rfl⟩
  | a :: ds, j, i + 1, d, h => by
    rw [enumD, List.getElem?_cons_succ] at h
    obtain ⟨e, h1, h2⟩ := enumD_at ds (j + 1) h
    refine ⟨e, by simpa using h1, ?_⟩
    rw [h2, show j + 1 + i = j + (i + 1) by omega]
theorem wk_enum {P : Option Addr} {G : Hp} {a : Addr} {xs : List V} {ds : List Dm} (h : G a = some (.lst xs)) (r : RpL K G xs ds) : Wk K P G (Ite K a) (enumD 0 ds) := fun Z G2 H e sg hz i => by
  have h2 : SqL K H a xs := .inl (.inl (hz.exG _ _ (sg _ _ h)))
  rw [enumD_len]
  refine ⟨fun d hd => ?_, fun hl => ⟨xs, h2, by rw [r.length]; exact hl⟩⟩
  obtain ⟨d1, hd1, hd2⟩ := enumD_at ds 0 hd
  obtain ⟨v, e1, e2⟩ := r.get' hd1
  refine ⟨⟨xs, v, h2, e1⟩, fun x H' y => ?_⟩
  obtain ⟨T, x1, rfl, nT, rfl, y⟩ := y
  have ex : x1 = v := Option.some.inj ((y xs h2).symm.trans e1)
  subst ex
  rw [hd2, Nat.zero_add]
  have a4 := Adv.new (o := .tup [.int (i : Nat), x1]) hz nT
  exact ⟨_, e ▸ a4, .tup upd_same (.cons (.int _) (.cons ((e2.mono sg).mono a4.gg) .nil))⟩
theorem ei_enum {t : TA} {ki : List Dm → Prop} (h : Ea K Z t env fun as => ∃ ds, as = [.v (.lst ds)] ∧ ki (enumD 0 ds)) : Ei K Z (iEnum K t) env ki := fun G H σ ok R c => by
  refine h G H σ ok _ fun as vs G1 H1 hd a1 rs => ?_
  obtain ⟨ds, e, q⟩ := hd
  subst e
  obtain ⟨v, rfl, rv⟩ := args1 rs
  obtain ⟨a, xs, e1, e2, e3⟩ := rv.lst_inv
  exact ⟨a, xs, by rw [e1], .inl (.inl ((ok.adv a1).hz.exG _ _ e2)), c _ _ G1 H1 q a1 (wk_enum e2 e3)⟩
def zipD : List Dm → List Dm → List Dm
  | d :: ds, e :: es => .tup [d, e] :: zipD ds es
  | _, _ => []
theorem zipD_len : ∀ (ds es : List Dm), (zipD ds es).length = min ds.length es.length
  | [], [] => rfl
  | [], _ :: _ => by simp [zipD]
  | _ :: _, [] => by simp [zipD]
  | d :: ds, e :: es => by
    rw [zipD, List.length_cons, List.length_cons, List.length_cons, zipD_len ds es]
    omega
theorem zipD_at : ∀ (ds es : List Dm) {i : Nat} {d : Dm}, (zipD ds es)[i]? = some d → ∃ a b, ds[i]? = some a ∧ es[i]? = some b ∧ d = .tup [a, b]
  | [], [], _, _, h => by simp [zipD] at h
  | [], _ :: _, _, _, h => by simp [zipD] at h
  | _ :: _, [], _, _, h => by simp [zipD] at h
  | a :: ds, b :: es, 0, d, h => by simp [zipD] at h; exact ⟨a, b, rfl, rfl, h.symm⟩
  | a :: ds, b :: es, i + 1, d, h => by
    rw [zipD, List.getElem?_cons_succ] at h
    simpa using zipD_at ds es h
theorem wk_zip {P : Option Addr} {G : Hp} {a b : Addr} {xs ys : List V} {ds es : List Dm} (h : G a = some (.lst xs)) (r : RpL K G xs ds) (h' : G b = some (.lst ys)) (r' : RpL K G ys es) : Wk K P G (Itz K a b) (zipD ds es) := fun Z G2 H e sg hz i => by
  have h2 : SqL K H a xs := .inl (.inl (hz.exG _ _ (sg _ _ h)))
  have h2' : SqL K H b ys := .inl (.inl (hz.exG _ _ (sg _ _ h')))
  rw [zipD_len]
  refine ⟨fun d hd => ?_, fun hl => ⟨xs, ys, h2, h2', by rw [r.length, r'.length]; omega⟩⟩
  obtain ⟨d1, d2, hd1, hd2, rfl⟩ := zipD_at ds es hd
  obtain ⟨v, e1, e2⟩ := r.get' hd1
  obtain ⟨v', e1', e2'⟩ := r'.get' hd2
  refine ⟨⟨xs, ys, v, v', h2, h2', e1, e1'⟩, fun x H' y => ?_⟩
  obtain ⟨T, x1, x2, rfl, nT, rfl, y1, y2⟩ := y
  have ex : x1 = v := Option.some.inj ((y1 xs h2).symm.trans e1)
  have ex' : x2 = v' := Option.some.inj ((y2 ys h2').symm.trans e1')
  subst ex ex'
  have a4 := Adv.new (o := .tup [x1, x2]) hz nT
  exact ⟨_, e ▸ a4, .tup upd_same (.cons ((e2.mono sg).mono a4.gg) (.cons ((e2'.mono sg).mono a4.gg) .nil))⟩
theorem ei_zip {t : TA} {ki : List Dm → Prop} (h : Ea K Z t env fun as => ∃ ds es, as = [.v (.lst ds), .v (.lst es)] ∧ ki (zipD ds es)) : Ei K Z (iZip K t) env ki := fun G H σ ok R c => by
  refine h G H σ ok _ fun as vs G1 H1 hd a1 rs => ?_
  obtain ⟨ds, es, e, q⟩ := hd
  subst e
  obtain ⟨v, w, rfl, rv, rw'⟩ := args2 rs
  obtain ⟨a, xs, e1, e2, e3⟩ := rv.lst_inv
  obtain ⟨b, ys, f1, f2, f3⟩ := rw'.lst_inv
  have hz := (ok.adv a1).hz
  exact ⟨a, b, xs, ys, by rw [e1, f1], .inl (.inl (hz.exG _ _ e2)), .inl (.inl (hz.exG _ _ f2)), c _ _ G1 H1 q a1 (wk_zip e2 e3 f2 f3)⟩
/-- the same where the walk may lean on a list of one's own -/
def WkH (K : PySem.W.Frag) (P : Option Addr) (G1 H1 : Hp) (J : It) (ds : List Dm) : Prop :=
  ∀ (Z : Fr) (G H : Hp), Z.P = P → Adv P G1 H1 G H → Hz Z G H → ∀ i : Nat, (∀ d, ds[i]? = some d → J.go i H ∧ ∀ x H', J.yld i H x H' → ∃ G', Adv P G H G' H' ∧ Rp K G' x d) ∧ (ds.length ≤ i → J.stop i H)
def Ej (K : PySem.W.Frag) (Z : Fr) (wi : TI) (env : Env) (ki : List Dm → Prop) : Prop :=
  ∀ (G H : Hp) (σ : L2.St), Ok K Z G H σ env → ∀ R : It → Hp → Prop, (∀ ds J G1 H1, ki ds → Adv Z.P G H G1 H1 → WkH K Z.P G1 H1 J ds → R J H1) → wi σ H R
theorem ej {wi : TI} {ki : List Dm → Prop} (h : Ei K Z wi env ki) : Ej K Z wi env ki := fun G H σ ok R c => h G H σ ok R fun ds J G1 H1 hk a wk => c ds J G1 H1 hk a fun Z' G2 H2 e a2 hz => wk Z' G2 H2 e a2.gg hz
theorem ej_own {i : Nat} {ds : List Dm} {ki : List Dm → Prop} (h : env[i]? = some (some (.o (.lst ds))) ∨ env[i]? = some (some (.ro (.lst ds)))) (q : ki ds) : Ej K Z (iList K (tVar i)) env ki := fun G H σ ok R c => by
  have key : ∃ a xs, σ[i]? = some (some (.ref a)) ∧ Z.P ≠ some a ∧ H a = some (.lst xs) ∧ RpL K G xs ds := by
    rcases h with h | h
    · obtain ⟨v, e1, a, rfl, g, f, n, xs, e2, e3⟩ := ok.slots i _ h
      exact ⟨a, xs, e1, n, e2, e3⟩
    · obtain ⟨v, e1, a, rfl, g, n, xs, e2, e3⟩ := ok.slots i _ h
      exact ⟨a, xs, e1, n, e2, e3⟩
  obtain ⟨a, xs, e1, n, e2, e3⟩ := key
  refine ⟨.ref a, e1, a, rfl, ⟨xs, .inl (.inl e2)⟩, c ds _ G H q ok.hz.refl fun Z2 G2 H2 e a2 hz j => ?_⟩
  have h2 : SqL K H2 a xs := .inl (.inl (a2.hh a _ n e2))
  refine ⟨fun d hd => ?_, fun hl => ⟨xs, h2, by rw [e3.length]; exact hl⟩⟩
  obtain ⟨v, f1, f2⟩ := e3.get' hd
  refine ⟨⟨xs, v, h2, f1⟩, fun x H' y => ?_⟩
  obtain ⟨rfl, y⟩ := y
  have ex : x = v := Option.some.inj ((y xs h2).symm.trans f1)
  subst ex
  exact ⟨G2, e ▸ hz.refl, f2.mono a2.gg⟩
/-! ### for -/
theorem es_for {wi : TI} {g : TG} {tb : TS} {D : Wn} (h : Ei K Z wi env fun ds => ∃ I : Nat → Env → Prop, I 0 env ∧ (∀ i d e, ds[i]? = some d → I i e → Eg K Z g d e fun e2 => Es K Z tb e2 ⟨I (i + 1), D.rt, D.nx, I (i + 1), D.rx⟩) ∧ ∀ e, I ds.length e → D.nx e) :
    Es K Z (tFor wi g tb) env D := fun G H σ ok D' c => by
  refine h G H σ ok _ fun ds J G1 H1 hd a1 wk => ?_
  obtain ⟨I, h0, hs, he⟩ := hd
  refine ⟨fun i m σ H => m = ds.length - i ∧ i ≤ ds.length ∧ ∃ e G', I i e ∧ Ok K Z G' H σ e ∧ Same G1 G', ⟨ds.length, by simp, Nat.zero_le _, env, G1, h0, ok.adv a1, same_refl⟩, fun i m σ2 H2 hw => ?_⟩
  obtain ⟨rfl, hi, e, G2, hI, ok2, sg⟩ := hw
  obtain ⟨go, stop⟩ := wk Z G2 H2 rfl sg ok2.hz i
  by_cases hlt : i < ds.length
  · obtain ⟨g1, y1⟩ := go ds[i] (List.getElem?_eq_getElem hlt)
    refine .inr ⟨g1, fun σ' H' => ∃ e G', I (i + 1) e ∧ Ok K Z G' H' σ' e ∧ Same G1 G', fun σ' H' hN => ⟨ds.length - (i + 1), by omega, rfl, hlt, hN⟩, fun x H3 hy => ?_⟩
    obtain ⟨G3, a3, rx⟩ := y1 x H3 hy
    refine hs i ds[i] e (List.getElem?_eq_getElem hlt) hI G3 H3 σ2 x (ok2.adv a3) rx _ fun e2 σ3 G4 H4 hb ok4 sg4 => ?_
    have s14 : Same G1 G4 := (sg.trans a3.gg).trans sg4
    exact hb G4 H4 σ3 ok4 _ ⟨fun e5 σ5 G5 H5 q ok5 sg5 => ⟨e5, G5, q, ok5, s14.trans sg5⟩, fun e5 σ5 G5 H5 q ok5 sg5 => c.nx e5 σ5 G5 H5 q ok5 (a1.gg.trans (s14.trans sg5)),
      fun e5 σ5 G5 H5 q ok5 sg5 => ⟨e5, G5, q, ok5, s14.trans sg5⟩, fun d v G5 H5 q hz sg5 rv => c.rt d v G5 H5 q hz (a1.gg.trans (s14.trans sg5)) rv, fun p v G5 H5 q hz sg5 rv => c.rx p v G5 H5 q hz (a1.gg.trans (s14.trans sg5)) rv⟩
  · have e0 : i = ds.length := by omega
    subst e0
    exact .inl ⟨stop (Nat.le_refl _), c.nx e σ2 G2 H2 (he e hI) ok2 (a1.gg.trans sg)⟩
/-! ### while -/
theorem es_while {tt : TT} {tb : TS} {D : Wn} (I : Nat → Env → Prop) (m0 : Nat) (h0 : I m0 env) (hs : ∀ m e, I m e → Et K Z tt e fun b => if b = true then Es K Z tb e ⟨fun e2 => ∃ m', m' < m ∧ I m' e2, D.rt, D.nx, fun e2 => ∃ m', m' < m ∧ I m' e2, D.rx⟩ else D.nx e) :
    Es K Z (tWhile tt tb) env D := fun G H σ ok D' c => by
  refine ⟨fun m σ H => ∃ e G', I m e ∧ Ok K Z G' H σ e ∧ Same G G', ⟨m0, env, G, h0, ok, same_refl⟩, fun m σ2 H2 hw => ?_⟩
  obtain ⟨e, G2, hI, ok2, sg⟩ := hw
  refine hs m e hI G2 H2 σ2 ok2 _ fun b G3 H3 hb a3 => ?_
  have s13 := sg.trans a3.gg
  cases b with
  | true =>
    refine ⟨fun σ' H' => ∃ m', m' < m ∧ ∃ e G', I m' e ∧ Ok K Z G' H' σ' e ∧ Same G G', fun σ' H' hN => hN, ?_⟩
    exact hb G3 H3 σ2 (ok2.adv a3) _ ⟨fun e5 σ5 G5 H5 ⟨m', l, q⟩ ok5 sg5 => ⟨m', l, e5, G5, q, ok5, s13.trans sg5⟩, fun e5 σ5 G5 H5 q ok5 sg5 => c.nx e5 σ5 G5 H5 q ok5 (s13.trans sg5),
      fun e5 σ5 G5 H5 ⟨m', l, q⟩ ok5 sg5 => ⟨m', l, e5, G5, q, ok5, s13.trans sg5⟩, fun d v G5 H5 q hz sg5 rv => c.rt d v G5 H5 q hz (s13.trans sg5) rv, fun p v G5 H5 q hz sg5 rv => c.rx p v G5 H5 q hz (s13.trans sg5) rv⟩
  | false => exact c.nx e σ2 G3 H3 hb (ok2.adv a3) s13
/-! ### comprehensions -/
def roC : Option Cl → Option Cl
  | some (.o d) => some (.ro d)
  | some (.new _ _) => none
  | some (.made _ _ _ _) => none
  | c => c
def wipeE (e : Env) : List Nat → Env
  | [] => e
  | v :: vs => (wipeE e vs).set v none
def blkE (e : Env) (vs : List Nat) : Env := wipeE (e.map roC) vs
theorem wipe_get {σ : L2.St} (j : Nat) : ∀ vs : List Nat, (wipe σ vs)[j]? = if j ∈ vs then (if j < σ.length then some none else none) else σ[j]?
  | [] => by simp [wipe]
  | v :: vs => by
    show ((wipe σ vs).set v none)[j]? = _
    by_cases h : v = j
    · subst h
      rw [if_pos (List.mem_cons_self ..)]
      by_cases hl : v < σ.length
      · rw [if_pos hl, List.getElem?_set_self (by rw [wipe_length]; exact hl)]
      · rw [if_neg hl]
        exact List.getElem?_eq_none (by rw [List.length_set, wipe_length]; omega)
    · rw [List.getElem?_set_ne h, wipe_get j vs]
      have : (j ∈ v :: vs) ↔ j ∈ vs := by
        rw [List.mem_cons]
        exact ⟨fun z => z.resolve_left fun e => h e.symm, .inr⟩
      simp only [this]
theorem wipeE_length (e : Env) : ∀ vs : List Nat, (wipeE e vs).length = e.length
  | [] => rfl
  | v :: vs => by
    show ((wipeE e vs).set v none).length = e.length
    rw [List.length_set, wipeE_length e vs]
theorem wipeE_some {e : Env} {j : Nat} {c : Cl} : ∀ {vs : List Nat}, (wipeE e vs)[j]? = some (some c) → e[j]? = some (some c) ∧ j ∉ vs
  | [], h => ⟨h, by simp⟩
  | v :: vs, h => by
    have h : ((wipeE e vs).set v none)[j]? = some (some c) := h
    by_cases hv : v = j
    · subst hv
      by_cases hl : v < (wipeE e vs).length
      · rw [List.getElem?_set_self hl] at h; cases h
      · rw [List.getElem?_eq_none (by rw [List.length_set]; omega)] at h; cases h
    · rw [List.getElem?_set_ne hv] at h
      obtain ⟨h1, h2⟩ := wipeE_some h
      exact ⟨h1, by rw [List.mem_cons]; exact fun z => z.elim (fun e => hv e.symm) h2⟩
/-- a target that stores into the slots vs alone -/
def GSet (g : TG) (vs : List Nat) : Prop := ∀ v σ H Q, g v σ H Q → g v σ H fun σ' H' => wipe σ' vs = wipe σ vs ∧ Q σ' H'
def GsSet (g : TGs) (vs : List Nat) : Prop := ∀ v σ H Q, g v σ H Q → g v σ H fun σ' H' => wipe σ' vs = wipe σ vs ∧ Q σ' H'
theorem gset_name {i : Nat} {vs : List Nat} (h : i ∈ vs) : GSet (gName i) vs := fun v σ H Q q => by
  refine ⟨?_, q⟩
  refine List.ext_getElem? fun j => ?_
  rw [wipe_get, wipe_get, List.length_set]
  by_cases hj : j ∈ vs
  · rw [if_pos hj, if_pos hj]
  · rw [if_neg hj, if_neg hj, List.getElem?_set_ne (fun e : i = j => hj (by rw [← e]; exact h))]
theorem gset_nil {vs : List Nat} : GsSet gNil vs := fun v σ H Q ⟨e, q⟩ => ⟨e, rfl, q⟩
/-- monotone targets -/
def GMono (g : TG) : Prop := ∀ v σ H Q Q', (∀ σ' H', Q σ' H' → Q' σ' H') → g v σ H Q → g v σ H Q'
def GsMono (g : TGs) : Prop := ∀ v σ H Q Q', (∀ σ' H', Q σ' H' → Q' σ' H') → g v σ H Q → g v σ H Q'
theorem gmono_name {i : Nat} : GMono (gName i) := fun v σ H Q Q' i q => i _ _ q
theorem gmono_nil : GsMono gNil := fun v σ H Q Q' i ⟨e, q⟩ => ⟨e, i _ _ q⟩
theorem gmono_cons {g : TG} {gs : TGs} (h : GMono g) (h' : GsMono gs) : GsMono (gCons g gs) := fun v σ H Q Q' i ⟨x, r, e, q⟩ => ⟨x, r, e, h _ _ _ _ _ (fun σ1 H1 q1 => h' _ _ _ _ _ i q1) q⟩
theorem gmono_tup {n : Nat} {gs : TGs} (h : GsMono gs) : GMono (gTup K n gs) := fun v σ H Q Q' i ⟨a, xs, e1, e2, e3, q⟩ => ⟨a, xs, e1, e2, e3, h _ _ _ _ _ i q⟩
theorem gset_cons {g : TG} {gs : TGs} {vs : List Nat} (m : GMono g) (h : GSet g vs) (m' : GsMono gs) (h' : GsSet gs vs) : GsSet (gCons g gs) vs := fun v σ H Q ⟨x, r, e, q⟩ => by
  refine ⟨x, r, e, m _ _ _ _ _ (fun σ1 H1 q1 => ?_) (h _ _ _ _ q)⟩
  obtain ⟨w, q1⟩ := q1
  refine m' _ _ _ _ _ (fun σ2 H2 q2 => ?_) (h' _ _ _ _ q1)
  exact ⟨q2.1.trans w, q2.2⟩
theorem gset_tup {n : Nat} {gs : TGs} {vs : List Nat} (h : GsSet gs vs) : GSet (gTup K n gs) vs := fun v σ H Q ⟨a, xs, e1, e2, e3, q⟩ => ⟨a, xs, e1, e2, e3, h _ _ _ _ q⟩
theorem blk_ok {P : Option Addr} {G H : Hp} {σ : L2.St} {vs : List Nat} (e : Z.P = P) (ok : Ok K Z G H σ env) : Ok K ⟨P, wo P H, G⟩ G H (wipe σ vs) (blkE env vs) := by
  subst e
  refine ⟨⟨ok.hz.exG, fun q o e => ?_, same_refl, fun q _ h => h, fun p hp => ⟨(ok.hz.pot p hp).1, wo_pot hp, (ok.hz.pot p hp).2.2⟩⟩, ?_, fun i c e => ?_, fun i j ci cj a hne e1 o1 e2 o2 s1 s2 => ?_⟩
  · by_cases h : Z.P = some q
    · have e : wo Z.P H q = some o := e
      rw [wo_pot h] at e; cases e
    · have e : wo Z.P H q = some o := e
      rw [wo_at h] at e; exact e
  · rw [wipe_length]
    unfold blkE
    rw [wipeE_length, List.length_map]
    exact ok.len
  · obtain ⟨h1, h2⟩ := wipeE_some e
    rw [List.getElem?_map] at h1
    cases hc : env[i]? with
    | none => rw [hc] at h1; cases h1
    | some oc =>
      rw [hc] at h1
      cases oc with
      | none => cases h1
      | some cl =>
        obtain ⟨v, w1, w2⟩ := ok.slots i cl hc
        refine ⟨v, by rw [wipe_get, if_neg h2]; exact w1, ?_⟩
        cases cl with
        | v d => cases h1; exact w2
        | pot => cases h1; exact w2
        | o d =>
          cases h1
          obtain ⟨a, x1, x2, x3, x4, x5⟩ := w2
          exact ⟨a, x1, x2, x4, x5⟩
        | ro d => cases h1; exact w2
        | new a C => cases h1
        | made a C f d => cases h1
        | x p => cases h1; exact w2
  · have key : ∀ {j : Nat} {cj : Cl}, (blkE env vs)[j]? = some (some cj) → cj.isOwn = true → j ∉ vs ∧ ∃ cj', env[j]? = some (some cj') ∧ cj'.isOwn = true := fun {j cj} e o => by
      obtain ⟨h1, h2⟩ := wipeE_some e
      refine ⟨h2, ?_⟩
      rw [List.getElem?_map] at h1
      cases hc : env[j]? with
      | none => rw [hc] at h1; cases h1
      | some oc =>
        rw [hc] at h1
        cases oc with
        | none => cases h1
        | some cl =>
          cases cl with
          | v d => cases h1; cases o
          | pot => cases h1; cases o
          | o d => exact ⟨_, rfl, rfl⟩
          | ro d => exact ⟨_, rfl, rfl⟩
          | new a C => exact ⟨_, rfl, rfl⟩
          | made a C f d => exact ⟨_, rfl, rfl⟩
          | x p => cases h1; cases o
    obtain ⟨n1, c1, f1, g1⟩ := key e1 o1
    obtain ⟨n2, c2, f2, g2⟩ := key e2 o2
    rw [wipe_get, if_neg n1] at s1
    rw [wipe_get, if_neg n2] at s2
    exact ok.sep i j c1 c2 a hne f1 g1 f2 g2 s1 s2
theorem Adv.at_new {P : Option Addr} {G H G' H' : Hp} {p : Addr} {o : HO} (a : Adv P G H G' H') (n : H p = none) (g : G' p = none) (np : P ≠ some p) : Adv P G H G' (upd H' p o) := by
  refine ⟨a.gg, fun q u x e => ?_, a.gr, fun q u e => ?_, fun q hq => ?_⟩
  · rw [upd_ne (ne_of_none e n)]; exact a.hh q u x e
  · rw [upd_ne (ne_of_none e g)]; exact a.gh q u e
  · obtain ⟨x, y, e⟩ := a.pot q hq
    exact ⟨x, y, by rw [upd_ne (fun z : q = p => np (by rw [← z]; exact hq))]; exact e⟩
theorem Adv.freeze {P : Option Addr} {G H G' H' : Hp} {p : Addr} {o : HO} (a : Adv P G H G' H') (n : H p = none) (g : G' p = none) (e : H' p = some o) : Adv P G H (upd G' p o) H' := by
  refine ⟨fun q u x => ?_, a.hh, fun q h1 h2 => ?_, fun q u x => ?_, a.pot⟩
  · have x' := a.gg q u x
    rw [upd_ne (ne_of_none x' g)]; exact x'
  · by_cases z : q = p
    · subst z; exact absurd n h2
    · rw [upd_ne z]; exact a.gr q h1 h2
  · by_cases z : q = p
    · subst z; rw [upd_same] at x; rw [e]; exact x
    · rw [upd_ne z] at x; exact a.gh q u x
/-- a new list, a new dict, that nothing else speaks of -/
def Ef (K : PySem.W.Frag) (Z : Fr) (te : TE) (env : Env) (k : Dm → Prop) : Prop :=
  ∀ (G H : Hp) (σ : L2.St), Ok K Z G H σ env → ∀ Q : VK, (∀ d a G' H', k d → Adv Z.P G H G' H' → H a = none → G' a = none → OwnAt K G' H' a d → Q (.ref a) H') → te σ H Q
theorem Adv.none {P : Option Addr} {G H G' H' : Hp} {a : Addr} (x : Adv P G H G' H') (n : H' a = none) : H a = none := by
  by_cases hp : P = some a
  · obtain ⟨u, v, e⟩ := x.pot a hp
    rw [n] at e; cases e
  · cases e : H a with
    | none => rfl
    | some o => rw [x.hh a o hp e] at n; cases n
theorem ev_ef (h : Ef K Z te env k) : Ev K Z te env k := fun G H σ ok Q c => by
  refine h G H σ ok Q fun d a G' H' kd a1 n g w => ?_
  cases d with
  | lst ds =>
    obtain ⟨xs, e, r⟩ := w
    exact c _ _ (upd G' a (.lst xs)) H' kd (a1.freeze n g e) (.lst upd_same (r.mono fun q o e => by rw [upd_ne (ne_of_none e g)]; exact e))
  | dic ks =>
    obtain ⟨xs, e, r⟩ := w
    exact c _ _ (upd G' a (.dK xs)) H' kd (a1.freeze n g e) (.dic upd_same (r.mono fun q o e => by rw [upd_ne (ne_of_none e g)]; exact e))
  | _ => exact (show False from w).elim
theorem ef_lst {t : TA} (h : Ea K Z t env fun as => ∃ ds, as = ds.map .v ∧ ds.length ≤ sizeLine ∧ k (.lst ds)) : Ef K Z (tLst t) env k := fun G H σ ok Q c => by
  refine h G H σ ok _ fun as vs G1 H1 hb a1 rx => ?_
  obtain ⟨ds, e, hl, q⟩ := hb
  have r := rpl_of_args rx e
  refine ⟨by rw [r.length]; exact hl, fun p hp => ?_⟩
  have ok1 := ok.adv a1
  exact c (.lst ds) p G1 _ q (a1.trans (Adv.skip ok1.hz hp)) (a1.none hp) (ok1.hz.exG.free hp) ⟨vs, upd_same, r⟩
theorem ef_dnew (q : k (.dic [])) : Ef K Z tDNewK env k := fun G H σ ok Q c => fun p hp =>
  c (.dic []) p G _ q (Adv.skip ok.hz hp) hp (ok.hz.exG.free hp) ⟨[], upd_same, .nil⟩
theorem ef_rep {ta tb : TE} (h : Ev K Z ta env fun d => ∃ ds, d = .lst ds ∧ Ev K Z tb env fun e => ∃ n : Int, e = .int n ∧ -(2 ^ 63) ≤ n ∧ n < 2 ^ 63 ∧ ds.length * n.toNat ≤ sizeLine ∧ k (.lst (List.replicate n.toNat ds).flatten)) : Ef K Z (tOp rRep ta tb) env k := fun G H σ ok Q c => by
  refine h G H σ ok _ fun d x G1 H1 hb a1 rx => ?_
  obtain ⟨ds, e, hb⟩ := hb
  subst e
  refine hb G1 H1 σ (ok.adv a1) _ fun e y G2 H2 hn a2 ry => ?_
  obtain ⟨n, e2, h0, h1, hl, q⟩ := hn
  subst e2
  have ok2 := (ok.adv a1).adv a2
  obtain ⟨a, xs, f1, f2, f3⟩ := (Rp.mono a2.gg rx).lst_inv
  refine ⟨a, n, xs, f1, ry.int_inv, ok2.hz.exG _ _ f2, h0, h1, by rw [f3.length]; exact hl, fun p hp => ?_⟩
  exact c _ p G2 _ q ((a1.trans a2).trans (Adv.skip ok2.hz hp)) ((a1.trans a2).none hp) (ok2.hz.exG.free hp) ⟨_, upd_same, rep_rp f3 _⟩
theorem ef_lc {wi : TI} {g : TG} {tt : TT} {vs : List Nat} (gs : GSet g vs) (gm : GMono g) (h : Ej K Z wi env fun ds => ds.length < sizeLine ∧ ∃ I : Nat → List Dm → Prop, I 0 [] ∧
    (∀ (Z' : Fr) i d acc, ds[i]? = some d → I i acc → acc.length ≤ i → Eg K Z' g d (blkE env vs) fun e2 => Et K Z' tt e2 fun b => if b = true then Ev K Z' te e2 fun y => I (i + 1) (acc ++ [y]) else I (i + 1) acc) ∧ ∀ acc, I ds.length acc → acc.length ≤ ds.length → k (.lst acc)) :
    Ef K Z (tLc wi g tt te vs) env k := fun G H σ ok Q c => by
  refine h G H σ ok _ fun ds J G1 H1 hd a1 wk => ?_
  obtain ⟨hsz, I, h0, hs, he⟩ := hd
  have ok1 := ok.adv a1
  intro D hD
  have gD : G1 D = none := ok1.hz.exG.free hD
  have nP : Z.P ≠ some D := fun z => by
    obtain ⟨_, _, x, y, e⟩ := ok1.hz.pot D z
    rw [hD] at e; cases e
  refine ⟨fun i m H' => m = ds.length - i ∧ i ≤ ds.length ∧ ∃ acc vacc G', I i acc ∧ acc.length ≤ i ∧ Adv Z.P G1 H1 G' H' ∧ G' D = none ∧ H' D = some (.lst vacc) ∧ RpL K G' vacc acc,
    ⟨ds.length, by simp, Nat.zero_le _, [], [], G1, h0, Nat.le_refl _, ok1.hz.refl.at_new hD gD nP, gD, upd_same, .nil⟩, fun i m H2 hw => ?_⟩
  obtain ⟨rfl, hi, acc, vacc, G2, hI, hal, a2, g2, hD2, r2⟩ := hw
  have ok2 := ok1.adv a2
  obtain ⟨go, stop⟩ := wk Z G2 H2 rfl a2 ok2.hz i
  by_cases hlt : i < ds.length
  · obtain ⟨g1, y1⟩ := go ds[i] (List.getElem?_eq_getElem hlt)
    refine .inr ⟨g1, fun H' => ∃ acc vacc G', I (i + 1) acc ∧ acc.length ≤ i + 1 ∧ Adv Z.P G1 H1 G' H' ∧ G' D = none ∧ H' D = some (.lst vacc) ∧ RpL K G' vacc acc, fun H' hN => ⟨ds.length - (i + 1), by omega, rfl, hlt, hN⟩, fun x H3 hy => ?_⟩
    obtain ⟨G3, a3, rx⟩ := y1 x H3 hy
    have ok3 := ok2.adv a3
    have g3 : G3 D = none := a3.gr D g2 (by rw [hD2]; simp)
    have hD3 : H3 D = some (.lst vacc) := a3.hh D _ nP hD2
    have okb := blk_ok (vs := vs) rfl ok3
    refine gm _ _ _ _ _ (fun σ' H' q => ?_) (gs _ _ _ _ (hs ⟨Z.P, wo Z.P H3, G3⟩ i ds[i] acc (List.getElem?_eq_getElem hlt) hI hal G3 H3 (wipe σ vs) x okb rx (fun σ4 H4 => tt σ4 H4 fun b H5 =>
        if b = true then te σ4 H5 fun y H6 => ∃ acc, H6 D = some (.lst acc) ∧ acc.length < sizeLine ∧ (∃ acc' vacc' G', I (i + 1) acc' ∧ acc'.length ≤ i + 1 ∧ Adv Z.P G1 H1 G' (upd H6 D (.lst (acc ++ [y]))) ∧ G' D = none ∧ (upd H6 D (.lst (acc ++ [y]))) D = some (.lst vacc') ∧ RpL K G' vacc' acc')
        else ∃ acc vacc G', I (i + 1) acc ∧ acc.length ≤ i + 1 ∧ Adv Z.P G1 H1 G' H5 ∧ G' D = none ∧ H5 D = some (.lst vacc) ∧ RpL K G' vacc acc) fun e2 σ4 G4 H4 ht ok4 sg4 => ?_))
    · obtain ⟨w, q⟩ := q
      refine ⟨w.trans ?_, q⟩
      refine List.ext_getElem? fun j => ?_
      rw [wipe_get, wipe_length]
      by_cases hj : j ∈ vs
      · rw [if_pos hj, wipe_get, if_pos hj]
      · rw [if_neg hj]
    · refine ht G4 H4 σ4 ok4 _ fun b G5 H5 hb a5 => ?_
      have ok5 := ok4.adv a5
      cases b with
      | true =>
        refine hb G5 H5 σ4 ok5 _ fun y v G6 H6 hy6 a6 rv => ?_
        have ok6 := ok5.adv a6
        have big : Adv Z.P G3 H3 G6 H6 := exit_adv ok6.hz ((sg4.trans a5.gg).trans a6.gg)
        have all : Adv Z.P G1 H1 G6 H6 := (a2.trans a3).trans big
        have g6 : G6 D = none := big.gr D g3 (by rw [hD3]; simp)
        refine ⟨vacc, big.hh D _ nP hD3, ?_, acc ++ [y], vacc ++ [v], G6, hy6, by rw [List.length_append]; simp; omega, all.at_new hD g6 nP, g6, upd_same, (r2.mono (a3.gg.trans big.gg)).append (.one rv)⟩
        rw [r2.length]; omega
      | false =>
        have big : Adv Z.P G3 H3 G5 H5 := exit_adv ok5.hz (sg4.trans a5.gg)
        exact ⟨acc, vacc, G5, hb, by omega, (a2.trans a3).trans big, big.gr D g3 (by rw [hD3]; simp), big.hh D _ nP hD3, r2.mono (a3.gg.trans big.gg)⟩
  · have e0 : i = ds.length := by omega
    subst e0
    refine .inl ⟨stop (Nat.le_refl _), ?_⟩
    exact c (.lst acc) D G2 H2 (he acc hI hal) (a1.trans a2) (a1.none hD) g2 ⟨vacc, hD2, r2⟩
end
end Ln
/-! Ln3: defs that are called, instances, dicts, lists of one's own, isinstance, deep ==. -/
namespace Ln
open PySem PySem.Spec PyProof.Rows L2
/-! ### a def, held by its promise -/
section
variable {P : Program} {w : World} {K : PySem.W.Frag} {mg : Str → Option Value} {base : Heap}
abbrev passN {X : Cx} {E : XK} : Passes (fun _ _ _ _ _ _ => False) X E := fun _ _ _ _ _ _ _ z => z.elim
theorem held_of {x qual : Str} {params : Arguments} {body : List Stmt} {scope : Scope} {f : Addr} {fd : FuncData} {N ps : List Str} {n : Nat} {sp : Sp} (F : FunD K x qual params body scope [] [] f fd) (S : FnScope N ps scope)
    (hl : ∀ vs H Q E, sp vs H Q E → vs.length = ps.length)
    (hb : ∀ (kV doc pm : Value) (an : Option Addr) (cdv ct : Value) (us : List Value), us.length = ps.length → bindArgs (PySem.W.fnOf x qual params body scope .none kV doc pm an cdv ct) ⟨us, []⟩ = pure (ps.zip us))
    (hbody : ∀ (cdv : Value) (A : Around) (outer : List PySem.Env) (s : Shared) (H : Hp) (E : XK), Room n (A.deeper (envOfC qual scope s.heap.objs.size f cdv)) →
      ∃ t, PSs (cxOf (fun _ _ _ _ _ _ => False) P w K mg base N qual scope f cdv A outer s H E).nox body t ∧ ∀ vs Q, sp vs H Q E → t { nx := fun _ H' => Q .non H', rt := Q } (L2.start N vs) H) : Held P w K mg base (n + 1) f sp := by
  refine ⟨fd, ps, F.ok S hl fun cdv A outer s H vs Q E hr hsp => ?_, F.kp, F.bindsN hb⟩
  obtain ⟨t, h1, h2⟩ := hbody cdv A outer s H E hr
  exact ⟨t, h1.nox, h2 vs Q hsp⟩
theorem held_mono {j k : Nat} {f : Addr} {sp : Sp} (A : Held P w K mg base j f sp) (h : j ≤ k) : Held P w K mg base k f sp := by
  obtain ⟨fd, ps, F, a, b⟩ := A.ex
  exact ⟨fd, ps, F.mono h, a, b⟩
end
section
variable {X : Cx} {n : Nat} {f : Addr} {sp : Sp} {E : XK} {x m : Str} {p pos apos : Pos} {e o i : Expr} {es : List Expr} {t : TA} {ta to ti : TE} {C : Addr}
theorem pe_h (A : Held X.prog X.w X.K X.mg X.base n f sp) (hr : Room n X.A) (hg : Gl X x) (hm : X.mg x = some (.ref f)) (ha : PA X (e :: es) t) (hdb : (x == ("__debug__" : Str)) = false := by decide)
    (he : starEach (e :: es) X.env = (false, eval e X.env) :: starEach es X.env := by rfl) (hpl : (backTo pos (starEach es X.env)).any (·.1) = false := by rfl) : PE X (.Call (.Name x p) (e :: es) [] pos) (tCall sp [] E0 t) := by
  obtain ⟨fd, ps, F, hk, hb⟩ := A.ex
  exact pe_call F hr hg hm hk hb .nil passN ha hdb he hpl
theorem pe_mh {pl : Sem Bool} (he : PE X o ta) (c : Cls X.K C) (hm : Meth X.K C m f) (A : Held X.prog X.w X.K X.mg X.base n f sp) (hr : Room n X.A)
    (ht : eval (.Call (.Attribute o m apos) [] [] pos) X.env = (do
      let ov ← eval o X.env
      standAt apos.atName
      let (f, first) ← holding [ov] (getMethod ov m pl)
      callWith pos f first (backTo pos (starEach [] X.env)) (backToKw pos (keywordEach [] X.env))) := by rfl) : PE X (.Call (.Attribute o m apos) [] [] pos) (tMeth C m sp [] E0 ta tNil) := by
  obtain ⟨fd, ps, F, hk, hb⟩ := A.ex
  exact pe_meth0 he c hm F hr hb .nil passN ht
theorem pe_ph {g q : Addr} (he : PE X e ta) (c : Cls X.K C) (hp : PropOf X.K C m q g) (A : Held X.prog X.w X.K X.mg X.base n g sp) (hr : Room (n + 1) X.A)
    (hab : attributeBase e m X.env (eval e X.env) = eval e X.env := by rfl) : PE X (.Attribute e m pos) (tProp C sp [] E0 ta) := by
  obtain ⟨fd, ps, F, hk, hb⟩ := A.ex
  exact pe_prop he c hp F hr hb .nil passN hab
/-- o[i], o of a class that has __getitem__ -/
def tGetI (C : Addr) (sp : Sp) (to ti : TE) : TE := fun σ H Q => to σ H fun x H1 => ti σ H1 fun y H2 => ∃ a dx fs, x = .ref a ∧ H2 a = some (.ins C dx fs) ∧ sp [.ref a, y] H2 Q E0
structure GetI (K : PySem.W.Frag) (C f : Addr) : Prop where
  at_ : PySem.W.findIn K (.ref C) "__getitem__" = some (some (.ref f))
  fi : PySem.W.fnIn K f = true
  fn : PySem.W.isFn K (.ref f) = true
theorem pe_gi (ho : PE X o to) (hi : PE X i ti) (g : GetI X.K C f) (A : Held X.prog X.w X.K X.mg X.base n f sp) (hr : Room (n + 1) X.A)
    (hsl : ∀ v u, subscripted i true v u = runValue (.builtin "lifetime.subscript" ⟨[v, u], []⟩) := by intro _ _; rfl) : PE X (.Subscript o i pos) (tGetI C sp to ti) := by
  obtain ⟨fd, ps, F, hk, hb⟩ := A.ex
  refine ⟨fun pins s σ H Q I h => ?_⟩
  refine Subscript_ (binT ho hi I h fun v u s2 x y H2 I2 rx ry q => ?_)
  obtain ⟨a, dx, fs, ex, ea, q⟩ := q
  subst ex
  obtain rfl : v = Value.ref a := rx
  obtain ⟨mA, O, _⟩ := ins_get I2.hok ea
  obtain ⟨od, J, _⟩ := O.look
  obtain ⟨m, F0⟩ := I2.fr
  refine PySem.W.sub_K (h₀ := X.base) (K := X.K) F0 I2.ok.mod.kin J g.at_ g.fi g.fn (wpAny_call ?_) (hsl _ _)
  have r2 : Vals [V.ref a, y] [Value.ref a, u] := .cons rfl (.cons ry .nil)
  have hl : ([Value.ref a, u] ++ []).length = ps.length := by
    rw [List.append_nil, ← F.len _ _ _ _ q]; rfl
  refine codeAny_mono (F.run X.A.in1 X.stack s2 H2 ⟨[.ref a, u], []⟩ [.ref a, u] [.ref a, y] Q E0 hr.in1 I2.env0.in1 (by simpa using hb s2 [.ref a, u] I2.kIn hl) r2 q) fun r s' hq => ?_
  cases r with
  | error er => exact False.elim hq
  | ok fl =>
    cases fl with
    | ret u => exact I2.after hq
    | next => exact False.elim hq
    | brk => exact False.elim hq
    | cont => exact False.elim hq
end
section
variable {K : PySem.W.Frag} {Z : Fr} {te ta tb tc : TE} {env : Env} {k : Dm → Prop}
theorem ev_prop {C : Addr} {W : Wf} (h : Ev K Z ta env fun d => (∃ f d', d = .obj C f d') ∧ W [.v d] k) : Ev K Z (tProp C (spD K W) [] E0 ta) env k := fun G H σ ok Q c => by
  refine h G H σ ok _ fun d x G1 H1 hb a1 rx => ?_
  obtain ⟨⟨f, d', e⟩, hw⟩ := hb
  have rx' := rx
  rw [e] at rx'
  obtain ⟨a, dx, y, e1, e2, e3⟩ := rx'.obj_inv
  subst e1
  refine ⟨a, dx, _, rfl, (ok.adv a1).hz.exG _ _ e2, spD_of (ok.adv a1).hz (.cons (show ArgOk K Z.P G1 _ (.v d) from rx) .nil) hw fun d v G' H' kd a2 rv => c d v G' H' kd (a1.trans a2) rv⟩
theorem ev_gi {C : Addr} {W : Wf} (h : Ev K Z ta env fun d => (∃ f d', d = .obj C f d') ∧ Ev K Z tb env fun e => W [.v d, .v e] k) : Ev K Z (tGetI C (spD K W) ta tb) env k := fun G H σ ok Q c => by
  refine h G H σ ok _ fun d x G1 H1 hb a1 rx => ?_
  obtain ⟨⟨f, d', e⟩, hw⟩ := hb
  refine hw G1 H1 σ (ok.adv a1) _ fun e y G2 H2 hW a2 ry => ?_
  have rx2 := Rp.mono a2.gg rx
  have rx' := rx2
  rw [‹d = Dm.obj C f d'›] at rx'
  obtain ⟨a, dx, z, e1, e2, e3⟩ := rx'.obj_inv
  subst e1
  have ok2 := (ok.adv a1).adv a2
  exact ⟨a, dx, _, rfl, ok2.hz.exG _ _ e2, spD_of ok2.hz (.cons (show ArgOk K Z.P G2 _ (.v d) from rx2) (.cons (show ArgOk K Z.P G2 _ (.v e) from ry) .nil)) hW fun d v G' H' kd a3 rv => c d v G' H' kd ((a1.trans a2).trans a3) rv⟩
/-! ### instances made -/
/-- __init__ of C, whose one store is of f: W as k: called with as it stores some d of which k d holds -/
def spI (K : PySem.W.Frag) (C : Addr) (f : Str) (W : Wf) : Sp := fun vs H Q _ => ∃ (a dx : Addr) (ws : List V) (P : Option Addr) (G : Hp) (as : List Ag) (k : Dm → Prop), vs = .ref a :: ws ∧ H a = some (.ins C dx []) ∧ G a = none ∧ Same G H ∧
  (∀ p, P = some p → G p = none ∧ ∃ x y, H p = some (.lst [.int x, .int y])) ∧ Args K P G ws as ∧ W as k ∧
  ∀ d v G' H' dy, k d → Adv P G (fun q => if q = a then none else H q) G' (fun q => if q = a then none else H' q) → H' a = some (.ins C dy [(f, v)]) → G' a = none → Rp K G' v d → Q .non H'
theorem ev_make {C : Addr} {f : Str} {W : Wf} {t : TA} (h : Ea K Z t env fun as => W as fun d => k (.obj C f d)) : Ev K Z (tMake C (spI K C f W) [] E0 t) env k := fun G H σ ok Q c => by
  refine h G H σ ok _ fun as vs G1 H1 hw a1 rs => ?_
  have ok1 := ok.adv a1
  intro x dx nx ndx hne
  have gx : G1 x = none := ok1.hz.exG.free nx
  have gdx : G1 dx = none := ok1.hz.exG.free ndx
  have nP : Z.P ≠ some x := fun z => by
    obtain ⟨_, _, u, v, e⟩ := ok1.hz.pot x z
    rw [nx] at e; cases e
  have sH : ∀ {q : Addr} {o : HO}, H1 q = some o → (upd (upd H1 dx (.own x)) x (.ins C dx [])) q = some o := fun {q o} e => by
    rw [upd_ne (ne_of_none e nx), upd_ne (ne_of_none e ndx)]; exact e
  rw [List.append_nil]
  refine ⟨x, dx, vs, Z.P, G1, as, _, rfl, upd_same, gx, fun q o e => sH (ok1.hz.exG q o e), fun p hp => ?_, rs, hw, fun d v G' H' dy kd a2 e1 g2 rv => ⟨rfl, ?_⟩⟩
  · obtain ⟨h1, _, u, v, e⟩ := ok1.hz.pot p hp
    exact ⟨h1, u, v, sH e⟩
  · refine c _ (.ref x) (upd G' x (.ins C dy [(f, v)])) H' kd (a1.trans ?_) (.obj upd_same (rv.mono fun q o e => by rw [upd_ne (ne_of_none e g2)]; exact e))
    have keep : ∀ {q : Addr} {o : HO}, q ≠ x → H1 q = some o → (fun q => if q = x then none else (upd (upd H1 dx (.own x)) x (.ins C dx [])) q) q = some o := fun {q o} n e => by
      show (if q = x then none else _) = _
      rw [if_neg n]
      exact sH e
    refine ⟨fun q o e => ?_, fun q o n e => ?_, fun q h1 h2 => ?_, fun q o e => ?_, fun p hp => ?_⟩
    · have e' := a2.gg q o e
      rw [upd_ne (ne_of_none e' g2)]; exact e'
    · have n' : q ≠ x := ne_of_none e nx
      have e' := a2.hh q o n (keep n' e)
      have e' : (if q = x then none else H' q) = some o := e'
      rw [if_neg n'] at e'
      exact e'
    · have n' : q ≠ x := fun z => by rw [z, nx] at h2; exact h2 rfl
      rw [upd_ne n']
      refine a2.gr q h1 ?_
      show (if q = x then none else _) ≠ none
      rw [if_neg n']
      cases e : H1 q with
      | none => exact absurd e h2
      | some o => rw [sH e]; simp
    · by_cases z : q = x
      · subst z
        rw [upd_same] at e
        rw [e1]; exact e
      · rw [upd_ne z] at e
        have e' := a2.gh q o e
        have e' : (if q = x then none else H' q) = some o := e'
        rw [if_neg z] at e'
        exact e'
    · obtain ⟨u, v, e⟩ := a2.pot p hp
      have z : p ≠ x := fun z => nP (by rw [← z]; exact hp)
      have e : (if p = x then none else H' p) = some (.lst [.int u, .int v]) := e
      rw [if_neg z] at e
      exact ⟨u, v, e⟩
theorem startE_cl {N : List Str} {as : List Ag} {l : Nat} {cl : Cl} (e : (startE N as)[l]? = some (some cl)) : (∃ d, cl = .v d) ∨ cl = .pot := by
  unfold startE at e
  by_cases hi : l < as.length
  · rw [List.getElem?_append_left (by simpa using hi), List.getElem?_map] at e
    cases ea : as[l]? with
    | none => rw [ea] at e; cases e
    | some a =>
      rw [ea] at e
      cases a with
      | v d => cases e; exact .inl ⟨d, rfl⟩
      | pot => cases e; exact .inr rfl
  · rw [List.getElem?_append_right (by simpa using hi), List.getElem?_replicate] at e
    split at e <;> cases e
/-- what __init__'s body does -/
theorem init_ok {C : Addr} {f : Str} {W : Wf} {t : TS} {N : List Str} {vs : List V} {H : Hp} {Q : VK} {E : XK}
    (h : ∀ (Z : Fr) (as : List Ag) (k : Dm → Prop), ∀ a, W as k → Es K Z t (some (.new a C) :: startE N.tail as) ⟨fun e => ∃ d, e[0]? = some (some (.made a C f d)) ∧ k d, fun _ => False, fun _ => False, fun _ => False, fun _ => False⟩)
    (sp : spI K C f W vs H Q E) (hN : N ≠ []) : t { nx := fun _ H' => Q .non H', rt := Q } (L2.start N vs) H := by
  obtain ⟨a, dx, ws, P, G, as, k, rfl, ea, ga, sg, hp, rs, hw, c⟩ := sp
  obtain ⟨n0, N', rfl⟩ : ∃ n0 N', N = n0 :: N' := by
    cases N with
    | nil => exact absurd rfl hN
    | cons a b => exact ⟨a, b, rfl⟩
  have nP : P ≠ some a := fun z => by
    obtain ⟨_, u, v, e⟩ := hp a z
    rw [ea] at e; cases e
  -- the frame: all that stood, but the new instance and the pot
  let H0 : Hp := fun q => if q = a then none else H q
  have sg0 : Same G H0 := fun q o e => by
    show (if q = a then none else H q) = _
    rw [if_neg (ne_of_none e ga)]; exact sg q o e
  have hp0 : ∀ p, P = some p → G p = none ∧ ∃ x y, H0 p = some (.lst [.int x, .int y]) := fun p z => by
    obtain ⟨h1, x, y, e⟩ := hp p z
    refine ⟨h1, x, y, ?_⟩
    show (if p = a then none else H p) = _
    rw [if_neg (fun e2 : p = a => nP (by rw [← e2]; exact z))]; exact e
  have ok0 := entry_ok (K := K) (N := N') sg0 hp0 rs
  have es : L2.start (n0 :: N') (.ref a :: ws) = some (.ref a) :: L2.start N' ws := by
    unfold L2.start
    simp
  rw [es]
  have fa : (wo P H0) a = none := by
    rw [wo_at nP]; exact if_pos rfl
  have ok : Ok K ⟨P, wo P H0, G⟩ G H (some (.ref a) :: L2.start N' ws) (some (.new a C) :: startE N' as) := by
    refine ⟨⟨sg, fun q o e => ?_, same_refl, fun q _ h => h, fun p z => ⟨(hp p z).1, (show wo P H0 p = none from wo_pot z), (hp p z).2⟩⟩, by simp [ok0.len], fun i cl e => ?_, fun i j ci cj b hne e1 o1 e2 o2 s1 s2 => ?_⟩
    · have e' := ok0.hz.exF q o e
      have e' : (if q = a then none else H q) = some o := e'
      by_cases z : q = a
      · rw [if_pos z] at e'; cases e'
      · rw [if_neg z] at e'; exact e'
    · cases i with
      | zero =>
        cases e
        exact ⟨.ref a, rfl, dx, rfl, ga, fa, nP, ea⟩
      | succ i =>
        obtain ⟨v, w1, w2⟩ := ok0.slots i cl (by simpa using e)
        refine ⟨v, by simpa using w1, ?_⟩
        rcases startE_cl (show (startE N' as)[i]? = some (some cl) by simpa using e) with ⟨d, rfl⟩ | rfl
        · exact w2
        · exact w2
    · have noown : ∀ {l : Nat} {cl : Cl}, (startE N' as)[l]? = some (some cl) → cl.isOwn = true → False := fun {l cl} e' o' => by
        rcases startE_cl e' with ⟨d, rfl⟩ | rfl <;> cases o'
      cases i with
      | zero =>
        cases j with
        | zero => exact hne rfl
        | succ j => exact noown (by simpa using e2) o2
      | succ i => exact noown (by simpa using e1) o1
  refine h ⟨P, wo P H0, G⟩ as k a hw G H _ ok _ ⟨fun e s G' H' q ok' sg' => ?_, fun _ _ _ _ z => z.elim, fun _ _ _ _ z => z.elim, fun d v G' H' z => z.elim, fun p v G' H' z => z.elim⟩
  obtain ⟨d, e0, kd⟩ := q
  obtain ⟨v, w1, dy, w, rfl, gb, fb, pb, hb, rb⟩ := ok'.slots 0 _ e0
  have hz := ok'.hz
  refine c d w G' H' dy kd ⟨sg', fun q o n e => ?_, fun q h1 h2 => ?_, fun q o e => ?_, fun p z => ?_⟩ hb gb rb
  · have na : q ≠ a := fun z => by
      have e : (if q = a then none else H q) = some o := e
      rw [if_pos z] at e; cases e
    show (if q = a then none else H' q) = some o
    rw [if_neg na]
    exact hz.exF q o (by show wo P H0 q = some o; rw [wo_at n]; exact e)
  · by_cases z : P = some q
    · exact (hz.pot q z).1
    · exact hz.fg q (by show wo P H0 q ≠ none; rw [wo_at z]; exact h2) h1
  · show (if q = a then none else H' q) = some o
    rw [if_neg (ne_of_none e gb)]
    exact hz.exG q o e
  · obtain ⟨_, _, x, y, e⟩ := hz.pot p z
    refine ⟨x, y, ?_⟩
    show (if p = a then none else H' p) = _
    rw [if_neg (fun e2 : p = a => nP (by rw [← e2]; exact z))]; exact e
theorem OwnAt.upd {G H : Hp} {a b : Addr} {o : HO} {d : Dm} (h : OwnAt K G H b d) (n : b ≠ a) : OwnAt K G (L2.upd H a o) b d := by
  cases d with
  | lst ds => obtain ⟨xs, e, r⟩ := h; exact ⟨xs, by rw [upd_ne n]; exact e, r⟩
  | dic ds => obtain ⟨xs, e, r⟩ := h; exact ⟨xs, by rw [upd_ne n]; exact e, r⟩
  | _ => exact (show False from h).elim
theorem OwnAt.no_ins {G H : Hp} {a C dx : Addr} {fs : List (Str × V)} {d : Dm} (h : OwnAt K G H a d) (e : H a = some (.ins C dx fs)) : False := by
  cases d with
  | lst ds => obtain ⟨xs, e', r⟩ := h; rw [e] at e'; cases e'
  | dic ds => obtain ⟨xs, e', r⟩ := h; rw [e] at e'; cases e'
  | _ => exact (show False from h).elim
/-! ### writes to what is one's own -/
def Cl.noX : Cl → Bool
  | .x _ => false
  | _ => true
def noX (env : Env) : Bool := env.all fun o => match o with
  | some c => c.noX
  | none => true
theorem noX_at {i : Nat} {c : Cl} (h : noX env = true) (e : env[i]? = some (some c)) : c.noX = true := by
  have := List.all_eq_true.mp h (some c) (List.mem_of_getElem? e)
  exact this
theorem OwnAt.not_made {G H : Hp} {a C dx : Addr} {fs : List (Str × V)} {d : Dm} (h : OwnAt K G H a d) (e : H a = some (.ins C dx fs)) : False := h.no_ins e
theorem Ok.put {G H : Hp} {σ : L2.St} {i : Nat} {a : Addr} {c c' : Cl} {o : HO} (ok : Ok K Z G H σ env) (hi : env[i]? = some (some c)) (ho : c.isOwn = true) (hs : σ[i]? = some (some (.ref a))) (ga : G a = none) (fa : Z.F a = none) (na : Z.P ≠ some a)
    (nx : noX env = true) (hc : CellOk K Z G (L2.upd H a o) (.ref a) c') (ho' : c'.isOwn = true) : Ok K Z G (L2.upd H a o) σ (env.set i (some c')) := by
  have gne : ∀ {q : Addr} {o : HO}, G q = some o → q ≠ a := fun e => ne_of_none e ga
  refine ⟨⟨fun q o e => ?_, fun q o e => ?_, ok.hz.g0, ok.hz.fg, fun p hp => ?_⟩, by rw [List.length_set]; exact ok.len, fun j cl e => ?_, fun j l cj cl b hne e1 o1 e2 o2 s1 s2 => ?_⟩
  · rw [upd_ne (gne e)]; exact ok.hz.exG q o e
  · rw [upd_ne (ne_of_none e fa)]; exact ok.hz.exF q o e
  · obtain ⟨h1, h2, x, y, e⟩ := ok.hz.pot p hp
    exact ⟨h1, h2, x, y, by rw [upd_ne (fun z : p = a => na (by rw [← z]; exact hp))]; exact e⟩
  · by_cases hj : i = j
    · subst hj
      have hl : i < env.length := (List.getElem?_eq_some_iff.mp hi).1
      rw [List.getElem?_set_self hl] at e
      cases e
      exact ⟨.ref a, hs, hc⟩
    · rw [List.getElem?_set_ne hj] at e
      obtain ⟨v', s1, s2⟩ := ok.slots j cl e
      refine ⟨v', s1, ?_⟩
      have oth : cl.isOwn = true → v' ≠ .ref a := fun o z => ok.sep i j _ cl a hj hi ho e o hs (by rw [s1, z])
      cases cl with
      | v d => exact s2
      | pot => exact s2
      | o d =>
        obtain ⟨b, e1, g, f1, n1, w⟩ := s2
        have nb : b ≠ a := fun z => oth rfl (by rw [e1, z])
        exact ⟨b, e1, g, f1, n1, w.upd nb⟩
      | ro d =>
        obtain ⟨b, e1, g, n1, w⟩ := s2
        have nb : b ≠ a := fun z => oth rfl (by rw [e1, z])
        exact ⟨b, e1, g, n1, w.upd nb⟩
      | new b C' =>
        obtain ⟨dy, e1, g, f1, n1, w⟩ := s2
        have nb : b ≠ a := fun z => oth rfl (by rw [e1, z])
        exact ⟨dy, e1, g, f1, n1, by rw [upd_ne nb]; exact w⟩
      | made b C' f' d =>
        obtain ⟨dy, y, e1, g, f1, n1, w, r⟩ := s2
        have nb : b ≠ a := fun z => oth rfl (by rw [e1, z])
        exact ⟨dy, y, e1, g, f1, n1, by rw [upd_ne nb]; exact w, r⟩
      | x p => exact Bool.noConfusion (noX_at nx e)
  · have key : ∀ {j : Nat} {cj : Cl}, (env.set i (some c'))[j]? = some (some cj) → cj.isOwn = true → ∃ cj', env[j]? = some (some cj') ∧ cj'.isOwn = true := fun {j cj} e o => by
      by_cases hj : i = j
      · subst hj; exact ⟨_, hi, ho⟩
      · rw [List.getElem?_set_ne hj] at e; exact ⟨_, e, o⟩
    obtain ⟨c1, e1', o1'⟩ := key e1 o1
    obtain ⟨c2, e2', o2'⟩ := key e2 o2
    exact ok.sep j l c1 c2 b hne e1' o1' e2' o2' s1 s2
/-- self.f = e in __init__ -/
theorem es_init {D : Wn} {a C : Addr} {f : Str} {i : Nat} (hc : Cls K C) (hn : NoAttr K C f) (nx : noX env = true) (hi : env[i]? = some (some (.new a C))) (h : Ev K Z te env fun d => D.nx (env.set i (some (.made a C f d)))) : Es K Z (sFld K (tVar i) te f) env D := fun G H σ ok D' c => by
  refine h G H σ ok _ fun d v G1 H1 hd a1 rv => ?_
  have ok1 := ok.adv a1
  obtain ⟨x, w1, dx, rfl, ga, fa, na, ha⟩ := ok1.slots i _ hi
  refine ⟨.ref a, w1, a, C, dx, [], rfl, ha, hc, hn, by decide, ?_⟩
  exact c.nx _ σ G1 _ hd (ok1.put hi rfl w1 ga fa na nx ⟨dx, v, rfl, ga, fa, na, upd_same, rv⟩ rfl) a1.gg
/-- x = a new list, a new dict, of one's own -/
theorem es_own {D : Wn} {i : Nat} (hi : i < env.length) (h : Ef K Z te env fun d => D.nx (env.set i (some (.o d)))) : Es K Z (tAsg te (gName i)) env D := fun G H σ ok D' c => by
  refine h G H σ ok _ fun d a G1 H1 hd a1 n g w => ?_
  have ok1 := ok.adv a1
  have np : Z.P ≠ some a := fun z => by
    obtain ⟨_, _, x, y, e⟩ := ok.hz.pot a z
    rw [n] at e; cases e
  have fa : Z.F a = none := by
    cases e : Z.F a with
    | none => rfl
    | some o => rw [ok.hz.exF a o e] at n; cases n
  have old : ∀ {j : Nat} {cj : Cl}, env[j]? = some (some cj) → cj.isOwn = true → σ[j]? ≠ some (some (.ref a)) := fun {j cj} e o s => by
    obtain ⟨v, w1, w2⟩ := ok.slots j cj e
    rw [w1] at s
    cases s
    cases cj with
    | o d => obtain ⟨b, e1, _, _, _, w⟩ := w2; cases e1; exact w.there n
    | ro d => obtain ⟨b, e1, _, _, w⟩ := w2; cases e1; exact w.there n
    | new b C => obtain ⟨dx, e1, _, _, _, w⟩ := w2; cases e1; rw [n] at w; cases w
    | made b C f d => obtain ⟨dx, y, e1, _, _, _, w, _⟩ := w2; cases e1; rw [n] at w; cases w
    | _ => cases o
  refine c.nx _ _ G1 H1 hd ⟨ok1.hz, by simp [ok1.len], fun j cl e => ?_, fun j l cj cl b hne e1 o1 e2 o2 s1 s2 => ?_⟩ a1.gg
  · by_cases hj : i = j
    · subst hj
      rw [List.getElem?_set_self hi] at e
      cases e
      exact ⟨.ref a, by rw [List.getElem?_set_self (by rw [ok1.len]; exact hi)], a, rfl, g, fa, np, w⟩
    · rw [List.getElem?_set_ne hj] at e
      obtain ⟨v, w1, w2⟩ := ok1.slots j cl e
      exact ⟨v, by rw [List.getElem?_set_ne hj]; exact w1, w2⟩
  · have key : ∀ {j : Nat} {cj : Cl}, (env.set i (some (.o d)))[j]? = some (some cj) → cj.isOwn = true → (σ.set i (some (.ref a)))[j]? = some (some (.ref b)) → (i = j ∧ b = a) ∨ (i ≠ j ∧ env[j]? = some (some cj) ∧ σ[j]? = some (some (.ref b))) := fun {j cj} e o s => by
      by_cases hj : i = j
      · subst hj
        rw [List.getElem?_set_self (by rw [ok1.len]; exact hi)] at s
        cases s
        exact .inl ⟨rfl, rfl⟩
      · rw [List.getElem?_set_ne hj] at e s
        exact .inr ⟨hj, e, s⟩
    rcases key e1 o1 s1 with ⟨rfl, rfl⟩ | ⟨n1, x1, y1⟩
    · rcases key e2 o2 s2 with ⟨rfl, _⟩ | ⟨n2, x2, y2⟩
      · exact hne rfl
      · exact old x2 o2 y2
    · rcases key e2 o2 s2 with ⟨rfl, rfl⟩ | ⟨n2, x2, y2⟩
      · exact old x1 o1 y1
      · exact ok.sep j l cj cl b hne x1 o1 x2 o2 y1 y2
/-- xs.append(e), xs of one's own -/
theorem es_append {D : Wn} {i : Nat} {ds : List Dm} {t : TA} (nx : noX env = true) (hi : env[i]? = some (some (.o (.lst ds)))) (hl : ds.length < sizeLine) (h : Ea K Z t env fun as => ∃ d, as = [.v d] ∧ D.nx (env.set i (some (.o (.lst (ds ++ [d])))))) :
    Es K Z (tDrop (tBM K "list" rAppend (tVar i) t)) env D := fun G H σ ok D' c => by
  obtain ⟨x, w0, a, rfl, ga, fa, na, xs0, ha0, r0⟩ := ok.slots i _ hi
  refine ⟨.ref a, w0, .inl ⟨rfl, xs0, .inl (.inl ha0)⟩, ?_⟩
  refine h G H σ ok _ fun as vs G1 H1 hb a1 rx => ?_
  obtain ⟨d, e, q⟩ := hb
  subst e
  obtain ⟨v, rfl, rv⟩ := args1 rx
  have ok1 := ok.adv a1
  obtain ⟨x, w1, a', e1, ga, fa, na, xs, ha, r⟩ := ok1.slots i _ hi
  rw [w0] at w1
  obtain rfl : a = a' := by
    have := Option.some.inj (Option.some.inj w1)
    rw [e1] at this
    exact V.ref.inj this
  refine ⟨a, xs, v, rfl, rfl, ha, by rw [r.length]; exact hl, ?_⟩
  exact c.nx _ σ G1 _ q (ok1.put hi rfl w0 ga fa na nx ⟨a, rfl, ga, fa, na, _, upd_same, r.append (.one rv)⟩ rfl) a1.gg
/-- what was one's own is a datum from now on -/
theorem Ok.frz {G H : Hp} {σ : L2.St} {i : Nat} {d : Dm} (ok : Ok K Z G H σ env) (nx : noX env = true) (hi : env[i]? = some (some (.o d))) : ∃ G', Ok K Z G' H σ (env.set i (some (.v d))) ∧ Same G G' := by
  obtain ⟨x, w0, a, rfl, ga, fa, na, w⟩ := ok.slots i _ hi
  obtain ⟨u, hu, rr⟩ : ∃ u, H a = some u ∧ Rp K (L2.upd G a u) (.ref a) d := by
    cases d with
    | lst ds =>
      obtain ⟨xs, e, r⟩ := w
      exact ⟨_, e, .lst upd_same (r.mono fun q o e => by rw [upd_ne (ne_of_none e ga)]; exact e)⟩
    | dic ks =>
      obtain ⟨xs, e, r⟩ := w
      exact ⟨_, e, .dic upd_same (r.mono fun q o e => by rw [upd_ne (ne_of_none e ga)]; exact e)⟩
    | _ => exact (show False from w).elim
  have sg : Same G (L2.upd G a u) := fun q o e => by rw [upd_ne (ne_of_none e ga)]; exact e
  have oth : ∀ {j : Nat} {cj : Cl} {b : Addr}, i ≠ j → env[j]? = some (some cj) → cj.isOwn = true → σ[j]? = some (some (.ref b)) → b ≠ a := fun {j cj b} n e o s z => by
    subst z
    exact ok.sep i j _ cj b n hi rfl e o w0 s
  refine ⟨L2.upd G a u, ⟨⟨fun q o e => ?_, ok.hz.exF, ok.hz.g0.trans sg, fun q h1 h2 => ?_, fun p hp => ?_⟩, by rw [List.length_set]; exact ok.len, fun j cl e => ?_, fun j l cj cl b hne e1 o1 e2 o2 s1 s2 => ?_⟩, sg⟩
  · by_cases z : q = a
    · subst z; rw [upd_same] at e; rw [hu]; exact e
    · rw [upd_ne z] at e; exact ok.hz.exG q o e
  · rw [upd_ne (fun z : q = a => h1 (by rw [z]; exact fa))]
    exact ok.hz.fg q h1 h2
  · obtain ⟨h1, h2, x, y, e⟩ := ok.hz.pot p hp
    exact ⟨by rw [upd_ne (fun z : p = a => na (by rw [← z]; exact hp))]; exact h1, h2, x, y, e⟩
  · by_cases hj : i = j
    · subst hj
      have hl : i < env.length := (List.getElem?_eq_some_iff.mp hi).1
      rw [List.getElem?_set_self hl] at e
      cases e
      exact ⟨.ref a, w0, rr⟩
    · rw [List.getElem?_set_ne hj] at e
      obtain ⟨v', s1, s2⟩ := ok.slots j cl e
      refine ⟨v', s1, ?_⟩
      cases cl with
      | v d => exact Rp.mono sg s2
      | pot => exact s2
      | o d =>
        obtain ⟨b, e1, g, f1, n1, w⟩ := s2
        subst e1
        have nb := oth hj e rfl s1
        refine ⟨b, rfl, by rw [upd_ne nb]; exact g, f1, n1, ?_⟩
        cases d with
        | lst ds => obtain ⟨xs, e, r⟩ := w; exact ⟨xs, e, r.mono sg⟩
        | dic ds => obtain ⟨xs, e, r⟩ := w; exact ⟨xs, e, r.mono sg⟩
        | _ => exact (show False from w).elim
      | ro d =>
        obtain ⟨b, e1, g, n1, w⟩ := s2
        subst e1
        have nb := oth hj e rfl s1
        refine ⟨b, rfl, by rw [upd_ne nb]; exact g, n1, ?_⟩
        cases d with
        | lst ds => obtain ⟨xs, e, r⟩ := w; exact ⟨xs, e, r.mono sg⟩
        | dic ds => obtain ⟨xs, e, r⟩ := w; exact ⟨xs, e, r.mono sg⟩
        | _ => exact (show False from w).elim
      | new b C' =>
        obtain ⟨dy, e1, g, f1, n1, w⟩ := s2
        subst e1
        have nb := oth hj e rfl s1
        exact ⟨dy, rfl, by rw [upd_ne nb]; exact g, f1, n1, w⟩
      | made b C' f' d =>
        obtain ⟨dy, y, e1, g, f1, n1, w, r⟩ := s2
        subst e1
        have nb := oth hj e rfl s1
        exact ⟨dy, y, rfl, by rw [upd_ne nb]; exact g, f1, n1, w, r.mono sg⟩
      | x p => exact Bool.noConfusion (noX_at nx e)
  · have key : ∀ {j : Nat} {cj : Cl}, (env.set i (some (.v d)))[j]? = some (some cj) → cj.isOwn = true → env[j]? = some (some cj) := fun {j cj} e o => by
      by_cases hj : i = j
      · subst hj
        have hl : i < env.length := (List.getElem?_eq_some_iff.mp hi).1
        rw [List.getElem?_set_self hl] at e
        cases e
        cases o
      · rw [List.getElem?_set_ne hj] at e; exact e
    exact ok.sep j l cj cl b hne (key e1 o1) o1 (key e2 o2) o2 s1 s2
theorem es_frz {D : Wn} {ts : TS} {i : Nat} {d : Dm} (nx : noX env = true) (hi : env[i]? = some (some (.o d))) (h : Es K Z ts (env.set i (some (.v d))) D) : Es K Z ts env D := fun G H σ ok D' c => by
  obtain ⟨G', ok', sg⟩ := ok.frz nx hi
  exact h G' H σ ok' D' ⟨fun e s G2 H2 q ok2 s2 => c.nx e s G2 H2 q ok2 (sg.trans s2), fun e s G2 H2 q ok2 s2 => c.bk e s G2 H2 q ok2 (sg.trans s2), fun e s G2 H2 q ok2 s2 => c.ct e s G2 H2 q ok2 (sg.trans s2), fun d v G2 H2 q hz s2 rv => c.rt d v G2 H2 q hz (sg.trans s2) rv, fun p v G2 H2 q hz s2 rv => c.rx p v G2 H2 q hz (sg.trans s2) rv⟩
theorem es_never {D : Wn} (h : False) : Es K Z tNever env D := h.elim
/-! ### dicts -/
/-- the dict at a, now and later -/
def DK (K : PySem.W.Frag) (P : Option Addr) (G H : Hp) (a : Addr) (ks : List (Key × Dm)) : Prop := ∃ kvs, RpK K G kvs ks ∧ (Rd G a (.dK kvs) ∨ (P ≠ some a ∧ Rd H a (.dK kvs)))
theorem DK.adv {P : Option Addr} {G H G' H' : Hp} {a : Addr} {ks : List (Key × Dm)} (h : DK K P G H a ks) (x : Adv P G H G' H') : DK K P G' H' a ks := by
  obtain ⟨kvs, r, d⟩ := h
  refine ⟨kvs, r.mono x.gg, d.elim (fun d => .inl (rd_mono x.gg d)) fun ⟨n, d⟩ => .inr ⟨n, ?_⟩⟩
  rcases d with d | ⟨o, d⟩
  · exact .inl (x.hh a _ n d)
  · exact .inr ⟨o, x.hh a _ n d⟩
theorem DK.rd {P : Option Addr} {G H : Hp} {a : Addr} {ks : List (Key × Dm)} (h : DK K P G H a ks) (e : Same G H) : ∃ kvs, RpK K G kvs ks ∧ Rd H a (.dK kvs) := by
  obtain ⟨kvs, r, d⟩ := h
  exact ⟨kvs, r, d.elim (fun d => rd_mono e d) fun d => d.2⟩
def Ed (K : PySem.W.Frag) (Z : Fr) (td : TE) (env : Env) (kd : List (Key × Dm) → Prop) : Prop :=
  ∀ (G H : Hp) (σ : L2.St), Ok K Z G H σ env → ∀ Q : VK, (∀ ks a G' H', kd ks → Adv Z.P G H G' H' → DK K Z.P G' H' a ks → Q (.ref a) H') → td σ H Q
variable {td ty : TE} {kd : List (Key × Dm) → Prop}
theorem ed_v (h : Ev K Z td env fun d => ∃ ks, d = .dic ks ∧ kd ks) : Ed K Z td env kd := fun G H σ ok Q c => by
  refine h G H σ ok _ fun d v G1 H1 hd a1 rv => ?_
  obtain ⟨ks, e, q⟩ := hd
  subst e
  obtain ⟨a, kvs, rfl, e2, r⟩ := rv.dic_inv
  exact c ks a G1 H1 q a1 ⟨kvs, r, .inl (.inl e2)⟩
theorem ed_own {i : Nat} {ks : List (Key × Dm)} (h : env[i]? = some (some (.o (.dic ks)))) (q : kd ks) : Ed K Z (tVar i) env kd := fun G H σ ok Q c => by
  obtain ⟨x, w0, a, rfl, ga, fa, na, kvs, ha, r⟩ := ok.slots i _ h
  exact ⟨_, w0, c ks a G H q ok.hz.refl ⟨kvs, r, .inr ⟨na, .inl ha⟩⟩⟩
theorem ed_ro {i : Nat} {ks : List (Key × Dm)} (h : env[i]? = some (some (.ro (.dic ks)))) (q : kd ks) : Ed K Z (tVar i) env kd := fun G H σ ok Q c => by
  obtain ⟨x, w0, a, rfl, ga, na, kvs, ha, r⟩ := ok.slots i _ h
  exact ⟨_, w0, c ks a G H q ok.hz.refl ⟨kvs, r, .inr ⟨na, .inl ha⟩⟩⟩
/-- a dict that is being walked over -/
def lkP (K : PySem.W.Frag) (P : Option Addr) (ks : List (Key × Dm)) : Hp → Hp → V → Prop := fun G H v => ∃ a, v = .ref a ∧ DK K P G H a ks
theorem ed_lk {i : Nat} {ks : List (Key × Dm)} (h : env[i]? = some (some (.x (lkP K Z.P ks)))) (q : kd ks) : Ed K Z (tVar i) env kd := fun G H σ ok Q c => by
  obtain ⟨x, w0, w⟩ := ok.slots i _ h
  obtain ⟨a, rfl, dk⟩ := w G H ok.hz.refl
  exact ⟨_, w0, c ks a G H q ok.hz.refl dk⟩
def lookD (ks : List (Key × Dm)) (k : Key) : Option Dm := (ks.find? fun kv => decide (kv.1 = k)).map (·.2)
def putD (ks : List (Key × Dm)) (k : Key) (d : Dm) : List (Key × Dm) := if (ks.any fun kv => decide (kv.1 = k)) = true then ks.map (fun kv => if kv.1 = k then (kv.1, d) else kv) else ks ++ [(k, d)]
def Dm.key : Dm → Option Key
  | .int i => some (.inl i)
  | .str x => some (.inr x)
  | _ => none
theorem Rp.key {G : Hp} {v : V} {d : Dm} {k : Key} (r : Rp K G v d) (h : d.key = some k) : v = kV k := by
  cases d <;> first | exact nomatch (show (none : Option Key) = some k from h) | skip
  · cases (Option.some.inj h); exact r.int_inv
  · cases (Option.some.inj h); exact r.str_inv
theorem RpK.look {G : Hp} : ∀ {kvs : List (Key × V)} {ks : List (Key × Dm)} (k : Key), RpK K G kvs ks → (valV kvs k = none ∧ lookD ks k = none) ∨ ∃ v d, valV kvs k = some v ∧ lookD ks k = some d ∧ Rp K G v d
  | _, _, k, .nil => .inl ⟨rfl, rfl⟩
  | _, _, k, .cons (k := k') (v := v) (d := d) h r => by
    by_cases e : k' = k
    · exact .inr ⟨v, d, by simp [valV, List.find?_cons, e], by simp [lookD, List.find?_cons, e], h⟩
    · rcases RpK.look k r with ⟨h1, h2⟩ | ⟨v', d', h1, h2, h3⟩
      · exact .inl ⟨by simpa [valV, List.find?_cons, e] using h1, by simpa [lookD, List.find?_cons, e] using h2⟩
      · exact .inr ⟨v', d', by simpa [valV, List.find?_cons, e] using h1, by simpa [lookD, List.find?_cons, e] using h2, h3⟩
theorem RpK.length {G : Hp} : ∀ {kvs : List (Key × V)} {ks : List (Key × Dm)}, RpK K G kvs ks → kvs.length = ks.length
  | _, _, .nil => rfl
  | _, _, .cons _ r => by simp [RpK.length r]
theorem RpK.any {G : Hp} (k : Key) : ∀ {kvs : List (Key × V)} {ks : List (Key × Dm)}, RpK K G kvs ks → (kvs.any fun kv => decide (kv.1 = k)) = ks.any fun kv => decide (kv.1 = k)
  | _, _, .nil => rfl
  | _, _, .cons _ r => by simp only [List.any_cons, RpK.any k r]
theorem RpK.app {G : Hp} {k : Key} {v : V} {d : Dm} (h : Rp K G v d) : ∀ {kvs : List (Key × V)} {ks : List (Key × Dm)}, RpK K G kvs ks → RpK K G (kvs ++ [(k, v)]) (ks ++ [(k, d)])
  | _, _, .nil => .cons h .nil
  | _, _, .cons h' r => .cons h' (RpK.app h r)
theorem RpK.chg {G : Hp} {k : Key} {v : V} {d : Dm} (h : Rp K G v d) : ∀ {kvs : List (Key × V)} {ks : List (Key × Dm)}, RpK K G kvs ks → RpK K G (kvs.map fun kv => if kv.1 = k then (kv.1, v) else kv) (ks.map fun kv => if kv.1 = k then (kv.1, d) else kv)
  | _, _, .nil => .nil
  | _, _, .cons (k := k') h' r => by
    rw [List.map_cons, List.map_cons]
    by_cases e : k' = k
    · rw [if_pos e, if_pos e]; exact .cons h (RpK.chg h r)
    · rw [if_neg e, if_neg e]; exact .cons h' (RpK.chg h r)
theorem RpK.put {G : Hp} {k : Key} {v : V} {d : Dm} {kvs : List (Key × V)} {ks : List (Key × Dm)} (h : Rp K G v d) (r : RpK K G kvs ks) : RpK K G (putK kvs k v) (putD ks k d) := by
  unfold putK putD
  rw [r.any k]
  split
  · exact RpK.chg h r
  · exact RpK.app h r
theorem ev_dget (h : Ed K Z td env fun ks => Ev K Z ty env fun e => ∃ x d, e.key = some x ∧ lookD ks x = some d ∧ k d) : Ev K Z (tDGet td ty) env k := fun G H σ ok Q c => by
  refine h G H σ ok _ fun ks a G1 H1 hb a1 dk => ?_
  refine hb G1 H1 σ (ok.adv a1) _ fun e y G2 H2 hk a2 ry => ?_
  obtain ⟨x, d, e1, e2, q⟩ := hk
  have ok2 := (ok.adv a1).adv a2
  obtain ⟨kvs, r, rd⟩ := (dk.adv a2).rd ok2.hz.exG
  rcases r.look x with ⟨_, h2⟩ | ⟨v, d', h1, h2, h3⟩
  · rw [h2] at e2; cases e2
  · rw [h2] at e2
    cases e2
    exact ⟨a, v, rfl, .inl ⟨kvs, x, rd, ry.key e1, h1.symm⟩, c _ _ G2 H2 q (a1.trans a2) h3⟩
theorem ev_din (h : Ev K Z ty env fun e => Ed K Z td env fun ks => ∃ x, e.key = some x ∧ k (.bl (lookD ks x).isSome)) : Ev K Z (tDIn ty td) env k := fun G H σ ok Q c => by
  refine h G H σ ok _ fun e y G1 H1 hb a1 ry => ?_
  refine hb G1 H1 σ (ok.adv a1) _ fun ks a G2 H2 hk a2 dk => ?_
  obtain ⟨x, e1, q⟩ := hk
  have ok2 := (ok.adv a1).adv a2
  obtain ⟨kvs, r, rd⟩ := dk.rd ok2.hz.exG
  refine ⟨a, valV kvs x, rfl, .inl ⟨kvs, x, rd, (Rp.mono a2.gg ry).key e1, rfl⟩, ?_⟩
  have e2 : (valV kvs x).isSome = (lookD ks x).isSome := by
    rcases r.look x with ⟨h1, h2⟩ | ⟨v, d', h1, h2, h3⟩ <;> (rw [h1, h2]; rfl)
  rw [e2]
  exact c _ _ G2 H2 q (a1.trans a2) (.bl _)
theorem ev_dnin (h : Ev K Z ty env fun e => Ed K Z td env fun ks => ∃ x, e.key = some x ∧ k (.bl (!(lookD ks x).isSome))) : Ev K Z (tDNotIn ty td) env k := fun G H σ ok Q c => by
  refine h G H σ ok _ fun e y G1 H1 hb a1 ry => ?_
  refine hb G1 H1 σ (ok.adv a1) _ fun ks a G2 H2 hk a2 dk => ?_
  obtain ⟨x, e1, q⟩ := hk
  have ok2 := (ok.adv a1).adv a2
  obtain ⟨kvs, r, rd⟩ := dk.rd ok2.hz.exG
  refine ⟨a, valV kvs x, rfl, .inl ⟨kvs, x, rd, (Rp.mono a2.gg ry).key e1, rfl⟩, ?_⟩
  have e2 : (valV kvs x).isSome = (lookD ks x).isSome := by
    rcases r.look x with ⟨h1, h2⟩ | ⟨v, d', h1, h2, h3⟩ <;> (rw [h1, h2]; rfl)
  rw [e2]
  exact c _ _ G2 H2 q (a1.trans a2) (.bl _)
/-- d[y] = e, d of one's own -/
theorem es_dput {D : Wn} {i : Nat} {ks : List (Key × Dm)} {tv : TE} (nx : noX env = true) (hi : env[i]? = some (some (.o (.dic ks)))) (hl : ks.length < sizeLine)
    (h : Ev K Z tv env fun d => Ev K Z ty env fun e => ∃ x, e.key = some x ∧ D.nx (env.set i (some (.o (.dic (putD ks x d)))))) : Es K Z (sDPut (tVar i) ty tv) env D := fun G H σ ok D' c => by
  refine h G H σ ok _ fun d v G1 H1 hb a1 rv => ?_
  have ok1 := ok.adv a1
  obtain ⟨x0, w0, a, rfl, _⟩ := ok1.slots i _ hi
  refine ⟨.ref a, w0, ?_⟩
  refine hb G1 H1 σ ok1 _ fun e y G2 H2 hk a2 ry => ?_
  obtain ⟨x, e1, q⟩ := hk
  have ok2 := ok1.adv a2
  obtain ⟨x1, w1, a', e2, ga, fa, na, kvs, ha, r⟩ := ok2.slots i _ hi
  rw [w0] at w1
  obtain rfl : a = a' := by
    have := Option.some.inj (Option.some.inj w1)
    rw [e2] at this
    exact V.ref.inj this
  refine ⟨a, _, rfl, .inl ⟨kvs, x, ha, ry.key e1, by rw [r.length]; exact hl, rfl⟩, ?_⟩
  exact c.nx _ σ G2 _ q (ok2.put hi rfl w0 ga fa na nx ⟨a, rfl, ga, fa, na, _, upd_same, r.put (Rp.mono a2.gg rv)⟩ rfl) (a1.gg.trans a2.gg)
end
end Ln
/-! Ln4: isinstance, deep ==, dict(pairs), sorted, walks under a lock. -/
namespace Ln
open PySem PySem.Spec PyProof.Rows L2
theorem br_y {b : Bool} {A B : Prop} (hb : b = true) (h : A) : if b = true then A else B := by rw [if_pos hb]; exact h
theorem br_n {b : Bool} {A B : Prop} (hb : b = false) (h : B) : if b = true then A else B := by rw [hb, if_neg Bool.false_ne_true]; exact h
theorem br_d {p : Prop} [Decidable p] {A B : Prop} (h1 : p → A) (h2 : ¬ p → B) : if decide p = true then A else B := by
  by_cases h : p
  · rw [if_pos (decide_eq_true h)]; exact h1 h
  · rw [decide_eq_false h, if_neg Bool.false_ne_true]; exact h2 h
theorem br_nt {p : Prop} [Decidable p] {A B : Prop} (h : p) (b : B) : if (!decide p) = true then A else B := by rw [decide_eq_true h]; exact br_n rfl b
theorem br_nf {p : Prop} [Decidable p] {A B : Prop} (h : ¬ p) (b : A) : if (!decide p) = true then A else B := by rw [decide_eq_false h]; exact br_y rfl b
theorem kb_t {p : Prop} [Decidable p] {k : Dm → Prop} (h : p) (hk : k (.bl true)) : k (.bl (decide p)) := by rw [decide_eq_true h]; exact hk
theorem sl15 {n : Nat} (h : n ≤ 15) : n ≤ sizeLine := Nat.le_trans h (by decide)
theorem sln {n m : Nat} (h : n ≤ m) (h2 : m ≤ 100000) : n ≤ sizeLine := Nat.le_trans h (Nat.le_trans h2 (by decide))
section
variable {K : PySem.W.Frag} {Z : Fr} {te ta tb tc td : TE} {env : Env} {k : Dm → Prop}
/-! ### isinstance -/
def Dm.typ : Dm → Option String
  | .non => some "NoneType"
  | .bl _ => some "bool"
  | .int _ => some "int"
  | .str _ => some "str"
  | .lst _ => some "list"
  | .tup _ => some "tuple"
  | .ftp _ => some "tuple"
  | .dic _ => some "dict"
  | _ => none
theorem typ_ok {G : Hp} {x : V} {d : Dm} {T : String} (h : d.typ = some T) (r : Rp K G x d) : TyX K G x (.type T) := by
  cases d <;> first | exact nomatch (show (none : Option String) = some T from h) | skip
  · cases (Option.some.inj h); rw [r.non_inv]; exact .base .non
  · cases (Option.some.inj h); rw [r.bl_inv]; exact .base (.bl _)
  · cases (Option.some.inj h); rw [r.int_inv]; exact .base (.int _)
  · cases (Option.some.inj h); rw [r.str_inv]; exact .base (.str _)
  · cases (Option.some.inj h)
    obtain ⟨a, xs, e, e2, _⟩ := r.lst_inv
    rw [e]; exact .base (.lst e2)
  · cases (Option.some.inj h)
    obtain ⟨a, xs, e, e2, _⟩ := r.tup_inv
    rw [e]; exact .base (.tup e2)
  · cases (Option.some.inj h)
    obtain ⟨a, o, xs, e, e2, _⟩ := r.ftp_inv
    rw [e]; exact .fTuple e2
  · cases (Option.some.inj h)
    obtain ⟨a, kvs, e, e2, _⟩ := r.dic_inv
    rw [e]
    exact .base (.dK e2)
theorem eb_isi {d : Dm} {n T : String} {b : Bool} (h : d.typ = some T) (hb : kitB T n = some b) (q : k (.bl b)) : Eb K Z (rIsi K) [.v d, .v (.ty n)] k := fun G H vs hz rs Q c => by
  obtain ⟨x, y, rfl, rx, ry⟩ := args2 rs
  exact ⟨x, y, _, _, b, rfl, by rw [ry.ty_inv]; exact .ty n, typ_ok h (Rp.mono hz.exG rx), kit_ty hb, c _ _ G H q hz.refl (.bl b)⟩
theorem eb_isi2 {d : Dm} {n n' T : String} {b b' : Bool} (h : d.typ = some T) (hb : kitB T n = some b) (hb' : kitB T n' = some b') (q : k (.bl (b || b'))) : Eb K Z (rIsiT K) [.v d, .v (.tup [.ty n, .ty n'])] k := fun G H vs hz rs Q c => by
  obtain ⟨x, y, rfl, rx, ry⟩ := args2 rs
  obtain ⟨tp, cs, rfl, e2, rc⟩ := ry.tup_inv
  cases rc with
  | cons r1 r2 =>
    cases r2 with
    | cons r2 r3 =>
      cases r3
      refine ⟨x, tp, _, _, [.type n, .type n'], b || b', rfl, hz.exG _ _ e2, .cons (by rw [r1.ty_inv]; exact .ty n) (.cons (by rw [r2.ty_inv]; exact .ty n') .nil), typ_ok h (Rp.mono hz.exG rx), ?_, c _ _ G H q hz.refl (.bl _)⟩
      refine kitAny_cons (kit_ty hb) (fun e => ?_) (fun e => by rw [e]; rfl)
      refine kitAny_cons (kit_ty hb') (fun e2 => by rw [e, e2]; rfl) (fun e2 => by rw [e, e2]; rfl)
/-- what isinstance asks of an own class -/
structure IsC (K : PySem.W.Frag) (C : Addr) : Prop where
  cl : Cls K C
  ha : PySem.W.findIn K (.ref C) "__class__" = some (some (.builtin "object.__class__"))
  hn : PySem.W.specialIn K (.builtin "object.__class__") "__get__" = some (some (.builtin "getset_descriptor.__get__"))
  htk : PySem.W.takesIn K (.builtin "object.__class__") = some true
  hm : PySem.W.mroIn K C (.type "object") = some true
theorem eb_isiC {C : Addr} {f : Str} {d : Dm} (ic : IsC K C) (q : k (.bl true)) : Eb K Z (rIsi K) [.v (.obj C f d), .v (.fn C)] k := fun G H vs hz rs Q c => by
  obtain ⟨x, y, rfl, rx, ry⟩ := args2 rs
  obtain ⟨a, dx, w, rfl, e2, _⟩ := rx.obj_inv
  exact ⟨_, y, .ref C, .ref C, true, rfl, by rw [ry.fn_inv]; exact .own C, .base (.ins (hz.exG _ _ e2) ic.cl ic.ha ic.hn ic.htk ic.hm), if_pos (beq_self_eq_true _), c _ _ G H q hz.refl (.bl _)⟩
/-! ### comprehensions, by what each item gives -/
inductive Al {α β : Type} (R : α → β → Prop) : List α → List β → Prop
  | nil : Al R [] []
  | cons {x : α} {y : β} {xs : List α} {ys : List β} : R x y → Al R xs ys → Al R (x :: xs) (y :: ys)
theorem Al.app {α β : Type} {R : α → β → Prop} : ∀ {xs : List α} {ys : List β} {us : List α} {vs : List β}, Al R xs ys → Al R us vs → Al R (xs ++ us) (ys ++ vs)
  | _, _, _, _, .nil, h => h
  | _, _, _, _, .cons a b, h => .cons a (Al.app b h)
theorem Al.length {α β : Type} {R : α → β → Prop} : ∀ {xs : List α} {ys : List β}, Al R xs ys → xs.length = ys.length
  | _, _, .nil => rfl
  | _, _, .cons a b => by simp [Al.length b]
theorem Al.eq_map {α β : Type} {f : α → β} : ∀ {xs : List α} {ys : List β}, Al (fun x y => y = f x) xs ys → ys = xs.map f
  | _, _, .nil => rfl
  | _, _, .cons a b => by rw [a, Al.eq_map b]; rfl
theorem Al.mono {α β : Type} {R S : α → β → Prop} (h : ∀ x y, R x y → S x y) : ∀ {xs : List α} {ys : List β}, Al R xs ys → Al S xs ys
  | _, _, .nil => .nil
  | _, _, .cons a b => .cons (h _ _ a) (Al.mono h b)
theorem Al.ofmem {α β : Type} {R S : α → β → Prop} : ∀ {xs : List α} {ys : List β}, (∀ x y, x ∈ xs → R x y → S x y) → Al R xs ys → Al S xs ys
  | _, _, _, .nil => .nil
  | _, _, h, .cons a b => .cons (h _ _ (List.mem_cons_self ..) a) (Al.ofmem (fun x y m => h x y (List.mem_cons_of_mem _ m)) b)
theorem Al.split {α β γ : Type} {f : γ → β} {R : α → β → Prop} {S : α → γ → Prop} (h : ∀ x y, R x y → ∃ z, y = f z ∧ S x z) : ∀ {xs : List α} {ys : List β}, Al R xs ys → ∃ zs, ys = zs.map f ∧ Al S xs zs
  | _, _, .nil => ⟨[], rfl, .nil⟩
  | _, _, .cons a b => by
    obtain ⟨z, e, s⟩ := h _ _ a
    obtain ⟨zs, e2, s2⟩ := Al.split h b
    exact ⟨z :: zs, by rw [e, e2]; rfl, .cons s s2⟩
theorem ef_rel {α : Type} {wi : TI} {g : TG} {tt : TT} {vs : List Nat} (R : α → Option Dm → Prop) (gs : GSet g vs) (gm : GMono g)
    (h : Ej K Z wi env fun ds => ∃ (xs : List α) (enc : α → Dm), ds = xs.map enc ∧ xs.length < sizeLine ∧
      (∀ (Z' : Fr) x, x ∈ xs → Eg K Z' g (enc x) (blkE env vs) fun e2 => Et K Z' tt e2 fun b => if b = true then Ev K Z' te e2 fun y => R x (some y) else R x none) ∧
      ∀ outs : List (Option Dm), Al R xs outs → k (.lst (outs.filterMap id))) : Ef K Z (tLc wi g tt te vs) env k := by
  refine ef_lc gs gm fun G H σ ok Q c => h G H σ ok Q fun ds J G1 H1 hd a1 wk => c ds J G1 H1 ?_ a1 wk
  obtain ⟨xs, enc, rfl, hl, hs, hk⟩ := hd
  refine ⟨by simpa using hl, fun i acc => ∃ outs, Al R (xs.take i) outs ∧ acc = outs.filterMap id, ⟨[], .nil, rfl⟩, fun Z' i d acc hd hI hal => ?_, fun acc hI hal => ?_⟩
  · rw [List.getElem?_map] at hd
    obtain ⟨x, hx, rfl⟩ := Option.map_eq_some_iff.mp hd
    obtain ⟨outs, hf, rfl⟩ := hI
    have tk : xs.take (i + 1) = xs.take i ++ [x] := by
      rw [List.take_succ, hx]; rfl
    have snoc : ∀ o, R x o → Al R (xs.take (i + 1)) (outs ++ [o]) := fun o ho => by
      rw [tk]
      exact hf.app (.cons ho .nil)
    intro G2 H2 σ2 v ok2 rv Q2 c2
    refine hs Z' x (List.mem_of_getElem? hx) G2 H2 σ2 v ok2 rv Q2 fun env' σ' G' H' he ok' sg => c2 env' σ' G' H' ?_ ok' sg
    refine he.mono fun b hb => ?_
    cases b with
    | true => exact Ev.mono hb fun y hy => ⟨outs ++ [some y], snoc _ hy, by simp⟩
    | false => exact ⟨outs ++ [none], snoc _ hb, by simp⟩
  · obtain ⟨outs, hf, rfl⟩ := hI
    rw [List.length_map, List.take_length] at hf
    exact hk outs hf
/-- no if: each item gives something of which R tells -/
theorem ef_each {α : Type} {wi : TI} {g : TG} {vs : List Nat} (R : α → Dm → Prop) (gs : GSet g vs) (gm : GMono g)
    (h : Ej K Z wi env fun ds => ∃ (xs : List α) (enc : α → Dm), ds = xs.map enc ∧ xs.length < sizeLine ∧
      (∀ (Z' : Fr) x, x ∈ xs → Eg K Z' g (enc x) (blkE env vs) fun e2 => Ev K Z' te e2 fun y => R x y) ∧
      ∀ ys : List Dm, Al R xs ys → k (.lst ys)) : Ef K Z (tLc wi g tYes te vs) env k := by
  refine ef_rel (fun x o => ∃ y, o = some y ∧ R x y) gs gm fun G H σ ok Q c => h G H σ ok Q fun ds J G1 H1 hd a1 wk => c ds J G1 H1 ?_ a1 wk
  obtain ⟨xs, enc, rfl, hl, hs, hk⟩ := hd
  refine ⟨xs, enc, rfl, hl, fun Z' x hx G2 H2 σ2 v ok2 rv Q2 c2 => hs Z' x hx G2 H2 σ2 v ok2 rv Q2 fun env' σ' G' H' he ok' sg => c2 env' σ' G' H' ?_ ok' sg, fun outs ha => ?_⟩
  · exact et_yes (br_y rfl (he.mono fun y hy => ⟨y, rfl, hy⟩))
  · obtain ⟨zs, e, s2⟩ := ha.split (f := some) (S := R) fun x y ⟨z, e, r⟩ => ⟨z, e, r⟩
    subst e
    have : (zs.map some).filterMap id = zs := by
      rw [List.filterMap_map]; simp
    rw [this]
    exact hk zs s2
/-- each item gives one thing -/
theorem ef_map {α : Type} {wi : TI} {g : TG} {vs : List Nat} (φ : α → Dm) (gs : GSet g vs) (gm : GMono g)
    (h : Ej K Z wi env fun ds => ∃ (xs : List α) (enc : α → Dm), ds = xs.map enc ∧ xs.length < sizeLine ∧
      (∀ (Z' : Fr) x, x ∈ xs → Eg K Z' g (enc x) (blkE env vs) fun e2 => Ev K Z' te e2 fun y => y = φ x) ∧ k (.lst (xs.map φ))) : Ef K Z (tLc wi g tYes te vs) env k := by
  refine ef_each (fun x y => y = φ x) gs gm fun G H σ ok Q c => h G H σ ok Q fun ds J G1 H1 hd a1 wk => c ds J G1 H1 ?_ a1 wk
  obtain ⟨xs, enc, rfl, hl, hs, hk⟩ := hd
  exact ⟨xs, enc, rfl, hl, hs, fun ys ha => by rw [ha.eq_map]; exact hk⟩
/-- with an if that the item itself answers -/
theorem ef_fil {α : Type} {wi : TI} {g : TG} {tt : TT} {vs : List Nat} (p : α → Bool) (φ : α → Dm) (gs : GSet g vs) (gm : GMono g)
    (h : Ej K Z wi env fun ds => ∃ (xs : List α) (enc : α → Dm), ds = xs.map enc ∧ xs.length < sizeLine ∧
      (∀ (Z' : Fr) x, x ∈ xs → Eg K Z' g (enc x) (blkE env vs) fun e2 => Et K Z' tt e2 fun b => b = p x ∧ (b = true → Ev K Z' te e2 fun y => y = φ x)) ∧ k (.lst ((xs.filter p).map φ))) : Ef K Z (tLc wi g tt te vs) env k := by
  refine ef_rel (fun x o => o = if p x = true then some (φ x) else none) gs gm fun G H σ ok Q c => h G H σ ok Q fun ds J G1 H1 hd a1 wk => c ds J G1 H1 ?_ a1 wk
  obtain ⟨xs, enc, rfl, hl, hs, hk⟩ := hd
  refine ⟨xs, enc, rfl, hl, fun Z' x hx G2 H2 σ2 v ok2 rv Q2 c2 => hs Z' x hx G2 H2 σ2 v ok2 rv Q2 fun env' σ' G' H' he ok' sg => c2 env' σ' G' H' ?_ ok' sg, fun outs ha => ?_⟩
  · refine he.mono fun b ⟨e, q⟩ => ?_
    cases b with
    | true => exact br_y rfl ((q rfl).mono fun y hy => by rw [← e, if_pos rfl, hy])
    | false => exact br_n rfl (by rw [← e]; rfl)
  · have e := ha.eq_map
    have : outs.filterMap id = (xs.filter p).map φ := by
      rw [e]
      clear e ha hk hs hl wk
      induction xs with
      | nil => rfl
      | cons x xs ih =>
        by_cases hp : p x = true
        · simp [hp] at ih ⊢; exact ih
        · simp [hp] at ih ⊢; exact ih
    rw [this]
    exact hk
theorem eb_allT {α : Type} {xs : List α} (q : k (.bl true)) : Eb K Z (rAll K) [.v (.lst (xs.map fun _ => .bl true))] k := by
  have e : xs.map (fun _ => Dm.bl true) = (xs.map fun _ => true).map .bl := by rw [List.map_map]; rfl
  rw [e]
  refine eb_all ?_
  have : (xs.map fun _ => true).all id = true := by simp
  rw [this]; exact q
theorem eb_allB {α : Type} {xs : List α} {p : α → Bool} (q : k (.bl (xs.all p))) : Eb K Z (rAll K) [.v (.lst (xs.map fun x => .bl (p x)))] k := by
  have e : xs.map (fun x => Dm.bl (p x)) = (xs.map p).map .bl := by rw [List.map_map]; rfl
  rw [e]
  refine eb_all ?_
  have : (xs.map p).all id = xs.all p := by simp [List.all_map]
  rw [this]; exact q
theorem eb_anyB {α : Type} {xs : List α} {p : α → Bool} (q : k (.bl (xs.any p))) : Eb K Z (rAny K) [.v (.lst (xs.map fun x => .bl (p x)))] k := by
  have e : xs.map (fun x => Dm.bl (p x)) = (xs.map p).map .bl := by rw [List.map_map]; rfl
  rw [e]
  refine eb_any ?_
  have : (xs.map p).any id = xs.any p := by simp [List.any_map]
  rw [this]; exact q
/-- a walk over a list or a tuple, as it comes -/
def iOr (wi wj : TI) : TI := fun σ H R => wi σ H R ∨ wj σ H R
theorem pi_or {X : Cx} {tg l : Expr} {wi wj : TI} (a : PI X tg l wi) (b : PI X tg l wj) : PI X tg l (iOr wi wj) := ⟨fun pins s σ H R I h => h.elim (a.run pins s σ H R I) (b.run pins s σ H R I)⟩
theorem ei_l {wi wj : TI} {ki : List Dm → Prop} (h : Ei K Z wi env ki) : Ei K Z (iOr wi wj) env ki := fun G H σ ok R c => .inl (h G H σ ok R c)
theorem ei_r {wi wj : TI} {ki : List Dm → Prop} (h : Ei K Z wj env ki) : Ei K Z (iOr wi wj) env ki := fun G H σ ok R c => .inr (h G H σ ok R c)
/-- .. of a slot's datum -/
theorem ei_seqV {i : Nat} {d : Dm} {ds : List Dm} {ki : List Dm → Prop} (h : env[i]? = some (some (.v d))) (hd : d.seq = some ds) (q : ki ds) : Ei K Z (iOr (iList K (tVar i)) (iTup K (tVar i))) env ki := by
  cases d <;> first | exact nomatch (show (none : Option (List Dm)) = some ds from hd) | skip
  · cases (Option.some.inj hd); exact ei_l (ei_list (ev_var h ⟨_, rfl, q⟩))
  · cases (Option.some.inj hd); exact ei_r (ei_tup (ev_var h ⟨_, rfl, q⟩))
  · cases (Option.some.inj hd); exact ei_r (ei_tup (ev_var h ⟨_, rfl, q⟩))
/-- .. of a part of a tuple in a slot -/
theorem ei_seqP {i : Nat} {j : Int} {d dt : Dm} {ds es : List Dm} {ki : List Dm → Prop} (h : env[i]? = some (some (.v dt))) (ht : dt.tp = some es) (hj : atI es j = some d) (hd : d.seq = some ds) (q : ki ds) :
    Ei K Z (iOr (iList K (tOp (rIxT K) (tVar i) (tC (.int j)))) (iTup K (tOp (rIxT K) (tVar i) (tC (.int j))))) env ki := by
  cases d <;> first | exact nomatch (show (none : Option (List Dm)) = some ds from hd) | skip
  · cases (Option.some.inj hd); exact ei_l (ei_list (ev_op (ev_var h (ev_int (er_ixT ⟨es, _, ht, hj, _, rfl, q⟩)))))
  · cases (Option.some.inj hd); exact ei_r (ei_tup (ev_op (ev_var h (ev_int (er_ixT ⟨es, _, ht, hj, _, rfl, q⟩)))))
  · cases (Option.some.inj hd); exact ei_r (ei_tup (ev_op (ev_var h (ev_int (er_ixT ⟨es, _, ht, hj, _, rfl, q⟩)))))
/-- a loop over data that come of xs -/
theorem es_forA {α : Type} {wi : TI} {g : TG} {tb : TS} {D : Wn} (xs : List α) (enc : α → Dm) (I : Nat → Env → Prop) (h : Ei K Z wi env fun ds => ds = xs.map enc) (h0 : I 0 env)
    (hs : ∀ i x e, xs[i]? = some x → I i e → Eg K Z g (enc x) e fun e2 => Es K Z tb e2 ⟨I (i + 1), D.rt, D.nx, I (i + 1), D.rx⟩) (he : ∀ e, I xs.length e → D.nx e) : Es K Z (tFor wi g tb) env D :=
  es_for fun G H σ ok R c => h G H σ ok R fun ds J G1 H1 e a wk => c ds J G1 H1 (by
    subst e
    refine ⟨I, h0, fun i d e hd hI => ?_, fun e hI => he e (by simpa using hI)⟩
    rw [List.getElem?_map] at hd
    obtain ⟨x, hx, rfl⟩ := Option.map_eq_some_iff.mp hd
    exact hs i x e hx hI) a wk
section
variable {α : Type} {wi : TI} {g : TG} {tt : TT} {vs : List Nat}
theorem ef_mapX (xs : List α) (enc : α → Dm) (φ : α → Dm) (gs : GSet g vs) (gm : GMono g) (h : Ej K Z wi env fun ds => ds = xs.map enc) (hl : xs.length < sizeLine)
    (hs : ∀ (Z' : Fr) x, x ∈ xs → Eg K Z' g (enc x) (blkE env vs) fun e2 => Ev K Z' te e2 fun y => y = φ x) (hk : k (.lst (xs.map φ))) : Ef K Z (tLc wi g tYes te vs) env k :=
  ef_map φ gs gm fun G H σ ok R c => h G H σ ok R fun ds J G1 H1 e a wk => c ds J G1 H1 ⟨xs, enc, e, hl, hs, hk⟩ a wk
theorem ef_filX (xs : List α) (enc : α → Dm) (p : α → Bool) (φ : α → Dm) (gs : GSet g vs) (gm : GMono g) (h : Ej K Z wi env fun ds => ds = xs.map enc) (hl : xs.length < sizeLine)
    (hs : ∀ (Z' : Fr) x, x ∈ xs → Eg K Z' g (enc x) (blkE env vs) fun e2 => Et K Z' tt e2 fun b => b = p x ∧ (b = true → Ev K Z' te e2 fun y => y = φ x)) (hk : k (.lst ((xs.filter p).map φ))) : Ef K Z (tLc wi g tt te vs) env k :=
  ef_fil p φ gs gm fun G H σ ok R c => h G H σ ok R fun ds J G1 H1 e a wk => c ds J G1 H1 ⟨xs, enc, e, hl, hs, hk⟩ a wk
theorem ef_eachX (xs : List α) (enc : α → Dm) (R : α → Dm → Prop) (gs : GSet g vs) (gm : GMono g) (h : Ej K Z wi env fun ds => ds = xs.map enc) (hl : xs.length < sizeLine)
    (hs : ∀ (Z' : Fr) x, x ∈ xs → Eg K Z' g (enc x) (blkE env vs) fun e2 => Ev K Z' te e2 fun y => R x y) (hk : ∀ ys : List Dm, Al R xs ys → k (.lst ys)) : Ef K Z (tLc wi g tYes te vs) env k :=
  ef_each R gs gm fun G H σ ok R c => h G H σ ok R fun ds J G1 H1 e a wk => c ds J G1 H1 ⟨xs, enc, e, hl, hs, hk⟩ a wk
theorem ef_relX (xs : List α) (enc : α → Dm) (R : α → Option Dm → Prop) (gs : GSet g vs) (gm : GMono g) (h : Ej K Z wi env fun ds => ds = xs.map enc) (hl : xs.length < sizeLine)
    (hs : ∀ (Z' : Fr) x, x ∈ xs → Eg K Z' g (enc x) (blkE env vs) fun e2 => Et K Z' tt e2 fun b => if b = true then Ev K Z' te e2 fun y => R x (some y) else R x none)
    (hk : ∀ outs : List (Option Dm), Al R xs outs → k (.lst (outs.filterMap id))) : Ef K Z (tLc wi g tt te vs) env k :=
  ef_rel R gs gm fun G H σ ok R c => h G H σ ok R fun ds J G1 H1 e a wk => c ds J G1 H1 ⟨xs, enc, e, hl, hs, hk⟩ a wk
end
/-! ### zip of tuples -/
theorem wk_zipT {P : Option Addr} {G : Hp} {a b : Addr} {xs ys : List V} {ds es : List Dm} (h : SqT K G a xs) (r : RpL K G xs ds) (h' : SqT K G b ys) (r' : RpL K G ys es) : Wk K P G (RZ.ItzT K a b) (zipD ds es) := fun Z G2 H e sg hz i => by
  have h2 : SqT K H a xs := same_t hz.exG (same_t sg h)
  have h2' : SqT K H b ys := same_t hz.exG (same_t sg h')
  rw [zipD_len]
  refine ⟨fun d hd => ?_, fun hl => ⟨xs, ys, h2, h2', by rw [r.length, r'.length]; omega⟩⟩
  obtain ⟨d1, d2, hd1, hd2, rfl⟩ := zipD_at ds es hd
  obtain ⟨v, e1, e2⟩ := r.get' hd1
  obtain ⟨v', e1', e2'⟩ := r'.get' hd2
  refine ⟨⟨xs, ys, v, v', h2, h2', e1, e1'⟩, fun x H' y => ?_⟩
  obtain ⟨T, x1, x2, rfl, nT, rfl, y1, y2⟩ := y
  have ex : x1 = v := Option.some.inj ((y1 xs h2).symm.trans e1)
  have ex' : x2 = v' := Option.some.inj ((y2 ys h2').symm.trans e1')
  subst ex ex'
  have a4 := Adv.new (o := .tup [x1, x2]) hz nT
  exact ⟨_, e ▸ a4, .tup upd_same (.cons ((e2.mono sg).mono a4.gg) (.cons ((e2'.mono sg).mono a4.gg) .nil))⟩
theorem ei_zipT {t : TA} {ki : List Dm → Prop} (h : Ea K Z t env fun as => ∃ d e ds es, as = [.v d, .v e] ∧ d.tp = some ds ∧ e.tp = some es ∧ ki (zipD ds es)) : Ei K Z (RZ.iZipA K t) env ki := fun G H σ ok R c => by
  refine h G H σ ok _ fun as vs G1 H1 hd a1 rs => ?_
  obtain ⟨d, e', ds, es, e, t1, t2, q⟩ := hd
  subst e
  obtain ⟨v, w, rfl, rv, rw'⟩ := args2 rs
  obtain ⟨a, xs, e1, e2, e3⟩ := rv.tp_inv t1
  obtain ⟨b, ys, f1, f2, f3⟩ := rw'.tp_inv t2
  have hz := (ok.adv a1).hz
  exact ⟨a, b, xs, ys, by rw [e1, f1], .inr ⟨same_t hz.exG e2, same_t hz.exG f2, c _ _ G1 H1 q a1 (wk_zipT e2 e3 f2 f3)⟩⟩
theorem zipD_map {α β : Type} (f : α → Dm) (g : β → Dm) : ∀ (xs : List α) (ys : List β), zipD (xs.map f) (ys.map g) = (xs.zip ys).map fun p => .tup [f p.1, g p.2]
  | [], [] => rfl
  | [], _ :: _ => rfl
  | _ :: _, [] => rfl
  | x :: xs, y :: ys => by
    show Dm.tup [f x, g y] :: zipD (xs.map f) (ys.map g) = _
    rw [zipD_map f g xs ys]; rfl
theorem enumD_map {α : Type} (f : α → Dm) : ∀ (xs : List α) (j : Nat), enumD j (xs.map f) = (xs.zipIdx j).map fun p => .tup [.int (p.2 : Nat), f p.1]
  | [], _ => rfl
  | x :: xs, j => by
    show Dm.tup [.int j, f x] :: enumD (j + 1) (xs.map f) = _
    rw [enumD_map f xs (j + 1)]; rfl
def cutL {α : Type} (ds : List α) (lo hi : Option Int) : List α := (ds.drop (HT.sIx ds.length 0 lo)).take (HT.sIx ds.length ds.length hi - HT.sIx ds.length 0 lo)
theorem cutD_map {α : Type} (f : α → Dm) (xs : List α) (lo hi : Option Int) : cutD (xs.map f) lo hi = (cutL xs lo hi).map f := by
  unfold cutD cutL
  rw [List.length_map, List.map_take, List.map_drop]
/-! ### data as the library's -/
mutual
def Dm.py : Dm → PyData
  | .non => .none
  | .bl b => .bool b
  | .int i => .int i
  | .str x => .str x
  | .lst ds => .list (pyL ds)
  | .tup ds => .tuple (pyL ds)
  | .ftp ds => .tuple (pyL ds)
  | _ => .none
def pyL : List Dm → List PyData
  | [] => []
  | d :: ds => d.py :: pyL ds
end
mutual
/-- no dict, no object in it -/
def Dm.fit : Dm → Bool
  | .non => true
  | .bl _ => true
  | .int _ => true
  | .str _ => true
  | .lst ds => fitL ds
  | .tup ds => fitL ds
  | .ftp ds => fitL ds
  | .dic _ => false
  | .obj _ _ _ => false
  | .fn _ => false
  | .scr _ => false
  | .ty _ => false
def fitL : List Dm → Bool
  | [] => true
  | d :: ds => d.fit && fitL ds
end
mutual
theorem Rp.dp {H : Hp} : ∀ {d : Dm} {v : V}, d.fit = true → Rp K H v d → Dp K H v d.py
  | .non, _, _, r => by rw [r.non_inv]; exact .non
  | .bl b, _, _, r => by rw [r.bl_inv]; exact .bl b
  | .int i, _, _, r => by rw [r.int_inv]; exact .int i
  | .str x, _, _, r => by rw [r.str_inv]; exact .str x
  | .lst ds, _, f, r => by
    obtain ⟨a, xs, rfl, e, rl⟩ := r.lst_inv
    rw [Dm.py]
    exact .lst (.inl (.inl e)) (RpL.dp (by rw [Dm.fit] at f; exact f) rl)
  | .tup ds, _, f, r => by
    obtain ⟨a, xs, rfl, e, rl⟩ := r.tup_inv
    rw [Dm.py]
    exact .tup (.inl (.inl e)) (RpL.dp (by rw [Dm.fit] at f; exact f) rl)
  | .ftp ds, _, f, r => by
    obtain ⟨a, o, xs, rfl, e, _, rl⟩ := r.ftp_inv
    rw [Dm.py]
    exact .tup (.inl (.inr ⟨o, e⟩)) (RpL.dp (by rw [Dm.fit] at f; exact f) rl)
  | .dic _, _, f, _ => by simp [Dm.fit] at f
  | .obj _ _ _, _, f, _ => by simp [Dm.fit] at f
  | .fn _, _, f, _ => by simp [Dm.fit] at f
  | .scr _, _, f, _ => by simp [Dm.fit] at f
  | .ty _, _, f, _ => by simp [Dm.fit] at f
theorem RpL.dp {H : Hp} : ∀ {ds : List Dm} {vs : List V}, fitL ds = true → RpL K H vs ds → DpAll K H vs (pyL ds)
  | [], _, _, r => by
    cases r
    rw [pyL]
    exact .nil
  | d :: ds, _, f, r => by
    rw [fitL, Bool.and_eq_true] at f
    cases r with
    | cons a b =>
      rw [pyL]
      exact .cons (a.dp f.1) (b.dp f.2)
end
theorem er_eqD {da db : Dm} (fa : da.fit = true) (fb : db.fit = true) (sa : SeqAt.shaped da.py = true) (sb : SeqAt.shaped db.py = true) (q : k (.bl (PyData.eqv da.py db.py))) : Er K Z (rEqD K) da db k :=
  er_val q fun G H x y hz rx ry Q c => ⟨da.py, db.py, Rp.dp fa (Rp.mono hz.exG rx), Rp.dp fb (Rp.mono hz.exG ry), sa, sb, c _ (.bl _)⟩
theorem er_inD {da : Dm} {ds : List Dm} (fa : da.fit = true) (fb : fitL ds = true) (sa : SeqAt.shaped da.py = true) (sb : SeqAt.shaped (.list (pyL ds)) = true) (q : k (.bl ((pyL ds).any fun z => PyData.eqv z da.py))) : Er K Z (rInD K) da (.lst ds) k :=
  er_val q fun G H x y hz rx ry Q c => by
    have h := Rp.dp (K := K) (d := .lst ds) (by rw [Dm.fit]; exact fb) (Rp.mono hz.exG ry)
    rw [Dm.py] at h
    exact ⟨da.py, pyL ds, Rp.dp fa (Rp.mono hz.exG rx), h, sa, sb, c _ (.bl _)⟩
/-! ### dict(..), list(d), sorted(d) -/
/-- the pairs of a dict that is being made of a list of pairs -/
theorem pairs_rp {G H : Hp} (e : Same G H) : ∀ {vs : List V} {es : List (Key × Dm)}, RpL K G vs (es.map fun p => .tup [match p.1 with | .inl i => .int i | .inr x => .str x, p.2]) →
    ∃ (ps : List Addr) (kvs : List (Key × V)), vs = ps.map V.ref ∧ RpK K G kvs es ∧ Paired (fun p kv => SqT K H p [kV kv.1, kv.2]) ps kvs
  | _, [], r => by
    cases r
    exact ⟨[], [], rfl, .nil, .nil⟩
  | _, (k, d) :: es, r => by
    cases r with
    | cons a b =>
      obtain ⟨ps, kvs, h1, h2, h3⟩ := pairs_rp e b
      obtain ⟨p, xs, rfl, ep, rr⟩ := a.tup_inv
      cases rr with
      | cons r1 r2 =>
        cases r2 with
        | cons r2 r3 =>
          cases r3
          have ek : _ = kV k := Rp.key (k := k) r1 (by cases k <;> rfl)
          rw [ek] at ep
          exact ⟨p :: ps, (k, _) :: kvs, by rw [h1]; rfl, .cons r2 h2, .cons (.inl (.inl (e _ _ ep))) h3⟩
theorem putD_new {ks : List (Key × Dm)} {k : Key} {d : Dm} (h : ∀ p ∈ ks, p.1 ≠ k) : putD ks k d = ks ++ [(k, d)] := by
  unfold putD
  rw [if_neg]
  simp only [List.any_eq_true, decide_eq_true_eq, not_exists, not_and]
  exact fun p hp => h p hp
theorem putK_new {ks : List (Key × V)} {k : Key} {d : V} (h : ∀ p ∈ ks, p.1 ≠ k) : putK ks k d = ks ++ [(k, d)] := by
  unfold putK
  rw [if_neg]
  simp only [List.any_eq_true, decide_eq_true_eq, not_exists, not_and]
  exact fun p hp => h p hp
theorem merge_new : ∀ (more kvs : List (Key × V)), ((kvs ++ more).map (·.1)).Nodup → mergeK kvs more = kvs ++ more
  | [], kvs, _ => by simp [mergeK]
  | p :: more, kvs, h => by
    show mergeK (putK kvs p.1 p.2) more = _
    have h1 : ∀ q ∈ kvs, q.1 ≠ p.1 := fun q hq e => by
      rw [List.map_append, List.map_cons] at h
      have := (List.nodup_append.mp h).2.2 q.1 (List.mem_map_of_mem hq) p.1 (List.mem_cons_self ..)
      exact this e
    rw [putK_new h1, merge_new more _ (by simpa using h)]
    simp
theorem RpK.keys {G : Hp} : ∀ {kvs : List (Key × V)} {es : List (Key × Dm)}, RpK K G kvs es → kvs.map (·.1) = es.map (·.1)
  | _, _, .nil => rfl
  | _, _, .cons a b => by simp [RpK.keys b]
abbrev rDictP (K : PySem.W.Frag) : List V → Hp → VK → Prop := fun xs H Q => ∃ (a : Addr) (ps : List Addr) (kvs : List (Key × V)), xs = [.ref a] ∧ SqL K H a (ps.map V.ref) ∧ Paired (fun p kv => SqT K H p [kV kv.1, kv.2]) ps kvs ∧ ∀ p, H p = none → Q (.ref p) (upd H p (.dK (mergeK [] kvs)))
theorem eb_dictP {es : List (Key × Dm)} (nd : (es.map (·.1)).Nodup) (q : k (.dic es)) : Eb K Z (rDictP K) [.v (.lst (es.map fun p => .tup [match p.1 with | .inl i => .int i | .inr x => .str x, p.2]))] k := fun G H vs hz rs Q c => by
  obtain ⟨v, rfl, rv⟩ := args1 rs
  obtain ⟨a, xs, rfl, e2, e3⟩ := rv.lst_inv
  obtain ⟨ps, kvs, rfl, rk, pp⟩ := pairs_rp hz.exG e3
  refine ⟨a, ps, kvs, rfl, .inl (.inl (hz.exG _ _ e2)), pp, fun p hp => ?_⟩
  have em : mergeK [] kvs = kvs := by
    rw [merge_new kvs [] (by rw [List.nil_append, rk.keys]; exact nd)]; rfl
  rw [em]
  have a4 := Adv.new (o := .dK kvs) hz hp
  exact c _ _ _ _ q a4 (.dic upd_same (rk.mono a4.gg))
def keyD : Key → Dm
  | .inl i => .int i
  | .inr x => .str x
abbrev rListDK : List V → Hp → VK → Prop := fun xs H Q => ∃ (a : Addr) (kvs : List (Key × V)), xs = [.ref a] ∧ Rd H a (.dK kvs) ∧ ∀ p, H p = none → Q (.ref p) (upd H p (.lst (kvs.map fun kv => kV kv.1)))
theorem keys_rp {G : Hp} : ∀ {kvs : List (Key × V)} {es : List (Key × Dm)}, RpK K G kvs es → RpL K G (kvs.map fun kv => kV kv.1) (es.map fun p => keyD p.1)
  | _, _, .nil => .nil
  | _, _, .cons (k := k) a b => .cons (by cases k <;> constructor) (keys_rp b)
theorem eb_listD {es : List (Key × Dm)} (q : k (.lst (es.map fun p => keyD p.1))) : Eb K Z rListDK [.v (.dic es)] k := fun G H vs hz rs Q c => by
  obtain ⟨v, rfl, rv⟩ := args1 rs
  obtain ⟨a, kvs, rfl, e2, e3⟩ := rv.dic_inv
  refine ⟨a, kvs, rfl, .inl (hz.exG _ _ e2), fun p hp => ?_⟩
  have a4 := Adv.new (o := .lst (kvs.map fun kv => kV kv.1)) hz hp
  exact c _ _ _ _ q a4 (.lst upd_same ((keys_rp e3).mono a4.gg))
abbrev rSortedDI : List V → Hp → VK → Prop := fun xs H Q => ∃ (a : Addr) (kvs : List (Key × V)) (ks : List Int), xs = [.ref a] ∧ Rd H a (.dK kvs) ∧ kvs.map (·.1) = ks.map Sum.inl ∧ ks.length < 64 ∧
  ∀ (ys : List Int) (p : Addr), ys.Perm ks → ys.Pairwise (· ≤ ·) → H p = none → Q (.ref p) (upd H p (.lst (ys.map V.int)))
theorem eb_sortedDI {es : List (Key × Dm)} {ks : List Int} (hk : es.map (·.1) = ks.map Sum.inl) (hl : ks.length < 64) (q : ∀ ys : List Int, ys.Perm ks → ys.Pairwise (· ≤ ·) → k (.lst (ys.map .int))) : Eb K Z rSortedDI [.v (.dic es)] k := fun G H vs hz rs Q c => by
  obtain ⟨v, rfl, rv⟩ := args1 rs
  obtain ⟨a, kvs, rfl, e2, e3⟩ := rv.dic_inv
  refine ⟨a, kvs, ks, rfl, .inl (hz.exG _ _ e2), e3.keys.trans hk, hl, fun ys p h1 h2 hp => ?_⟩
  have a4 := Adv.new (o := .lst (ys.map V.int)) hz hp
  exact c _ _ _ _ (q ys h1 h2) a4 (.lst upd_same RpL.of_ints)
end
/-! ### sorted lots -/
/-- sorted(xs), xs a list of data that are alike: a new list of the same values, in some order -/
def rSortedL (K : PySem.W.Frag) : List V → Hp → VK → Prop := fun vs H Q => ∃ (a : Addr) (xs : List V) (ds : List PyData), vs = [V.ref a] ∧ SqL K H a xs ∧ (∀ x ∈ xs, ∃ a, x = V.ref a) ∧ DpAll K H xs ds ∧ PySem.W.AllAlike ds ∧ PySem.W.Sortable ds ∧ (∀ d ∈ ds, d.depth ≤ 60) ∧
  ∀ ys p, ys.Perm xs → H p = none → Q (.ref p) (upd H p (.lst ys))
theorem each_of {h : Heap} : ∀ {us : List Value} {ds : List PyData} {as : List Addr}, ReadsAll h us ds as → PySem.W.EachIs (fun v (b : Value × PyData) => ∃ as, Reads h v b.2 as) us (us.zip ds) ∧ PySem.W.EachIs (fun v (b : Value × PyData) => v = b.1) us (us.zip ds) ∧ (us.zip ds).map Prod.snd = ds
  | _, _, _, .nil => ⟨.nil, .nil, rfl⟩
  | _, _, _, .cons a b => by
    obtain ⟨h1, h2, h3⟩ := each_of b
    exact ⟨.cons ⟨_, a⟩ h1, .cons rfl h2, by simp [h3]⟩
theorem each_fst : ∀ {us : List Value} {bs : List (Value × PyData)}, PySem.W.EachIs (fun v (b : Value × PyData) => v = b.1) us bs → us = bs.map Prod.fst
  | _, _, .nil => rfl
  | _, _, .cons a b => by rw [a, each_fst b]; rfl
theorem cr_sortedL {X : Cx} {n : Nat} (hr : Room n X.A) : CallR X (.builtin "sorted") (rSortedL X.K) := by
  intro pins s σ H vs us Q I r h
  obtain ⟨a, xs, ds, rfl, hs, hx, hd, al, so, dep, q⟩ := h
  obtain ⟨its, rv, hl, hz⟩ := I.list hs
  obtain ⟨u, rfl, ru⟩ := vals1 r
  obtain rfl : u = Value.ref a := ru
  obtain ⟨e1, e2⟩ := refs_back rv hx
  obtain ⟨as, ra⟩ := Dp.readsAll I ds xs its hd rv
  obtain ⟨h1, h2, h3⟩ := each_of ra
  have hlen : (its.zip ds).length = its.length := h2.length.symm
  refine PySem.W.sorted_data (bs := its.zip ds) (enc := Prod.snd) (R := fun v b => v = b.1) hl.isList h2 h1 (by rw [h3]; exact al) (by rw [h3]; exact so) (by rw [hlen, ← rv.length]; exact hz) (fun b hb => ?_) fun out ho hp => ?_
  · have hb2 : b.2 ∈ ds := by
      rw [← h3]
      exact List.mem_map_of_mem hb
    have := dep _ hb2
    have := hr.un
    omega
  · have e3 := each_fst hp
    have perm : out.Perm its := by
      rw [e3]
      refine (List.Perm.map _ (List.mergeSort_perm _ _)).trans ?_
      exact List.Perm.of_eq (each_fst h2).symm
    have h4 : ∀ u ∈ out, ∃ a, u = Value.ref a := fun u hu => e2 u (perm.mem_iff.mp hu)
    obtain ⟨n, hn⟩ := sortedAll_at s.heap its out.toArray
    have hd0 : s.heap.objs.size ≤ s.heap.objs.size + 1 := Nat.le_succ _
    refine ⟨.ref (s.heap.objs.size + 1), upd H (s.heap.objs.size + 1) (.lst (out.map backV)), I.laid (t' := s.toks) (fun b o e => sortedAll_old e) hd0 ⟨?_, out, n, vals_back h4, hn⟩, rfl, q _ _ ?_ (I.hok.fresh hd0)⟩
    · rw [List.length_map, perm.length_eq, ← rv.length]; exact hz
    · rw [e1]; exact perm.map backV
theorem RpL.perm {K : PySem.W.Frag} {G : Hp} {α : Type} {f : α → Dm} : ∀ {ys xs : List V}, ys.Perm xs → ∀ {as : List α}, RpL K G xs (as.map f) → ∃ bs : List α, bs.Perm as ∧ RpL K G ys (bs.map f) := by
  intro ys xs p
  induction p with
  | nil => exact fun {as} r => ⟨as, .refl _, r⟩
  | cons x p ih =>
    intro as r
    cases as with
    | nil => cases r
    | cons a as =>
      cases r with
      | cons r1 r2 =>
        obtain ⟨bs, h1, h2⟩ := ih r2
        exact ⟨a :: bs, h1.cons a, .cons r1 h2⟩
  | swap x y l =>
    intro as r
    cases as with
    | nil => cases r
    | cons a as =>
      cases as with
      | nil =>
        cases r with
        | cons r1 r2 => cases r2
      | cons b as =>
        cases r with
        | cons r1 r2 =>
          cases r2 with
          | cons r2 r3 => exact ⟨b :: a :: as, .swap a b as, .cons r2 (.cons r1 r3)⟩
  | trans p q ih1 ih2 =>
    intro as r
    obtain ⟨bs, h1, h2⟩ := ih2 r
    obtain ⟨cs, h3, h4⟩ := ih1 h2
    exact ⟨cs, h3.trans h1, h4⟩
/-! ### rules, the part of the text named ahead -/
section
variable {X : Cx} {K : PySem.W.Frag}
theorem ix_listK (h : X.K = K) : IxR X (rIxL K) := h ▸ ix_list
theorem ix_tupK (h : X.K = K) : IxR X (rIxT K) := h ▸ ix_tup
theorem sl_listK (h : X.K = K) : SlR X (rSlL K) := h ▸ sl_list
theorem sl_tupK (h : X.K = K) : SlR X (rSlT K) := h ▸ sl_tup
theorem pi_listK {tg l : Expr} {tl : TE} (h : X.K = K) (hl : PE X l tl) : PI X tg l (iList K tl) := h ▸ pi_list hl
theorem pi_tupK {tg l : Expr} {tl : TE} (h : X.K = K) (hl : PE X l tl) : PI X tg l (iTup K tl) := h ▸ pi_tup hl
abbrev rLenQ (K : PySem.W.Frag) : List V → Hp → VK → Prop := fun xs H Q => ∃ p ys, xs = [.ref p] ∧ (SqL K H p ys ∨ SqT K H p ys) ∧ Q (.int ys.length) H
theorem call_lenK (h : X.K = K) : CallR X (.builtin "len") (rLenQ K) := h ▸ call_len_seq
theorem cr_allK (h : X.K = K) (hc : X.calm = true := by rfl) : CallR X (.builtin "all") (rAll K) := h ▸ cr_all hc
theorem cr_anyK (h : X.K = K) (hc : X.calm = true := by rfl) : CallR X (.builtin "any") (rAny K) := h ▸ cr_any hc
theorem cr_sumK (h : X.K = K) (hc : X.calm = true := by rfl) : CallR X (.builtin "sum") (rSum K) := h ▸ cr_sum hc
theorem cr_maxK (h : X.K = K) (hc : X.calm = true := by rfl) : CallR X (.builtin "max") (rMax K) := h ▸ cr_max hc
theorem cr_minK (h : X.K = K) (hc : X.calm = true := by rfl) : CallR X (.builtin "min") (rMin K) := h ▸ cr_min hc
theorem call_isiKK (h : X.K = K) : CallR X (.builtin "isinstance") (rIsi K) := h ▸ call_isi
theorem call_isiTK (h : X.K = K) : CallR X (.builtin "isinstance") (rIsiT K) := h ▸ call_isiT
theorem cr_sortedLK {n : Nat} (hr : Room n X.A) (h : X.K = K) : CallR X (.builtin "sorted") (rSortedL K) := h ▸ cr_sortedL hr
abbrev rListOf (K : PySem.W.Frag) : List V → Hp → VK → Prop := fun xs H Q => ∃ p ys, xs = [.ref p] ∧ (SqL K H p ys ∨ SqT K H p ys) ∧ ∀ l, H l = none → Q (.ref l) (upd H l (.lst ys))
theorem call_listK (h : X.K = K) : CallR X (.type "list") (rListOf K) := h ▸ call_list_of
theorem call_dictPK (h : X.K = K) (hc : X.calm = true := by rfl) : CallR X (.type "dict") (rDictP K) := h ▸ call_dictP hc
theorem pg_tupK {es : List Expr} {k : Nat} {t : TGs} {n : Nat} {pos : Pos} (h : X.K = K) (hc : X.calm = true) (hp : PGs X es t)
    (hn : (assignEach es X.env).length = n := by rfl) (hst : (assignEach es X.env).findIdx? (·.1) = none := by rfl) : PG X (.Tuple es k pos) (gTup K n t) := h ▸ pg_tup hc hp hn hst
/-- a if c else b, as a test -/
def tIfT (c t u : TT) : TT := fun σ H Q => c σ H fun b H1 => if b = true then t σ H1 Q else u σ H1 Q
theorem pt_ifExp {c a b : Expr} {pos : Pos} {tc t u : TT} (hc : PT X c tc) (ha : PT X a t) (hb : PT X b u) : PT X (.IfExp c a b pos) (tIfT tc t u) := by
  refine ⟨fun pins s σ H Q I h => ?_⟩
  refine isTrue_IfExp (thn (hc.run pins s σ H _ I h) fun d s1 ⟨H1, I1, q1⟩ => ?_)
  cases d with
  | true => exact ha.run pins s1 σ H1 Q I1 q1
  | false => exact hb.run pins s1 σ H1 Q I1 q1
theorem et_ifT {Z : Fr} {env : Env} {c t u : TT} {kb : Bool → Prop} (h : Et K Z c env fun b => if b = true then Et K Z t env kb else Et K Z u env kb) : Et K Z (tIfT c t u) env kb := fun G H σ ok Q q => by
  refine h G H σ ok _ fun b G1 H1 hb a1 => ?_
  cases b with
  | true => exact hb G1 H1 σ (ok.adv a1) Q fun d G' H' kd a2 => q d G' H' kd (a1.trans a2)
  | false => exact hb G1 H1 σ (ok.adv a1) Q fun d G' H' kd a2 => q d G' H' kd (a1.trans a2)
end
end Ln
/-! Ln5: instances made by a def that is held, constants of a class, walks over a dict under its lock. -/
namespace Ln
open PySem PySem.Spec PyProof.Rows L2
section
variable {X : Cx} {n : Nat} {C f : Addr} {sp : Sp} {x : Str} {p pos : Pos} {e : Expr} {es : List Expr} {t : TA}
theorem pe_mk (M : Mk X.K C f) (A : Held X.prog X.w X.K X.mg X.base n f sp) (hr : Room (n + 1) X.A) (hg : Gl X x) (hm : X.mg x = some (.ref C)) (ha : PA X (e :: es) t) (hdb : (x == ("__debug__" : Str)) = false := by decide)
    (he : starEach (e :: es) X.env = (false, eval e X.env) :: starEach es X.env := by rfl) (hpl : (backTo pos (starEach es X.env)).any (·.1) = false := by rfl) : PE X (.Call (.Name x p) (e :: es) [] pos) (tMake C sp [] E0 t) := by
  obtain ⟨fd, ps, F, hk, hb⟩ := A.ex
  exact pe_make M F hr hg hm hb .nil passN ha hdb he hpl
end
section
variable {K : PySem.W.Frag} {Z : Fr} {te ta tb tc td : TE} {env : Env} {k : Dm → Prop}
theorem spI_len {C : Addr} {f : Str} {W : Wf} {n : Nat} (h : ∀ as k, W as k → as.length + 1 = n) : ∀ vs H Q E, spI K C f W vs H Q E → vs.length = n := fun vs H Q E ⟨a, dx, ws, P, G, as, k, e, _, _, _, _, r, hw, _⟩ => by
  rw [e, List.length_cons, r.length]
  exact h as k hw
theorem ev_cval {f : Str} {i : Int} {C : Addr} (h : Ev K Z ta env fun d => d = .fn C ∧ (∃ mc u, ClX.CRead K C mc ∧ ClX.CVal K C mc f (.int i) u) ∧ k (.int i)) : Ev K Z (ClX.tCVal K ta f) env k := fun G H σ ok Q c => by
  refine h G H σ ok _ fun d v G1 H1 hd a1 rv => ?_
  obtain ⟨rfl, ⟨mc, u, h1, h2⟩, q⟩ := hd
  exact ⟨C, mc, _, u, rv.fn_inv, h1, h2, c _ _ G1 H1 q a1 (.int i)⟩
end
/-! ### dict(t), t a tuple of pairs -/
section
variable {X : Cx}
theorem pairsV_of {pins : List (Addr × Obj)} {σ : L2.St} {H : Hp} {s : Shared} (I : Inv X pins σ H s) : ∀ {ps : List Addr} {kvs : List (Key × V)}, Paired (fun p kv => SqT X.K H p [kV kv.1, kv.2]) ps kvs →
    ∃ (us : List (Value × Value)) (prs : List (Key × Value)), KV kvs prs ∧ us.length = ps.length ∧ prs.length = ps.length ∧ ∀ (j : Nat) (u v : Value), us[j]? = some (u, v) → ∃ b k, ps[j]? = some b ∧ IsTup s.heap b #[u, v] ∧ prs[j]? = some (k, v) ∧ keyIs k u = true
  | _, _, .nil => ⟨[], [], .nil, rfl, rfl, fun j u v e => by simp at e⟩
  | _, _, .cons (a := p) (b := kv) h t => by
    obtain ⟨us, prs, r, hl, hl2, hp⟩ := pairsV_of I t
    obtain ⟨its, rv, ht, _⟩ := I.tuple h
    obtain ⟨u, y, ei, ru, ry⟩ := vals2 rv
    subst ei
    refine ⟨(u, y) :: us, (kv.1, y) :: prs, .cons ⟨rfl, ry⟩ r, by simp [hl], by simp [hl2], fun j u' v' e => ?_⟩
    cases j with
    | zero =>
      have e' : (u, y) = (u', v') := Option.some.inj e
      cases e'
      exact ⟨p, kv.1, rfl, ht, rfl, kV_is (P := X.prog) (w := X.w) ru⟩
    | succ j =>
      obtain ⟨b, k, h1, h2, h3, h4⟩ := hp j u' v' (by simpa using e)
      exact ⟨b, k, by simpa using h1, h2, by simpa using h3, h4⟩
/-- dict(t), t a tuple whose object is known, of pairs -/
def rDictT (K : PySem.W.Frag) : List V → Hp → VK → Prop := fun xs H Q => ∃ (a : Addr) (o : Obj) (ps : List Addr) (kvs : List (Key × V)), xs = [.ref a] ∧ H a = some (.frz o (.tup (ps.map V.ref))) ∧ o.dict = none ∧ Paired (fun p kv => SqT K H p [kV kv.1, kv.2]) ps kvs ∧
  ∀ p, H p = none → Q (.ref p) (upd H p (.dK (mergeK [] kvs)))
theorem call_dictT (hcalm : X.calm = true) : CallR X (.type "dict") (rDictT X.K) := by
  intro pins s σ H xs us Q I r q
  obtain ⟨a, o, ps, kvs, ex, hq, hd, hp, q⟩ := q
  subst ex
  obtain ⟨u, eu, rx⟩ := vals1 r
  subst eu
  cases rx
  obtain ⟨ho, hz, its, rv, o', ho', hc', n, hdat⟩ := (show s.heap.get? a = some o ∧ ObjOk X.prog X.w H s.heap a (.tup (ps.map V.ref)) from I.hok a _ hq)
  rw [ho] at ho'
  cases ho'
  have ei := refs_at rv
  subst ei
  rw [List.length_map] at hz
  obtain ⟨vs, prs, rel, hl, hl2, hpr⟩ := pairsV_of I hp
  refine PySem.call_dict_pairs (knd := mixKind X.prog X.w) (kvs := prs) (PySem.PairArg.tuple a (ps.map Value.ref).toArray (fun j => ps.getD j 0) vs) (I.ok.hd hcalm) ⟨⟨o, n, ho, hc', hd, hdat⟩, by simp [hl], fun j k v e => ?_⟩ ⟨by rw [hl2, hl], fun j k v e => ?_⟩ (by rw [hl]; exact hz) fun h' tk hd' k => ?_
  · obtain ⟨b, k', e1, e2, _⟩ := hpr j k v e
    refine ⟨?_, .inl ?_⟩
    · simp [e1]
    · have : ps.getD j 0 = b := by rw [List.getD_eq_getElem?_getD, e1]; rfl
      show s.heap.IsTuple (ps.getD j 0) _
      rw [this]
      exact e2
  · obtain ⟨b, k', e1, e2, e3, e4⟩ := hpr j k v e
    exact ⟨k', e3, e4⟩
  · have hm : (s.heap.objs.size == sysModules) = false := beq_eq_false_iff_ne.mpr (Nat.ne_of_gt I.big)
    have hlen : (mergeK [] kvs).length ≤ sizeLine := by
      refine Nat.le_trans (length_mergeK kvs []) ?_
      rw [List.length_nil, Nat.zero_add, rel.length, hl2]
      exact hz
    exact ⟨.ref s.heap.objs.size, upd H s.heap.objs.size (.dK (mergeK [] kvs)), I.laid (t' := tk) (fun b o e => k b o (by simp) e) (Nat.le_refl _) (show ObjOk X.prog X.w _ _ _ (.dK (mergeK [] kvs)) from ⟨hlen, hm, merged [] prs, KV.merge rel .nil, hd'⟩), rfl, q _ (I.hok.fresh (Nat.le_refl _))⟩
theorem call_dictTK {K : PySem.W.Frag} (h : X.K = K) (hc : X.calm = true := by rfl) : CallR X (.type "dict") (rDictT K) := h ▸ call_dictT hc
end
section
variable {K : PySem.W.Frag} {Z : Fr} {te ta tb tc td : TE} {env : Env} {k : Dm → Prop}
theorem eb_dictT {es : List (Key × Dm)} (nd : (es.map (·.1)).Nodup) (q : k (.dic es)) : Eb K Z (rDictT K) [.v (.ftp (es.map fun p => .tup [match p.1 with | .inl i => .int i | .inr x => .str x, p.2]))] k := fun G H vs hz rs Q c => by
  obtain ⟨v, rfl, rv⟩ := args1 rs
  obtain ⟨a, o, xs, rfl, e2, hn, e3⟩ := rv.ftp_inv
  obtain ⟨ps, kvs, rfl, rk, pp⟩ := pairs_rp hz.exG e3
  refine ⟨a, o, ps, kvs, rfl, hz.exG _ _ e2, hn, pp, fun p hp => ?_⟩
  have em : mergeK [] kvs = kvs := by
    rw [merge_new kvs [] (by rw [List.nil_append, rk.keys]; exact nd)]; rfl
  rw [em]
  have a4 := Adv.new (o := .dK kvs) hz hp
  exact c _ _ _ _ q a4 (.dic upd_same (rk.mono a4.gg))
/-- tuple(xs), xs a list: the new tuple's object is known to be plain -/
def rTupF (K : PySem.W.Frag) : List V → Hp → VK → Prop := fun xs H Q => ∃ p ys, xs = [.ref p] ∧ SqL K H p ys ∧ ∀ l o, H l = none → o.dict = none → Q (.ref l) (upd H l (.frz o (.tup ys)))
theorem call_tupF {X : Cx} : CallR X (.type "tuple") (rTupF X.K) := by
  intro pins s σ H xs us Q I r h
  obtain ⟨p, ys, rfl, hq, q⟩ := h
  obtain ⟨u, rfl, rx⟩ := vals1 r
  cases rx
  obtain ⟨its, r', pl, hz⟩ := I.list hq
  have hlen := r'.length
  refine call_tuple_list pl.isList (fun h' kp => ?_) (by simp only [List.size_toArray] <;> omega)
  have I1 : Inv X pins σ H { s with heap := h' } := I.kept (t' := s.toks) kp
  have e0 : (h'.push { cls := Value.type "tuple", data := .seq its.toArray }).get? h'.objs.size = some { cls := .type "tuple", data := .seq its.toArray } := Heap.get?_push_size _ rfl
  have I2 : Inv X pins σ (upd H h'.objs.size (.frz { cls := .type "tuple", data := .seq its.toArray } (.tup ys))) { s with heap := h'.push { cls := .type "tuple", data := .seq its.toArray } } :=
    I1.laid (t' := s.toks) (fun b o e => Heap.get?_push_of_some _ e) (Nat.le_refl _) (show ObjOk X.prog X.w _ _ _ (.frz _ (.tup ys)) from ⟨e0, hz, its, r', IsTup.new _ _⟩)
  exact ⟨.ref h'.objs.size, _, I2, rfl, q _ _ (I1.hok.fresh (Nat.le_refl _)) rfl⟩
theorem call_tupFK {X : Cx} (h : X.K = K) : CallR X (.type "tuple") (rTupF K) := h ▸ call_tupF
theorem eb_tupF {ds : List Dm} (q : k (.ftp ds)) : Eb K Z (rTupF K) [.v (.lst ds)] k := fun G H vs hz rs Q c => by
  obtain ⟨v, rfl, rv⟩ := args1 rs
  obtain ⟨a, xs, rfl, e2, e3⟩ := rv.lst_inv
  refine ⟨a, xs, rfl, .inl (.inl (hz.exG _ _ e2)), fun l o hp hn => ?_⟩
  have a4 := Adv.new (o := .frz o (.tup xs)) hz hp
  exact c _ _ _ _ q a4 (.ftp upd_same hn (e3.mono a4.gg))
end
end Ln
/-! K0: the row's defs as data, and what is known of the top. -/
namespace Ln
open PySem PySem.Spec PyProof.Rows L2
def top (i : Nat) : Stmt := PySem.Challenge.pw_lanelots_k83_whole_papers_of_walks.main.body.getD i (.Pass ⟨0, 0, 0, 0⟩)
def bodyOf : Stmt → List Stmt
  | .ClassDef _ _ _ b _ _ _ _ _ _ _ => b
  | _ => []
def cls (i j : Nat) : Stmt := (bodyOf (top i)).getD j (.Pass ⟨0, 0, 0, 0⟩)
abbrev s_is_integer : Stmt := top 18
abbrev N_is_integer : List Str := ["value"]
abbrev P_is_integer : List Str := ["value"]
theorem sc_is_integer : FnScope N_is_integer P_is_integer (defScope s_is_integer) := ⟨rfl, rfl, rfl, by decide +kernel, rfl, by decide +kernel, by decide +kernel⟩
abbrev s_is_count : Stmt := top 19
abbrev N_is_count : List Str := ["value"]
abbrev P_is_count : List Str := ["value"]
theorem sc_is_count : FnScope N_is_count P_is_count (defScope s_is_count) := ⟨rfl, rfl, rfl, by decide +kernel, rfl, by decide +kernel, by decide +kernel⟩
abbrev s_is_list : Stmt := top 20
abbrev N_is_list : List Str := ["value"]
abbrev P_is_list : List Str := ["value"]
theorem sc_is_list : FnScope N_is_list P_is_list (defScope s_is_list) := ⟨rfl, rfl, rfl, by decide +kernel, rfl, by decide +kernel, by decide +kernel⟩
abbrev s_is_content : Stmt := top 21
abbrev N_is_content : List Str := ["value", "number"]
abbrev P_is_content : List Str := ["value"]
theorem sc_is_content : FnScope N_is_content P_is_content (defScope s_is_content) := ⟨rfl, rfl, rfl, by decide +kernel, rfl, by decide +kernel, by decide +kernel⟩
abbrev s_is_lane : Stmt := top 22
abbrev N_is_lane : List Str := ["lanes", "value"]
abbrev P_is_lane : List Str := ["lanes", "value"]
theorem sc_is_lane : FnScope N_is_lane P_is_lane (defScope s_is_lane) := ⟨rfl, rfl, rfl, by decide +kernel, rfl, by decide +kernel, by decide +kernel⟩
abbrev s_want_content_of : Stmt := top 24
abbrev N_want_content_of : List Str := ["lanes", "value"]
abbrev P_want_content_of : List Str := ["lanes", "value"]
theorem sc_want_content_of : FnScope N_want_content_of P_want_content_of (defScope s_want_content_of) := ⟨rfl, rfl, rfl, by decide +kernel, rfl, by decide +kernel, by decide +kernel⟩
abbrev s_want_lane : Stmt := top 25
abbrev N_want_lane : List Str := ["lanes", "value"]
abbrev P_want_lane : List Str := ["lanes", "value"]
theorem sc_want_lane : FnScope N_want_lane P_want_lane (defScope s_want_lane) := ⟨rfl, rfl, rfl, by decide +kernel, rfl, by decide +kernel, by decide +kernel⟩
abbrev s_want_many : Stmt := top 26
abbrev N_want_many : List Str := ["value"]
abbrev P_want_many : List Str := ["value"]
theorem sc_want_many : FnScope N_want_many P_want_many (defScope s_want_many) := ⟨rfl, rfl, rfl, by decide +kernel, rfl, by decide +kernel, by decide +kernel⟩
abbrev s_is_lane_lots : Stmt := top 30
abbrev N_is_lane_lots : List Str := ["value"]
abbrev P_is_lane_lots : List Str := ["value"]
theorem sc_is_lane_lots : FnScope N_is_lane_lots P_is_lane_lots (defScope s_is_lane_lots) := ⟨rfl, rfl, rfl, by decide +kernel, rfl, by decide +kernel, by decide +kernel⟩
abbrev s_is_entry : Stmt := top 32
abbrev N_is_entry : List Str := ["value"]
abbrev P_is_entry : List Str := ["value"]
theorem sc_is_entry : FnScope N_is_entry P_is_entry (defScope s_is_entry) := ⟨rfl, rfl, rfl, by decide +kernel, rfl, by decide +kernel, by decide +kernel⟩
abbrev s_is_lot : Stmt := top 33
abbrev N_is_lot : List Str := ["value", "entry", "near", "far"]
abbrev P_is_lot : List Str := ["value"]
theorem sc_is_lot : FnScope N_is_lot P_is_lot (defScope s_is_lot) := ⟨rfl, rfl, rfl, by decide +kernel, rfl, by decide +kernel, by decide +kernel⟩
abbrev s_want_lots : Stmt := top 34
abbrev N_want_lots : List Str := ["lots", "position", "lot"]
abbrev P_want_lots : List Str := ["lots"]
theorem sc_want_lots : FnScope N_want_lots P_want_lots (defScope s_want_lots) := ⟨rfl, rfl, rfl, by decide +kernel, rfl, by decide +kernel, by decide +kernel⟩
abbrev s_lanes_for : Stmt := top 37
abbrev N_lanes_for : List Str := ["lots", "found", "lot"]
abbrev P_lanes_for : List Str := ["lots"]
theorem sc_lanes_for : FnScope N_lanes_for P_lanes_for (defScope s_lanes_for) := ⟨rfl, rfl, rfl, by decide +kernel, rfl, by decide +kernel, by decide +kernel⟩
abbrev s_is_ahead : Stmt := top 40
abbrev N_is_ahead : List Str := ["lot", "told", "is_co", "lane", "number"]
abbrev P_is_ahead : List Str := ["lot", "told", "is_co"]
theorem sc_is_ahead : FnScope N_is_ahead P_is_ahead (defScope s_is_ahead) := ⟨rfl, rfl, rfl, by decide +kernel, rfl, by decide +kernel, by decide +kernel⟩
abbrev s_kept_lots : Stmt := top 41
abbrev N_kept_lots : List Str := ["lots", "is_co", "found", "lot", "told", "near", "other", "pair"]
abbrev P_kept_lots : List Str := ["lots", "is_co"]
theorem sc_kept_lots : FnScope N_kept_lots P_kept_lots (defScope s_kept_lots) := ⟨rfl, rfl, rfl, by decide +kernel, rfl, by decide +kernel, by decide +kernel⟩
abbrev s_limited : Stmt := top 46
abbrev N_limited : List Str := ["lots"]
abbrev P_limited : List Str := ["lots"]
theorem sc_limited : FnScope N_limited P_limited (defScope s_limited) := ⟨rfl, rfl, rfl, by decide +kernel, rfl, by decide +kernel, by decide +kernel⟩
abbrev s_Family___init__ : Stmt := cls 51 0
abbrev N_Family___init__ : List Str := ["self", "lots"]
abbrev P_Family___init__ : List Str := ["self", "lots"]
theorem sc_Family___init__ : FnScope N_Family___init__ P_Family___init__ (defScope s_Family___init__) := ⟨rfl, rfl, rfl, by decide +kernel, rfl, by decide +kernel, by decide +kernel⟩
abbrev s_Family_lots : Stmt := cls 51 1
abbrev N_Family_lots : List Str := ["self"]
abbrev P_Family_lots : List Str := ["self"]
theorem sc_Family_lots : FnScope N_Family_lots P_Family_lots (defScope s_Family_lots) := ⟨rfl, rfl, rfl, by decide +kernel, rfl, by decide +kernel, by decide +kernel⟩
abbrev s_fits : Stmt := top 54
abbrev N_fits : List Str := ["lanes", "family"]
abbrev P_fits : List Str := ["lanes", "family"]
theorem sc_fits : FnScope N_fits P_fits (defScope s_fits) := ⟨rfl, rfl, rfl, by decide +kernel, rfl, by decide +kernel, by decide +kernel⟩
abbrev s_Map___init__ : Stmt := cls 59 2
abbrev N_Map___init__ : List Str := ["self", "families", "position", "family"]
abbrev P_Map___init__ : List Str := ["self", "families"]
theorem sc_Map___init__ : FnScope N_Map___init__ P_Map___init__ (defScope s_Map___init__) := ⟨rfl, rfl, rfl, by decide +kernel, rfl, by decide +kernel, by decide +kernel⟩
abbrev s_Map_lanes : Stmt := cls 59 4
abbrev N_Map_lanes : List Str := ["self"]
abbrev P_Map_lanes : List Str := ["self"]
theorem sc_Map_lanes : FnScope N_Map_lanes P_Map_lanes (defScope s_Map_lanes) := ⟨rfl, rfl, rfl, by decide +kernel, rfl, by decide +kernel, by decide +kernel⟩
abbrev s_Map_families : Stmt := cls 59 6
abbrev N_Map_families : List Str := ["self"]
abbrev P_Map_families : List Str := ["self"]
theorem sc_Map_families : FnScope N_Map_families P_Map_families (defScope s_Map_families) := ⟨rfl, rfl, rfl, by decide +kernel, rfl, by decide +kernel, by decide +kernel⟩
abbrev s_Map___getitem__ : Stmt := cls 59 8
abbrev N_Map___getitem__ : List Str := ["self", "lane"]
abbrev P_Map___getitem__ : List Str := ["self", "lane"]
theorem sc_Map___getitem__ : FnScope N_Map___getitem__ P_Map___getitem__ (defScope s_Map___getitem__) := ⟨rfl, rfl, rfl, by decide +kernel, rfl, by decide +kernel, by decide +kernel⟩
abbrev s_lots_of : Stmt := top 61
abbrev N_lots_of : List Str := ["chart", "lane"]
abbrev P_lots_of : List Str := ["chart"]
theorem sc_lots_of : FnScope N_lots_of P_lots_of (defScope s_lots_of) := ⟨rfl, rfl, rfl, by decide +kernel, rfl, by decide +kernel, by decide +kernel⟩
abbrev s_is_lot_of : Stmt := top 62
abbrev N_is_lot_of : List Str := ["chart", "lane", "value", "step"]
abbrev P_is_lot_of : List Str := ["chart", "lane", "value"]
theorem sc_is_lot_of : FnScope N_is_lot_of P_is_lot_of (defScope s_is_lot_of) := ⟨rfl, rfl, rfl, by decide +kernel, rfl, by decide +kernel, by decide +kernel⟩
abbrev s_is_step : Stmt := top 63
abbrev N_is_step : List Str := ["value"]
abbrev P_is_step : List Str := ["value"]
theorem sc_is_step : FnScope N_is_step P_is_step (defScope s_is_step) := ⟨rfl, rfl, rfl, by decide +kernel, rfl, by decide +kernel, by decide +kernel⟩
abbrev s_are_picks : Stmt := top 64
abbrev N_are_picks : List Str := ["chart", "lane", "value", "lots", "goal", "lot"]
abbrev P_are_picks : List Str := ["chart", "lane", "value"]
theorem sc_are_picks : FnScope N_are_picks P_are_picks (defScope s_are_picks) := ⟨rfl, rfl, rfl, by decide +kernel, rfl, by decide +kernel, by decide +kernel⟩
abbrev s_picked_steps : Stmt := top 65
abbrev N_picked_steps : List Str := ["lots", "picks", "goal", "lot"]
abbrev P_picked_steps : List Str := ["lots", "picks"]
theorem sc_picked_steps : FnScope N_picked_steps P_picked_steps (defScope s_picked_steps) := ⟨rfl, rfl, rfl, by decide +kernel, rfl, by decide +kernel, by decide +kernel⟩
abbrev s_common_divisor : Stmt := top 67
abbrev N_common_divisor : List Str := ["one", "other"]
abbrev P_common_divisor : List Str := ["one", "other"]
theorem sc_common_divisor : FnScope N_common_divisor P_common_divisor (defScope s_common_divisor) := ⟨rfl, rfl, rfl, by decide +kernel, rfl, by decide +kernel, by decide +kernel⟩
abbrev s_is_pace : Stmt := top 68
abbrev N_is_pace : List Str := ["value"]
abbrev P_is_pace : List Str := ["value"]
theorem sc_is_pace : FnScope N_is_pace P_is_pace (defScope s_is_pace) := ⟨rfl, rfl, rfl, by decide +kernel, rfl, by decide +kernel, by decide +kernel⟩
abbrev s_common_number : Stmt := top 69
abbrev N_common_number : List Str := ["told", "found", "top", "bottom"]
abbrev P_common_number : List Str := ["told"]
theorem sc_common_number : FnScope N_common_number P_common_number (defScope s_common_number) := ⟨rfl, rfl, rfl, by decide +kernel, rfl, by decide +kernel, by decide +kernel⟩
abbrev s_form_of : Stmt := top 70
abbrev N_form_of : List Str := ["chart", "value", "told", "whole", "top", "bottom"]
abbrev P_form_of : List Str := ["chart", "value"]
theorem sc_form_of : FnScope N_form_of P_form_of (defScope s_form_of) := ⟨rfl, rfl, rfl, by decide +kernel, rfl, by decide +kernel, by decide +kernel⟩
abbrev s_is_held : Stmt := top 71
abbrev N_is_held : List Str := ["entry", "lane", "form", "whole", "moves", "content"]
abbrev P_is_held : List Str := ["entry", "lane", "form"]
theorem sc_is_held : FnScope N_is_held P_is_held (defScope s_is_held) := ⟨rfl, rfl, rfl, by decide +kernel, rfl, by decide +kernel, by decide +kernel⟩
abbrev s_is_picked : Stmt := top 72
abbrev N_is_picked : List Str := ["entry", "lane", "form", "whole", "moves", "content"]
abbrev P_is_picked : List Str := ["entry", "lane", "form"]
theorem sc_is_picked : FnScope N_is_picked P_is_picked (defScope s_is_picked) := ⟨rfl, rfl, rfl, by decide +kernel, rfl, by decide +kernel, by decide +kernel⟩
abbrev s_hold_by : Stmt := top 73
abbrev N_hold_by : List Str := ["lots", "lane", "form", "lot", "entry"]
abbrev P_hold_by : List Str := ["lots", "lane", "form"]
theorem sc_hold_by : FnScope N_hold_by P_hold_by (defScope s_hold_by) := ⟨rfl, rfl, rfl, by decide +kernel, rfl, by decide +kernel, by decide +kernel⟩
abbrev s_picks_by : Stmt := top 74
abbrev N_picks_by : List Str := ["lots", "lane", "form", "found", "lot", "goals", "entry"]
abbrev P_picks_by : List Str := ["lots", "lane", "form"]
theorem sc_picks_by : FnScope N_picks_by P_picks_by (defScope s_picks_by) := ⟨rfl, rfl, rfl, by decide +kernel, rfl, by decide +kernel, by decide +kernel⟩
abbrev s_is_walk : Stmt := top 75
abbrev N_is_walk : List Str := ["chart", "value", "form", "lane", "lots"]
abbrev P_is_walk : List Str := ["chart", "value"]
theorem sc_is_walk : FnScope N_is_walk P_is_walk (defScope s_is_walk) := ⟨rfl, rfl, rfl, by decide +kernel, rfl, by decide +kernel, by decide +kernel⟩
abbrev s_want_walk : Stmt := top 76
abbrev N_want_walk : List Str := ["chart", "walk"]
abbrev P_want_walk : List Str := ["chart", "walk"]
theorem sc_want_walk : FnScope N_want_walk P_want_walk (defScope s_want_walk) := ⟨rfl, rfl, rfl, by decide +kernel, rfl, by decide +kernel, by decide +kernel⟩
abbrev s_step_of : Stmt := top 77
abbrev N_step_of : List Str := ["chart", "walk", "lane", "form"]
abbrev P_step_of : List Str := ["chart", "walk", "lane"]
theorem sc_step_of : FnScope N_step_of P_step_of (defScope s_step_of) := ⟨rfl, rfl, rfl, by decide +kernel, rfl, by decide +kernel, by decide +kernel⟩
abbrev s_plan_from : Stmt := top 78
abbrev N_plan_from : List Str := ["chart", "walk", "lane", "form", "found", "rows", "part"]
abbrev P_plan_from : List Str := ["chart", "walk", "lane"]
theorem sc_plan_from : FnScope N_plan_from P_plan_from (defScope s_plan_from) := ⟨rfl, rfl, rfl, by decide +kernel, rfl, by decide +kernel, by decide +kernel⟩
abbrev s_answer_from : Stmt := top 79
abbrev N_answer_from : List Str := ["chart", "walk", "lane", "form", "found", "rows", "part"]
abbrev P_answer_from : List Str := ["chart", "walk", "lane"]
theorem sc_answer_from : FnScope N_answer_from P_answer_from (defScope s_answer_from) := ⟨rfl, rfl, rfl, by decide +kernel, rfl, by decide +kernel, by decide +kernel⟩
abbrev s_is_rate : Stmt := top 82
abbrev N_is_rate : List Str := ["value", "part"]
abbrev P_is_rate : List Str := ["value"]
theorem sc_is_rate : FnScope N_is_rate P_is_rate (defScope s_is_rate) := ⟨rfl, rfl, rfl, by decide +kernel, rfl, by decide +kernel, by decide +kernel⟩
abbrev s_want_rate : Stmt := top 83
abbrev N_want_rate : List Str := ["value"]
abbrev P_want_rate : List Str := ["value"]
theorem sc_want_rate : FnScope N_want_rate P_want_rate (defScope s_want_rate) := ⟨rfl, rfl, rfl, by decide +kernel, rfl, by decide +kernel, by decide +kernel⟩
abbrev s_is_part : Stmt := top 84
abbrev N_is_part : List Str := ["chart", "lane", "value", "is_told"]
abbrev P_is_part : List Str := ["chart", "lane", "value", "is_told"]
theorem sc_is_part : FnScope N_is_part P_is_part (defScope s_is_part) := ⟨rfl, rfl, rfl, by decide +kernel, rfl, by decide +kernel, by decide +kernel⟩
abbrev s_are_parts : Stmt := top 85
abbrev N_are_parts : List Str := ["chart", "lane", "value", "is_told", "part"]
abbrev P_are_parts : List Str := ["chart", "lane", "value", "is_told"]
theorem sc_are_parts : FnScope N_are_parts P_are_parts (defScope s_are_parts) := ⟨rfl, rfl, rfl, by decide +kernel, rfl, by decide +kernel, by decide +kernel⟩
abbrev s_is_plan_paper : Stmt := top 86
abbrev N_is_plan_paper : List Str := ["chart", "lane", "rate", "value", "p", "q", "part", "lot", "height", "goal", "number"]
abbrev P_is_plan_paper : List Str := ["chart", "lane", "rate", "value"]
theorem sc_is_plan_paper : FnScope N_is_plan_paper P_is_plan_paper (defScope s_is_plan_paper) := ⟨rfl, rfl, rfl, by decide +kernel, rfl, by decide +kernel, by decide +kernel⟩
abbrev s_is_answer_paper : Stmt := top 87
abbrev N_is_answer_paper : List Str := ["chart", "lane", "rate", "value", "p", "q", "part", "picks", "height", "steps", "goal", "number"]
abbrev P_is_answer_paper : List Str := ["chart", "lane", "rate", "value"]
theorem sc_is_answer_paper : FnScope N_is_answer_paper P_is_answer_paper (defScope s_is_answer_paper) := ⟨rfl, rfl, rfl, by decide +kernel, rfl, by decide +kernel, by decide +kernel⟩
abbrev s_ahead_by : Stmt := top 88
abbrev N_ahead_by : List Str := ["paper", "lane", "rate", "content", "many", "gaps", "part", "told", "height", "known"]
abbrev P_ahead_by : List Str := ["paper", "lane", "rate", "content", "many"]
theorem sc_ahead_by : FnScope N_ahead_by P_ahead_by (defScope s_ahead_by) := ⟨rfl, rfl, rfl, by decide +kernel, rfl, by decide +kernel, by decide +kernel⟩
abbrev s_most_behind : Stmt := top 89
abbrev N_most_behind : List Str := ["chart", "lane", "rate", "paper", "content", "many"]
abbrev P_most_behind : List Str := ["chart", "lane", "rate", "paper", "content", "many"]
theorem sc_most_behind : FnScope N_most_behind P_most_behind (defScope s_most_behind) := ⟨rfl, rfl, rfl, by decide +kernel, rfl, by decide +kernel, by decide +kernel⟩
abbrev s_least_behind : Stmt := top 90
abbrev N_least_behind : List Str := ["chart", "lane", "rate", "paper", "content", "many"]
abbrev P_least_behind : List Str := ["chart", "lane", "rate", "paper", "content", "many"]
theorem sc_least_behind : FnScope N_least_behind P_least_behind (defScope s_least_behind) := ⟨rfl, rfl, rfl, by decide +kernel, rfl, by decide +kernel, by decide +kernel⟩
abbrev s__law_pot : Stmt := top 92
abbrev N__law_pot : List Str := ["_law_script", "_law_k", "_law_cell"]
abbrev P__law_pot : List Str := ["_law_script", "_law_k"]
theorem sc__law_pot : FnScope N__law_pot P__law_pot (defScope s__law_pot) := ⟨rfl, rfl, rfl, by decide +kernel, rfl, by decide +kernel, by decide +kernel⟩
abbrev s__law_draw : Stmt := top 93
abbrev N__law_draw : List Str := ["_law_pot_here", "_law_sides", "_law_digit"]
abbrev P__law_draw : List Str := ["_law_pot_here", "_law_sides"]
theorem sc__law_draw : FnScope N__law_draw P__law_draw (defScope s__law_draw) := ⟨rfl, rfl, rfl, by decide +kernel, rfl, by decide +kernel, by decide +kernel⟩
abbrev s__law_pick : Stmt := top 94
abbrev N__law_pick : List Str := ["_law_pot_here", "_law_some"]
abbrev P__law_pick : List Str := ["_law_pot_here", "_law_some"]
theorem sc__law_pick : FnScope N__law_pick P__law_pick (defScope s__law_pick) := ⟨rfl, rfl, rfl, by decide +kernel, rfl, by decide +kernel, by decide +kernel⟩
abbrev s__law_gcd : Stmt := top 95
abbrev N__law_gcd : List Str := ["_law_one", "_law_other"]
abbrev P__law_gcd : List Str := ["_law_one", "_law_other"]
theorem sc__law_gcd : FnScope N__law_gcd P__law_gcd (defScope s__law_gcd) := ⟨rfl, rfl, rfl, by decide +kernel, rfl, by decide +kernel, by decide +kernel⟩
abbrev s__law_classes : Stmt := top 96
abbrev N__law_classes : List Str := ["_law_pot_here", "_law_lanes", "_law_found", "_law_lane", "_law_at"]
abbrev P__law_classes : List Str := ["_law_pot_here", "_law_lanes"]
theorem sc__law_classes : FnScope N__law_classes P__law_classes (defScope s__law_classes) := ⟨rfl, rfl, rfl, by decide +kernel, rfl, by decide +kernel, by decide +kernel⟩
abbrev s__law_pace : Stmt := top 97
abbrev N__law_pace : List Str := ["_law_pot_here", "_law_size", "_law_q", "_law_p", "_law_common"]
abbrev P__law_pace : List Str := ["_law_pot_here", "_law_size"]
theorem sc__law_pace : FnScope N__law_pace P__law_pace (defScope s__law_pace) := ⟨rfl, rfl, rfl, by decide +kernel, rfl, by decide +kernel, by decide +kernel⟩
abbrev s__law_world : Stmt := top 98
abbrev N__law_world : List Str := ["_law_pot_here", "_law_classes_here", "_law_told_here", "_law_some", "_law_common", "_law_p", "_law_q", "_law_lanes", "_law_world_here", "_law_step", "_law_begin", "_law_at", "_law_lane", "_law_more"]
abbrev P__law_world : List Str := ["_law_pot_here", "_law_classes_here"]
theorem sc__law_world : FnScope N__law_world P__law_world (defScope s__law_world) := ⟨rfl, rfl, rfl, by decide +kernel, rfl, by decide +kernel, by decide +kernel⟩
abbrev s__law_gap : Stmt := top 99
abbrev N__law_gap : List Str := ["_law_world_here", "_law_i", "_law_j"]
abbrev P__law_gap : List Str := ["_law_world_here", "_law_i", "_law_j"]
theorem sc__law_gap : FnScope N__law_gap P__law_gap (defScope s__law_gap) := ⟨rfl, rfl, rfl, by decide +kernel, rfl, by decide +kernel, by decide +kernel⟩
abbrev s__law_lot : Stmt := top 100
abbrev N__law_lot : List Str := ["_law_told_here", "_law_lane"]
abbrev P__law_lot : List Str := ["_law_told_here"]
theorem sc__law_lot : FnScope N__law_lot P__law_lot (defScope s__law_lot) := ⟨rfl, rfl, rfl, by decide +kernel, rfl, by decide +kernel, by decide +kernel⟩
abbrev s__law_lots : Stmt := top 101
abbrev N__law_lots : List Str := ["_law_pot_here", "_law_world_here", "_law_i", "_law_steps", "_law_common", "_law_lanes", "_law_told_here", "_law_j", "_law_found", "_law_turn", "_law_most"]
abbrev P__law_lots : List Str := ["_law_pot_here", "_law_world_here", "_law_i"]
theorem sc__law_lots : FnScope N__law_lots P__law_lots (defScope s__law_lots) := ⟨rfl, rfl, rfl, by decide +kernel, rfl, by decide +kernel, by decide +kernel⟩
abbrev s__law_map : Stmt := top 102
abbrev N__law_map : List Str := ["_law_pot_here", "_law_world_here", "_law_i"]
abbrev P__law_map : List Str := ["_law_pot_here", "_law_world_here"]
theorem sc__law_map : FnScope N__law_map P__law_map (defScope s__law_map) := ⟨rfl, rfl, rfl, by decide +kernel, rfl, by decide +kernel, by decide +kernel⟩
abbrev s__law_rows : Stmt := top 103
abbrev N__law_rows : List Str := ["_law_chart", "_law_family"]
abbrev P__law_rows : List Str := ["_law_chart"]
theorem sc__law_rows : FnScope N__law_rows P__law_rows (defScope s__law_rows) := ⟨rfl, rfl, rfl, by decide +kernel, rfl, by decide +kernel, by decide +kernel⟩
abbrev s__law_told : Stmt := top 104
abbrev N__law_told : List Str := ["_law_lots_here", "_law_content", "_law_times", "_law_lane", "_law_number", "_law_lot_here"]
abbrev P__law_told : List Str := ["_law_lots_here", "_law_content", "_law_times"]
theorem sc__law_told : FnScope N__law_told P__law_told (defScope s__law_told) := ⟨rfl, rfl, rfl, by decide +kernel, rfl, by decide +kernel, by decide +kernel⟩
abbrev s__law_round : Stmt := top 105
abbrev N__law_round : List Str := ["_law_rows_here", "_law_content", "_law_times", "_law_lots_here"]
abbrev P__law_round : List Str := ["_law_rows_here", "_law_content", "_law_times"]
theorem sc__law_round : FnScope N__law_round P__law_round (defScope s__law_round) := ⟨rfl, rfl, rfl, by decide +kernel, rfl, by decide +kernel, by decide +kernel⟩
abbrev s__law_world_drawn : Stmt := top 106
abbrev N__law_world_drawn : List Str := ["_law_pot_here", "_law_most"]
abbrev P__law_world_drawn : List Str := ["_law_pot_here", "_law_most"]
theorem sc__law_world_drawn : FnScope N__law_world_drawn P__law_world_drawn (defScope s__law_world_drawn) := ⟨rfl, rfl, rfl, by decide +kernel, rfl, by decide +kernel, by decide +kernel⟩
abbrev s__law_hold : Stmt := top 107
abbrev N__law_hold : List Str := ["_law_lots_here", "_law_i", "_law_world_here", "_law_steps", "_law_base", "_law_common", "_law_lot_here", "_law_j", "_law_a"]
abbrev P__law_hold : List Str := ["_law_lots_here", "_law_i", "_law_world_here"]
theorem sc__law_hold : FnScope N__law_hold P__law_hold (defScope s__law_hold) := ⟨rfl, rfl, rfl, by decide +kernel, rfl, by decide +kernel, by decide +kernel⟩
abbrev s__law_pick_of : Stmt := top 108
abbrev N__law_pick_of : List Str := ["_law_lot_here", "_law_i", "_law_world_here", "_law_steps", "_law_base", "_law_common", "_law_j", "_law_a"]
abbrev P__law_pick_of : List Str := ["_law_lot_here", "_law_i", "_law_world_here"]
theorem sc__law_pick_of : FnScope N__law_pick_of P__law_pick_of (defScope s__law_pick_of) := ⟨rfl, rfl, rfl, by decide +kernel, rfl, by decide +kernel, by decide +kernel⟩
abbrev s__law_papers : Stmt := top 109
abbrev N__law_papers : List Str := ["_law_rows_here", "_law_lane", "_law_world_here", "_law_steps", "_law_plan", "_law_answer", "_law_j", "_law_lot_here"]
abbrev P__law_papers : List Str := ["_law_rows_here", "_law_lane", "_law_world_here"]
theorem sc__law_papers : FnScope N__law_papers P__law_papers (defScope s__law_papers) := ⟨rfl, rfl, rfl, by decide +kernel, rfl, by decide +kernel, by decide +kernel⟩
abbrev s__law_bounds_right : Stmt := top 110
abbrev N__law_bounds_right : List Str := ["_law_pot_here", "_law_chart", "_law_lane", "_law_rate", "_law_plan", "_law_answer", "_law_rows_here", "_law_here", "_law_j", "_law_begin", "_law_many", "_law_most", "_law_least"]
abbrev P__law_bounds_right : List Str := ["_law_pot_here", "_law_chart", "_law_lane", "_law_rate", "_law_plan", "_law_answer"]
theorem sc__law_bounds_right : FnScope N__law_bounds_right P__law_bounds_right (defScope s__law_bounds_right) := ⟨rfl, rfl, rfl, by decide +kernel, rfl, by decide +kernel, by decide +kernel⟩
abbrev s__law_lane_right : Stmt := top 111
abbrev N__law_lane_right : List Str := ["_law_pot_here", "_law_chart", "_law_world_here", "_law_walk", "_law_lane", "_law_rows_here", "_law_plan", "_law_answer", "_law_dues", "_law_step", "_law_common", "_law_j"]
abbrev P__law_lane_right : List Str := ["_law_pot_here", "_law_chart", "_law_world_here", "_law_walk", "_law_lane"]
theorem sc__law_lane_right : FnScope N__law_lane_right P__law_lane_right (defScope s__law_lane_right) := ⟨rfl, rfl, rfl, by decide +kernel, rfl, by decide +kernel, by decide +kernel⟩
abbrev s__law_right : Stmt := top 112
abbrev N__law_right : List Str := ["_law_pot_here", "_law_world_here", "_law_chart", "_law_walk", "_law_lane", "_law_frozen", "_law_j", "_law_told_here"]
abbrev P__law_right : List Str := ["_law_pot_here"]
theorem sc__law_right : FnScope N__law_right P__law_right (defScope s__law_right) := ⟨rfl, rfl, rfl, by decide +kernel, rfl, by decide +kernel, by decide +kernel⟩
abbrev s_law : Stmt := top 113
abbrev N_law : List Str := ["_law_script", "_law_k"]
abbrev P_law : List Str := ["_law_script"]
theorem sc_law : FnScope N_law P_law (defScope s_law) := ⟨rfl, rfl, rfl, by decide +kernel, rfl, by decide +kernel, by decide +kernel⟩
structure Kt (K : PySem.W.Frag) (mg : Str → Option Value) where
  a_is_integer : Addr
  f_is_integer : ∃ fd, FunD K "is_integer" "is_integer" (defArgs s_is_integer) (defBody s_is_integer) (defScope s_is_integer) [] [] a_is_integer fd
  g_is_integer : mg "is_integer" = some (.ref a_is_integer)
  a_is_count : Addr
  f_is_count : ∃ fd, FunD K "is_count" "is_count" (defArgs s_is_count) (defBody s_is_count) (defScope s_is_count) [] [] a_is_count fd
  g_is_count : mg "is_count" = some (.ref a_is_count)
  a_is_list : Addr
  f_is_list : ∃ fd, FunD K "is_list" "is_list" (defArgs s_is_list) (defBody s_is_list) (defScope s_is_list) [] [] a_is_list fd
  g_is_list : mg "is_list" = some (.ref a_is_list)
  a_is_content : Addr
  f_is_content : ∃ fd, FunD K "is_content" "is_content" (defArgs s_is_content) (defBody s_is_content) (defScope s_is_content) [] [] a_is_content fd
  g_is_content : mg "is_content" = some (.ref a_is_content)
  a_is_lane : Addr
  f_is_lane : ∃ fd, FunD K "is_lane" "is_lane" (defArgs s_is_lane) (defBody s_is_lane) (defScope s_is_lane) [] [] a_is_lane fd
  g_is_lane_basics : mg "is_lane_basics" = some (.ref a_is_lane)
  a_want_content_of : Addr
  f_want_content_of : ∃ fd, FunD K "want_content_of" "want_content_of" (defArgs s_want_content_of) (defBody s_want_content_of) (defScope s_want_content_of) [] [] a_want_content_of fd
  g_want_content_of : mg "want_content_of" = some (.ref a_want_content_of)
  a_want_lane : Addr
  f_want_lane : ∃ fd, FunD K "want_lane" "want_lane" (defArgs s_want_lane) (defBody s_want_lane) (defScope s_want_lane) [] [] a_want_lane fd
  g_want_lane : mg "want_lane" = some (.ref a_want_lane)
  a_want_many : Addr
  f_want_many : ∃ fd, FunD K "want_many" "want_many" (defArgs s_want_many) (defBody s_want_many) (defScope s_want_many) [] [] a_want_many fd
  g_want_many : mg "want_many" = some (.ref a_want_many)
  a_is_lane_lots : Addr
  f_is_lane_lots : ∃ fd, FunD K "is_lane" "is_lane" (defArgs s_is_lane_lots) (defBody s_is_lane_lots) (defScope s_is_lane_lots) [] [] a_is_lane_lots fd
  g_is_lane_lots : mg "is_lane_lots" = some (.ref a_is_lane_lots)
  g_is_lane : mg "is_lane" = some (.ref a_is_lane_lots)
  a_is_entry : Addr
  f_is_entry : ∃ fd, FunD K "is_entry" "is_entry" (defArgs s_is_entry) (defBody s_is_entry) (defScope s_is_entry) [] [] a_is_entry fd
  g_is_entry : mg "is_entry" = some (.ref a_is_entry)
  a_is_lot : Addr
  f_is_lot : ∃ fd, FunD K "is_lot" "is_lot" (defArgs s_is_lot) (defBody s_is_lot) (defScope s_is_lot) [] [] a_is_lot fd
  g_is_lot : mg "is_lot" = some (.ref a_is_lot)
  a_want_lots : Addr
  f_want_lots : ∃ fd, FunD K "want_lots" "want_lots" (defArgs s_want_lots) (defBody s_want_lots) (defScope s_want_lots) [] [] a_want_lots fd
  g_want_lots : mg "want_lots" = some (.ref a_want_lots)
  a_lanes_for : Addr
  f_lanes_for : ∃ fd, FunD K "lanes_for" "lanes_for" (defArgs s_lanes_for) (defBody s_lanes_for) (defScope s_lanes_for) [] [] a_lanes_for fd
  g_lanes_for : mg "lanes_for" = some (.ref a_lanes_for)
  a_is_ahead : Addr
  f_is_ahead : ∃ fd, FunD K "is_ahead" "is_ahead" (defArgs s_is_ahead) (defBody s_is_ahead) (defScope s_is_ahead) [] [] a_is_ahead fd
  g_is_ahead : mg "is_ahead" = some (.ref a_is_ahead)
  a_kept_lots : Addr
  f_kept_lots : ∃ fd, FunD K "kept_lots" "kept_lots" (defArgs s_kept_lots) (defBody s_kept_lots) (defScope s_kept_lots) [] [] a_kept_lots fd
  g_kept_lots : mg "kept_lots" = some (.ref a_kept_lots)
  a_limited : Addr
  f_limited : ∃ fd, FunD K "limited" "limited" (defArgs s_limited) (defBody s_limited) (defScope s_limited) [] [] a_limited fd
  g_limited : mg "limited" = some (.ref a_limited)
  a_Family___init__ : Addr
  f_Family___init__ : ∃ fd, FunD K "__init__" "Family.__init__" (defArgs s_Family___init__) (defBody s_Family___init__) (defScope s_Family___init__) [] [] a_Family___init__ fd
  a_Family_lots : Addr
  f_Family_lots : ∃ fd, FunD K "lots" "Family.lots" (defArgs s_Family_lots) (defBody s_Family_lots) (defScope s_Family_lots) [] [] a_Family_lots fd
  a_fits : Addr
  f_fits : ∃ fd, FunD K "fits" "fits" (defArgs s_fits) (defBody s_fits) (defScope s_fits) [] [] a_fits fd
  g_fits : mg "fits" = some (.ref a_fits)
  a_Map___init__ : Addr
  f_Map___init__ : ∃ fd, FunD K "__init__" "Map.__init__" (defArgs s_Map___init__) (defBody s_Map___init__) (defScope s_Map___init__) [] [] a_Map___init__ fd
  a_Map_lanes : Addr
  f_Map_lanes : ∃ fd, FunD K "lanes" "Map.lanes" (defArgs s_Map_lanes) (defBody s_Map_lanes) (defScope s_Map_lanes) [] [] a_Map_lanes fd
  a_Map_families : Addr
  f_Map_families : ∃ fd, FunD K "families" "Map.families" (defArgs s_Map_families) (defBody s_Map_families) (defScope s_Map_families) [] [] a_Map_families fd
  a_Map___getitem__ : Addr
  f_Map___getitem__ : ∃ fd, FunD K "__getitem__" "Map.__getitem__" (defArgs s_Map___getitem__) (defBody s_Map___getitem__) (defScope s_Map___getitem__) [] [] a_Map___getitem__ fd
  a_lots_of : Addr
  f_lots_of : ∃ fd, FunD K "lots_of" "lots_of" (defArgs s_lots_of) (defBody s_lots_of) (defScope s_lots_of) [] [] a_lots_of fd
  g_lots_of : mg "lots_of" = some (.ref a_lots_of)
  a_is_lot_of : Addr
  f_is_lot_of : ∃ fd, FunD K "is_lot_of" "is_lot_of" (defArgs s_is_lot_of) (defBody s_is_lot_of) (defScope s_is_lot_of) [] [] a_is_lot_of fd
  g_is_lot_of : mg "is_lot_of" = some (.ref a_is_lot_of)
  a_is_step : Addr
  f_is_step : ∃ fd, FunD K "is_step" "is_step" (defArgs s_is_step) (defBody s_is_step) (defScope s_is_step) [] [] a_is_step fd
  g_is_step : mg "is_step" = some (.ref a_is_step)
  a_are_picks : Addr
  f_are_picks : ∃ fd, FunD K "are_picks" "are_picks" (defArgs s_are_picks) (defBody s_are_picks) (defScope s_are_picks) [] [] a_are_picks fd
  g_are_picks : mg "are_picks" = some (.ref a_are_picks)
  a_picked_steps : Addr
  f_picked_steps : ∃ fd, FunD K "picked_steps" "picked_steps" (defArgs s_picked_steps) (defBody s_picked_steps) (defScope s_picked_steps) [] [] a_picked_steps fd
  g_picked_steps : mg "picked_steps" = some (.ref a_picked_steps)
  a_common_divisor : Addr
  f_common_divisor : ∃ fd, FunD K "common_divisor" "common_divisor" (defArgs s_common_divisor) (defBody s_common_divisor) (defScope s_common_divisor) [] [] a_common_divisor fd
  g_common_divisor : mg "common_divisor" = some (.ref a_common_divisor)
  a_is_pace : Addr
  f_is_pace : ∃ fd, FunD K "is_pace" "is_pace" (defArgs s_is_pace) (defBody s_is_pace) (defScope s_is_pace) [] [] a_is_pace fd
  g_is_pace : mg "is_pace" = some (.ref a_is_pace)
  a_common_number : Addr
  f_common_number : ∃ fd, FunD K "common_number" "common_number" (defArgs s_common_number) (defBody s_common_number) (defScope s_common_number) [] [] a_common_number fd
  g_common_number : mg "common_number" = some (.ref a_common_number)
  a_form_of : Addr
  f_form_of : ∃ fd, FunD K "form_of" "form_of" (defArgs s_form_of) (defBody s_form_of) (defScope s_form_of) [] [] a_form_of fd
  g_form_of : mg "form_of" = some (.ref a_form_of)
  a_is_held : Addr
  f_is_held : ∃ fd, FunD K "is_held" "is_held" (defArgs s_is_held) (defBody s_is_held) (defScope s_is_held) [] [] a_is_held fd
  g_is_held : mg "is_held" = some (.ref a_is_held)
  a_is_picked : Addr
  f_is_picked : ∃ fd, FunD K "is_picked" "is_picked" (defArgs s_is_picked) (defBody s_is_picked) (defScope s_is_picked) [] [] a_is_picked fd
  g_is_picked : mg "is_picked" = some (.ref a_is_picked)
  a_hold_by : Addr
  f_hold_by : ∃ fd, FunD K "hold_by" "hold_by" (defArgs s_hold_by) (defBody s_hold_by) (defScope s_hold_by) [] [] a_hold_by fd
  g_hold_by : mg "hold_by" = some (.ref a_hold_by)
  a_picks_by : Addr
  f_picks_by : ∃ fd, FunD K "picks_by" "picks_by" (defArgs s_picks_by) (defBody s_picks_by) (defScope s_picks_by) [] [] a_picks_by fd
  g_picks_by : mg "picks_by" = some (.ref a_picks_by)
  a_is_walk : Addr
  f_is_walk : ∃ fd, FunD K "is_walk" "is_walk" (defArgs s_is_walk) (defBody s_is_walk) (defScope s_is_walk) [] [] a_is_walk fd
  g_is_walk : mg "is_walk" = some (.ref a_is_walk)
  a_want_walk : Addr
  f_want_walk : ∃ fd, FunD K "want_walk" "want_walk" (defArgs s_want_walk) (defBody s_want_walk) (defScope s_want_walk) [] [] a_want_walk fd
  g_want_walk : mg "want_walk" = some (.ref a_want_walk)
  a_step_of : Addr
  f_step_of : ∃ fd, FunD K "step_of" "step_of" (defArgs s_step_of) (defBody s_step_of) (defScope s_step_of) [] [] a_step_of fd
  g_step_of : mg "step_of" = some (.ref a_step_of)
  a_plan_from : Addr
  f_plan_from : ∃ fd, FunD K "plan_from" "plan_from" (defArgs s_plan_from) (defBody s_plan_from) (defScope s_plan_from) [] [] a_plan_from fd
  g_plan_from : mg "plan_from" = some (.ref a_plan_from)
  a_answer_from : Addr
  f_answer_from : ∃ fd, FunD K "answer_from" "answer_from" (defArgs s_answer_from) (defBody s_answer_from) (defScope s_answer_from) [] [] a_answer_from fd
  g_answer_from : mg "answer_from" = some (.ref a_answer_from)
  a_is_rate : Addr
  f_is_rate : ∃ fd, FunD K "is_rate" "is_rate" (defArgs s_is_rate) (defBody s_is_rate) (defScope s_is_rate) [] [] a_is_rate fd
  g_is_rate : mg "is_rate" = some (.ref a_is_rate)
  a_want_rate : Addr
  f_want_rate : ∃ fd, FunD K "want_rate" "want_rate" (defArgs s_want_rate) (defBody s_want_rate) (defScope s_want_rate) [] [] a_want_rate fd
  g_want_rate : mg "want_rate" = some (.ref a_want_rate)
  a_is_part : Addr
  f_is_part : ∃ fd, FunD K "is_part" "is_part" (defArgs s_is_part) (defBody s_is_part) (defScope s_is_part) [] [] a_is_part fd
  g_is_part : mg "is_part" = some (.ref a_is_part)
  a_are_parts : Addr
  f_are_parts : ∃ fd, FunD K "are_parts" "are_parts" (defArgs s_are_parts) (defBody s_are_parts) (defScope s_are_parts) [] [] a_are_parts fd
  g_are_parts : mg "are_parts" = some (.ref a_are_parts)
  a_is_plan_paper : Addr
  f_is_plan_paper : ∃ fd, FunD K "is_plan_paper" "is_plan_paper" (defArgs s_is_plan_paper) (defBody s_is_plan_paper) (defScope s_is_plan_paper) [] [] a_is_plan_paper fd
  g_is_plan_paper : mg "is_plan_paper" = some (.ref a_is_plan_paper)
  a_is_answer_paper : Addr
  f_is_answer_paper : ∃ fd, FunD K "is_answer_paper" "is_answer_paper" (defArgs s_is_answer_paper) (defBody s_is_answer_paper) (defScope s_is_answer_paper) [] [] a_is_answer_paper fd
  g_is_answer_paper : mg "is_answer_paper" = some (.ref a_is_answer_paper)
  a_ahead_by : Addr
  f_ahead_by : ∃ fd, FunD K "ahead_by" "ahead_by" (defArgs s_ahead_by) (defBody s_ahead_by) (defScope s_ahead_by) [] [] a_ahead_by fd
  g_ahead_by : mg "ahead_by" = some (.ref a_ahead_by)
  a_most_behind : Addr
  f_most_behind : ∃ fd, FunD K "most_behind" "most_behind" (defArgs s_most_behind) (defBody s_most_behind) (defScope s_most_behind) [] [] a_most_behind fd
  g_most_behind : mg "most_behind" = some (.ref a_most_behind)
  a_least_behind : Addr
  f_least_behind : ∃ fd, FunD K "least_behind" "least_behind" (defArgs s_least_behind) (defBody s_least_behind) (defScope s_least_behind) [] [] a_least_behind fd
  g_least_behind : mg "least_behind" = some (.ref a_least_behind)
  a__law_pot : Addr
  f__law_pot : ∃ fd, FunD K "_law_pot" "_law_pot" (defArgs s__law_pot) (defBody s__law_pot) (defScope s__law_pot) [] [] a__law_pot fd
  g__law_pot : mg "_law_pot" = some (.ref a__law_pot)
  a__law_draw : Addr
  f__law_draw : ∃ fd, FunD K "_law_draw" "_law_draw" (defArgs s__law_draw) (defBody s__law_draw) (defScope s__law_draw) [] [] a__law_draw fd
  g__law_draw : mg "_law_draw" = some (.ref a__law_draw)
  a__law_pick : Addr
  f__law_pick : ∃ fd, FunD K "_law_pick" "_law_pick" (defArgs s__law_pick) (defBody s__law_pick) (defScope s__law_pick) [] [] a__law_pick fd
  g__law_pick : mg "_law_pick" = some (.ref a__law_pick)
  a__law_gcd : Addr
  f__law_gcd : ∃ fd, FunD K "_law_gcd" "_law_gcd" (defArgs s__law_gcd) (defBody s__law_gcd) (defScope s__law_gcd) [] [] a__law_gcd fd
  g__law_gcd : mg "_law_gcd" = some (.ref a__law_gcd)
  a__law_classes : Addr
  f__law_classes : ∃ fd, FunD K "_law_classes" "_law_classes" (defArgs s__law_classes) (defBody s__law_classes) (defScope s__law_classes) [] [] a__law_classes fd
  g__law_classes : mg "_law_classes" = some (.ref a__law_classes)
  a__law_pace : Addr
  f__law_pace : ∃ fd, FunD K "_law_pace" "_law_pace" (defArgs s__law_pace) (defBody s__law_pace) (defScope s__law_pace) [] [] a__law_pace fd
  g__law_pace : mg "_law_pace" = some (.ref a__law_pace)
  a__law_world : Addr
  f__law_world : ∃ fd, FunD K "_law_world" "_law_world" (defArgs s__law_world) (defBody s__law_world) (defScope s__law_world) [] [] a__law_world fd
  g__law_world : mg "_law_world" = some (.ref a__law_world)
  a__law_gap : Addr
  f__law_gap : ∃ fd, FunD K "_law_gap" "_law_gap" (defArgs s__law_gap) (defBody s__law_gap) (defScope s__law_gap) [] [] a__law_gap fd
  g__law_gap : mg "_law_gap" = some (.ref a__law_gap)
  a__law_lot : Addr
  f__law_lot : ∃ fd, FunD K "_law_lot" "_law_lot" (defArgs s__law_lot) (defBody s__law_lot) (defScope s__law_lot) [] [] a__law_lot fd
  g__law_lot : mg "_law_lot" = some (.ref a__law_lot)
  a__law_lots : Addr
  f__law_lots : ∃ fd, FunD K "_law_lots" "_law_lots" (defArgs s__law_lots) (defBody s__law_lots) (defScope s__law_lots) [] [] a__law_lots fd
  g__law_lots : mg "_law_lots" = some (.ref a__law_lots)
  a__law_map : Addr
  f__law_map : ∃ fd, FunD K "_law_map" "_law_map" (defArgs s__law_map) (defBody s__law_map) (defScope s__law_map) [] [] a__law_map fd
  g__law_map : mg "_law_map" = some (.ref a__law_map)
  a__law_rows : Addr
  f__law_rows : ∃ fd, FunD K "_law_rows" "_law_rows" (defArgs s__law_rows) (defBody s__law_rows) (defScope s__law_rows) [] [] a__law_rows fd
  g__law_rows : mg "_law_rows" = some (.ref a__law_rows)
  a__law_told : Addr
  f__law_told : ∃ fd, FunD K "_law_told" "_law_told" (defArgs s__law_told) (defBody s__law_told) (defScope s__law_told) [] [] a__law_told fd
  g__law_told : mg "_law_told" = some (.ref a__law_told)
  a__law_round : Addr
  f__law_round : ∃ fd, FunD K "_law_round" "_law_round" (defArgs s__law_round) (defBody s__law_round) (defScope s__law_round) [] [] a__law_round fd
  g__law_round : mg "_law_round" = some (.ref a__law_round)
  a__law_world_drawn : Addr
  f__law_world_drawn : ∃ fd, FunD K "_law_world_drawn" "_law_world_drawn" (defArgs s__law_world_drawn) (defBody s__law_world_drawn) (defScope s__law_world_drawn) [] [] a__law_world_drawn fd
  g__law_world_drawn : mg "_law_world_drawn" = some (.ref a__law_world_drawn)
  a__law_hold : Addr
  f__law_hold : ∃ fd, FunD K "_law_hold" "_law_hold" (defArgs s__law_hold) (defBody s__law_hold) (defScope s__law_hold) [] [] a__law_hold fd
  g__law_hold : mg "_law_hold" = some (.ref a__law_hold)
  a__law_pick_of : Addr
  f__law_pick_of : ∃ fd, FunD K "_law_pick_of" "_law_pick_of" (defArgs s__law_pick_of) (defBody s__law_pick_of) (defScope s__law_pick_of) [] [] a__law_pick_of fd
  g__law_pick_of : mg "_law_pick_of" = some (.ref a__law_pick_of)
  a__law_papers : Addr
  f__law_papers : ∃ fd, FunD K "_law_papers" "_law_papers" (defArgs s__law_papers) (defBody s__law_papers) (defScope s__law_papers) [] [] a__law_papers fd
  g__law_papers : mg "_law_papers" = some (.ref a__law_papers)
  a__law_bounds_right : Addr
  f__law_bounds_right : ∃ fd, FunD K "_law_bounds_right" "_law_bounds_right" (defArgs s__law_bounds_right) (defBody s__law_bounds_right) (defScope s__law_bounds_right) [] [] a__law_bounds_right fd
  g__law_bounds_right : mg "_law_bounds_right" = some (.ref a__law_bounds_right)
  a__law_lane_right : Addr
  f__law_lane_right : ∃ fd, FunD K "_law_lane_right" "_law_lane_right" (defArgs s__law_lane_right) (defBody s__law_lane_right) (defScope s__law_lane_right) [] [] a__law_lane_right fd
  g__law_lane_right : mg "_law_lane_right" = some (.ref a__law_lane_right)
  a__law_right : Addr
  f__law_right : ∃ fd, FunD K "_law_right" "_law_right" (defArgs s__law_right) (defBody s__law_right) (defScope s__law_right) [] [] a__law_right fd
  g__law_right : mg "_law_right" = some (.ref a__law_right)
  a_law : Addr
  f_law : ∃ fd, FunD K "law" "law" (defArgs s_law) (defBody s_law) (defScope s_law) [] [] a_law fd
  g_law : mg "law" = some (.ref a_law)
  c_MOST : ∃ t, mg "MOST" = some (.int 12 t)
  c_MOST_LANES : ∃ t, mg "MOST_LANES" = some (.int 12 t)
  c_MOST_GIVEN : ∃ t, mg "MOST_GIVEN" = some (.int 200 t)
  c_MOST_LOTS : ∃ t, mg "MOST_LOTS" = some (.int 60 t)
  c_MOST_PARTS : ∃ t, mg "MOST_PARTS" = some (.int 60 t)
  n_len : mg "len" = none
  n_all : mg "all" = none
  n_any : mg "any" = none
  n_sum : mg "sum" = none
  n_max : mg "max" = none
  n_min : mg "min" = none
  n_abs : mg "abs" = none
  n_sorted : mg "sorted" = none
  n_isinstance : mg "isinstance" = none
  n_divmod : mg "divmod" = none
  n_repr : mg "repr" = none
  n_list : mg "list" = none
  n_tuple : mg "tuple" = none
  n_dict : mg "dict" = none
  n_int : mg "int" = none
  n_bool : mg "bool" = none
  n_range : mg "range" = none
  n_enumerate : mg "enumerate" = none
  n_zip : mg "zip" = none
  C_Family : Addr
  g_Family : mg "Family" = some (.ref C_Family)
  isF : IsC K C_Family
  mkFamily : Mk K C_Family a_Family___init__
  C_Map : Addr
  g_Map : mg "Map" = some (.ref C_Map)
  isM : IsC K C_Map
  mkMap : Mk K C_Map a_Map___init__
  naF : NoAttr K C_Family "own_lots"
  naM : NoAttr K C_Map "own_families"
  m_lots : Meth K C_Family "lots" a_Family_lots
  m_families : Meth K C_Map "families" a_Map_families
  q_lanes : Addr
  p_lanes : PropOf K C_Map "lanes" q_lanes a_Map_lanes
  m_getitem : GetI K C_Map a_Map___getitem__
  k_most : ∃ mc t, ClX.CRead K C_Map mc ∧ ClX.CVal K C_Map mc "MOST_LANES" (.int 12) (.int 12 t)
end Ln
/-! Hd: the head: what the top leaves, looked at by an own hook. -/
namespace Ln
open PySem PySem.Spec PyProof.Rows L2
structure Df where
  ad : PySem.W.Frag → Addr
  name : Str
  qual : Str
  params : Arguments
  body : List Stmt
  scope : Scope
def Df.val (d : Df) : He.FnW := some (d.name, d.qual, d.params, .stmts d.body, d.scope, mainGlobals, [], builtinsNs)
def Df.see (K : PySem.W.Frag) (d : Df) : He.FnW := match K.lookup (d.ad K) with
  | some ⟨_, _, .func fd, _⟩ => some (fd.name, fd.qualname, fd.params, fd.body, fd.scope, fd.globals, fd.closure, fd.builtins)
  | _ => none
def Df.ok (K : PySem.W.Frag) (d : Df) : Bool := PySem.W.keepIn K (.ref (d.ad K)) && (match K.lookup (d.ad K) with
  | some ⟨_, _, .func fd, _⟩ => PySem.W.codeIn K fd.code d.qual && (He.dflB K fd.defaults [] && He.kwdB K fd.kwdefaults [])
  | _ => false)
theorem Df.fun_ {K : PySem.W.Frag} {d : Df} (e : d.see K = d.val) (c : d.ok K = true) : ∃ fd, FunD K d.name d.qual d.params d.body d.scope [] [] (d.ad K) fd := by
  obtain ⟨kp, c2⟩ := He.ba c
  unfold Df.see at e
  cases q : K.lookup (d.ad K) with
  | none => rw [q] at c2; cases c2
  | some o =>
    obtain ⟨oc, od, dt, osl⟩ := o
    rw [q] at c2 e
    cases dt with
    | func fd =>
      obtain ⟨m1, m2, m3, m4, m5, m6, m7, m8, m9, m10, m11, m12, m13, m14, m15⟩ := fd
      have e' : (some (m1, m2, m3, m4, m5, m6, m7, m15) : He.FnW) = some (d.name, d.qual, d.params, .stmts d.body, d.scope, mainGlobals, [], builtinsNs) := e
      simp only [Option.some.injEq, Prod.mk.injEq] at e'
      obtain ⟨rfl, rfl, rfl, rfl, rfl, rfl, rfl, rfl⟩ := e'
      have c3 : (PySem.W.codeIn K m13 d.qual && (He.dflB K m8 [] && He.kwdB K m9 [])) = true := c2
      obtain ⟨k1, k2⟩ := He.ba c3
      obtain ⟨k3, k4⟩ := He.ba k2
      exact ⟨_, ⟨oc, od, m8, m9, m10, m11, m12, m13, m14, osl, rfl, q, k1, He.dflB_ok k3, He.kwdB_ok k4⟩, kp⟩
    | _ => cases c2
def hdEnts (g : Addr → Option Obj) (a : Addr) : List DictEntry := match g a with
  | some ⟨_, _, .dict es _, _⟩ => es.toList
  | _ => []
def hdFn (g : Addr → Option Obj) (a : Addr) : List Addr := match g a with
  | some ⟨_, _, .func fd, _⟩ => a :: He.refV fd.code
  | _ => []
def hdAny (g : Addr → Option Obj) (a : Addr) : List Addr := match g a with
  | some ⟨_, _, .func fd, _⟩ => a :: He.refV fd.code
  | some ⟨_, _, .fields vs, _⟩ => a :: vs.toList.flatMap fun v => (He.refV v).flatMap (hdFn g)
  | _ => []
def hdCls (g : Addr → Option Obj) (x : Str) : List Addr := match (hdEnts g mainGlobals).find? (·.key.isStr x) with
  | some e => (He.refV e.val).flatMap fun C => C :: (match g C with
    | some ⟨_, _, .cls cd, _⟩ => cd.ns :: (hdEnts g cd.ns).flatMap fun e => (He.refV e.val).flatMap (hdAny g)
    | _ => [])
  | none => []
def hdAll (g : Addr → Option Obj) : List Addr := mainGlobals :: cStatics :: (hdCls g "Family" ++ hdCls g "Map" ++ (hdEnts g mainGlobals).flatMap fun e => (He.refV e.val).flatMap (hdFn g))
abbrev HdA : Type := Bool × List He.FnW
def hdObs (fs : List (PySem.W.Frag → Bool)) (ds : List Df) (K : PySem.W.Frag) : HdA := ((fs.all fun f => f K) && ds.all fun d => d.ok K, ds.map fun d => d.see K)
def hdVal (ds : List Df) : HdA := (true, ds.map Df.val)
def hdHook (fs : List (PySem.W.Frag → Bool)) (ds : List Df) : PySem.W.Hook where
  α := HdA
  obs := fun s => hdObs fs ds (He.frG s.heap.get? (hdAll s.heap.get?))
  val := fun _ => hdVal ds
  says := fun _ h => ∃ K : PySem.W.Frag, K.In h ∧ hdObs fs ds K = hdVal ds
  of := fun _ _ e => ⟨_, He.frG_in, e⟩
  keeps := fun _ _ _ ⟨K, hK, c⟩ k => ⟨K, PySem.W.Frag.In.keeps hK k, c⟩
section
variable {fs : List (PySem.W.Frag → Bool)} {ds : List Df} {K : PySem.W.Frag}
theorem hd_fact (c : hdObs fs ds K = hdVal ds) (i : Nat) {f : PySem.W.Frag → Bool} (h : fs[i]? = some f := by rfl) : f K = true := by
  have c1 := (He.ba (show ((fs.all fun f => f K) && ds.all fun d => d.ok K) = true from congrArg (fun z : HdA => z.1) c)).1
  exact List.all_eq_true.mp c1 f (List.mem_of_getElem? h)
theorem hd_def (c : hdObs fs ds K = hdVal ds) (i : Nat) {d : Df} (h : ds[i]? = some d := by rfl) : ∃ fd, FunD K d.name d.qual d.params d.body d.scope [] [] (d.ad K) fd := by
  have c2 := (He.ba (show ((fs.all fun f => f K) && ds.all fun d => d.ok K) = true from congrArg (fun z : HdA => z.1) c)).2
  have e : ds.map (fun d => d.see K) = ds.map Df.val := congrArg (fun z : HdA => z.2) c
  have e2 : (ds.map fun d => d.see K)[i]? = (ds.map Df.val)[i]? := by rw [e]
  rw [List.getElem?_map, List.getElem?_map, h] at e2
  exact Df.fun_ (Option.some.inj e2) (List.all_eq_true.mp c2 d (List.mem_of_getElem? h))
end
def prA (K : PySem.W.Frag) : Addr := He.ma K (He.ga K "Map") "lanes"
def prG (K : PySem.W.Frag) : Addr := match PySem.W.recIn K (prA K) "property" with
  | some (.ref g :: _) => g
  | _ => 0
def eqOO (a b : Option (Option Value)) : Bool := decide (a = b)
def icB (K : PySem.W.Frag) (C : Addr) : Bool := eqOO (PySem.W.findIn K (.ref C) "__class__") (some (some (.builtin "object.__class__"))) && (eqOO (PySem.W.specialIn K (.builtin "object.__class__") "__get__") (some (some (.builtin "getset_descriptor.__get__"))) &&
  (decide (PySem.W.takesIn K (.builtin "object.__class__") = some true) && decide (PySem.W.mroIn K C (.type "object") = some true)))
def prB (K : PySem.W.Frag) : Bool := eqOO (PySem.W.findIn K (.ref (He.ga K "Map")) "lanes") (some (some (.ref (prA K)))) && (eqOO (PySem.W.specialIn K (.ref (prA K)) "__get__") (some (some (.builtin "property.__get__"))) && (decide (PySem.W.takesIn K (.ref (prA K)) = some true) && (match PySem.W.recIn K (prA K) "property" with
  | some (.ref _ :: _) => true
  | _ => false)))
def giB (K : PySem.W.Frag) : Bool := eqOO (PySem.W.findIn K (.ref (He.ga K "Map")) "__getitem__") (some (some (.ref (He.ma K (He.ga K "Map") "__getitem__")))) && (PySem.W.fnIn K (He.ma K (He.ga K "Map") "__getitem__") && PySem.W.isFn K (.ref (He.ma K (He.ga K "Map") "__getitem__")))
def mlB (K : PySem.W.Frag) : Bool := PySem.W.readsIn K (He.ga K "Map") (.type "type") && (eqOO (PySem.W.specialIn K (.ref (He.ga K "Map")) "__getattribute__") (some (some (.builtin "type.__getattribute__"))) && (match PySem.W.findCls K (.ref (He.ga K "Map")) (.type "type") "MOST_LANES" with
  | some (.val (.int j _)) => decide (j = 12)
  | _ => false))
theorem ic_ok {K : PySem.W.Frag} {x : Str} (c0 : Cls K (He.ga K x)) (c : icB K (He.ga K x) = true) : IsC K (He.ga K x) := by
  obtain ⟨a1, c⟩ := He.ba c
  obtain ⟨a2, c⟩ := He.ba c
  obtain ⟨a3, a4⟩ := He.ba c
  exact ⟨c0, of_decide_eq_true a1, of_decide_eq_true a2, of_decide_eq_true a3, of_decide_eq_true a4⟩
theorem pr_ok {K : PySem.W.Frag} (c : prB K = true) : PropOf K (He.ga K "Map") "lanes" (prA K) (prG K) := by
  obtain ⟨a1, c⟩ := He.ba c
  obtain ⟨a2, c⟩ := He.ba c
  obtain ⟨a3, a4⟩ := He.ba c
  refine ⟨of_decide_eq_true a1, of_decide_eq_true a2, of_decide_eq_true a3, ?_⟩
  unfold prG
  split at a4
  · rename_i g r e
    rw [e]
    exact ⟨_, rfl⟩
  · cases a4
theorem gi_ok {K : PySem.W.Frag} (c : giB K = true) : GetI K (He.ga K "Map") (He.ma K (He.ga K "Map") "__getitem__") := by
  obtain ⟨a1, c⟩ := He.ba c
  obtain ⟨a2, a3⟩ := He.ba c
  exact ⟨of_decide_eq_true a1, a2, a3⟩
theorem ml_ok {K : PySem.W.Frag} (c : mlB K = true) : ∃ mc t, ClX.CRead K (He.ga K "Map") mc ∧ ClX.CVal K (He.ga K "Map") mc "MOST_LANES" (.int 12) (.int 12 t) := by
  obtain ⟨a1, c⟩ := He.ba c
  obtain ⟨a2, a3⟩ := He.ba c
  split at a3
  · rename_i j t e
    have ej : j = 12 := of_decide_eq_true a3
    subst ej
    exact ⟨_, t, ⟨a1, of_decide_eq_true a2⟩, ⟨e, ⟨t, rfl⟩⟩⟩
  · cases a3
def hdDs : List Df := [
  ⟨fun K => He.ga K "is_integer", "is_integer", "is_integer", defArgs s_is_integer, defBody s_is_integer, defScope s_is_integer⟩,
  ⟨fun K => He.ga K "is_count", "is_count", "is_count", defArgs s_is_count, defBody s_is_count, defScope s_is_count⟩,
  ⟨fun K => He.ga K "is_list", "is_list", "is_list", defArgs s_is_list, defBody s_is_list, defScope s_is_list⟩,
  ⟨fun K => He.ga K "is_content", "is_content", "is_content", defArgs s_is_content, defBody s_is_content, defScope s_is_content⟩,
  ⟨fun K => He.ga K "is_lane_basics", "is_lane", "is_lane", defArgs s_is_lane, defBody s_is_lane, defScope s_is_lane⟩,
  ⟨fun K => He.ga K "want_content_of", "want_content_of", "want_content_of", defArgs s_want_content_of, defBody s_want_content_of, defScope s_want_content_of⟩,
  ⟨fun K => He.ga K "want_lane", "want_lane", "want_lane", defArgs s_want_lane, defBody s_want_lane, defScope s_want_lane⟩,
  ⟨fun K => He.ga K "want_many", "want_many", "want_many", defArgs s_want_many, defBody s_want_many, defScope s_want_many⟩,
  ⟨fun K => He.ga K "is_lane", "is_lane", "is_lane", defArgs s_is_lane_lots, defBody s_is_lane_lots, defScope s_is_lane_lots⟩,
  ⟨fun K => He.ga K "is_entry", "is_entry", "is_entry", defArgs s_is_entry, defBody s_is_entry, defScope s_is_entry⟩,
  ⟨fun K => He.ga K "is_lot", "is_lot", "is_lot", defArgs s_is_lot, defBody s_is_lot, defScope s_is_lot⟩,
  ⟨fun K => He.ga K "want_lots", "want_lots", "want_lots", defArgs s_want_lots, defBody s_want_lots, defScope s_want_lots⟩,
  ⟨fun K => He.ga K "lanes_for", "lanes_for", "lanes_for", defArgs s_lanes_for, defBody s_lanes_for, defScope s_lanes_for⟩,
  ⟨fun K => He.ga K "is_ahead", "is_ahead", "is_ahead", defArgs s_is_ahead, defBody s_is_ahead, defScope s_is_ahead⟩,
  ⟨fun K => He.ga K "kept_lots", "kept_lots", "kept_lots", defArgs s_kept_lots, defBody s_kept_lots, defScope s_kept_lots⟩,
  ⟨fun K => He.ga K "limited", "limited", "limited", defArgs s_limited, defBody s_limited, defScope s_limited⟩,
  ⟨fun K => He.ma K (He.ga K "Family") "__init__", "__init__", "Family.__init__", defArgs s_Family___init__, defBody s_Family___init__, defScope s_Family___init__⟩,
  ⟨fun K => He.ma K (He.ga K "Family") "lots", "lots", "Family.lots", defArgs s_Family_lots, defBody s_Family_lots, defScope s_Family_lots⟩,
  ⟨fun K => He.ga K "fits", "fits", "fits", defArgs s_fits, defBody s_fits, defScope s_fits⟩,
  ⟨fun K => He.ma K (He.ga K "Map") "__init__", "__init__", "Map.__init__", defArgs s_Map___init__, defBody s_Map___init__, defScope s_Map___init__⟩,
  ⟨fun K => prG K, "lanes", "Map.lanes", defArgs s_Map_lanes, defBody s_Map_lanes, defScope s_Map_lanes⟩,
  ⟨fun K => He.ma K (He.ga K "Map") "families", "families", "Map.families", defArgs s_Map_families, defBody s_Map_families, defScope s_Map_families⟩,
  ⟨fun K => He.ma K (He.ga K "Map") "__getitem__", "__getitem__", "Map.__getitem__", defArgs s_Map___getitem__, defBody s_Map___getitem__, defScope s_Map___getitem__⟩,
  ⟨fun K => He.ga K "lots_of", "lots_of", "lots_of", defArgs s_lots_of, defBody s_lots_of, defScope s_lots_of⟩,
  ⟨fun K => He.ga K "is_lot_of", "is_lot_of", "is_lot_of", defArgs s_is_lot_of, defBody s_is_lot_of, defScope s_is_lot_of⟩,
  ⟨fun K => He.ga K "is_step", "is_step", "is_step", defArgs s_is_step, defBody s_is_step, defScope s_is_step⟩,
  ⟨fun K => He.ga K "are_picks", "are_picks", "are_picks", defArgs s_are_picks, defBody s_are_picks, defScope s_are_picks⟩,
  ⟨fun K => He.ga K "picked_steps", "picked_steps", "picked_steps", defArgs s_picked_steps, defBody s_picked_steps, defScope s_picked_steps⟩,
  ⟨fun K => He.ga K "common_divisor", "common_divisor", "common_divisor", defArgs s_common_divisor, defBody s_common_divisor, defScope s_common_divisor⟩,
  ⟨fun K => He.ga K "is_pace", "is_pace", "is_pace", defArgs s_is_pace, defBody s_is_pace, defScope s_is_pace⟩,
  ⟨fun K => He.ga K "common_number", "common_number", "common_number", defArgs s_common_number, defBody s_common_number, defScope s_common_number⟩,
  ⟨fun K => He.ga K "form_of", "form_of", "form_of", defArgs s_form_of, defBody s_form_of, defScope s_form_of⟩,
  ⟨fun K => He.ga K "is_held", "is_held", "is_held", defArgs s_is_held, defBody s_is_held, defScope s_is_held⟩,
  ⟨fun K => He.ga K "is_picked", "is_picked", "is_picked", defArgs s_is_picked, defBody s_is_picked, defScope s_is_picked⟩,
  ⟨fun K => He.ga K "hold_by", "hold_by", "hold_by", defArgs s_hold_by, defBody s_hold_by, defScope s_hold_by⟩,
  ⟨fun K => He.ga K "picks_by", "picks_by", "picks_by", defArgs s_picks_by, defBody s_picks_by, defScope s_picks_by⟩,
  ⟨fun K => He.ga K "is_walk", "is_walk", "is_walk", defArgs s_is_walk, defBody s_is_walk, defScope s_is_walk⟩,
  ⟨fun K => He.ga K "want_walk", "want_walk", "want_walk", defArgs s_want_walk, defBody s_want_walk, defScope s_want_walk⟩,
  ⟨fun K => He.ga K "step_of", "step_of", "step_of", defArgs s_step_of, defBody s_step_of, defScope s_step_of⟩,
  ⟨fun K => He.ga K "plan_from", "plan_from", "plan_from", defArgs s_plan_from, defBody s_plan_from, defScope s_plan_from⟩,
  ⟨fun K => He.ga K "answer_from", "answer_from", "answer_from", defArgs s_answer_from, defBody s_answer_from, defScope s_answer_from⟩,
  ⟨fun K => He.ga K "is_rate", "is_rate", "is_rate", defArgs s_is_rate, defBody s_is_rate, defScope s_is_rate⟩,
  ⟨fun K => He.ga K "want_rate", "want_rate", "want_rate", defArgs s_want_rate, defBody s_want_rate, defScope s_want_rate⟩,
  ⟨fun K => He.ga K "is_part", "is_part", "is_part", defArgs s_is_part, defBody s_is_part, defScope s_is_part⟩,
  ⟨fun K => He.ga K "are_parts", "are_parts", "are_parts", defArgs s_are_parts, defBody s_are_parts, defScope s_are_parts⟩,
  ⟨fun K => He.ga K "is_plan_paper", "is_plan_paper", "is_plan_paper", defArgs s_is_plan_paper, defBody s_is_plan_paper, defScope s_is_plan_paper⟩,
  ⟨fun K => He.ga K "is_answer_paper", "is_answer_paper", "is_answer_paper", defArgs s_is_answer_paper, defBody s_is_answer_paper, defScope s_is_answer_paper⟩,
  ⟨fun K => He.ga K "ahead_by", "ahead_by", "ahead_by", defArgs s_ahead_by, defBody s_ahead_by, defScope s_ahead_by⟩,
  ⟨fun K => He.ga K "most_behind", "most_behind", "most_behind", defArgs s_most_behind, defBody s_most_behind, defScope s_most_behind⟩,
  ⟨fun K => He.ga K "least_behind", "least_behind", "least_behind", defArgs s_least_behind, defBody s_least_behind, defScope s_least_behind⟩,
  ⟨fun K => He.ga K "_law_pot", "_law_pot", "_law_pot", defArgs s__law_pot, defBody s__law_pot, defScope s__law_pot⟩,
  ⟨fun K => He.ga K "_law_draw", "_law_draw", "_law_draw", defArgs s__law_draw, defBody s__law_draw, defScope s__law_draw⟩,
  ⟨fun K => He.ga K "_law_pick", "_law_pick", "_law_pick", defArgs s__law_pick, defBody s__law_pick, defScope s__law_pick⟩,
  ⟨fun K => He.ga K "_law_gcd", "_law_gcd", "_law_gcd", defArgs s__law_gcd, defBody s__law_gcd, defScope s__law_gcd⟩,
  ⟨fun K => He.ga K "_law_classes", "_law_classes", "_law_classes", defArgs s__law_classes, defBody s__law_classes, defScope s__law_classes⟩,
  ⟨fun K => He.ga K "_law_pace", "_law_pace", "_law_pace", defArgs s__law_pace, defBody s__law_pace, defScope s__law_pace⟩,
  ⟨fun K => He.ga K "_law_world", "_law_world", "_law_world", defArgs s__law_world, defBody s__law_world, defScope s__law_world⟩,
  ⟨fun K => He.ga K "_law_gap", "_law_gap", "_law_gap", defArgs s__law_gap, defBody s__law_gap, defScope s__law_gap⟩,
  ⟨fun K => He.ga K "_law_lot", "_law_lot", "_law_lot", defArgs s__law_lot, defBody s__law_lot, defScope s__law_lot⟩,
  ⟨fun K => He.ga K "_law_lots", "_law_lots", "_law_lots", defArgs s__law_lots, defBody s__law_lots, defScope s__law_lots⟩,
  ⟨fun K => He.ga K "_law_map", "_law_map", "_law_map", defArgs s__law_map, defBody s__law_map, defScope s__law_map⟩,
  ⟨fun K => He.ga K "_law_rows", "_law_rows", "_law_rows", defArgs s__law_rows, defBody s__law_rows, defScope s__law_rows⟩,
  ⟨fun K => He.ga K "_law_told", "_law_told", "_law_told", defArgs s__law_told, defBody s__law_told, defScope s__law_told⟩,
  ⟨fun K => He.ga K "_law_round", "_law_round", "_law_round", defArgs s__law_round, defBody s__law_round, defScope s__law_round⟩,
  ⟨fun K => He.ga K "_law_world_drawn", "_law_world_drawn", "_law_world_drawn", defArgs s__law_world_drawn, defBody s__law_world_drawn, defScope s__law_world_drawn⟩,
  ⟨fun K => He.ga K "_law_hold", "_law_hold", "_law_hold", defArgs s__law_hold, defBody s__law_hold, defScope s__law_hold⟩,
  ⟨fun K => He.ga K "_law_pick_of", "_law_pick_of", "_law_pick_of", defArgs s__law_pick_of, defBody s__law_pick_of, defScope s__law_pick_of⟩,
  ⟨fun K => He.ga K "_law_papers", "_law_papers", "_law_papers", defArgs s__law_papers, defBody s__law_papers, defScope s__law_papers⟩,
  ⟨fun K => He.ga K "_law_bounds_right", "_law_bounds_right", "_law_bounds_right", defArgs s__law_bounds_right, defBody s__law_bounds_right, defScope s__law_bounds_right⟩,
  ⟨fun K => He.ga K "_law_lane_right", "_law_lane_right", "_law_lane_right", defArgs s__law_lane_right, defBody s__law_lane_right, defScope s__law_lane_right⟩,
  ⟨fun K => He.ga K "_law_right", "_law_right", "_law_right", defArgs s__law_right, defBody s__law_right, defScope s__law_right⟩,
  ⟨fun K => He.ga K "law", "law", "law", defArgs s_law, defBody s_law, defScope s_law⟩]
def hdFs : List (PySem.W.Frag → Bool) := [
  fun K => (He.Fa.glo "is_integer").ok K,
  fun K => (He.Fa.glo "is_count").ok K,
  fun K => (He.Fa.glo "is_list").ok K,
  fun K => (He.Fa.glo "is_content").ok K,
  fun K => (He.Fa.glo "is_lane_basics").ok K,
  fun K => (He.Fa.glo "want_content_of").ok K,
  fun K => (He.Fa.glo "want_lane").ok K,
  fun K => (He.Fa.glo "want_many").ok K,
  fun K => He.eqO (PySem.W.nsIn K mainGlobals "is_lane_lots") (some (some (.ref (He.ga K "is_lane")))),
  fun K => (He.Fa.glo "is_lane").ok K,
  fun K => (He.Fa.glo "is_entry").ok K,
  fun K => (He.Fa.glo "is_lot").ok K,
  fun K => (He.Fa.glo "want_lots").ok K,
  fun K => (He.Fa.glo "lanes_for").ok K,
  fun K => (He.Fa.glo "is_ahead").ok K,
  fun K => (He.Fa.glo "kept_lots").ok K,
  fun K => (He.Fa.glo "limited").ok K,
  fun K => (He.Fa.glo "fits").ok K,
  fun K => (He.Fa.glo "lots_of").ok K,
  fun K => (He.Fa.glo "is_lot_of").ok K,
  fun K => (He.Fa.glo "is_step").ok K,
  fun K => (He.Fa.glo "are_picks").ok K,
  fun K => (He.Fa.glo "picked_steps").ok K,
  fun K => (He.Fa.glo "common_divisor").ok K,
  fun K => (He.Fa.glo "is_pace").ok K,
  fun K => (He.Fa.glo "common_number").ok K,
  fun K => (He.Fa.glo "form_of").ok K,
  fun K => (He.Fa.glo "is_held").ok K,
  fun K => (He.Fa.glo "is_picked").ok K,
  fun K => (He.Fa.glo "hold_by").ok K,
  fun K => (He.Fa.glo "picks_by").ok K,
  fun K => (He.Fa.glo "is_walk").ok K,
  fun K => (He.Fa.glo "want_walk").ok K,
  fun K => (He.Fa.glo "step_of").ok K,
  fun K => (He.Fa.glo "plan_from").ok K,
  fun K => (He.Fa.glo "answer_from").ok K,
  fun K => (He.Fa.glo "is_rate").ok K,
  fun K => (He.Fa.glo "want_rate").ok K,
  fun K => (He.Fa.glo "is_part").ok K,
  fun K => (He.Fa.glo "are_parts").ok K,
  fun K => (He.Fa.glo "is_plan_paper").ok K,
  fun K => (He.Fa.glo "is_answer_paper").ok K,
  fun K => (He.Fa.glo "ahead_by").ok K,
  fun K => (He.Fa.glo "most_behind").ok K,
  fun K => (He.Fa.glo "least_behind").ok K,
  fun K => (He.Fa.glo "_law_pot").ok K,
  fun K => (He.Fa.glo "_law_draw").ok K,
  fun K => (He.Fa.glo "_law_pick").ok K,
  fun K => (He.Fa.glo "_law_gcd").ok K,
  fun K => (He.Fa.glo "_law_classes").ok K,
  fun K => (He.Fa.glo "_law_pace").ok K,
  fun K => (He.Fa.glo "_law_world").ok K,
  fun K => (He.Fa.glo "_law_gap").ok K,
  fun K => (He.Fa.glo "_law_lot").ok K,
  fun K => (He.Fa.glo "_law_lots").ok K,
  fun K => (He.Fa.glo "_law_map").ok K,
  fun K => (He.Fa.glo "_law_rows").ok K,
  fun K => (He.Fa.glo "_law_told").ok K,
  fun K => (He.Fa.glo "_law_round").ok K,
  fun K => (He.Fa.glo "_law_world_drawn").ok K,
  fun K => (He.Fa.glo "_law_hold").ok K,
  fun K => (He.Fa.glo "_law_pick_of").ok K,
  fun K => (He.Fa.glo "_law_papers").ok K,
  fun K => (He.Fa.glo "_law_bounds_right").ok K,
  fun K => (He.Fa.glo "_law_lane_right").ok K,
  fun K => (He.Fa.glo "_law_right").ok K,
  fun K => (He.Fa.glo "law").ok K,
  fun K => (He.Fa.int "MOST" 12).ok K,
  fun K => (He.Fa.int "MOST_LANES" 12).ok K,
  fun K => (He.Fa.int "MOST_GIVEN" 200).ok K,
  fun K => (He.Fa.int "MOST_LOTS" 60).ok K,
  fun K => (He.Fa.int "MOST_PARTS" 60).ok K,
  fun K => (He.Fa.free "len").ok K,
  fun K => (He.Fa.free "all").ok K,
  fun K => (He.Fa.free "any").ok K,
  fun K => (He.Fa.free "sum").ok K,
  fun K => (He.Fa.free "max").ok K,
  fun K => (He.Fa.free "min").ok K,
  fun K => (He.Fa.free "abs").ok K,
  fun K => (He.Fa.free "sorted").ok K,
  fun K => (He.Fa.free "isinstance").ok K,
  fun K => (He.Fa.free "divmod").ok K,
  fun K => (He.Fa.free "repr").ok K,
  fun K => (He.Fa.free "list").ok K,
  fun K => (He.Fa.free "tuple").ok K,
  fun K => (He.Fa.free "dict").ok K,
  fun K => (He.Fa.free "int").ok K,
  fun K => (He.Fa.free "bool").ok K,
  fun K => (He.Fa.free "range").ok K,
  fun K => (He.Fa.free "enumerate").ok K,
  fun K => (He.Fa.free "zip").ok K,
  fun K => (He.Fa.glo "Family").ok K,
  fun K => (He.Fa.cls "Family").ok K,
  fun K => icB K (He.ga K "Family"),
  fun K => (He.Fa.mkr "Family").ok K,
  fun K => (He.Fa.glo "Map").ok K,
  fun K => (He.Fa.cls "Map").ok K,
  fun K => icB K (He.ga K "Map"),
  fun K => (He.Fa.mkr "Map").ok K,
  fun K => (He.Fa.noat "Family" "own_lots").ok K,
  fun K => (He.Fa.noat "Map" "own_families").ok K,
  fun K => (He.Fa.meth "Family" "lots").ok K,
  fun K => (He.Fa.meth "Map" "families").ok K,
  prB,
  giB,
  mlB]
noncomputable def kt_of {K : PySem.W.Frag} {h : Heap} {mg : Str → Option Value} (X : K.In h) (G : h.Ns mainGlobals mg) (c : hdObs hdFs hdDs K = hdVal hdDs) : Kt K mg where
  a_is_integer := He.ga K "is_integer"
  f_is_integer := hd_def c 0 (d := ⟨fun K => He.ga K "is_integer", "is_integer", "is_integer", defArgs s_is_integer, defBody s_is_integer, defScope s_is_integer⟩) rfl
  g_is_integer := He.glo_ok X G (hd_fact c 0 (f := fun K => (He.Fa.glo "is_integer").ok K) rfl)
  a_is_count := He.ga K "is_count"
  f_is_count := hd_def c 1 (d := ⟨fun K => He.ga K "is_count", "is_count", "is_count", defArgs s_is_count, defBody s_is_count, defScope s_is_count⟩) rfl
  g_is_count := He.glo_ok X G (hd_fact c 1 (f := fun K => (He.Fa.glo "is_count").ok K) rfl)
  a_is_list := He.ga K "is_list"
  f_is_list := hd_def c 2 (d := ⟨fun K => He.ga K "is_list", "is_list", "is_list", defArgs s_is_list, defBody s_is_list, defScope s_is_list⟩) rfl
  g_is_list := He.glo_ok X G (hd_fact c 2 (f := fun K => (He.Fa.glo "is_list").ok K) rfl)
  a_is_content := He.ga K "is_content"
  f_is_content := hd_def c 3 (d := ⟨fun K => He.ga K "is_content", "is_content", "is_content", defArgs s_is_content, defBody s_is_content, defScope s_is_content⟩) rfl
  g_is_content := He.glo_ok X G (hd_fact c 3 (f := fun K => (He.Fa.glo "is_content").ok K) rfl)
  a_is_lane := He.ga K "is_lane_basics"
  f_is_lane := hd_def c 4 (d := ⟨fun K => He.ga K "is_lane_basics", "is_lane", "is_lane", defArgs s_is_lane, defBody s_is_lane, defScope s_is_lane⟩) rfl
  g_is_lane_basics := He.glo_ok X G (hd_fact c 4 (f := fun K => (He.Fa.glo "is_lane_basics").ok K) rfl)
  a_want_content_of := He.ga K "want_content_of"
  f_want_content_of := hd_def c 5 (d := ⟨fun K => He.ga K "want_content_of", "want_content_of", "want_content_of", defArgs s_want_content_of, defBody s_want_content_of, defScope s_want_content_of⟩) rfl
  g_want_content_of := He.glo_ok X G (hd_fact c 5 (f := fun K => (He.Fa.glo "want_content_of").ok K) rfl)
  a_want_lane := He.ga K "want_lane"
  f_want_lane := hd_def c 6 (d := ⟨fun K => He.ga K "want_lane", "want_lane", "want_lane", defArgs s_want_lane, defBody s_want_lane, defScope s_want_lane⟩) rfl
  g_want_lane := He.glo_ok X G (hd_fact c 6 (f := fun K => (He.Fa.glo "want_lane").ok K) rfl)
  a_want_many := He.ga K "want_many"
  f_want_many := hd_def c 7 (d := ⟨fun K => He.ga K "want_many", "want_many", "want_many", defArgs s_want_many, defBody s_want_many, defScope s_want_many⟩) rfl
  g_want_many := He.glo_ok X G (hd_fact c 7 (f := fun K => (He.Fa.glo "want_many").ok K) rfl)
  a_is_lane_lots := He.ga K "is_lane"
  f_is_lane_lots := hd_def c 8 (d := ⟨fun K => He.ga K "is_lane", "is_lane", "is_lane", defArgs s_is_lane_lots, defBody s_is_lane_lots, defScope s_is_lane_lots⟩) rfl
  g_is_lane_lots := PySem.W.mg_of X G (He.eqO_ok (hd_fact c 8 (f := fun K => He.eqO (PySem.W.nsIn K mainGlobals "is_lane_lots") (some (some (.ref (He.ga K "is_lane"))))) rfl))
  g_is_lane := He.glo_ok X G (hd_fact c 9 (f := fun K => (He.Fa.glo "is_lane").ok K) rfl)
  a_is_entry := He.ga K "is_entry"
  f_is_entry := hd_def c 9 (d := ⟨fun K => He.ga K "is_entry", "is_entry", "is_entry", defArgs s_is_entry, defBody s_is_entry, defScope s_is_entry⟩) rfl
  g_is_entry := He.glo_ok X G (hd_fact c 10 (f := fun K => (He.Fa.glo "is_entry").ok K) rfl)
  a_is_lot := He.ga K "is_lot"
  f_is_lot := hd_def c 10 (d := ⟨fun K => He.ga K "is_lot", "is_lot", "is_lot", defArgs s_is_lot, defBody s_is_lot, defScope s_is_lot⟩) rfl
  g_is_lot := He.glo_ok X G (hd_fact c 11 (f := fun K => (He.Fa.glo "is_lot").ok K) rfl)
  a_want_lots := He.ga K "want_lots"
  f_want_lots := hd_def c 11 (d := ⟨fun K => He.ga K "want_lots", "want_lots", "want_lots", defArgs s_want_lots, defBody s_want_lots, defScope s_want_lots⟩) rfl
  g_want_lots := He.glo_ok X G (hd_fact c 12 (f := fun K => (He.Fa.glo "want_lots").ok K) rfl)
  a_lanes_for := He.ga K "lanes_for"
  f_lanes_for := hd_def c 12 (d := ⟨fun K => He.ga K "lanes_for", "lanes_for", "lanes_for", defArgs s_lanes_for, defBody s_lanes_for, defScope s_lanes_for⟩) rfl
  g_lanes_for := He.glo_ok X G (hd_fact c 13 (f := fun K => (He.Fa.glo "lanes_for").ok K) rfl)
  a_is_ahead := He.ga K "is_ahead"
  f_is_ahead := hd_def c 13 (d := ⟨fun K => He.ga K "is_ahead", "is_ahead", "is_ahead", defArgs s_is_ahead, defBody s_is_ahead, defScope s_is_ahead⟩) rfl
  g_is_ahead := He.glo_ok X G (hd_fact c 14 (f := fun K => (He.Fa.glo "is_ahead").ok K) rfl)
  a_kept_lots := He.ga K "kept_lots"
  f_kept_lots := hd_def c 14 (d := ⟨fun K => He.ga K "kept_lots", "kept_lots", "kept_lots", defArgs s_kept_lots, defBody s_kept_lots, defScope s_kept_lots⟩) rfl
  g_kept_lots := He.glo_ok X G (hd_fact c 15 (f := fun K => (He.Fa.glo "kept_lots").ok K) rfl)
  a_limited := He.ga K "limited"
  f_limited := hd_def c 15 (d := ⟨fun K => He.ga K "limited", "limited", "limited", defArgs s_limited, defBody s_limited, defScope s_limited⟩) rfl
  g_limited := He.glo_ok X G (hd_fact c 16 (f := fun K => (He.Fa.glo "limited").ok K) rfl)
  a_Family___init__ := He.ma K (He.ga K "Family") "__init__"
  f_Family___init__ := hd_def c 16 (d := ⟨fun K => He.ma K (He.ga K "Family") "__init__", "__init__", "Family.__init__", defArgs s_Family___init__, defBody s_Family___init__, defScope s_Family___init__⟩) rfl
  a_Family_lots := He.ma K (He.ga K "Family") "lots"
  f_Family_lots := hd_def c 17 (d := ⟨fun K => He.ma K (He.ga K "Family") "lots", "lots", "Family.lots", defArgs s_Family_lots, defBody s_Family_lots, defScope s_Family_lots⟩) rfl
  a_fits := He.ga K "fits"
  f_fits := hd_def c 18 (d := ⟨fun K => He.ga K "fits", "fits", "fits", defArgs s_fits, defBody s_fits, defScope s_fits⟩) rfl
  g_fits := He.glo_ok X G (hd_fact c 17 (f := fun K => (He.Fa.glo "fits").ok K) rfl)
  a_Map___init__ := He.ma K (He.ga K "Map") "__init__"
  f_Map___init__ := hd_def c 19 (d := ⟨fun K => He.ma K (He.ga K "Map") "__init__", "__init__", "Map.__init__", defArgs s_Map___init__, defBody s_Map___init__, defScope s_Map___init__⟩) rfl
  a_Map_lanes := prG K
  f_Map_lanes := hd_def c 20 (d := ⟨fun K => prG K, "lanes", "Map.lanes", defArgs s_Map_lanes, defBody s_Map_lanes, defScope s_Map_lanes⟩) rfl
  a_Map_families := He.ma K (He.ga K "Map") "families"
  f_Map_families := hd_def c 21 (d := ⟨fun K => He.ma K (He.ga K "Map") "families", "families", "Map.families", defArgs s_Map_families, defBody s_Map_families, defScope s_Map_families⟩) rfl
  a_Map___getitem__ := He.ma K (He.ga K "Map") "__getitem__"
  f_Map___getitem__ := hd_def c 22 (d := ⟨fun K => He.ma K (He.ga K "Map") "__getitem__", "__getitem__", "Map.__getitem__", defArgs s_Map___getitem__, defBody s_Map___getitem__, defScope s_Map___getitem__⟩) rfl
  a_lots_of := He.ga K "lots_of"
  f_lots_of := hd_def c 23 (d := ⟨fun K => He.ga K "lots_of", "lots_of", "lots_of", defArgs s_lots_of, defBody s_lots_of, defScope s_lots_of⟩) rfl
  g_lots_of := He.glo_ok X G (hd_fact c 18 (f := fun K => (He.Fa.glo "lots_of").ok K) rfl)
  a_is_lot_of := He.ga K "is_lot_of"
  f_is_lot_of := hd_def c 24 (d := ⟨fun K => He.ga K "is_lot_of", "is_lot_of", "is_lot_of", defArgs s_is_lot_of, defBody s_is_lot_of, defScope s_is_lot_of⟩) rfl
  g_is_lot_of := He.glo_ok X G (hd_fact c 19 (f := fun K => (He.Fa.glo "is_lot_of").ok K) rfl)
  a_is_step := He.ga K "is_step"
  f_is_step := hd_def c 25 (d := ⟨fun K => He.ga K "is_step", "is_step", "is_step", defArgs s_is_step, defBody s_is_step, defScope s_is_step⟩) rfl
  g_is_step := He.glo_ok X G (hd_fact c 20 (f := fun K => (He.Fa.glo "is_step").ok K) rfl)
  a_are_picks := He.ga K "are_picks"
  f_are_picks := hd_def c 26 (d := ⟨fun K => He.ga K "are_picks", "are_picks", "are_picks", defArgs s_are_picks, defBody s_are_picks, defScope s_are_picks⟩) rfl
  g_are_picks := He.glo_ok X G (hd_fact c 21 (f := fun K => (He.Fa.glo "are_picks").ok K) rfl)
  a_picked_steps := He.ga K "picked_steps"
  f_picked_steps := hd_def c 27 (d := ⟨fun K => He.ga K "picked_steps", "picked_steps", "picked_steps", defArgs s_picked_steps, defBody s_picked_steps, defScope s_picked_steps⟩) rfl
  g_picked_steps := He.glo_ok X G (hd_fact c 22 (f := fun K => (He.Fa.glo "picked_steps").ok K) rfl)
  a_common_divisor := He.ga K "common_divisor"
  f_common_divisor := hd_def c 28 (d := ⟨fun K => He.ga K "common_divisor", "common_divisor", "common_divisor", defArgs s_common_divisor, defBody s_common_divisor, defScope s_common_divisor⟩) rfl
  g_common_divisor := He.glo_ok X G (hd_fact c 23 (f := fun K => (He.Fa.glo "common_divisor").ok K) rfl)
  a_is_pace := He.ga K "is_pace"
  f_is_pace := hd_def c 29 (d := ⟨fun K => He.ga K "is_pace", "is_pace", "is_pace", defArgs s_is_pace, defBody s_is_pace, defScope s_is_pace⟩) rfl
  g_is_pace := He.glo_ok X G (hd_fact c 24 (f := fun K => (He.Fa.glo "is_pace").ok K) rfl)
  a_common_number := He.ga K "common_number"
  f_common_number := hd_def c 30 (d := ⟨fun K => He.ga K "common_number", "common_number", "common_number", defArgs s_common_number, defBody s_common_number, defScope s_common_number⟩) rfl
  g_common_number := He.glo_ok X G (hd_fact c 25 (f := fun K => (He.Fa.glo "common_number").ok K) rfl)
  a_form_of := He.ga K "form_of"
  f_form_of := hd_def c 31 (d := ⟨fun K => He.ga K "form_of", "form_of", "form_of", defArgs s_form_of, defBody s_form_of, defScope s_form_of⟩) rfl
  g_form_of := He.glo_ok X G (hd_fact c 26 (f := fun K => (He.Fa.glo "form_of").ok K) rfl)
  a_is_held := He.ga K "is_held"
  f_is_held := hd_def c 32 (d := ⟨fun K => He.ga K "is_held", "is_held", "is_held", defArgs s_is_held, defBody s_is_held, defScope s_is_held⟩) rfl
  g_is_held := He.glo_ok X G (hd_fact c 27 (f := fun K => (He.Fa.glo "is_held").ok K) rfl)
  a_is_picked := He.ga K "is_picked"
  f_is_picked := hd_def c 33 (d := ⟨fun K => He.ga K "is_picked", "is_picked", "is_picked", defArgs s_is_picked, defBody s_is_picked, defScope s_is_picked⟩) rfl
  g_is_picked := He.glo_ok X G (hd_fact c 28 (f := fun K => (He.Fa.glo "is_picked").ok K) rfl)
  a_hold_by := He.ga K "hold_by"
  f_hold_by := hd_def c 34 (d := ⟨fun K => He.ga K "hold_by", "hold_by", "hold_by", defArgs s_hold_by, defBody s_hold_by, defScope s_hold_by⟩) rfl
  g_hold_by := He.glo_ok X G (hd_fact c 29 (f := fun K => (He.Fa.glo "hold_by").ok K) rfl)
  a_picks_by := He.ga K "picks_by"
  f_picks_by := hd_def c 35 (d := ⟨fun K => He.ga K "picks_by", "picks_by", "picks_by", defArgs s_picks_by, defBody s_picks_by, defScope s_picks_by⟩) rfl
  g_picks_by := He.glo_ok X G (hd_fact c 30 (f := fun K => (He.Fa.glo "picks_by").ok K) rfl)
  a_is_walk := He.ga K "is_walk"
  f_is_walk := hd_def c 36 (d := ⟨fun K => He.ga K "is_walk", "is_walk", "is_walk", defArgs s_is_walk, defBody s_is_walk, defScope s_is_walk⟩) rfl
  g_is_walk := He.glo_ok X G (hd_fact c 31 (f := fun K => (He.Fa.glo "is_walk").ok K) rfl)
  a_want_walk := He.ga K "want_walk"
  f_want_walk := hd_def c 37 (d := ⟨fun K => He.ga K "want_walk", "want_walk", "want_walk", defArgs s_want_walk, defBody s_want_walk, defScope s_want_walk⟩) rfl
  g_want_walk := He.glo_ok X G (hd_fact c 32 (f := fun K => (He.Fa.glo "want_walk").ok K) rfl)
  a_step_of := He.ga K "step_of"
  f_step_of := hd_def c 38 (d := ⟨fun K => He.ga K "step_of", "step_of", "step_of", defArgs s_step_of, defBody s_step_of, defScope s_step_of⟩) rfl
  g_step_of := He.glo_ok X G (hd_fact c 33 (f := fun K => (He.Fa.glo "step_of").ok K) rfl)
  a_plan_from := He.ga K "plan_from"
  f_plan_from := hd_def c 39 (d := ⟨fun K => He.ga K "plan_from", "plan_from", "plan_from", defArgs s_plan_from, defBody s_plan_from, defScope s_plan_from⟩) rfl
  g_plan_from := He.glo_ok X G (hd_fact c 34 (f := fun K => (He.Fa.glo "plan_from").ok K) rfl)
  a_answer_from := He.ga K "answer_from"
  f_answer_from := hd_def c 40 (d := ⟨fun K => He.ga K "answer_from", "answer_from", "answer_from", defArgs s_answer_from, defBody s_answer_from, defScope s_answer_from⟩) rfl
  g_answer_from := He.glo_ok X G (hd_fact c 35 (f := fun K => (He.Fa.glo "answer_from").ok K) rfl)
  a_is_rate := He.ga K "is_rate"
  f_is_rate := hd_def c 41 (d := ⟨fun K => He.ga K "is_rate", "is_rate", "is_rate", defArgs s_is_rate, defBody s_is_rate, defScope s_is_rate⟩) rfl
  g_is_rate := He.glo_ok X G (hd_fact c 36 (f := fun K => (He.Fa.glo "is_rate").ok K) rfl)
  a_want_rate := He.ga K "want_rate"
  f_want_rate := hd_def c 42 (d := ⟨fun K => He.ga K "want_rate", "want_rate", "want_rate", defArgs s_want_rate, defBody s_want_rate, defScope s_want_rate⟩) rfl
  g_want_rate := He.glo_ok X G (hd_fact c 37 (f := fun K => (He.Fa.glo "want_rate").ok K) rfl)
  a_is_part := He.ga K "is_part"
  f_is_part := hd_def c 43 (d := ⟨fun K => He.ga K "is_part", "is_part", "is_part", defArgs s_is_part, defBody s_is_part, defScope s_is_part⟩) rfl
  g_is_part := He.glo_ok X G (hd_fact c 38 (f := fun K => (He.Fa.glo "is_part").ok K) rfl)
  a_are_parts := He.ga K "are_parts"
  f_are_parts := hd_def c 44 (d := ⟨fun K => He.ga K "are_parts", "are_parts", "are_parts", defArgs s_are_parts, defBody s_are_parts, defScope s_are_parts⟩) rfl
  g_are_parts := He.glo_ok X G (hd_fact c 39 (f := fun K => (He.Fa.glo "are_parts").ok K) rfl)
  a_is_plan_paper := He.ga K "is_plan_paper"
  f_is_plan_paper := hd_def c 45 (d := ⟨fun K => He.ga K "is_plan_paper", "is_plan_paper", "is_plan_paper", defArgs s_is_plan_paper, defBody s_is_plan_paper, defScope s_is_plan_paper⟩) rfl
  g_is_plan_paper := He.glo_ok X G (hd_fact c 40 (f := fun K => (He.Fa.glo "is_plan_paper").ok K) rfl)
  a_is_answer_paper := He.ga K "is_answer_paper"
  f_is_answer_paper := hd_def c 46 (d := ⟨fun K => He.ga K "is_answer_paper", "is_answer_paper", "is_answer_paper", defArgs s_is_answer_paper, defBody s_is_answer_paper, defScope s_is_answer_paper⟩) rfl
  g_is_answer_paper := He.glo_ok X G (hd_fact c 41 (f := fun K => (He.Fa.glo "is_answer_paper").ok K) rfl)
  a_ahead_by := He.ga K "ahead_by"
  f_ahead_by := hd_def c 47 (d := ⟨fun K => He.ga K "ahead_by", "ahead_by", "ahead_by", defArgs s_ahead_by, defBody s_ahead_by, defScope s_ahead_by⟩) rfl
  g_ahead_by := He.glo_ok X G (hd_fact c 42 (f := fun K => (He.Fa.glo "ahead_by").ok K) rfl)
  a_most_behind := He.ga K "most_behind"
  f_most_behind := hd_def c 48 (d := ⟨fun K => He.ga K "most_behind", "most_behind", "most_behind", defArgs s_most_behind, defBody s_most_behind, defScope s_most_behind⟩) rfl
  g_most_behind := He.glo_ok X G (hd_fact c 43 (f := fun K => (He.Fa.glo "most_behind").ok K) rfl)
  a_least_behind := He.ga K "least_behind"
  f_least_behind := hd_def c 49 (d := ⟨fun K => He.ga K "least_behind", "least_behind", "least_behind", defArgs s_least_behind, defBody s_least_behind, defScope s_least_behind⟩) rfl
  g_least_behind := He.glo_ok X G (hd_fact c 44 (f := fun K => (He.Fa.glo "least_behind").ok K) rfl)
  a__law_pot := He.ga K "_law_pot"
  f__law_pot := hd_def c 50 (d := ⟨fun K => He.ga K "_law_pot", "_law_pot", "_law_pot", defArgs s__law_pot, defBody s__law_pot, defScope s__law_pot⟩) rfl
  g__law_pot := He.glo_ok X G (hd_fact c 45 (f := fun K => (He.Fa.glo "_law_pot").ok K) rfl)
  a__law_draw := He.ga K "_law_draw"
  f__law_draw := hd_def c 51 (d := ⟨fun K => He.ga K "_law_draw", "_law_draw", "_law_draw", defArgs s__law_draw, defBody s__law_draw, defScope s__law_draw⟩) rfl
  g__law_draw := He.glo_ok X G (hd_fact c 46 (f := fun K => (He.Fa.glo "_law_draw").ok K) rfl)
  a__law_pick := He.ga K "_law_pick"
  f__law_pick := hd_def c 52 (d := ⟨fun K => He.ga K "_law_pick", "_law_pick", "_law_pick", defArgs s__law_pick, defBody s__law_pick, defScope s__law_pick⟩) rfl
  g__law_pick := He.glo_ok X G (hd_fact c 47 (f := fun K => (He.Fa.glo "_law_pick").ok K) rfl)
  a__law_gcd := He.ga K "_law_gcd"
  f__law_gcd := hd_def c 53 (d := ⟨fun K => He.ga K "_law_gcd", "_law_gcd", "_law_gcd", defArgs s__law_gcd, defBody s__law_gcd, defScope s__law_gcd⟩) rfl
  g__law_gcd := He.glo_ok X G (hd_fact c 48 (f := fun K => (He.Fa.glo "_law_gcd").ok K) rfl)
  a__law_classes := He.ga K "_law_classes"
  f__law_classes := hd_def c 54 (d := ⟨fun K => He.ga K "_law_classes", "_law_classes", "_law_classes", defArgs s__law_classes, defBody s__law_classes, defScope s__law_classes⟩) rfl
  g__law_classes := He.glo_ok X G (hd_fact c 49 (f := fun K => (He.Fa.glo "_law_classes").ok K) rfl)
  a__law_pace := He.ga K "_law_pace"
  f__law_pace := hd_def c 55 (d := ⟨fun K => He.ga K "_law_pace", "_law_pace", "_law_pace", defArgs s__law_pace, defBody s__law_pace, defScope s__law_pace⟩) rfl
  g__law_pace := He.glo_ok X G (hd_fact c 50 (f := fun K => (He.Fa.glo "_law_pace").ok K) rfl)
  a__law_world := He.ga K "_law_world"
  f__law_world := hd_def c 56 (d := ⟨fun K => He.ga K "_law_world", "_law_world", "_law_world", defArgs s__law_world, defBody s__law_world, defScope s__law_world⟩) rfl
  g__law_world := He.glo_ok X G (hd_fact c 51 (f := fun K => (He.Fa.glo "_law_world").ok K) rfl)
  a__law_gap := He.ga K "_law_gap"
  f__law_gap := hd_def c 57 (d := ⟨fun K => He.ga K "_law_gap", "_law_gap", "_law_gap", defArgs s__law_gap, defBody s__law_gap, defScope s__law_gap⟩) rfl
  g__law_gap := He.glo_ok X G (hd_fact c 52 (f := fun K => (He.Fa.glo "_law_gap").ok K) rfl)
  a__law_lot := He.ga K "_law_lot"
  f__law_lot := hd_def c 58 (d := ⟨fun K => He.ga K "_law_lot", "_law_lot", "_law_lot", defArgs s__law_lot, defBody s__law_lot, defScope s__law_lot⟩) rfl
  g__law_lot := He.glo_ok X G (hd_fact c 53 (f := fun K => (He.Fa.glo "_law_lot").ok K) rfl)
  a__law_lots := He.ga K "_law_lots"
  f__law_lots := hd_def c 59 (d := ⟨fun K => He.ga K "_law_lots", "_law_lots", "_law_lots", defArgs s__law_lots, defBody s__law_lots, defScope s__law_lots⟩) rfl
  g__law_lots := He.glo_ok X G (hd_fact c 54 (f := fun K => (He.Fa.glo "_law_lots").ok K) rfl)
  a__law_map := He.ga K "_law_map"
  f__law_map := hd_def c 60 (d := ⟨fun K => He.ga K "_law_map", "_law_map", "_law_map", defArgs s__law_map, defBody s__law_map, defScope s__law_map⟩) rfl
  g__law_map := He.glo_ok X G (hd_fact c 55 (f := fun K => (He.Fa.glo "_law_map").ok K) rfl)
  a__law_rows := He.ga K "_law_rows"
  f__law_rows := hd_def c 61 (d := ⟨fun K => He.ga K "_law_rows", "_law_rows", "_law_rows", defArgs s__law_rows, defBody s__law_rows, defScope s__law_rows⟩) rfl
  g__law_rows := He.glo_ok X G (hd_fact c 56 (f := fun K => (He.Fa.glo "_law_rows").ok K) rfl)
  a__law_told := He.ga K "_law_told"
  f__law_told := hd_def c 62 (d := ⟨fun K => He.ga K "_law_told", "_law_told", "_law_told", defArgs s__law_told, defBody s__law_told, defScope s__law_told⟩) rfl
  g__law_told := He.glo_ok X G (hd_fact c 57 (f := fun K => (He.Fa.glo "_law_told").ok K) rfl)
  a__law_round := He.ga K "_law_round"
  f__law_round := hd_def c 63 (d := ⟨fun K => He.ga K "_law_round", "_law_round", "_law_round", defArgs s__law_round, defBody s__law_round, defScope s__law_round⟩) rfl
  g__law_round := He.glo_ok X G (hd_fact c 58 (f := fun K => (He.Fa.glo "_law_round").ok K) rfl)
  a__law_world_drawn := He.ga K "_law_world_drawn"
  f__law_world_drawn := hd_def c 64 (d := ⟨fun K => He.ga K "_law_world_drawn", "_law_world_drawn", "_law_world_drawn", defArgs s__law_world_drawn, defBody s__law_world_drawn, defScope s__law_world_drawn⟩) rfl
  g__law_world_drawn := He.glo_ok X G (hd_fact c 59 (f := fun K => (He.Fa.glo "_law_world_drawn").ok K) rfl)
  a__law_hold := He.ga K "_law_hold"
  f__law_hold := hd_def c 65 (d := ⟨fun K => He.ga K "_law_hold", "_law_hold", "_law_hold", defArgs s__law_hold, defBody s__law_hold, defScope s__law_hold⟩) rfl
  g__law_hold := He.glo_ok X G (hd_fact c 60 (f := fun K => (He.Fa.glo "_law_hold").ok K) rfl)
  a__law_pick_of := He.ga K "_law_pick_of"
  f__law_pick_of := hd_def c 66 (d := ⟨fun K => He.ga K "_law_pick_of", "_law_pick_of", "_law_pick_of", defArgs s__law_pick_of, defBody s__law_pick_of, defScope s__law_pick_of⟩) rfl
  g__law_pick_of := He.glo_ok X G (hd_fact c 61 (f := fun K => (He.Fa.glo "_law_pick_of").ok K) rfl)
  a__law_papers := He.ga K "_law_papers"
  f__law_papers := hd_def c 67 (d := ⟨fun K => He.ga K "_law_papers", "_law_papers", "_law_papers", defArgs s__law_papers, defBody s__law_papers, defScope s__law_papers⟩) rfl
  g__law_papers := He.glo_ok X G (hd_fact c 62 (f := fun K => (He.Fa.glo "_law_papers").ok K) rfl)
  a__law_bounds_right := He.ga K "_law_bounds_right"
  f__law_bounds_right := hd_def c 68 (d := ⟨fun K => He.ga K "_law_bounds_right", "_law_bounds_right", "_law_bounds_right", defArgs s__law_bounds_right, defBody s__law_bounds_right, defScope s__law_bounds_right⟩) rfl
  g__law_bounds_right := He.glo_ok X G (hd_fact c 63 (f := fun K => (He.Fa.glo "_law_bounds_right").ok K) rfl)
  a__law_lane_right := He.ga K "_law_lane_right"
  f__law_lane_right := hd_def c 69 (d := ⟨fun K => He.ga K "_law_lane_right", "_law_lane_right", "_law_lane_right", defArgs s__law_lane_right, defBody s__law_lane_right, defScope s__law_lane_right⟩) rfl
  g__law_lane_right := He.glo_ok X G (hd_fact c 64 (f := fun K => (He.Fa.glo "_law_lane_right").ok K) rfl)
  a__law_right := He.ga K "_law_right"
  f__law_right := hd_def c 70 (d := ⟨fun K => He.ga K "_law_right", "_law_right", "_law_right", defArgs s__law_right, defBody s__law_right, defScope s__law_right⟩) rfl
  g__law_right := He.glo_ok X G (hd_fact c 65 (f := fun K => (He.Fa.glo "_law_right").ok K) rfl)
  a_law := He.ga K "law"
  f_law := hd_def c 71 (d := ⟨fun K => He.ga K "law", "law", "law", defArgs s_law, defBody s_law, defScope s_law⟩) rfl
  g_law := He.glo_ok X G (hd_fact c 66 (f := fun K => (He.Fa.glo "law").ok K) rfl)
  c_MOST := He.int_ok X G (hd_fact c 67 (f := fun K => (He.Fa.int "MOST" 12).ok K) rfl)
  c_MOST_LANES := He.int_ok X G (hd_fact c 68 (f := fun K => (He.Fa.int "MOST_LANES" 12).ok K) rfl)
  c_MOST_GIVEN := He.int_ok X G (hd_fact c 69 (f := fun K => (He.Fa.int "MOST_GIVEN" 200).ok K) rfl)
  c_MOST_LOTS := He.int_ok X G (hd_fact c 70 (f := fun K => (He.Fa.int "MOST_LOTS" 60).ok K) rfl)
  c_MOST_PARTS := He.int_ok X G (hd_fact c 71 (f := fun K => (He.Fa.int "MOST_PARTS" 60).ok K) rfl)
  n_len := He.free_ok X G (hd_fact c 72 (f := fun K => (He.Fa.free "len").ok K) rfl)
  n_all := He.free_ok X G (hd_fact c 73 (f := fun K => (He.Fa.free "all").ok K) rfl)
  n_any := He.free_ok X G (hd_fact c 74 (f := fun K => (He.Fa.free "any").ok K) rfl)
  n_sum := He.free_ok X G (hd_fact c 75 (f := fun K => (He.Fa.free "sum").ok K) rfl)
  n_max := He.free_ok X G (hd_fact c 76 (f := fun K => (He.Fa.free "max").ok K) rfl)
  n_min := He.free_ok X G (hd_fact c 77 (f := fun K => (He.Fa.free "min").ok K) rfl)
  n_abs := He.free_ok X G (hd_fact c 78 (f := fun K => (He.Fa.free "abs").ok K) rfl)
  n_sorted := He.free_ok X G (hd_fact c 79 (f := fun K => (He.Fa.free "sorted").ok K) rfl)
  n_isinstance := He.free_ok X G (hd_fact c 80 (f := fun K => (He.Fa.free "isinstance").ok K) rfl)
  n_divmod := He.free_ok X G (hd_fact c 81 (f := fun K => (He.Fa.free "divmod").ok K) rfl)
  n_repr := He.free_ok X G (hd_fact c 82 (f := fun K => (He.Fa.free "repr").ok K) rfl)
  n_list := He.free_ok X G (hd_fact c 83 (f := fun K => (He.Fa.free "list").ok K) rfl)
  n_tuple := He.free_ok X G (hd_fact c 84 (f := fun K => (He.Fa.free "tuple").ok K) rfl)
  n_dict := He.free_ok X G (hd_fact c 85 (f := fun K => (He.Fa.free "dict").ok K) rfl)
  n_int := He.free_ok X G (hd_fact c 86 (f := fun K => (He.Fa.free "int").ok K) rfl)
  n_bool := He.free_ok X G (hd_fact c 87 (f := fun K => (He.Fa.free "bool").ok K) rfl)
  n_range := He.free_ok X G (hd_fact c 88 (f := fun K => (He.Fa.free "range").ok K) rfl)
  n_enumerate := He.free_ok X G (hd_fact c 89 (f := fun K => (He.Fa.free "enumerate").ok K) rfl)
  n_zip := He.free_ok X G (hd_fact c 90 (f := fun K => (He.Fa.free "zip").ok K) rfl)
  C_Family := He.ga K "Family"
  g_Family := He.glo_ok X G (hd_fact c 91 (f := fun K => (He.Fa.glo "Family").ok K) rfl)
  isF := ic_ok (He.cls_ok (hd_fact c 92 (f := fun K => (He.Fa.cls "Family").ok K) rfl)) (hd_fact c 93 (f := fun K => icB K (He.ga K "Family")) rfl)
  mkFamily := He.mkr_ok (hd_fact c 94 (f := fun K => (He.Fa.mkr "Family").ok K) rfl)
  C_Map := He.ga K "Map"
  g_Map := He.glo_ok X G (hd_fact c 95 (f := fun K => (He.Fa.glo "Map").ok K) rfl)
  isM := ic_ok (He.cls_ok (hd_fact c 96 (f := fun K => (He.Fa.cls "Map").ok K) rfl)) (hd_fact c 97 (f := fun K => icB K (He.ga K "Map")) rfl)
  mkMap := He.mkr_ok (hd_fact c 98 (f := fun K => (He.Fa.mkr "Map").ok K) rfl)
  naF := He.noat_ok (hd_fact c 99 (f := fun K => (He.Fa.noat "Family" "own_lots").ok K) rfl)
  naM := He.noat_ok (hd_fact c 100 (f := fun K => (He.Fa.noat "Map" "own_families").ok K) rfl)
  m_lots := He.meth_ok (hd_fact c 101 (f := fun K => (He.Fa.meth "Family" "lots").ok K) rfl)
  m_families := He.meth_ok (hd_fact c 102 (f := fun K => (He.Fa.meth "Map" "families").ok K) rfl)
  q_lanes := prA K
  p_lanes := pr_ok (hd_fact c 103 (f := prB) rfl)
  m_getitem := gi_ok (hd_fact c 104 (f := giB) rfl)
  k_most := ml_ok (hd_fact c 105 (f := mlB) rfl)
abbrev hdR : PySem.W.OpenRow := PySem.W.OpenLaw.row PySem.Challenge.rw_lanelots_k83_whole_papers_of_walks
abbrev hdH : PySem.W.Hook := hdHook hdFs hdDs
def hdOb (s : PySem.W.SharedT) : HdA := hdObs hdFs hdDs (He.frG (HandSHeadRun.getT s) (hdAll (HandSHeadRun.getT s)))
theorem hdOb_eq (s : PySem.W.SharedT) : hdOb s = hdH.obs s.abs := by
  have e : HandSHeadRun.getT s = s.abs.heap.get? := funext (HandSHeadRun.getT_eq s)
  unfold hdOb
  rw [e] <;> rfl
def hdL0 : List PySem.Str := [("_wall" : PySem.Str), ("LaneError" : PySem.Str), ("LimitError" : PySem.Str), ("InvalidContent" : PySem.Str), ("InvalidLane" : PySem.Str), ("InvalidNumber" : PySem.Str), ("InvalidMany" : PySem.Str), ("InvalidOther" : PySem.Str), ("InvalidLots" : PySem.Str), ("InvalidFamily" : PySem.Str), ("InvalidFamilies" : PySem.Str), ("InvalidRate" : PySem.Str), ("InvalidPaper" : PySem.Str), ("InvalidWalk" : PySem.Str), ("TooMany" : PySem.Str), ("MOST" : PySem.Str), ("is_integer" : PySem.Str), ("is_count" : PySem.Str), ("is_list" : PySem.Str), ("is_content" : PySem.Str), ("is_lane" : PySem.Str), ("is_lane_basics" : PySem.Str), ("want_content_of" : PySem.Str), ("want_lane" : PySem.Str), ("want_many" : PySem.Str), ("MOST_LANES" : PySem.Str), ("MOST_GIVEN" : PySem.Str), ("is_lane_lots" : PySem.Str), ("is_entry" : PySem.Str), ("is_lot" : PySem.Str), ("want_lots" : PySem.Str), ("is_content_with" : PySem.Str), ("want_content" : PySem.Str), ("lanes_for" : PySem.Str), ("extreme" : PySem.Str)]
def hdL1 : List PySem.Str := [("value_at" : PySem.Str), ("is_ahead" : PySem.Str), ("kept_lots" : PySem.Str), ("joined" : PySem.Str), ("all_joined" : PySem.Str), ("MOST_LOTS" : PySem.Str), ("limited" : PySem.Str), ("value_of" : PySem.Str), ("more_by" : PySem.Str), ("signs_changed" : PySem.Str), ("other_side" : PySem.Str), ("Family" : PySem.Str), ("CoFamily" : PySem.Str), ("fits" : PySem.Str), ("same_lots" : PySem.Str), ("fed_lot" : PySem.Str), ("fed_lots" : PySem.Str), ("turned_lots" : PySem.Str), ("Map" : PySem.Str), ("lots_of" : PySem.Str), ("is_lot_of" : PySem.Str), ("is_step" : PySem.Str), ("are_picks" : PySem.Str), ("picked_steps" : PySem.Str), ("common_divisor" : PySem.Str), ("is_pace" : PySem.Str), ("common_number" : PySem.Str), ("form_of" : PySem.Str), ("is_held" : PySem.Str), ("is_picked" : PySem.Str), ("hold_by" : PySem.Str), ("picks_by" : PySem.Str), ("is_walk" : PySem.Str), ("want_walk" : PySem.Str), ("step_of" : PySem.Str)]
def hdL2 : List PySem.Str := [("plan_from" : PySem.Str), ("answer_from" : PySem.Str), ("MOST_PARTS" : PySem.Str), ("is_rate" : PySem.Str), ("want_rate" : PySem.Str), ("is_part" : PySem.Str), ("are_parts" : PySem.Str), ("is_plan_paper" : PySem.Str), ("is_answer_paper" : PySem.Str), ("ahead_by" : PySem.Str), ("most_behind" : PySem.Str), ("least_behind" : PySem.Str), ("_law_pot" : PySem.Str), ("_law_draw" : PySem.Str), ("_law_pick" : PySem.Str), ("_law_gcd" : PySem.Str), ("_law_classes" : PySem.Str), ("_law_pace" : PySem.Str), ("_law_world" : PySem.Str), ("_law_gap" : PySem.Str), ("_law_lot" : PySem.Str), ("_law_lots" : PySem.Str), ("_law_map" : PySem.Str), ("_law_rows" : PySem.Str), ("_law_told" : PySem.Str), ("_law_round" : PySem.Str), ("_law_world_drawn" : PySem.Str), ("_law_hold" : PySem.Str), ("_law_pick_of" : PySem.Str), ("_law_papers" : PySem.Str), ("_law_bounds_right" : PySem.Str), ("_law_lane_right" : PySem.Str), ("_law_right" : PySem.Str)]
def hdL : List PySem.Str := hdL0 ++ hdL1 ++ hdL2
def hdI : Nat := 113
end Ln
namespace Ln
open PySem PySem.W PySem.Calls PyProof.Rows
theorem hd_run1 (w : World) (os : OsState) : (HandSHeadRun.endF (HandSHeadRun.stepQ (HandSHeadRun.denQ HandSHeadRun.tabQ) hdR.prog w) 60000 hdR.prog w os).map (fun s => (HandSHeadRun.looksF hdR.prog (boot_heap w.params) s.abs, HandSHeadRun.seenQ (PySem.W.view hdR.prog [hdI]) hdL (importedModules hdR.prog.main.body) (fun s => PySem.W.xlAt (PySem.W.view hdR.prog [hdI]) [] s && PySem.W.recOk hdR.toRowW.records s) s.abs)) = some (true, PySem.W.openGood (PySem.W.view hdR.prog [hdI]) hdL) := by
  kernel_rfl
end Ln
namespace Ln
open PySem PySem.Spec PyProof.Rows L2
theorem hd_run2 (w : World) (os : OsState) : (HandSHeadRun.endF (HandSHeadRun.stepQ (HandSHeadRun.denQ HandSHeadRun.tabQ) hdR.prog w) 60000 hdR.prog w os).map hdOb = some (hdVal hdDs) := by
  kernel_rfl
end Ln
/-! Ln6: results that are new and not yet known: dicts and lists that a def gives back and that may be changed. -/
namespace Ln
open PySem PySem.Spec PyProof.Rows L2
section
variable {P : Program} {w : World} {K : PySem.W.Frag} {mg : Str → Option Value} {base : Heap}
abbrev Px := Hp → Hp → V → Prop
abbrev Wx := List Ag → Fr → (Px → Prop) → Prop
def spF (K : PySem.W.Frag) (W : Wx) : Sp := fun vs H Q _ => ∃ (P : Option Addr) (G : Hp) (as : List Ag) (k : Px → Prop), Same G H ∧ (∀ p, P = some p → G p = none ∧ ∃ a b, H p = some (.lst [.int a, .int b])) ∧
  Args K P G vs as ∧ W as ⟨P, wo P H, G⟩ k ∧ ∀ p v G' H', k p → Adv P G H G' H' → (∀ G2 H2, Adv P G' H' G2 H2 → p G2 H2 v) → Q v H'
theorem spF_len {W : Wx} {n : Nat} (h : ∀ as Z k, W as Z k → as.length = n) : ∀ vs H Q E, spF K W vs H Q E → vs.length = n := fun vs H Q E ⟨P, G, as, k, _, _, r, hw, _⟩ => by
  rw [r.length]
  exact h as _ k hw
theorem body_okF {W : Wx} {t : TS} {N : List Str} {vs : List V} {H : Hp} {Q : VK} {E : XK} (h : ∀ (Z : Fr) (as : List Ag) (k : Px → Prop), W as Z k → Es K Z t (startE N as) ⟨fun _ => False, fun _ => False, fun _ => False, fun _ => False, k⟩) (sp : spF K W vs H Q E) :
    t { nx := fun _ H' => Q .non H', rt := Q } (L2.start N vs) H := by
  obtain ⟨Po, G, as, k, e1, e2, r, hw, c⟩ := sp
  refine h ⟨Po, wo Po H, G⟩ as k hw G H _ (entry_ok e1 e2 r) _ ⟨fun e s G' H' q ok sg => q.elim, fun _ _ _ _ z => z.elim, fun _ _ _ _ z => z.elim, fun d v G' H' q hz sg rv => q.elim, fun p v G' H' q hz sg pv => ?_⟩
  exact c p v G' H' q (exit_adv hz sg) pv
variable {Z : Fr} {te tf ta tb td : TE} {env : Env} {k : Dm → Prop}
theorem ef_callF {W : Wx} {t : TA} {E : XK} (h : Ea K Z t env fun as => ∀ Z' : Fr, Z'.P = Z.P → W as Z' fun p => ∃ d, p = ownP K Z' d ∧ k d) : Ef K Z (tCall (spF K W) [] E t) env k := fun G H σ ok Q c => by
  refine h G H σ ok _ fun as vs G1 H1 hb a1 rx => ?_
  rw [List.append_nil]
  have ok1 := ok.adv a1
  refine ⟨Z.P, G1, as, _, ok1.hz.exG, fun p hp => ⟨(ok1.hz.pot p hp).1, (ok1.hz.pot p hp).2.2⟩, rx, hb ⟨Z.P, wo Z.P H1, G1⟩ rfl, fun p v G2 H2 hk a2 pv => ?_⟩
  obtain ⟨d, rfl, kd⟩ := hk
  have ok2 := ok1.adv a2
  obtain ⟨a, rfl, g, f, n, o⟩ := pv G2 H2 ok2.hz.refl
  have f1 : H1 a = none := by
    have f : wo Z.P H1 a = none := f
    rwa [wo_at n] at f
  exact c d a G2 H2 kd (a1.trans a2) (a1.none f1) g o
theorem Ok.own {G H G1 H1 : Hp} {σ : L2.St} {i : Nat} {a : Addr} {d : Dm} (ok : Ok K Z G H σ env) (ok1 : Ok K Z G1 H1 σ env) (hi : i < env.length) (n : H a = none) (g : G1 a = none) (w : OwnAt K G1 H1 a d) : Ok K Z G1 H1 (σ.set i (some (.ref a))) (env.set i (some (.o d))) := by
  have np : Z.P ≠ some a := fun z => by
    obtain ⟨_, _, x, y, e⟩ := ok.hz.pot a z
    rw [n] at e; cases e
  have fa : Z.F a = none := by
    cases e : Z.F a with
    | none => rfl
    | some o => rw [ok.hz.exF a o e] at n; cases n
  have old : ∀ {j : Nat} {cj : Cl}, env[j]? = some (some cj) → cj.isOwn = true → σ[j]? ≠ some (some (.ref a)) := fun {j cj} e o s => by
    obtain ⟨v, w1, w2⟩ := ok.slots j cj e
    rw [w1] at s
    cases s
    cases cj with
    | o d => obtain ⟨b, e1, _, _, _, w⟩ := w2; cases e1; exact w.there n
    | ro d => obtain ⟨b, e1, _, _, w⟩ := w2; cases e1; exact w.there n
    | new b C => obtain ⟨dx, e1, _, _, _, w⟩ := w2; cases e1; rw [n] at w; cases w
    | made b C f d => obtain ⟨dx, y, e1, _, _, _, w, _⟩ := w2; cases e1; rw [n] at w; cases w
    | _ => cases o
  refine ⟨ok1.hz, by simp [ok1.len], fun j cl e => ?_, fun j l cj cl b hne e1 o1 e2 o2 s1 s2 => ?_⟩
  · by_cases hj : i = j
    · subst hj
      rw [List.getElem?_set_self hi] at e
      cases e
      exact ⟨.ref a, by rw [List.getElem?_set_self (by rw [ok1.len]; exact hi)], a, rfl, g, fa, np, w⟩
    · rw [List.getElem?_set_ne hj] at e
      obtain ⟨v, w1, w2⟩ := ok1.slots j cl e
      exact ⟨v, by rw [List.getElem?_set_ne hj]; exact w1, w2⟩
  · have key : ∀ {j : Nat} {cj : Cl}, (env.set i (some (.o d)))[j]? = some (some cj) → cj.isOwn = true → (σ.set i (some (.ref a)))[j]? = some (some (.ref b)) → (i = j ∧ b = a) ∨ (i ≠ j ∧ env[j]? = some (some cj) ∧ σ[j]? = some (some (.ref b))) := fun {j cj} e o s => by
      by_cases hj : i = j
      · subst hj
        rw [List.getElem?_set_self (by rw [ok1.len]; exact hi)] at s
        cases s
        exact .inl ⟨rfl, rfl⟩
      · rw [List.getElem?_set_ne hj] at e s
        exact .inr ⟨hj, e, s⟩
    rcases key e1 o1 s1 with ⟨rfl, rfl⟩ | ⟨n1, x1, y1⟩
    · rcases key e2 o2 s2 with ⟨rfl, _⟩ | ⟨n2, x2, y2⟩
      · exact hne rfl
      · exact old x2 o2 y2
    · rcases key e2 o2 s2 with ⟨rfl, rfl⟩ | ⟨n2, x2, y2⟩
      · exact old x1 o1 y1
      · exact ok.sep j l cj cl b hne x1 o1 x2 o2 y1 y2
/-- x, y = (something new), (a datum) -/
theorem es_parO {D : Wn} {i j : Nat} (hi : i < env.length) (h : Ef K Z te env fun d => Ev K Z tf env fun e => D.nx ((env.set i (some (.o d))).set j (some (.v e)))) : Es K Z (tPar i j (tCons te (tCons tf tNil))) env D := fun G H σ ok D' c => by
  refine h G H σ ok _ fun d a G1 H1 hd a1 n g w => ?_
  have ok1 := ok.adv a1
  refine hd G1 H1 σ ok1 _ fun e v G2 H2 hn a2 rv => ?_
  have ok2 := ok1.adv a2
  refine ⟨_, _, rfl, ?_⟩
  have np : Z.P ≠ some a := fun z => by
    obtain ⟨_, _, x, y, e⟩ := ok.hz.pot a z
    rw [n] at e; cases e
  have ok3 := ok.own (i := i) ok2 hi n (a2.gr a g w.there) (w.adv np a2)
  exact eg_nm (K := K) (Z := Z) (i := j) (d := e) (ke := D.nx) hn G2 H2 _ v ok3 rv D'.nx fun e3 s3 G3 H3 k3 ok4 sg => c.nx e3 s3 G3 H3 k3 ok4 ((a1.gg.trans a2.gg).trans sg)
/-- an own thing is told by a predicate from now on -/
theorem Ok.toX {G H : Hp} {σ : L2.St} {i : Nat} {d : Dm} {p : Px} (ok : Ok K Z G H σ env) (hi : env[i]? = some (some (.o d))) (hp : ∀ G H v, CellOk K Z G H v (.o d) → p G H v) : Ok K Z G H σ (env.set i (some (.x p))) := by
  have hl : i < env.length := (List.getElem?_eq_some_iff.mp hi).1
  refine ⟨ok.hz, by rw [List.length_set]; exact ok.len, fun j cl e => ?_, fun j l cj cl b hne e1 o1 e2 o2 s1 s2 => ?_⟩
  · by_cases hj : i = j
    · subst hj
      rw [List.getElem?_set_self hl] at e
      cases e
      obtain ⟨v, w1, w2⟩ := ok.slots i _ hi
      exact ⟨v, w1, fun G2 H2 a => hp G2 H2 v (CellOk.adv (c := .o d) w2 a)⟩
    · rw [List.getElem?_set_ne hj] at e
      exact ok.slots j cl e
  · have key : ∀ {j : Nat} {cj : Cl}, (env.set i (some (.x p)))[j]? = some (some cj) → cj.isOwn = true → env[j]? = some (some cj) := fun {j cj} e o => by
      by_cases hj : i = j
      · subst hj
        rw [List.getElem?_set_self hl] at e
        cases e
        cases o
      · rw [List.getElem?_set_ne hj] at e; exact e
    exact ok.sep j l cj cl b hne (key e1 o1) o1 (key e2 o2) o2 s1 s2
theorem es_toX {D : Wn} {ts : TS} {i : Nat} {d : Dm} (p : Px) (hi : env[i]? = some (some (.o d))) (hp : ∀ G H v, CellOk K Z G H v (.o d) → p G H v) (h : Es K Z ts (env.set i (some (.x p))) D) : Es K Z ts env D := fun G H σ ok D' c =>
  h G H σ (ok.toX hi hp) D' c
/-- only data and the pot -/
def plainC : Option Cl → Bool
  | none => true
  | some (.v _) => true
  | some .pot => true
  | _ => false
def plainE (env : Env) : Bool := env.all plainC
/-- a dict of picks, that is new together with its lists -/
inductive AnsK (P : Option Addr) (F G H : Hp) : List (Key × V) → List (Int × List Int × Int) → Prop
  | nil : AnsK P F G H [] []
  | cons {part b : Int} {ns : List Int} {t l : Addr} {kvs : List (Key × V)} {ks : List (Int × List Int × Int)} : G t = none → F t = none → P ≠ some t → H t = some (.tup [.ref l, .int b]) → G l = none → F l = none → P ≠ some l → H l = some (.lst (ns.map .int)) →
      AnsK P F G H kvs ks → AnsK P F G H ((.inl part, .ref t) :: kvs) ((part, ns, b) :: ks)
def ansP (Z : Fr) (ks : List (Int × List Int × Int)) : Px := fun G H v => ∃ a kvs, v = .ref a ∧ G a = none ∧ Z.F a = none ∧ Z.P ≠ some a ∧ H a = some (.dK kvs) ∧ AnsK Z.P Z.F G H kvs ks
theorem AnsK.adv {Po : Option Addr} {F G H G' H' : Hp} : ∀ {kvs : List (Key × V)} {ks : List (Int × List Int × Int)}, AnsK Po F G H kvs ks → Adv Po G H G' H' → AnsK Po F G' H' kvs ks
  | _, _, .nil, _ => .nil
  | _, _, .cons g1 f1 n1 e1 g2 f2 n2 e2 r, a => .cons (a.gr _ g1 (by rw [e1]; simp)) f1 n1 (a.hh _ _ n1 e1) (a.gr _ g2 (by rw [e2]; simp)) f2 n2 (a.hh _ _ n2 e2) (r.adv a)
theorem ansP_adv {G H G' H' : Hp} {v : V} {ks : List (Int × List Int × Int)} (h : ansP Z ks G H v) (a : Adv Z.P G H G' H') : ansP Z ks G' H' v := by
  obtain ⟨x, kvs, e, g, f, n, o, r⟩ := h
  exact ⟨x, kvs, e, a.gr _ g (by rw [o]; simp), f, n, a.hh _ _ n o, r.adv a⟩
theorem AnsK.upd {Po : Option Addr} {F G H : Hp} {a : Addr} {o : HO} : ∀ {kvs : List (Key × V)} {ks : List (Int × List Int × Int)}, AnsK Po F G H kvs ks → (∀ xs, H a ≠ some (.tup xs)) → (∀ xs, H a ≠ some (.lst xs)) → AnsK Po F G (L2.upd H a o) kvs ks
  | _, _, .nil, _, _ => .nil
  | _, _, .cons g1 f1 n1 e1 g2 f2 n2 e2 r, h1, h2 => .cons g1 f1 n1 (by rw [upd_ne (fun z => h1 _ (by rw [← z]; exact e1))]; exact e1) g2 f2 n2 (by rw [upd_ne (fun z => h2 _ (by rw [← z]; exact e2))]; exact e2) (r.upd h1 h2)
theorem AnsK.app {Po : Option Addr} {F G H : Hp} : ∀ {kvs more : List (Key × V)} {ks ms : List (Int × List Int × Int)}, AnsK Po F G H kvs ks → AnsK Po F G H more ms → AnsK Po F G H (kvs ++ more) (ks ++ ms)
  | _, _, _, _, .nil, h => h
  | _, _, _, _, .cons g1 f1 n1 e1 g2 f2 n2 e2 r, h => .cons g1 f1 n1 e1 g2 f2 n2 e2 (r.app h)
theorem AnsK.keys {Po : Option Addr} {F G H : Hp} : ∀ {kvs : List (Key × V)} {ks : List (Int × List Int × Int)}, AnsK Po F G H kvs ks → kvs.map (·.1) = ks.map fun q => Sum.inl q.1
  | _, _, .nil => rfl
  | _, _, .cons _ _ _ _ _ _ _ _ r => by simp [AnsK.keys r]
/-- d[part] = (a new list, an int), d a dict of picks -/
theorem es_ansput {D : Wn} {i : Nat} {tp te ty : TE} {ks : List (Int × List Int × Int)} (hi : env[i]? = some (some (.x (ansP Z ks)))) (pl : plainE (env.set i none) = true) (hks : ks.length < 1000)
    (h : Ef K Z tp env fun d => ∃ ns : List Int, d = .lst (ns.map .int) ∧ Ev K Z te env fun e => ∃ b, e = .int b ∧ Ev K Z ty env fun y => ∃ part, y = .int part ∧ (∀ q ∈ ks, q.1 ≠ part) ∧ D.nx (env.set i (some (.x (ansP Z (ks ++ [(part, ns, b)])))))) :
    Es K Z (sDPut (tVar i) ty (tTup (tCons tp (tCons te tNil)))) env D := fun G H σ ok D' c => by
  refine h G H σ ok _ fun d l G1 H1 hd a1 nl gl wl => ?_
  obtain ⟨ns, rfl, hd⟩ := hd
  have ok1 := ok.adv a1
  have npl : Z.P ≠ some l := fun z => by
    obtain ⟨_, _, x, y, e⟩ := ok.hz.pot l z
    rw [nl] at e; cases e
  have fl : Z.F l = none := by
    cases e : Z.F l with
    | none => rfl
    | some o => rw [ok.hz.exF l o e] at nl; cases nl
  refine hd G1 H1 σ ok1 _ fun e v G2 H2 he a2 rv => ?_
  obtain ⟨b, rfl, he⟩ := he
  have ok2 := ok1.adv a2
  refine ⟨by show 2 ≤ sizeLine; decide, fun t nt => ?_⟩
  have a3 := Adv.skip (o := .tup [.ref l, v]) ok2.hz nt
  have ok3 := ok2.adv a3
  obtain ⟨x0, w0, pw⟩ := ok3.slots i _ hi
  refine ⟨x0, w0, ?_⟩
  refine he G2 _ σ ok3 _ fun y vy G4 H4 hy a4 ry => ?_
  obtain ⟨part, rfl, hnew, q⟩ := hy
  have ok4 := ok3.adv a4
  obtain ⟨a, kvs, rfl, ga, fa, na, ea, rk⟩ := pw G4 H4 a4
  have npt : Z.P ≠ some t := fun z => by
    obtain ⟨_, _, x, y, e⟩ := ok2.hz.pot t z
    rw [nt] at e; cases e
  have ft : Z.F t = none := by
    cases e : Z.F t with
    | none => rfl
    | some o => rw [ok2.hz.exF t o e] at nt; cases nt
  have et : H4 t = some (.tup [.ref l, .int b]) := by
    have := a4.hh t _ npt upd_same
    rw [rv.int_inv] at this
    exact this
  have gt : G4 t = none := a4.gr t (ok2.hz.exG.free nt) (by rw [upd_same]; simp)
  obtain ⟨xs, el, rl⟩ := wl
  have rl := rl.ints
  subst rl
  have el3 : H2 l = some (.lst (ns.map V.int)) := a2.hh l _ npl el
  have el4 : H4 l = some (.lst (ns.map V.int)) := a4.hh l _ npl (by rw [upd_ne (ne_of_none el3 nt)]; exact el3)
  have gl4 : G4 l = none := a4.gr l (a2.gr l gl (by rw [el]; simp)) (by rw [upd_ne (ne_of_none el3 nt), el3]; simp)
  have hkv : ∀ p ∈ kvs, p.1 ≠ Sum.inl part := fun p hp e => by
    have : p.1 ∈ kvs.map (·.1) := List.mem_map_of_mem hp
    rw [rk.keys, e] at this
    obtain ⟨q, hq, e2⟩ := List.mem_map.mp this
    exact hnew q hq (Sum.inl.inj e2)
  have hlen : kvs.length = ks.length := by
    have := congrArg List.length rk.keys
    simpa using this
  refine ⟨a, _, rfl, .inl ⟨kvs, .inl part, ea, ry.int_inv, Nat.lt_trans (by rw [hlen]; exact hks) (by decide), rfl⟩, ?_⟩
  rw [putK_new hkv]
  have sg : Same G G4 := ((a1.gg.trans a2.gg).trans a3.gg).trans a4.gg
  have hlE : i < env.length := (List.getElem?_eq_some_iff.mp hi).1
  refine c.nx _ σ G4 _ q ⟨⟨fun r o e => ?_, fun r o e => ?_, ok4.hz.g0, ok4.hz.fg, fun p hp => ?_⟩, by rw [List.length_set]; exact ok4.len, fun j cl e => ?_, fun j m cj cm bb hne e1 o1 e2 o2 s1 s2 => ?_⟩ sg
  · rw [upd_ne (ne_of_none e ga)]; exact ok4.hz.exG r o e
  · rw [upd_ne (ne_of_none e fa)]; exact ok4.hz.exF r o e
  · obtain ⟨h1, h2, x, y, e⟩ := ok4.hz.pot p hp
    exact ⟨h1, h2, x, y, by rw [upd_ne (fun z : p = a => na (by rw [← z]; exact hp))]; exact e⟩
  · by_cases hj : i = j
    · subst hj
      rw [List.getElem?_set_self hlE] at e
      cases e
      have now : ansP Z (ks ++ [(part, ns, b)]) G4 (L2.upd H4 a (.dK (kvs ++ [(.inl part, .ref t)]))) (.ref a) := by
        refine ⟨a, _, rfl, ga, fa, na, upd_same, ?_⟩
        exact ((rk.app (.cons gt ft npt et gl4 fl npl el4 .nil))).upd (fun xs z => by rw [ea] at z; cases z) (fun xs z => by rw [ea] at z; cases z)
      exact ⟨.ref a, w0, fun G5 H5 a5 => ansP_adv now a5⟩
    · rw [List.getElem?_set_ne hj] at e
      obtain ⟨v', s1, s2⟩ := ok4.slots j cl e
      refine ⟨v', s1, ?_⟩
      have pc : plainC (some cl) = true := List.all_eq_true.mp pl _ (List.mem_of_getElem? (by rw [List.getElem?_set_ne hj]; exact e))
      cases cl with
      | v d => exact s2
      | pot => exact s2
      | _ => exact Bool.noConfusion (show false = true from pc)
  · have pl' : ∀ {j : Nat} {cj : Cl}, (env.set i (some (.x (ansP Z (ks ++ [(part, ns, b)])))))[j]? = some (some cj) → cj.isOwn = true → False := fun {j cj} e o => by
      by_cases hj : i = j
      · subst hj
        rw [List.getElem?_set_self hlE] at e
        cases e
        cases o
      · rw [List.getElem?_set_ne hj] at e
        have pc : plainC (some cj) = true := List.all_eq_true.mp pl _ (List.mem_of_getElem? (by rw [List.getElem?_set_ne hj]; exact e))
        cases cj <;> first | (exact Bool.noConfusion (show false = true from o); done) | exact Bool.noConfusion (show false = true from pc)
    exact pl' e1 o1
end
end Ln
/-! Ln7: walks over a dict, the dict held still meanwhile. -/
namespace Ln
open PySem PySem.Spec PyProof.Rows L2
mutual
/-- no dict in it -/
def Dm.nd : Dm → Bool
  | .lst ds => ndL ds
  | .tup ds => ndL ds
  | .ftp ds => ndL ds
  | .obj _ _ d => d.nd
  | .dic _ => false
  | .non => true
  | .bl _ => true
  | .int _ => true
  | .str _ => true
  | .fn _ => true
  | .scr _ => true
  | .ty _ => true
def ndL : List Dm → Bool
  | [] => true
  | d :: ds => d.nd && ndL ds
end
def Dm.flat : Dm → Bool
  | .non => true
  | .bl _ => true
  | .int _ => true
  | .str _ => true
  | _ => false
theorem Rp.flat {K : PySem.W.Frag} {G G' : Hp} {v : V} {d : Dm} (f : d.flat = true) (r : Rp K G v d) : Rp K G' v d := by
  cases d <;> first | exact Bool.noConfusion (show false = true from f) | skip
  · rw [r.non_inv]; exact .non
  · rw [r.bl_inv]; exact .bl _
  · rw [r.int_inv]; exact .int _
  · rw [r.str_inv]; exact .str _
theorem RpL.flat {K : PySem.W.Frag} {G G' : Hp} : ∀ {ds : List Dm} {vs : List V}, (ds.all Dm.flat) = true → RpL K G vs ds → RpL K G' vs ds
  | [], _, _, .nil => .nil
  | d :: ds, _, f, .cons a b => by
    rw [List.all_cons, Bool.and_eq_true] at f
    exact .cons (a.flat f.1) (RpL.flat f.2 b)
section
variable {K : PySem.W.Frag} {G : Hp} {a : Addr} {kvs : List (Key × V)} {o : HO}
mutual
theorem Rp.cut (e : G a = some (.dK kvs)) : ∀ {d : Dm} {v : V}, d.nd = true → Rp K G v d → Rp K (L2.upd G a o) v d
  | .non, _, _, r => by rw [r.non_inv]; exact .non
  | .bl _, _, _, r => by rw [r.bl_inv]; exact .bl _
  | .int _, _, _, r => by rw [r.int_inv]; exact .int _
  | .str _, _, _, r => by rw [r.str_inv]; exact .str _
  | .fn _, _, _, r => by rw [r.fn_inv]; exact .fn _
  | .ty _, _, _, r => by rw [r.ty_inv]; exact .ty _
  | .lst ds, _, f, r => by
    obtain ⟨b, xs, rfl, h, rl⟩ := r.lst_inv
    exact .lst (by rw [upd_ne (fun z => by rw [z, e] at h; cases h)]; exact h) (RpL.cut e (by rw [Dm.nd] at f; exact f) rl)
  | .tup ds, _, f, r => by
    obtain ⟨b, xs, rfl, h, rl⟩ := r.tup_inv
    exact .tup (by rw [upd_ne (fun z => by rw [z, e] at h; cases h)]; exact h) (RpL.cut e (by rw [Dm.nd] at f; exact f) rl)
  | .ftp ds, _, f, r => by
    obtain ⟨b, ob, xs, rfl, h, n, rl⟩ := r.ftp_inv
    exact .ftp (by rw [upd_ne (fun z => by rw [z, e] at h; cases h)]; exact h) n (RpL.cut e (by rw [Dm.nd] at f; exact f) rl)
  | .obj C fl d, _, f, r => by
    obtain ⟨b, dx, w, rfl, h, rd⟩ := r.obj_inv
    exact .obj (by rw [upd_ne (fun z => by rw [z, e] at h; cases h)]; exact h) (Rp.cut e (by rw [Dm.nd] at f; exact f) rd)
  | .scr ns, _, _, r => by
    obtain ⟨b, rfl, h⟩ := r.scr_inv
    refine .scr ?_
    rcases h with (h | ⟨ob, h⟩) | h
    · exact .inl (.inl (by rw [upd_ne (fun z => by rw [z, e] at h; cases h)]; exact h))
    · exact .inl (.inr ⟨ob, by rw [upd_ne (fun z => by rw [z, e] at h; cases h)]; exact h⟩)
    · exact .inr h
  | .dic _, _, f, _ => by rw [Dm.nd] at f; cases f
theorem RpL.cut (e : G a = some (.dK kvs)) : ∀ {ds : List Dm} {vs : List V}, ndL ds = true → RpL K G vs ds → RpL K (L2.upd G a o) vs ds
  | [], _, _, r => by
    cases r
    exact .nil
  | d :: ds, _, f, r => by
    rw [ndL, Bool.and_eq_true] at f
    cases r with
    | cons h t => exact .cons (Rp.cut e f.1 h) (RpL.cut e f.2 t)
end
theorem RpK.cut (e : G a = some (.dK kvs)) : ∀ {ks : List (Key × Dm)} {vs : List (Key × V)}, (∀ p ∈ ks, p.2.nd = true) → RpK K G vs ks → RpK K (L2.upd G a o) vs ks
  | _, _, _, .nil => .nil
  | _, _, f, .cons h t => .cons (h.cut e (f _ (List.mem_cons_self ..))) (RpK.cut e (fun p hp => f p (List.mem_cons_of_mem _ hp)) t)
end
/-- a dict that is walked over, held still -/
def frzP (K : PySem.W.Frag) (ks : List (Key × Dm)) : Px := fun G _ v => ∃ a od kvs, v = .ref a ∧ G a = some (.frz od (.dK kvs)) ∧ RpK K G kvs ks
def lockC : Option Cl → Option Cl
  | some (.v d) => if d.nd = true then some (.v d) else none
  | some .pot => some .pot
  | _ => none
def lockE (K : PySem.W.Frag) (env : Env) (i : Nat) (ks : List (Key × Dm)) : Env := (env.map lockC).set i (some (.x (frzP K ks)))
section
variable {K : PySem.W.Frag} {Z : Fr} {te ta tb tc td : TE} {env : Env} {k : Dm → Prop}
theorem lock_ok {G H : Hp} {σ : L2.St} {i : Nat} {ks : List (Key × Dm)} {a : Addr} {kvs : List (Key × V)} {od : Obj} (ok : Ok K Z G H σ env) (hi : env[i]? = some (some (.v (.dic ks)))) (hs : σ[i]? = some (some (.ref a))) (e : G a = some (.dK kvs)) (r : RpK K G kvs ks) (hn : ∀ p ∈ ks, p.2.nd = true) :
    Ok K ⟨Z.P, wo Z.P (L2.upd H a (.frz od (.dK kvs))), L2.upd G a (.frz od (.dK kvs))⟩ (L2.upd G a (.frz od (.dK kvs))) (L2.upd H a (.frz od (.dK kvs))) σ (lockE K env i ks) := by
  have np : ∀ p, Z.P = some p → p ≠ a := fun p hp z => by
    have := (ok.hz.pot p hp).1
    rw [z, e] at this; cases this
  have hl : i < env.length := (List.getElem?_eq_some_iff.mp hi).1
  have sg : Same (L2.upd G a (.frz od (.dK kvs))) (L2.upd H a (.frz od (.dK kvs))) := fun q o z => by
    by_cases hq : q = a
    · subst hq; rw [upd_same] at z ⊢; exact z
    · rw [upd_ne hq] at z ⊢; exact ok.hz.exG q o z
  refine ⟨⟨sg, fun q o z => ?_, same_refl, fun q _ h => h, fun p hp => ⟨?_, wo_pot hp, ?_⟩⟩, by unfold lockE; rw [List.length_set, List.length_map]; exact ok.len, fun j cl ej => ?_, fun j l cj cl b hne e1 o1 e2 o2 s1 s2 => ?_⟩
  · have z : wo Z.P _ q = some o := z
    by_cases hp : Z.P = some q
    · rw [wo_pot hp] at z; cases z
    · rwa [wo_at hp] at z
  · rw [upd_ne (np p hp)]; exact (ok.hz.pot p hp).1
  · obtain ⟨_, _, x, y, z⟩ := ok.hz.pot p hp
    exact ⟨x, y, by rw [upd_ne (np p hp)]; exact z⟩
  · unfold lockE at ej
    by_cases hj : i = j
    · subst hj
      rw [List.getElem?_set_self (by rw [List.length_map]; exact hl)] at ej
      cases ej
      exact ⟨.ref a, hs, fun G2 H2 ad => ⟨a, od, kvs, rfl, ad.gg _ _ upd_same, (r.cut e hn).mono ad.gg⟩⟩
    · rw [List.getElem?_set_ne hj, List.getElem?_map] at ej
      cases hc : env[j]? with
      | none => rw [hc] at ej; cases ej
      | some oc =>
        rw [hc] at ej
        have ej : lockC oc = some cl := Option.some.inj ej
        cases oc with
        | none => cases ej
        | some c0 =>
          obtain ⟨v, w1, w2⟩ := ok.slots j c0 hc
          cases c0 with
          | v d =>
            by_cases hd : d.nd = true
            · have ej : (if d.nd = true then some (Cl.v d) else none) = some cl := ej
              rw [if_pos hd] at ej
              cases ej
              exact ⟨v, w1, Rp.cut e hd w2⟩
            · have ej : (if d.nd = true then some (Cl.v d) else none) = some cl := ej
              rw [if_neg hd] at ej
              cases ej
          | pot => cases ej; exact ⟨v, w1, w2⟩
          | _ => cases ej
  · have no : ∀ {j : Nat} {cj : Cl}, (lockE K env i ks)[j]? = some (some cj) → cj.isOwn = true → False := fun {j cj} ej oj => by
      unfold lockE at ej
      by_cases hj : i = j
      · subst hj
        rw [List.getElem?_set_self (by rw [List.length_map]; exact hl)] at ej
        cases ej; cases oj
      · rw [List.getElem?_set_ne hj, List.getElem?_map] at ej
        cases hc : env[j]? with
        | none => rw [hc] at ej; cases ej
        | some oc =>
          rw [hc] at ej
          have ej : lockC oc = some cj := Option.some.inj ej
          cases oc with
          | none => cases ej
          | some c0 =>
            cases c0 with
            | v d =>
              have ej : (if d.nd = true then some (Cl.v d) else none) = some cj := ej
              split at ej
              · cases ej; cases oj
              · cases ej
            | pot => cases ej; cases oj
            | _ => cases ej
    exact no e1 o1
/-- behind the lock all is as it was, but for what is new -/
theorem lock_adv {G H G2 H2 : Hp} {a : Addr} {u w : HO} (hz : Hz Z G H) (e : G a = some u) (ad : Adv Z.P (L2.upd G a w) (L2.upd H a w) G2 H2) : Adv Z.P G H G (L2.upd H2 a u) := by
  have np : Z.P ≠ some a := fun z => by
    have := (hz.pot a z).1
    rw [e] at this; cases this
  have eh := hz.exG _ _ e
  refine ⟨same_refl, fun q o n z => ?_, fun q h _ => h, fun q o z => ?_, fun p hp => ?_⟩
  · by_cases hq : q = a
    · subst hq; rw [upd_same]; rw [eh] at z; exact z
    · rw [upd_ne hq]
      exact ad.hh q o n (by rw [upd_ne hq]; exact z)
  · by_cases hq : q = a
    · subst hq; rw [upd_same]; rw [e] at z; exact z
    · rw [upd_ne hq]
      exact ad.gh q o (ad.gg q o (by rw [upd_ne hq]; exact z))
  · obtain ⟨x, y, z⟩ := ad.pot p hp
    exact ⟨x, y, by rw [upd_ne (fun w : p = a => np (by rw [← w]; exact hp))]; exact z⟩
/-- a new list of flat things, made while the dict stands still -/
theorem ef_lock {i : Nat} {ks : List (Key × Dm)} (hi : env[i]? = some (some (.v (.dic ks)))) (hn : ∀ p ∈ ks, p.2.nd = true)
    (h : ∀ Z' : Fr, Z'.P = Z.P → Ef K Z' te (lockE K env i ks) fun d => ∃ ys, d = .lst ys ∧ ys.all Dm.flat = true ∧ k d) : Ef K Z (tLockE te) env k := fun G H σ ok Q c => by
  obtain ⟨v, hs, rv⟩ := ok.slots i _ hi
  obtain ⟨a, kvs, rfl, e, r⟩ := (show Rp K G v (.dic ks) from rv).dic_inv
  have eh := ok.hz.exG _ _ e
  refine ⟨a, .dK kvs, eh, trivial, fun od => ?_⟩
  refine h ⟨Z.P, wo Z.P (L2.upd H a (.frz od (.dK kvs))), L2.upd G a (.frz od (.dK kvs))⟩ rfl _ _ σ (lock_ok ok hi hs e r hn) _ fun d D G2 H2 hd ad nD gD w => ?_
  obtain ⟨ys, rfl, fl, kd⟩ := hd
  have nDa : D ≠ a := fun z => by rw [z, upd_same] at nD; cases nD
  rw [upd_ne nDa] at nD
  have np : Z.P ≠ some a := fun z => by
    have := (ok.hz.pot a z).1
    rw [e] at this; cases this
  refine ⟨ad.hh a _ np upd_same, ?_⟩
  obtain ⟨xs, e1, r1⟩ := w
  exact c _ D G _ kd (lock_adv ok.hz e ad) nD (ok.hz.exG.free nD) ⟨xs, by rw [upd_ne nDa]; exact e1, RpL.flat fl r1⟩
/-- a loop while the dict stands still: behind it no slot's content is known -/
theorem es_lock {ts : TS} {D : Wn} {i : Nat} {ks : List (Key × Dm)} (hi : env[i]? = some (some (.v (.dic ks)))) (hn : ∀ p ∈ ks, p.2.nd = true)
    (h : ∀ Z' : Fr, Z'.P = Z.P → Es K Z' ts (lockE K env i ks) ⟨fun e2 => D.nx (List.replicate e2.length none), fun d => d.flat = true ∧ D.rt d, fun _ => False, fun _ => False, fun _ => False⟩) : Es K Z (tLock ts) env D := fun G H σ ok D' c => by
  obtain ⟨v, hs, rv⟩ := ok.slots i _ hi
  obtain ⟨a, kvs, rfl, e, r⟩ := (show Rp K G v (.dic ks) from rv).dic_inv
  have eh := ok.hz.exG _ _ e
  have np : Z.P ≠ some a := fun z => by
    have := (ok.hz.pot a z).1
    rw [e] at this; cases this
  refine ⟨a, .dK kvs, eh, trivial, fun od => ?_⟩
  have okl := lock_ok (od := od) ok hi hs e r hn
  refine h ⟨Z.P, wo Z.P (L2.upd H a (.frz od (.dK kvs))), L2.upd G a (.frz od (.dK kvs))⟩ rfl _ _ σ okl _ ⟨fun e2 s2 G2 H2 q ok2 sg => ?_, fun _ _ _ _ z => z.elim, fun _ _ _ _ z => z.elim, fun d v G2 H2 q hz sg rv => ?_, fun p v G2 H2 q => q.elim⟩
  · have ad : Adv Z.P _ _ G2 H2 := exit_adv ok2.hz sg
    refine ⟨ad.hh a _ np upd_same, ?_⟩
    have ad2 := lock_adv ok.hz e ad
    refine c.nx _ s2 G _ q ⟨ok.hz.adv ad2, ?_, fun j cl z => ?_, fun j l cj cl b hne e1 => ?_⟩ same_refl
    · rw [ok2.len, List.length_replicate]
    · rw [List.getElem?_replicate] at z; split at z <;> cases z
    · rw [List.getElem?_replicate] at e1; split at e1 <;> cases e1
  · have ad : Adv Z.P _ _ G2 H2 := exit_adv hz sg
    refine ⟨ad.hh a _ np upd_same, ?_⟩
    have ad2 := lock_adv ok.hz e ad
    exact c.rt d v G _ q.2 (ok.hz.adv ad2) same_refl (rv.flat q.1)
theorem ed_frz {i : Nat} {ks : List (Key × Dm)} {kd : List (Key × Dm) → Prop} (h : env[i]? = some (some (.x (frzP K ks)))) (q : kd ks) : Ed K Z (tVar i) env kd := fun G H σ ok Q c => by
  obtain ⟨x, w0, w⟩ := ok.slots i _ h
  obtain ⟨a, od, kvs, rfl, e, r⟩ := w G H ok.hz.refl
  exact ⟨_, w0, c ks a G H q ok.hz.refl ⟨kvs, r, .inl (.inr ⟨od, e⟩)⟩⟩
theorem RpK.get' {G : Hp} : ∀ {kvs : List (Key × V)} {ks : List (Key × Dm)} {i : Nat} {p : Key × Dm}, RpK K G kvs ks → ks[i]? = some p → ∃ v, kvs[i]? = some (p.1, v) ∧ Rp K G v p.2
  | _, _, _, _, .nil, e => by simp at e
  | _, _, 0, _, .cons h r, e => by simp at e; subst e; exact ⟨_, rfl, h⟩
  | _, _, i + 1, _, .cons h r, e => by simp at e; simpa using RpK.get' r e
theorem keyD_rp {G : Hp} (k : Key) : Rp K G (kV k) (keyD k) := by cases k <;> constructor
theorem ei_keys {i : Nat} {ks : List (Key × Dm)} {ki : List Dm → Prop} (h : env[i]? = some (some (.x (frzP K ks)))) (q : ki (ks.map fun p => keyD p.1)) : Ei K Z (iKeys (tVar i)) env ki := fun G H σ ok R c => by
  obtain ⟨x, w0, w⟩ := ok.slots i _ h
  obtain ⟨a, od, kvs, rfl, e, r⟩ := w G H ok.hz.refl
  refine ⟨_, w0, a, od, rfl, .inl ⟨kvs, ok.hz.exG _ _ e, c _ _ G H q ok.hz.refl fun Z2 G2 H2 eP sg hz j => ?_⟩⟩
  have e2 := hz.exG _ _ (sg _ _ e)
  have r2 := r.mono sg
  rw [List.length_map]
  refine ⟨fun d hd => ?_, fun hl => ⟨e2, by rw [r2.length]; exact hl⟩⟩
  rw [List.getElem?_map] at hd
  obtain ⟨p, hp, rfl⟩ := Option.map_eq_some_iff.mp hd
  obtain ⟨v, hv, rv⟩ := r2.get' hp
  refine ⟨⟨e2, (List.getElem?_eq_some_iff.mp hv).1⟩, fun x H' y => ?_⟩
  obtain ⟨rfl, k', v', e3, rfl⟩ := y
  rw [hv] at e3
  cases e3
  exact ⟨G2, eP ▸ hz.refl, keyD_rp _⟩
theorem ei_items {i : Nat} {ks : List (Key × Dm)} {ki : List Dm → Prop} (h : env[i]? = some (some (.x (frzP K ks)))) (q : ki (ks.map fun p => .tup [keyD p.1, p.2])) : Ei K Z (iItems (tVar i)) env ki := fun G H σ ok R c => by
  obtain ⟨x, w0, w⟩ := ok.slots i _ h
  obtain ⟨a, od, kvs, rfl, e, r⟩ := w G H ok.hz.refl
  refine ⟨_, w0, a, od, kvs, rfl, ok.hz.exG _ _ e, c _ _ G H q ok.hz.refl fun Z2 G2 H2 eP sg hz j => ?_⟩
  have e2 := hz.exG _ _ (sg _ _ e)
  have r2 := r.mono sg
  rw [List.length_map]
  refine ⟨fun d hd => ?_, fun hl => ⟨e2, by rw [r2.length]; exact hl⟩⟩
  rw [List.getElem?_map] at hd
  obtain ⟨p, hp, rfl⟩ := Option.map_eq_some_iff.mp hd
  obtain ⟨v, hv, rv⟩ := r2.get' hp
  refine ⟨⟨e2, (List.getElem?_eq_some_iff.mp hv).1⟩, fun x H' y => ?_⟩
  obtain ⟨T, k', v', e3, rfl, nT, rfl⟩ := y
  rw [hv] at e3
  cases e3
  have a4 := Adv.new (o := .tup [kV p.1, v]) hz nT
  exact ⟨_, eP ▸ a4, .tup upd_same (.cons (keyD_rp _) (.cons (rv.mono a4.gg) .nil))⟩
/-- x = a new list of flat things, made while the dict stands still -/
theorem es_lockSet {D : Wn} {i j : Nat} {ks : List (Key × Dm)} (hi : env[i]? = some (some (.v (.dic ks)))) (hn : ∀ p ∈ ks, p.2.nd = true)
    (h : ∀ Z' : Fr, Z'.P = Z.P → Ef K Z' te (lockE K env i ks) fun d => ∃ ys, d = .lst ys ∧ ys.all Dm.flat = true ∧ D.nx (env.set j (some (.v (.lst ys))))) : Es K Z (tLock (tAsg te (gName j))) env D := fun G H σ ok D' c => by
  obtain ⟨v, hs, rv⟩ := ok.slots i _ hi
  obtain ⟨a, kvs, rfl, e, r⟩ := (show Rp K G v (.dic ks) from rv).dic_inv
  have eh := ok.hz.exG _ _ e
  refine ⟨a, .dK kvs, eh, trivial, fun od => ?_⟩
  refine h ⟨Z.P, wo Z.P (L2.upd H a (.frz od (.dK kvs))), L2.upd G a (.frz od (.dK kvs))⟩ rfl _ _ σ (lock_ok ok hi hs e r hn) _ fun d D2 G2 H2 hd ad nD gD w => ?_
  obtain ⟨ys, rfl, fl, q⟩ := hd
  have nDa : D2 ≠ a := fun z => by rw [z, upd_same] at nD; cases nD
  rw [upd_ne nDa] at nD
  have np : Z.P ≠ some a := fun z => by
    have := (ok.hz.pot a z).1
    rw [e] at this; cases this
  refine ⟨ad.hh a _ np upd_same, ?_⟩
  obtain ⟨xs, e1, r1⟩ := w
  have a1 := lock_adv ok.hz e ad
  have e2 : (L2.upd H2 a (.dK kvs)) D2 = some (.lst xs) := by rw [upd_ne nDa]; exact e1
  have gn := ok.hz.exG.free nD
  have a2 := a1.freeze nD gn e2
  have ok2 := ok.adv a2
  have rl : Rp K (L2.upd G D2 (.lst xs)) (.ref D2) (.lst ys) := .lst upd_same (RpL.flat fl r1)
  exact eg_nm (K := K) (Z := Z) (i := j) (ke := D.nx) q _ _ σ _ ok2 rl D'.nx fun e3 s3 G3 H3 k3 ok3 sg => c.nx e3 s3 G3 H3 k3 ok3 (a2.gg.trans sg)
/-- a def that a slot holds -/
theorem ev_callA {i : Nat} {S : Addr → Option Sp} {t : TA} {f : Addr} {W : Wf} (h : env[i]? = some (some (.v (.fn f)))) (hS : S f = some (spD K W)) (ha : Ea K Z t env fun as => W as k) : Ev K Z (tCallA i S t) env k := fun G H σ ok Q c => by
  obtain ⟨v, e1, e2⟩ := ok.slots i _ h
  refine ⟨f, _, by rw [e1, (show Rp K G v (.fn f) from e2).fn_inv], hS, ?_⟩
  refine ha G H σ ok _ fun as vs G1 H1 hb a1 rx => ?_
  exact spD_of (ok.adv a1).hz rx hb fun d v G' H' kd a2 rv => c d v G' H' kd (a1.trans a2) rv
theorem hu65 {n : Nat} {A : Around} (hr : Room n A) : A.units + 65 < cLine := by have := hr.un; omega
theorem op_inDK {X : Cx} (hu : X.A.units + 65 < cLine) (h : X.K = K) : OpR X (compareOp .In) (rInD K) := h ▸ op_inD hu
end
end Ln
/-! Ln8: three names at once. -/
namespace Ln
open PySem PySem.Spec PyProof.Rows L2
section
variable {K : PySem.W.Frag} {Z : Fr} {te tf tg ta tb td : TE} {env : Env} {k : Dm → Prop}
theorem es_par3 {D : Wn} {i j l : Nat} {t : TA} (h : Ea K Z t env fun as => ∃ d e f, as = [.v d, .v e, .v f] ∧ D.nx (((env.set i (some (.v d))).set j (some (.v e))).set l (some (.v f)))) : Es K Z (tPar3 i j l t) env D := fun G H σ ok D' c => by
  refine h G H σ ok _ fun as vs G1 H1 hd a1 rv => ?_
  obtain ⟨d, e, f, rfl, q⟩ := hd
  cases rv with
  | cons r1 r2 =>
    cases r2 with
    | cons r2 r3 =>
      cases r3 with
      | cons r3 r4 =>
        cases r4
        refine ⟨_, _, _, rfl, ?_⟩
        refine eg_nm (K := K) (Z := Z) (i := i) (d := d) (env := env) (ke := fun e1 => Eg K Z (gName j) e e1 fun e2 => Eg K Z (gName l) f e2 D.nx) (eg_nm (eg_nm q)) G1 H1 σ _ (ok.adv a1) r1 (fun s2 H2 => D'.nx ((s2.set j (some _)).set l (some _)) H2) fun e1 s1 G2 H2 k2 ok2 sg2 => ?_
        refine k2 G2 H2 s1 _ ok2 (Rp.mono sg2 r2) (fun s3 H3 => D'.nx (s3.set l (some _)) H3) fun e3 s3 G3 H3 k3 ok3 sg3 => ?_
        exact k3 G3 H3 s3 _ ok3 (Rp.mono sg3 (Rp.mono sg2 r3)) D'.nx fun e4 s4 G4 H4 k4 ok4 sg4 => c.nx e4 s4 G4 H4 k4 ok4 (((a1.gg.trans sg2).trans sg3).trans sg4)
theorem Ok.setv {G H : Hp} {σ : L2.St} {i : Nat} {v : V} {d : Dm} (ok : Ok K Z G H σ env) (rv : Rp K G v d) : Ok K Z G H (σ.set i (some v)) (env.set i (some (.v d))) := by
  refine ⟨ok.hz, by simp [ok.len], fun j cl e => ?_, fun a b ca cb ad hne e1 o1 e2 o2 s1 s2 => ?_⟩
  · by_cases hj : i = j
    · subst hj
      have hi : i < env.length := by
        have := (List.getElem?_eq_some_iff.mp e).1
        simpa using this
      rw [List.getElem?_set_self (by simpa using hi)] at e
      cases e
      exact ⟨v, by rw [List.getElem?_set_self (by rw [ok.len]; exact hi)], rv⟩
    · rw [List.getElem?_set_ne hj] at e
      obtain ⟨w, e1, e2⟩ := ok.slots j cl e
      exact ⟨w, by rw [List.getElem?_set_ne hj]; exact e1, e2⟩
  · have key : ∀ {j : Nat} {cj : Cl}, (env.set i (some (.v d)))[j]? = some (some cj) → cj.isOwn = true → i ≠ j ∧ env[j]? = some (some cj) := fun {j cj} e o => by
      by_cases hj : i = j
      · subst hj
        have hi : i < env.length := by
          have := (List.getElem?_eq_some_iff.mp e).1
          simpa using this
        rw [List.getElem?_set_self (by simpa using hi)] at e
        cases e
        cases o
      · rw [List.getElem?_set_ne hj] at e
        exact ⟨hj, e⟩
    obtain ⟨n1, e1⟩ := key e1 o1
    obtain ⟨n2, e2⟩ := key e2 o2
    rw [List.getElem?_set_ne n1] at s1
    rw [List.getElem?_set_ne n2] at s2
    exact ok.sep a b ca cb ad hne e1 o1 e2 o2 s1 s2
theorem OwnAt.set_none {G H : Hp} {a : Addr} {d : Dm} (h : OwnAt K G H a d) : H a ≠ none := h.there
/-- x, y, z = (a datum), (something new), (something new) -/
theorem es_par3O {D : Wn} {i j l : Nat} (hj : j < env.length) (hl : l < env.length) (h : Ev K Z te env fun d => Ef K Z tf env fun e => Ef K Z tg env fun f => D.nx (((env.set i (some (.v d))).set j (some (.o e))).set l (some (.o f)))) :
    Es K Z (tPar3 i j l (tCons te (tCons tf (tCons tg tNil)))) env D := fun G H σ ok D' c => by
  refine h G H σ ok _ fun d v G1 H1 hd a1 rv => ?_
  have ok1 := ok.adv a1
  refine hd G1 H1 σ ok1 _ fun e x G2 H2 he a2 nx gx wx => ?_
  have ok2 := ok1.adv a2
  refine he G2 H2 σ ok2 _ fun f y G3 H3 hf a3 ny gy wy => ?_
  have ok3 := ok2.adv a3
  refine ⟨_, _, _, rfl, ?_⟩
  have npx : Z.P ≠ some x := fun z => by
    obtain ⟨_, _, u, v, e⟩ := ok1.hz.pot x z
    rw [nx] at e; cases e
  have wx3 : OwnAt K G3 H3 x e := wx.adv npx a3
  have gx3 : G3 x = none := a3.gr x gx wx.there
  have rv3 : Rp K G3 v d := (rv.mono a2.gg).mono a3.gg
  have k1 := ok1.setv (i := i) rv
  have k2 := ok2.setv (i := i) (rv.mono a2.gg)
  have k3 := ok3.setv (i := i) rv3
  have m2 := k1.own k2 (i := j) (by rw [List.length_set]; exact hj) nx gx wx
  have m3 := k1.own k3 (i := j) (by rw [List.length_set]; exact hj) nx gx3 wx3
  have n3 := m2.own m3 (i := l) (by rw [List.length_set, List.length_set]; exact hl) ny gy wy
  exact c.nx _ _ G3 H3 hf n3 ((a1.gg.trans a2.gg).trans a3.gg)
end
end Ln
/-! Ln9: defs that want to know of the guards; repr; the law's call. -/
namespace Ln
open PySem PySem.Spec PyProof.Rows L2
/-! ### a def's promise where no repr is under way -/
abbrev cxN : CXT := fun _ _ _ _ _ _ => False
structure FnG (P : Program) (w : World) (K : PySem.W.Frag) (mg : Str → Option Value) (base : Heap) (k : Nat) (f : Addr) (fd : FuncData) (ps : List Str) (sp : Sp) : Prop where
  ln : ∀ vs H Q E, sp vs H Q E → vs.length = ps.length
  go : ∀ (A : Around) (es : List PySem.Env) (s : Shared) (H : Hp) (args : PySem.Args) (us : List Value) (vs : List V) (Q : VK) (E : XK), Room k A → A.guards = some [] → Env0 P w K mg base A es s H →
    BindsTo s fd args (ps.zip us) → Vals vs us → sp vs H Q E → codeAny (model P w) A (.call (.ref f) args) (CR cxN es P w H s Q E) s
structure HeldG (P : Program) (w : World) (K : PySem.W.Frag) (mg : Str → Option Value) (base : Heap) (k : Nat) (f : Addr) (sp : Sp) : Prop where
  ex : ∃ (fd : FuncData) (ps : List Str), FnG P w K mg base k f fd ps sp ∧ PySem.W.keepIn K (.ref f) = true ∧ Binds K fd ps []
section
variable {P : Program} {w : World} {K : PySem.W.Frag} {mg : Str → Option Value} {base : Heap}
theorem fnG_of {x qual : Str} {params : Arguments} {body : List Stmt} {scope : Scope} {f : Addr} {fd : FuncData} {N ps : List Str} {k : Nat} {sp : Sp} (F : FunD K x qual params body scope [] [] f fd) (S : FnScope N ps scope)
    (hl : ∀ vs H Q E, sp vs H Q E → vs.length = ps.length)
    (hb : ∀ (cdv : Value) (A : Around) (es : List PySem.Env) (s : Shared) (H : Hp) (vs : List V) (Q : VK) (E : XK), Room k (A.deeper (envOfC qual scope s.heap.objs.size f cdv)) → A.guards = some [] → sp vs H Q E →
      ∃ t, PSs (cxOf cxN P w K mg base N qual scope f cdv A es s H E) body t ∧ t { nx := fun _ H' => Q .non H', rt := Q } (L2.start N vs) H) : FnG P w K mg base (k + 1) f fd ps sp := by
  obtain ⟨oc, od, dV, kV, doc, pm, an, cdv, ct, osl, rfl, lk, hcd, _, _⟩ := F.ex
  refine ⟨hl, fun A es s H args us vs Q E room hg e0 bt rv hsp => ?_⟩
  have inK : K.In s.heap := e0.mod.kin.keeps fun b o e => (e0.bs b o e).1
  have noL : s.heap.NoLimit := e0.mod.nolimit.keeps fun b o e => (e0.bs b o e).1
  have kinds : ∀ y ∈ ps.zip us, scope.names.lookup y.1 = some .local ∨ (scope.names.lookup y.1 = some .cell ∧ ((cellsFrom (s.heap.objs.size + 1) scope.names []).lookup y.1).isSome = true) := by
    rintro ⟨n, v⟩ hy
    rcases S.par n (List.of_mem_zip hy).1 with z | z
    · exact Or.inl z
    · exact Or.inr ⟨z, PySem.W.cellsFrom_some _ _ _ (Or.inl z)⟩
  refine codeAny_call_function room.depth (inK _ _ lk) rfl S.co S.gen rfl (PySem.W.codeRec_of inK hcd) (bt _ _ _ _ ?_)
  refine wpAny_newFunctionEnv_cells S.kind kinds fun env he s1 inc => ?_
  subst he
  refine ⟨noL.keeps inc.toInCall.keep, codeAny_func ?_⟩
  obtain ⟨t, ht, ht2⟩ := hb cdv A es s H vs Q E (room.deeper _) hg hsp
  have inv : Inv (cxOf cxN P w K mg base N qual scope f cdv A es s H E) [] (L2.start N vs) H s1 := inv_start S room.hd e0 (hl _ _ _ _ hsp) rv inc
  refine wpAny_mono (ht.run [] s1 (L2.start N vs) H _ inv ht2) (fun fl s' hs => ?_) fun e s' hs => hs
  cases fl with
  | ret u =>
    obtain ⟨v, σ', H', J, ru, q⟩ := hs
    exact ⟨v, H', J.os, J.bare, J.base, J.hok, ru, q⟩
  | next =>
    obtain ⟨σ', H', J, q⟩ := hs
    exact ⟨V.non, H', J.os, J.bare, J.base, J.hok, rfl, q⟩
  | brk =>
    obtain ⟨_, _, _, z⟩ := hs
    exact z.elim
  | cont =>
    obtain ⟨_, _, _, z⟩ := hs
    exact z.elim
theorem heldG_of {x qual : Str} {params : Arguments} {body : List Stmt} {scope : Scope} {f : Addr} {fd : FuncData} {N ps : List Str} {n : Nat} {sp : Sp} (F : FunD K x qual params body scope [] [] f fd) (S : FnScope N ps scope)
    (hl : ∀ vs H Q E, sp vs H Q E → vs.length = ps.length)
    (hb : ∀ (kV doc pm : Value) (an : Option Addr) (cdv ct : Value) (us : List Value), us.length = ps.length → bindArgs (PySem.W.fnOf x qual params body scope .none kV doc pm an cdv ct) ⟨us, []⟩ = pure (ps.zip us))
    (hbody : ∀ (cdv : Value) (A : Around) (outer : List PySem.Env) (s : Shared) (H : Hp) (E : XK), Room n (A.deeper (envOfC qual scope s.heap.objs.size f cdv)) → A.guards = some [] →
      ∃ t, PSs (cxOf cxN P w K mg base N qual scope f cdv A outer s H E).nox body t ∧ ∀ vs Q, sp vs H Q E → t { nx := fun _ H' => Q .non H', rt := Q } (L2.start N vs) H) : HeldG P w K mg base (n + 1) f sp := by
  refine ⟨fd, ps, fnG_of F S hl fun cdv A outer s H vs Q E hr hg hsp => ?_, F.kp, F.bindsN hb⟩
  obtain ⟨t, h1, h2⟩ := hbody cdv A outer s H E hr hg
  exact ⟨t, h1.nox, h2 vs Q hsp⟩
theorem FnG.mono {j k : Nat} {f : Addr} {fd : FuncData} {ps : List Str} {sp : Sp} (F : FnG P w K mg base j f fd ps sp) (h : j ≤ k) : FnG P w K mg base k f fd ps sp :=
  ⟨F.ln, fun A es s H args us vs Q E hr => F.go A es s H args us vs Q E (hr.mono h)⟩
theorem heldG_mono {j k : Nat} {f : Addr} {sp : Sp} (A : HeldG P w K mg base j f sp) (h : j ≤ k) : HeldG P w K mg base k f sp := by
  obtain ⟨fd, ps, F, a, b⟩ := A.ex
  exact ⟨fd, ps, F.mono h, a, b⟩
end
section
variable {X : Cx} {n : Nat} {f : Addr} {sp : Sp} {E : XK} {x m : Str} {p pos apos : Pos} {e o i : Expr} {es : List Expr} {t : TA} {ta to ti : TE} {C : Addr}
theorem pe_hG (A : HeldG X.prog X.w X.K X.mg X.base n f sp) (hr : Room n X.A) (hgd : X.A.guards = some []) (hg : Gl X x) (hm : X.mg x = some (.ref f)) (ha : PA X (e :: es) t) (hdb : (x == ("__debug__" : Str)) = false := by decide)
    (he : starEach (e :: es) X.env = (false, eval e X.env) :: starEach es X.env := by rfl) (hpl : (backTo pos (starEach es X.env)).any (·.1) = false := by rfl) : PE X (.Call (.Name x p) (e :: es) [] pos) (tCall sp [] E0 t) := by
  obtain ⟨fd, ps, F, hk, hb⟩ := A.ex
  refine ⟨fun pins s σ H Q I h => ?_⟩
  refine wpAny_Call_Name_kw (ld_glob I hg hm ?_ hdb)
  refine PySem.W.callWith_K (h₀ := X.base) I.ok.mod.kin hk (thn (ha.run pos pins s σ H _ I h) fun us s1 ⟨vs, H1, I1, r, q⟩ => ⟨I1.kIn, ?_⟩) he hpl
  have q : sp (vs ++ []) H1 Q E0 := q
  rw [List.append_nil] at q
  have hl : (us ++ []).length = ps.length := by rw [List.append_nil, ← r.length]; exact F.ln _ _ _ _ q
  have bt := hb s1 us I1.kIn hl
  rw [List.append_nil] at bt
  refine wpAny_call (codeAny_mono (F.go X.A X.stack s1 H1 ⟨us, []⟩ us vs Q E0 hr hgd I1.env0 bt r q) fun r s' hq => ?_)
  cases r with
  | error er => exact False.elim hq
  | ok fl =>
    cases fl with
    | ret u => exact I1.after hq
    | next => exact False.elim hq
    | brk => exact False.elim hq
    | cont => exact False.elim hq
end
/-! ### f(k = v, ..), keywords alone -/
section
variable {X : Cx} {n : Nat} {f : Addr} {sp : Sp} {x : Str} {p pos : Pos} {kws : List Keyword} {tk : TA} {ks ps : List Str} {fd : FuncData} {g : List Value → List Value} {gV : List V → List V}
/-- how keywords alone are bound -/
structure KwB (K : PySem.W.Frag) (fd : FuncData) (ps ks : List Str) (g : List Value → List Value) (gV : List V → List V) : Prop where
  to : ∀ (s : Shared) (ws : List Value), K.In s.heap → (g ws).length = ps.length → BindsTo s fd ⟨[], ks.zip ws⟩ (ps.zip (g ws))
  rel : ∀ {zs : List V} {ws : List Value}, Vals zs ws → Vals (gV zs) (g ws)
def tCallW (sp : Sp) (gV : List V → List V) (tk : TA) : TE := fun σ H Q => tk σ H fun zs H2 => sp (gV zs) H2 Q E0
theorem pe_callW (F : FnOk X.prog X.w X.K X.mg X.base cxN n f fd ps sp) (hr : Room n X.A) (hg : Gl X x) (hm : X.mg x = some (.ref f)) (hk : PySem.W.keepIn X.K (.ref f) = true) (hb : KwB X.K fd ps ks g gV)
    (hkw : PK X kws tk) (hall : (backToKw pos (keywordEach kws X.env)).all (·.1.isSome) = true := by rfl) (hks : (backToKw pos (keywordEach kws X.env)).filterMap (·.1) = ks := by rfl)
    (hdb : (x == ("__debug__" : Str)) = false := by decide) (hpl : ((backTo pos (starEach [] X.env)).any (·.1) || (backToKw pos (keywordEach kws X.env)).any (·.1.isNone)) = false := by rfl) :
    PE X (.Call (.Name x p) [] kws pos) (tCallW sp gV tk) := by
  refine ⟨fun pins s σ H Q I h => ?_⟩
  refine wpAny_Call_Name_kw (ld_glob I hg hm ?_ hdb)
  refine PySem.W.callWith_KW0 (h₀ := X.base) I.ok.mod.kin hk hall ?_ hpl
  refine thn (hkw.run pos pins s σ H _ I h) fun ws s2 ⟨zs, H2, I2, rz, q2⟩ => ⟨I2.kIn, ?_⟩
  rw [hks]
  have r2 := hb.rel rz
  have hl : (g ws).length = ps.length := by rw [← r2.length]; exact F.len _ _ _ _ q2
  refine wpAny_call (codeAny_mono (F.run X.A X.stack s2 H2 ⟨[], ks.zip ws⟩ (g ws) (gV zs) Q E0 hr I2.env0 (hb.to s2 ws I2.kIn hl) r2 q2) fun r s' hq => ?_)
  cases r with
  | error er => exact False.elim hq
  | ok fl =>
    cases fl with
    | ret u => exact I2.after hq
    | next => exact False.elim hq
    | brk => exact False.elim hq
    | cont => exact False.elim hq
end
/-! ### repr of what holds no dict -/
def rRepr (K : PySem.W.Frag) : List V → Hp → VK → Prop := fun vs H Q => ∃ (a : Addr) (d : PyData), vs = [.ref a] ∧ Dp K H (.ref a) d ∧ d.hasDict = false ∧ d.showable = true ∧ d.depth ≤ 60 ∧ d.shown.length ≤ sizeLine ∧ Q (.str d.shown) H
theorem cr_repr {X : Cx} {n : Nat} (hr : Room n X.A) (hg : X.A.guards = some []) : CallR X (.builtin "repr") (rRepr X.K) := by
  intro pins s σ H xs us Q I r h
  obtain ⟨a, d, rfl, hd, hn, hs, dep, hz, q⟩ := h
  obtain ⟨u, rfl, ru⟩ := vals1 r
  obtain rfl : u = Value.ref a := ru
  obtain ⟨as, rd⟩ := Dp.reads I d _ _ hd rfl
  refine repr_of_reads' rd hs (fun z => by rw [hn] at z; cases z) hg (by have := hr.un; omega) (fun _ _ e => e) (fun h' u tk kp => ?_) hz
  exact ⟨.str d.shown, H, I.kept (t' := tk) kp, ⟨u, rfl⟩, q⟩
theorem cr_reprK {X : Cx} {n : Nat} {K : PySem.W.Frag} (h : X.K = K) (hr : Room n X.A) (hg : X.A.guards = some []) : CallR X (.builtin "repr") (rRepr K) := h ▸ cr_repr hr hg
/-! ### a def whose function object is named -/
section
variable {P : Program} {w : World} {K : PySem.W.Frag} {mg : Str → Option Value} {base : Heap}
theorem fnOk_of {x qual : Str} {params : Arguments} {body : List Stmt} {scope : Scope} {f : Addr} {fd : FuncData} {N ps : List Str} {n : Nat} {sp : Sp} (F : FunD K x qual params body scope [] [] f fd) (S : FnScope N ps scope)
    (hl : ∀ vs H Q E, sp vs H Q E → vs.length = ps.length)
    (hbody : ∀ (cdv : Value) (A : Around) (outer : List PySem.Env) (s : Shared) (H : Hp) (E : XK), Room n (A.deeper (envOfC qual scope s.heap.objs.size f cdv)) →
      ∃ t, PSs (cxOf cxN P w K mg base N qual scope f cdv A outer s H E).nox body t ∧ ∀ vs Q, sp vs H Q E → t { nx := fun _ H' => Q .non H', rt := Q } (L2.start N vs) H) : FnOk P w K mg base cxN (n + 1) f fd ps sp := by
  refine F.ok S hl fun cdv A outer s H vs Q E hr hsp => ?_
  obtain ⟨t, h1, h2⟩ := hbody cdv A outer s H E hr
  exact ⟨t, h1.nox, h2 vs Q hsp⟩
end
/-- three parameters, named from the last to the first -/
def rotV {α : Type} : List α → List α
  | [x, y, z] => [z, y, x]
  | l => l
theorem kwb_rot_of {K : PySem.W.Frag} {x qual : Str} {params : Arguments} {body : List Stmt} {scope : Scope} {f : Addr} {fd : FuncData} {ps ks : List Str} (F : FunD K x qual params body scope [] [] f fd) (hp : ps.length = 3)
    (h : ∀ (kV doc pm : Value) (an : Option Addr) (cdv ct a b c : Value), bindArgs (PySem.W.fnOf x qual params body scope .none kV doc pm an cdv ct) ⟨[], ks.zip [a, b, c]⟩ = pure (ps.zip [c, b, a])) : KwB K fd ps ks rotV rotV := by
  obtain ⟨oc, od, dV, kV, doc, pm, an, cdv, ct, osl, rfl, lk, hcd, hD, hK⟩ := F.ex
  refine ⟨fun s ws X hl => ?_, fun {zs ws} r => ?_⟩
  · rcases hD with ⟨_, rfl⟩ | ⟨e, _⟩
    · rw [hp] at hl
      match ws, hl with
      | [a, b, c], _ => exact .of_eq (h kV doc pm an cdv ct a b c)
    · exact absurd rfl e
  · cases r with
    | nil => exact .nil
    | cons r1 r =>
      cases r with
      | nil => exact .cons r1 .nil
      | cons r2 r =>
        cases r with
        | nil => exact .cons r1 (.cons r2 .nil)
        | cons r3 r =>
          cases r with
          | nil => exact .cons r3 (.cons r2 (.cons r1 .nil))
          | cons r4 r => exact .cons r1 (.cons r2 (.cons r3 (.cons r4 r)))
end Ln
/-! Ln10: what is one's own lent to a call, given back; answers that are new; a new pot; dict.update. -/
namespace Ln
open PySem PySem.Spec PyProof.Rows L2 LiI
section
variable {K : PySem.W.Frag} {Z : Fr} {te tf tg ta tb td : TE} {env : Env} {k : Dm → Prop}
/-! ### lent -/
/-- for one step more is known: env1 -/
theorem et_reset {tt : TT} {env1 : Env} {kb : Bool → Prop} (hp : ∀ G H σ, Ok K Z G H σ env → ∃ G1, Ok K Z G1 H σ env1 ∧ Same G G1) (h : Et K Z tt env1 kb) : Et K Z tt env kb := fun G H σ ok Q c => by
  obtain ⟨G1, ok1, sg⟩ := hp G H σ ok
  refine h G1 H σ ok1 Q fun b G' H' hb a => c b G H' hb ⟨same_refl, a.hh, fun q e _ => e, (sg.trans a.gg).trans a.gh, a.pot⟩
/-- the same of an expression that gives something flat -/
theorem ev_reset {env1 : Env} (hp : ∀ G H σ, Ok K Z G H σ env → ∃ G1, Ok K Z G1 H σ env1 ∧ Same G G1) (h : Ev K Z te env1 fun d => d.flat = true ∧ k d) : Ev K Z te env k := fun G H σ ok Q c => by
  obtain ⟨G1, ok1, sg⟩ := hp G H σ ok
  exact h G1 H σ ok1 Q fun d v G' H' ⟨fl, kd⟩ a rv => c d v G H' kd ⟨same_refl, a.hh, fun q e _ => e, (sg.trans a.gg).trans a.gh, a.pot⟩ (rv.flat fl)
def lentG (G H : Hp) (S : List Addr) : Hp := fun q => if q ∈ S then H q else G q
theorem lent_in {G H : Hp} {S : List Addr} {q : Addr} (h : q ∈ S) : lentG G H S q = H q := if_pos h
theorem lent_out {G H : Hp} {S : List Addr} {q : Addr} (h : q ∉ S) : lentG G H S q = G q := if_neg h
theorem lent_same {G H : Hp} {S : List Addr} (e : Same G H) : Same G (lentG G H S) := fun q o h => by
  by_cases z : q ∈ S
  · rw [lent_in z]; exact e q o h
  · rw [lent_out z]; exact h
theorem lent_below {G H : Hp} {S : List Addr} (e : Same G H) : Same (lentG G H S) H := fun q o h => by
  by_cases z : q ∈ S
  · rw [lent_in z] at h; exact h
  · rw [lent_out z] at h; exact e q o h
theorem lent_hz {G H : Hp} {S : List Addr} (hz : Hz Z G H) (hS : ∀ a ∈ S, Z.F a = none ∧ Z.P ≠ some a) : Hz Z (lentG G H S) H := by
  refine ⟨lent_below hz.exG, hz.exF, hz.g0.trans (lent_same hz.exG), fun q h1 h2 => ?_, fun p hp => ?_⟩
  · rw [lent_out (fun z => h1 (hS q z).1)]; exact hz.fg q h1 h2
  · obtain ⟨h1, h2, x, y, e⟩ := hz.pot p hp
    exact ⟨by rw [lent_out (fun z => (hS p z).2 hp)]; exact h1, h2, x, y, e⟩
/-- what stays while something is lent -/
def keepC : Option Cl → Option Cl
  | some (.v d) => some (.v d)
  | some .pot => some .pot
  | _ => none
theorem ok_lent {G H : Hp} {σ : L2.St} {S : List Addr} {env1 : Env} (ok : Ok K Z G H σ env) (hS : ∀ a ∈ S, Z.F a = none ∧ Z.P ≠ some a) (hl : env1.length = env.length)
    (hc : ∀ (i : Nat) (c : Cl), env1[i]? = some (some c) → (env.map keepC)[i]? = some (some c) ∨ ∃ (d : Dm) (v : V), c = Cl.v d ∧ σ[i]? = some (some v) ∧ Rp K (lentG G H S) v d) : Ok K Z (lentG G H S) H σ env1 := by
  have old : ∀ {i : Nat} {c : Cl}, (env.map keepC)[i]? = some (some c) → env[i]? = some (some c) ∧ ((∃ d, c = .v d) ∨ c = .pot) := fun {i c} e => by
    rw [List.getElem?_map] at e
    cases hh : env[i]? with
    | none => rw [hh] at e; cases e
    | some oc =>
      rw [hh] at e
      have e : keepC oc = some c := Option.some.inj e
      cases oc with
      | none => cases e
      | some c0 =>
        cases c0 with
        | v d => cases e; exact ⟨rfl, .inl ⟨d, rfl⟩⟩
        | pot => cases e; exact ⟨rfl, .inr rfl⟩
        | _ => cases e
  have pl : ∀ {i : Nat} {c : Cl}, env1[i]? = some (some c) → c.isOwn = true → False := fun {i c} e o => by
    rcases hc i c e with h | ⟨d, v, rfl, _⟩
    · rcases (old h).2 with ⟨d, rfl⟩ | rfl <;> cases o
    · cases o
  refine ⟨lent_hz ok.hz hS, by rw [hl]; exact ok.len, fun i c e => ?_, fun i j ci cj a _ e1 o1 => (pl e1 o1).elim⟩
  rcases hc i c e with h | ⟨d, v, rfl, s, r⟩
  · obtain ⟨h1, h2⟩ := old h
    obtain ⟨v, s1, s2⟩ := ok.slots i c h1
    refine ⟨v, s1, ?_⟩
    rcases h2 with ⟨d, rfl⟩ | rfl
    · exact Rp.mono (lent_same ok.hz.exG) s2
    · exact s2
  · exact ⟨v, s, r⟩
/-! ### a dict of picks as a datum -/
def ansD (ks : List (Int × List Int × Int)) : List (Key × Dm) := ks.map fun q => (.inl q.1, .tup [.lst (q.2.1.map .int), .int q.2.2])
theorem AnsK.lent {Po : Option Addr} {F G H : Hp} : ∀ {kvs : List (Key × V)} {ks : List (Int × List Int × Int)}, AnsK Po F G H kvs ks →
    ∃ S : List Addr, (∀ a ∈ S, G a = none ∧ F a = none ∧ Po ≠ some a ∧ ((∃ xs, H a = some (.tup xs)) ∨ ∃ xs, H a = some (.lst xs))) ∧ ∀ G1 : Hp, (∀ a ∈ S, G1 a = H a) → RpK K G1 kvs (ansD ks)
  | _, _, .nil => ⟨[], by simp, fun _ _ => .nil⟩
  | _, _, .cons (b := b) (ns := ns) (t := t) (l := l) g1 f1 n1 e1 g2 f2 n2 e2 r => by
    obtain ⟨S, h1, h2⟩ := AnsK.lent r
    refine ⟨t :: l :: S, fun a ha => ?_, fun G1 hG => ?_⟩
    · rcases List.mem_cons.mp ha with rfl | ha
      · exact ⟨g1, f1, n1, .inl ⟨_, e1⟩⟩
      · rcases List.mem_cons.mp ha with rfl | ha
        · exact ⟨g2, f2, n2, .inr ⟨_, e2⟩⟩
        · exact h1 a ha
    · have et : G1 t = some (.tup [.ref l, .int b]) := by rw [hG t (by simp)]; exact e1
      have el : G1 l = some (.lst (ns.map V.int)) := by rw [hG l (by simp)]; exact e2
      exact .cons (.tup et (.cons (.lst el .of_ints) (.cons (.int _) .nil))) (h2 G1 fun a ha => hG a (by simp [ha]))
/-- a dict that is at a, and one's own -/
def atP (K : PySem.W.Frag) (Z : Fr) (a : Addr) (d : Dm) : Px := fun G H v => v = .ref a ∧ G a = none ∧ Z.F a = none ∧ Z.P ≠ some a ∧ OwnAt K G H a d
theorem atP_adv {G H G' H' : Hp} {v : V} {a : Addr} {d : Dm} (h : atP K Z a d G H v) (x : Adv Z.P G H G' H') : atP K Z a d G' H' v := by
  obtain ⟨e, g, f, n, w⟩ := h
  exact ⟨e, x.gr a g w.there, f, n, w.adv n x⟩
/-- the frame with one address more -/
def frA (Z : Fr) (a : Addr) : Fr := ⟨Z.P, L2.upd Z.F a (.dK []), Z.G0⟩
theorem frA_F {a b : Addr} (h : (frA Z a).F b = none) : Z.F b = none ∧ b ≠ a := by
  have h : L2.upd Z.F a (.dK []) b = none := h
  by_cases z : b = a
  · subst z; rw [upd_same] at h; cases h
  · rw [upd_ne z] at h; exact ⟨h, z⟩
/-- what a callee that is new says, in the frame of the caller -/
theorem AnsK.back {Po : Option Addr} {F F' G H : Hp} (hF : ∀ b, F b = none → Po ≠ some b → F' b = none) : ∀ {kvs : List (Key × V)} {ks : List (Int × List Int × Int)}, AnsK Po F G H kvs ks → AnsK Po F' G H kvs ks
  | _, _, .nil => .nil
  | _, _, .cons g1 f1 n1 e1 g2 f2 n2 e2 r => .cons g1 (hF _ f1 n1) n1 e1 g2 (hF _ f2 n2) n2 e2 (r.back hF)
theorem ansP_back {Z' : Fr} {G H : Hp} {v : V} {ks : List (Int × List Int × Int)} (hP : Z'.P = Z.P) (hF : ∀ b, Z'.F b = none → Z.P ≠ some b → Z.F b = none) (h : ansP Z' ks G H v) : ansP Z ks G H v := by
  obtain ⟨a, kvs, e, g, f, n, o, r⟩ := h
  rw [hP] at n r
  exact ⟨a, kvs, e, g, hF a f n, n, o, r.back hF⟩
theorem Ok.setx {G H : Hp} {σ : L2.St} {i : Nat} {v : V} {p : Px} (ok : Ok K Z G H σ env) (hp : ∀ G2 H2, Adv Z.P G H G2 H2 → p G2 H2 v) : Ok K Z G H (σ.set i (some v)) (env.set i (some (.x p))) := by
  refine ⟨ok.hz, by simp [ok.len], fun j cl e => ?_, fun a b ca cb ad hne e1 o1 e2 o2 s1 s2 => ?_⟩
  · by_cases hj : i = j
    · subst hj
      have hi : i < env.length := by
        have := (List.getElem?_eq_some_iff.mp e).1
        simpa using this
      rw [List.getElem?_set_self (by simpa using hi)] at e
      cases e
      exact ⟨v, by rw [List.getElem?_set_self (by rw [ok.len]; exact hi)], hp⟩
    · rw [List.getElem?_set_ne hj] at e
      obtain ⟨w, e1, e2⟩ := ok.slots j cl e
      exact ⟨w, by rw [List.getElem?_set_ne hj]; exact e1, e2⟩
  · have key : ∀ {j : Nat} {cj : Cl}, (env.set i (some (.x p)))[j]? = some (some cj) → cj.isOwn = true → i ≠ j ∧ env[j]? = some (some cj) := fun {j cj} e o => by
      by_cases hj : i = j
      · subst hj
        have hi : i < env.length := by
          have := (List.getElem?_eq_some_iff.mp e).1
          simpa using this
        rw [List.getElem?_set_self (by simpa using hi)] at e
        cases e
        cases o
      · rw [List.getElem?_set_ne hj] at e
        exact ⟨hj, e⟩
    obtain ⟨n1, e1⟩ := key e1 o1
    obtain ⟨n2, e2⟩ := key e2 o2
    rw [List.getElem?_set_ne n1] at s1
    rw [List.getElem?_set_ne n2] at s2
    exact ok.sep a b ca cb ad hne e1 o1 e2 o2 s1 s2
theorem Ok.newx {G H : Hp} {σ : L2.St} (ok : Ok K Z G H σ env) {a : Addr} (n : H a = none) : Z.F a = none ∧ Z.P ≠ some a := by
  refine ⟨?_, fun z => ?_⟩
  · cases e : Z.F a with
    | none => rfl
    | some o => rw [ok.hz.exF a o e] at n; cases n
  · obtain ⟨_, _, x, y, e⟩ := ok.hz.pot a z
    rw [n] at e; cases e
/-- x, y = (something new), f(..) that gives a dict of picks -/
theorem es_parOX {D : Wn} {i j : Nat} {W : Wx} {t : TA} {E : XK} (h : Ef K Z te env fun d => Ea K Z t env fun as => ∀ Z' : Fr, Z'.P = Z.P → W as Z' fun p => ∃ ks, p = ansP Z' ks ∧
      ∀ a, D.nx ((env.set i (some (.x (atP K Z a d)))).set j (some (.x (ansP (frA Z a) ks))))) : Es K Z (tPar i j (tCons te (tCons (tCall (spF K W) [] E t) tNil))) env D := fun G H σ ok D' c => by
  refine h G H σ ok _ fun d a G1 H1 hd a1 n g w => ?_
  have ok1 := ok.adv a1
  refine hd G1 H1 σ ok1 _ fun as vs G2 H2 hw a2 rs => ?_
  have ok2 := ok1.adv a2
  rw [List.append_nil]
  obtain ⟨fa, na⟩ := ok.newx n
  refine ⟨Z.P, G2, as, _, ok2.hz.exG, fun p hp => ⟨(ok2.hz.pot p hp).1, (ok2.hz.pot p hp).2.2⟩, rs, hw ⟨Z.P, wo Z.P H2, G2⟩ rfl, fun p v G3 H3 hk a3 pv => ?_⟩
  obtain ⟨ks, rfl, q⟩ := hk
  have ok3 := ok2.adv a3
  refine ⟨_, _, rfl, ?_⟩
  have w2 := w.adv na a2
  have at3 : atP K Z a d G3 H3 (.ref a) := ⟨rfl, a3.gr a (a2.gr a g w.there) w2.there, fa, na, w2.adv na a3⟩
  have m1 := ok3.setx (i := i) (v := .ref a) (p := atP K Z a d) fun G4 H4 a4 => atP_adv at3 a4
  have hF : ∀ b, (wo Z.P H2) b = none → Z.P ≠ some b → (frA Z a).F b = none := fun b e nb => by
    rw [wo_at nb] at e
    have nba : b ≠ a := fun z => w2.there (by rw [← z]; exact e)
    show L2.upd Z.F a (.dK []) b = none
    rw [upd_ne nba]
    exact (ok2.newx e).1
  have m2 := m1.setx (i := j) (v := v) (p := ansP (frA Z a) ks) fun G4 H4 a4 => ansP_back (Z := frA Z a) (Z' := ⟨Z.P, wo Z.P H2, G2⟩) rfl hF (pv G4 H4 a4)
  exact c.nx _ _ G3 H3 (q a) m2 ((a1.gg.trans a2.gg).trans a3.gg)
/-- both lent -/
def lend2 (env : Env) (i j : Nat) (d : Dm) (ks : List (Int × List Int × Int)) : Env := ((env.map keepC).set i (some (.v d))).set j (some (.v (.dic (ansD ks))))
theorem ok_lend2 {i j : Nat} {a : Addr} {d : Dm} {ks : List (Int × List Int × Int)} (hij : i ≠ j) (hi : env[i]? = some (some (.x (atP K Z a d)))) (hj : env[j]? = some (some (.x (ansP (frA Z a) ks)))) :
    ∀ G H σ, Ok K Z G H σ env → ∃ G1, Ok K Z G1 H σ (lend2 env i j d ks) ∧ Same G G1 := fun G H σ ok => by
  obtain ⟨v, s1, p1⟩ := ok.slots i _ hi
  obtain ⟨rfl, g1, f1, n1, w1⟩ := p1 G H ok.hz.refl
  obtain ⟨u, s2, p2⟩ := ok.slots j _ hj
  obtain ⟨b, kvs, rfl, g2, f2, n2, e2, r2⟩ := p2 G H ok.hz.refl
  obtain ⟨f2', nba⟩ := frA_F f2
  obtain ⟨S, hS, hR⟩ := AnsK.lent (K := K) r2
  have hl1 : i < env.length := (List.getElem?_eq_some_iff.mp hi).1
  have hl2 : j < env.length := (List.getElem?_eq_some_iff.mp hj).1
  refine ⟨lentG G H (a :: b :: S), ok_lent ok (fun q hq => ?_) (by unfold lend2; simp) (fun l c e => ?_), lent_same ok.hz.exG⟩
  · rcases List.mem_cons.mp hq with rfl | hq
    · exact ⟨f1, n1⟩
    · rcases List.mem_cons.mp hq with rfl | hq
      · exact ⟨f2', n2⟩
      · exact ⟨(frA_F (hS q hq).2.1).1, (hS q hq).2.2.1⟩
  · unfold lend2 at e
    by_cases hlj : j = l
    · subst hlj
      rw [List.getElem?_set_self (by simpa using hl2)] at e
      cases e
      refine .inr ⟨_, _, rfl, s2, .dic (by rw [lent_in (by simp)]; exact e2) (hR _ fun q hq => lent_in (by simp [hq]))⟩
    · rw [List.getElem?_set_ne hlj] at e
      by_cases hli : i = l
      · subst hli
        rw [List.getElem?_set_self (by simpa using hl1)] at e
        cases e
        refine .inr ⟨_, _, rfl, s1, ?_⟩
        cases d with
        | lst ds =>
          obtain ⟨xs, e, r⟩ := w1
          exact .lst (by rw [lent_in (by simp)]; exact e) (r.mono (lent_same ok.hz.exG))
        | dic ds =>
          obtain ⟨xs, e, r⟩ := w1
          exact .dic (by rw [lent_in (by simp)]; exact e) (r.mono (lent_same ok.hz.exG))
        | _ => exact (show False from w1).elim
      · rw [List.getElem?_set_ne hli] at e
        exact .inl e
theorem et_lend2 {tt : TT} {kb : Bool → Prop} {i j : Nat} {a : Addr} {d : Dm} {ks : List (Int × List Int × Int)} (hij : i ≠ j) (hi : env[i]? = some (some (.x (atP K Z a d)))) (hj : env[j]? = some (some (.x (ansP (frA Z a) ks)))) (h : Et K Z tt (lend2 env i j d ks) kb) : Et K Z tt env kb :=
  et_reset (ok_lend2 hij hi hj) h
/-! ### a dict of picks that is new: a datum at once -/
theorem frz_ans {G H G2 H2 : Hp} {v : V} {ks : List (Int × List Int × Int)} {G0 : Hp} (hz : Hz Z G H) (a2 : Adv Z.P G H G2 H2) (h : ansP ⟨Z.P, wo Z.P H, G0⟩ ks G2 H2 v) : ∃ G3, Adv Z.P G H G3 H2 ∧ Rp K G3 v (.dic (ansD ks)) := by
  obtain ⟨b, kvs, rfl, g2, f2, n2, e2, r2⟩ := h
  obtain ⟨S, hS, hR⟩ := AnsK.lent (K := K) r2
  have new : ∀ q ∈ b :: S, H q = none := fun q hq => by
    rcases List.mem_cons.mp hq with rfl | hq
    · have f2 : wo Z.P H q = none := f2
      rwa [wo_at n2] at f2
    · obtain ⟨_, f, n, _⟩ := hS q hq
      have f : wo Z.P H q = none := f
      rwa [wo_at n] at f
  refine ⟨lentG G2 H2 (b :: S), ⟨a2.gg.trans (lent_same a2.gh), a2.hh, fun q e1 e2 => ?_, lent_below a2.gh, a2.pot⟩, .dic (by rw [lent_in (by simp)]; exact e2) (hR _ fun q hq => lent_in (by simp [hq]))⟩
  rw [lent_out (fun z => e2 (new q z))]
  exact a2.gr q e1 e2
theorem ev_ansF {W : Wx} {t : TA} {E : XK} (h : Ea K Z t env fun as => ∀ Z' : Fr, Z'.P = Z.P → W as Z' fun p => ∃ ks, p = ansP Z' ks ∧ k (.dic (ansD ks))) : Ev K Z (tCall (spF K W) [] E t) env k := fun G H σ ok Q c => by
  refine h G H σ ok _ fun as vs G1 H1 hb a1 rx => ?_
  rw [List.append_nil]
  have ok1 := ok.adv a1
  refine ⟨Z.P, G1, as, _, ok1.hz.exG, fun p hp => ⟨(ok1.hz.pot p hp).1, (ok1.hz.pot p hp).2.2⟩, rx, hb ⟨Z.P, wo Z.P H1, G1⟩ rfl, fun p v G2 H2 hk a2 pv => ?_⟩
  obtain ⟨ks, rfl, kd⟩ := hk
  obtain ⟨G3, a3, rv⟩ := frz_ans (K := K) ok1.hz a2 (pv G2 H2 (ok1.adv a2).hz.refl)
  exact c _ v G3 H2 kd (a1.trans a3) rv
/-! f(c = .., b = .., a = ..) -/
theorem args3 {P : Option Addr} {G : Hp} {vs : List V} {a b c : Ag} (h : Args K P G vs [a, b, c]) : ∃ x y z, vs = [x, y, z] ∧ ArgOk K P G x a ∧ ArgOk K P G y b ∧ ArgOk K P G z c := by
  cases h with
  | cons h1 r =>
    cases r with
    | cons h2 r =>
      cases r with
      | cons h3 r => cases r; exact ⟨_, _, _, rfl, h1, h2, h3⟩
theorem ev_ansW {W : Wx} {t : TA} (h : Ea K Z t env fun as => ∃ x y z, as = [x, y, z] ∧ ∀ Z' : Fr, Z'.P = Z.P → W [z, y, x] Z' fun p => ∃ ks, p = ansP Z' ks ∧ k (.dic (ansD ks))) : Ev K Z (tCallW (spF K W) rotV t) env k := fun G H σ ok Q c => by
  refine h G H σ ok _ fun as vs G1 H1 hb a1 rx => ?_
  obtain ⟨x, y, z, rfl, hb⟩ := hb
  obtain ⟨u1, u2, u3, rfl, r1, r2, r3⟩ := args3 rx
  have ok1 := ok.adv a1
  refine ⟨Z.P, G1, [z, y, x], _, ok1.hz.exG, fun p hp => ⟨(ok1.hz.pot p hp).1, (ok1.hz.pot p hp).2.2⟩, .cons r3 (.cons r2 (.cons r1 .nil)), hb ⟨Z.P, wo Z.P H1, G1⟩ rfl, fun p v G2 H2 hk a2 pv => ?_⟩
  obtain ⟨ks, rfl, kd⟩ := hk
  obtain ⟨G3, a3, rv⟩ := frz_ans (K := K) ok1.hz a2 (pv G2 H2 (ok1.adv a2).hz.refl)
  exact c _ v G3 H2 kd (a1.trans a3) rv
theorem ef_callW {W : Wx} {t : TA} (h : Ea K Z t env fun as => ∃ x y z, as = [x, y, z] ∧ ∀ Z' : Fr, Z'.P = Z.P → W [z, y, x] Z' fun p => ∃ d, p = ownP K Z' d ∧ k d) : Ef K Z (tCallW (spF K W) rotV t) env k := fun G H σ ok Q c => by
  refine h G H σ ok _ fun as vs G1 H1 hb a1 rx => ?_
  obtain ⟨x, y, z, rfl, hb⟩ := hb
  obtain ⟨u1, u2, u3, rfl, r1, r2, r3⟩ := args3 rx
  have ok1 := ok.adv a1
  refine ⟨Z.P, G1, [z, y, x], _, ok1.hz.exG, fun p hp => ⟨(ok1.hz.pot p hp).1, (ok1.hz.pot p hp).2.2⟩, .cons r3 (.cons r2 (.cons r1 .nil)), hb ⟨Z.P, wo Z.P H1, G1⟩ rfl, fun p v G2 H2 hk a2 pv => ?_⟩
  obtain ⟨d, rfl, kd⟩ := hk
  have ok2 := ok1.adv a2
  obtain ⟨a, rfl, g, f, n, o⟩ := pv G2 H2 ok2.hz.refl
  have f1 : H1 a = none := by
    have f : wo Z.P H1 a = none := f
    rwa [wo_at n] at f
  exact c d a G2 H2 kd (a1.trans a2) (a1.none f1) g o
/-! ### list(d.items()) -/
theorem paired_rp {G G2 : Hp} : ∀ {kvs : List (Key × V)} {ks : List (Key × Dm)} {ts : List Addr}, RpK K G kvs ks → Same G G2 → Paired (fun (t : Addr) (q : Key × V) => G2 t = some (.tup [kV q.1, q.2])) ts kvs → RpL K G2 (ts.map V.ref) (ks.map fun p => .tup [keyD p.1, p.2])
  | _, _, _, .nil, _, .nil => .nil
  | _, _, _, .cons h r, e, .cons h2 r2 => .cons (.tup h2 (.cons (keyD_rp _) (.cons (h.mono e) .nil))) (paired_rp r e r2)
theorem paired_in {α β : Type} {R : α → β → Prop} : ∀ {xs : List α} {ys : List β}, Paired R xs ys → ∀ x ∈ xs, ∃ y, R x y
  | _, _, .nil, x, h => by simp at h
  | _, _, .cons h r, x, hx => by
    rcases List.mem_cons.mp hx with rfl | hx
    · exact ⟨_, h⟩
    · exact paired_in r x hx
theorem ev_items (h : Ev K Z te env fun d => ∃ ks, d = .dic ks ∧ k (.lst (ks.map fun p => .tup [keyD p.1, p.2]))) : Ev K Z (tListItems te) env k := fun G H σ ok Q c => by
  refine h G H σ ok _ fun d v G1 H1 hd a1 rv => ?_
  obtain ⟨ks, rfl, kd⟩ := hd
  obtain ⟨a, kvs, rfl, e2, r⟩ := rv.dic_inv
  have ok1 := ok.adv a1
  refine ⟨a, kvs, rfl, ok1.hz.exG _ _ e2, fun H' p ts kp np nt _ ep pr => ?_⟩
  have hh : Same G1 H' := fun q o e => kp q o (ok1.hz.exG q o e)
  have sg : Same G1 (lentG G1 H' (p :: ts)) := lent_same hh
  have new : ∀ q ∈ p :: ts, H1 q = none := fun q hq => by
    rcases List.mem_cons.mp hq with rfl | hq
    · exact np
    · exact nt q hq
  refine c _ _ (lentG G1 H' (p :: ts)) H' kd (a1.trans ⟨sg, fun q o _ e => kp q o e, fun q e1 e2 => by rw [lent_out (fun z => e2 (new q z))]; exact e1, lent_below hh, fun q hq => ?_⟩) (.lst (by rw [lent_in (by simp)]; exact ep) (paired_rp r sg ?_))
  · obtain ⟨_, _, x, y, e⟩ := ok1.hz.pot q hq
    exact ⟨x, y, kp _ _ e⟩
  · have up : ∀ {ts' : List Addr} {kv : List (Key × V)}, (∀ t ∈ ts', t ∈ ts) → Paired (fun (t : Addr) (q : Key × V) => H' t = some (.tup [kV q.1, q.2])) ts' kv → Paired (fun (t : Addr) (q : Key × V) => lentG G1 H' (p :: ts) t = some (.tup [kV q.1, q.2])) ts' kv := by
      intro ts' kv hm pr
      induction pr with
      | nil => exact .nil
      | cons h r ih => exact .cons (by rw [lent_in (by simp [hm])]; exact h) (ih fun t ht => hm t (List.mem_cons_of_mem _ ht))
    exact up (fun t ht => ht) pr
/-! ### clear -/
/-- d.clear(), d at a; the picks stay -/
theorem es_clearO {D : Wn} {i j : Nat} {a : Addr} {pks : List (Key × Dm)} {ks : List (Int × List Int × Int)} (hij : i ≠ j) (hi : env[i]? = some (some (.x (atP K Z a (.dic pks))))) (hj : env[j]? = some (some (.x (ansP (frA Z a) ks))))
    (h : D.nx ((env.map keepC).set j (some (.x (ansP Z ks))))) : Es K Z (tDrop (tBM0 K "dict" rDClear (tVar i))) env D := fun G H σ ok D' c => by
  obtain ⟨v, s1, p1⟩ := ok.slots i _ hi
  obtain ⟨rfl, g1, f1, n1, xs, e1, r1⟩ := p1 G H ok.hz.refl
  obtain ⟨u, s2, p2⟩ := ok.slots j _ hj
  obtain ⟨b, kvs, rfl, g2, f2, n2, e2, r2⟩ := p2 G H ok.hz.refl
  obtain ⟨f2', nba⟩ := frA_F f2
  have hl2 : j < env.length := (List.getElem?_eq_some_iff.mp hj).1
  refine ⟨.ref a, s1, .inr (.inr (.inl ⟨rfl, .inl ⟨xs, e1⟩⟩)), a, xs, rfl, rfl, e1, ?_⟩
  refine c.nx _ σ G _ h ⟨⟨fun q o e => ?_, fun q o e => ?_, ok.hz.g0, ok.hz.fg, fun p hp => ?_⟩, by simp [ok.len], fun l cl e => ?_, fun l m cl cm ad _ el ol => ?_⟩ same_refl
  · rw [upd_ne (ne_of_none e g1)]; exact ok.hz.exG q o e
  · rw [upd_ne (ne_of_none e f1)]; exact ok.hz.exF q o e
  · obtain ⟨h1, h2, x, y, e⟩ := ok.hz.pot p hp
    exact ⟨h1, h2, x, y, by rw [upd_ne (fun z : p = a => n1 (by rw [← z]; exact hp))]; exact e⟩
  · by_cases hl : j = l
    · subst hl
      rw [List.getElem?_set_self (by simpa using hl2)] at e
      cases e
      have now : ansP Z ks G (L2.upd H a (.dK [])) (.ref b) := ⟨b, kvs, rfl, g2, f2', n2, by rw [upd_ne nba]; exact e2, (r2.back (F' := Z.F) fun q e _ => (frA_F e).1).upd (fun xs z => by rw [e1] at z; cases z) (fun xs z => by rw [e1] at z; cases z)⟩
      exact ⟨_, s2, fun G5 H5 a5 => ansP_adv now a5⟩
    · rw [List.getElem?_set_ne hl, List.getElem?_map] at e
      cases hh : env[l]? with
      | none => rw [hh] at e; cases e
      | some oc =>
        rw [hh] at e
        have e : keepC oc = some cl := Option.some.inj e
        cases oc with
        | none => cases e
        | some c0 =>
          obtain ⟨v', t1, t2⟩ := ok.slots l c0 hh
          cases c0 with
          | v d => cases e; exact ⟨v', t1, t2⟩
          | pot => cases e; exact ⟨v', t1, t2⟩
          | _ => cases e
  · by_cases hl : j = l
    · subst hl
      rw [List.getElem?_set_self (by simpa using hl2)] at el
      cases el; cases ol
    · rw [List.getElem?_set_ne hl, List.getElem?_map] at el
      cases hh : env[l]? with
      | none => rw [hh] at el; cases el
      | some oc =>
        rw [hh] at el
        have el : keepC oc = some cl := Option.some.inj el
        cases oc with
        | none => cases el
        | some c0 => cases c0 <;> first | (cases el; cases ol; done) | cases el
end
end Ln
/-! Ln11: the picks cleared; a new pot; dict.update; a dict of own lists. -/
namespace Ln
open PySem PySem.Spec PyProof.Rows L2
section
variable {K : PySem.W.Frag} {Z : Fr} {te tf tg ta tb td : TE} {env : Env} {k : Dm → Prop}
/-! ### for j in list(answer): answer[j][0].clear() -/
def keyP (Z : Fr) (keys : List Int) : Px := fun G H v => ∃ ks : List (Int × List Int × Int), ks.map (·.1) = keys ∧ ansP Z ks G H v
theorem keyP_adv {G H G' H' : Hp} {v : V} {keys : List Int} (h : keyP Z keys G H v) (a : Adv Z.P G H G' H') : keyP Z keys G' H' v := by
  obtain ⟨ks, e, w⟩ := h
  exact ⟨ks, e, ansP_adv w a⟩
theorem AnsK.find {Po : Option Addr} {F G H : Hp} {x : Int} : ∀ {kvs : List (Key × V)} {ks : List (Int × List Int × Int)}, AnsK Po F G H kvs ks → x ∈ ks.map (·.1) →
    ∃ (t l : Addr) (b : Int) (xs : List V), valV kvs (Sum.inl x : Key) = some (.ref t) ∧ H t = some (.tup [.ref l, .int b]) ∧ G l = none ∧ F l = none ∧ Po ≠ some l ∧ H l = some (.lst xs)
  | _, _, .nil, h => by simp at h
  | _, _, .cons (part := part) (t := t) (l := l) (b := b) g1 f1 n1 e1 g2 f2 n2 e2 r, h => by
    by_cases hx : part = x
    · subst hx
      exact ⟨t, l, b, _, by simp [valV, List.find?_cons], e1, g2, f2, n2, e2⟩
    · have h' := h
      rw [List.map_cons, List.mem_cons] at h'
      obtain ⟨t', l', b', xs', w1, w2⟩ := AnsK.find r (h'.resolve_left fun e => hx e.symm)
      refine ⟨t', l', b', xs', ?_, w2⟩
      have hne : ¬ ((Sum.inl part : Key) = Sum.inl x) := fun z => hx (Sum.inl.inj z)
      simpa [valV, List.find?_cons, hne] using w1
theorem AnsK.clr {Po : Option Addr} {F G H : Hp} {l : Addr} {xs : List V} (hl : H l = some (.lst xs)) : ∀ {kvs : List (Key × V)} {ks : List (Int × List Int × Int)}, AnsK Po F G H kvs ks →
    ∃ ks2 : List (Int × List Int × Int), ks2.map (·.1) = ks.map (·.1) ∧ AnsK Po F G (L2.upd H l (.lst [])) kvs ks2
  | _, _, .nil => ⟨[], rfl, .nil⟩
  | _, _, .cons (part := part) (b := b) (ns := ns) (t := t) (l := l2) g1 f1 n1 e1 g2 f2 n2 e2 r => by
    obtain ⟨ks2, h1, h2⟩ := AnsK.clr hl r
    have ht : t ≠ l := fun z => by rw [z, hl] at e1; cases e1
    have e1' : (L2.upd H l (.lst [])) t = some (.tup [.ref l2, .int b]) := by rw [upd_ne ht]; exact e1
    by_cases z : l2 = l
    · subst z
      exact ⟨(part, [], b) :: ks2, by simp [h1], .cons g1 f1 n1 e1' g2 f2 n2 upd_same h2⟩
    · exact ⟨(part, ns, b) :: ks2, by simp [h1], .cons g1 f1 n1 e1' g2 f2 n2 (by rw [upd_ne z]; exact e2) h2⟩
theorem kvs_rp {G : Hp} : ∀ {kvs : List (Key × V)} {ns : List Int}, kvs.map (·.1) = ns.map Sum.inl → RpL K G (kvs.map fun kv => kV kv.1) (ns.map .int)
  | [], [], _ => .nil
  | [], _ :: _, h => by cases h
  | _ :: _, [], h => by cases h
  | (q, v) :: kvs, n :: ns, h => by
    rw [List.map_cons, List.map_cons] at h
    injection h with h1 h2
    have h1 : q = Sum.inl n := h1
    subst h1
    exact .cons (.int n) (kvs_rp h2)
theorem ei_keysX {i : Nat} {keys : List Int} {ki : List Dm → Prop} (hi : env[i]? = some (some (.x (keyP Z keys)))) (q : ki (keys.map .int)) : Ei K Z (iList K (tCB rListDK (tCons (tVar i) tNil))) env ki := fun G H σ ok R c => by
  obtain ⟨v, s1, p1⟩ := ok.slots i _ hi
  obtain ⟨ks, ek, a, kvs, rfl, g, f, n, e, r⟩ := p1 G H ok.hz.refl
  refine ⟨.ref a, s1, a, kvs, rfl, .inl e, fun p hp => ?_⟩
  have hk : kvs.map (·.1) = keys.map Sum.inl := by
    rw [r.keys, ← ek, List.map_map]; rfl
  have a1 := Adv.new (o := .lst (kvs.map fun kv => kV kv.1)) ok.hz hp
  exact ⟨p, rfl, ⟨_, .inl (.inl upd_same)⟩, c _ _ _ _ q a1 (wk_list upd_same (kvs_rp hk))⟩
/-- a slot's word weakened, or dropped -/
theorem Ok.weak {G H : Hp} {σ : L2.St} {env1 : Env} (ok : Ok K Z G H σ env) (hl : env1.length = env.length)
    (h : ∀ (i : Nat) (c : Cl), env1[i]? = some (some c) → c.isOwn = false ∧ ∃ c0 : Cl, env[i]? = some (some c0) ∧ ∀ v, CellOk K Z G H v c0 → CellOk K Z G H v c) : Ok K Z G H σ env1 := by
  refine ⟨ok.hz, by rw [hl]; exact ok.len, fun i c e => ?_, fun i j ci cj a _ e1 o1 => ?_⟩
  · obtain ⟨_, c0, e0, w⟩ := h i c e
    obtain ⟨v, s1, s2⟩ := ok.slots i c0 e0
    exact ⟨v, s1, w v s2⟩
  · rw [(h i ci e1).1] at o1; cases o1
theorem es_weak {ts : TS} {D : Wn} {env1 : Env} (hl : env1.length = env.length) (h : ∀ (i : Nat) (c : Cl), env1[i]? = some (some c) → c.isOwn = false ∧ ∃ c0 : Cl, env[i]? = some (some c0) ∧ ∀ G H v, CellOk K Z G H v c0 → CellOk K Z G H v c)
    (hs : Es K Z ts env1 D) : Es K Z ts env D := fun G H σ ok D' c => hs G H σ (ok.weak hl fun i cl e => let ⟨a, c0, b, w⟩ := h i cl e; ⟨a, c0, b, w G H⟩) D' c
theorem pc_v {d : Dm} : plainC (some (.v d)) = true := rfl
theorem pc_pot : plainC (some .pot) = true := rfl
theorem pc_none : plainC none = true := rfl
theorem plain_at {e : Env} (pl : plainE e = true) {i : Nat} {c : Cl} (h : e[i]? = some (some c)) : (∃ d, c = .v d) ∨ c = .pot := by
  have pc : plainC (some c) = true := List.all_eq_true.mp pl _ (List.mem_of_getElem? h)
  cases c with
  | v d => exact .inl ⟨d, rfl⟩
  | pot => exact .inr rfl
  | _ => exact Bool.noConfusion (show false = true from pc)
/-- a store into an object of one's own, all other slots plain: the word of slot i is p now -/
theorem Ok.store {G H : Hp} {σ : L2.St} {i : Nat} {a b : Addr} {o : HO} {p : Px} (ok : Ok K Z G H σ env) (pl : plainE (env.set i none) = true) (hi : i < env.length) (s1 : σ[i]? = some (some (.ref b))) (ga : G a = none) (fa : Z.F a = none) (na : Z.P ≠ some a)
    (hp : ∀ G2 H2, Adv Z.P G (L2.upd H a o) G2 H2 → p G2 H2 (.ref b)) : Ok K Z G (L2.upd H a o) σ (env.set i (some (.x p))) := by
  have oth : ∀ {j : Nat} {c : Cl}, j ≠ i → (env.set i (some (.x p)))[j]? = some (some c) → env[j]? = some (some c) ∧ ((∃ d, c = .v d) ∨ c = .pot) := fun {j c} hj e => by
    rw [List.getElem?_set_ne (fun z => hj z.symm)] at e
    exact ⟨e, plain_at pl (i := j) (by rw [List.getElem?_set_ne (fun z => hj z.symm)]; exact e)⟩
  refine ⟨⟨fun q u e => ?_, fun q u e => ?_, ok.hz.g0, ok.hz.fg, fun q hq => ?_⟩, by rw [List.length_set]; exact ok.len, fun j c e => ?_, fun j l cj cl ad _ e1 o1 => ?_⟩
  · rw [upd_ne (ne_of_none e ga)]; exact ok.hz.exG q u e
  · rw [upd_ne (ne_of_none e fa)]; exact ok.hz.exF q u e
  · obtain ⟨h1, h2, x, y, e⟩ := ok.hz.pot q hq
    exact ⟨h1, h2, x, y, by rw [upd_ne (fun z : q = a => na (by rw [← z]; exact hq))]; exact e⟩
  · by_cases hj : j = i
    · subst hj
      rw [List.getElem?_set_self hi] at e
      cases e
      exact ⟨_, s1, hp⟩
    · obtain ⟨e0, w⟩ := oth hj e
      obtain ⟨v, t1, t2⟩ := ok.slots j c e0
      refine ⟨v, t1, ?_⟩
      rcases w with ⟨d, rfl⟩ | rfl <;> exact t2
  · by_cases hj : j = i
    · subst hj
      rw [List.getElem?_set_self hi] at e1
      cases e1; cases o1
    · rcases (oth hj e1).2 with ⟨d, rfl⟩ | rfl <;> cases o1
theorem es_clearAns {D : Wn} {i j : Nat} {ks : List (Int × List Int × Int)} (hij : i ≠ j) (hi : env[i]? = some (some (.x (ansP Z ks)))) (hj : j < env.length) (pl : plainE (env.set i none) = true)
    (h : ∀ o p, plainC o = true → D.nx ((env.set i (some (.x p))).set j o)) : Es K Z (tFor (iList K (tCB rListDK (tCons (tVar i) tNil))) (gName j) (tDrop (tBM0 K "list" rClear (tOp (rIxT K) (tDGet (tVar i) (tVar j)) (tC (.int 0)))))) env D := by
  have hl : i < env.length := (List.getElem?_eq_some_iff.mp hi).1
  refine es_weak (env1 := env.set i (some (.x (keyP Z (ks.map (·.1)))))) (by simp) (fun l c e => ?_) ?_
  · by_cases z : i = l
    · subst z
      rw [List.getElem?_set_self hl] at e
      cases e
      exact ⟨rfl, _, hi, fun G H v w G2 H2 a => ⟨ks, rfl, w G2 H2 a⟩⟩
    · rw [List.getElem?_set_ne z] at e
      rcases plain_at pl (i := l) (by rw [List.getElem?_set_ne z]; exact e) with ⟨d, rfl⟩ | rfl
      · exact ⟨rfl, _, e, fun _ _ _ w => w⟩
      · exact ⟨rfl, _, e, fun _ _ _ w => w⟩
  obtain ⟨o0, ho0⟩ : ∃ o0, env[j]? = some o0 := ⟨_, List.getElem?_eq_getElem hj⟩
  have po0 : plainC o0 = true := by
    refine List.all_eq_true.mp pl _ (List.mem_of_getElem? (i := j) ?_)
    rw [List.getElem?_set_ne hij]; exact ho0
  have e0 : env.set i (some (.x (keyP Z (ks.map (·.1))))) = (env.set i (some (.x (keyP Z (ks.map (·.1)))))).set j o0 := by
    refine (List.ext_getElem? fun l => ?_)
    by_cases z : j = l
    · subst z
      rw [List.getElem?_set_self (by simpa using hj), List.getElem?_set_ne hij]; exact ho0
    · rw [List.getElem?_set_ne z]
  refine es_for (ei_keysX (keys := ks.map (·.1)) (by rw [List.getElem?_set_self hl]) ⟨fun _ e => ∃ o, e = (env.set i (some (.x (keyP Z (ks.map (·.1)))))).set j o ∧ plainC o = true, ⟨o0, e0, po0⟩, fun m d e hd hI => ?_, fun e hI => ?_⟩)
  · obtain ⟨o, rfl, po⟩ := hI
    rw [List.getElem?_map] at hd
    obtain ⟨x, hx, rfl⟩ := Option.map_eq_some_iff.mp hd
    have hx := List.mem_of_getElem? hx
    refine eg_nm fun G H σ ok D' c => ?_
    rw [List.set_set] at ok
    obtain ⟨v, s1, p1⟩ := ok.slots i (.x (keyP Z (ks.map (·.1)))) (by rw [List.getElem?_set_ne (Ne.symm hij), List.getElem?_set_self hl])
    obtain ⟨ks2, ek, a, kvs, rfl, g, f, n, e, r⟩ := p1 G H ok.hz.refl
    obtain ⟨y, s2, p2⟩ := ok.slots j (.v (.int x)) (by rw [List.getElem?_set_self (by simpa using hj)])
    have p2 := (show Rp K G y (.int x) from p2).int_inv
    subst p2
    obtain ⟨t, l, b, xs, w1, w2, w3, w4, w5, w6⟩ := r.find (x := x) (by rw [ek]; exact hx)
    refine ⟨_, s1, _, s2, a, .ref t, rfl, .inl ⟨kvs, Sum.inl x, .inl e, rfl, w1.symm⟩, t, _, 0, .ref l, rfl, rfl, .inl (.inl w2), rfl, .inl ⟨rfl, _, .inl (.inl w6)⟩, l, xs, rfl, rfl, w6, ?_⟩
    have nal : a ≠ l := fun z => by rw [z, w6] at e; cases e
    obtain ⟨ks3, ek3, r3⟩ := r.clr w6
    have now : keyP Z (ks.map (·.1)) G (L2.upd H l (.lst [])) (.ref a) := ⟨ks3, by rw [ek3, ek], a, kvs, rfl, g, f, n, by rw [upd_ne nal]; exact e, r3⟩
    have st := ok.store (i := i) (a := l) (o := .lst []) (p := keyP Z (ks.map (·.1))) (by
      have : (((env.set i (some (.x (keyP Z (ks.map (·.1)))))).set j (some (.v (.int x)))).set i none) = (env.set i none).set j (some (.v (.int x))) := by
        rw [List.set_comm _ _ (Ne.symm hij), List.set_set]
      rw [this]
      refine List.all_eq_true.mpr fun o ho => ?_
      rcases List.mem_or_eq_of_mem_set ho with ho | rfl
      · exact List.all_eq_true.mp pl o ho
      · rfl) (by simpa using hl) s1 w3 w4 w5 fun G2 H2 a2 => keyP_adv now a2
    rw [List.set_comm _ _ (Ne.symm hij), List.set_set] at st
    exact c.nx _ σ G _ ⟨_, rfl, rfl⟩ st same_refl
  · obtain ⟨o, rfl, po⟩ := hI
    exact h o _ po
end
end Ln
/-! Ln12: a new pot; dict.update; a dict of one's own whose values are one's own lists. -/
namespace Ln
open PySem PySem.Spec PyProof.Rows L2
/-! ### d.update(e) -/
def rUpd : V → List V → Hp → VK → Prop := fun x vs H Q => ∃ (a b : Addr) (kvs more : List (Key × V)), x = .ref a ∧ vs = [.ref b] ∧ a ≠ b ∧ H a = some (.dK kvs) ∧ H b = some (.dK more) ∧ kvs.length + more.length ≤ 1000 ∧ Q .non (upd H a (.dK (mergeK kvs more)))
theorem mtd_update {X : Cx} : MtR X "dict.update" rUpd := by
  intro pins s σ H x vs v us Q I rx rv h
  obtain ⟨a, b, kvs, more, rfl, rfl, hab, ea, eb, hl, q⟩ := h
  obtain rfl : v = Value.ref a := rx
  obtain ⟨u, rfl, ru⟩ := rv.one
  obtain rfl : u = Value.ref b := ru
  obtain ⟨z1, hd1, vs1, rel1, dd1⟩ := dk_of I.hok ea
  obtain ⟨z2, hd2, vs2, rel2, dd2⟩ := dk_of I.hok eb
  have l1 := rel1.length
  have l2 := rel2.length
  refine call_meetsIn PySem.F.slot_dict_update dd1.typeIs PySem.F.entry_dict_update (PySem.F.args_dict_update_2 _ _) (meets_dict_update (mixKind X.prog X.w) a b hab hd2) ⟨vs1, vs2, dd1, dd2, Nat.le_trans (by omega) (show (1000 : Nat) ≤ sizeLine by decide), fun h' d1 d2 hs => ?_⟩
  have he : ∃ q, h'.get? a = some q := let ⟨q, _, _, hq, _⟩ := d1; ⟨q, hq⟩
  have hm := length_mergeK more kvs
  exact ⟨.non, _, d_write (t' := s.toks) I (by rw [ea]; exact True.intro) hs he (dk_new (Nat.le_trans hm (Nat.le_trans (by omega) (show (1000 : Nat) ≤ sizeLine by decide))) hd1 (rel2.merge rel1) d1), rfl, q⟩
section
variable {K : PySem.W.Frag} {Z : Fr} {te tf tg ta tb td : TE} {env : Env} {k : Dm → Prop}
/-! ### a pot that is new -/
theorem ev_callPot {W : Wf} {E : XK} (h : Ef K Z te env fun d => ∃ x y : Int, d = .lst [.int x, .int y] ∧ W [.pot] k) : Ev K Z (tCall (spD K W) [] E (tCons te tNil)) env k := fun G H σ ok Q c => by
  refine h G H σ ok _ fun d a G1 H1 hd a1 n g w => ?_
  obtain ⟨x, y, rfl, hw⟩ := hd
  have ok1 := ok.adv a1
  obtain ⟨xs, e1, r1⟩ := w
  have r1 := RpL.ints (ns := [x, y]) r1
  subst r1
  obtain ⟨fa, na⟩ := ok.newx n
  refine ⟨some a, G1, [.pot], k, ok1.hz.exG, fun p hp => ?_, .cons ⟨a, rfl, rfl⟩ .nil, hw, fun d v G' H' kd a2 rv => c d v G' H' kd ⟨a1.gg.trans a2.gg, fun q o nq e => ?_, fun q q1 q2 => ?_, a2.gh, fun p hp => ?_⟩ rv⟩
  · cases hp; exact ⟨g, x, y, e1⟩
  · exact a2.hh q o (fun z => ne_of_none e n (Option.some.inj z).symm) (a1.hh q o nq e)
  · refine a2.gr q (a1.gr q q1 q2) fun z => q2 (a1.none z)
  · obtain ⟨_, _, x', y', e⟩ := ok1.hz.pot p hp
    exact ⟨x', y', a2.hh p _ (fun w => na (by rw [Option.some.inj w]; exact hp)) e⟩
/-! ### a dict of own lists -/
def fiveL (ap a1 a2 a3 : Addr) (c : Int) : List (Key × V) := [(.inr "common", .int c), (.inr "paces", .ref ap), (.inr "steps", .ref a1), (.inr "base", .ref a2), (.inr "next", .ref a3)]
structure WdAt (K : PySem.W.Frag) (Z : Fr) (c : Int) (ps : List Dm) (ss bs nx : List Int) (G H : Hp) (a ap a1 a2 a3 : Addr) (xs : List V) : Prop where
  new : ∀ q ∈ [a, ap, a1, a2, a3], G q = none ∧ Z.F q = none ∧ Z.P ≠ some q
  n1 : ap ≠ a1
  n2 : ap ≠ a2
  n3 : ap ≠ a3
  n4 : a1 ≠ a2
  n5 : a1 ≠ a3
  n6 : a2 ≠ a3
  d : H a = some (.dK (fiveL ap a1 a2 a3 c))
  p : H ap = some (.lst xs)
  r : RpL K G xs ps
  s : H a1 = some (.lst (ss.map .int))
  b : H a2 = some (.lst (bs.map .int))
  x : H a3 = some (.lst (nx.map .int))
def wdP (K : PySem.W.Frag) (Z : Fr) (c : Int) (ps : List Dm) (ss bs nx : List Int) : Px := fun G H v => ∃ a ap a1 a2 a3 xs, v = .ref a ∧ WdAt K Z c ps ss bs nx G H a ap a1 a2 a3 xs
section
variable {c : Int} {ps : List Dm} {ss bs nx : List Int} {G H G' H' : Hp} {v : V} {a ap a1 a2 a3 : Addr} {xs : List V}
theorem WdAt.adv (w : WdAt K Z c ps ss bs nx G H a ap a1 a2 a3 xs) (x : Adv Z.P G H G' H') : WdAt K Z c ps ss bs nx G' H' a ap a1 a2 a3 xs := by
  have nn : ∀ q ∈ [a, ap, a1, a2, a3], H q ≠ none := fun q hq => by
    simp only [List.mem_cons, List.not_mem_nil, or_false] at hq
    rcases hq with rfl | rfl | rfl | rfl | rfl
    · rw [w.d]; simp
    · rw [w.p]; simp
    · rw [w.s]; simp
    · rw [w.b]; simp
    · rw [w.x]; simp
  have np : ∀ q ∈ [a, ap, a1, a2, a3], Z.P ≠ some q := fun q hq => (w.new q hq).2.2
  exact ⟨fun q hq => ⟨x.gr q (w.new q hq).1 (nn q hq), (w.new q hq).2⟩, w.n1, w.n2, w.n3, w.n4, w.n5, w.n6, x.hh a _ (np a (by simp)) w.d, x.hh ap _ (np ap (by simp)) w.p, w.r.mono x.gg, x.hh a1 _ (np a1 (by simp)) w.s, x.hh a2 _ (np a2 (by simp)) w.b, x.hh a3 _ (np a3 (by simp)) w.x⟩
theorem wdP_adv (w : wdP K Z c ps ss bs nx G H v) (x : Adv Z.P G H G' H') : wdP K Z c ps ss bs nx G' H' v := by
  obtain ⟨a, ap, a1, a2, a3, xs, rfl, w⟩ := w
  exact ⟨a, ap, a1, a2, a3, xs, rfl, w.adv x⟩
def fiveD (c : Int) (ps : List Dm) (ss bs nx : List Int) : List (Key × Dm) := [(.inr "common", .int c), (.inr "paces", .lst ps), (.inr "steps", .lst (ss.map .int)), (.inr "base", .lst (bs.map .int)), (.inr "next", .lst (nx.map .int))]
theorem WdAt.lent (w : WdAt K Z c ps ss bs nx G H a ap a1 a2 a3 xs) (e : Same G H) : Rp K (lentG G H [a, ap, a1, a2, a3]) (.ref a) (.dic (fiveD c ps ss bs nx)) := by
  refine .dic (by rw [lent_in (by simp)]; exact w.d) ?_
  refine .cons (.int c) (.cons (.lst (by rw [lent_in (by simp)]; exact w.p) (w.r.mono (lent_same e))) (.cons (.lst (by rw [lent_in (by simp)]; exact w.s) .of_ints) (.cons (.lst (by rw [lent_in (by simp)]; exact w.b) .of_ints) (.cons (.lst (by rw [lent_in (by simp)]; exact w.x) .of_ints) .nil))))
end
def lend1 (env : Env) (i : Nat) (d : Dm) : Env := (env.map keepC).set i (some (.v d))
theorem ok_lendW {i : Nat} {c : Int} {ps : List Dm} {ss bs nx : List Int} (hi : env[i]? = some (some (.x (wdP K Z c ps ss bs nx)))) :
    ∀ G H σ, Ok K Z G H σ env → ∃ G1, Ok K Z G1 H σ (lend1 env i (.dic (fiveD c ps ss bs nx))) ∧ Same G G1 := fun G H σ ok => by
  obtain ⟨v, s1, p1⟩ := ok.slots i _ hi
  obtain ⟨a, ap, a1, a2, a3, xs, rfl, w⟩ := p1 G H ok.hz.refl
  have hl1 : i < env.length := (List.getElem?_eq_some_iff.mp hi).1
  refine ⟨lentG G H [a, ap, a1, a2, a3], ok_lent ok (fun q hq => (w.new q hq).2) (by unfold lend1; simp) (fun l c e => ?_), lent_same ok.hz.exG⟩
  unfold lend1 at e
  by_cases hli : i = l
  · subst hli
    rw [List.getElem?_set_self (by simpa using hl1)] at e
    cases e
    exact .inr ⟨_, _, rfl, s1, w.lent ok.hz.exG⟩
  · rw [List.getElem?_set_ne hli] at e
    exact .inl e
theorem ev_lendW {i : Nat} {c : Int} {ps : List Dm} {ss bs nx : List Int} (hi : env[i]? = some (some (.x (wdP K Z c ps ss bs nx)))) (h : Ev K Z te (lend1 env i (.dic (fiveD c ps ss bs nx))) fun d => d.flat = true ∧ k d) : Ev K Z te env k :=
  ev_reset (ok_lendW hi) h
/-- it is given back: a datum from now on -/
theorem es_retW {D : Wn} {i : Nat} {c : Int} {ps : List Dm} {ss bs nx : List Int} (hi : env[i]? = some (some (.x (wdP K Z c ps ss bs nx)))) (h : D.rt (.dic (fiveD c ps ss bs nx))) : Es K Z (tRet (tVar i)) env D := fun G H σ ok D' cc => by
  obtain ⟨v, s1, p1⟩ := ok.slots i _ hi
  obtain ⟨a, ap, a1, a2, a3, xs, rfl, w⟩ := p1 G H ok.hz.refl
  exact ⟨_, s1, cc.rt _ _ _ H h (lent_hz ok.hz fun q hq => (w.new q hq).2) (lent_same ok.hz.exG) (w.lent ok.hz.exG)⟩
theorem look5 (ap a1 a2 a3 : Addr) (c : Int) : valV (fiveL ap a1 a2 a3 c) (Sum.inr "paces" : Key) = some (.ref ap) ∧ valV (fiveL ap a1 a2 a3 c) (Sum.inr "steps" : Key) = some (.ref a1) ∧ valV (fiveL ap a1 a2 a3 c) (Sum.inr "base" : Key) = some (.ref a2) ∧
    valV (fiveL ap a1 a2 a3 c) (Sum.inr "next" : Key) = some (.ref a3) := by
  have h1 : ¬ (Str.ofString "common" = Str.ofString "paces") := by decide
  have h2 : ¬ (Str.ofString "common" = Str.ofString "steps") := by decide
  have h3 : ¬ (Str.ofString "paces" = Str.ofString "steps") := by decide
  have h4 : ¬ (Str.ofString "common" = Str.ofString "base") := by decide
  have h5 : ¬ (Str.ofString "paces" = Str.ofString "base") := by decide
  have h6 : ¬ (Str.ofString "steps" = Str.ofString "base") := by decide
  have h7 : ¬ (Str.ofString "common" = Str.ofString "next") := by decide
  have h8 : ¬ (Str.ofString "paces" = Str.ofString "next") := by decide
  have h9 : ¬ (Str.ofString "steps" = Str.ofString "next") := by decide
  have h10 : ¬ (Str.ofString "base" = Str.ofString "next") := by decide
  refine ⟨?_, ?_, ?_, ?_⟩ <;> simp [valV, fiveL, h1, h2, h3, h4, h5, h6, h7, h8, h9, h10]
theorem ixN_nat {n l : Nat} (h : l < n) : ixN n (l : Int) = some l := by
  unfold ixN
  simp
  omega
theorem set_ints (ns : List Int) (l : Nat) (x : Int) : (ns.map V.int).set l (.int x) = (ns.set l x).map V.int := by rw [List.map_set]
theorem RpL.set {G : Hp} {v : V} {d : Dm} : ∀ {xs : List V} {ds : List Dm} (l : Nat), RpL K G xs ds → Rp K G v d → RpL K G (xs.set l v) (ds.set l d)
  | _, _, _, .nil, _ => .nil
  | _, _, 0, .cons a b, h => .cons h b
  | _, _, l + 1, .cons a b, h => .cons a (RpL.set l b h)
section
variable {i j : Nat} {c : Int} {ps : List Dm} {ss bs nx : List Int} {l : Nat} {ke : Env → Prop}
theorem wset_at {G H : Hp} {σ : L2.St} {p q : Px} {b a : Addr} {o : HO} (ok : Ok K Z G H σ env) (pl : plainE (env.set i none) = true) (hi : env[i]? = some (some (.x p))) (s1 : σ[i]? = some (some (.ref b))) (ga : G a = none) (fa : Z.F a = none) (na : Z.P ≠ some a)
    (now : q G (L2.upd H a o) (.ref b)) (adv : ∀ {G H G' H' : Hp} {v : V}, q G H v → Adv Z.P G H G' H' → q G' H' v) : Ok K Z G (L2.upd H a o) σ (env.set i (some (.x q))) :=
  ok.store pl (List.getElem?_eq_some_iff.mp hi).1 s1 ga fa na fun G2 H2 a2 => adv now a2
theorem eg_wpaces {d : Dm} (hi : env[i]? = some (some (.x (wdP K Z c ps ss bs nx)))) (pl : plainE (env.set i none) = true) (hj : env[j]? = some (some (.v (.int (l : Nat))))) (hl : l < ps.length) (h : ke (env.set i (some (.x (wdP K Z c (ps.set l d) ss bs nx))))) :
    Eg K Z (gSub (tDGet (tVar i) (tC (.str "paces"))) (tVar j) rSetL) d env ke := fun G H σ v ok rv Q cc => by
  obtain ⟨v1, s1, p1⟩ := ok.slots i _ hi
  obtain ⟨a, ap, a1, a2, a3, xs, rfl, w⟩ := p1 G H ok.hz.refl
  obtain ⟨y, s2, p2⟩ := ok.slots j _ hj
  have p2 := (show Rp K G y (.int (l : Nat)) from p2).int_inv
  subst p2
  obtain ⟨g, f, n⟩ := w.new ap (by simp)
  have na : a ≠ ap := fun z => by have := w.d; rw [z, w.p] at this; cases this
  refine ⟨_, s1, a, .ref ap, rfl, .inl ⟨_, Sum.inr "paces", .inl w.d, rfl, (look5 ap a1 a2 a3 c).1.symm⟩, _, s2, ap, xs, l, l, rfl, rfl, w.p, by rw [w.r.length]; exact ixN_nat hl, ?_⟩
  refine cc _ σ G _ h (wset_at ok pl hi s1 g f n ⟨a, ap, a1, a2, a3, xs.set l v, rfl, ⟨w.new, w.n1, w.n2, w.n3, w.n4, w.n5, w.n6, by rw [upd_ne na]; exact w.d, upd_same, w.r.set l rv, by rw [upd_ne (Ne.symm w.n1)]; exact w.s, by rw [upd_ne (Ne.symm w.n2)]; exact w.b, by rw [upd_ne (Ne.symm w.n3)]; exact w.x⟩⟩ wdP_adv) same_refl
theorem eg_wsteps {x : Int} (hi : env[i]? = some (some (.x (wdP K Z c ps ss bs nx)))) (pl : plainE (env.set i none) = true) (hj : env[j]? = some (some (.v (.int (l : Nat))))) (hl : l < ss.length) (h : ke (env.set i (some (.x (wdP K Z c ps (ss.set l x) bs nx))))) :
    Eg K Z (gSub (tDGet (tVar i) (tC (.str "steps"))) (tVar j) rSetL) (.int x) env ke := fun G H σ v ok rv Q cc => by
  have rv := rv.int_inv
  subst rv
  obtain ⟨v1, s1, p1⟩ := ok.slots i _ hi
  obtain ⟨a, ap, a1, a2, a3, xs, rfl, w⟩ := p1 G H ok.hz.refl
  obtain ⟨y, s2, p2⟩ := ok.slots j _ hj
  have p2 := (show Rp K G y (.int (l : Nat)) from p2).int_inv
  subst p2
  obtain ⟨g, f, n⟩ := w.new a1 (by simp)
  have na : a ≠ a1 := fun z => by have := w.d; rw [z, w.s] at this; cases this
  refine ⟨_, s1, a, .ref a1, rfl, .inl ⟨_, Sum.inr "steps", .inl w.d, rfl, (look5 ap a1 a2 a3 c).2.1.symm⟩, _, s2, a1, _, l, l, rfl, rfl, w.s, by rw [List.length_map]; exact ixN_nat hl, ?_⟩
  refine cc _ σ G _ h (wset_at ok pl hi s1 g f n ⟨a, ap, a1, a2, a3, xs, rfl, ⟨w.new, w.n1, w.n2, w.n3, w.n4, w.n5, w.n6, by rw [upd_ne na]; exact w.d, by rw [upd_ne w.n1]; exact w.p, w.r, by rw [upd_same, set_ints], by rw [upd_ne (Ne.symm w.n4)]; exact w.b, by rw [upd_ne (Ne.symm w.n5)]; exact w.x⟩⟩ wdP_adv) same_refl
theorem eg_wbase {x : Int} (hi : env[i]? = some (some (.x (wdP K Z c ps ss bs nx)))) (pl : plainE (env.set i none) = true) (hj : env[j]? = some (some (.v (.int (l : Nat))))) (hl : l < bs.length) (h : ke (env.set i (some (.x (wdP K Z c ps ss (bs.set l x) nx))))) :
    Eg K Z (gSub (tDGet (tVar i) (tC (.str "base"))) (tVar j) rSetL) (.int x) env ke := fun G H σ v ok rv Q cc => by
  have rv := rv.int_inv
  subst rv
  obtain ⟨v1, s1, p1⟩ := ok.slots i _ hi
  obtain ⟨a, ap, a1, a2, a3, xs, rfl, w⟩ := p1 G H ok.hz.refl
  obtain ⟨y, s2, p2⟩ := ok.slots j _ hj
  have p2 := (show Rp K G y (.int (l : Nat)) from p2).int_inv
  subst p2
  obtain ⟨g, f, n⟩ := w.new a2 (by simp)
  have na : a ≠ a2 := fun z => by have := w.d; rw [z, w.b] at this; cases this
  refine ⟨_, s1, a, .ref a2, rfl, .inl ⟨_, Sum.inr "base", .inl w.d, rfl, (look5 ap a1 a2 a3 c).2.2.1.symm⟩, _, s2, a2, _, l, l, rfl, rfl, w.b, by rw [List.length_map]; exact ixN_nat hl, ?_⟩
  refine cc _ σ G _ h (wset_at ok pl hi s1 g f n ⟨a, ap, a1, a2, a3, xs, rfl, ⟨w.new, w.n1, w.n2, w.n3, w.n4, w.n5, w.n6, by rw [upd_ne na]; exact w.d, by rw [upd_ne w.n2]; exact w.p, w.r, by rw [upd_ne w.n4]; exact w.s, by rw [upd_same, set_ints], by rw [upd_ne (Ne.symm w.n6)]; exact w.x⟩⟩ wdP_adv) same_refl
theorem eg_wnext {x : Int} (hi : env[i]? = some (some (.x (wdP K Z c ps ss bs nx)))) (pl : plainE (env.set i none) = true) (hj : env[j]? = some (some (.v (.int (l : Nat))))) (hl : l < nx.length) (h : ke (env.set i (some (.x (wdP K Z c ps ss bs (nx.set l x)))))) :
    Eg K Z (gSub (tDGet (tVar i) (tC (.str "next"))) (tVar j) rSetL) (.int x) env ke := fun G H σ v ok rv Q cc => by
  have rv := rv.int_inv
  subst rv
  obtain ⟨v1, s1, p1⟩ := ok.slots i _ hi
  obtain ⟨a, ap, a1, a2, a3, xs, rfl, w⟩ := p1 G H ok.hz.refl
  obtain ⟨y, s2, p2⟩ := ok.slots j _ hj
  have p2 := (show Rp K G y (.int (l : Nat)) from p2).int_inv
  subst p2
  obtain ⟨g, f, n⟩ := w.new a3 (by simp)
  have na : a ≠ a3 := fun z => by have := w.d; rw [z, w.x] at this; cases this
  refine ⟨_, s1, a, .ref a3, rfl, .inl ⟨_, Sum.inr "next", .inl w.d, rfl, (look5 ap a1 a2 a3 c).2.2.2.symm⟩, _, s2, a3, _, l, l, rfl, rfl, w.x, by rw [List.length_map]; exact ixN_nat hl, ?_⟩
  refine cc _ σ G _ h (wset_at ok pl hi s1 g f n ⟨a, ap, a1, a2, a3, xs, rfl, ⟨w.new, w.n1, w.n2, w.n3, w.n4, w.n5, w.n6, by rw [upd_ne na]; exact w.d, by rw [upd_ne w.n3]; exact w.p, w.r, by rw [upd_ne w.n5]; exact w.s, by rw [upd_ne w.n6]; exact w.b, by rw [upd_same, set_ints]⟩⟩ wdP_adv) same_refl
end
end
end Ln
/-! Ln13: such a dict made, in two goes. -/
namespace Ln
open PySem PySem.Spec PyProof.Rows L2
section
variable {K : PySem.W.Frag} {Z : Fr} {te tf tg ta tb td : TE} {env : Env} {k : Dm → Prop}
def threeL (ap a1 : Addr) (c : Int) : List (Key × V) := [(.inr "common", .int c), (.inr "paces", .ref ap), (.inr "steps", .ref a1)]
structure W0At (K : PySem.W.Frag) (Z : Fr) (c : Int) (ps : List Dm) (ss : List Int) (G H : Hp) (a ap a1 : Addr) (xs : List V) : Prop where
  new : ∀ q ∈ [a, ap, a1], G q = none ∧ Z.F q = none ∧ Z.P ≠ some q
  n1 : ap ≠ a1
  d : H a = some (.dK (threeL ap a1 c))
  p : H ap = some (.lst xs)
  r : RpL K G xs ps
  s : H a1 = some (.lst (ss.map .int))
def w0P (K : PySem.W.Frag) (Z : Fr) (c : Int) (ps : List Dm) (ss : List Int) : Px := fun G H v => ∃ a ap a1 xs, v = .ref a ∧ W0At K Z c ps ss G H a ap a1 xs
theorem w0P_adv {c : Int} {ps : List Dm} {ss : List Int} {G H G' H' : Hp} {v : V} (w : w0P K Z c ps ss G H v) (x : Adv Z.P G H G' H') : w0P K Z c ps ss G' H' v := by
  obtain ⟨a, ap, a1, xs, rfl, w⟩ := w
  have nn : ∀ q ∈ [a, ap, a1], H q ≠ none := fun q hq => by
    simp only [List.mem_cons, List.not_mem_nil, or_false] at hq
    rcases hq with rfl | rfl | rfl
    · rw [w.d]; simp
    · rw [w.p]; simp
    · rw [w.s]; simp
  have np : ∀ q ∈ [a, ap, a1], Z.P ≠ some q := fun q hq => (w.new q hq).2.2
  exact ⟨a, ap, a1, xs, rfl, fun q hq => ⟨x.gr q (w.new q hq).1 (nn q hq), (w.new q hq).2⟩, w.n1, x.hh a _ (np a (by simp)) w.d, x.hh ap _ (np ap (by simp)) w.p, w.r.mono x.gg, x.hh a1 _ (np a1 (by simp)) w.s⟩
theorem OwnAt.lst_inv {G H : Hp} {a : Addr} {ds : List Dm} (h : OwnAt K G H a (.lst ds)) : ∃ xs, H a = some (.lst xs) ∧ RpL K G xs ds := h
theorem es_world1 {D : Wn} {i : Nat} {t0 t1 t2 : TE} {c : Int} {ps : List Dm} {ss : List Int} (hi : i < env.length) (pl : plainE (env.set i none) = true) (h0 : Ev K Z t0 env fun d => d = .int c) (h1 : Ef K Z t1 env fun d => d = .lst ps) (h2 : Ef K Z t2 env fun d => d = .lst (ss.map .int))
    (h : D.nx (env.set i (some (.x (w0P K Z c ps ss))))) : Es K Z (tAsg (tDisp [(tC (.str "common"), t0), (tC (.str "paces"), t1), (tC (.str "steps"), t2)]) (gName i)) env D := fun G H σ ok D' cc => by
  intro p np
  have a0 := Adv.skip (o := .dK []) ok.hz np
  have ok1 := ok.adv a0
  have gp0 := ok.hz.exG.free np
  obtain ⟨fp, nP⟩ := ok.newx np
  refine h0 _ _ σ ok1 _ fun d0 y0 G1 H1 e0 b1 r0 => ?_
  subst e0
  have r0 := r0.int_inv
  subst r0
  have ok2 := ok1.adv b1
  refine h1 G1 H1 σ ok2 _ fun d1 ap G2 H2 e1 b2 n1 g1 w1 => ?_
  subst e1
  have ok3 := ok2.adv b2
  refine h2 G2 H2 σ ok3 _ fun d2 a1 G3 H3 e2 b3 n2 g2 w2 => ?_
  subst e2
  have ok4 := ok3.adv b3
  obtain ⟨f1, q1⟩ := ok2.newx n1
  obtain ⟨f2, q2⟩ := ok3.newx n2
  obtain ⟨xs, x1, y1⟩ := w1.lst_inv
  obtain ⟨xs2, x2, y2⟩ := w2.lst_inv
  have y2 := RpL.ints (ns := ss) y2
  subst y2
  have hp1 : H1 p = some (.dK []) := b1.hh p _ nP upd_same
  have hp2 : H2 p = some (.dK []) := b2.hh p _ nP hp1
  have hp3 : H3 p = some (.dK []) := b3.hh p _ nP hp2
  have gp : G3 p = none := b3.gr p (b2.gr p (b1.gr p gp0 (by rw [upd_same]; simp)) (by rw [hp1]; simp)) (by rw [hp2]; simp)
  have nap : ap ≠ p := fun z => by rw [z, hp1] at n1; cases n1
  have na1 : a1 ≠ p := fun z => by rw [z, hp2] at n2; cases n2
  have n12 : ap ≠ a1 := fun z => by rw [← z, x1] at n2; cases n2
  refine ⟨hp3, threeL ap a1 c, rfl, by show (3 : Nat) ≤ 15; decide, ?_⟩
  have em : mergeK [] (threeL ap a1 c) = threeL ap a1 c := by
    rw [merge_new _ [] (by
      have h1 : ¬ (Str.ofString "common" = Str.ofString "paces") := by decide
      have h2 : ¬ (Str.ofString "common" = Str.ofString "steps") := by decide
      have h3 : ¬ (Str.ofString "paces" = Str.ofString "steps") := by decide
      simp [threeL, h1, h2, h3])]
    rfl
  rw [em]
  have m1 := ok4.setx (i := i) (v := .ref p) (p := fun _ _ _ => True) fun _ _ _ => trivial
  have now : w0P K Z c ps ss G3 (L2.upd H3 p (.dK (threeL ap a1 c))) (.ref p) := ⟨p, ap, a1, xs, rfl, fun q hq => by
    simp only [List.mem_cons, List.not_mem_nil, or_false] at hq
    rcases hq with rfl | rfl | rfl
    · exact ⟨gp, fp, nP⟩
    · exact ⟨b3.gr _ g1 (by rw [x1]; simp), f1, q1⟩
    · exact ⟨g2, f2, q2⟩, n12, upd_same, by rw [upd_ne nap]; exact b3.hh ap _ q1 x1, y1.mono b3.gg, by rw [upd_ne na1]; exact x2⟩
  have st := m1.store (i := i) (a := p) (b := p) (o := .dK (threeL ap a1 c)) (p := w0P K Z c ps ss) (by rw [List.set_set]; exact pl) (by simpa using hi) (by rw [List.getElem?_set_self (by rw [ok4.len]; exact hi)]) gp fp nP fun G5 H5 a5 => w0P_adv now a5
  rw [List.set_set] at st
  exact cc.nx _ _ G3 _ h st (((a0.gg.trans b1.gg).trans b2.gg).trans b3.gg)
theorem es_world2 {D : Wn} {i : Nat} {t3 t4 : TE} {c : Int} {ps : List Dm} {ss bs nx : List Int} (hi : env[i]? = some (some (.x (w0P K Z c ps ss)))) (pl : plainE (env.set i none) = true) (h3 : Ef K Z t3 env fun d => d = .lst (bs.map .int)) (h4 : Ef K Z t4 env fun d => d = .lst (nx.map .int))
    (h : D.nx (env.set i (some (.x (wdP K Z c ps ss bs nx))))) : Es K Z (tDrop (tBM K "dict" rUpd (tVar i) (tCons (tDisp [(tC (.str "base"), t3), (tC (.str "next"), t4)]) tNil))) env D := fun G H σ ok D' cc => by
  have hl : i < env.length := (List.getElem?_eq_some_iff.mp hi).1
  obtain ⟨v0, s0, p0⟩ := ok.slots i _ hi
  obtain ⟨a, ap, a1, xs, rfl, w0⟩ := p0 G H ok.hz.refl
  refine ⟨_, s0, .inr (.inr (.inl ⟨rfl, .inl ⟨_, w0.d⟩⟩)), fun p np => ?_⟩
  have b0 := Adv.skip (o := .dK []) ok.hz np
  have ok1 := ok.adv b0
  have gp0 := ok.hz.exG.free np
  obtain ⟨fp, nP⟩ := ok.newx np
  refine h3 _ _ σ ok1 _ fun d1 a2 G2 H2 e1 b2 n1 g1 w1 => ?_
  subst e1
  have ok3 := ok1.adv b2
  refine h4 G2 H2 σ ok3 _ fun d2 a3 G3 H3 e2 b3 n2 g2 w2 => ?_
  subst e2
  obtain ⟨f1, q1⟩ := ok1.newx n1
  obtain ⟨f2, q2⟩ := ok3.newx n2
  obtain ⟨ys, x1, y1⟩ := w1.lst_inv
  have y1 := RpL.ints (ns := bs) y1
  subst y1
  obtain ⟨ys2, x2, y2⟩ := w2.lst_inv
  have y2 := RpL.ints (ns := nx) y2
  subst y2
  have hp2 : H2 p = some (.dK []) := b2.hh p _ nP upd_same
  have hp3 : H3 p = some (.dK []) := b3.hh p _ nP hp2
  have gp : G3 p = none := b3.gr p (b2.gr p gp0 (by rw [upd_same]; simp)) (by rw [hp2]; simp)
  have nap : a2 ≠ p := fun z => by rw [z, upd_same] at n1; cases n1
  have na1 : a3 ≠ p := fun z => by rw [z, hp2] at n2; cases n2
  have n23 : a2 ≠ a3 := fun z => by rw [← z, x1] at n2; cases n2
  have old : ∀ {q : Addr} {o : HO}, H q = some o → q ≠ a2 ∧ q ≠ a3 ∧ q ≠ p := fun {q o} e => by
    have hq : q ≠ p := ne_of_none e np
    refine ⟨fun z => ?_, fun z => ?_, hq⟩
    · rw [← z, upd_ne hq, e] at n1; cases n1
    · have : H2 q ≠ none := fun y => by have := (b0.trans b2).none y; rw [e] at this; cases this
      rw [z] at this; exact this n2
  let two : List (Key × V) := [(.inr "base", .ref a2), (.inr "next", .ref a3)]
  refine ⟨hp3, two, rfl, by show (2 : Nat) ≤ 15; decide, ?_⟩
  have d34 : ¬ (Str.ofString "base" = Str.ofString "next") := by decide
  have em : mergeK [] two = two := by
    rw [merge_new _ [] (by simp [two, d34])]
    rfl
  rw [em]
  have all := ((b0.trans b2).trans b3).at_new (o := .dK two) np gp nP
  have ok4 := ok.adv all
  obtain ⟨v1, s1, p1⟩ := ok4.slots i _ hi
  rw [s0] at s1
  cases s1
  obtain ⟨a', ap', a1', xs', ea, w⟩ := p1 _ _ ok4.hz.refl
  cases ea
  have nap2 : a ≠ p := (old w0.d).2.2
  have l5 : mergeK (threeL ap' a1' c) two = fiveL ap' a1' a2 a3 c := by
    rw [merge_new _ _ (by
      have h1 : ¬ (Str.ofString "common" = Str.ofString "paces") := by decide
      have h2 : ¬ (Str.ofString "common" = Str.ofString "steps") := by decide
      have h3 : ¬ (Str.ofString "paces" = Str.ofString "steps") := by decide
      have h4 : ¬ (Str.ofString "common" = Str.ofString "base") := by decide
      have h5 : ¬ (Str.ofString "paces" = Str.ofString "base") := by decide
      have h6 : ¬ (Str.ofString "steps" = Str.ofString "base") := by decide
      have h7 : ¬ (Str.ofString "common" = Str.ofString "next") := by decide
      have h8 : ¬ (Str.ofString "paces" = Str.ofString "next") := by decide
      have h9 : ¬ (Str.ofString "steps" = Str.ofString "next") := by decide
      simp [threeL, two, h1, h2, h3, h4, h5, h6, h7, h8, h9, d34])]
    rfl
  refine ⟨a, p, _, two, rfl, rfl, nap2, w.d, upd_same, by show (3 + 2 : Nat) ≤ 1000; decide, ?_⟩
  rw [l5]
  have eq0 : threeL ap a1 c = threeL ap' a1' c := by
    have e1 := all.hh a _ (w0.new a (by simp)).2.2 w0.d
    rw [w.d] at e1
    exact (HO.dK.inj (Option.some.inj e1)).symm
  have eap : ap = ap' ∧ a1 = a1' := by
    unfold threeL at eq0
    simpa using eq0
  obtain ⟨rfl, rfl⟩ := eap
  have o1 := old w0.p
  have o2 := old w0.s
  have o3 := old w0.d
  have na : ∀ {q : Addr} {l : List V}, H q = some (.lst l) → a ≠ q := fun {q l} e z => by rw [← z, w0.d] at e; cases e
  have now : wdP K Z c ps ss bs nx G3 (L2.upd (L2.upd H3 p (.dK two)) a (.dK (fiveL ap a1 a2 a3 c))) (.ref a) := ⟨a, ap, a1, a2, a3, xs', rfl, ⟨fun q hq => by
    simp only [List.mem_cons, List.not_mem_nil, or_false] at hq
    rcases hq with rfl | rfl | rfl | rfl | rfl
    · exact w.new _ (by simp)
    · exact w.new _ (by simp)
    · exact w.new _ (by simp)
    · exact ⟨b3.gr _ g1 (by rw [x1]; simp), f1, q1⟩
    · exact ⟨g2, f2, q2⟩, w.n1, o1.1, o1.2.1, o2.1, o2.2.1, n23, upd_same, by rw [upd_ne (Ne.symm (na w0.p))]; exact w.p, w.r, by rw [upd_ne (Ne.symm (na w0.s))]; exact w.s,
      by rw [upd_ne (Ne.symm o3.1), upd_ne nap]; exact b3.hh a2 _ q1 x1, by rw [upd_ne (Ne.symm o3.2.1), upd_ne na1]; exact x2⟩⟩
  obtain ⟨ga, fa, nPa⟩ := w.new a (by simp)
  have st := ok4.store (i := i) (a := a) (b := a) (o := .dK (fiveL ap a1 a2 a3 c)) (p := wdP K Z c ps ss bs nx) pl hl s0 ga fa nPa fun G5 H5 a5 => wdP_adv now a5
  exact cc.nx _ _ G3 _ h st all.gg
end
end Ln
/-! K1: the small defs. -/
namespace Ln
open PySem PySem.Spec PyProof.Rows L2
theorem kb_ii : kitB "int" "int" = some true := by decide +kernel
theorem kb_ib : kitB "int" "bool" = some false := by decide +kernel
theorem kb_tt : kitB "tuple" "tuple" = some true := by decide +kernel
theorem kb_tl : kitB "tuple" "list" = some false := by decide +kernel
theorem kb_lt : kitB "list" "tuple" = some false := by decide +kernel
theorem kb_ll : kitB "list" "list" = some true := by decide +kernel
theorem kb_dd : kitB "dict" "dict" = some true := by decide +kernel
def enD (e : Int × Int) : Dm := .tup [.int e.1, .int e.2]
abbrev Lot := List (Int × Int)
def lotD (l : Lot) : Dm := .ftp (l.map enD)
def lotsD (ls : List Lot) : Dm := .lst (ls.map lotD)
def intsL (ns : List Int) : Dm := .lst (ns.map .int)
section
local macro_rules | `(tactic| walk_at "kb") => `(tactic| first | exact kb_ii | exact kb_ib | exact kb_tt | exact kb_tl | exact kb_lt | exact kb_ll | exact kb_dd)
local macro_rules | `(tactic| walk_at "om") => `(tactic| first | omega | (simp only [List.length_map, List.length_cons, List.length_nil]; omega))
local macro_rules | `(tactic| walk_at "s") => `(tactic| first
  | ((with_reducible show Ev _ _ (tVar _) _ _); refine ev_var rfl ?_)
  | (with_reducible refine ev_int ?_)
  | (with_reducible refine ev_bl ?_)
  | (with_reducible refine ev_str ?_)
  | (with_reducible refine ev_non ?_)
  | (with_reducible refine ev_ty ?_)
  | (with_reducible refine ev_fn ?_)
  | (with_reducible refine ev_op ?_)
  | (with_reducible refine er_b0 ?_)
  | (with_reducible refine er_i0 ?_)
  | ((with_reducible show Er _ _ (rIxT _) _ _ _); first | refine er_ixT ⟨_, _, rfl, rfl, ?_⟩ | refine er_ixT ⟨_, _, rfl, (by assumption), ?_⟩)
  | ((with_reducible show Er _ _ (rIxL _) _ _ _); first | refine er_ixL ⟨_, rfl, ?_⟩ | refine er_ixL ⟨_, (by assumption), ?_⟩)
  | (with_reducible refine ev_neg ?_)
  | (with_reducible refine ev_prop ?_)
  | (with_reducible refine ev_gi ?_)
  | (with_reducible refine ev_meth ?_)
  | ((with_reducible show Ev _ _ (tMake _ _ _ _ _) _ _); refine ev_make ?_)
  | ((with_reducible show Ev _ _ (tFld _ _ _) _ _); refine ev_fldA (by assumption) ?_)
  | (with_reducible refine ev_din ?_)
  | (with_reducible refine ev_dnin ?_)
  | (with_reducible refine ev_dget ?_)
  | ((with_reducible show Ed _ _ (tVar _) _ _); first | refine ed_own rfl ?_ | refine ed_ro rfl ?_ | refine ed_frz rfl ?_ | refine ed_v (ev_var rfl ⟨_, rfl, ?_⟩))
  | (with_reducible refine ev_call ?_)
  | ((with_reducible show Ev _ _ (tCall (spF _ _) _ _ _) _ _); refine ev_ef (ef_callF ?_))
  | (with_reducible refine ev_cb ?_)
  | ((with_reducible show Ea _ _ (tCons (tVar _) _) _ _); refine ea_pot rfl ?_)
  | (with_reducible refine ea_nil ?_)
  | (with_reducible refine ea_v ?_)
  | (with_reducible refine ev_andV ?_)
  | (with_reducible refine ev_orV ?_)
  | (with_reducible refine ev_notV ?_)
  | (with_reducible refine ev_if ?_)
  | (with_reducible refine ev_chain ?_)
  | (with_reducible refine et_test ?_)
  | (with_reducible refine et_B ?_)
  | (with_reducible refine et_yes ?_)
  | (with_reducible refine et_and ?_)
  | (with_reducible refine et_or ?_)
  | (with_reducible refine et_not ?_)
  | (with_reducible refine et_ifT ?_)
  | (with_reducible refine es_seq ?_)
  | (with_reducible refine es_next ?_)
  | (with_reducible refine es_if ?_)
  | (with_reducible refine es_ret ?_)
  | (with_reducible refine es_set ?_)
  | (with_reducible refine es_asg ?_)
  | (with_reducible refine eg_nm ?_)
  | (with_reducible refine egs_cons ?_)
  | (with_reducible refine egs_nil ?_)
  | ((with_reducible show Eg _ _ (gTup _ _ _) _ _ _); refine eg_tup ⟨_, rfl, rfl, ?_⟩)
  | ((with_reducible show Es _ _ (tPar _ _ (tCons tDNewK _)) _ _); refine es_parO (by first | (simp [startE]; done) | decide) (ef_dnew ?_))
  | (with_reducible refine es_par ?_)
  | ((with_reducible show Er _ _ (rI _ _) _ _ _); first | refine er_i (Or.inl ⟨by omega, by omega⟩) ?_ | refine er_i (Or.inr ⟨by omega, by omega⟩) ?_ | refine er_i ⟨by omega, by omega⟩ ?_ | refine er_i (by omega) ?_)
  | (with_reducible refine es_drop ?_)
  | (with_reducible refine ev_tup ?_)
  | (with_reducible refine ev_lst ?_)
  | ((with_reducible show Eb _ _ (rIsi _) [_, Ag.v (Dm.ty _)] _); refine eb_isi rfl (by walk_at "kb") ?_)
  | ((with_reducible show Eb _ _ (rIsi _) [_, Ag.v (Dm.fn _)] _); refine eb_isiC (by assumption) ?_)
  | ((with_reducible show Eb _ _ (rIsiT _) _ _); refine eb_isi2 rfl (by walk_at "kb") (by walk_at "kb") ?_)
  | ((with_reducible show Er _ _ (fun _ _ _ _ => _) _ _ _); first | refine er_isN ?_ | refine er_notN ?_)
  | ((with_reducible show Er _ _ rEq _ _ _); refine er_eq ⟨_, rfl, ?_⟩)
  | ((with_reducible show Er _ _ rNe _ _ _); refine er_ne ⟨_, rfl, ?_⟩)
  | ((with_reducible show Eb _ _ _ [Ag.v (Dm.int _)] _); first | refine eb_abs ?_ | refine eb_int ?_)
  | ((with_reducible show Eb _ _ (rListOf _) _ _); refine eb_list ⟨_, (by first | rfl | assumption), ?_⟩)
  | ((with_reducible show Eb _ _ _ [Ag.v _] _); refine eb_len ⟨_, (by first | rfl | assumption), ?_⟩)
  | ((with_reducible show ite _ _ _); first | refine br_y rfl ?_ | refine br_n rfl ?_ | refine br_y (decide_eq_true (by walk_at "om")) ?_ | refine br_n (decide_eq_false (by walk_at "om")) ?_)
  | (with_reducible refine br_nt (by walk_at "om") ?_)
  | (with_reducible refine br_nf (by walk_at "om") ?_)
  | assumption
  | exact rfl
  | exact congrArg Dm.bl (decide_eq_true (by walk_at "om"))
  | exact congrArg Dm.bl (decide_eq_false (by walk_at "om"))
  | (with_reducible refine kb_t (by walk_at "om") ?_)
  | refine ⟨[_], rfl, sl15 (Nat.le_of_ble_eq_true rfl), ?_⟩
  | refine ⟨[_, _], rfl, sl15 (Nat.le_of_ble_eq_true rfl), ?_⟩
  | refine ⟨[_, _, _], rfl, sl15 (Nat.le_of_ble_eq_true rfl), ?_⟩
  | refine ⟨[], rfl, Nat.zero_le _, ?_⟩
  | exact ⟨_, rfl⟩
  | exact ⟨_, _, rfl⟩
  | exact ⟨_, _, _, rfl⟩
  | exact ⟨_, _, _, _, rfl⟩
  | refine ⟨_, _, rfl, rfl, ?_⟩
  | refine ⟨_, rfl, ?_⟩
  | refine ⟨_, _, rfl, ?_⟩
  | refine ⟨_, _, _, rfl, ?_⟩
  | refine ⟨_, _, _, _, rfl, ?_⟩
  | refine ⟨_, rfl, (by assumption), ?_⟩
  | refine ⟨_, _, rfl, (by assumption), ?_⟩
  | refine ⟨⟨_, _, rfl⟩, ?_⟩
  | refine And.intro (by first | assumption | walk_at "om") ?_
  | refine And.intro rfl ?_
  | (simp only [List.length_map]; assumption)
  | omega)
local macro_rules | `(tactic| walk_at "nx") => `(tactic| (repeat first | assumption | exact rfl | refine noX_set ?_ rfl))
local macro_rules | `(tactic| walk_at "gs") => `(tactic| (repeat first | exact gset_nil | exact gset_name (by decide) | exact gmono_nil | exact gmono_name | refine gset_tup ?_ | refine gmono_tup ?_ | refine gset_cons ?_ ?_ ?_ ?_ | refine gmono_cons ?_ ?_))
variable {P : Program} {w : World} {K : PySem.W.Frag} {mg : Str → Option Value} {base : Heap}
def W_is_integer : Wf := fun as k => ∃ i, as = [.v (.int i)] ∧ k (.bl true)
theorem h_is_integer (T : Kt K mg) : Held P w K mg base 1 T.a_is_integer (spD K W_is_integer) := by
  obtain ⟨fd, F⟩ := T.f_is_integer
  have sc := sc_is_integer
  refine held_of F sc (spD_len fun as k h => ?_) (fun _ _ _ _ _ _ us hl => match us, hl with | [_], _ => rfl) fun cdv A outer s H E hr => ?_
  · obtain ⟨i, rfl, _⟩ := h; rfl
  have hu := hu_of hr
  have hF_ : Cls K T.C_Family ∧ NoAttr K T.C_Family "own_lots" := ⟨T.isF.cl, T.naF⟩
  have hM_ : Cls K T.C_Map ∧ NoAttr K T.C_Map "own_families" := ⟨T.isM.cl, T.naM⟩
  have iF_ := T.isF
  have iM_ := T.isM
  refine ⟨_, (pss_one (ps_ret (pe_and (pe_callB (call_isiKK (K := K) rfl) (by rfl) T.n_isinstance (by decide +kernel) (pa_cons (pv 0) (pa_cons (pe_bltn (v := .ty "int") (u := .type "int") (by rfl) T.n_int (by decide +kernel) rfl) pa_nil))) (pe_one (pe_not (pe_callB (call_isiKK (K := K) rfl) (by rfl) T.n_isinstance (by decide +kernel) (pa_cons (pv 0) (pa_cons (pe_bltn (v := .ty "bool") (u := .type "bool") (by rfl) T.n_bool (by decide +kernel) rfl) pa_nil)))))))),
    fun vs Q sp => body_ok (fun Z as k hw => ?_) sp⟩
  obtain ⟨i, rfl, hk⟩ := hw
  try dsimp only [cxOf, Cx.nox]
  repeat walk_at "s"
def W_is_count : Wf := fun as k => ∃ i, as = [.v (.int i)] ∧ 0 ≤ i ∧ k (.bl true)
theorem h_is_count (T : Kt K mg) : Held P w K mg base 2 T.a_is_count (spD K W_is_count) := by
  obtain ⟨fd, F⟩ := T.f_is_count
  have sc := sc_is_count
  refine held_of F sc (spD_len fun as k h => ?_) (fun _ _ _ _ _ _ us hl => match us, hl with | [_], _ => rfl) fun cdv A outer s H E hr => ?_
  · obtain ⟨i, rfl, _⟩ := h; rfl
  have hu := hu_of hr
  have hF_ : Cls K T.C_Family ∧ NoAttr K T.C_Family "own_lots" := ⟨T.isF.cl, T.naF⟩
  have hM_ : Cls K T.C_Map ∧ NoAttr K T.C_Map "own_families" := ⟨T.isM.cl, T.naM⟩
  have iF_ := T.isF
  have iM_ := T.isM
  have G_is_integer := held_mono (h_is_integer (P := P) (w := w) (base := base) T) (show 1 ≤ 1 by decide)
  refine ⟨_, (pss_one (ps_ret (pe_and (pe_h G_is_integer hr rfl T.g_is_integer (pa_cons (pv 0) pa_nil)) (pe_one (pe_cmpR op_ge (pv 0) pe_int (nomark _)))))),
    fun vs Q sp => body_ok (fun Z as k hw => ?_) sp⟩
  obtain ⟨i, rfl, h0, hk⟩ := hw
  try dsimp only [cxOf, Cx.nox]
  repeat walk_at "s"
def W_is_list : Wf := fun as k => ∃ d ds, as = [.v d] ∧ d.seq = some ds ∧ k (.bl true)
theorem h_is_list (T : Kt K mg) : Held P w K mg base 1 T.a_is_list (spD K W_is_list) := by
  obtain ⟨fd, F⟩ := T.f_is_list
  have sc := sc_is_list
  refine held_of F sc (spD_len fun as k h => ?_) (fun _ _ _ _ _ _ us hl => match us, hl with | [_], _ => rfl) fun cdv A outer s H E hr => ?_
  · obtain ⟨i, _, rfl, _⟩ := h; rfl
  have hu := hu_of hr
  have hF_ : Cls K T.C_Family ∧ NoAttr K T.C_Family "own_lots" := ⟨T.isF.cl, T.naF⟩
  have hM_ : Cls K T.C_Map ∧ NoAttr K T.C_Map "own_families" := ⟨T.isM.cl, T.naM⟩
  have iF_ := T.isF
  have iM_ := T.isM
  refine ⟨_, (pss_one (ps_ret (pe_callB (call_isiTK (K := K) rfl) (by rfl) T.n_isinstance (by decide +kernel) (pa_cons (pv 0) (pa_cons (pe_tup (pa_cons (pe_bltn (v := .ty "list") (u := .type "list") (by rfl) T.n_list (by decide +kernel) rfl) (pa_cons (pe_bltn (v := .ty "tuple") (u := .type "tuple") (by rfl) T.n_tuple (by decide +kernel) rfl) pa_nil))) pa_nil))))),
    fun vs Q sp => body_ok (fun Z as k hw => ?_) sp⟩
  obtain ⟨d, ds, rfl, h0, hk⟩ := hw
  try dsimp only [cxOf, Cx.nox]
  cases d <;> first | (exact nomatch (show (none : Option (List Dm)) = some ds from h0); done) | (repeat walk_at "s")
def W_is_lane : Wf := fun as k => ∃ n i, as = [.v (.int n), .v (.int i)] ∧ 0 ≤ i ∧ i < n ∧ k (.bl true)
theorem h_is_lane (T : Kt K mg) : Held P w K mg base 3 T.a_is_lane (spD K W_is_lane) := by
  obtain ⟨fd, F⟩ := T.f_is_lane
  have sc := sc_is_lane
  refine held_of F sc (spD_len fun as k h => ?_) (fun _ _ _ _ _ _ us hl => match us, hl with | [_, _], _ => rfl) fun cdv A outer s H E hr => ?_
  · obtain ⟨i, _, rfl, _⟩ := h; rfl
  have hu := hu_of hr
  have hF_ : Cls K T.C_Family ∧ NoAttr K T.C_Family "own_lots" := ⟨T.isF.cl, T.naF⟩
  have hM_ : Cls K T.C_Map ∧ NoAttr K T.C_Map "own_families" := ⟨T.isM.cl, T.naM⟩
  have iF_ := T.isF
  have iM_ := T.isM
  have G_is_count := held_mono (h_is_count (P := P) (w := w) (base := base) T) (show 2 ≤ 2 by decide)
  refine ⟨_, (pss_one (ps_ret (pe_and (pe_h G_is_count hr rfl T.g_is_count (pa_cons (pv 1) pa_nil)) (pe_one (pe_cmpR op_lt (pv 1) (pv 0) (nomark _)))))),
    fun vs Q sp => body_ok (fun Z as k hw => ?_) sp⟩
  obtain ⟨n, i, rfl, h0, h1, hk⟩ := hw
  try dsimp only [cxOf, Cx.nox]
  repeat walk_at "s"
def W_want_lane : Wf := fun as k => ∃ n i, as = [.v (.int n), .v (.int i)] ∧ 0 ≤ i ∧ i < n ∧ k .non
theorem h_want_lane (T : Kt K mg) : Held P w K mg base 4 T.a_want_lane (spD K W_want_lane) := by
  obtain ⟨fd, F⟩ := T.f_want_lane
  have sc := sc_want_lane
  refine held_of F sc (spD_len fun as k h => ?_) (fun _ _ _ _ _ _ us hl => match us, hl with | [_, _], _ => rfl) fun cdv A outer s H E hr => ?_
  · obtain ⟨i, _, rfl, _⟩ := h; rfl
  have hu := hu_of hr
  have hF_ : Cls K T.C_Family ∧ NoAttr K T.C_Family "own_lots" := ⟨T.isF.cl, T.naF⟩
  have hM_ : Cls K T.C_Map ∧ NoAttr K T.C_Map "own_families" := ⟨T.isM.cl, T.naM⟩
  have iF_ := T.isF
  have iM_ := T.isM
  have G_is_lane_basics := held_mono (h_is_lane (P := P) (w := w) (base := base) T) (show 3 ≤ 3 by decide)
  refine ⟨_, (pss_one (ps_if (pt_not (pt_val (pe_h G_is_lane_basics hr rfl T.g_is_lane_basics (pa_cons (pv 0) (pa_cons (pv 1) pa_nil))))) (pss_one ps_never) pss_nil)),
    fun vs Q sp => body_ok (fun Z as k hw => ?_) sp⟩
  obtain ⟨n, i, rfl, h0, h1, hk⟩ := hw
  try dsimp only [cxOf, Cx.nox]
  repeat walk_at "s"
def W_want_many : Wf := fun as k => ∃ i, as = [.v (.int i)] ∧ 0 ≤ i ∧ k .non
theorem h_want_many (T : Kt K mg) : Held P w K mg base 3 T.a_want_many (spD K W_want_many) := by
  obtain ⟨fd, F⟩ := T.f_want_many
  have sc := sc_want_many
  refine held_of F sc (spD_len fun as k h => ?_) (fun _ _ _ _ _ _ us hl => match us, hl with | [_], _ => rfl) fun cdv A outer s H E hr => ?_
  · obtain ⟨i, rfl, _⟩ := h; rfl
  have hu := hu_of hr
  have hF_ : Cls K T.C_Family ∧ NoAttr K T.C_Family "own_lots" := ⟨T.isF.cl, T.naF⟩
  have hM_ : Cls K T.C_Map ∧ NoAttr K T.C_Map "own_families" := ⟨T.isM.cl, T.naM⟩
  have iF_ := T.isF
  have iM_ := T.isM
  have G_is_count := held_mono (h_is_count (P := P) (w := w) (base := base) T) (show 2 ≤ 2 by decide)
  refine ⟨_, (pss_one (ps_if (pt_not (pt_val (pe_h G_is_count hr rfl T.g_is_count (pa_cons (pv 0) pa_nil)))) (pss_one ps_never) pss_nil)),
    fun vs Q sp => body_ok (fun Z as k hw => ?_) sp⟩
  obtain ⟨i, rfl, h0, hk⟩ := hw
  try dsimp only [cxOf, Cx.nox]
  repeat walk_at "s"
def W_is_lane_lots : Wf := fun as k => ∃ i, as = [.v (.int i)] ∧ 0 ≤ i ∧ i < 12 ∧ k (.bl true)
theorem h_is_lane_lots (T : Kt K mg) : Held P w K mg base 2 T.a_is_lane_lots (spD K W_is_lane_lots) := by
  obtain ⟨fd, F⟩ := T.f_is_lane_lots
  have sc := sc_is_lane_lots
  obtain ⟨t_MOST_LANES, c_MOST_LANES⟩ := T.c_MOST_LANES
  refine held_of F sc (spD_len fun as k h => ?_) (fun _ _ _ _ _ _ us hl => match us, hl with | [_], _ => rfl) fun cdv A outer s H E hr => ?_
  · obtain ⟨i, rfl, _⟩ := h; rfl
  have hu := hu_of hr
  have hF_ : Cls K T.C_Family ∧ NoAttr K T.C_Family "own_lots" := ⟨T.isF.cl, T.naF⟩
  have hM_ : Cls K T.C_Map ∧ NoAttr K T.C_Map "own_families" := ⟨T.isM.cl, T.naM⟩
  have iF_ := T.isF
  have iM_ := T.isM
  have G_is_integer := held_mono (h_is_integer (P := P) (w := w) (base := base) T) (show 1 ≤ 1 by decide)
  refine ⟨_, (pss_one (ps_ret (pe_and (pe_h G_is_integer hr rfl T.g_is_integer (pa_cons (pv 0) pa_nil)) (pe_one (pe_chain op_le op_lt pe_int (pv 0) (pe_glob (v := .int 12) rfl c_MOST_LANES ⟨_, rfl⟩)))))),
    fun vs Q sp => body_ok (fun Z as k hw => ?_) sp⟩
  obtain ⟨i, rfl, h0, h1, hk⟩ := hw
  try dsimp only [cxOf, Cx.nox]
  repeat walk_at "s"
def W_is_entry : Wf := fun as k => ∃ e, as = [.v (enD e)] ∧ 0 ≤ e.1 ∧ e.1 < 12 ∧ k (.bl true)
theorem h_is_entry (T : Kt K mg) : Held P w K mg base 3 T.a_is_entry (spD K W_is_entry) := by
  obtain ⟨fd, F⟩ := T.f_is_entry
  have sc := sc_is_entry
  refine held_of F sc (spD_len fun as k h => ?_) (fun _ _ _ _ _ _ us hl => match us, hl with | [_], _ => rfl) fun cdv A outer s H E hr => ?_
  · obtain ⟨i, rfl, _⟩ := h; rfl
  have hu := hu_of hr
  have hF_ : Cls K T.C_Family ∧ NoAttr K T.C_Family "own_lots" := ⟨T.isF.cl, T.naF⟩
  have hM_ : Cls K T.C_Map ∧ NoAttr K T.C_Map "own_families" := ⟨T.isM.cl, T.naM⟩
  have iF_ := T.isF
  have iM_ := T.isM
  have G_is_lane_lots := held_mono (h_is_lane_lots (P := P) (w := w) (base := base) T) (show 2 ≤ 2 by decide)
  have G_is_integer := held_mono (h_is_integer (P := P) (w := w) (base := base) T) (show 1 ≤ 2 by decide)
  refine ⟨_, (pss_one (ps_ret (pe_and (pe_callB (call_isiKK (K := K) rfl) (by rfl) T.n_isinstance (by decide +kernel) (pa_cons (pv 0) (pa_cons (pe_bltn (v := .ty "tuple") (u := .type "tuple") (by rfl) T.n_tuple (by decide +kernel) rfl) pa_nil))) (pe_and (pe_cmpR op_eq (pe_callB (call_lenK (K := K) rfl) (by rfl) T.n_len (by decide +kernel) (pa_cons (pv 0) pa_nil)) pe_int (nomark _)) (pe_and (pe_h G_is_lane_lots hr rfl T.g_is_lane_lots (pa_cons (pe_ix (ix_tupK (K := K) rfl) (pv 0) pe_int (fun _ _ => rfl)) pa_nil)) (pe_one (pe_h G_is_integer hr rfl T.g_is_integer (pa_cons (pe_ix (ix_tupK (K := K) rfl) (pv 0) pe_int (fun _ _ => rfl)) pa_nil)))))))),
    fun vs Q sp => body_ok (fun Z as k hw => ?_) sp⟩
  obtain ⟨e, rfl, h0, h1, hk⟩ := hw
  try dsimp only [cxOf, Cx.nox]
  repeat walk_at "s"
def W_is_step : Wf := fun as k => ∃ e, as = [.v (enD e)] ∧ k (.bl true)
theorem h_is_step (T : Kt K mg) : Held P w K mg base 2 T.a_is_step (spD K W_is_step) := by
  obtain ⟨fd, F⟩ := T.f_is_step
  have sc := sc_is_step
  refine held_of F sc (spD_len fun as k h => ?_) (fun _ _ _ _ _ _ us hl => match us, hl with | [_], _ => rfl) fun cdv A outer s H E hr => ?_
  · obtain ⟨i, rfl, _⟩ := h; rfl
  have hu := hu_of hr
  have hF_ : Cls K T.C_Family ∧ NoAttr K T.C_Family "own_lots" := ⟨T.isF.cl, T.naF⟩
  have hM_ : Cls K T.C_Map ∧ NoAttr K T.C_Map "own_families" := ⟨T.isM.cl, T.naM⟩
  have iF_ := T.isF
  have iM_ := T.isM
  have G_is_integer := held_mono (h_is_integer (P := P) (w := w) (base := base) T) (show 1 ≤ 1 by decide)
  refine ⟨_, (pss_one (ps_ret (pe_and (pe_callB (call_isiKK (K := K) rfl) (by rfl) T.n_isinstance (by decide +kernel) (pa_cons (pv 0) (pa_cons (pe_bltn (v := .ty "tuple") (u := .type "tuple") (by rfl) T.n_tuple (by decide +kernel) rfl) pa_nil))) (pe_and (pe_cmpR op_eq (pe_callB (call_lenK (K := K) rfl) (by rfl) T.n_len (by decide +kernel) (pa_cons (pv 0) pa_nil)) pe_int (nomark _)) (pe_and (pe_h G_is_integer hr rfl T.g_is_integer (pa_cons (pe_ix (ix_tupK (K := K) rfl) (pv 0) pe_int (fun _ _ => rfl)) pa_nil)) (pe_one (pe_h G_is_integer hr rfl T.g_is_integer (pa_cons (pe_ix (ix_tupK (K := K) rfl) (pv 0) pe_int (fun _ _ => rfl)) pa_nil)))))))),
    fun vs Q sp => body_ok (fun Z as k hw => ?_) sp⟩
  obtain ⟨e, rfl, hk⟩ := hw
  try dsimp only [cxOf, Cx.nox]
  repeat walk_at "s"
end
end Ln
/-! K2: lots. -/
namespace Ln
open PySem PySem.Spec PyProof.Rows L2
section
local macro_rules | `(tactic| walk_at "kb") => `(tactic| first | exact kb_ii | exact kb_ib | exact kb_tt | exact kb_tl | exact kb_lt | exact kb_ll | exact kb_dd)
local macro_rules | `(tactic| walk_at "om") => `(tactic| first | omega | (simp only [List.length_map, List.length_cons, List.length_nil]; omega))
local macro_rules | `(tactic| walk_at "s") => `(tactic| first
  | ((with_reducible show Ev _ _ (tVar _) _ _); refine ev_var rfl ?_)
  | (with_reducible refine ev_int ?_)
  | (with_reducible refine ev_bl ?_)
  | (with_reducible refine ev_str ?_)
  | (with_reducible refine ev_non ?_)
  | (with_reducible refine ev_ty ?_)
  | (with_reducible refine ev_fn ?_)
  | (with_reducible refine ev_op ?_)
  | (with_reducible refine er_b0 ?_)
  | (with_reducible refine er_i0 ?_)
  | ((with_reducible show Er _ _ (rIxT _) _ _ _); first | refine er_ixT ⟨_, _, rfl, rfl, ?_⟩ | refine er_ixT ⟨_, _, rfl, (by assumption), ?_⟩)
  | ((with_reducible show Er _ _ (rIxL _) _ _ _); first | refine er_ixL ⟨_, rfl, ?_⟩ | refine er_ixL ⟨_, (by assumption), ?_⟩)
  | (with_reducible refine ev_neg ?_)
  | (with_reducible refine ev_prop ?_)
  | (with_reducible refine ev_gi ?_)
  | (with_reducible refine ev_meth ?_)
  | ((with_reducible show Ev _ _ (tMake _ _ _ _ _) _ _); refine ev_make ?_)
  | ((with_reducible show Ev _ _ (tFld _ _ _) _ _); refine ev_fldA (by assumption) ?_)
  | (with_reducible refine ev_din ?_)
  | (with_reducible refine ev_dnin ?_)
  | (with_reducible refine ev_dget ?_)
  | ((with_reducible show Ed _ _ (tVar _) _ _); first | refine ed_own rfl ?_ | refine ed_ro rfl ?_ | refine ed_frz rfl ?_ | refine ed_v (ev_var rfl ⟨_, rfl, ?_⟩))
  | (with_reducible refine ev_call ?_)
  | ((with_reducible show Ev _ _ (tCall (spF _ _) _ _ _) _ _); refine ev_ef (ef_callF ?_))
  | (with_reducible refine ev_cb ?_)
  | ((with_reducible show Ea _ _ (tCons (tVar _) _) _ _); refine ea_pot rfl ?_)
  | (with_reducible refine ea_nil ?_)
  | (with_reducible refine ea_v ?_)
  | (with_reducible refine ev_andV ?_)
  | (with_reducible refine ev_orV ?_)
  | (with_reducible refine ev_notV ?_)
  | (with_reducible refine ev_if ?_)
  | (with_reducible refine ev_chain ?_)
  | (with_reducible refine et_test ?_)
  | (with_reducible refine et_B ?_)
  | (with_reducible refine et_yes ?_)
  | (with_reducible refine et_and ?_)
  | (with_reducible refine et_or ?_)
  | (with_reducible refine et_not ?_)
  | (with_reducible refine et_ifT ?_)
  | (with_reducible refine es_seq ?_)
  | (with_reducible refine es_next ?_)
  | (with_reducible refine es_if ?_)
  | (with_reducible refine es_ret ?_)
  | (with_reducible refine es_set ?_)
  | (with_reducible refine es_asg ?_)
  | (with_reducible refine eg_nm ?_)
  | (with_reducible refine egs_cons ?_)
  | (with_reducible refine egs_nil ?_)
  | ((with_reducible show Eg _ _ (gTup _ _ _) _ _ _); refine eg_tup ⟨_, rfl, rfl, ?_⟩)
  | ((with_reducible show Es _ _ (tPar _ _ (tCons tDNewK _)) _ _); refine es_parO (by first | (simp [startE]; done) | decide) (ef_dnew ?_))
  | (with_reducible refine es_par ?_)
  | ((with_reducible show Er _ _ (rI _ _) _ _ _); first | refine er_i (Or.inl ⟨by omega, by omega⟩) ?_ | refine er_i (Or.inr ⟨by omega, by omega⟩) ?_ | refine er_i ⟨by omega, by omega⟩ ?_ | refine er_i (by omega) ?_)
  | (with_reducible refine es_drop ?_)
  | (with_reducible refine ev_tup ?_)
  | (with_reducible refine ev_lst ?_)
  | ((with_reducible show Eb _ _ (rIsi _) [_, Ag.v (Dm.ty _)] _); refine eb_isi rfl (by walk_at "kb") ?_)
  | ((with_reducible show Eb _ _ (rIsi _) [_, Ag.v (Dm.fn _)] _); refine eb_isiC (by assumption) ?_)
  | ((with_reducible show Eb _ _ (rIsiT _) _ _); refine eb_isi2 rfl (by walk_at "kb") (by walk_at "kb") ?_)
  | ((with_reducible show Er _ _ (fun _ _ _ _ => _) _ _ _); first | refine er_isN ?_ | refine er_notN ?_)
  | ((with_reducible show Er _ _ rEq _ _ _); refine er_eq ⟨_, rfl, ?_⟩)
  | ((with_reducible show Er _ _ rNe _ _ _); refine er_ne ⟨_, rfl, ?_⟩)
  | ((with_reducible show Eb _ _ _ [Ag.v (Dm.int _)] _); first | refine eb_abs ?_ | refine eb_int ?_)
  | ((with_reducible show Eb _ _ (rListOf _) _ _); refine eb_list ⟨_, (by first | rfl | assumption), ?_⟩)
  | ((with_reducible show Eb _ _ _ [Ag.v _] _); refine eb_len ⟨_, (by first | rfl | assumption), ?_⟩)
  | ((with_reducible show ite _ _ _); first | refine br_y rfl ?_ | refine br_n rfl ?_ | refine br_y (decide_eq_true (by walk_at "om")) ?_ | refine br_n (decide_eq_false (by walk_at "om")) ?_)
  | (with_reducible refine br_nt (by walk_at "om") ?_)
  | (with_reducible refine br_nf (by walk_at "om") ?_)
  | assumption
  | exact rfl
  | exact congrArg Dm.bl (decide_eq_true (by walk_at "om"))
  | exact congrArg Dm.bl (decide_eq_false (by walk_at "om"))
  | (with_reducible refine kb_t (by walk_at "om") ?_)
  | refine ⟨[_], rfl, sl15 (Nat.le_of_ble_eq_true rfl), ?_⟩
  | refine ⟨[_, _], rfl, sl15 (Nat.le_of_ble_eq_true rfl), ?_⟩
  | refine ⟨[_, _, _], rfl, sl15 (Nat.le_of_ble_eq_true rfl), ?_⟩
  | refine ⟨[], rfl, Nat.zero_le _, ?_⟩
  | exact ⟨_, rfl⟩
  | exact ⟨_, _, rfl⟩
  | exact ⟨_, _, _, rfl⟩
  | exact ⟨_, _, _, _, rfl⟩
  | refine ⟨_, _, rfl, rfl, ?_⟩
  | refine ⟨_, rfl, ?_⟩
  | refine ⟨_, _, rfl, ?_⟩
  | refine ⟨_, _, _, rfl, ?_⟩
  | refine ⟨_, _, _, _, rfl, ?_⟩
  | refine ⟨_, rfl, (by assumption), ?_⟩
  | refine ⟨_, _, rfl, (by assumption), ?_⟩
  | refine ⟨⟨_, _, rfl⟩, ?_⟩
  | refine And.intro (by first | assumption | walk_at "om") ?_
  | refine And.intro rfl ?_
  | (simp only [List.length_map]; assumption)
  | omega)
local macro_rules | `(tactic| walk_at "nx") => `(tactic| (repeat first | assumption | exact rfl | refine noX_set ?_ rfl))
local macro_rules | `(tactic| walk_at "gs") => `(tactic| (repeat first | exact gset_nil | exact gset_name (by decide) | exact gmono_nil | exact gmono_name | refine gset_tup ?_ | refine gmono_tup ?_ | refine gset_cons ?_ ?_ ?_ ?_ | refine gmono_cons ?_ ?_))
theorem sln' {n m : Nat} (h : n ≤ m) (h2 : m ≤ 100000 := by decide) : n < sizeLine := Nat.lt_of_le_of_lt (Nat.le_trans h h2) (by decide)
variable {P : Program} {w : World} {K : PySem.W.Frag} {mg : Str → Option Value} {base : Heap}
def W_is_content : Wf := fun as k => ∃ (d : Dm) (ns : List Int), as = [.v d] ∧ d.seq = some (ns.map .int) ∧ 1 ≤ ns.length ∧ ns.length ≤ 12 ∧ k (.bl true)
theorem h_is_content (T : Kt K mg) : Held P w K mg base 2 T.a_is_content (spD K W_is_content) := by
  obtain ⟨fd, F⟩ := T.f_is_content
  have sc := sc_is_content
  obtain ⟨t_MOST, c_MOST⟩ := T.c_MOST
  refine held_of F sc (spD_len fun as k h => ?_) (fun _ _ _ _ _ _ us hl => match us, hl with | [_], _ => rfl) fun cdv A outer s H E hr => ?_
  · obtain ⟨i, _, rfl, _⟩ := h; rfl
  have hu := hu_of hr
  have hF_ : Cls K T.C_Family ∧ NoAttr K T.C_Family "own_lots" := ⟨T.isF.cl, T.naF⟩
  have hM_ : Cls K T.C_Map ∧ NoAttr K T.C_Map "own_families" := ⟨T.isM.cl, T.naM⟩
  have iF_ := T.isF
  have iM_ := T.isM
  have G_is_list := held_mono (h_is_list (P := P) (w := w) (base := base) T) (show 1 ≤ 1 by decide)
  have G_is_integer := held_mono (h_is_integer (P := P) (w := w) (base := base) T) (show 1 ≤ 1 by decide)
  refine ⟨_, (pss_one (ps_ret (pe_and (pe_h G_is_list hr rfl T.g_is_list (pa_cons (pv 0) pa_nil)) (pe_and (pe_chain op_le op_le pe_int (pe_callB (call_lenK (K := K) rfl) (by rfl) T.n_len (by decide +kernel) (pa_cons (pv 0) pa_nil)) (pe_glob (v := .int 12) rfl c_MOST ⟨_, rfl⟩)) (pe_one (pe_callB (cr_allK (K := K) rfl) (by rfl) T.n_all (by decide +kernel) (pa_cons (pe_lc (own := [("number", 1)]) (g := gName 1) (tt := tYes) rfl sc.nd (pi_or (pi_listK (K := K) rfl (pv 0)) (pi_tupK (K := K) rfl (pv 0))) (blkOk_by (N := N_is_content) (sc := defScope s_is_content) (by decide +kernel)) (fun _ _ _ _ _ => (pg_name (i := 1) sc.nd rfl (by first | exact Or.inl rfl | exact Or.inr rfl))) (fun _ _ _ _ _ => pts_nil) (fun _ _ _ _ _ => (pe_h G_is_integer hr rfl T.g_is_integer (pa_cons (pv 1) pa_nil)))) pa_nil))))))),
    fun vs Q sp => body_ok (fun Z as k hw => ?_) sp⟩
  obtain ⟨d, ns, rfl, h0, h1, h2, hk⟩ := hw
  try dsimp only [cxOf, Cx.nox]
  repeat walk_at "s"
  refine ev_ef (ef_map (fun _ => .bl true) (by walk_at "gs") (by walk_at "gs") (ej (ei_seqV rfl h0 ⟨ns, .int, rfl, sln' h2, fun Z' x hx => eg_nm ?_, ?_⟩)))
  · repeat walk_at "s"
  · refine ea_nil (eb_allT hk)
def W_want_content_of : Wf := fun as k => ∃ (n : Int) (d : Dm) (ns : List Int), as = [.v (.int n), .v d] ∧ d.seq = some (ns.map .int) ∧ (ns.length : Int) = n ∧ 1 ≤ ns.length ∧ ns.length ≤ 12 ∧ k .non
theorem h_want_content_of (T : Kt K mg) : Held P w K mg base 3 T.a_want_content_of (spD K W_want_content_of) := by
  obtain ⟨fd, F⟩ := T.f_want_content_of
  have sc := sc_want_content_of
  refine held_of F sc (spD_len fun as k h => ?_) (fun _ _ _ _ _ _ us hl => match us, hl with | [_, _], _ => rfl) fun cdv A outer s H E hr => ?_
  · obtain ⟨_, _, i, rfl, _⟩ := h; rfl
  have hu := hu_of hr
  have hF_ : Cls K T.C_Family ∧ NoAttr K T.C_Family "own_lots" := ⟨T.isF.cl, T.naF⟩
  have hM_ : Cls K T.C_Map ∧ NoAttr K T.C_Map "own_families" := ⟨T.isM.cl, T.naM⟩
  have iF_ := T.isF
  have iM_ := T.isM
  have G_is_content := held_mono (h_is_content (P := P) (w := w) (base := base) T) (show 2 ≤ 2 by decide)
  refine ⟨_, (pss_one (ps_if (PW.pt (pw_or (pt_not (pt_val (pe_h G_is_content hr rfl T.g_is_content (pa_cons (pv 1) pa_nil)))) (pw_or1 (pt_cmpR op_ne (pe_callB (call_lenK (K := K) rfl) (by rfl) T.n_len (by decide +kernel) (pa_cons (pv 1) pa_nil)) (pv 0) (nomark _))))) (pss_one ps_never) pss_nil)),
    fun vs Q sp => body_ok (fun Z as k hw => ?_) sp⟩
  obtain ⟨n, d, ns, rfl, h0, h1, h2, h3, hk⟩ := hw
  try dsimp only [cxOf, Cx.nox]
  repeat walk_at "s"
/-- a lot of lanes below n -/
structure Lk (n : Int) (l : Lot) : Prop where
  ne : 1 ≤ l.length
  few : l.length ≤ 12
  low : ∀ e ∈ l, 0 ≤ e.1 ∧ e.1 < n
  up : l.Pairwise fun a b => a.1 < b.1
theorem zip_tail {α : Type} {R : α → α → Prop} : ∀ {l : List α}, l.Pairwise R → ∀ p ∈ l.zip (l.drop 1), R p.1 p.2
  | [], _, p, h => by simp at h
  | [a], _, p, h => by simp at h
  | a :: b :: l, h, p, hp => by
    have hp : p ∈ (a, b) :: (b :: l).zip ((b :: l).drop 1) := by simpa using hp
    rcases List.mem_cons.mp hp with e | hp
    · subst e
      exact (List.pairwise_cons.mp h).1 b (List.mem_cons_self ..)
    · exact zip_tail (List.pairwise_cons.mp h).2 p hp
theorem sIx1 {n : Nat} (h : 1 ≤ n) : HT.sIx n 0 (some 1) = 1 := by
  unfold HT.sIx
  simp
  omega
theorem cut1 {α : Type} (l : List α) (h : 1 ≤ l.length) : cutL l (some 1) none = l.drop 1 := by
  unfold cutL
  have e1 := sIx1 h
  have e2 : HT.sIx l.length l.length none = l.length := rfl
  rw [e1, e2]
  exact List.take_of_length_le (by simp)
def W_is_lot : Wf := fun as k => ∃ (l : Lot), as = [.v (lotD l)] ∧ Lk 12 l ∧ k (.bl true)
theorem h_is_lot (T : Kt K mg) : Held P w K mg base 4 T.a_is_lot (spD K W_is_lot) := by
  obtain ⟨fd, F⟩ := T.f_is_lot
  have sc := sc_is_lot
  obtain ⟨t_MOST_LANES, c_MOST_LANES⟩ := T.c_MOST_LANES
  refine held_of F sc (spD_len fun as k h => ?_) (fun _ _ _ _ _ _ us hl => match us, hl with | [_], _ => rfl) fun cdv A outer s H E hr => ?_
  · obtain ⟨_, rfl, _⟩ := h; rfl
  have hu := hu_of hr
  have hF_ : Cls K T.C_Family ∧ NoAttr K T.C_Family "own_lots" := ⟨T.isF.cl, T.naF⟩
  have hM_ : Cls K T.C_Map ∧ NoAttr K T.C_Map "own_families" := ⟨T.isM.cl, T.naM⟩
  have iF_ := T.isF
  have iM_ := T.isM
  have G_is_entry := held_mono (h_is_entry (P := P) (w := w) (base := base) T) (show 3 ≤ 3 by decide)
  refine ⟨_, (pss_cons (ps_if (PW.pt (pw_or (pt_not (pt_val (pe_callB (call_isiKK (K := K) rfl) (by rfl) T.n_isinstance (by decide +kernel) (pa_cons (pv 0) (pa_cons (pe_bltn (v := .ty "tuple") (u := .type "tuple") (by rfl) T.n_tuple (by decide +kernel) rfl) pa_nil))))) (pw_or1 (pt_not (pt_chain op_le op_le pe_int (pe_callB (call_lenK (K := K) rfl) (by rfl) T.n_len (by decide +kernel) (pa_cons (pv 0) pa_nil)) (pe_glob (v := .int 12) rfl c_MOST_LANES ⟨_, rfl⟩)))))) (pss_one (ps_ret pe_bl)) pss_nil)
      (pss_cons (ps_if (pt_not (pt_val (pe_callB (cr_allK (K := K) rfl) (by rfl) T.n_all (by decide +kernel) (pa_cons (pe_lc (own := [("entry", 1)]) (g := gName 1) (tt := tYes) rfl sc.nd (pi_tupK (K := K) rfl (pv 0)) (blkOk_by (N := N_is_lot) (sc := defScope s_is_lot) (by decide +kernel)) (fun _ _ _ _ _ => (pg_name (i := 1) sc.nd rfl (by first | exact Or.inl rfl | exact Or.inr rfl))) (fun _ _ _ _ _ => pts_nil) (fun _ _ _ _ _ => (pe_h G_is_entry hr rfl T.g_is_entry (pa_cons (pv 1) pa_nil)))) pa_nil)))) (pss_one (ps_ret pe_bl)) pss_nil)
      (pss_one (ps_ret (pe_callB (cr_allK (K := K) rfl) (by rfl) T.n_all (by decide +kernel) (pa_cons (pe_lc (own := [("near", 2), ("far", 3)]) (g := gTup K 2 (gCons (gName 2) (gCons (gName 3) (gNil)))) (tt := tYes) rfl sc.nd (RZ.pi_zipA (by rfl) T.n_zip (pa_cons (pv 0) (pa_cons (pe_slice (sl_tupK (K := K) rfl) (pv 0) (po_some pe_int) po_none) pa_nil))) (blkOk_by (N := N_is_lot) (sc := defScope s_is_lot) (by decide +kernel)) (fun _ _ _ _ _ => (pg_tupK (K := K) (n := 2) rfl rfl (pgs_cons (pg_name (i := 2) sc.nd rfl (by first | exact Or.inl rfl | exact Or.inr rfl)) (pgs_cons (pg_name (i := 3) sc.nd rfl (by first | exact Or.inl rfl | exact Or.inr rfl)) pgs_nil)))) (fun _ _ _ _ _ => pts_nil) (fun _ _ _ _ _ => (pe_cmpR op_lt (pe_ix (ix_tupK (K := K) rfl) (pv 2) pe_int (fun _ _ => rfl)) (pe_ix (ix_tupK (K := K) rfl) (pv 3) pe_int (fun _ _ => rfl)) (nomark _)))) pa_nil)))))),
    fun vs Q sp => body_ok (fun Z as k hw => ?_) sp⟩
  obtain ⟨l, rfl, h0, hk⟩ := hw
  have h1 := h0.ne
  have h2 := h0.few
  try dsimp only [cxOf, Cx.nox]
  repeat walk_at "s"
  refine ev_ef (ef_map (fun _ => .bl true) (by walk_at "gs") (by walk_at "gs") (ej (ei_tup (ev_var rfl ⟨_, rfl, l, enD, rfl, sln' h2, fun Z' x hx => eg_nm ?_, ?_⟩))))
  · have h5 := h0.low x hx
    repeat walk_at "s"
  · refine ea_nil (eb_allT ?_)
    repeat walk_at "s"
    refine ev_ef (ef_map (fun (_ : (Int × Int) × (Int × Int)) => .bl true) (by walk_at "gs") (by walk_at "gs") (ej (ei_zipT ?_)))
    repeat walk_at "s"
    refine ev_slT (ev_var rfl ⟨_, rfl, eo_some (ev_int ⟨_, rfl, eo_no ⟨?_, ?_⟩⟩)⟩)
    · rw [List.length_map, sIx1 h1]
      exact fun z => absurd z.1 (by decide)
    · rw [cutD_map, cut1 l h1]
      refine ea_nil ⟨_, _, _, _, rfl, rfl, rfl, l.zip (l.drop 1), fun p => .tup [enD p.1, enD p.2], zipD_map _ _ _ _, ?_, fun Z' p hp => ?_, ?_⟩
      · rw [List.length_zip]
        exact sln' (Nat.le_trans (Nat.min_le_left _ _) h2)
      · have h6 := zip_tail h0.up p hp
        refine eg_tup ⟨_, rfl, rfl, egs_cons (eg_nm (egs_cons (eg_nm (egs_nil ?_))))⟩
        repeat walk_at "s"
      · exact ea_nil (eb_allT hk)
end
end Ln
/-! K3: lots kept. -/
namespace Ln
open PySem PySem.Spec PyProof.Rows L2
section
local macro_rules | `(tactic| walk_at "kb") => `(tactic| first | exact kb_ii | exact kb_ib | exact kb_tt | exact kb_tl | exact kb_lt | exact kb_ll | exact kb_dd)
local macro_rules | `(tactic| walk_at "om") => `(tactic| first | omega | (simp only [List.length_map, List.length_cons, List.length_nil]; omega))
local macro_rules | `(tactic| walk_at "s") => `(tactic| first
  | ((with_reducible show Ev _ _ (tVar _) _ _); refine ev_var rfl ?_)
  | (with_reducible refine ev_int ?_)
  | (with_reducible refine ev_bl ?_)
  | (with_reducible refine ev_str ?_)
  | (with_reducible refine ev_non ?_)
  | (with_reducible refine ev_ty ?_)
  | (with_reducible refine ev_fn ?_)
  | (with_reducible refine ev_op ?_)
  | (with_reducible refine er_b0 ?_)
  | (with_reducible refine er_i0 ?_)
  | ((with_reducible show Er _ _ (rIxT _) _ _ _); first | refine er_ixT ⟨_, _, rfl, rfl, ?_⟩ | refine er_ixT ⟨_, _, rfl, (by assumption), ?_⟩)
  | ((with_reducible show Er _ _ (rIxL _) _ _ _); first | refine er_ixL ⟨_, rfl, ?_⟩ | refine er_ixL ⟨_, (by assumption), ?_⟩)
  | (with_reducible refine ev_neg ?_)
  | (with_reducible refine ev_prop ?_)
  | (with_reducible refine ev_gi ?_)
  | (with_reducible refine ev_meth ?_)
  | ((with_reducible show Ev _ _ (tMake _ _ _ _ _) _ _); refine ev_make ?_)
  | ((with_reducible show Ev _ _ (tFld _ _ _) _ _); refine ev_fldA (by assumption) ?_)
  | (with_reducible refine ev_din ?_)
  | (with_reducible refine ev_dnin ?_)
  | (with_reducible refine ev_dget ?_)
  | ((with_reducible show Ed _ _ (tVar _) _ _); first | refine ed_own rfl ?_ | refine ed_ro rfl ?_ | refine ed_frz rfl ?_ | refine ed_v (ev_var rfl ⟨_, rfl, ?_⟩))
  | (with_reducible refine ev_call ?_)
  | ((with_reducible show Ev _ _ (tCall (spF _ _) _ _ _) _ _); refine ev_ef (ef_callF ?_))
  | (with_reducible refine ev_cb ?_)
  | ((with_reducible show Ea _ _ (tCons (tVar _) _) _ _); refine ea_pot rfl ?_)
  | (with_reducible refine ea_nil ?_)
  | (with_reducible refine ea_v ?_)
  | (with_reducible refine ev_andV ?_)
  | (with_reducible refine ev_orV ?_)
  | (with_reducible refine ev_notV ?_)
  | (with_reducible refine ev_if ?_)
  | (with_reducible refine ev_chain ?_)
  | (with_reducible refine et_test ?_)
  | (with_reducible refine et_B ?_)
  | (with_reducible refine et_yes ?_)
  | (with_reducible refine et_and ?_)
  | (with_reducible refine et_or ?_)
  | (with_reducible refine et_not ?_)
  | (with_reducible refine et_ifT ?_)
  | (with_reducible refine es_seq ?_)
  | (with_reducible refine es_next ?_)
  | (with_reducible refine es_if ?_)
  | (with_reducible refine es_ret ?_)
  | (with_reducible refine es_set ?_)
  | (with_reducible refine es_asg ?_)
  | (with_reducible refine eg_nm ?_)
  | (with_reducible refine egs_cons ?_)
  | (with_reducible refine egs_nil ?_)
  | ((with_reducible show Eg _ _ (gTup _ _ _) _ _ _); refine eg_tup ⟨_, rfl, rfl, ?_⟩)
  | ((with_reducible show Es _ _ (tPar _ _ (tCons tDNewK _)) _ _); refine es_parO (by first | (simp [startE]; done) | decide) (ef_dnew ?_))
  | (with_reducible refine es_par ?_)
  | ((with_reducible show Er _ _ (rI _ _) _ _ _); first | refine er_i (Or.inl ⟨by omega, by omega⟩) ?_ | refine er_i (Or.inr ⟨by omega, by omega⟩) ?_ | refine er_i ⟨by omega, by omega⟩ ?_ | refine er_i (by omega) ?_)
  | (with_reducible refine es_drop ?_)
  | (with_reducible refine ev_tup ?_)
  | (with_reducible refine ev_lst ?_)
  | ((with_reducible show Eb _ _ (rIsi _) [_, Ag.v (Dm.ty _)] _); refine eb_isi rfl (by walk_at "kb") ?_)
  | ((with_reducible show Eb _ _ (rIsi _) [_, Ag.v (Dm.fn _)] _); refine eb_isiC (by assumption) ?_)
  | ((with_reducible show Eb _ _ (rIsiT _) _ _); refine eb_isi2 rfl (by walk_at "kb") (by walk_at "kb") ?_)
  | ((with_reducible show Er _ _ (fun _ _ _ _ => _) _ _ _); first | refine er_isN ?_ | refine er_notN ?_)
  | ((with_reducible show Er _ _ rEq _ _ _); refine er_eq ⟨_, rfl, ?_⟩)
  | ((with_reducible show Er _ _ rNe _ _ _); refine er_ne ⟨_, rfl, ?_⟩)
  | ((with_reducible show Eb _ _ _ [Ag.v (Dm.int _)] _); first | refine eb_abs ?_ | refine eb_int ?_)
  | ((with_reducible show Eb _ _ (rListOf _) _ _); refine eb_list ⟨_, (by first | rfl | assumption), ?_⟩)
  | ((with_reducible show Eb _ _ _ [Ag.v _] _); refine eb_len ⟨_, (by first | rfl | assumption), ?_⟩)
  | ((with_reducible show ite _ _ _); first | refine br_y rfl ?_ | refine br_n rfl ?_ | refine br_y (decide_eq_true (by walk_at "om")) ?_ | refine br_n (decide_eq_false (by walk_at "om")) ?_)
  | (with_reducible refine br_nt (by walk_at "om") ?_)
  | (with_reducible refine br_nf (by walk_at "om") ?_)
  | assumption
  | exact rfl
  | exact congrArg Dm.bl (decide_eq_true (by walk_at "om"))
  | exact congrArg Dm.bl (decide_eq_false (by walk_at "om"))
  | (with_reducible refine kb_t (by walk_at "om") ?_)
  | refine ⟨[_], rfl, sl15 (Nat.le_of_ble_eq_true rfl), ?_⟩
  | refine ⟨[_, _], rfl, sl15 (Nat.le_of_ble_eq_true rfl), ?_⟩
  | refine ⟨[_, _, _], rfl, sl15 (Nat.le_of_ble_eq_true rfl), ?_⟩
  | refine ⟨[], rfl, Nat.zero_le _, ?_⟩
  | exact ⟨_, rfl⟩
  | exact ⟨_, _, rfl⟩
  | exact ⟨_, _, _, rfl⟩
  | exact ⟨_, _, _, _, rfl⟩
  | refine ⟨_, _, rfl, rfl, ?_⟩
  | refine ⟨_, rfl, ?_⟩
  | refine ⟨_, _, rfl, ?_⟩
  | refine ⟨_, _, _, rfl, ?_⟩
  | refine ⟨_, _, _, _, rfl, ?_⟩
  | refine ⟨_, rfl, (by assumption), ?_⟩
  | refine ⟨_, _, rfl, (by assumption), ?_⟩
  | refine ⟨⟨_, _, rfl⟩, ?_⟩
  | refine And.intro (by first | assumption | walk_at "om") ?_
  | refine And.intro rfl ?_
  | (simp only [List.length_map]; assumption)
  | omega)
local macro_rules | `(tactic| walk_at "nx") => `(tactic| (repeat first | assumption | exact rfl | refine noX_set ?_ rfl))
local macro_rules | `(tactic| walk_at "gs") => `(tactic| (repeat first | exact gset_nil | exact gset_name (by decide) | exact gmono_nil | exact gmono_name | refine gset_tup ?_ | refine gmono_tup ?_ | refine gset_cons ?_ ?_ ?_ ?_ | refine gmono_cons ?_ ?_))
variable {P : Program} {w : World} {K : PySem.W.Frag} {mg : Str → Option Value} {base : Heap}
def W_want_lots : Wf := fun as k => ∃ (ls : List Lot), as = [.v (lotsD ls)] ∧ 1 ≤ ls.length ∧ ls.length ≤ 200 ∧ (∀ l ∈ ls, Lk 12 l) ∧ k .non
theorem h_want_lots (T : Kt K mg) : Held P w K mg base 5 T.a_want_lots (spD K W_want_lots) := by
  obtain ⟨fd, F⟩ := T.f_want_lots
  have sc := sc_want_lots
  obtain ⟨t_MOST_GIVEN, c_MOST_GIVEN⟩ := T.c_MOST_GIVEN
  refine held_of F sc (spD_len fun as k h => ?_) (fun _ _ _ _ _ _ us hl => match us, hl with | [_], _ => rfl) fun cdv A outer s H E hr => ?_
  · obtain ⟨_, rfl, _⟩ := h; rfl
  have hu := hu_of hr
  have hF_ : Cls K T.C_Family ∧ NoAttr K T.C_Family "own_lots" := ⟨T.isF.cl, T.naF⟩
  have hM_ : Cls K T.C_Map ∧ NoAttr K T.C_Map "own_families" := ⟨T.isM.cl, T.naM⟩
  have iF_ := T.isF
  have iM_ := T.isM
  have G_is_list := held_mono (h_is_list (P := P) (w := w) (base := base) T) (show 1 ≤ 4 by decide)
  have G_is_lot := held_mono (h_is_lot (P := P) (w := w) (base := base) T) (show 4 ≤ 4 by decide)
  refine ⟨_, (pss_cons (ps_if (PW.pt (pw_or (pt_not (pt_val (pe_h G_is_list hr rfl T.g_is_list (pa_cons (pv 0) pa_nil)))) (pw_or1 (pt_cmpR op_eq (pe_callB (call_lenK (K := K) rfl) (by rfl) T.n_len (by decide +kernel) (pa_cons (pv 0) pa_nil)) pe_int (nomark _))))) (pss_one ps_never) pss_nil)
      (pss_cons (ps_for PassesOwn.never rfl (pi_enum (by rfl) T.n_enumerate (pa_cons (pv 0) pa_nil)) (pg_tupK (K := K) (n := 2) rfl rfl (pgs_cons (pg_name (i := 1) sc.nd rfl (by first | exact Or.inl rfl | exact Or.inr rfl)) (pgs_cons (pg_name (i := 2) sc.nd rfl (by first | exact Or.inl rfl | exact Or.inr rfl)) pgs_nil))) (pss_one (ps_if (pt_not (pt_val (pe_h G_is_lot hr rfl T.g_is_lot (pa_cons (pv 2) pa_nil)))) (pss_one ps_never) pss_nil)))
      (pss_one (ps_if (pt_cmpR op_gt (pe_callB (call_lenK (K := K) rfl) (by rfl) T.n_len (by decide +kernel) (pa_cons (pv 0) pa_nil)) (pe_glob (v := .int 200) rfl c_MOST_GIVEN ⟨_, rfl⟩) (nomark _)) (pss_one ps_never) pss_nil)))),
    fun vs Q sp => body_ok (fun Z as k hw => ?_) sp⟩
  obtain ⟨ls, rfl, h0, h1, h2, hk⟩ := hw
  try dsimp only [cxOf, Cx.nox]
  repeat walk_at "s"
  refine es_forA ls.zipIdx (fun p => .tup [.int (p.2 : Nat), lotD p.1]) (fun i e => ∃ o1 o2, e = [some (.v (lotsD ls)), o1, o2]) (ei_enum ?_) ⟨_, _, rfl⟩ (fun i p e hp hI => ?_) (fun e hI => ?_)
  · repeat walk_at "s"
    exact enumD_map _ _ _
  · obtain ⟨o1, o2, rfl⟩ := hI
    have hl : p.1 ∈ ls := (List.mem_zipIdx' (List.mem_of_getElem? hp)).2 ▸ List.getElem_mem _
    have hl2 := h2 _ hl
    refine eg_tup ⟨_, rfl, rfl, egs_cons (eg_nm (egs_cons (eg_nm (egs_nil ?_))))⟩
    repeat walk_at "s"
  · obtain ⟨o1, o2, rfl⟩ := hI
    repeat walk_at "s"
def W_limited : Wf := fun as k => ∃ (ls : List Lot), as = [.v (lotsD ls)] ∧ ls.length ≤ 60 ∧ k (lotsD ls)
theorem h_limited (T : Kt K mg) : Held P w K mg base 1 T.a_limited (spD K W_limited) := by
  obtain ⟨fd, F⟩ := T.f_limited
  have sc := sc_limited
  obtain ⟨t_MOST_LOTS, c_MOST_LOTS⟩ := T.c_MOST_LOTS
  refine held_of F sc (spD_len fun as k h => ?_) (fun _ _ _ _ _ _ us hl => match us, hl with | [_], _ => rfl) fun cdv A outer s H E hr => ?_
  · obtain ⟨_, rfl, _⟩ := h; rfl
  have hu := hu_of hr
  have hF_ : Cls K T.C_Family ∧ NoAttr K T.C_Family "own_lots" := ⟨T.isF.cl, T.naF⟩
  have hM_ : Cls K T.C_Map ∧ NoAttr K T.C_Map "own_families" := ⟨T.isM.cl, T.naM⟩
  have iF_ := T.isF
  have iM_ := T.isM
  refine ⟨_, (pss_cons (ps_if (pt_cmpR op_gt (pe_callB (call_lenK (K := K) rfl) (by rfl) T.n_len (by decide +kernel) (pa_cons (pv 0) pa_nil)) (pe_glob (v := .int 60) rfl c_MOST_LOTS ⟨_, rfl⟩) (nomark _)) (pss_one ps_never) pss_nil)
      (pss_one (ps_ret (pv 0)))),
    fun vs Q sp => body_ok (fun Z as k hw => ?_) sp⟩
  obtain ⟨ls, rfl, h0, hk⟩ := hw
  try dsimp only [cxOf, Cx.nox]
  repeat walk_at "s"
def W_lanes_for : Wf := fun as k => ∃ (ls : List Lot), as = [.v (lotsD ls)] ∧ (∀ l ∈ ls, Lk 12 l) ∧ ∀ m : Int, 0 ≤ m → (∀ L : Int, 0 ≤ L → (∀ l ∈ ls, ∀ e ∈ l, e.1 < L) → m ≤ L) → k (.int m)
theorem at_last' {l : Lot} (h : 1 ≤ l.length) : ∃ e ∈ l, atI (l.map enD) (-1) = some (enD e) := by
  have hl : l.length - 1 < l.length := by omega
  have e : l = l.take (l.length - 1) ++ [l[l.length - 1]] := by
    have h1 := List.take_append_getElem hl
    rw [show l.length - 1 + 1 = l.length by omega, List.take_length] at h1
    exact h1.symm
  refine ⟨l[l.length - 1], List.getElem_mem _, ?_⟩
  have h2 : l.map enD = (l.take (l.length - 1)).map enD ++ [enD l[l.length - 1]] := by
    have h3 := congrArg (List.map enD) e
    rw [List.map_append] at h3
    exact h3
  rw [h2]
  exact atI_last _ _
theorem h_lanes_for (T : Kt K mg) : Held P w K mg base 1 T.a_lanes_for (spD K W_lanes_for) := by
  obtain ⟨fd, F⟩ := T.f_lanes_for
  have sc := sc_lanes_for
  refine held_of F sc (spD_len fun as k h => ?_) (fun _ _ _ _ _ _ us hl => match us, hl with | [_], _ => rfl) fun cdv A outer s H E hr => ?_
  · obtain ⟨_, rfl, _⟩ := h; rfl
  have hu := hu_of hr
  have hF_ : Cls K T.C_Family ∧ NoAttr K T.C_Family "own_lots" := ⟨T.isF.cl, T.naF⟩
  have hM_ : Cls K T.C_Map ∧ NoAttr K T.C_Map "own_families" := ⟨T.isM.cl, T.naM⟩
  have iF_ := T.isF
  have iM_ := T.isM
  refine ⟨_, (pss_cons (ps_set (i := 1) sc.nd rfl (by first | exact Or.inl rfl | exact Or.inr rfl) pe_int)
      (pss_cons (ps_for PassesOwn.never rfl (pi_listK (K := K) rfl (pv 0)) (pg_name (i := 2) sc.nd rfl (by first | exact Or.inl rfl | exact Or.inr rfl)) (pss_one (ps_set (i := 1) sc.nd rfl (by first | exact Or.inl rfl | exact Or.inr rfl) (pe_ifExp (pt_cmpR op_ge (pe_ix (ix_tupK (K := K) rfl) (pe_ix (ix_tupK (K := K) rfl) (pv 2) (pe_un un_neg pe_int) (fun _ _ => rfl)) pe_int (fun _ _ => rfl)) (pv 1) (nomark _)) (pe_op op_add (pe_ix (ix_tupK (K := K) rfl) (pe_ix (ix_tupK (K := K) rfl) (pv 2) (pe_un un_neg pe_int) (fun _ _ => rfl)) pe_int (fun _ _ => rfl)) pe_int) (pv 1)))))
      (pss_one (ps_ret (pv 1))))),
    fun vs Q sp => body_ok (fun Z as k hw => ?_) sp⟩
  obtain ⟨ls, rfl, h0, hk⟩ := hw
  try dsimp only [cxOf, Cx.nox]
  repeat walk_at "s"
  refine es_forA ls lotD (fun i e => ∃ (m : Int) (o : Option Cl), e = [some (.v (lotsD ls)), some (.v (.int m)), o] ∧ 0 ≤ m ∧ ∀ L : Int, 0 ≤ L → (∀ l ∈ ls.take i, ∀ e ∈ l, e.1 < L) → m ≤ L) (ei_list ?_) ⟨0, _, rfl, by decide, fun L h _ => h⟩ (fun i l e hl hI => ?_) (fun e hI => ?_)
  · repeat walk_at "s"
  · obtain ⟨m, o, rfl, h1, h2⟩ := hI
    have hl2 := h0 l (List.mem_of_getElem? hl)
    obtain ⟨x, hx, hx2⟩ := at_last' hl2.ne
    have hx3 := (hl2.low x hx).1
    have tk : ls.take (i + 1) = ls.take i ++ [l] := by rw [List.take_succ, hl]; rfl
    refine eg_nm ?_
    repeat walk_at "s"
    refine br_d (fun hc => ?_) (fun hc => ?_)
    · repeat walk_at "s"
      intro L hL hm
      have := hm l (by rw [tk]; simp) x hx
      omega
    · repeat walk_at "s"
      exact fun L hL hm => h2 L hL fun l' hl' => hm l' (by rw [tk]; exact List.mem_append_left _ hl')
  · obtain ⟨m, o, rfl, h1, h2⟩ := hI
    rw [List.take_length] at h2
    have := hk m h1 h2
    repeat walk_at "s"
end
end Ln
/-! K4: lots kept. -/
namespace Ln
open PySem PySem.Spec PyProof.Rows L2
theorem noX_set {env : Env} {i : Nat} {c : Cl} (h : noX env = true) (hc : c.noX = true) : noX (env.set i (some c)) = true := by
  refine List.all_eq_true.mpr fun o ho => ?_
  rcases List.mem_or_eq_of_mem_set ho with ho | rfl
  · exact List.all_eq_true.mp h o ho
  · exact hc
def dkl (l : Lot) : List (Key × Dm) := l.map fun e => (.inl e.1, .int e.2)
def look (l : Lot) (j : Int) : Option Int := (l.find? fun e => decide (e.1 = j)).map (·.2)
theorem lookD_dkl (l : Lot) (j : Int) : lookD (dkl l) (.inl j) = (look l j).map .int := by
  unfold lookD dkl look
  induction l with
  | nil => rfl
  | cons e l ih =>
    by_cases h : e.1 = j
    · simp [h]
    · have h2 : ¬ ((Sum.inl e.1 : Key) = Sum.inl j) := fun z => h (Sum.inl.inj z)
      simp only [List.map_cons, List.find?_cons, h, h2, decide_false, Bool.false_eq_true, if_false] at ih ⊢
      exact ih
theorem look_mem {l : Lot} {j x : Int} (h : look l j = some x) : (j, x) ∈ l := by
  unfold look at h
  obtain ⟨e, h1, h2⟩ := Option.map_eq_some_iff.mp h
  have h3 := List.find?_some h1
  have h4 := List.mem_of_find?_eq_some h1
  have h3 : e.1 = j := by simpa using h3
  rw [← h3, ← h2]
  exact h4
def Ahead (a l : Lot) : Prop := ∀ e ∈ a, ∃ x, (e.1, x) ∈ l ∧ e.2 ≤ x
section
local macro_rules | `(tactic| walk_at "kb") => `(tactic| first | exact kb_ii | exact kb_ib | exact kb_tt | exact kb_tl | exact kb_lt | exact kb_ll | exact kb_dd)
local macro_rules | `(tactic| walk_at "om") => `(tactic| first | omega | (simp only [List.length_map, List.length_cons, List.length_nil]; omega))
local macro_rules | `(tactic| walk_at "s") => `(tactic| first
  | ((with_reducible show Ev _ _ (tVar _) _ _); refine ev_var rfl ?_)
  | (with_reducible refine ev_int ?_)
  | (with_reducible refine ev_bl ?_)
  | (with_reducible refine ev_str ?_)
  | (with_reducible refine ev_non ?_)
  | (with_reducible refine ev_ty ?_)
  | (with_reducible refine ev_fn ?_)
  | (with_reducible refine ev_op ?_)
  | (with_reducible refine er_b0 ?_)
  | (with_reducible refine er_i0 ?_)
  | ((with_reducible show Er _ _ (rIxT _) _ _ _); first | refine er_ixT ⟨_, _, rfl, rfl, ?_⟩ | refine er_ixT ⟨_, _, rfl, (by assumption), ?_⟩)
  | ((with_reducible show Er _ _ (rIxL _) _ _ _); first | refine er_ixL ⟨_, rfl, ?_⟩ | refine er_ixL ⟨_, (by assumption), ?_⟩)
  | (with_reducible refine ev_neg ?_)
  | (with_reducible refine ev_prop ?_)
  | (with_reducible refine ev_gi ?_)
  | (with_reducible refine ev_meth ?_)
  | ((with_reducible show Ev _ _ (tMake _ _ _ _ _) _ _); refine ev_make ?_)
  | ((with_reducible show Ev _ _ (tFld _ _ _) _ _); refine ev_fldA (by assumption) ?_)
  | (with_reducible refine ev_din ?_)
  | (with_reducible refine ev_dnin ?_)
  | (with_reducible refine ev_dget ?_)
  | ((with_reducible show Ed _ _ (tVar _) _ _); first | refine ed_own rfl ?_ | refine ed_ro rfl ?_ | refine ed_frz rfl ?_ | refine ed_v (ev_var rfl ⟨_, rfl, ?_⟩))
  | (with_reducible refine ev_call ?_)
  | ((with_reducible show Ev _ _ (tCall (spF _ _) _ _ _) _ _); refine ev_ef (ef_callF ?_))
  | (with_reducible refine ev_cb ?_)
  | ((with_reducible show Ea _ _ (tCons (tVar _) _) _ _); refine ea_pot rfl ?_)
  | (with_reducible refine ea_nil ?_)
  | (with_reducible refine ea_v ?_)
  | (with_reducible refine ev_andV ?_)
  | (with_reducible refine ev_orV ?_)
  | (with_reducible refine ev_notV ?_)
  | (with_reducible refine ev_if ?_)
  | (with_reducible refine ev_chain ?_)
  | (with_reducible refine et_test ?_)
  | (with_reducible refine et_B ?_)
  | (with_reducible refine et_yes ?_)
  | (with_reducible refine et_and ?_)
  | (with_reducible refine et_or ?_)
  | (with_reducible refine et_not ?_)
  | (with_reducible refine et_ifT ?_)
  | (with_reducible refine es_seq ?_)
  | (with_reducible refine es_next ?_)
  | (with_reducible refine es_if ?_)
  | (with_reducible refine es_ret ?_)
  | (with_reducible refine es_set ?_)
  | (with_reducible refine es_asg ?_)
  | (with_reducible refine eg_nm ?_)
  | (with_reducible refine egs_cons ?_)
  | (with_reducible refine egs_nil ?_)
  | ((with_reducible show Eg _ _ (gTup _ _ _) _ _ _); refine eg_tup ⟨_, rfl, rfl, ?_⟩)
  | ((with_reducible show Es _ _ (tPar _ _ (tCons tDNewK _)) _ _); refine es_parO (by first | (simp [startE]; done) | decide) (ef_dnew ?_))
  | (with_reducible refine es_par ?_)
  | ((with_reducible show Er _ _ (rI _ _) _ _ _); first | refine er_i (Or.inl ⟨by omega, by omega⟩) ?_ | refine er_i (Or.inr ⟨by omega, by omega⟩) ?_ | refine er_i ⟨by omega, by omega⟩ ?_ | refine er_i (by omega) ?_)
  | (with_reducible refine es_drop ?_)
  | (with_reducible refine ev_tup ?_)
  | (with_reducible refine ev_lst ?_)
  | ((with_reducible show Eb _ _ (rIsi _) [_, Ag.v (Dm.ty _)] _); refine eb_isi rfl (by walk_at "kb") ?_)
  | ((with_reducible show Eb _ _ (rIsi _) [_, Ag.v (Dm.fn _)] _); refine eb_isiC (by assumption) ?_)
  | ((with_reducible show Eb _ _ (rIsiT _) _ _); refine eb_isi2 rfl (by walk_at "kb") (by walk_at "kb") ?_)
  | ((with_reducible show Er _ _ (fun _ _ _ _ => _) _ _ _); first | refine er_isN ?_ | refine er_notN ?_)
  | ((with_reducible show Er _ _ rEq _ _ _); refine er_eq ⟨_, rfl, ?_⟩)
  | ((with_reducible show Er _ _ rNe _ _ _); refine er_ne ⟨_, rfl, ?_⟩)
  | ((with_reducible show Eb _ _ _ [Ag.v (Dm.int _)] _); first | refine eb_abs ?_ | refine eb_int ?_)
  | ((with_reducible show Eb _ _ (rListOf _) _ _); refine eb_list ⟨_, (by first | rfl | assumption), ?_⟩)
  | ((with_reducible show Eb _ _ _ [Ag.v _] _); refine eb_len ⟨_, (by first | rfl | assumption), ?_⟩)
  | ((with_reducible show ite _ _ _); first | refine br_y rfl ?_ | refine br_n rfl ?_ | refine br_y (decide_eq_true (by walk_at "om")) ?_ | refine br_n (decide_eq_false (by walk_at "om")) ?_)
  | (with_reducible refine br_nt (by walk_at "om") ?_)
  | (with_reducible refine br_nf (by walk_at "om") ?_)
  | assumption
  | exact rfl
  | exact congrArg Dm.bl (decide_eq_true (by walk_at "om"))
  | exact congrArg Dm.bl (decide_eq_false (by walk_at "om"))
  | (with_reducible refine kb_t (by walk_at "om") ?_)
  | refine ⟨[_], rfl, sl15 (Nat.le_of_ble_eq_true rfl), ?_⟩
  | refine ⟨[_, _], rfl, sl15 (Nat.le_of_ble_eq_true rfl), ?_⟩
  | refine ⟨[_, _, _], rfl, sl15 (Nat.le_of_ble_eq_true rfl), ?_⟩
  | refine ⟨[], rfl, Nat.zero_le _, ?_⟩
  | exact ⟨_, rfl⟩
  | exact ⟨_, _, rfl⟩
  | exact ⟨_, _, _, rfl⟩
  | exact ⟨_, _, _, _, rfl⟩
  | refine ⟨_, _, rfl, rfl, ?_⟩
  | refine ⟨_, rfl, ?_⟩
  | refine ⟨_, _, rfl, ?_⟩
  | refine ⟨_, _, _, rfl, ?_⟩
  | refine ⟨_, _, _, _, rfl, ?_⟩
  | refine ⟨_, rfl, (by assumption), ?_⟩
  | refine ⟨_, _, rfl, (by assumption), ?_⟩
  | refine ⟨⟨_, _, rfl⟩, ?_⟩
  | refine And.intro (by first | assumption | walk_at "om") ?_
  | refine And.intro rfl ?_
  | (simp only [List.length_map]; assumption)
  | omega)
local macro_rules | `(tactic| walk_at "nx") => `(tactic| (repeat first | assumption | exact rfl | refine noX_set ?_ rfl))
local macro_rules | `(tactic| walk_at "gs") => `(tactic| (repeat first | exact gset_nil | exact gset_name (by decide) | exact gmono_nil | exact gmono_name | refine gset_tup ?_ | refine gmono_tup ?_ | refine gset_cons ?_ ?_ ?_ ?_ | refine gmono_cons ?_ ?_))
variable {P : Program} {w : World} {K : PySem.W.Frag} {mg : Str → Option Value} {base : Heap}
def W_is_ahead : Wf := fun as k => ∃ (a l : Lot), as = [.v (lotD a), .v (.dic (dkl l)), .v (.bl false)] ∧ ∀ b, (b = true → Ahead a l) → k (.bl b)
theorem h_is_ahead (T : Kt K mg) : Held P w K mg base 1 T.a_is_ahead (spD K W_is_ahead) := by
  obtain ⟨fd, F⟩ := T.f_is_ahead
  have sc := sc_is_ahead
  refine held_of F sc (spD_len fun as k h => ?_) (fun _ _ _ _ _ _ us hl => match us, hl with | [_, _, _], _ => rfl) fun cdv A outer s H E hr => ?_
  · obtain ⟨_, _, rfl, _⟩ := h; rfl
  have hu := hu_of hr
  have hF_ : Cls K T.C_Family ∧ NoAttr K T.C_Family "own_lots" := ⟨T.isF.cl, T.naF⟩
  have hM_ : Cls K T.C_Map ∧ NoAttr K T.C_Map "own_families" := ⟨T.isM.cl, T.naM⟩
  have iF_ := T.isF
  have iM_ := T.isM
  refine ⟨_, (pss_cons (ps_for PassesOwn.never rfl (pi_tupK (K := K) rfl (pv 0)) (pg_tupK (K := K) (n := 2) rfl rfl (pgs_cons (pg_name (i := 3) sc.nd rfl (by first | exact Or.inl rfl | exact Or.inr rfl)) (pgs_cons (pg_name (i := 4) sc.nd rfl (by first | exact Or.inl rfl | exact Or.inr rfl)) pgs_nil))) (pss_cons (ps_if (pt_cmp (pc_dnotin hu (pv 3) (pv 1))) (pss_one (ps_ret pe_bl)) pss_nil)
      (pss_one (ps_if (pt_ifExp (pt_val (pv 2)) (pt_cmpR op_gt (pe_dget hu (pv 1) (pv 3) (fun _ _ => rfl)) (pv 4) (nomark _)) (pt_cmpR op_lt (pe_dget hu (pv 1) (pv 3) (fun _ _ => rfl)) (pv 4) (nomark _))) (pss_one (ps_ret pe_bl)) pss_nil))))
      (pss_one (ps_ret pe_bl))),
    fun vs Q sp => body_ok (fun Z as k hw => ?_) sp⟩
  obtain ⟨a, l, rfl, hk⟩ := hw
  try dsimp only [cxOf, Cx.nox]
  repeat walk_at "s"
  refine es_forA a enD (fun i e => ∃ o1 o2, e = [some (.v (lotD a)), some (.v (.dic (dkl l))), some (.v (.bl false)), o1, o2] ∧ ∀ x ∈ a.take i, ∃ y, (x.1, y) ∈ l ∧ x.2 ≤ y) (ei_tup ?_) ⟨_, _, rfl, fun x h => absurd h (by simp)⟩ (fun i x e hx hI => ?_) (fun e hI => ?_)
  · repeat walk_at "s"
  · obtain ⟨o1, o2, rfl, h1⟩ := hI
    have tk : a.take (i + 1) = a.take i ++ [x] := by rw [List.take_succ, hx]; rfl
    refine eg_tup ⟨_, rfl, rfl, egs_cons (eg_nm (egs_cons (eg_nm (egs_nil ?_))))⟩
    repeat walk_at "s"
    have lk := lookD_dkl l x.1
    cases hl : look l x.1 with
    | none =>
      rw [hl] at lk
      rw [lk]
      repeat walk_at "s"
      exact hk false fun h => Bool.noConfusion h
    | some y =>
      rw [hl] at lk
      have lk : lookD (dkl l) (.inl x.1) = some (.int y) := lk
      rw [lk]
      have hm := look_mem hl
      repeat walk_at "s"
      refine br_d (fun hc => ?_) (fun hc => ?_)
      · repeat walk_at "s"
        exact hk false fun h => Bool.noConfusion h
      · repeat walk_at "s"
        intro z hz
        rw [tk] at hz
        rcases List.mem_append.mp hz with hz | hz
        · exact h1 z hz
        · rw [List.mem_singleton.mp hz]
          exact ⟨y, hm, by omega⟩
  · obtain ⟨o1, o2, rfl, h1⟩ := hI
    rw [List.take_length] at h1
    repeat walk_at "s"
    exact hk true fun _ => h1
theorem eb_sortedLots {Z : Fr} {k : Dm → Prop} {ls : List Lot} (h : ∀ l ∈ ls, 1 ≤ l.length) (q : ∀ ls' : List Lot, ls'.Perm ls → k (lotsD ls')) : Eb K Z (rSortedL K) [.v (lotsD ls)] k := fun G H vs hz rs Q c => by
  obtain ⟨v, rfl, rv⟩ := args1 rs
  obtain ⟨a, xs, rfl, e2, e3⟩ := rv.lst_inv
  have fit1 : ∀ l : Lot, fitL (l.map enD) = true := fun l => by
    induction l with
    | nil => rfl
    | cons e l ih => rw [List.map_cons, fitL, ih]; simp [enD, Dm.fit, fitL]
  have fit2 : ∀ ls : List Lot, fitL (ls.map lotD) = true := fun ls => by
    induction ls with
    | nil => rfl
    | cons e l ih => rw [List.map_cons, fitL, ih]; simp [lotD, Dm.fit, fit1]
  have ref : ∀ {xs : List V} {ls : List Lot}, RpL K G xs (ls.map lotD) → ∀ x ∈ xs, ∃ a, x = V.ref a := by
    intro xs ls
    induction ls generalizing xs with
    | nil => intro r; cases r; simp
    | cons l ls ih =>
      intro r
      cases r with
      | cons r1 r2 =>
        intro x hx
        rcases List.mem_cons.mp hx with rfl | hx
        · obtain ⟨a, o, xs, rfl, _⟩ := Rp.ftp_inv (show Rp K G _ (.ftp (l.map enD)) from r1)
          exact ⟨a, rfl⟩
        · exact ih r2 x hx
  have pyE : ∀ e : Int × Int, (enD e).py = .tuple [.int e.1, .int e.2] := fun e => by simp [enD, Dm.py, pyL]
  have pyL1 : ∀ l : Lot, pyL (l.map enD) = l.map fun e => .tuple [.int e.1, .int e.2] := fun l => by
    induction l with
    | nil => rfl
    | cons e l ih => rw [List.map_cons, pyL, ih, pyE]; rfl
  have pyL2 : ∀ ls : List Lot, pyL (ls.map lotD) = ls.map fun l => .tuple (l.map fun e => .tuple [.int e.1, .int e.2]) := fun ls => by
    induction ls with
    | nil => rfl
    | cons e l ih => rw [List.map_cons, pyL, ih]; simp [lotD, Dm.py, pyL1]
  have al1 : ∀ l m : Lot, PySem.W.alikeAll (l.map fun e => PyData.tuple [.int e.1, .int e.2]) (m.map fun e => .tuple [.int e.1, .int e.2]) = true := fun l => by
    induction l with
    | nil => intro m; simp [PySem.W.alikeAll]
    | cons e l ih =>
      intro m
      cases m with
      | nil => simp [PySem.W.alikeAll]
      | cons f m => simp [PySem.W.alikeAll, PySem.W.alike, ih m]
  have dp1 : ∀ l : Lot, PyData.depthAll (l.map fun e => PyData.tuple [.int e.1, .int e.2]) ≤ 1 := fun l => by
    induction l with
    | nil => simp [PyData.depthAll]
    | cons e l ih => simp only [List.map_cons, PyData.depthAll, PyData.depth]; omega
  refine ⟨a, xs, pyL (ls.map lotD), rfl, .inl (.inl (hz.exG _ _ e2)), ref e3, RpL.dp (fit2 ls) (e3.mono hz.exG), ?_, ?_, ?_, fun ys p hp hn => ?_⟩
  · rw [pyL2]
    intro d hd d' hd'
    obtain ⟨l, _, rfl⟩ := List.mem_map.mp hd
    obtain ⟨m, _, rfl⟩ := List.mem_map.mp hd'
    rw [PySem.W.alike]
    exact al1 l m
  · rw [pyL2]
    refine .inl fun d hd => ?_
    obtain ⟨l, hl, rfl⟩ := List.mem_map.mp hd
    cases l with
    | nil => exact absurd (h _ hl) (by simp)
    | cons e l => exact ⟨_, _, rfl⟩
  · rw [pyL2]
    intro d hd
    obtain ⟨l, _, rfl⟩ := List.mem_map.mp hd
    rw [PyData.depth]
    have := dp1 l
    omega
  · obtain ⟨ls', h1, h2⟩ := RpL.perm hp e3
    have a4 := Adv.new (o := .lst ys) hz hn
    exact c _ _ _ _ (q ls' h1) a4 (.lst upd_same (h2.mono a4.gg))
def pairD (l : Lot) : Dm := .tup [lotD l, .dic (dkl l)]
theorem eb_dictL {Z : Fr} {k : Dm → Prop} {l : Lot} (nd : (l.map (·.1)).Nodup) (q : k (.dic (dkl l))) : Eb K Z (rDictP K) [.v (.lst (l.map enD))] k := by
  have e : l.map enD = (dkl l).map fun p => .tup [match p.1 with | .inl i => .int i | .inr x => .str x, p.2] := by
    unfold dkl enD
    rw [List.map_map]
    rfl
  rw [e]
  refine eb_dictP ?_ q
  have : (dkl l).map (·.1) = (l.map (·.1)).map Sum.inl := by
    unfold dkl
    rw [List.map_map, List.map_map]; rfl
  rw [this]
  exact List.Pairwise.map _ (fun a b h e => h (Sum.inl.inj e)) nd
theorem Lk.nodup {n : Int} {l : Lot} (h : Lk n l) : (l.map (·.1)).Nodup := List.Pairwise.map _ (fun a b (h : a.1 < b.1) => by omega) h.up
theorem Ahead.refl (l : Lot) : Ahead l l := fun e he => ⟨e.2, he, Int.le_refl _⟩
theorem Ahead.trans {a b c : Lot} (h : Ahead a b) (h' : Ahead b c) : Ahead a c := fun e he => by
  obtain ⟨x, hx, h1⟩ := h e he
  obtain ⟨y, hy, h2⟩ := h' _ hx
  exact ⟨y, hy, Int.le_trans h1 h2⟩
theorem al_keep {l : Lot} : ∀ {fs : List Lot} {outs : List (Option Dm)}, Al (fun x o => o = some (pairD x) ∨ (o = none ∧ Ahead l x)) fs outs →
    ∃ fs' : List Lot, outs.filterMap id = fs'.map pairD ∧ (∀ f ∈ fs', f ∈ fs) ∧ fs'.length ≤ fs.length ∧ ∀ f ∈ fs, f ∈ fs' ∨ Ahead l f
  | _, _, .nil => ⟨[], rfl, by simp, by simp, by simp⟩
  | _, _, .cons (x := x) a b => by
    obtain ⟨fs', h1, h2, h3, h4⟩ := al_keep b
    rcases a with rfl | ⟨rfl, ha⟩
    · refine ⟨x :: fs', by simp [h1], fun f hf => ?_, by simp; exact h3, fun f hf => ?_⟩
      · rcases List.mem_cons.mp hf with rfl | hf
        · exact List.mem_cons_self ..
        · exact List.mem_cons_of_mem _ (h2 f hf)
      · rcases List.mem_cons.mp hf with rfl | hf
        · exact .inl (List.mem_cons_self ..)
        · exact (h4 f hf).imp (List.mem_cons_of_mem _) id
    · refine ⟨fs', by simp [h1], fun f hf => List.mem_cons_of_mem _ (h2 f hf), by simp; omega, fun f hf => ?_⟩
      rcases List.mem_cons.mp hf with rfl | hf
      · exact .inr ha
      · exact h4 f hf
theorem al_any {R : Lot → Prop} : ∀ {fs : List Lot} {bs : List Bool}, Al (fun x b => b = true → R x) fs bs → bs.any id = true → ∃ f ∈ fs, R f
  | _, _, .nil, h => by simp at h
  | _, _, .cons (x := x) (y := y) a b, h => by
    cases y with
    | true => exact ⟨x, List.mem_cons_self .., a rfl⟩
    | false =>
      obtain ⟨f, h1, h2⟩ := al_any b (by simpa using h)
      exact ⟨f, List.mem_cons_of_mem _ h1, h2⟩
def W_kept_lots : Wf := fun as k => ∃ (ls : List Lot), as = [.v (lotsD ls), .v (.bl false)] ∧ ls.length ≤ 200 ∧ (∀ l ∈ ls, Lk 12 l) ∧
  ∀ r : List Lot, (∀ l ∈ r, l ∈ ls) → r.length ≤ ls.length → (∀ l ∈ ls, ∃ a ∈ r, Ahead a l) → k (lotsD r)
theorem h_kept_lots (T : Kt K mg) : Held P w K mg base 2 T.a_kept_lots (spD K W_kept_lots) := by
  obtain ⟨fd, F⟩ := T.f_kept_lots
  have sc := sc_kept_lots
  refine held_of F sc (spD_len fun as k h => ?_) (fun _ _ _ _ _ _ us hl => match us, hl with | [_, _], _ => rfl) fun cdv A outer s H E hr => ?_
  · obtain ⟨_, rfl, _⟩ := h; rfl
  have hu := hu_of hr
  have hF_ : Cls K T.C_Family ∧ NoAttr K T.C_Family "own_lots" := ⟨T.isF.cl, T.naF⟩
  have hM_ : Cls K T.C_Map ∧ NoAttr K T.C_Map "own_families" := ⟨T.isM.cl, T.naM⟩
  have iF_ := T.isF
  have iM_ := T.isM
  have G_is_ahead := held_mono (h_is_ahead (P := P) (w := w) (base := base) T) (show 1 ≤ 1 by decide)
  refine ⟨_, (pss_cons (ps_set (i := 2) sc.nd rfl (by first | exact Or.inl rfl | exact Or.inr rfl) (pe_lst pa_nil))
      (pss_cons (ps_for PassesOwn.never rfl (pi_listK (K := K) rfl (pv 0)) (pg_name (i := 3) sc.nd rfl (by first | exact Or.inl rfl | exact Or.inr rfl)) (pss_cons (ps_set (i := 4) sc.nd rfl (by first | exact Or.inl rfl | exact Or.inr rfl) (pe_callTy (call_dictPK (K := K) rfl) (by rfl) T.n_dict (by decide +kernel) (pa_cons (pe_callTy (call_listK (K := K) rfl) (by rfl) T.n_list (by decide +kernel) (pa_cons (pv 3) pa_nil)) pa_nil)))
      (pss_one (ps_if (pt_not (pt_val (pe_callB (cr_anyK (K := K) rfl) (by rfl) T.n_any (by decide +kernel) (pa_cons (pe_lc (own := [("near", 5), ("other", 6)]) (g := gTup K 2 (gCons (gName 5) (gCons (gName 6) (gNil)))) (tt := tYes) rfl sc.nd (pi_listK (K := K) rfl (pv 2)) (blkOk_by (N := N_kept_lots) (sc := defScope s_kept_lots) (by decide +kernel)) (fun _ _ _ _ _ => (pg_tupK (K := K) (n := 2) rfl rfl (pgs_cons (pg_name (i := 5) sc.nd rfl (by first | exact Or.inl rfl | exact Or.inr rfl)) (pgs_cons (pg_name (i := 6) sc.nd rfl (by first | exact Or.inl rfl | exact Or.inr rfl)) pgs_nil)))) (fun _ _ _ _ _ => pts_nil) (fun _ _ _ _ _ => (pe_h G_is_ahead hr rfl T.g_is_ahead (pa_cons (pv 5) (pa_cons (pv 4) (pa_cons (pv 1) pa_nil)))))) pa_nil)))) (pss_cons (ps_setLc (i := 2) (own := [("pair", 7)]) (g := gName 7) rfl sc.nd rfl rfl (sw_true rfl rfl rfl (by decide +kernel)) (pi_listK (K := K) rfl (pv 2)) (blkOk_by (N := N_kept_lots) (sc := defScope s_kept_lots) (by decide +kernel)) (fun _ _ _ _ _ => (pg_name (i := 7) sc.nd rfl (by first | exact Or.inl rfl | exact Or.inr rfl))) (fun _ _ _ _ _ => (pts_one (pt_not (pt_val (pe_h G_is_ahead hr rfl T.g_is_ahead (pa_cons (pv 3) (pa_cons (pe_ix (ix_tupK (K := K) rfl) (pv 7) pe_int (fun _ _ => rfl)) (pa_cons (pv 1) pa_nil)))))))) (fun _ _ _ _ _ => (pv 7)))
      (pss_one (ps_expr (pe_bm PySem.F.plainAttrs_list PySem.F.slot_list_append PySem.F.type_list_append mt_append (pv 2) (pa_cons (pe_tup (pa_cons (pv 3) (pa_cons (pv 4) pa_nil))) pa_nil))))) pss_nil))))
      (pss_one (ps_ret (pe_callB (cr_sortedLK hr (K := K) rfl) (by rfl) T.n_sorted (by decide +kernel) (pa_cons (pe_lc (own := [("lot", 3), ("told", 4)]) (g := gTup K 2 (gCons (gName 3) (gCons (gName 4) (gNil)))) (tt := tYes) rfl sc.nd (pi_listK (K := K) rfl (pv 2)) (blkOk_by (N := N_kept_lots) (sc := defScope s_kept_lots) (by decide +kernel)) (fun _ _ _ _ _ => (pg_tupK (K := K) (n := 2) rfl rfl (pgs_cons (pg_name (i := 3) sc.nd rfl (by first | exact Or.inl rfl | exact Or.inr rfl)) (pgs_cons (pg_name (i := 4) sc.nd rfl (by first | exact Or.inl rfl | exact Or.inr rfl)) pgs_nil)))) (fun _ _ _ _ _ => pts_nil) (fun _ _ _ _ _ => (pv 3))) pa_nil)))))),
    fun vs Q sp => body_ok (fun Z as k hw => ?_) sp⟩
  obtain ⟨ls, rfl, h0, h1, hk⟩ := hw
  try dsimp only [cxOf, Cx.nox]
  refine es_seq (es_own (by simp [startE]) (ef_lst (ea_nil ⟨[], rfl, Nat.zero_le _, ?_⟩)))
  refine es_seq (es_forA ls lotD (fun i e => ∃ (fs : List Lot) (o3 o4 o5 o6 o7 : Option Cl), e = [some (.v (lotsD ls)), some (.v (.bl false)), some (.o (.lst (fs.map pairD))), o3, o4, o5, o6, o7] ∧ noX e = true ∧
    (∀ f ∈ fs, f ∈ ls.take i) ∧ fs.length ≤ i ∧ ∀ l ∈ ls.take i, ∃ f ∈ fs, Ahead f l) (ei_list ?_) ⟨[], _, _, _, _, _, rfl, rfl, by simp, by simp, by simp⟩ (fun i l e hl hI => ?_) (fun e hI => ?_))
  · repeat walk_at "s"
  · obtain ⟨fs, o3, o4, o5, o6, o7, rfl, hx, h2, h3, h4⟩ := hI
    have hl2 := h1 l (List.mem_of_getElem? hl)
    have tk : ls.take (i + 1) = ls.take i ++ [l] := by rw [List.take_succ, hl]; rfl
    have hi : i < ls.length := (List.getElem?_eq_some_iff.mp hl).1
    refine eg_nm (es_seq (es_set ?_))
    repeat walk_at "s"
    refine eb_dictL hl2.nodup ?_
    refine es_if (et_not (et_B (ev_cb (ea_v (ev_ef (ef_eachX fs pairD (fun x y => ∃ b, y = .bl b ∧ (b = true → Ahead x l)) (by walk_at "gs") (by walk_at "gs") (ej_own (.inl rfl) rfl) (sln' (m := 200) (by omega)) (fun Z' x hx => ?_) (fun ys hy => ?_)))))))
    · refine eg_tup ⟨_, rfl, rfl, egs_cons (eg_nm (egs_cons (eg_nm (egs_nil ?_))))⟩
      repeat walk_at "s"
      exact fun b hb => ⟨b, rfl, hb⟩
    · obtain ⟨bs, rfl, hb⟩ := hy.split (f := Dm.bl) (S := fun x b => b = true → Ahead x l) fun x y ⟨b, e, h⟩ => ⟨b, e, h⟩
      refine ea_nil (eb_any ⟨_, rfl, ?_⟩)
      cases hany : bs.any id with
      | true =>
        refine br_n rfl (es_next ?_)
        obtain ⟨f, hf, ha⟩ := al_any hb hany
        refine ⟨fs, _, _, _, _, _, rfl, by walk_at "nx", fun f hf => by rw [tk]; exact List.mem_append_left _ (h2 f hf), by omega, fun l' hl' => ?_⟩
        rw [tk] at hl'
        rcases List.mem_append.mp hl' with hl' | hl'
        · exact h4 l' hl'
        · rw [List.mem_singleton.mp hl']
          exact ⟨f, hf, ha⟩
      | false =>
        refine br_y rfl (es_seq (es_own (by simp) (ef_relX fs pairD (fun x o => o = some (pairD x) ∨ (o = none ∧ Ahead l x)) (by walk_at "gs") (by walk_at "gs") (ej_own (.inl rfl) rfl) (sln' (m := 200) (by omega)) (fun Z' x hx => eg_nm ?_) (fun outs ho => ?_))))
        · repeat walk_at "s"
          refine fun b hb => ⟨b, rfl, ?_⟩
          cases b with
          | true => exact br_n rfl (.inr ⟨rfl, hb rfl⟩)
          | false =>
            refine br_y rfl ?_
            repeat walk_at "s"
            exact .inl rfl
        · obtain ⟨fs', e1, e2, e3, e4⟩ := al_keep ho
          rw [e1]
          refine es_append (by walk_at "nx") rfl (by rw [List.length_map]; exact sln' (m := 200) (by omega)) ?_
          repeat walk_at "s"
          refine ⟨fs' ++ [l], _, _, _, _, _, by rw [List.map_append]; rfl, by walk_at "nx", fun f hf => ?_, by simp; omega, fun l' hl' => ?_⟩
          · rw [tk]
            rcases List.mem_append.mp hf with hf | hf
            · exact List.mem_append_left _ (h2 f (e2 f hf))
            · exact List.mem_append_right _ hf
          · rw [tk] at hl'
            rcases List.mem_append.mp hl' with hl' | hl'
            · obtain ⟨f, hf, ha⟩ := h4 l' hl'
              rcases e4 f hf with hf | hf
              · exact ⟨f, List.mem_append_left _ hf, ha⟩
              · exact ⟨l, List.mem_append_right _ (List.mem_singleton.mpr rfl), hf.trans ha⟩
            · rw [List.mem_singleton.mp hl']
              exact ⟨l, List.mem_append_right _ (List.mem_singleton.mpr rfl), .refl l⟩
  · obtain ⟨fs, o3, o4, o5, o6, o7, rfl, hx, h2, h3, h4⟩ := hI
    rw [List.take_length] at h2 h4
    refine es_ret (ev_cb (ea_v (ev_ef (ef_mapX fs pairD lotD (by walk_at "gs") (by walk_at "gs") (ej_own (.inl rfl) rfl) (sln' (m := 200) (by omega)) (fun Z' x hx => ?_) ?_))))
    · refine eg_tup ⟨_, rfl, rfl, egs_cons (eg_nm (egs_cons (eg_nm (egs_nil ?_))))⟩
      repeat walk_at "s"
    · refine ea_nil (eb_sortedLots (fun l hl => (h1 l (h2 l hl)).ne) fun ls' hp => ?_)
      refine hk ls' (fun l hl => h2 l (hp.mem_iff.mp hl)) (by rw [hp.length_eq]; exact h3) fun l hl => ?_
      obtain ⟨f, hf, ha⟩ := h4 l hl
      exact ⟨f, hp.mem_iff.mpr hf, ha⟩
end
end Ln
/-! K5: families, maps. -/
namespace Ln
open PySem PySem.Spec PyProof.Rows L2
theorem ev_fldA {K : PySem.W.Frag} {Z : Fr} {ta : TE} {env : Env} {k : Dm → Prop} {C : Addr} {f : Str} (hc : Cls K C ∧ NoAttr K C f) (h : Ev K Z ta env fun d => ∃ d', d = .obj C f d' ∧ k d') : Ev K Z (tFld K ta f) env k := ev_fld hc.1 hc.2 h
def famD (F : Addr) (ls : List Lot) : Dm := .obj F "own_lots" (lotsD ls)
def mapD (F M : Addr) (fs : List (List Lot)) : Dm := .obj M "own_families" (.lst (fs.map (famD F)))
section
local macro_rules | `(tactic| walk_at "kb") => `(tactic| first | exact kb_ii | exact kb_ib | exact kb_tt | exact kb_tl | exact kb_lt | exact kb_ll | exact kb_dd)
local macro_rules | `(tactic| walk_at "om") => `(tactic| first | omega | (simp only [List.length_map, List.length_cons, List.length_nil]; omega))
local macro_rules | `(tactic| walk_at "s") => `(tactic| first
  | ((with_reducible show Ev _ _ (tVar _) _ _); refine ev_var rfl ?_)
  | (with_reducible refine ev_int ?_)
  | (with_reducible refine ev_bl ?_)
  | (with_reducible refine ev_str ?_)
  | (with_reducible refine ev_non ?_)
  | (with_reducible refine ev_ty ?_)
  | (with_reducible refine ev_fn ?_)
  | (with_reducible refine ev_op ?_)
  | (with_reducible refine er_b0 ?_)
  | (with_reducible refine er_i0 ?_)
  | ((with_reducible show Er _ _ (rIxT _) _ _ _); first | refine er_ixT ⟨_, _, rfl, rfl, ?_⟩ | refine er_ixT ⟨_, _, rfl, (by assumption), ?_⟩)
  | ((with_reducible show Er _ _ (rIxL _) _ _ _); first | refine er_ixL ⟨_, rfl, ?_⟩ | refine er_ixL ⟨_, (by assumption), ?_⟩)
  | (with_reducible refine ev_neg ?_)
  | (with_reducible refine ev_prop ?_)
  | (with_reducible refine ev_gi ?_)
  | (with_reducible refine ev_meth ?_)
  | ((with_reducible show Ev _ _ (tMake _ _ _ _ _) _ _); refine ev_make ?_)
  | ((with_reducible show Ev _ _ (tFld _ _ _) _ _); refine ev_fldA (by assumption) ?_)
  | (with_reducible refine ev_din ?_)
  | (with_reducible refine ev_dnin ?_)
  | (with_reducible refine ev_dget ?_)
  | ((with_reducible show Ed _ _ (tVar _) _ _); first | refine ed_own rfl ?_ | refine ed_ro rfl ?_ | refine ed_frz rfl ?_ | refine ed_v (ev_var rfl ⟨_, rfl, ?_⟩))
  | (with_reducible refine ev_call ?_)
  | ((with_reducible show Ev _ _ (tCall (spF _ _) _ _ _) _ _); refine ev_ef (ef_callF ?_))
  | (with_reducible refine ev_cb ?_)
  | ((with_reducible show Ea _ _ (tCons (tVar _) _) _ _); refine ea_pot rfl ?_)
  | (with_reducible refine ea_nil ?_)
  | (with_reducible refine ea_v ?_)
  | (with_reducible refine ev_andV ?_)
  | (with_reducible refine ev_orV ?_)
  | (with_reducible refine ev_notV ?_)
  | (with_reducible refine ev_if ?_)
  | (with_reducible refine ev_chain ?_)
  | (with_reducible refine et_test ?_)
  | (with_reducible refine et_B ?_)
  | (with_reducible refine et_yes ?_)
  | (with_reducible refine et_and ?_)
  | (with_reducible refine et_or ?_)
  | (with_reducible refine et_not ?_)
  | (with_reducible refine et_ifT ?_)
  | (with_reducible refine es_seq ?_)
  | (with_reducible refine es_next ?_)
  | (with_reducible refine es_if ?_)
  | (with_reducible refine es_ret ?_)
  | (with_reducible refine es_set ?_)
  | (with_reducible refine es_asg ?_)
  | (with_reducible refine eg_nm ?_)
  | (with_reducible refine egs_cons ?_)
  | (with_reducible refine egs_nil ?_)
  | ((with_reducible show Eg _ _ (gTup _ _ _) _ _ _); refine eg_tup ⟨_, rfl, rfl, ?_⟩)
  | ((with_reducible show Es _ _ (tPar _ _ (tCons tDNewK _)) _ _); refine es_parO (by first | (simp [startE]; done) | decide) (ef_dnew ?_))
  | (with_reducible refine es_par ?_)
  | ((with_reducible show Er _ _ (rI _ _) _ _ _); first | refine er_i (Or.inl ⟨by omega, by omega⟩) ?_ | refine er_i (Or.inr ⟨by omega, by omega⟩) ?_ | refine er_i ⟨by omega, by omega⟩ ?_ | refine er_i (by omega) ?_)
  | (with_reducible refine es_drop ?_)
  | (with_reducible refine ev_tup ?_)
  | (with_reducible refine ev_lst ?_)
  | ((with_reducible show Eb _ _ (rIsi _) [_, Ag.v (Dm.ty _)] _); refine eb_isi rfl (by walk_at "kb") ?_)
  | ((with_reducible show Eb _ _ (rIsi _) [_, Ag.v (Dm.fn _)] _); refine eb_isiC (by assumption) ?_)
  | ((with_reducible show Eb _ _ (rIsiT _) _ _); refine eb_isi2 rfl (by walk_at "kb") (by walk_at "kb") ?_)
  | ((with_reducible show Er _ _ (fun _ _ _ _ => _) _ _ _); first | refine er_isN ?_ | refine er_notN ?_)
  | ((with_reducible show Er _ _ rEq _ _ _); refine er_eq ⟨_, rfl, ?_⟩)
  | ((with_reducible show Er _ _ rNe _ _ _); refine er_ne ⟨_, rfl, ?_⟩)
  | ((with_reducible show Eb _ _ _ [Ag.v (Dm.int _)] _); first | refine eb_abs ?_ | refine eb_int ?_)
  | ((with_reducible show Eb _ _ (rListOf _) _ _); refine eb_list ⟨_, (by first | rfl | assumption), ?_⟩)
  | ((with_reducible show Eb _ _ _ [Ag.v _] _); refine eb_len ⟨_, (by first | rfl | assumption), ?_⟩)
  | ((with_reducible show ite _ _ _); first | refine br_y rfl ?_ | refine br_n rfl ?_ | refine br_y (decide_eq_true (by walk_at "om")) ?_ | refine br_n (decide_eq_false (by walk_at "om")) ?_)
  | (with_reducible refine br_nt (by walk_at "om") ?_)
  | (with_reducible refine br_nf (by walk_at "om") ?_)
  | assumption
  | exact rfl
  | exact congrArg Dm.bl (decide_eq_true (by walk_at "om"))
  | exact congrArg Dm.bl (decide_eq_false (by walk_at "om"))
  | (with_reducible refine kb_t (by walk_at "om") ?_)
  | refine ⟨[_], rfl, sl15 (Nat.le_of_ble_eq_true rfl), ?_⟩
  | refine ⟨[_, _], rfl, sl15 (Nat.le_of_ble_eq_true rfl), ?_⟩
  | refine ⟨[_, _, _], rfl, sl15 (Nat.le_of_ble_eq_true rfl), ?_⟩
  | refine ⟨[], rfl, Nat.zero_le _, ?_⟩
  | exact ⟨_, rfl⟩
  | exact ⟨_, _, rfl⟩
  | exact ⟨_, _, _, rfl⟩
  | exact ⟨_, _, _, _, rfl⟩
  | refine ⟨_, _, rfl, rfl, ?_⟩
  | refine ⟨_, rfl, ?_⟩
  | refine ⟨_, _, rfl, ?_⟩
  | refine ⟨_, _, _, rfl, ?_⟩
  | refine ⟨_, _, _, _, rfl, ?_⟩
  | refine ⟨_, rfl, (by assumption), ?_⟩
  | refine ⟨_, _, rfl, (by assumption), ?_⟩
  | refine ⟨⟨_, _, rfl⟩, ?_⟩
  | refine And.intro (by first | assumption | walk_at "om") ?_
  | refine And.intro rfl ?_
  | (simp only [List.length_map]; assumption)
  | omega)
local macro_rules | `(tactic| walk_at "nx") => `(tactic| (repeat first | assumption | exact rfl | refine noX_set ?_ rfl))
local macro_rules | `(tactic| walk_at "gs") => `(tactic| (repeat first | exact gset_nil | exact gset_name (by decide) | exact gmono_nil | exact gmono_name | refine gset_tup ?_ | refine gmono_tup ?_ | refine gset_cons ?_ ?_ ?_ ?_ | refine gmono_cons ?_ ?_))
variable {P : Program} {w : World} {K : PySem.W.Frag} {mg : Str → Option Value} {base : Heap}
def W_Family___init__ : Wf := fun as k => ∃ (ls : List Lot), as = [.v (lotsD ls)] ∧ 1 ≤ ls.length ∧ ls.length ≤ 60 ∧ (∀ l ∈ ls, Lk 12 l) ∧
  ∀ r : List Lot, (∀ l ∈ r, l ∈ ls) → r.length ≤ ls.length → (∀ l ∈ ls, ∃ a ∈ r, Ahead a l) → k (lotsD r)
theorem h_Family___init__ (T : Kt K mg) : Held P w K mg base 6 T.a_Family___init__ (spI K T.C_Family "own_lots" W_Family___init__) := by
  obtain ⟨fd, F⟩ := T.f_Family___init__
  have sc := sc_Family___init__
  refine held_of F sc (fun vs H Q E h => ?_) (fun _ _ _ _ _ _ us hl => match us, hl with | [_, _], _ => rfl) fun cdv A outer s H E hr => ?_
  · exact spI_len (fun as k h => by obtain ⟨_, rfl, _⟩ := h; rfl) vs H Q E h
  have hu := hu_of hr
  have hF_ : Cls K T.C_Family ∧ NoAttr K T.C_Family "own_lots" := ⟨T.isF.cl, T.naF⟩
  have hM_ : Cls K T.C_Map ∧ NoAttr K T.C_Map "own_families" := ⟨T.isM.cl, T.naM⟩
  have iF_ := T.isF
  have iM_ := T.isM
  have G_want_lots := held_mono (h_want_lots (P := P) (w := w) (base := base) T) (show 5 ≤ 5 by decide)
  have G_limited := held_mono (h_limited (P := P) (w := w) (base := base) T) (show 1 ≤ 5 by decide)
  have G_kept_lots := held_mono (h_kept_lots (P := P) (w := w) (base := base) T) (show 2 ≤ 5 by decide)
  refine ⟨_, (pss_cons (ps_expr (pe_h G_want_lots hr rfl T.g_want_lots (pa_cons (pv 1) pa_nil)))
      (pss_one (ps_fld (pv 0) (pe_h G_limited hr rfl T.g_limited (pa_cons (pe_h G_kept_lots hr rfl T.g_kept_lots (pa_cons (pv 1) (pa_cons pe_bl pa_nil))) pa_nil)) rfl))),
    fun vs Q sp => ?_⟩
  refine init_ok (fun Z as k a hw => ?_) sp (by simp)
  obtain ⟨ls, rfl, h0, h1, h2, hk⟩ := hw
  try dsimp only [cxOf, Cx.nox]
  repeat walk_at "s"
  refine es_init T.isF.cl T.naF rfl rfl ?_
  repeat walk_at "s"
  intro r h3 h4 h5
  repeat walk_at "s"
  exact hk r h3 h4 h5
def W_Family_lots (F M : Addr) : Wf := fun as k => ∃ (ls : List Lot), as = [.v (famD F ls)] ∧ k (lotsD ls)
theorem h_Family_lots (T : Kt K mg) : Held P w K mg base 1 T.a_Family_lots (spD K (W_Family_lots T.C_Family T.C_Map)) := by
  obtain ⟨fd, F⟩ := T.f_Family_lots
  have sc := sc_Family_lots
  refine held_of F sc (spD_len fun as k h => ?_) (fun _ _ _ _ _ _ us hl => match us, hl with | [_], _ => rfl) fun cdv A outer s H E hr => ?_
  · obtain ⟨_, rfl, _⟩ := h; rfl
  have hu := hu_of hr
  have hF_ : Cls K T.C_Family ∧ NoAttr K T.C_Family "own_lots" := ⟨T.isF.cl, T.naF⟩
  have hM_ : Cls K T.C_Map ∧ NoAttr K T.C_Map "own_families" := ⟨T.isM.cl, T.naM⟩
  have iF_ := T.isF
  have iM_ := T.isM
  refine ⟨_, (pss_one (ps_ret (pe_callTy (call_listK (K := K) rfl) (by rfl) T.n_list (by decide +kernel) (pa_cons (pe_fld (pv 0) rfl) pa_nil)))),
    fun vs Q sp => body_ok (fun Z as k hw => ?_) sp⟩
  obtain ⟨ls, rfl, hk⟩ := hw
  try dsimp only [cxOf, Cx.nox]
  repeat walk_at "s"
/-- a family of lots of lanes below n -/
def Fk (n : Int) (ls : List Lot) : Prop := ∀ l ∈ ls, Lk 12 l ∧ ∀ e ∈ l, e.1 < n
def W_fits (F M : Addr) : Wf := fun as k => ∃ (n : Int) (ls : List Lot), as = [.v (.int n), .v (famD F ls)] ∧ 0 ≤ n ∧ Fk n ls ∧ k (.bl true)
theorem h_fits (T : Kt K mg) : Held P w K mg base 2 T.a_fits (spD K (W_fits T.C_Family T.C_Map)) := by
  obtain ⟨fd, F⟩ := T.f_fits
  have sc := sc_fits
  refine held_of F sc (spD_len fun as k h => ?_) (fun _ _ _ _ _ _ us hl => match us, hl with | [_, _], _ => rfl) fun cdv A outer s H E hr => ?_
  · obtain ⟨_, _, rfl, _⟩ := h; rfl
  have hu := hu_of hr
  have hF_ : Cls K T.C_Family ∧ NoAttr K T.C_Family "own_lots" := ⟨T.isF.cl, T.naF⟩
  have hM_ : Cls K T.C_Map ∧ NoAttr K T.C_Map "own_families" := ⟨T.isM.cl, T.naM⟩
  have iF_ := T.isF
  have iM_ := T.isM
  have G_lanes_for := held_mono (h_lanes_for (P := P) (w := w) (base := base) T) (show 1 ≤ 1 by decide)
  refine ⟨_, (pss_one (ps_ret (pe_and (pe_callB (call_isiKK (K := K) rfl) (by rfl) T.n_isinstance (by decide +kernel) (pa_cons (pv 1) (pa_cons (pe_glob (v := .ref T.C_Family) rfl T.g_Family rfl) pa_nil))) (pe_one (pe_cmpR op_le (pe_h G_lanes_for hr rfl T.g_lanes_for (pa_cons (pe_fld (pv 1) rfl) pa_nil)) (pv 0) (nomark _)))))),
    fun vs Q sp => body_ok (fun Z as k hw => ?_) sp⟩
  obtain ⟨n, ls, rfl, h0, h1, hk⟩ := hw
  have h2 : ∀ l ∈ ls, Lk 12 l := fun l hl => (h1 l hl).1
  try dsimp only [cxOf, Cx.nox]
  repeat walk_at "s"
  intro m hm hL
  have := hL n h0 fun l hl e he => (h1 l hl).2 e he
  repeat walk_at "s"
def W_Map___init__ (F M : Addr) : Wf := fun as k => ∃ (fs : List (List Lot)), as = [.v (.lst (fs.map (famD F)))] ∧ 1 ≤ fs.length ∧ fs.length ≤ 12 ∧ (∀ f ∈ fs, Fk fs.length f) ∧ k (.lst (fs.map (famD F)))
theorem h_Map___init__ (T : Kt K mg) : Held P w K mg base 3 T.a_Map___init__ (spI K T.C_Map "own_families" (W_Map___init__ T.C_Family T.C_Map)) := by
  obtain ⟨fd, F⟩ := T.f_Map___init__
  have sc := sc_Map___init__
  refine held_of F sc (fun vs H Q E h => ?_) (fun _ _ _ _ _ _ us hl => match us, hl with | [_, _], _ => rfl) fun cdv A outer s H E hr => ?_
  · exact spI_len (fun as k h => by obtain ⟨_, rfl, _⟩ := h; rfl) vs H Q E h
  have hu := hu_of hr
  have hF_ : Cls K T.C_Family ∧ NoAttr K T.C_Family "own_lots" := ⟨T.isF.cl, T.naF⟩
  have hM_ : Cls K T.C_Map ∧ NoAttr K T.C_Map "own_families" := ⟨T.isM.cl, T.naM⟩
  have iF_ := T.isF
  have iM_ := T.isM
  have G_is_list := held_mono (h_is_list (P := P) (w := w) (base := base) T) (show 1 ≤ 2 by decide)
  have G_fits := held_mono (h_fits (P := P) (w := w) (base := base) T) (show 2 ≤ 2 by decide)
  refine ⟨_, (pss_cons (ps_if (PW.pt (pw_or (pt_not (pt_val (pe_h G_is_list hr rfl T.g_is_list (pa_cons (pv 1) pa_nil)))) (pw_or1 (pt_cmpR op_eq (pe_callB (call_lenK (K := K) rfl) (by rfl) T.n_len (by decide +kernel) (pa_cons (pv 1) pa_nil)) pe_int (nomark _))))) (pss_one ps_never) pss_nil)
      (pss_cons (ps_for PassesOwn.never rfl (pi_enum (by rfl) T.n_enumerate (pa_cons (pv 1) pa_nil)) (pg_tupK (K := K) (n := 2) rfl rfl (pgs_cons (pg_name (i := 2) sc.nd rfl (by first | exact Or.inl rfl | exact Or.inr rfl)) (pgs_cons (pg_name (i := 3) sc.nd rfl (by first | exact Or.inl rfl | exact Or.inr rfl)) pgs_nil))) (pss_one (ps_if (pt_not (pt_val (pe_h G_fits hr rfl T.g_fits (pa_cons (pe_callB (call_lenK (K := K) rfl) (by rfl) T.n_len (by decide +kernel) (pa_cons (pv 1) pa_nil)) (pa_cons (pv 3) pa_nil))))) (pss_one ps_never) pss_nil)))
      (pss_cons (ps_if (pt_cmpR op_gt (pe_callB (call_lenK (K := K) rfl) (by rfl) T.n_len (by decide +kernel) (pa_cons (pv 1) pa_nil)) (ClX.pe_cval (pe_glob (v := .ref T.C_Map) rfl T.g_Map rfl)) (nomark _)) (pss_one ps_never) pss_nil)
      (pss_one (ps_fld (pv 0) (pe_callTy (call_listK (K := K) rfl) (by rfl) T.n_list (by decide +kernel) (pa_cons (pv 1) pa_nil)) rfl))))),
    fun vs Q sp => ?_⟩
  refine init_ok (fun Z as k a hw => ?_) sp (by simp)
  obtain ⟨fs, rfl, h0, h1, h2, hk⟩ := hw
  try dsimp only [cxOf, Cx.nox]
  repeat walk_at "s"
  refine es_forA fs.zipIdx (fun p => .tup [.int (p.2 : Nat), famD T.C_Family p.1]) (fun i e => ∃ o1 o2, e = [some (.new a T.C_Map), some (.v (.lst (fs.map (famD T.C_Family)))), o1, o2] ∧ noX e = true) (ei_enum ?_) ⟨_, _, rfl, rfl⟩ (fun i p e hp hI => ?_) (fun e hI => ?_)
  · repeat walk_at "s"
    exact enumD_map _ _ _
  · obtain ⟨o1, o2, rfl, hx⟩ := hI
    have hl : p.1 ∈ fs := (List.mem_zipIdx' (List.mem_of_getElem? hp)).2 ▸ List.getElem_mem _
    have hl2 := h2 _ hl
    refine eg_tup ⟨_, rfl, rfl, egs_cons (eg_nm (egs_cons (eg_nm (egs_nil ?_))))⟩
    repeat walk_at "s"
  · obtain ⟨o1, o2, rfl, hx⟩ := hI
    obtain ⟨mc, tk, hc1, hc2⟩ := T.k_most
    repeat walk_at "s"
    refine ev_cval (ev_fn ⟨rfl, ⟨_, _, hc1, hc2⟩, ?_⟩)
    repeat walk_at "s"
    refine es_init T.isM.cl T.naM hx rfl ?_
    repeat walk_at "s"
def W_Map_lanes (F M : Addr) : Wf := fun as k => ∃ (fs : List (List Lot)), as = [.v (mapD F M fs)] ∧ k (.int fs.length)
theorem h_Map_lanes (T : Kt K mg) : Held P w K mg base 1 T.a_Map_lanes (spD K (W_Map_lanes T.C_Family T.C_Map)) := by
  obtain ⟨fd, F⟩ := T.f_Map_lanes
  have sc := sc_Map_lanes
  refine held_of F sc (spD_len fun as k h => ?_) (fun _ _ _ _ _ _ us hl => match us, hl with | [_], _ => rfl) fun cdv A outer s H E hr => ?_
  · obtain ⟨_, rfl, _⟩ := h; rfl
  have hu := hu_of hr
  have hF_ : Cls K T.C_Family ∧ NoAttr K T.C_Family "own_lots" := ⟨T.isF.cl, T.naF⟩
  have hM_ : Cls K T.C_Map ∧ NoAttr K T.C_Map "own_families" := ⟨T.isM.cl, T.naM⟩
  have iF_ := T.isF
  have iM_ := T.isM
  refine ⟨_, (pss_one (ps_ret (pe_callB (call_lenK (K := K) rfl) (by rfl) T.n_len (by decide +kernel) (pa_cons (pe_fld (pv 0) rfl) pa_nil)))),
    fun vs Q sp => body_ok (fun Z as k hw => ?_) sp⟩
  obtain ⟨ls, rfl, hk⟩ := hw
  try dsimp only [cxOf, Cx.nox]
  repeat walk_at "s"
def W_Map_families (F M : Addr) : Wf := fun as k => ∃ (fs : List (List Lot)), as = [.v (mapD F M fs)] ∧ k (.lst (fs.map (famD F)))
theorem h_Map_families (T : Kt K mg) : Held P w K mg base 1 T.a_Map_families (spD K (W_Map_families T.C_Family T.C_Map)) := by
  obtain ⟨fd, F⟩ := T.f_Map_families
  have sc := sc_Map_families
  refine held_of F sc (spD_len fun as k h => ?_) (fun _ _ _ _ _ _ us hl => match us, hl with | [_], _ => rfl) fun cdv A outer s H E hr => ?_
  · obtain ⟨_, rfl, _⟩ := h; rfl
  have hu := hu_of hr
  have hF_ : Cls K T.C_Family ∧ NoAttr K T.C_Family "own_lots" := ⟨T.isF.cl, T.naF⟩
  have hM_ : Cls K T.C_Map ∧ NoAttr K T.C_Map "own_families" := ⟨T.isM.cl, T.naM⟩
  have iF_ := T.isF
  have iM_ := T.isM
  refine ⟨_, (pss_one (ps_ret (pe_callTy (call_listK (K := K) rfl) (by rfl) T.n_list (by decide +kernel) (pa_cons (pe_fld (pv 0) rfl) pa_nil)))),
    fun vs Q sp => body_ok (fun Z as k hw => ?_) sp⟩
  obtain ⟨ls, rfl, hk⟩ := hw
  try dsimp only [cxOf, Cx.nox]
  repeat walk_at "s"
def W_Map___getitem__ (F M : Addr) : Wf := fun as k => ∃ (fs : List (List Lot)) (i : Nat) (f : List Lot), as = [.v (mapD F M fs), .v (.int i)] ∧ fs[i]? = some f ∧ k (famD F f)
theorem h_Map___getitem__ (T : Kt K mg) : Held P w K mg base 5 T.a_Map___getitem__ (spD K (W_Map___getitem__ T.C_Family T.C_Map)) := by
  obtain ⟨fd, F⟩ := T.f_Map___getitem__
  have sc := sc_Map___getitem__
  refine held_of F sc (spD_len fun as k h => ?_) (fun _ _ _ _ _ _ us hl => match us, hl with | [_, _], _ => rfl) fun cdv A outer s H E hr => ?_
  · obtain ⟨_, _, _, rfl, _⟩ := h; rfl
  have hu := hu_of hr
  have hF_ : Cls K T.C_Family ∧ NoAttr K T.C_Family "own_lots" := ⟨T.isF.cl, T.naF⟩
  have hM_ : Cls K T.C_Map ∧ NoAttr K T.C_Map "own_families" := ⟨T.isM.cl, T.naM⟩
  have iF_ := T.isF
  have iM_ := T.isM
  have G_want_lane := held_mono (h_want_lane (P := P) (w := w) (base := base) T) (show 4 ≤ 4 by decide)
  refine ⟨_, (pss_cons (ps_expr (pe_h G_want_lane hr rfl T.g_want_lane (pa_cons (pe_callB (call_lenK (K := K) rfl) (by rfl) T.n_len (by decide +kernel) (pa_cons (pe_fld (pv 0) rfl) pa_nil)) (pa_cons (pv 1) pa_nil))))
      (pss_one (ps_ret (pe_ix (ix_listK (K := K) rfl) (pe_fld (pv 0) rfl) (pv 1) (fun _ _ => rfl))))),
    fun vs Q sp => body_ok (fun Z as k hw => ?_) sp⟩
  obtain ⟨fs, i, f, rfl, h0, hk⟩ := hw
  have hi := (List.getElem?_eq_some_iff.mp h0).1
  have ha : atI (fs.map (famD T.C_Family)) (i : Int) = some (famD T.C_Family f) := atI_nat (by rw [List.getElem?_map, h0]; rfl)
  try dsimp only [cxOf, Cx.nox]
  repeat walk_at "s"
end
end Ln
/-! K6: plans and answers looked at. -/
namespace Ln
open PySem PySem.Spec PyProof.Rows L2
def llD (x : List (List Lot)) : Dm := .lst (x.map lotsD)
theorem lk_get {α : Type} {f : α → Dm} {xs : List α} {i : Nat} {x : α} (h : xs[i]? = some x) : atI (xs.map f) (i : Int) = some (f x) := atI_nat (by rw [List.getElem?_map, h]; rfl)
section
local macro_rules | `(tactic| walk_at "kb") => `(tactic| first | exact kb_ii | exact kb_ib | exact kb_tt | exact kb_tl | exact kb_lt | exact kb_ll | exact kb_dd)
local macro_rules | `(tactic| walk_at "om") => `(tactic| first | omega | (simp only [List.length_map, List.length_cons, List.length_nil]; omega))
local macro_rules | `(tactic| walk_at "s") => `(tactic| first
  | ((with_reducible show Ev _ _ (tVar _) _ _); refine ev_var rfl ?_)
  | (with_reducible refine ev_int ?_)
  | (with_reducible refine ev_bl ?_)
  | (with_reducible refine ev_str ?_)
  | (with_reducible refine ev_non ?_)
  | (with_reducible refine ev_ty ?_)
  | (with_reducible refine ev_fn ?_)
  | (with_reducible refine ev_op ?_)
  | (with_reducible refine er_b0 ?_)
  | (with_reducible refine er_i0 ?_)
  | ((with_reducible show Er _ _ (rIxT _) _ _ _); first | refine er_ixT ⟨_, _, rfl, rfl, ?_⟩ | refine er_ixT ⟨_, _, rfl, (by assumption), ?_⟩)
  | ((with_reducible show Er _ _ (rIxL _) _ _ _); first | refine er_ixL ⟨_, rfl, ?_⟩ | refine er_ixL ⟨_, (by assumption), ?_⟩)
  | (with_reducible refine ev_neg ?_)
  | (with_reducible refine ev_prop ?_)
  | (with_reducible refine ev_gi ?_)
  | (with_reducible refine ev_meth ?_)
  | ((with_reducible show Ev _ _ (tMake _ _ _ _ _) _ _); refine ev_make ?_)
  | ((with_reducible show Ev _ _ (tFld _ _ _) _ _); refine ev_fldA (by assumption) ?_)
  | (with_reducible refine ev_din ?_)
  | (with_reducible refine ev_dnin ?_)
  | (with_reducible refine ev_dget ?_)
  | ((with_reducible show Ed _ _ (tVar _) _ _); first | refine ed_own rfl ?_ | refine ed_ro rfl ?_ | refine ed_frz rfl ?_ | refine ed_v (ev_var rfl ⟨_, rfl, ?_⟩))
  | (with_reducible refine ev_call ?_)
  | ((with_reducible show Ev _ _ (tCall (spF _ _) _ _ _) _ _); refine ev_ef (ef_callF ?_))
  | (with_reducible refine ev_cb ?_)
  | ((with_reducible show Ea _ _ (tCons (tVar _) _) _ _); refine ea_pot rfl ?_)
  | (with_reducible refine ea_nil ?_)
  | (with_reducible refine ea_v ?_)
  | (with_reducible refine ev_andV ?_)
  | (with_reducible refine ev_orV ?_)
  | (with_reducible refine ev_notV ?_)
  | (with_reducible refine ev_if ?_)
  | (with_reducible refine ev_chain ?_)
  | (with_reducible refine et_test ?_)
  | (with_reducible refine et_B ?_)
  | (with_reducible refine et_yes ?_)
  | (with_reducible refine et_and ?_)
  | (with_reducible refine et_or ?_)
  | (with_reducible refine et_not ?_)
  | (with_reducible refine et_ifT ?_)
  | (with_reducible refine es_seq ?_)
  | (with_reducible refine es_next ?_)
  | (with_reducible refine es_if ?_)
  | (with_reducible refine es_ret ?_)
  | (with_reducible refine es_set ?_)
  | (with_reducible refine es_asg ?_)
  | (with_reducible refine eg_nm ?_)
  | (with_reducible refine egs_cons ?_)
  | (with_reducible refine egs_nil ?_)
  | ((with_reducible show Eg _ _ (gTup _ _ _) _ _ _); refine eg_tup ⟨_, rfl, rfl, ?_⟩)
  | ((with_reducible show Es _ _ (tPar _ _ (tCons tDNewK _)) _ _); refine es_parO (by first | (simp [startE]; done) | decide) (ef_dnew ?_))
  | (with_reducible refine es_par ?_)
  | ((with_reducible show Er _ _ (rI _ _) _ _ _); first | refine er_i (Or.inl ⟨by omega, by omega⟩) ?_ | refine er_i (Or.inr ⟨by omega, by omega⟩) ?_ | refine er_i ⟨by omega, by omega⟩ ?_ | refine er_i (by omega) ?_)
  | (with_reducible refine es_drop ?_)
  | (with_reducible refine ev_tup ?_)
  | (with_reducible refine ev_lst ?_)
  | ((with_reducible show Eb _ _ (rIsi _) [_, Ag.v (Dm.ty _)] _); refine eb_isi rfl (by walk_at "kb") ?_)
  | ((with_reducible show Eb _ _ (rIsi _) [_, Ag.v (Dm.fn _)] _); refine eb_isiC (by assumption) ?_)
  | ((with_reducible show Eb _ _ (rIsiT _) _ _); refine eb_isi2 rfl (by walk_at "kb") (by walk_at "kb") ?_)
  | ((with_reducible show Er _ _ (fun _ _ _ _ => _) _ _ _); first | refine er_isN ?_ | refine er_notN ?_)
  | ((with_reducible show Er _ _ rEq _ _ _); refine er_eq ⟨_, rfl, ?_⟩)
  | ((with_reducible show Er _ _ rNe _ _ _); refine er_ne ⟨_, rfl, ?_⟩)
  | ((with_reducible show Eb _ _ _ [Ag.v (Dm.int _)] _); first | refine eb_abs ?_ | refine eb_int ?_)
  | ((with_reducible show Eb _ _ (rListOf _) _ _); refine eb_list ⟨_, (by first | rfl | assumption), ?_⟩)
  | ((with_reducible show Eb _ _ _ [Ag.v _] _); refine eb_len ⟨_, (by first | rfl | assumption), ?_⟩)
  | ((with_reducible show ite _ _ _); first | refine br_y rfl ?_ | refine br_n rfl ?_ | refine br_y (decide_eq_true (by walk_at "om")) ?_ | refine br_n (decide_eq_false (by walk_at "om")) ?_)
  | (with_reducible refine br_nt (by walk_at "om") ?_)
  | (with_reducible refine br_nf (by walk_at "om") ?_)
  | assumption
  | exact rfl
  | exact congrArg Dm.bl (decide_eq_true (by walk_at "om"))
  | exact congrArg Dm.bl (decide_eq_false (by walk_at "om"))
  | (with_reducible refine kb_t (by walk_at "om") ?_)
  | refine ⟨[_], rfl, sl15 (Nat.le_of_ble_eq_true rfl), ?_⟩
  | refine ⟨[_, _], rfl, sl15 (Nat.le_of_ble_eq_true rfl), ?_⟩
  | refine ⟨[_, _, _], rfl, sl15 (Nat.le_of_ble_eq_true rfl), ?_⟩
  | refine ⟨[], rfl, Nat.zero_le _, ?_⟩
  | exact ⟨_, rfl⟩
  | exact ⟨_, _, rfl⟩
  | exact ⟨_, _, _, rfl⟩
  | exact ⟨_, _, _, _, rfl⟩
  | refine ⟨_, _, rfl, rfl, ?_⟩
  | refine ⟨_, rfl, ?_⟩
  | refine ⟨_, _, rfl, ?_⟩
  | refine ⟨_, _, _, rfl, ?_⟩
  | refine ⟨_, _, _, _, rfl, ?_⟩
  | refine ⟨_, rfl, (by assumption), ?_⟩
  | refine ⟨_, _, rfl, (by assumption), ?_⟩
  | refine ⟨⟨_, _, rfl⟩, ?_⟩
  | refine And.intro (by first | assumption | walk_at "om") ?_
  | refine And.intro rfl ?_
  | (simp only [List.length_map]; assumption)
  | omega)
local macro_rules | `(tactic| walk_at "nx") => `(tactic| (repeat first | assumption | exact rfl | refine noX_set ?_ rfl))
local macro_rules | `(tactic| walk_at "gs") => `(tactic| (repeat first | exact gset_nil | exact gset_name (by decide) | exact gmono_nil | exact gmono_name | refine gset_tup ?_ | refine gmono_tup ?_ | refine gset_cons ?_ ?_ ?_ ?_ | refine gmono_cons ?_ ?_))
variable {P : Program} {w : World} {K : PySem.W.Frag} {mg : Str → Option Value} {base : Heap}
theorem intsD_map (n : Nat) : intsD 0 n = (List.range n).map fun i => Dm.int (i : Nat) := by
  have : ∀ (n : Nat) (lo : Nat), intsD (lo : Int) n = (List.range' lo n).map fun i => Dm.int (i : Nat) := by
    intro n
    induction n with
    | zero => intro lo; rfl
    | succ n ih => intro lo; rw [intsD, List.range'_succ, List.map_cons, ← ih (lo + 1)]; rfl
  rw [List.range_eq_range']
  exact this n 0
theorem map_range {α β : Type} (f : α → β) (g : Nat → β) (xs : List α) (h : ∀ i x, xs[i]? = some x → g i = f x) : (List.range xs.length).map g = xs.map f := by
  refine List.ext_getElem? fun i => ?_
  rw [List.getElem?_map, List.getElem?_map]
  by_cases hi : i < xs.length
  · rw [List.getElem?_range hi, List.getElem?_eq_getElem hi]
    exact congrArg some (h i _ (List.getElem?_eq_getElem hi))
  · rw [List.getElem?_eq_none (by simp; omega), List.getElem?_eq_none (by omega)]; rfl
def W_lots_of (F M : Addr) : Wf := fun as k => ∃ (fs : List (List Lot)), as = [.v (mapD F M fs)] ∧ fs.length ≤ 12 ∧ k (llD fs)
theorem h_lots_of (T : Kt K mg) : Held P w K mg base 7 T.a_lots_of (spD K (W_lots_of T.C_Family T.C_Map)) := by
  obtain ⟨fd, F⟩ := T.f_lots_of
  have sc := sc_lots_of
  refine held_of F sc (spD_len fun as k h => ?_) (fun _ _ _ _ _ _ us hl => match us, hl with | [_], _ => rfl) fun cdv A outer s H E hr => ?_
  · obtain ⟨_, rfl, _⟩ := h; rfl
  have hu := hu_of hr
  have hF_ : Cls K T.C_Family ∧ NoAttr K T.C_Family "own_lots" := ⟨T.isF.cl, T.naF⟩
  have hM_ : Cls K T.C_Map ∧ NoAttr K T.C_Map "own_families" := ⟨T.isM.cl, T.naM⟩
  have iF_ := T.isF
  have iM_ := T.isM
  have G_lots := held_mono (h_Family_lots (P := P) (w := w) (base := base) T) (show 1 ≤ 6 by decide)
  have G_lanes := held_mono (h_Map_lanes (P := P) (w := w) (base := base) T) (show 1 ≤ 5 by decide)
  have G_getitem := held_mono (h_Map___getitem__ (P := P) (w := w) (base := base) T) (show 5 ≤ 5 by decide)
  refine ⟨_, (pss_one (ps_ret (pe_lc (own := [("lane", 1)]) (g := gName 1) (tt := tYes) rfl sc.nd (pi_range1 (by rfl) T.n_range (pa_cons (pe_ph (pv 0) T.isM.cl T.p_lanes G_lanes hr) pa_nil)) (blkOk_by (N := N_lots_of) (sc := defScope s_lots_of) (by decide +kernel)) (fun _ _ _ _ _ => (pg_name (i := 1) sc.nd rfl (by first | exact Or.inl rfl | exact Or.inr rfl))) (fun _ _ _ _ _ => pts_nil) (fun _ _ _ _ _ => (pe_mh (pe_gi (pv 0) (pv 1) T.m_getitem G_getitem hr) T.isF.cl T.m_lots G_lots hr))))),
    fun vs Q sp => body_ok (fun Z as k hw => ?_) sp⟩
  obtain ⟨fs, rfl, h0, hk⟩ := hw
  try dsimp only [cxOf, Cx.nox]
  repeat walk_at "s"
  refine ev_ef (ef_mapX (List.range fs.length) (fun i => .int (i : Nat)) (fun i => lotsD (fs.getD i [])) (by walk_at "gs") (by walk_at "gs") (ej (ei_range1 ?_)) (by rw [List.length_range]; exact sln' h0) (fun Z' i hi => eg_nm ?_) ?_)
  · repeat walk_at "s"
    exact intsD_map _
  · have hi := List.mem_range.mp hi
    have h1 : fs[i]? = some (fs.getD i []) := by rw [List.getD_eq_getElem?_getD, List.getElem?_eq_getElem hi]; rfl
    repeat walk_at "s"
    refine ⟨_, i, _, rfl, h1, ?_⟩
    repeat walk_at "s"
    refine And.intro (by decide) ?_
    repeat walk_at "s"
  · rw [map_range lotsD _ fs fun i x h => by rw [List.getD_eq_getElem?_getD, h]; rfl]
    exact hk
/-! ### numbers -/
def gi (l : List Int) (j : Int) : Int := l.getD j.toNat 0
theorem gi_at {l : List Int} {j : Int} (h0 : 0 ≤ j) (h1 : j < l.length) : atI (l.map Dm.int) j = some (Dm.int (gi l j)) := by
  have e : (l.map Dm.int)[j.toNat]? = some (.int (gi l j)) := by
    rw [List.getElem?_map, List.getElem?_eq_getElem (by omega)]
    unfold gi
    rw [List.getD_eq_getElem?_getD, List.getElem?_eq_getElem (by omega)]; rfl
  have := atI_nat e
  rwa [Int.toNat_of_nonneg h0] at this
def formD (c : Int) (ss bs : List Int) : Dm := .tup [.int c, intsL ss, intsL bs]
def heldE (c : Int) (ss bs : List Int) (i : Int) (e : Int × Int) : Bool := decide (gi ss e.1 ≤ gi ss i) && decide (gi bs e.1 + c * e.2 ≤ gi bs i + gi ss i)
def pickedE (c : Int) (ss bs : List Int) (i : Int) (e : Int × Int) : Bool := decide (gi ss e.1 ≥ gi ss i) && decide (gi bs e.1 + c * e.2 ≥ gi bs i + gi ss i)
def W_is_held : Wf := fun as k => ∃ (e : Int × Int) (i c : Int) (ss bs : List Int), as = [.v (enD e), .v (.int i), .v (formD c ss bs)] ∧ 0 ≤ e.1 ∧ e.1 < ss.length ∧ 0 ≤ i ∧ i < ss.length ∧ ss.length = bs.length ∧ 1 ≤ c ∧ c ≤ 1000 ∧ k (.bl (heldE c ss bs i e))
theorem h_is_held (T : Kt K mg) : Held P w K mg base 1 T.a_is_held (spD K W_is_held) := by
  obtain ⟨fd, F⟩ := T.f_is_held
  have sc := sc_is_held
  refine held_of F sc (spD_len fun as k h => ?_) (fun _ _ _ _ _ _ us hl => match us, hl with | [_, _, _], _ => rfl) fun cdv A outer s H E hr => ?_
  · obtain ⟨_, _, _, _, _, rfl, _⟩ := h; rfl
  have hu := hu_of hr
  have hF_ : Cls K T.C_Family ∧ NoAttr K T.C_Family "own_lots" := ⟨T.isF.cl, T.naF⟩
  have hM_ : Cls K T.C_Map ∧ NoAttr K T.C_Map "own_families" := ⟨T.isM.cl, T.naM⟩
  have iF_ := T.isF
  have iM_ := T.isM
  refine ⟨_, (pss_cons (ps_asg (pv 2) (pg_tupK (K := K) (n := 3) rfl rfl (pgs_cons (pg_name (i := 3) sc.nd rfl (by first | exact Or.inl rfl | exact Or.inr rfl)) (pgs_cons (pg_name (i := 4) sc.nd rfl (by first | exact Or.inl rfl | exact Or.inr rfl)) (pgs_cons (pg_name (i := 5) sc.nd rfl (by first | exact Or.inl rfl | exact Or.inr rfl)) pgs_nil)))))
      (pss_one (ps_ret (pe_and (pe_cmpR op_le (pe_ix (ix_listK (K := K) rfl) (pv 4) (pe_ix (ix_tupK (K := K) rfl) (pv 0) pe_int (fun _ _ => rfl)) (fun _ _ => rfl)) (pe_ix (ix_listK (K := K) rfl) (pv 4) (pv 1) (fun _ _ => rfl)) (nomark _)) (pe_one (pe_cmpR op_le (pe_op op_add (pe_ix (ix_listK (K := K) rfl) (pv 5) (pe_ix (ix_tupK (K := K) rfl) (pv 0) pe_int (fun _ _ => rfl)) (fun _ _ => rfl)) (pe_op op_mul (pv 3) (pe_ix (ix_tupK (K := K) rfl) (pv 0) pe_int (fun _ _ => rfl)))) (pe_op op_add (pe_ix (ix_listK (K := K) rfl) (pv 5) (pv 1) (fun _ _ => rfl)) (pe_ix (ix_listK (K := K) rfl) (pv 4) (pv 1) (fun _ _ => rfl))) (nomark _))))))),
    fun vs Q sp => body_ok (fun Z as k hw => ?_) sp⟩
  obtain ⟨e, i, c, ss, bs, rfl, h0, h1, h2, h3, h4, h5, h6, hk⟩ := hw
  have a1 := gi_at (l := ss) h0 h1
  have a2 := gi_at (l := ss) h2 h3
  have a3 := gi_at (l := bs) h0 (by omega)
  have a4 := gi_at (l := bs) h2 (by omega)
  unfold heldE at hk
  try dsimp only [cxOf, Cx.nox]
  repeat walk_at "s"
  refine br_d (fun hc => ?_) (fun hc => ?_)
  · repeat walk_at "s"
    rw [decide_eq_true hc] at hk
    exact hk
  · rw [decide_eq_false hc] at hk
    exact hk
def W_is_picked : Wf := fun as k => ∃ (e : Int × Int) (i c : Int) (ss bs : List Int), as = [.v (enD e), .v (.int i), .v (formD c ss bs)] ∧ 0 ≤ e.1 ∧ e.1 < ss.length ∧ 0 ≤ i ∧ i < ss.length ∧ ss.length = bs.length ∧ 1 ≤ c ∧ c ≤ 1000 ∧ k (.bl (pickedE c ss bs i e))
theorem h_is_picked (T : Kt K mg) : Held P w K mg base 1 T.a_is_picked (spD K W_is_picked) := by
  obtain ⟨fd, F⟩ := T.f_is_picked
  have sc := sc_is_picked
  refine held_of F sc (spD_len fun as k h => ?_) (fun _ _ _ _ _ _ us hl => match us, hl with | [_, _, _], _ => rfl) fun cdv A outer s H E hr => ?_
  · obtain ⟨_, _, _, _, _, rfl, _⟩ := h; rfl
  have hu := hu_of hr
  have hF_ : Cls K T.C_Family ∧ NoAttr K T.C_Family "own_lots" := ⟨T.isF.cl, T.naF⟩
  have hM_ : Cls K T.C_Map ∧ NoAttr K T.C_Map "own_families" := ⟨T.isM.cl, T.naM⟩
  have iF_ := T.isF
  have iM_ := T.isM
  refine ⟨_, (pss_cons (ps_asg (pv 2) (pg_tupK (K := K) (n := 3) rfl rfl (pgs_cons (pg_name (i := 3) sc.nd rfl (by first | exact Or.inl rfl | exact Or.inr rfl)) (pgs_cons (pg_name (i := 4) sc.nd rfl (by first | exact Or.inl rfl | exact Or.inr rfl)) (pgs_cons (pg_name (i := 5) sc.nd rfl (by first | exact Or.inl rfl | exact Or.inr rfl)) pgs_nil)))))
      (pss_one (ps_ret (pe_and (pe_cmpR op_ge (pe_ix (ix_listK (K := K) rfl) (pv 4) (pe_ix (ix_tupK (K := K) rfl) (pv 0) pe_int (fun _ _ => rfl)) (fun _ _ => rfl)) (pe_ix (ix_listK (K := K) rfl) (pv 4) (pv 1) (fun _ _ => rfl)) (nomark _)) (pe_one (pe_cmpR op_ge (pe_op op_add (pe_ix (ix_listK (K := K) rfl) (pv 5) (pe_ix (ix_tupK (K := K) rfl) (pv 0) pe_int (fun _ _ => rfl)) (fun _ _ => rfl)) (pe_op op_mul (pv 3) (pe_ix (ix_tupK (K := K) rfl) (pv 0) pe_int (fun _ _ => rfl)))) (pe_op op_add (pe_ix (ix_listK (K := K) rfl) (pv 5) (pv 1) (fun _ _ => rfl)) (pe_ix (ix_listK (K := K) rfl) (pv 4) (pv 1) (fun _ _ => rfl))) (nomark _))))))),
    fun vs Q sp => body_ok (fun Z as k hw => ?_) sp⟩
  obtain ⟨e, i, c, ss, bs, rfl, h0, h1, h2, h3, h4, h5, h6, hk⟩ := hw
  have a1 := gi_at (l := ss) h0 h1
  have a2 := gi_at (l := ss) h2 h3
  have a3 := gi_at (l := bs) h0 (by omega)
  have a4 := gi_at (l := bs) h2 (by omega)
  unfold pickedE at hk
  try dsimp only [cxOf, Cx.nox]
  repeat walk_at "s"
  refine br_d (fun hc => ?_) (fun hc => ?_)
  · repeat walk_at "s"
    rw [decide_eq_true hc] at hk
    exact hk
  · rw [decide_eq_false hc] at hk
    exact hk
end
end Ln
/-! K7: walks looked at. -/
namespace Ln
open PySem PySem.Spec PyProof.Rows L2
section
local macro_rules | `(tactic| walk_at "kb") => `(tactic| first | exact kb_ii | exact kb_ib | exact kb_tt | exact kb_tl | exact kb_lt | exact kb_ll | exact kb_dd)
local macro_rules | `(tactic| walk_at "om") => `(tactic| first | omega | (simp only [List.length_map, List.length_cons, List.length_nil]; omega))
local macro_rules | `(tactic| walk_at "s") => `(tactic| first
  | ((with_reducible show Ev _ _ (tVar _) _ _); refine ev_var rfl ?_)
  | (with_reducible refine ev_int ?_)
  | (with_reducible refine ev_bl ?_)
  | (with_reducible refine ev_str ?_)
  | (with_reducible refine ev_non ?_)
  | (with_reducible refine ev_ty ?_)
  | (with_reducible refine ev_fn ?_)
  | (with_reducible refine ev_op ?_)
  | (with_reducible refine er_b0 ?_)
  | (with_reducible refine er_i0 ?_)
  | ((with_reducible show Er _ _ (rIxT _) _ _ _); first | refine er_ixT ⟨_, _, rfl, rfl, ?_⟩ | refine er_ixT ⟨_, _, rfl, (by assumption), ?_⟩)
  | ((with_reducible show Er _ _ (rIxL _) _ _ _); first | refine er_ixL ⟨_, rfl, ?_⟩ | refine er_ixL ⟨_, (by assumption), ?_⟩)
  | (with_reducible refine ev_neg ?_)
  | (with_reducible refine ev_prop ?_)
  | (with_reducible refine ev_gi ?_)
  | (with_reducible refine ev_meth ?_)
  | ((with_reducible show Ev _ _ (tMake _ _ _ _ _) _ _); refine ev_make ?_)
  | ((with_reducible show Ev _ _ (tFld _ _ _) _ _); refine ev_fldA (by assumption) ?_)
  | (with_reducible refine ev_din ?_)
  | (with_reducible refine ev_dnin ?_)
  | (with_reducible refine ev_dget ?_)
  | ((with_reducible show Ed _ _ (tVar _) _ _); first | refine ed_own rfl ?_ | refine ed_ro rfl ?_ | refine ed_frz rfl ?_ | refine ed_v (ev_var rfl ⟨_, rfl, ?_⟩))
  | (with_reducible refine ev_call ?_)
  | ((with_reducible show Ev _ _ (tCall (spF _ _) _ _ _) _ _); refine ev_ef (ef_callF ?_))
  | (with_reducible refine ev_cb ?_)
  | ((with_reducible show Ea _ _ (tCons (tVar _) _) _ _); refine ea_pot rfl ?_)
  | (with_reducible refine ea_nil ?_)
  | (with_reducible refine ea_v ?_)
  | (with_reducible refine ev_andV ?_)
  | (with_reducible refine ev_orV ?_)
  | (with_reducible refine ev_notV ?_)
  | (with_reducible refine ev_if ?_)
  | (with_reducible refine ev_chain ?_)
  | (with_reducible refine et_test ?_)
  | (with_reducible refine et_B ?_)
  | (with_reducible refine et_yes ?_)
  | (with_reducible refine et_and ?_)
  | (with_reducible refine et_or ?_)
  | (with_reducible refine et_not ?_)
  | (with_reducible refine et_ifT ?_)
  | (with_reducible refine es_seq ?_)
  | (with_reducible refine es_next ?_)
  | (with_reducible refine es_if ?_)
  | (with_reducible refine es_ret ?_)
  | (with_reducible refine es_set ?_)
  | (with_reducible refine es_asg ?_)
  | (with_reducible refine eg_nm ?_)
  | (with_reducible refine egs_cons ?_)
  | (with_reducible refine egs_nil ?_)
  | ((with_reducible show Eg _ _ (gTup _ _ _) _ _ _); refine eg_tup ⟨_, rfl, rfl, ?_⟩)
  | ((with_reducible show Es _ _ (tPar _ _ (tCons tDNewK _)) _ _); refine es_parO (by first | (simp [startE]; done) | decide) (ef_dnew ?_))
  | (with_reducible refine es_par ?_)
  | ((with_reducible show Er _ _ (rI _ _) _ _ _); first | refine er_i (Or.inl ⟨by omega, by omega⟩) ?_ | refine er_i (Or.inr ⟨by omega, by omega⟩) ?_ | refine er_i ⟨by omega, by omega⟩ ?_ | refine er_i (by omega) ?_)
  | (with_reducible refine es_drop ?_)
  | (with_reducible refine ev_tup ?_)
  | (with_reducible refine ev_lst ?_)
  | ((with_reducible show Eb _ _ (rIsi _) [_, Ag.v (Dm.ty _)] _); refine eb_isi rfl (by walk_at "kb") ?_)
  | ((with_reducible show Eb _ _ (rIsi _) [_, Ag.v (Dm.fn _)] _); refine eb_isiC (by assumption) ?_)
  | ((with_reducible show Eb _ _ (rIsiT _) _ _); refine eb_isi2 rfl (by walk_at "kb") (by walk_at "kb") ?_)
  | ((with_reducible show Er _ _ (fun _ _ _ _ => _) _ _ _); first | refine er_isN ?_ | refine er_notN ?_)
  | ((with_reducible show Er _ _ rEq _ _ _); refine er_eq ⟨_, rfl, ?_⟩)
  | ((with_reducible show Er _ _ rNe _ _ _); refine er_ne ⟨_, rfl, ?_⟩)
  | ((with_reducible show Eb _ _ _ [Ag.v (Dm.int _)] _); first | refine eb_abs ?_ | refine eb_int ?_)
  | ((with_reducible show Eb _ _ (rListOf _) _ _); refine eb_list ⟨_, (by first | rfl | assumption), ?_⟩)
  | ((with_reducible show Eb _ _ _ [Ag.v _] _); refine eb_len ⟨_, (by first | rfl | assumption), ?_⟩)
  | ((with_reducible show ite _ _ _); first | refine br_y rfl ?_ | refine br_n rfl ?_ | refine br_y (decide_eq_true (by walk_at "om")) ?_ | refine br_n (decide_eq_false (by walk_at "om")) ?_)
  | (with_reducible refine br_nt (by walk_at "om") ?_)
  | (with_reducible refine br_nf (by walk_at "om") ?_)
  | assumption
  | exact rfl
  | exact congrArg Dm.bl (decide_eq_true (by walk_at "om"))
  | exact congrArg Dm.bl (decide_eq_false (by walk_at "om"))
  | (with_reducible refine kb_t (by walk_at "om") ?_)
  | refine ⟨[_], rfl, sl15 (Nat.le_of_ble_eq_true rfl), ?_⟩
  | refine ⟨[_, _], rfl, sl15 (Nat.le_of_ble_eq_true rfl), ?_⟩
  | refine ⟨[_, _, _], rfl, sl15 (Nat.le_of_ble_eq_true rfl), ?_⟩
  | refine ⟨[], rfl, Nat.zero_le _, ?_⟩
  | exact ⟨_, rfl⟩
  | exact ⟨_, _, rfl⟩
  | exact ⟨_, _, _, rfl⟩
  | exact ⟨_, _, _, _, rfl⟩
  | refine ⟨_, _, rfl, rfl, ?_⟩
  | refine ⟨_, rfl, ?_⟩
  | refine ⟨_, _, rfl, ?_⟩
  | refine ⟨_, _, _, rfl, ?_⟩
  | refine ⟨_, _, _, _, rfl, ?_⟩
  | refine ⟨_, rfl, (by assumption), ?_⟩
  | refine ⟨_, _, rfl, (by assumption), ?_⟩
  | refine ⟨⟨_, _, rfl⟩, ?_⟩
  | refine And.intro (by first | assumption | walk_at "om") ?_
  | refine And.intro rfl ?_
  | (simp only [List.length_map]; assumption)
  | omega)
local macro_rules | `(tactic| walk_at "nx") => `(tactic| (repeat first | assumption | exact rfl | refine noX_set ?_ rfl))
local macro_rules | `(tactic| walk_at "gs") => `(tactic| (repeat first | exact gset_nil | exact gset_name (by decide) | exact gmono_nil | exact gmono_name | refine gset_tup ?_ | refine gmono_tup ?_ | refine gset_cons ?_ ?_ ?_ ?_ | refine gmono_cons ?_ ?_))
variable {P : Program} {w : World} {K : PySem.W.Frag} {mg : Str → Option Value} {base : Heap}
theorem abs_nat (i : Int) : (if i < 0 then -i else i) = (i.natAbs : Int) := by split <;> omega
def W_common_divisor : Wf := fun as k => ∃ (a b : Int), as = [.v (.int a), .v (.int b)] ∧ k (.int (Int.gcd a b : Nat))
theorem h_common_divisor (T : Kt K mg) : Held P w K mg base 1 T.a_common_divisor (spD K W_common_divisor) := by
  obtain ⟨fd, F⟩ := T.f_common_divisor
  have sc := sc_common_divisor
  refine held_of F sc (spD_len fun as k h => ?_) (fun _ _ _ _ _ _ us hl => match us, hl with | [_, _], _ => rfl) fun cdv A outer s H E hr => ?_
  · obtain ⟨_, _, rfl, _⟩ := h; rfl
  have hu := hu_of hr
  have hF_ : Cls K T.C_Family ∧ NoAttr K T.C_Family "own_lots" := ⟨T.isF.cl, T.naF⟩
  have hM_ : Cls K T.C_Map ∧ NoAttr K T.C_Map "own_families" := ⟨T.isM.cl, T.naM⟩
  have iF_ := T.isF
  have iM_ := T.isM
  refine ⟨_, (pss_cons (ps_par (i := 0) (j := 1) (by rfl) sc.nd rfl rfl (by decide) rfl rfl (pa_cons (pe_callB call_abs (by rfl) T.n_abs (by decide +kernel) (pa_cons (pv 0) pa_nil)) (pa_cons (pe_callB call_abs (by rfl) T.n_abs (by decide +kernel) (pa_cons (pv 1) pa_nil)) pa_nil)) (by rfl))
      (pss_cons (ps_while PassesOwn.never (pt_cmpR op_gt (pv 1) pe_int (nomark _)) (pss_one (ps_par (i := 0) (j := 1) (by rfl) sc.nd rfl rfl (by decide) rfl rfl (pa_cons (pv 1) (pa_cons (pe_op op_mod (pv 0) (pv 1)) pa_nil)) (by rfl))))
      (pss_one (ps_ret (pv 0))))),
    fun vs Q sp => body_ok (fun Z as k hw => ?_) sp⟩
  obtain ⟨a, b, rfl, hk⟩ := hw
  try dsimp only [cxOf, Cx.nox]
  repeat walk_at "s"
  rw [abs_nat, abs_nat]
  refine es_while (fun m e => ∃ x y : Nat, e = [some (.v (.int x)), some (.v (.int y))] ∧ Nat.gcd x y = Int.gcd a b ∧ y = m) b.natAbs ⟨_, _, rfl, rfl, rfl⟩ fun m e hI => ?_
  obtain ⟨x, y, rfl, h1, rfl⟩ := hI
  repeat walk_at "s"
  refine br_d (fun hc => ?_) (fun hc => ?_)
  · have hy : 0 < y := by omega
    repeat walk_at "s"
    refine ⟨x % y, Nat.mod_lt _ hy, y, x % y, ?_, ?_, rfl⟩
    · rw [Int.natCast_emod]; rfl
    · rw [← h1, Nat.gcd_comm x y, Nat.gcd_rec y x, Nat.gcd_comm]
  · have hy : y = 0 := by omega
    subst hy
    rw [Nat.gcd_zero_right] at h1
    rw [← h1] at hk
    repeat walk_at "s"
def W_is_pace : Wf := fun as k => ∃ (e : Int × Int), as = [.v (enD e)] ∧ 1 ≤ e.2 ∧ Int.gcd e.1 e.2 = 1 ∧ k (.bl true)
theorem h_is_pace (T : Kt K mg) : Held P w K mg base 3 T.a_is_pace (spD K W_is_pace) := by
  obtain ⟨fd, F⟩ := T.f_is_pace
  have sc := sc_is_pace
  refine held_of F sc (spD_len fun as k h => ?_) (fun _ _ _ _ _ _ us hl => match us, hl with | [_], _ => rfl) fun cdv A outer s H E hr => ?_
  · obtain ⟨_, rfl, _⟩ := h; rfl
  have hu := hu_of hr
  have hF_ : Cls K T.C_Family ∧ NoAttr K T.C_Family "own_lots" := ⟨T.isF.cl, T.naF⟩
  have hM_ : Cls K T.C_Map ∧ NoAttr K T.C_Map "own_families" := ⟨T.isM.cl, T.naM⟩
  have iF_ := T.isF
  have iM_ := T.isM
  have G_is_step := held_mono (h_is_step (P := P) (w := w) (base := base) T) (show 2 ≤ 2 by decide)
  have G_common_divisor := held_mono (h_common_divisor (P := P) (w := w) (base := base) T) (show 1 ≤ 2 by decide)
  refine ⟨_, (pss_one (ps_ret (pe_and (pe_h G_is_step hr rfl T.g_is_step (pa_cons (pv 0) pa_nil)) (pe_and (pe_cmpR op_ge (pe_ix (ix_tupK (K := K) rfl) (pv 0) pe_int (fun _ _ => rfl)) pe_int (nomark _)) (pe_one (pe_cmpR op_eq (pe_h G_common_divisor hr rfl T.g_common_divisor (pa_cons (pe_ix (ix_tupK (K := K) rfl) (pv 0) pe_int (fun _ _ => rfl)) (pa_cons (pe_ix (ix_tupK (K := K) rfl) (pv 0) pe_int (fun _ _ => rfl)) pa_nil))) pe_int (nomark _))))))),
    fun vs Q sp => body_ok (fun Z as k hw => ?_) sp⟩
  obtain ⟨e, rfl, h0, h1, hk⟩ := hw
  try dsimp only [cxOf, Cx.nox]
  repeat walk_at "s"
def cmnN (ps : List (Int × Int)) : Nat := ps.foldl (fun f e => Nat.lcm f e.2.toNat) 1
theorem cmn_snoc (ps : List (Int × Int)) (e : Int × Int) : cmnN (ps ++ [e]) = Nat.lcm (cmnN ps) e.2.toNat := by unfold cmnN; rw [List.foldl_append]; rfl
theorem cmn_dvd {c : Nat} : ∀ {ps : List (Int × Int)}, (∀ e ∈ ps, e.2.toNat ∣ c) → cmnN ps ∣ c := by
  have : ∀ (ps : List (Int × Int)) (f : Nat), f ∣ c → (∀ e ∈ ps, e.2.toNat ∣ c) → ps.foldl (fun f e => Nat.lcm f e.2.toNat) f ∣ c := by
    intro ps
    induction ps with
    | nil => exact fun f h _ => h
    | cons e ps ih => exact fun f h h2 => ih _ (Nat.lcm_dvd h (h2 e (List.mem_cons_self ..))) fun x hx => h2 x (List.mem_cons_of_mem _ hx)
  exact fun {ps} h => this ps 1 (Nat.one_dvd _) h
def W_common_number : Wf := fun as k => ∃ (d : Dm) (ps : List (Int × Int)) (c : Nat), as = [.v d] ∧ d.seq = some (ps.map enD) ∧ (∀ e ∈ ps, 1 ≤ e.2 ∧ e.2.toNat ∣ c) ∧ 1 ≤ c ∧ c ≤ 1000 ∧ k (.int (cmnN ps : Nat))
theorem h_common_number (T : Kt K mg) : Held P w K mg base 2 T.a_common_number (spD K W_common_number) := by
  obtain ⟨fd, F⟩ := T.f_common_number
  have sc := sc_common_number
  refine held_of F sc (spD_len fun as k h => ?_) (fun _ _ _ _ _ _ us hl => match us, hl with | [_], _ => rfl) fun cdv A outer s H E hr => ?_
  · obtain ⟨_, _, _, rfl, _⟩ := h; rfl
  have hu := hu_of hr
  have hF_ : Cls K T.C_Family ∧ NoAttr K T.C_Family "own_lots" := ⟨T.isF.cl, T.naF⟩
  have hM_ : Cls K T.C_Map ∧ NoAttr K T.C_Map "own_families" := ⟨T.isM.cl, T.naM⟩
  have iF_ := T.isF
  have iM_ := T.isM
  have G_common_divisor := held_mono (h_common_divisor (P := P) (w := w) (base := base) T) (show 1 ≤ 1 by decide)
  refine ⟨_, (pss_cons (ps_set (i := 1) sc.nd rfl (by first | exact Or.inl rfl | exact Or.inr rfl) pe_int)
      (pss_cons (ps_for PassesOwn.never rfl (pi_or (pi_listK (K := K) rfl (pv 0)) (pi_tupK (K := K) rfl (pv 0))) (pg_tupK (K := K) (n := 2) rfl rfl (pgs_cons (pg_name (i := 2) sc.nd rfl (by first | exact Or.inl rfl | exact Or.inr rfl)) (pgs_cons (pg_name (i := 3) sc.nd rfl (by first | exact Or.inl rfl | exact Or.inr rfl)) pgs_nil))) (pss_one (ps_set (i := 1) sc.nd rfl (by first | exact Or.inl rfl | exact Or.inr rfl) (pe_op op_mul (pv 1) (pe_op op_fdiv (pv 3) (pe_h G_common_divisor hr rfl T.g_common_divisor (pa_cons (pv 1) (pa_cons (pv 3) pa_nil))))))))
      (pss_one (ps_ret (pv 1))))),
    fun vs Q sp => body_ok (fun Z as k hw => ?_) sp⟩
  obtain ⟨d, ps, c, rfl, h0, h1, h2, h3, hk⟩ := hw
  try dsimp only [cxOf, Cx.nox]
  repeat walk_at "s"
  refine es_forA ps enD (fun i e => ∃ o2 o3, e = [some (.v d), some (.v (.int (cmnN (ps.take i) : Nat))), o2, o3]) (ei_seqV rfl h0 rfl) ⟨_, _, rfl⟩ (fun i x e hx hI => ?_) (fun e hI => ?_)
  · obtain ⟨o2, o3, rfl⟩ := hI
    have tk : ps.take (i + 1) = ps.take i ++ [x] := by rw [List.take_succ, hx]; rfl
    have hm := h1 x (List.mem_of_getElem? hx)
    have hd : cmnN (ps.take i) ∣ c := cmn_dvd fun e he => (h1 e (List.mem_of_mem_take he)).2
    have hf1 : 1 ≤ cmnN (ps.take i) := Nat.pos_of_dvd_of_pos hd (by omega)
    have hf2 := Nat.le_of_dvd (by omega) hd
    have hg1 : 1 ≤ Int.gcd (cmnN (ps.take i) : Nat) x.2 := by
      have := Nat.gcd_pos_of_pos_left (n := x.2.natAbs) (m := cmnN (ps.take i)) (by omega)
      exact this
    have hg2 : Int.gcd (cmnN (ps.take i) : Nat) x.2 ≤ cmnN (ps.take i) := Nat.gcd_le_left _ (by omega)
    repeat walk_at "s"
    have key : (cmnN (ps.take i) : Int) * (x.2 / (Int.gcd (cmnN (ps.take i) : Nat) x.2 : Nat)) = (cmnN (ps.take (i + 1)) : Nat) := by
      rw [tk, cmn_snoc]
      obtain ⟨q, hq⟩ := Int.eq_ofNat_of_zero_le (show 0 ≤ x.2 by omega)
      rw [hq]
      show (cmnN (ps.take i) : Int) * ((q : Int) / (Nat.gcd (cmnN (ps.take i)) q : Nat)) = (Nat.lcm (cmnN (ps.take i)) q : Nat)
      rw [← Int.natCast_ediv, ← Int.natCast_mul]
      congr 1
      exact (Nat.mul_div_assoc _ (Nat.gcd_dvd_right _ _)).symm
    rw [key]
    exact ⟨_, _, rfl⟩
  · obtain ⟨o2, o3, rfl⟩ := hI
    rw [List.take_length]
    repeat walk_at "s"
theorem pyEq_nil (ds : List Dm) (h : ds ≠ []) : PyData.eqv (Dm.lst ds).py (Dm.lst []).py = false := by
  cases ds with
  | nil => exact absurd rfl h
  | cons d ds => simp [Dm.py, pyL, PyData.eqv, PyData.eqvAll]
/-- what a walk's form must have -/
structure Fo (c : Int) (ss bs : List Int) : Prop where
  sb : ss.length = bs.length
  c1 : 1 ≤ c
  c2 : c ≤ 1000
def LotsIn (n : Nat) (ls : List Lot) : Prop := ∀ l ∈ ls, l.length ≤ 12 ∧ ∀ e ∈ l, 0 ≤ e.1 ∧ e.1 < n
def heldL (c : Int) (ss bs : List Int) (i : Int) (l : Lot) : Bool := l.all (heldE c ss bs i)
theorem find_at {α : Type} {p : α → Bool} : ∀ {xs : List α} {i : Nat} {x : α}, xs[i]? = some x → (∀ y ∈ xs.take i, p y = false) → p x = true → xs.find? p = some x
  | [], i, x, h, _, _ => by simp at h
  | y :: xs, 0, x, h, _, hp => by
    have h : y = x := by simpa using h
    subst h
    simp [hp]
  | y :: xs, i + 1, x, h, h2, hp => by
    have hy := h2 y (by simp)
    rw [List.find?_cons, hy]
    exact find_at (by simpa using h) (fun z hz => h2 z (by simp [hz])) hp
def W_hold_by : Wf := fun as k => ∃ (ls : List Lot) (i c : Int) (ss bs : List Int), as = [.v (lotsD ls), .v (.int i), .v (formD c ss bs)] ∧ Fo c ss bs ∧ LotsIn ss.length ls ∧ 0 ≤ i ∧ i < ss.length ∧ ls.length ≤ 200 ∧
  ∃ l, ls.find? (heldL c ss bs i) = some l ∧ k (lotD l)
theorem h_hold_by (T : Kt K mg) : Held P w K mg base 2 T.a_hold_by (spD K W_hold_by) := by
  obtain ⟨fd, F⟩ := T.f_hold_by
  have sc := sc_hold_by
  refine held_of F sc (spD_len fun as k h => ?_) (fun _ _ _ _ _ _ us hl => match us, hl with | [_, _, _], _ => rfl) fun cdv A outer s H E hr => ?_
  · obtain ⟨_, _, _, _, _, rfl, _⟩ := h; rfl
  have hu := hu_of hr
  have hF_ : Cls K T.C_Family ∧ NoAttr K T.C_Family "own_lots" := ⟨T.isF.cl, T.naF⟩
  have hM_ : Cls K T.C_Map ∧ NoAttr K T.C_Map "own_families" := ⟨T.isM.cl, T.naM⟩
  have iF_ := T.isF
  have iM_ := T.isM
  have G_is_held := held_mono (h_is_held (P := P) (w := w) (base := base) T) (show 1 ≤ 1 by decide)
  refine ⟨_, (pss_cons (ps_for PassesOwn.never rfl (pi_listK (K := K) rfl (pv 0)) (pg_name (i := 3) sc.nd rfl (by first | exact Or.inl rfl | exact Or.inr rfl)) (pss_one (ps_if (pt_val (pe_callB (cr_allK (K := K) rfl) (by rfl) T.n_all (by decide +kernel) (pa_cons (pe_lc (own := [("entry", 4)]) (g := gName 4) (tt := tYes) rfl sc.nd (pi_tupK (K := K) rfl (pv 3)) (blkOk_by (N := N_hold_by) (sc := defScope s_hold_by) (by decide +kernel)) (fun _ _ _ _ _ => (pg_name (i := 4) sc.nd rfl (by first | exact Or.inl rfl | exact Or.inr rfl))) (fun _ _ _ _ _ => pts_nil) (fun _ _ _ _ _ => (pe_h G_is_held hr rfl T.g_is_held (pa_cons (pv 4) (pa_cons (pv 1) (pa_cons (pv 2) pa_nil)))))) pa_nil))) (pss_one (ps_ret (pv 3))) pss_nil)))
      (pss_one (ps_ret pe_non))),
    fun vs Q sp => body_ok (fun Z as k hw => ?_) sp⟩
  obtain ⟨ls, i, c, ss, bs, rfl, ho, hl, h0, h1, h2, r, hr, hk⟩ := hw
  have hsb := ho.sb
  have hc1 := ho.c1
  have hc2 := ho.c2
  try dsimp only [cxOf, Cx.nox]
  repeat walk_at "s"
  refine es_forA ls lotD (fun j e => ∃ o3 o4, e = [some (.v (lotsD ls)), some (.v (.int i)), some (.v (formD c ss bs)), o3, o4] ∧ ∀ l ∈ ls.take j, heldL c ss bs i l = false) (ei_list ?_) ⟨_, _, rfl, by simp⟩ (fun j l e hj hI => ?_) (fun e hI => ?_)
  · repeat walk_at "s"
  · obtain ⟨o3, o4, rfl, h3⟩ := hI
    have tk : ls.take (j + 1) = ls.take j ++ [l] := by rw [List.take_succ, hj]; rfl
    obtain ⟨hl1, hl2⟩ := hl l (List.mem_of_getElem? hj)
    repeat walk_at "s"
    refine ev_ef (ef_mapX l enD (fun e => .bl (heldE c ss bs i e)) (by walk_at "gs") (by walk_at "gs") (ej (ei_tup (ev_var rfl ⟨_, rfl, rfl⟩))) (sln' hl1) (fun Z' x hx => eg_nm ?_) (ea_nil (eb_allB ⟨_, rfl, ?_⟩)))
    · obtain ⟨hx0, hx1⟩ := hl2 x hx
      repeat walk_at "s"
      refine ⟨x, i, c, ss, bs, rfl, hx0, hx1, h0, h1, hsb, hc1, hc2, rfl⟩
    · show if heldL c ss bs i l = true then _ else _
      cases hh : heldL c ss bs i l with
      | true =>
        refine br_y rfl ?_
        have := find_at hj h3 hh
        rw [hr] at this
        cases this
        repeat walk_at "s"
      | false =>
        refine br_n rfl ?_
        repeat walk_at "s"
        intro l' hl'
        rw [tk] at hl'
        rcases List.mem_append.mp hl' with hl' | hl'
        · exact h3 l' hl'
        · rw [List.mem_singleton.mp hl']; exact hh
  · obtain ⟨o3, o4, rfl, h3⟩ := hI
    rw [List.take_length] at h3
    have := h3 r (List.mem_of_find?_eq_some hr)
    rw [List.find?_some hr] at this
    cases this
def pickL (c : Int) (ss bs : List Int) (i : Int) (l : Lot) : Int := ((l.filter (pickedE c ss bs i)).map (·.1)).headD 0
end
end Ln
/-! K8: walks. -/
namespace Ln
open PySem PySem.Spec PyProof.Rows L2
section
local macro_rules | `(tactic| walk_at "kb") => `(tactic| first | exact kb_ii | exact kb_ib | exact kb_tt | exact kb_tl | exact kb_lt | exact kb_ll | exact kb_dd)
local macro_rules | `(tactic| walk_at "om") => `(tactic| first | omega | (simp only [List.length_map, List.length_cons, List.length_nil]; omega))
local macro_rules | `(tactic| walk_at "s") => `(tactic| first
  | ((with_reducible show Ev _ _ (tVar _) _ _); refine ev_var rfl ?_)
  | (with_reducible refine ev_int ?_)
  | (with_reducible refine ev_bl ?_)
  | (with_reducible refine ev_str ?_)
  | (with_reducible refine ev_non ?_)
  | (with_reducible refine ev_ty ?_)
  | (with_reducible refine ev_fn ?_)
  | (with_reducible refine ev_op ?_)
  | (with_reducible refine er_b0 ?_)
  | (with_reducible refine er_i0 ?_)
  | ((with_reducible show Er _ _ (rIxT _) _ _ _); first | refine er_ixT ⟨_, _, rfl, rfl, ?_⟩ | refine er_ixT ⟨_, _, rfl, (by assumption), ?_⟩)
  | ((with_reducible show Er _ _ (rIxL _) _ _ _); first | refine er_ixL ⟨_, rfl, ?_⟩ | refine er_ixL ⟨_, (by assumption), ?_⟩)
  | (with_reducible refine ev_neg ?_)
  | (with_reducible refine ev_prop ?_)
  | (with_reducible refine ev_gi ?_)
  | (with_reducible refine ev_meth ?_)
  | ((with_reducible show Ev _ _ (tMake _ _ _ _ _) _ _); refine ev_make ?_)
  | ((with_reducible show Ev _ _ (tFld _ _ _) _ _); refine ev_fldA (by assumption) ?_)
  | (with_reducible refine ev_din ?_)
  | (with_reducible refine ev_dnin ?_)
  | (with_reducible refine ev_dget ?_)
  | ((with_reducible show Ed _ _ (tVar _) _ _); first | refine ed_own rfl ?_ | refine ed_ro rfl ?_ | refine ed_frz rfl ?_ | refine ed_v (ev_var rfl ⟨_, rfl, ?_⟩))
  | (with_reducible refine ev_call ?_)
  | ((with_reducible show Ev _ _ (tCall (spF _ _) _ _ _) _ _); refine ev_ef (ef_callF ?_))
  | (with_reducible refine ev_cb ?_)
  | ((with_reducible show Ea _ _ (tCons (tVar _) _) _ _); refine ea_pot rfl ?_)
  | (with_reducible refine ea_nil ?_)
  | (with_reducible refine ea_v ?_)
  | (with_reducible refine ev_andV ?_)
  | (with_reducible refine ev_orV ?_)
  | (with_reducible refine ev_notV ?_)
  | (with_reducible refine ev_if ?_)
  | (with_reducible refine ev_chain ?_)
  | (with_reducible refine et_test ?_)
  | (with_reducible refine et_B ?_)
  | (with_reducible refine et_yes ?_)
  | (with_reducible refine et_and ?_)
  | (with_reducible refine et_or ?_)
  | (with_reducible refine et_not ?_)
  | (with_reducible refine et_ifT ?_)
  | (with_reducible refine es_seq ?_)
  | (with_reducible refine es_next ?_)
  | (with_reducible refine es_if ?_)
  | (with_reducible refine es_ret ?_)
  | (with_reducible refine es_set ?_)
  | (with_reducible refine es_asg ?_)
  | (with_reducible refine eg_nm ?_)
  | (with_reducible refine egs_cons ?_)
  | (with_reducible refine egs_nil ?_)
  | ((with_reducible show Eg _ _ (gTup _ _ _) _ _ _); refine eg_tup ⟨_, rfl, rfl, ?_⟩)
  | ((with_reducible show Es _ _ (tPar _ _ (tCons tDNewK _)) _ _); refine es_parO (by first | (simp [startE]; done) | decide) (ef_dnew ?_))
  | (with_reducible refine es_par ?_)
  | ((with_reducible show Er _ _ (rI _ _) _ _ _); first | refine er_i (Or.inl ⟨by omega, by omega⟩) ?_ | refine er_i (Or.inr ⟨by omega, by omega⟩) ?_ | refine er_i ⟨by omega, by omega⟩ ?_ | refine er_i (by omega) ?_)
  | (with_reducible refine es_drop ?_)
  | (with_reducible refine ev_tup ?_)
  | (with_reducible refine ev_lst ?_)
  | ((with_reducible show Eb _ _ (rIsi _) [_, Ag.v (Dm.ty _)] _); refine eb_isi rfl (by walk_at "kb") ?_)
  | ((with_reducible show Eb _ _ (rIsi _) [_, Ag.v (Dm.fn _)] _); refine eb_isiC (by assumption) ?_)
  | ((with_reducible show Eb _ _ (rIsiT _) _ _); refine eb_isi2 rfl (by walk_at "kb") (by walk_at "kb") ?_)
  | ((with_reducible show Er _ _ (fun _ _ _ _ => _) _ _ _); first | refine er_isN ?_ | refine er_notN ?_)
  | ((with_reducible show Er _ _ rEq _ _ _); refine er_eq ⟨_, rfl, ?_⟩)
  | ((with_reducible show Er _ _ rNe _ _ _); refine er_ne ⟨_, rfl, ?_⟩)
  | ((with_reducible show Eb _ _ _ [Ag.v (Dm.int _)] _); first | refine eb_abs ?_ | refine eb_int ?_)
  | ((with_reducible show Eb _ _ (rListOf _) _ _); refine eb_list ⟨_, (by first | rfl | assumption), ?_⟩)
  | ((with_reducible show Eb _ _ _ [Ag.v _] _); refine eb_len ⟨_, (by first | rfl | assumption), ?_⟩)
  | ((with_reducible show ite _ _ _); first | refine br_y rfl ?_ | refine br_n rfl ?_ | refine br_y (decide_eq_true (by walk_at "om")) ?_ | refine br_n (decide_eq_false (by walk_at "om")) ?_)
  | (with_reducible refine br_nt (by walk_at "om") ?_)
  | (with_reducible refine br_nf (by walk_at "om") ?_)
  | assumption
  | exact rfl
  | exact congrArg Dm.bl (decide_eq_true (by walk_at "om"))
  | exact congrArg Dm.bl (decide_eq_false (by walk_at "om"))
  | (with_reducible refine kb_t (by walk_at "om") ?_)
  | refine ⟨[_], rfl, sl15 (Nat.le_of_ble_eq_true rfl), ?_⟩
  | refine ⟨[_, _], rfl, sl15 (Nat.le_of_ble_eq_true rfl), ?_⟩
  | refine ⟨[_, _, _], rfl, sl15 (Nat.le_of_ble_eq_true rfl), ?_⟩
  | refine ⟨[], rfl, Nat.zero_le _, ?_⟩
  | exact ⟨_, rfl⟩
  | exact ⟨_, _, rfl⟩
  | exact ⟨_, _, _, rfl⟩
  | exact ⟨_, _, _, _, rfl⟩
  | refine ⟨_, _, rfl, rfl, ?_⟩
  | refine ⟨_, rfl, ?_⟩
  | refine ⟨_, _, rfl, ?_⟩
  | refine ⟨_, _, _, rfl, ?_⟩
  | refine ⟨_, _, _, _, rfl, ?_⟩
  | refine ⟨_, rfl, (by assumption), ?_⟩
  | refine ⟨_, _, rfl, (by assumption), ?_⟩
  | refine ⟨⟨_, _, rfl⟩, ?_⟩
  | refine And.intro (by first | assumption | walk_at "om") ?_
  | refine And.intro rfl ?_
  | (simp only [List.length_map]; assumption)
  | omega)
local macro_rules | `(tactic| walk_at "nx") => `(tactic| (repeat first | assumption | exact rfl | refine noX_set ?_ rfl))
local macro_rules | `(tactic| walk_at "gs") => `(tactic| (repeat first | exact gset_nil | exact gset_name (by decide) | exact gmono_nil | exact gmono_name | refine gset_tup ?_ | refine gmono_tup ?_ | refine gset_cons ?_ ?_ ?_ ?_ | refine gmono_cons ?_ ?_))
variable {P : Program} {w : World} {K : PySem.W.Frag} {mg : Str → Option Value} {base : Heap}
theorem fit_ints (ns : List Int) : fitL (ns.map Dm.int) = true := by
  induction ns with
  | nil => rfl
  | cons n ns ih => rw [List.map_cons, fitL, ih]; rfl
theorem py_ints (ns : List Int) : pyL (ns.map Dm.int) = ns.map PyData.int := by
  induction ns with
  | nil => rfl
  | cons n ns ih => rw [List.map_cons, pyL, ih]; rfl
theorem lay_ints (ns : List Int) : PyData.canLayAll0 (ns.map PyData.int) = true := by
  induction ns with
  | nil => rfl
  | cons n ns ih => rw [List.map_cons, PyData.canLayAll0, ih]; rfl
theorem sh_ints (ns : List Int) : SeqAt.shaped (Dm.lst (ns.map Dm.int)).py = true := by
  rw [Dm.py, py_ints]
  unfold SeqAt.shaped
  rw [PyData.canLay0, lay_ints, PyData.depth, PySem.W.depth_ints]; rfl
def W_picks_by : Wx := fun as Z k => ∃ (ls : List Lot) (i c : Int) (ss bs : List Int), as = [.v (lotsD ls), .v (.int i), .v (formD c ss bs)] ∧ Fo c ss bs ∧ LotsIn ss.length ls ∧ 0 ≤ i ∧ i < ss.length ∧ ls.length ≤ 200 ∧
  (∀ l ∈ ls, ∃ e ∈ l, pickedE c ss bs i e = true) ∧ k (ownP K Z (intsL (ls.map (pickL c ss bs i))))
theorem h_picks_by (T : Kt K mg) : Held P w K mg base 2 T.a_picks_by (spF K (W_picks_by (K := K))) := by
  obtain ⟨fd, F⟩ := T.f_picks_by
  have sc := sc_picks_by
  refine held_of F sc (fun vs H Q E h => ?_) (fun _ _ _ _ _ _ us hl => match us, hl with | [_, _, _], _ => rfl) fun cdv A outer s H E hr => ?_
  · exact spF_len (fun as Z k h => by obtain ⟨_, _, _, _, _, rfl, _⟩ := h; rfl) vs H Q E h
  have hu := hu_of hr
  have hF_ : Cls K T.C_Family ∧ NoAttr K T.C_Family "own_lots" := ⟨T.isF.cl, T.naF⟩
  have hM_ : Cls K T.C_Map ∧ NoAttr K T.C_Map "own_families" := ⟨T.isM.cl, T.naM⟩
  have iF_ := T.isF
  have iM_ := T.isM
  have G_is_picked := held_mono (h_is_picked (P := P) (w := w) (base := base) T) (show 1 ≤ 1 by decide)
  refine ⟨_, (pss_cons (ps_set (i := 3) sc.nd rfl (by first | exact Or.inl rfl | exact Or.inr rfl) (pe_lst pa_nil))
      (pss_cons (ps_for PassesOwn.never rfl (pi_listK (K := K) rfl (pv 0)) (pg_name (i := 4) sc.nd rfl (by first | exact Or.inl rfl | exact Or.inr rfl)) (pss_cons (ps_setLc (i := 5) (own := [("entry", 6)]) (g := gName 6) rfl sc.nd rfl rfl (sw_true rfl rfl rfl (by decide +kernel)) (pi_tupK (K := K) rfl (pv 4)) (blkOk_by (N := N_picks_by) (sc := defScope s_picks_by) (by decide +kernel)) (fun _ _ _ _ _ => (pg_name (i := 6) sc.nd rfl (by first | exact Or.inl rfl | exact Or.inr rfl))) (fun _ _ _ _ _ => (pts_one (pt_val (pe_h G_is_picked hr rfl T.g_is_picked (pa_cons (pv 6) (pa_cons (pv 1) (pa_cons (pv 2) pa_nil))))))) (fun _ _ _ _ _ => (pe_ix (ix_tupK (K := K) rfl) (pv 6) pe_int (fun _ _ => rfl))))
      (pss_cons (ps_if (pt_cmpR (op_eqD hr.units) (pv 5) (pe_lst pa_nil) (nomark _)) (pss_one (ps_ret pe_non)) pss_nil)
      (pss_one (ps_expr (pe_bm PySem.F.plainAttrs_list PySem.F.slot_list_append PySem.F.type_list_append mt_append (pv 3) (pa_cons (pe_ix (ix_listK (K := K) rfl) (pv 5) pe_int (fun _ _ => rfl)) pa_nil)))))))
      (pss_one (ps_ret (pv 3))))),
    fun vs Q sp => ?_⟩
  refine body_okF (fun Z as k hw => ?_) sp
  obtain ⟨ls, i, c, ss, bs, rfl, ho, hl, h0, h1, h2, hp, hk⟩ := hw
  have hsb := ho.sb
  have hc1 := ho.c1
  have hc2 := ho.c2
  try dsimp only [cxOf, Cx.nox]
  refine es_seq (es_own (by simp [startE]) (ef_lst (ea_nil ⟨[], rfl, Nat.zero_le _, ?_⟩)))
  refine es_seq (es_forA ls lotD (fun j e => ∃ o4 o5 o6, e = [some (.v (lotsD ls)), some (.v (.int i)), some (.v (formD c ss bs)), some (.o (intsL ((ls.take j).map (pickL c ss bs i)))), o4, o5, o6] ∧ noX e = true) (ei_list ?_) ⟨_, _, _, rfl, rfl⟩ (fun j l e hj hI => ?_) (fun e hI => ?_))
  · repeat walk_at "s"
  · obtain ⟨o4, o5, o6, rfl, hx⟩ := hI
    have tk : ls.take (j + 1) = ls.take j ++ [l] := by rw [List.take_succ, hj]; rfl
    have hmem := List.mem_of_getElem? hj
    obtain ⟨hl1, hl2⟩ := hl l hmem
    obtain ⟨x, hx1, hx2⟩ := hp l hmem
    refine eg_nm (es_seq (es_set (ev_ef (ef_filX l enD (pickedE c ss bs i) (fun e => .int e.1) (by walk_at "gs") (by walk_at "gs") (ej (ei_tup (ev_var rfl ⟨_, rfl, rfl⟩))) (sln' hl1) (fun Z' y hy => eg_nm ?_) ?_))))
    · obtain ⟨hy0, hy1⟩ := hl2 y hy
      repeat walk_at "s"
      refine ⟨y, i, c, ss, bs, rfl, hy0, hy1, h0, h1, hsb, hc1, hc2, _, rfl, rfl, fun _ => ?_⟩
      repeat walk_at "s"
    · have hne : (l.filter (pickedE c ss bs i)).map (fun e => e.1) ≠ [] := by
        intro z
        have : x ∈ l.filter (pickedE c ss bs i) := List.mem_filter.mpr ⟨hx1, hx2⟩
        rw [List.map_eq_nil_iff.mp z] at this
        cases this
      have em : (l.filter (pickedE c ss bs i)).map (fun e => Dm.int e.1) = ((l.filter (pickedE c ss bs i)).map (fun e => e.1)).map Dm.int := by rw [List.map_map]; rfl
      rw [em]
      repeat walk_at "s"
      refine er_eqD (by rw [Dm.fit]; exact fit_ints _) rfl (sh_ints _) rfl ⟨_, rfl, ?_⟩
      rw [pyEq_nil _ (fun z => hne (List.map_eq_nil_iff.mp z))]
      refine br_n rfl ?_
      have hpick : atI (((l.filter (pickedE c ss bs i)).map (fun e => e.1)).map Dm.int) 0 = some (.int (pickL c ss bs i l)) := by
        unfold pickL
        cases hq : (l.filter (pickedE c ss bs i)).map (fun e => e.1) with
        | nil => exact absurd hq hne
        | cons a r => exact atI_nat (j := 0) rfl
      refine es_next ?_
      refine es_append (ds := ((ls.take j).map (pickL c ss bs i)).map Dm.int) (by walk_at "nx") rfl (by rw [List.length_map, List.length_map]; exact sln' (m := 200) (Nat.le_trans (List.length_take_le' ..) h2)) ?_
      repeat walk_at "s"
      refine ⟨_, _, _, by rw [tk, List.map_append]; unfold intsL; rw [List.map_append]; rfl, by walk_at "nx"⟩
  · obtain ⟨o4, o5, o6, rfl, hx⟩ := hI
    rw [List.take_length]
    exact es_retO rfl hk
/-- paces and a content, as a walk's parts -/
structure Wk0 (n : Nat) (c : Nat) (ps : List (Int × Int)) (bs : List Int) : Prop where
  lp : ps.length = n
  lb : bs.length = n
  n1 : 1 ≤ n
  n2 : n ≤ 12
  c1 : 1 ≤ c
  c2 : c ≤ 1000
  pq : ∀ e ∈ ps, 1 ≤ e.2 ∧ e.2.toNat ∣ c ∧ Int.gcd e.1 e.2 = 1 ∧ -1000 ≤ e.1 ∧ e.1 ≤ 1000
  cm : cmnN ps = c
def stepsL (c : Nat) (ps : List (Int × Int)) : List Int := ps.map fun e => e.1 * ((c : Int) / e.2)
/-- a walk as a value: two lists or two tuples -/
def IsWalk (d : Dm) (ps : List (Int × Int)) (bs : List Int) : Prop := ∃ dp db, d = .tup [dp, db] ∧ dp.seq = some (ps.map enD) ∧ db.seq = some (bs.map Dm.int)
theorem q_small {c : Nat} {e : Int × Int} (h1 : 1 ≤ e.2) (h2 : e.2.toNat ∣ c) (h3 : 1 ≤ c) (h4 : c ≤ 1000) : e.2 ≤ 1000 := by
  have := Nat.le_of_dvd (by omega) h2
  omega
def W_form_of (F M : Addr) : Wf := fun as k => ∃ (fs : List (List Lot)) (d : Dm) (c : Nat) (ps : List (Int × Int)) (bs : List Int), as = [.v (mapD F M fs), .v d] ∧ IsWalk d ps bs ∧ Wk0 fs.length c ps bs ∧ k (formD c (stepsL c ps) bs)
theorem h_form_of (T : Kt K mg) : Held P w K mg base 4 T.a_form_of (spD K (W_form_of T.C_Family T.C_Map)) := by
  obtain ⟨fd, F⟩ := T.f_form_of
  have sc := sc_form_of
  refine held_of F sc (spD_len fun as k h => ?_) (fun _ _ _ _ _ _ us hl => match us, hl with | [_, _], _ => rfl) fun cdv A outer s H E hr => ?_
  · obtain ⟨_, _, _, _, _, rfl, _⟩ := h; rfl
  have hu := hu_of hr
  have hF_ : Cls K T.C_Family ∧ NoAttr K T.C_Family "own_lots" := ⟨T.isF.cl, T.naF⟩
  have hM_ : Cls K T.C_Map ∧ NoAttr K T.C_Map "own_families" := ⟨T.isM.cl, T.naM⟩
  have iF_ := T.isF
  have iM_ := T.isM
  have G_is_list := held_mono (h_is_list (P := P) (w := w) (base := base) T) (show 1 ≤ 3 by decide)
  have G_is_pace := held_mono (h_is_pace (P := P) (w := w) (base := base) T) (show 3 ≤ 3 by decide)
  have G_is_content := held_mono (h_is_content (P := P) (w := w) (base := base) T) (show 2 ≤ 3 by decide)
  have G_common_number := held_mono (h_common_number (P := P) (w := w) (base := base) T) (show 2 ≤ 3 by decide)
  have G_lanes := held_mono (h_Map_lanes (P := P) (w := w) (base := base) T) (show 1 ≤ 2 by decide)
  refine ⟨_, (pss_cons (ps_if (PW.pt (pw_or (pt_not (pt_val (pe_callB (call_isiKK (K := K) rfl) (by rfl) T.n_isinstance (by decide +kernel) (pa_cons (pv 1) (pa_cons (pe_bltn (v := .ty "tuple") (u := .type "tuple") (by rfl) T.n_tuple (by decide +kernel) rfl) pa_nil))))) (pw_or (pt_cmpR op_ne (pe_callB (call_lenK (K := K) rfl) (by rfl) T.n_len (by decide +kernel) (pa_cons (pv 1) pa_nil)) pe_int (nomark _)) (pw_or1 (pt_not (pt_val (pe_h G_is_list hr rfl T.g_is_list (pa_cons (pe_ix (ix_tupK (K := K) rfl) (pv 1) pe_int (fun _ _ => rfl)) pa_nil)))))))) (pss_one (ps_ret pe_non)) pss_nil)
      (pss_cons (ps_if (PW.pt (pw_or (pt_cmpR op_ne (pe_callB (call_lenK (K := K) rfl) (by rfl) T.n_len (by decide +kernel) (pa_cons (pe_ix (ix_tupK (K := K) rfl) (pv 1) pe_int (fun _ _ => rfl)) pa_nil)) (pe_ph (pv 0) T.isM.cl T.p_lanes G_lanes hr) (nomark _)) (pw_or1 (pt_not (pt_val (pe_callB (cr_allK (K := K) rfl) (by rfl) T.n_all (by decide +kernel) (pa_cons (pe_lc (own := [("told", 2)]) (g := gName 2) (tt := tYes) rfl sc.nd (pi_or (pi_listK (K := K) rfl (pe_ix (ix_tupK (K := K) rfl) (pv 1) pe_int (fun _ _ => rfl))) (pi_tupK (K := K) rfl (pe_ix (ix_tupK (K := K) rfl) (pv 1) pe_int (fun _ _ => rfl)))) (blkOk_by (N := N_form_of) (sc := defScope s_form_of) (by decide +kernel)) (fun _ _ _ _ _ => (pg_name (i := 2) sc.nd rfl (by first | exact Or.inl rfl | exact Or.inr rfl))) (fun _ _ _ _ _ => pts_nil) (fun _ _ _ _ _ => (pe_h G_is_pace hr rfl T.g_is_pace (pa_cons (pv 2) pa_nil)))) pa_nil))))))) (pss_one (ps_ret pe_non)) pss_nil)
      (pss_cons (ps_if (PW.pt (pw_or (pt_not (pt_val (pe_h G_is_content hr rfl T.g_is_content (pa_cons (pe_ix (ix_tupK (K := K) rfl) (pv 1) pe_int (fun _ _ => rfl)) pa_nil)))) (pw_or1 (pt_cmpR op_ne (pe_callB (call_lenK (K := K) rfl) (by rfl) T.n_len (by decide +kernel) (pa_cons (pe_ix (ix_tupK (K := K) rfl) (pv 1) pe_int (fun _ _ => rfl)) pa_nil)) (pe_ph (pv 0) T.isM.cl T.p_lanes G_lanes hr) (nomark _))))) (pss_one (ps_ret pe_non)) pss_nil)
      (pss_cons (ps_set (i := 3) sc.nd rfl (by first | exact Or.inl rfl | exact Or.inr rfl) (pe_h G_common_number hr rfl T.g_common_number (pa_cons (pe_ix (ix_tupK (K := K) rfl) (pv 1) pe_int (fun _ _ => rfl)) pa_nil)))
      (pss_one (ps_ret (pe_tup (pa_cons (pv 3) (pa_cons (pe_lc (own := [("top", 4), ("bottom", 5)]) (g := gTup K 2 (gCons (gName 4) (gCons (gName 5) (gNil)))) (tt := tYes) rfl sc.nd (pi_or (pi_listK (K := K) rfl (pe_ix (ix_tupK (K := K) rfl) (pv 1) pe_int (fun _ _ => rfl))) (pi_tupK (K := K) rfl (pe_ix (ix_tupK (K := K) rfl) (pv 1) pe_int (fun _ _ => rfl)))) (blkOk_by (N := N_form_of) (sc := defScope s_form_of) (by decide +kernel)) (fun _ _ _ _ _ => (pg_tupK (K := K) (n := 2) rfl rfl (pgs_cons (pg_name (i := 4) sc.nd rfl (by first | exact Or.inl rfl | exact Or.inr rfl)) (pgs_cons (pg_name (i := 5) sc.nd rfl (by first | exact Or.inl rfl | exact Or.inr rfl)) pgs_nil)))) (fun _ _ _ _ _ => pts_nil) (fun _ _ _ _ _ => (pe_op op_mul (pv 4) (pe_op op_fdiv (pv 3) (pv 5))))) (pa_cons (pe_callTy (call_listK (K := K) rfl) (by rfl) T.n_list (by decide +kernel) (pa_cons (pe_ix (ix_tupK (K := K) rfl) (pv 1) pe_int (fun _ _ => rfl)) pa_nil)) pa_nil)))))))))),
    fun vs Q sp => body_ok (fun Z as k hw => ?_) sp⟩
  obtain ⟨fs, d, c, ps, bs, rfl, ⟨dp, db, rfl, hp, hb⟩, hw, hk⟩ := hw
  have h1 := hw.lp
  have h2 := hw.lb
  have h3 := hw.n1
  have h4 := hw.n2
  have h5 := hw.c1
  have h6 := hw.c2
  have ix0 : atI [dp, db] 0 = some dp := atI_nat (j := 0) rfl
  have ix1 : atI [dp, db] 1 = some db := atI_nat (j := 1) rfl
  try dsimp only [cxOf, Cx.nox]
  repeat walk_at "s"
  refine ev_ef (ef_mapX ps enD (fun _ => .bl true) (by walk_at "gs") (by walk_at "gs") (ej (ei_seqP rfl rfl ix0 hp rfl)) (sln' (m := 12) (by omega)) (fun Z' x hx => eg_nm ?_) (ea_nil (eb_allT ⟨_, rfl, ?_⟩)))
  · obtain ⟨p1, p2, p3, p4, p5⟩ := hw.pq x hx
    repeat walk_at "s"
  refine br_n rfl ?_
  repeat walk_at "s"
  refine ⟨dp, ps, c, rfl, hp, fun e he => ⟨(hw.pq e he).1, (hw.pq e he).2.1⟩, h5, h6, ?_⟩
  rw [hw.cm]
  repeat walk_at "s"
  have em : ps.map (fun e => Dm.int (e.1 * ((c : Int) / e.2))) = (stepsL c ps).map Dm.int := by unfold stepsL; rw [List.map_map]; rfl
  refine ev_ef (ef_mapX ps enD (fun e => .int (e.1 * ((c : Int) / e.2))) (by walk_at "gs") (by walk_at "gs") (ej (ei_seqP rfl rfl ix0 hp rfl)) (sln' (m := 12) (by omega)) (fun Z' x hx => ?_) ?_)
  · obtain ⟨p1, p2, p3, p4, p5⟩ := hw.pq x hx
    have := q_small p1 p2 h5 h6
    repeat walk_at "s"
  · rw [em]
    repeat walk_at "s"
def FOk (c : Int) (ss bs : List Int) (n : Nat) (i : Nat) (f : List Lot) : Prop := LotsIn n f ∧ f.length ≤ 200 ∧ (∃ l ∈ f, heldL c ss bs i l = true) ∧ ∀ l ∈ f, ∃ e ∈ l, pickedE c ss bs i e = true
structure Wok (fs : List (List Lot)) (c : Nat) (ps : List (Int × Int)) (bs : List Int) : Prop where
  w0 : Wk0 fs.length c ps bs
  ok : ∀ (i : Nat) f, fs[i]? = some f → FOk c (stepsL c ps) bs fs.length i f
theorem stepsL_len (c : Nat) (ps : List (Int × Int)) : (stepsL c ps).length = ps.length := List.length_map ..
theorem Wok.fo {fs : List (List Lot)} {c : Nat} {ps : List (Int × Int)} {bs : List Int} (h : Wok fs c ps bs) : Fo c (stepsL c ps) bs := by
  have h1 := h.w0.lp
  have h2 := h.w0.lb
  have h3 := h.w0.c1
  have h4 := h.w0.c2
  exact ⟨by rw [stepsL_len]; omega, by omega, by omega⟩
theorem Wok.len {fs : List (List Lot)} {c : Nat} {ps : List (Int × Int)} {bs : List Int} (h : Wok fs c ps bs) : (stepsL c ps).length = fs.length := by rw [stepsL_len, h.w0.lp]
def hol (c : Int) (ss bs : List Int) (i : Int) (ls : List Lot) : Lot := (ls.find? (heldL c ss bs i)).getD []
theorem hol_find {c : Int} {ss bs : List Int} {i : Int} {ls : List Lot} (h : ∃ l ∈ ls, heldL c ss bs i l = true) : ls.find? (heldL c ss bs i) = some (hol c ss bs i ls) := by
  obtain ⟨l, h1, h2⟩ := h
  unfold hol
  cases e : ls.find? (heldL c ss bs i) with
  | none => exact absurd h2 (by simpa using List.find?_eq_none.mp e l h1)
  | some r => rfl
def W_is_walk (F M : Addr) : Wf := fun as k => ∃ (fs : List (List Lot)) (d : Dm) (c : Nat) (ps : List (Int × Int)) (bs : List Int), as = [.v (mapD F M fs), .v d] ∧ IsWalk d ps bs ∧ Wok fs c ps bs ∧ k (.bl true)
theorem h_is_walk (T : Kt K mg) : Held P w K mg base 8 T.a_is_walk (spD K (W_is_walk T.C_Family T.C_Map)) := by
  obtain ⟨fd, F⟩ := T.f_is_walk
  have sc := sc_is_walk
  refine held_of F sc (spD_len fun as k h => ?_) (fun _ _ _ _ _ _ us hl => match us, hl with | [_, _], _ => rfl) fun cdv A outer s H E hr => ?_
  · obtain ⟨_, _, _, _, _, rfl, _⟩ := h; rfl
  have hu := hu_of hr
  have hF_ : Cls K T.C_Family ∧ NoAttr K T.C_Family "own_lots" := ⟨T.isF.cl, T.naF⟩
  have hM_ : Cls K T.C_Map ∧ NoAttr K T.C_Map "own_families" := ⟨T.isM.cl, T.naM⟩
  have iF_ := T.isF
  have iM_ := T.isM
  have G_form_of := held_mono (h_form_of (P := P) (w := w) (base := base) T) (show 4 ≤ 7 by decide)
  have G_lots_of := held_mono (h_lots_of (P := P) (w := w) (base := base) T) (show 7 ≤ 7 by decide)
  have G_hold_by := held_mono (h_hold_by (P := P) (w := w) (base := base) T) (show 2 ≤ 7 by decide)
  have G_picks_by := held_mono (h_picks_by (P := P) (w := w) (base := base) T) (show 2 ≤ 7 by decide)
  refine ⟨_, (pss_cons (ps_set (i := 2) sc.nd rfl (by first | exact Or.inl rfl | exact Or.inr rfl) (pe_h G_form_of hr rfl T.g_form_of (pa_cons (pv 0) (pa_cons (pv 1) pa_nil))))
      (pss_cons (ps_if (pt_cmpR op_isN (pv 2) pe_non (nomark _)) (pss_one (ps_ret pe_bl)) pss_nil)
      (pss_cons (ps_for PassesOwn.never rfl (pi_enum (by rfl) T.n_enumerate (pa_cons (pe_h G_lots_of hr rfl T.g_lots_of (pa_cons (pv 0) pa_nil)) pa_nil)) (pg_tupK (K := K) (n := 2) rfl rfl (pgs_cons (pg_name (i := 3) sc.nd rfl (by first | exact Or.inl rfl | exact Or.inr rfl)) (pgs_cons (pg_name (i := 4) sc.nd rfl (by first | exact Or.inl rfl | exact Or.inr rfl)) pgs_nil))) (pss_one (ps_if (PW.pt (pw_or (pt_cmpR op_isN (pe_h G_hold_by hr rfl T.g_hold_by (pa_cons (pv 4) (pa_cons (pv 3) (pa_cons (pv 2) pa_nil)))) pe_non (nomark _)) (pw_or1 (pt_cmpR op_isN (pe_h G_picks_by hr rfl T.g_picks_by (pa_cons (pv 4) (pa_cons (pv 3) (pa_cons (pv 2) pa_nil)))) pe_non (nomark _))))) (pss_one (ps_ret pe_bl)) pss_nil)))
      (pss_one (ps_ret pe_bl))))),
    fun vs Q sp => body_ok (fun Z as k hw => ?_) sp⟩
  obtain ⟨fs, d, c, ps, bs, rfl, hd, hw, hk⟩ := hw
  have h4 := hw.w0.n2
  have hfo := hw.fo
  have hln := hw.len
  try dsimp only [cxOf, Cx.nox]
  repeat walk_at "s"
  refine ⟨fs, d, c, ps, bs, rfl, hd, hw.w0, ?_⟩
  repeat walk_at "s"
  refine es_forA fs.zipIdx (fun p => .tup [.int (p.2 : Nat), lotsD p.1]) (fun i e => ∃ o1 o2, e = [some (.v (mapD T.C_Family T.C_Map fs)), some (.v d), some (.v (formD c (stepsL c ps) bs)), o1, o2]) (ei_enum ?_) ⟨_, _, rfl⟩ (fun i p e hp hI => ?_) (fun e hI => ?_)
  · repeat walk_at "s"
    exact enumD_map _ _ _
  · obtain ⟨o1, o2, rfl⟩ := hI
    have hp2 : fs[p.2]? = some p.1 := by
      have := List.mem_zipIdx' (List.mem_of_getElem? hp)
      rw [this.2]
      exact List.getElem?_eq_getElem this.1
    have hlt := (List.getElem?_eq_some_iff.mp hp2).1
    obtain ⟨f1, f2, f3, f4⟩ := hw.ok _ _ hp2
    rw [← hln] at f1
    repeat walk_at "s"
    refine ⟨_, _, _, _, _, rfl, hfo, f1, by omega, by omega, f2, _, hol_find f3, ?_⟩
    repeat walk_at "s"
    intro Z1 hz1
    refine ⟨_, _, _, _, _, rfl, hfo, f1, by omega, by omega, f2, f4, _, rfl, ?_⟩
    repeat walk_at "s"
  · obtain ⟨o1, o2, rfl⟩ := hI
    repeat walk_at "s"
def W_want_walk (F M : Addr) : Wf := fun as k => ∃ (fs : List (List Lot)) (d : Dm) (c : Nat) (ps : List (Int × Int)) (bs : List Int), as = [.v (mapD F M fs), .v d] ∧ IsWalk d ps bs ∧ Wok fs c ps bs ∧ k (formD c (stepsL c ps) bs)
theorem h_want_walk (T : Kt K mg) : Held P w K mg base 9 T.a_want_walk (spD K (W_want_walk T.C_Family T.C_Map)) := by
  obtain ⟨fd, F⟩ := T.f_want_walk
  have sc := sc_want_walk
  refine held_of F sc (spD_len fun as k h => ?_) (fun _ _ _ _ _ _ us hl => match us, hl with | [_, _], _ => rfl) fun cdv A outer s H E hr => ?_
  · obtain ⟨_, _, _, _, _, rfl, _⟩ := h; rfl
  have hu := hu_of hr
  have hF_ : Cls K T.C_Family ∧ NoAttr K T.C_Family "own_lots" := ⟨T.isF.cl, T.naF⟩
  have hM_ : Cls K T.C_Map ∧ NoAttr K T.C_Map "own_families" := ⟨T.isM.cl, T.naM⟩
  have iF_ := T.isF
  have iM_ := T.isM
  have G_is_walk := held_mono (h_is_walk (P := P) (w := w) (base := base) T) (show 8 ≤ 8 by decide)
  have G_form_of := held_mono (h_form_of (P := P) (w := w) (base := base) T) (show 4 ≤ 8 by decide)
  refine ⟨_, (pss_cons (ps_if (pt_not (pt_val (pe_h G_is_walk hr rfl T.g_is_walk (pa_cons (pv 0) (pa_cons (pv 1) pa_nil))))) (pss_one ps_never) pss_nil)
      (pss_one (ps_ret (pe_h G_form_of hr rfl T.g_form_of (pa_cons (pv 0) (pa_cons (pv 1) pa_nil)))))),
    fun vs Q sp => body_ok (fun Z as k hw => ?_) sp⟩
  obtain ⟨fs, d, c, ps, bs, rfl, hd, hw, hk⟩ := hw
  try dsimp only [cxOf, Cx.nox]
  repeat walk_at "s"
  refine ⟨fs, d, c, ps, bs, rfl, hd, hw, ?_⟩
  repeat walk_at "s"
  exact ⟨fs, d, c, ps, bs, rfl, hd, hw.w0, hk⟩
def W_step_of (F M : Addr) : Wf := fun as k => ∃ (fs : List (List Lot)) (d : Dm) (c : Nat) (ps : List (Int × Int)) (bs : List Int) (i : Int), as = [.v (mapD F M fs), .v d, .v (.int i)] ∧ IsWalk d ps bs ∧ Wok fs c ps bs ∧ 0 ≤ i ∧ i < fs.length ∧ k (.int (gi (stepsL c ps) i))
theorem h_step_of (T : Kt K mg) : Held P w K mg base 10 T.a_step_of (spD K (W_step_of T.C_Family T.C_Map)) := by
  obtain ⟨fd, F⟩ := T.f_step_of
  have sc := sc_step_of
  refine held_of F sc (spD_len fun as k h => ?_) (fun _ _ _ _ _ _ us hl => match us, hl with | [_, _, _], _ => rfl) fun cdv A outer s H E hr => ?_
  · obtain ⟨_, _, _, _, _, _, rfl, _⟩ := h; rfl
  have hu := hu_of hr
  have hF_ : Cls K T.C_Family ∧ NoAttr K T.C_Family "own_lots" := ⟨T.isF.cl, T.naF⟩
  have hM_ : Cls K T.C_Map ∧ NoAttr K T.C_Map "own_families" := ⟨T.isM.cl, T.naM⟩
  have iF_ := T.isF
  have iM_ := T.isM
  have G_want_walk := held_mono (h_want_walk (P := P) (w := w) (base := base) T) (show 9 ≤ 9 by decide)
  have G_want_lane := held_mono (h_want_lane (P := P) (w := w) (base := base) T) (show 4 ≤ 9 by decide)
  have G_lanes := held_mono (h_Map_lanes (P := P) (w := w) (base := base) T) (show 1 ≤ 8 by decide)
  refine ⟨_, (pss_cons (ps_set (i := 3) sc.nd rfl (by first | exact Or.inl rfl | exact Or.inr rfl) (pe_h G_want_walk hr rfl T.g_want_walk (pa_cons (pv 0) (pa_cons (pv 1) pa_nil))))
      (pss_cons (ps_expr (pe_h G_want_lane hr rfl T.g_want_lane (pa_cons (pe_ph (pv 0) T.isM.cl T.p_lanes G_lanes hr) (pa_cons (pv 2) pa_nil))))
      (pss_one (ps_ret (pe_ix (ix_listK (K := K) rfl) (pe_ix (ix_tupK (K := K) rfl) (pv 3) pe_int (fun _ _ => rfl)) (pv 2) (fun _ _ => rfl)))))),
    fun vs Q sp => body_ok (fun Z as k hw => ?_) sp⟩
  obtain ⟨fs, d, c, ps, bs, i, rfl, hd, hw, h0, h1, hk⟩ := hw
  have a1 := gi_at (l := stepsL c ps) h0 (by rw [hw.len]; exact h1)
  try dsimp only [cxOf, Cx.nox]
  repeat walk_at "s"
  refine ⟨fs, d, c, ps, bs, rfl, hd, hw, ?_⟩
  repeat walk_at "s"
end
end Ln
/-! K9: plans and answers told. -/
namespace Ln
open PySem PySem.Spec PyProof.Rows L2
def planK (c : Int) (ss bs : List Int) (fs : List (List Lot)) (lane : Int) (m : Nat) : List (Key × Dm) :=
  ((List.range m).filter fun i => decide (gi ss (i : Nat) ≤ gi ss lane)).map fun i => (.inl (i : Nat), .tup [lotD (hol c ss bs (i : Nat) (fs.getD i [])), .int (gi bs (i : Nat))])
def ansK (c : Int) (ss bs : List Int) (fs : List (List Lot)) (lane : Int) (m : Nat) : List (Int × List Int × Int) :=
  ((List.range m).filter fun i => decide (gi ss (i : Nat) ≥ gi ss lane)).map fun i => (((i : Nat) : Int), (fs.getD i []).map (pickL c ss bs (i : Nat)), gi bs (i : Nat))
theorem planK_len (c : Int) (ss bs : List Int) (fs : List (List Lot)) (lane : Int) (m : Nat) : (planK c ss bs fs lane m).length ≤ m := by
  unfold planK
  rw [List.length_map]
  exact Nat.le_trans (List.length_filter_le _ _) (by rw [List.length_range]; exact Nat.le_refl _)
theorem ansK_len (c : Int) (ss bs : List Int) (fs : List (List Lot)) (lane : Int) (m : Nat) : (ansK c ss bs fs lane m).length ≤ m := by
  unfold ansK
  rw [List.length_map]
  exact Nat.le_trans (List.length_filter_le _ _) (by rw [List.length_range]; exact Nat.le_refl _)
section
local macro_rules | `(tactic| walk_at "kb") => `(tactic| first | exact kb_ii | exact kb_ib | exact kb_tt | exact kb_tl | exact kb_lt | exact kb_ll | exact kb_dd)
local macro_rules | `(tactic| walk_at "om") => `(tactic| first | omega | (simp only [List.length_map, List.length_cons, List.length_nil]; omega))
local macro_rules | `(tactic| walk_at "s") => `(tactic| first
  | ((with_reducible show Ev _ _ (tVar _) _ _); refine ev_var rfl ?_)
  | (with_reducible refine ev_int ?_)
  | (with_reducible refine ev_bl ?_)
  | (with_reducible refine ev_str ?_)
  | (with_reducible refine ev_non ?_)
  | (with_reducible refine ev_ty ?_)
  | (with_reducible refine ev_fn ?_)
  | (with_reducible refine ev_op ?_)
  | (with_reducible refine er_b0 ?_)
  | (with_reducible refine er_i0 ?_)
  | ((with_reducible show Er _ _ (rIxT _) _ _ _); first | refine er_ixT ⟨_, _, rfl, rfl, ?_⟩ | refine er_ixT ⟨_, _, rfl, (by assumption), ?_⟩)
  | ((with_reducible show Er _ _ (rIxL _) _ _ _); first | refine er_ixL ⟨_, rfl, ?_⟩ | refine er_ixL ⟨_, (by assumption), ?_⟩)
  | (with_reducible refine ev_neg ?_)
  | (with_reducible refine ev_prop ?_)
  | (with_reducible refine ev_gi ?_)
  | (with_reducible refine ev_meth ?_)
  | ((with_reducible show Ev _ _ (tMake _ _ _ _ _) _ _); refine ev_make ?_)
  | ((with_reducible show Ev _ _ (tFld _ _ _) _ _); refine ev_fldA (by assumption) ?_)
  | (with_reducible refine ev_din ?_)
  | (with_reducible refine ev_dnin ?_)
  | (with_reducible refine ev_dget ?_)
  | ((with_reducible show Ed _ _ (tVar _) _ _); first | refine ed_own rfl ?_ | refine ed_ro rfl ?_ | refine ed_frz rfl ?_ | refine ed_v (ev_var rfl ⟨_, rfl, ?_⟩))
  | (with_reducible refine ev_call ?_)
  | ((with_reducible show Ev _ _ (tCall (spF _ _) _ _ _) _ _); refine ev_ef (ef_callF ?_))
  | (with_reducible refine ev_cb ?_)
  | ((with_reducible show Ea _ _ (tCons (tVar _) _) _ _); refine ea_pot rfl ?_)
  | (with_reducible refine ea_nil ?_)
  | (with_reducible refine ea_v ?_)
  | (with_reducible refine ev_andV ?_)
  | (with_reducible refine ev_orV ?_)
  | (with_reducible refine ev_notV ?_)
  | (with_reducible refine ev_if ?_)
  | (with_reducible refine ev_chain ?_)
  | (with_reducible refine et_test ?_)
  | (with_reducible refine et_B ?_)
  | (with_reducible refine et_yes ?_)
  | (with_reducible refine et_and ?_)
  | (with_reducible refine et_or ?_)
  | (with_reducible refine et_not ?_)
  | (with_reducible refine et_ifT ?_)
  | (with_reducible refine es_seq ?_)
  | (with_reducible refine es_next ?_)
  | (with_reducible refine es_if ?_)
  | (with_reducible refine es_ret ?_)
  | (with_reducible refine es_set ?_)
  | (with_reducible refine es_asg ?_)
  | (with_reducible refine eg_nm ?_)
  | (with_reducible refine egs_cons ?_)
  | (with_reducible refine egs_nil ?_)
  | ((with_reducible show Eg _ _ (gTup _ _ _) _ _ _); refine eg_tup ⟨_, rfl, rfl, ?_⟩)
  | ((with_reducible show Es _ _ (tPar _ _ (tCons tDNewK _)) _ _); refine es_parO (by first | (simp [startE]; done) | decide) (ef_dnew ?_))
  | (with_reducible refine es_par ?_)
  | ((with_reducible show Er _ _ (rI _ _) _ _ _); first | refine er_i (Or.inl ⟨by omega, by omega⟩) ?_ | refine er_i (Or.inr ⟨by omega, by omega⟩) ?_ | refine er_i ⟨by omega, by omega⟩ ?_ | refine er_i (by omega) ?_)
  | (with_reducible refine es_drop ?_)
  | (with_reducible refine ev_tup ?_)
  | (with_reducible refine ev_lst ?_)
  | ((with_reducible show Eb _ _ (rIsi _) [_, Ag.v (Dm.ty _)] _); refine eb_isi rfl (by walk_at "kb") ?_)
  | ((with_reducible show Eb _ _ (rIsi _) [_, Ag.v (Dm.fn _)] _); refine eb_isiC (by assumption) ?_)
  | ((with_reducible show Eb _ _ (rIsiT _) _ _); refine eb_isi2 rfl (by walk_at "kb") (by walk_at "kb") ?_)
  | ((with_reducible show Er _ _ (fun _ _ _ _ => _) _ _ _); first | refine er_isN ?_ | refine er_notN ?_)
  | ((with_reducible show Er _ _ rEq _ _ _); refine er_eq ⟨_, rfl, ?_⟩)
  | ((with_reducible show Er _ _ rNe _ _ _); refine er_ne ⟨_, rfl, ?_⟩)
  | ((with_reducible show Eb _ _ _ [Ag.v (Dm.int _)] _); first | refine eb_abs ?_ | refine eb_int ?_)
  | ((with_reducible show Eb _ _ (rListOf _) _ _); refine eb_list ⟨_, (by first | rfl | assumption), ?_⟩)
  | ((with_reducible show Eb _ _ _ [Ag.v _] _); refine eb_len ⟨_, (by first | rfl | assumption), ?_⟩)
  | ((with_reducible show ite _ _ _); first | refine br_y rfl ?_ | refine br_n rfl ?_ | refine br_y (decide_eq_true (by walk_at "om")) ?_ | refine br_n (decide_eq_false (by walk_at "om")) ?_)
  | (with_reducible refine br_nt (by walk_at "om") ?_)
  | (with_reducible refine br_nf (by walk_at "om") ?_)
  | assumption
  | exact rfl
  | exact congrArg Dm.bl (decide_eq_true (by walk_at "om"))
  | exact congrArg Dm.bl (decide_eq_false (by walk_at "om"))
  | (with_reducible refine kb_t (by walk_at "om") ?_)
  | refine ⟨[_], rfl, sl15 (Nat.le_of_ble_eq_true rfl), ?_⟩
  | refine ⟨[_, _], rfl, sl15 (Nat.le_of_ble_eq_true rfl), ?_⟩
  | refine ⟨[_, _, _], rfl, sl15 (Nat.le_of_ble_eq_true rfl), ?_⟩
  | refine ⟨[], rfl, Nat.zero_le _, ?_⟩
  | exact ⟨_, rfl⟩
  | exact ⟨_, _, rfl⟩
  | exact ⟨_, _, _, rfl⟩
  | exact ⟨_, _, _, _, rfl⟩
  | refine ⟨_, _, rfl, rfl, ?_⟩
  | refine ⟨_, rfl, ?_⟩
  | refine ⟨_, _, rfl, ?_⟩
  | refine ⟨_, _, _, rfl, ?_⟩
  | refine ⟨_, _, _, _, rfl, ?_⟩
  | refine ⟨_, rfl, (by assumption), ?_⟩
  | refine ⟨_, _, rfl, (by assumption), ?_⟩
  | refine ⟨⟨_, _, rfl⟩, ?_⟩
  | refine And.intro (by first | assumption | walk_at "om") ?_
  | refine And.intro rfl ?_
  | (simp only [List.length_map]; assumption)
  | omega)
local macro_rules | `(tactic| walk_at "nx") => `(tactic| (repeat first | assumption | exact rfl | refine noX_set ?_ rfl))
local macro_rules | `(tactic| walk_at "gs") => `(tactic| (repeat first | exact gset_nil | exact gset_name (by decide) | exact gmono_nil | exact gmono_name | refine gset_tup ?_ | refine gmono_tup ?_ | refine gset_cons ?_ ?_ ?_ ?_ | refine gmono_cons ?_ ?_))
variable {P : Program} {w : World} {K : PySem.W.Frag} {mg : Str → Option Value} {base : Heap}
def W_plan_from (F M : Addr) : Wx := fun as Z k => ∃ (fs : List (List Lot)) (d : Dm) (c : Nat) (ps : List (Int × Int)) (bs : List Int) (i : Int), as = [.v (mapD F M fs), .v d, .v (.int i)] ∧ IsWalk d ps bs ∧ Wok fs c ps bs ∧ 0 ≤ i ∧ i < fs.length ∧
  k (ownP K Z (.dic (planK c (stepsL c ps) bs fs i fs.length)))
theorem hf_plan_from (T : Kt K mg) {fd : FuncData} (F : FunD K "plan_from" "plan_from" (defArgs s_plan_from) (defBody s_plan_from) (defScope s_plan_from) [] [] T.a_plan_from fd) : FnOk P w K mg base cxN 10 T.a_plan_from fd P_plan_from (spF K (W_plan_from (K := K) T.C_Family T.C_Map)) := by
  have sc := sc_plan_from
  refine fnOk_of F sc (fun vs H Q E h => ?_) fun cdv A outer s H E hr => ?_
  · exact spF_len (fun as Z k h => by obtain ⟨_, _, _, _, _, _, rfl, _⟩ := h; rfl) vs H Q E h
  have hu := hu_of hr
  have hF_ : Cls K T.C_Family ∧ NoAttr K T.C_Family "own_lots" := ⟨T.isF.cl, T.naF⟩
  have hM_ : Cls K T.C_Map ∧ NoAttr K T.C_Map "own_families" := ⟨T.isM.cl, T.naM⟩
  have iF_ := T.isF
  have iM_ := T.isM
  have G_want_walk := held_mono (h_want_walk (P := P) (w := w) (base := base) T) (show 9 ≤ 9 by decide)
  have G_want_lane := held_mono (h_want_lane (P := P) (w := w) (base := base) T) (show 4 ≤ 9 by decide)
  have G_lots_of := held_mono (h_lots_of (P := P) (w := w) (base := base) T) (show 7 ≤ 9 by decide)
  have G_hold_by := held_mono (h_hold_by (P := P) (w := w) (base := base) T) (show 2 ≤ 9 by decide)
  have G_lanes := held_mono (h_Map_lanes (P := P) (w := w) (base := base) T) (show 1 ≤ 8 by decide)
  refine ⟨_, (pss_cons (ps_set (i := 3) sc.nd rfl (by first | exact Or.inl rfl | exact Or.inr rfl) (pe_h G_want_walk hr rfl T.g_want_walk (pa_cons (pv 0) (pa_cons (pv 1) pa_nil))))
      (pss_cons (ps_expr (pe_h G_want_lane hr rfl T.g_want_lane (pa_cons (pe_ph (pv 0) T.isM.cl T.p_lanes G_lanes hr) (pa_cons (pv 2) pa_nil))))
      (pss_cons (ps_par (i := 4) (j := 5) (by rfl) sc.nd rfl rfl (by decide) rfl rfl (pa_cons pe_dnewK (pa_cons (pe_h G_lots_of hr rfl T.g_lots_of (pa_cons (pv 0) pa_nil)) pa_nil)) (by rfl))
      (pss_cons (ps_for PassesOwn.never rfl (pi_range1 (by rfl) T.n_range (pa_cons (pe_ph (pv 0) T.isM.cl T.p_lanes G_lanes hr) pa_nil)) (pg_name (i := 6) sc.nd rfl (by first | exact Or.inl rfl | exact Or.inr rfl)) (pss_one (ps_if (pt_cmpR op_le (pe_ix (ix_listK (K := K) rfl) (pe_ix (ix_tupK (K := K) rfl) (pv 3) pe_int (fun _ _ => rfl)) (pv 6) (fun _ _ => rfl)) (pe_ix (ix_listK (K := K) rfl) (pe_ix (ix_tupK (K := K) rfl) (pv 3) pe_int (fun _ _ => rfl)) (pv 2) (fun _ _ => rfl)) (nomark _)) (pss_one (ps_dput hu (pv 4) (pv 6) (pe_tup (pa_cons (pe_h G_hold_by hr rfl T.g_hold_by (pa_cons (pe_ix (ix_listK (K := K) rfl) (pv 5) (pv 6) (fun _ _ => rfl)) (pa_cons (pv 6) (pa_cons (pv 3) pa_nil)))) (pa_cons (pe_ix (ix_listK (K := K) rfl) (pe_ix (ix_tupK (K := K) rfl) (pv 3) pe_int (fun _ _ => rfl)) (pv 6) (fun _ _ => rfl)) pa_nil))) rfl)) pss_nil)))
      (pss_one (ps_ret (pv 4))))))),
    fun vs Q sp => ?_⟩
  refine body_okF (fun Z as k hw => ?_) sp
  obtain ⟨fs, d, c, ps, bs, i, rfl, hd, hw, h0, h1, hk⟩ := hw
  have a1 := gi_at (l := stepsL c ps) h0 (by rw [hw.len]; exact h1)
  have h4 := hw.w0.n2
  have hln := hw.len
  have hfo := hw.fo
  have hlb := hw.w0.lb
  try dsimp only [cxOf, Cx.nox]
  repeat walk_at "s"
  refine ⟨fs, d, c, ps, bs, rfl, hd, hw, ?_⟩
  repeat walk_at "s"
  have p0 : planK c (stepsL c ps) bs fs i 0 = [] := by simp [planK]
  refine es_forA (List.range fs.length) (fun j => .int (j : Nat)) (fun m e => ∃ o6, e = [some (.v (mapD T.C_Family T.C_Map fs)), some (.v d), some (.v (.int i)), some (.v (formD c (stepsL c ps) bs)), some (.o (.dic (planK c (stepsL c ps) bs fs i m))), some (.v (llD fs)), o6] ∧ noX e = true) (ei_range1 ?_) ⟨_, by rw [p0]; rfl, rfl⟩ (fun m j e hj hI => ?_) (fun e hI => ?_)
  · exact ea_v (ev_prop (ev_var rfl ⟨⟨_, _, rfl⟩, fs, rfl, ea_nil ⟨_, rfl, by omega, by omega, intsD_map _⟩⟩))
  · obtain ⟨o6, rfl, hx⟩ := hI
    have hm : m < fs.length := by
      have := (List.getElem?_eq_some_iff.mp hj).1
      rwa [List.length_range] at this
    have hjm : j = m := by
      rw [List.getElem?_range hm] at hj
      exact (Option.some.inj hj).symm
    subst hjm
    have a2 := gi_at (l := stepsL c ps) (j := (j : Nat)) (by omega) (by omega)
    have a3 := gi_at (l := bs) (j := (j : Nat)) (by omega) (by omega)
    have hfj : fs[j]? = some (fs.getD j []) := by rw [List.getD_eq_getElem?_getD, List.getElem?_eq_getElem hm]; rfl
    have a4 := lk_get (f := lotsD) hfj
    obtain ⟨f1, f2, f3, f4⟩ := hw.ok _ _ hfj
    rw [← hln] at f1
    have hnew : ∀ p ∈ planK c (stepsL c ps) bs fs i j, p.1 ≠ Sum.inl ((j : Nat) : Int) := by
      intro p hp e
      unfold planK at hp
      obtain ⟨q, hq, rfl⟩ := List.mem_map.mp hp
      have hq := List.mem_range.mp (List.mem_filter.mp hq).1
      have e : (q : Int) = (j : Int) := Sum.inl.inj e
      omega
    have pk : planK c (stepsL c ps) bs fs i (j + 1) = planK c (stepsL c ps) bs fs i j ++ (if gi (stepsL c ps) (j : Nat) ≤ gi (stepsL c ps) i then [(.inl (j : Nat), .tup [lotD (hol c (stepsL c ps) bs (j : Nat) (fs.getD j [])), .int (gi bs (j : Nat))])] else []) := by
      unfold planK
      rw [List.range_succ, List.filter_append, List.map_append]
      by_cases hc : gi (stepsL c ps) (j : Nat) ≤ gi (stepsL c ps) i
      · simp [hc]
      · simp [hc]
    repeat walk_at "s"
    refine br_d (fun hc => ?_) (fun hc => ?_)
    · rw [if_pos hc] at pk
      refine es_dput (ks := planK c (stepsL c ps) bs fs i j) (by walk_at "nx") rfl (sln' (m := 12) (Nat.le_trans (planK_len ..) (by omega))) ?_
      repeat walk_at "s"
      refine ⟨_, _, _, _, _, rfl, hfo, f1, by omega, by omega, f2, _, hol_find f3, ?_⟩
      repeat walk_at "s"
      refine ⟨_, by rw [putD_new hnew, ← pk]; rfl, by walk_at "nx"⟩
    · rw [if_neg hc, List.append_nil] at pk
      repeat walk_at "s"
      refine ⟨_, by rw [pk]; rfl, by walk_at "nx"⟩
  · obtain ⟨o6, rfl, hx⟩ := hI
    rw [List.length_range]
    show Es K Z (tRet (tVar 4)) _ _
    exact es_retO rfl hk
theorem h_plan_from (T : Kt K mg) : Held P w K mg base 10 T.a_plan_from (spF K (W_plan_from (K := K) T.C_Family T.C_Map)) := by
  obtain ⟨fd, F⟩ := T.f_plan_from
  exact ⟨fd, _, hf_plan_from T F, F.kp, F.bindsN (fun _ _ _ _ _ _ us hl => match us, hl with | [_, _, _], _ => rfl)⟩
def W_answer_from (F M : Addr) : Wx := fun as Z k => ∃ (fs : List (List Lot)) (d : Dm) (c : Nat) (ps : List (Int × Int)) (bs : List Int) (i : Int), as = [.v (mapD F M fs), .v d, .v (.int i)] ∧ IsWalk d ps bs ∧ Wok fs c ps bs ∧ 0 ≤ i ∧ i < fs.length ∧
  k (ansP Z (ansK c (stepsL c ps) bs fs i fs.length))
theorem hf_answer_from (T : Kt K mg) {fd : FuncData} (F : FunD K "answer_from" "answer_from" (defArgs s_answer_from) (defBody s_answer_from) (defScope s_answer_from) [] [] T.a_answer_from fd) : FnOk P w K mg base cxN 10 T.a_answer_from fd P_answer_from (spF K (W_answer_from T.C_Family T.C_Map)) := by
  have sc := sc_answer_from
  refine fnOk_of F sc (fun vs H Q E h => ?_) fun cdv A outer s H E hr => ?_
  · exact spF_len (fun as Z k h => by obtain ⟨_, _, _, _, _, _, rfl, _⟩ := h; rfl) vs H Q E h
  have hu := hu_of hr
  have hF_ : Cls K T.C_Family ∧ NoAttr K T.C_Family "own_lots" := ⟨T.isF.cl, T.naF⟩
  have hM_ : Cls K T.C_Map ∧ NoAttr K T.C_Map "own_families" := ⟨T.isM.cl, T.naM⟩
  have iF_ := T.isF
  have iM_ := T.isM
  have G_want_walk := held_mono (h_want_walk (P := P) (w := w) (base := base) T) (show 9 ≤ 9 by decide)
  have G_want_lane := held_mono (h_want_lane (P := P) (w := w) (base := base) T) (show 4 ≤ 9 by decide)
  have G_lots_of := held_mono (h_lots_of (P := P) (w := w) (base := base) T) (show 7 ≤ 9 by decide)
  have G_picks_by := held_mono (h_picks_by (P := P) (w := w) (base := base) T) (show 2 ≤ 9 by decide)
  have G_lanes := held_mono (h_Map_lanes (P := P) (w := w) (base := base) T) (show 1 ≤ 8 by decide)
  refine ⟨_, (pss_cons (ps_set (i := 3) sc.nd rfl (by first | exact Or.inl rfl | exact Or.inr rfl) (pe_h G_want_walk hr rfl T.g_want_walk (pa_cons (pv 0) (pa_cons (pv 1) pa_nil))))
      (pss_cons (ps_expr (pe_h G_want_lane hr rfl T.g_want_lane (pa_cons (pe_ph (pv 0) T.isM.cl T.p_lanes G_lanes hr) (pa_cons (pv 2) pa_nil))))
      (pss_cons (ps_par (i := 4) (j := 5) (by rfl) sc.nd rfl rfl (by decide) rfl rfl (pa_cons pe_dnewK (pa_cons (pe_h G_lots_of hr rfl T.g_lots_of (pa_cons (pv 0) pa_nil)) pa_nil)) (by rfl))
      (pss_cons (ps_for PassesOwn.never rfl (pi_range1 (by rfl) T.n_range (pa_cons (pe_ph (pv 0) T.isM.cl T.p_lanes G_lanes hr) pa_nil)) (pg_name (i := 6) sc.nd rfl (by first | exact Or.inl rfl | exact Or.inr rfl)) (pss_one (ps_if (pt_cmpR op_ge (pe_ix (ix_listK (K := K) rfl) (pe_ix (ix_tupK (K := K) rfl) (pv 3) pe_int (fun _ _ => rfl)) (pv 6) (fun _ _ => rfl)) (pe_ix (ix_listK (K := K) rfl) (pe_ix (ix_tupK (K := K) rfl) (pv 3) pe_int (fun _ _ => rfl)) (pv 2) (fun _ _ => rfl)) (nomark _)) (pss_one (ps_dput hu (pv 4) (pv 6) (pe_tup (pa_cons (pe_h G_picks_by hr rfl T.g_picks_by (pa_cons (pe_ix (ix_listK (K := K) rfl) (pv 5) (pv 6) (fun _ _ => rfl)) (pa_cons (pv 6) (pa_cons (pv 3) pa_nil)))) (pa_cons (pe_ix (ix_listK (K := K) rfl) (pe_ix (ix_tupK (K := K) rfl) (pv 3) pe_int (fun _ _ => rfl)) (pv 6) (fun _ _ => rfl)) pa_nil))) rfl)) pss_nil)))
      (pss_one (ps_ret (pv 4))))))),
    fun vs Q sp => ?_⟩
  refine body_okF (fun Z as k hw => ?_) sp
  obtain ⟨fs, d, c, ps, bs, i, rfl, hd, hw, h0, h1, hk⟩ := hw
  have a1 := gi_at (l := stepsL c ps) h0 (by rw [hw.len]; exact h1)
  have h4 := hw.w0.n2
  have hln := hw.len
  have hfo := hw.fo
  have hlb := hw.w0.lb
  try dsimp only [cxOf, Cx.nox]
  repeat walk_at "s"
  refine ⟨fs, d, c, ps, bs, rfl, hd, hw, ?_⟩
  repeat walk_at "s"
  refine es_toX (i := 4) (d := .dic []) (ansP Z []) rfl (fun G H v hc => ?_) ?_
  · obtain ⟨a, e, g, f, n, kvs, ha, r⟩ := hc
    cases r
    exact ⟨a, [], e, g, f, n, ha, .nil⟩
  have p0 : ansK c (stepsL c ps) bs fs i 0 = [] := by simp [ansK]
  refine es_forA (List.range fs.length) (fun j => .int (j : Nat)) (fun m e => ∃ o6, e = [some (.v (mapD T.C_Family T.C_Map fs)), some (.v d), some (.v (.int i)), some (.v (formD c (stepsL c ps) bs)), some (.x (ansP Z (ansK c (stepsL c ps) bs fs i m))), some (.v (llD fs)), o6] ∧ plainC o6 = true) (ei_range1 ?_) ⟨_, by rw [p0]; rfl, rfl⟩ (fun m j e hj hI => ?_) (fun e hI => ?_)
  · exact ea_v (ev_prop (ev_var rfl ⟨⟨_, _, rfl⟩, fs, rfl, ea_nil ⟨_, rfl, by omega, by omega, intsD_map _⟩⟩))
  · obtain ⟨o6, rfl, hx⟩ := hI
    have hm : m < fs.length := by
      have := (List.getElem?_eq_some_iff.mp hj).1
      rwa [List.length_range] at this
    have hjm : j = m := by
      rw [List.getElem?_range hm] at hj
      exact (Option.some.inj hj).symm
    subst hjm
    have a2 := gi_at (l := stepsL c ps) (j := (j : Nat)) (by omega) (by omega)
    have a3 := gi_at (l := bs) (j := (j : Nat)) (by omega) (by omega)
    have hfj : fs[j]? = some (fs.getD j []) := by rw [List.getD_eq_getElem?_getD, List.getElem?_eq_getElem hm]; rfl
    have a4 := lk_get (f := lotsD) hfj
    obtain ⟨f1, f2, f3, f4⟩ := hw.ok _ _ hfj
    rw [← hln] at f1
    have hnew : ∀ p ∈ ansK c (stepsL c ps) bs fs i j, p.1 ≠ ((j : Nat) : Int) := by
      intro p hp e
      unfold ansK at hp
      obtain ⟨q, hq, rfl⟩ := List.mem_map.mp hp
      have hq := List.mem_range.mp (List.mem_filter.mp hq).1
      have e : (q : Int) = (j : Int) := e
      omega
    have pk : ansK c (stepsL c ps) bs fs i (j + 1) = ansK c (stepsL c ps) bs fs i j ++ (if gi (stepsL c ps) (j : Nat) ≥ gi (stepsL c ps) i then [(((j : Nat) : Int), (fs.getD j []).map (pickL c (stepsL c ps) bs (j : Nat)), gi bs (j : Nat))] else []) := by
      unfold ansK
      rw [List.range_succ, List.filter_append, List.map_append]
      by_cases hc : gi (stepsL c ps) (j : Nat) ≥ gi (stepsL c ps) i
      · simp [hc]
      · simp [hc]
    repeat walk_at "s"
    refine br_d (fun hc => ?_) (fun hc => ?_)
    · rw [if_pos hc] at pk
      refine es_ansput (ks := ansK c (stepsL c ps) bs fs i j) rfl (by rfl) (Nat.lt_of_le_of_lt (ansK_len ..) (by omega)) (ef_callF ?_)
      repeat walk_at "s"
      intro Z1 hz1
      refine ⟨_, _, _, _, _, rfl, hfo, f1, by omega, by omega, f2, f4, _, rfl, _, rfl, ?_⟩
      repeat walk_at "s"
      rw [← pk]
      exact ⟨_, rfl, rfl⟩
    · rw [if_neg hc, List.append_nil] at pk
      repeat walk_at "s"
      refine ⟨_, by rw [pk]; rfl, rfl⟩
  · obtain ⟨o6, rfl, hx⟩ := hI
    rw [List.length_range]
    show Es K Z (tRet (tVar 4)) _ _
    exact es_retX rfl hk
theorem h_answer_from (T : Kt K mg) : Held P w K mg base 10 T.a_answer_from (spF K (W_answer_from T.C_Family T.C_Map)) := by
  obtain ⟨fd, F⟩ := T.f_answer_from
  exact ⟨fd, _, hf_answer_from T F, F.kp, F.bindsN (fun _ _ _ _ _ _ us hl => match us, hl with | [_, _, _], _ => rfl)⟩
end
end Ln
/-! K10: papers judged. -/
namespace Ln
open PySem PySem.Spec PyProof.Rows L2
theorem fit_en : ∀ l : Lot, fitL (l.map enD) = true := fun l => by
  induction l with
  | nil => rfl
  | cons e l ih => rw [List.map_cons, fitL, ih]; simp [enD, Dm.fit, fitL]
theorem fit_lots : ∀ ls : List Lot, fitL (ls.map lotD) = true := fun ls => by
  induction ls with
  | nil => rfl
  | cons e l ih => rw [List.map_cons, fitL, ih]; simp [lotD, Dm.fit, fit_en]
def lotY (l : Lot) : PyData := .tuple (l.map fun e => .tuple [.int e.1, .int e.2])
theorem py_en : ∀ l : Lot, pyL (l.map enD) = l.map fun e => .tuple [.int e.1, .int e.2] := fun l => by
  induction l with
  | nil => rfl
  | cons e l ih => rw [List.map_cons, pyL, ih]; simp [enD, Dm.py, pyL]
theorem py_lot (l : Lot) : (lotD l).py = lotY l := by unfold lotD lotY; rw [Dm.py, py_en]
theorem py_lots : ∀ ls : List Lot, pyL (ls.map lotD) = ls.map lotY := fun ls => by
  induction ls with
  | nil => rfl
  | cons e l ih => rw [List.map_cons, pyL, ih, py_lot]; rfl
theorem lay_lot (l : Lot) : (lotY l).canLay0 = true ∧ (lotY l).depth ≤ 3 := by
  have h1 : PyData.canLayAll0 (l.map fun e => PyData.tuple [.int e.1, .int e.2]) = true := by
    induction l with
    | nil => rfl
    | cons e l ih => rw [List.map_cons, PyData.canLayAll0, ih]; rfl
  have h2 : PyData.depthAll (l.map fun e => PyData.tuple [.int e.1, .int e.2]) ≤ 1 := by
    clear h1
    induction l with
    | nil => simp [PyData.depthAll]
    | cons e l ih => simp only [List.map_cons, PyData.depthAll, PyData.depth]; omega
  unfold lotY
  rw [PyData.canLay0, PyData.depth]
  exact ⟨h1, by omega⟩
theorem sh_lot (l : Lot) : SeqAt.shaped (lotD l).py = true := by
  rw [py_lot]
  obtain ⟨h1, h2⟩ := lay_lot l
  unfold SeqAt.shaped
  rw [h1]
  exact decide_eq_true (by omega)
theorem sh_lots (ls : List Lot) : SeqAt.shaped (.list (pyL (ls.map lotD))) = true := by
  rw [py_lots]
  have h1 : PyData.canLayAll0 (ls.map lotY) = true ∧ PyData.depthAll (ls.map lotY) ≤ 3 := by
    induction ls with
    | nil => exact ⟨rfl, by simp [PyData.depthAll]⟩
    | cons l ls ih =>
      obtain ⟨a, b⟩ := lay_lot l
      refine ⟨by rw [List.map_cons, PyData.canLayAll0, a, ih.1]; rfl, ?_⟩
      rw [List.map_cons, PyData.depthAll]
      have := ih.2
      omega
  unfold SeqAt.shaped
  rw [PyData.canLay0, h1.1, PyData.depth]
  exact decide_eq_true (by omega)
theorem eqv_lot (l : Lot) : PyData.eqv (lotY l) (lotY l) = true := by
  refine PySem.W.eqv_refl_alike _ ?_
  unfold lotY
  rw [PySem.W.alike]
  induction l with
  | nil => rfl
  | cons e l ih => rw [List.map_cons, PySem.W.alikeAll, ih]; simp [PySem.W.alike, PySem.W.alikeAll]
section
local macro_rules | `(tactic| walk_at "kb") => `(tactic| first | exact kb_ii | exact kb_ib | exact kb_tt | exact kb_tl | exact kb_lt | exact kb_ll | exact kb_dd)
local macro_rules | `(tactic| walk_at "om") => `(tactic| first | omega | (simp only [List.length_map, List.length_cons, List.length_nil]; omega))
local macro_rules | `(tactic| walk_at "s") => `(tactic| first
  | ((with_reducible show Ev _ _ (tVar _) _ _); refine ev_var rfl ?_)
  | (with_reducible refine ev_int ?_)
  | (with_reducible refine ev_bl ?_)
  | (with_reducible refine ev_str ?_)
  | (with_reducible refine ev_non ?_)
  | (with_reducible refine ev_ty ?_)
  | (with_reducible refine ev_fn ?_)
  | (with_reducible refine ev_op ?_)
  | (with_reducible refine er_b0 ?_)
  | (with_reducible refine er_i0 ?_)
  | ((with_reducible show Er _ _ (rIxT _) _ _ _); first | refine er_ixT ⟨_, _, rfl, rfl, ?_⟩ | refine er_ixT ⟨_, _, rfl, (by assumption), ?_⟩)
  | ((with_reducible show Er _ _ (rIxL _) _ _ _); first | refine er_ixL ⟨_, rfl, ?_⟩ | refine er_ixL ⟨_, (by assumption), ?_⟩)
  | (with_reducible refine ev_neg ?_)
  | (with_reducible refine ev_prop ?_)
  | (with_reducible refine ev_gi ?_)
  | (with_reducible refine ev_meth ?_)
  | ((with_reducible show Ev _ _ (tMake _ _ _ _ _) _ _); refine ev_make ?_)
  | ((with_reducible show Ev _ _ (tFld _ _ _) _ _); refine ev_fldA (by assumption) ?_)
  | (with_reducible refine ev_din ?_)
  | (with_reducible refine ev_dnin ?_)
  | (with_reducible refine ev_dget ?_)
  | ((with_reducible show Ed _ _ (tVar _) _ _); first | refine ed_own rfl ?_ | refine ed_ro rfl ?_ | refine ed_frz rfl ?_ | refine ed_v (ev_var rfl ⟨_, rfl, ?_⟩))
  | (with_reducible refine ev_call ?_)
  | ((with_reducible show Ev _ _ (tCall (spF _ _) _ _ _) _ _); refine ev_ef (ef_callF ?_))
  | (with_reducible refine ev_cb ?_)
  | ((with_reducible show Ea _ _ (tCons (tVar _) _) _ _); refine ea_pot rfl ?_)
  | (with_reducible refine ea_nil ?_)
  | (with_reducible refine ea_v ?_)
  | (with_reducible refine ev_andV ?_)
  | (with_reducible refine ev_orV ?_)
  | (with_reducible refine ev_notV ?_)
  | (with_reducible refine ev_if ?_)
  | (with_reducible refine ev_chain ?_)
  | (with_reducible refine et_test ?_)
  | (with_reducible refine et_B ?_)
  | (with_reducible refine et_yes ?_)
  | (with_reducible refine et_and ?_)
  | (with_reducible refine et_or ?_)
  | (with_reducible refine et_not ?_)
  | (with_reducible refine et_ifT ?_)
  | (with_reducible refine es_seq ?_)
  | (with_reducible refine es_next ?_)
  | (with_reducible refine es_if ?_)
  | (with_reducible refine es_ret ?_)
  | (with_reducible refine es_set ?_)
  | (with_reducible refine es_asg ?_)
  | (with_reducible refine eg_nm ?_)
  | (with_reducible refine egs_cons ?_)
  | (with_reducible refine egs_nil ?_)
  | ((with_reducible show Eg _ _ (gTup _ _ _) _ _ _); refine eg_tup ⟨_, rfl, rfl, ?_⟩)
  | ((with_reducible show Es _ _ (tPar _ _ (tCons tDNewK _)) _ _); refine es_parO (by first | (simp [startE]; done) | decide) (ef_dnew ?_))
  | (with_reducible refine es_par ?_)
  | ((with_reducible show Er _ _ (rI _ _) _ _ _); first | refine er_i (Or.inl ⟨by omega, by omega⟩) ?_ | refine er_i (Or.inr ⟨by omega, by omega⟩) ?_ | refine er_i ⟨by omega, by omega⟩ ?_ | refine er_i (by omega) ?_)
  | (with_reducible refine es_drop ?_)
  | (with_reducible refine ev_tup ?_)
  | (with_reducible refine ev_lst ?_)
  | ((with_reducible show Eb _ _ (rIsi _) [_, Ag.v (Dm.ty _)] _); refine eb_isi rfl (by walk_at "kb") ?_)
  | ((with_reducible show Eb _ _ (rIsi _) [_, Ag.v (Dm.fn _)] _); refine eb_isiC (by assumption) ?_)
  | ((with_reducible show Eb _ _ (rIsiT _) _ _); refine eb_isi2 rfl (by walk_at "kb") (by walk_at "kb") ?_)
  | ((with_reducible show Er _ _ (fun _ _ _ _ => _) _ _ _); first | refine er_isN ?_ | refine er_notN ?_)
  | ((with_reducible show Er _ _ rEq _ _ _); refine er_eq ⟨_, rfl, ?_⟩)
  | ((with_reducible show Er _ _ rNe _ _ _); refine er_ne ⟨_, rfl, ?_⟩)
  | ((with_reducible show Eb _ _ _ [Ag.v (Dm.int _)] _); first | refine eb_abs ?_ | refine eb_int ?_)
  | ((with_reducible show Eb _ _ (rListOf _) _ _); refine eb_list ⟨_, (by first | rfl | assumption), ?_⟩)
  | ((with_reducible show Eb _ _ _ [Ag.v _] _); refine eb_len ⟨_, (by first | rfl | assumption), ?_⟩)
  | ((with_reducible show ite _ _ _); first | refine br_y rfl ?_ | refine br_n rfl ?_ | refine br_y (decide_eq_true (by walk_at "om")) ?_ | refine br_n (decide_eq_false (by walk_at "om")) ?_)
  | (with_reducible refine br_nt (by walk_at "om") ?_)
  | (with_reducible refine br_nf (by walk_at "om") ?_)
  | assumption
  | exact rfl
  | exact congrArg Dm.bl (decide_eq_true (by walk_at "om"))
  | exact congrArg Dm.bl (decide_eq_false (by walk_at "om"))
  | (with_reducible refine kb_t (by walk_at "om") ?_)
  | refine ⟨[_], rfl, sl15 (Nat.le_of_ble_eq_true rfl), ?_⟩
  | refine ⟨[_, _], rfl, sl15 (Nat.le_of_ble_eq_true rfl), ?_⟩
  | refine ⟨[_, _, _], rfl, sl15 (Nat.le_of_ble_eq_true rfl), ?_⟩
  | refine ⟨[], rfl, Nat.zero_le _, ?_⟩
  | exact ⟨_, rfl⟩
  | exact ⟨_, _, rfl⟩
  | exact ⟨_, _, _, rfl⟩
  | exact ⟨_, _, _, _, rfl⟩
  | refine ⟨_, _, rfl, rfl, ?_⟩
  | refine ⟨_, rfl, ?_⟩
  | refine ⟨_, _, rfl, ?_⟩
  | refine ⟨_, _, _, rfl, ?_⟩
  | refine ⟨_, _, _, _, rfl, ?_⟩
  | refine ⟨_, rfl, (by assumption), ?_⟩
  | refine ⟨_, _, rfl, (by assumption), ?_⟩
  | refine ⟨⟨_, _, rfl⟩, ?_⟩
  | refine And.intro (by first | assumption | walk_at "om") ?_
  | refine And.intro rfl ?_
  | (simp only [List.length_map]; assumption)
  | omega)
local macro_rules | `(tactic| walk_at "nx") => `(tactic| (repeat first | assumption | exact rfl | refine noX_set ?_ rfl))
local macro_rules | `(tactic| walk_at "gs") => `(tactic| (repeat first | exact gset_nil | exact gset_name (by decide) | exact gmono_nil | exact gmono_name | refine gset_tup ?_ | refine gmono_tup ?_ | refine gset_cons ?_ ?_ ?_ ?_ | refine gmono_cons ?_ ?_))
variable {P : Program} {w : World} {K : PySem.W.Frag} {mg : Str → Option Value} {base : Heap}
def W_is_rate : Wf := fun as k => ∃ (e : Int × Int), as = [.v (enD e)] ∧ 1 ≤ e.2 ∧ e.2 ≤ 60 ∧ k (.bl true)
theorem h_is_rate (T : Kt K mg) : Held P w K mg base 2 T.a_is_rate (spD K W_is_rate) := by
  obtain ⟨fd, F⟩ := T.f_is_rate
  have sc := sc_is_rate
  obtain ⟨t_MOST_PARTS, c_MOST_PARTS⟩ := T.c_MOST_PARTS
  refine held_of F sc (spD_len fun as k h => ?_) (fun _ _ _ _ _ _ us hl => match us, hl with | [_], _ => rfl) fun cdv A outer s H E hr => ?_
  · obtain ⟨_, rfl, _⟩ := h; rfl
  have hu := hu_of hr
  have hF_ : Cls K T.C_Family ∧ NoAttr K T.C_Family "own_lots" := ⟨T.isF.cl, T.naF⟩
  have hM_ : Cls K T.C_Map ∧ NoAttr K T.C_Map "own_families" := ⟨T.isM.cl, T.naM⟩
  have iF_ := T.isF
  have iM_ := T.isM
  have G_is_integer := held_mono (h_is_integer (P := P) (w := w) (base := base) T) (show 1 ≤ 1 by decide)
  refine ⟨_, (pss_cons (ps_if (PW.pt (pw_or (pt_not (pt_val (pe_callB (call_isiKK (K := K) rfl) (by rfl) T.n_isinstance (by decide +kernel) (pa_cons (pv 0) (pa_cons (pe_bltn (v := .ty "tuple") (u := .type "tuple") (by rfl) T.n_tuple (by decide +kernel) rfl) pa_nil))))) (pw_or (pt_cmpR op_ne (pe_callB (call_lenK (K := K) rfl) (by rfl) T.n_len (by decide +kernel) (pa_cons (pv 0) pa_nil)) pe_int (nomark _)) (pw_or1 (pt_not (pt_val (pe_callB (cr_allK (K := K) rfl) (by rfl) T.n_all (by decide +kernel) (pa_cons (pe_lc (own := [("part", 1)]) (g := gName 1) (tt := tYes) rfl sc.nd (pi_tupK (K := K) rfl (pv 0)) (blkOk_by (N := N_is_rate) (sc := defScope s_is_rate) (by decide +kernel)) (fun _ _ _ _ _ => (pg_name (i := 1) sc.nd rfl (by first | exact Or.inl rfl | exact Or.inr rfl))) (fun _ _ _ _ _ => pts_nil) (fun _ _ _ _ _ => (pe_h G_is_integer hr rfl T.g_is_integer (pa_cons (pv 1) pa_nil)))) pa_nil)))))))) (pss_one (ps_ret pe_bl)) pss_nil)
      (pss_one (ps_ret (pe_chain op_le op_le pe_int (pe_ix (ix_tupK (K := K) rfl) (pv 0) pe_int (fun _ _ => rfl)) (pe_glob (v := .int 60) rfl c_MOST_PARTS ⟨_, rfl⟩))))),
    fun vs Q sp => body_ok (fun Z as k hw => ?_) sp⟩
  obtain ⟨e, rfl, h0, h1, hk⟩ := hw
  try dsimp only [cxOf, Cx.nox]
  repeat walk_at "s"
  refine ev_ef (ef_mapX [e.1, e.2] .int (fun _ => .bl true) (by walk_at "gs") (by walk_at "gs") (ej (ei_tup (ev_var rfl ⟨_, rfl, rfl⟩))) (by show 2 < sizeLine; decide) (fun Z' x hx => eg_nm ?_) (ea_nil (eb_allT ⟨_, rfl, ?_⟩)))
  · repeat walk_at "s"
  refine br_n rfl ?_
  repeat walk_at "s"
def W_want_rate : Wf := fun as k => ∃ (e : Int × Int), as = [.v (enD e)] ∧ 1 ≤ e.2 ∧ e.2 ≤ 60 ∧ k .non
theorem h_want_rate (T : Kt K mg) : Held P w K mg base 3 T.a_want_rate (spD K W_want_rate) := by
  obtain ⟨fd, F⟩ := T.f_want_rate
  have sc := sc_want_rate
  refine held_of F sc (spD_len fun as k h => ?_) (fun _ _ _ _ _ _ us hl => match us, hl with | [_], _ => rfl) fun cdv A outer s H E hr => ?_
  · obtain ⟨_, rfl, _⟩ := h; rfl
  have hu := hu_of hr
  have hF_ : Cls K T.C_Family ∧ NoAttr K T.C_Family "own_lots" := ⟨T.isF.cl, T.naF⟩
  have hM_ : Cls K T.C_Map ∧ NoAttr K T.C_Map "own_families" := ⟨T.isM.cl, T.naM⟩
  have iF_ := T.isF
  have iM_ := T.isM
  have G_is_rate := held_mono (h_is_rate (P := P) (w := w) (base := base) T) (show 2 ≤ 2 by decide)
  refine ⟨_, (pss_one (ps_if (pt_not (pt_val (pe_h G_is_rate hr rfl T.g_is_rate (pa_cons (pv 0) pa_nil)))) (pss_one ps_never) pss_nil)),
    fun vs Q sp => body_ok (fun Z as k hw => ?_) sp⟩
  obtain ⟨e, rfl, h0, h1, hk⟩ := hw
  try dsimp only [cxOf, Cx.nox]
  repeat walk_at "s"
def W_is_lot_of (F M : Addr) : Wf := fun as k => ∃ (fs : List (List Lot)) (i : Nat) (l : Lot), as = [.v (mapD F M fs), .v (.int i), .v (lotD l)] ∧ i < fs.length ∧ l.length ≤ 12 ∧ l ∈ fs.getD i [] ∧ k (.bl true)
theorem h_is_lot_of (T : Kt K mg) : Held P w K mg base 7 T.a_is_lot_of (spD K (W_is_lot_of T.C_Family T.C_Map)) := by
  obtain ⟨fd, F⟩ := T.f_is_lot_of
  have sc := sc_is_lot_of
  refine held_of F sc (spD_len fun as k h => ?_) (fun _ _ _ _ _ _ us hl => match us, hl with | [_, _, _], _ => rfl) fun cdv A outer s H E hr => ?_
  · obtain ⟨_, _, _, rfl, _⟩ := h; rfl
  have hu := hu_of hr
  have hF_ : Cls K T.C_Family ∧ NoAttr K T.C_Family "own_lots" := ⟨T.isF.cl, T.naF⟩
  have hM_ : Cls K T.C_Map ∧ NoAttr K T.C_Map "own_families" := ⟨T.isM.cl, T.naM⟩
  have iF_ := T.isF
  have iM_ := T.isM
  have G_is_step := held_mono (h_is_step (P := P) (w := w) (base := base) T) (show 2 ≤ 6 by decide)
  have G_lots := held_mono (h_Family_lots (P := P) (w := w) (base := base) T) (show 1 ≤ 6 by decide)
  have G_getitem := held_mono (h_Map___getitem__ (P := P) (w := w) (base := base) T) (show 5 ≤ 5 by decide)
  refine ⟨_, (pss_cons (ps_if (PW.pt (pw_or (pt_not (pt_val (pe_callB (call_isiKK (K := K) rfl) (by rfl) T.n_isinstance (by decide +kernel) (pa_cons (pv 2) (pa_cons (pe_bltn (v := .ty "tuple") (u := .type "tuple") (by rfl) T.n_tuple (by decide +kernel) rfl) pa_nil))))) (pw_or1 (pt_not (pt_val (pe_callB (cr_allK (K := K) rfl) (by rfl) T.n_all (by decide +kernel) (pa_cons (pe_lc (own := [("step", 3)]) (g := gName 3) (tt := tYes) rfl sc.nd (pi_tupK (K := K) rfl (pv 2)) (blkOk_by (N := N_is_lot_of) (sc := defScope s_is_lot_of) (by decide +kernel)) (fun _ _ _ _ _ => (pg_name (i := 3) sc.nd rfl (by first | exact Or.inl rfl | exact Or.inr rfl))) (fun _ _ _ _ _ => pts_nil) (fun _ _ _ _ _ => (pe_h G_is_step hr rfl T.g_is_step (pa_cons (pv 3) pa_nil)))) pa_nil))))))) (pss_one (ps_ret pe_bl)) pss_nil)
      (pss_one (ps_ret (pe_cmpR (op_inDK (K := K) (hu65 hr) rfl) (pv 2) (pe_mh (pe_gi (pv 0) (pv 1) T.m_getitem G_getitem hr) T.isF.cl T.m_lots G_lots hr) (by rfl))))),
    fun vs Q sp => body_ok (fun Z as k hw => ?_) sp⟩
  obtain ⟨fs, i, l, rfl, h0, h1, h2, hk⟩ := hw
  have hfi : fs[i]? = some (fs.getD i []) := by rw [List.getD_eq_getElem?_getD, List.getElem?_eq_getElem h0]; rfl
  try dsimp only [cxOf, Cx.nox]
  repeat walk_at "s"
  refine ev_ef (ef_mapX l enD (fun _ => .bl true) (by walk_at "gs") (by walk_at "gs") (ej (ei_tup (ev_var rfl ⟨_, rfl, rfl⟩))) (sln' h1) (fun Z' x hx => eg_nm ?_) (ea_nil (eb_allT ⟨_, rfl, ?_⟩)))
  · repeat walk_at "s"
  refine br_n rfl ?_
  repeat walk_at "s"
  refine ⟨fs, i, _, rfl, hfi, ?_⟩
  repeat walk_at "s"
  refine And.intro (by decide) ?_
  repeat walk_at "s"
  refine er_inD (by rw [lotD, Dm.fit]; exact fit_en l) (fit_lots _) (sh_lot l) (sh_lots _) ?_
  rw [py_lots, py_lot]
  have : ((fs.getD i []).map lotY).any (fun z => PyData.eqv z (lotY l)) = true := List.any_eq_true.mpr ⟨_, List.mem_map_of_mem h2, eqv_lot l⟩
  rw [this]
  exact hk
def W_are_picks (F M : Addr) : Wf := fun as k => ∃ (fs : List (List Lot)) (i : Nat) (gs : List Int), as = [.v (mapD F M fs), .v (.int i), .v (intsL gs)] ∧ i < fs.length ∧ (fs.getD i []).length ≤ 200 ∧ gs.length = (fs.getD i []).length ∧
  (∀ l ∈ fs.getD i [], (l.map (·.1)).Nodup) ∧ (∀ p ∈ gs.zip (fs.getD i []), (look p.2 p.1).isSome = true) ∧ k (.bl true)
theorem eb_dictLT {Z : Fr} {k : Dm → Prop} {l : Lot} (nd : (l.map (·.1)).Nodup) (q : k (.dic (dkl l))) : Eb K Z (rDictT K) [.v (lotD l)] k := by
  have e : lotD l = .ftp ((dkl l).map fun p => .tup [match p.1 with | .inl i => .int i | .inr x => .str x, p.2]) := by
    unfold lotD dkl enD
    rw [List.map_map]
    rfl
  rw [e]
  refine eb_dictT ?_ q
  have : (dkl l).map (·.1) = (l.map (·.1)).map Sum.inl := by
    unfold dkl
    rw [List.map_map, List.map_map]; rfl
  rw [this]
  exact List.Pairwise.map _ (fun a b h e => h (Sum.inl.inj e)) nd
theorem h_are_picks (T : Kt K mg) : Held P w K mg base 7 T.a_are_picks (spD K (W_are_picks T.C_Family T.C_Map)) := by
  obtain ⟨fd, F⟩ := T.f_are_picks
  have sc := sc_are_picks
  refine held_of F sc (spD_len fun as k h => ?_) (fun _ _ _ _ _ _ us hl => match us, hl with | [_, _, _], _ => rfl) fun cdv A outer s H E hr => ?_
  · obtain ⟨_, _, _, rfl, _⟩ := h; rfl
  have hu := hu_of hr
  have hF_ : Cls K T.C_Family ∧ NoAttr K T.C_Family "own_lots" := ⟨T.isF.cl, T.naF⟩
  have hM_ : Cls K T.C_Map ∧ NoAttr K T.C_Map "own_families" := ⟨T.isM.cl, T.naM⟩
  have iF_ := T.isF
  have iM_ := T.isM
  have G_is_list := held_mono (h_is_list (P := P) (w := w) (base := base) T) (show 1 ≤ 6 by decide)
  have G_is_integer := held_mono (h_is_integer (P := P) (w := w) (base := base) T) (show 1 ≤ 6 by decide)
  have G_lots := held_mono (h_Family_lots (P := P) (w := w) (base := base) T) (show 1 ≤ 6 by decide)
  have G_getitem := held_mono (h_Map___getitem__ (P := P) (w := w) (base := base) T) (show 5 ≤ 5 by decide)
  refine ⟨_, (pss_cons (ps_set (i := 3) sc.nd rfl (by first | exact Or.inl rfl | exact Or.inr rfl) (pe_mh (pe_gi (pv 0) (pv 1) T.m_getitem G_getitem hr) T.isF.cl T.m_lots G_lots hr))
      (pss_cons (ps_if (PW.pt (pw_or (pt_not (pt_val (pe_h G_is_list hr rfl T.g_is_list (pa_cons (pv 2) pa_nil)))) (pw_or1 (pt_cmpR op_ne (pe_callB (call_lenK (K := K) rfl) (by rfl) T.n_len (by decide +kernel) (pa_cons (pv 2) pa_nil)) (pe_callB (call_lenK (K := K) rfl) (by rfl) T.n_len (by decide +kernel) (pa_cons (pv 3) pa_nil)) (nomark _))))) (pss_one (ps_ret pe_bl)) pss_nil)
      (pss_one (ps_ret (pe_callB (cr_allK (K := K) rfl) (by rfl) T.n_all (by decide +kernel) (pa_cons (pe_lc (own := [("goal", 4), ("lot", 5)]) (g := gTup K 2 (gCons (gName 4) (gCons (gName 5) (gNil)))) (tt := tYes) rfl sc.nd (pi_zip (by rfl) T.n_zip (pa_cons (pv 2) (pa_cons (pv 3) pa_nil))) (blkOk_by (N := N_are_picks) (sc := defScope s_are_picks) (by decide +kernel)) (fun _ _ _ _ _ => (pg_tupK (K := K) (n := 2) rfl rfl (pgs_cons (pg_name (i := 4) sc.nd rfl (by first | exact Or.inl rfl | exact Or.inr rfl)) (pgs_cons (pg_name (i := 5) sc.nd rfl (by first | exact Or.inl rfl | exact Or.inr rfl)) pgs_nil)))) (fun _ _ _ _ _ => pts_nil) (fun _ _ _ _ _ => (pe_and (pe_h G_is_integer hr rfl T.g_is_integer (pa_cons (pv 4) pa_nil)) (pe_one (pe_cmp (pc_din hu (pv 4) (pe_callTy (call_dictTK (K := K) rfl) (by rfl) T.n_dict (by decide +kernel) (pa_cons (pv 5) pa_nil)))))))) pa_nil)))))),
    fun vs Q sp => body_ok (fun Z as k hw => ?_) sp⟩
  obtain ⟨fs, i, gs, rfl, h0, h1, h2, h3, h4, hk⟩ := hw
  have hfi : fs[i]? = some (fs.getD i []) := by rw [List.getD_eq_getElem?_getD, List.getElem?_eq_getElem h0]; rfl
  try dsimp only [cxOf, Cx.nox]
  repeat walk_at "s"
  refine ⟨fs, i, _, rfl, hfi, ?_⟩
  repeat walk_at "s"
  refine And.intro (by decide) ?_
  repeat walk_at "s"
  refine ev_ef (ef_mapX (gs.zip (fs.getD i [])) (fun p => .tup [.int p.1, lotD p.2]) (fun _ => .bl true) (by walk_at "gs") (by walk_at "gs") (ej (ei_zip ?_)) (by rw [List.length_zip]; exact sln' (m := 200) (by omega)) (fun Z' x hx => ?_) (ea_nil (eb_allT hk)))
  · exact ea_v (ev_var rfl (ea_v (ev_var rfl (ea_nil ⟨_, _, rfl, zipD_map _ _ _ _⟩))))
  · have hl := h3 x.2 (List.of_mem_zip hx).2
    have hs := h4 x hx
    repeat walk_at "s"
    refine ed_v (ev_cb (ea_v (ev_var rfl (ea_nil (eb_dictLT hl ⟨_, rfl, ?_⟩)))))
    refine ⟨_, rfl, ?_⟩
    rw [lookD_dkl, Option.isSome_map, hs]
def W_picked_steps : Wf := fun as k => ∃ (ls : List Lot) (gs : List Int), as = [.v (lotsD ls), .v (intsL gs)] ∧ ls.length ≤ 200 ∧ (∀ l ∈ ls, (l.map (·.1)).Nodup) ∧ (∀ p ∈ gs.zip ls, (look p.2 p.1).isSome = true) ∧
  k (.lst ((gs.zip ls).map fun p => enD (p.1, (look p.2 p.1).getD 0)))
theorem h_picked_steps (T : Kt K mg) : Held P w K mg base 1 T.a_picked_steps (spD K W_picked_steps) := by
  obtain ⟨fd, F⟩ := T.f_picked_steps
  have sc := sc_picked_steps
  refine held_of F sc (spD_len fun as k h => ?_) (fun _ _ _ _ _ _ us hl => match us, hl with | [_, _], _ => rfl) fun cdv A outer s H E hr => ?_
  · obtain ⟨_, _, rfl, _⟩ := h; rfl
  have hu := hu_of hr
  have hF_ : Cls K T.C_Family ∧ NoAttr K T.C_Family "own_lots" := ⟨T.isF.cl, T.naF⟩
  have hM_ : Cls K T.C_Map ∧ NoAttr K T.C_Map "own_families" := ⟨T.isM.cl, T.naM⟩
  have iF_ := T.isF
  have iM_ := T.isM
  refine ⟨_, (pss_one (ps_ret (pe_lc (own := [("goal", 2), ("lot", 3)]) (g := gTup K 2 (gCons (gName 2) (gCons (gName 3) (gNil)))) (tt := tYes) rfl sc.nd (pi_zip (by rfl) T.n_zip (pa_cons (pv 1) (pa_cons (pv 0) pa_nil))) (blkOk_by (N := N_picked_steps) (sc := defScope s_picked_steps) (by decide +kernel)) (fun _ _ _ _ _ => (pg_tupK (K := K) (n := 2) rfl rfl (pgs_cons (pg_name (i := 2) sc.nd rfl (by first | exact Or.inl rfl | exact Or.inr rfl)) (pgs_cons (pg_name (i := 3) sc.nd rfl (by first | exact Or.inl rfl | exact Or.inr rfl)) pgs_nil)))) (fun _ _ _ _ _ => pts_nil) (fun _ _ _ _ _ => (pe_tup (pa_cons (pv 2) (pa_cons (pe_dget hu (pe_callTy (call_dictTK (K := K) rfl) (by rfl) T.n_dict (by decide +kernel) (pa_cons (pv 3) pa_nil)) (pv 2) (fun _ _ => rfl)) pa_nil))))))),
    fun vs Q sp => body_ok (fun Z as k hw => ?_) sp⟩
  obtain ⟨ls, gs, rfl, h1, h3, h4, hk⟩ := hw
  try dsimp only [cxOf, Cx.nox]
  repeat walk_at "s"
  refine ev_ef (ef_mapX (gs.zip ls) (fun p => .tup [.int p.1, lotD p.2]) (fun p => enD (p.1, (look p.2 p.1).getD 0)) (by walk_at "gs") (by walk_at "gs") (ej (ei_zip ?_)) (by rw [List.length_zip]; exact sln' (m := 200) (by omega)) (fun Z' x hx => ?_) hk)
  · exact ea_v (ev_var rfl (ea_v (ev_var rfl (ea_nil ⟨_, _, rfl, zipD_map _ _ _ _⟩))))
  · have hl := h3 x.2 (List.of_mem_zip hx).2
    have hs := h4 x hx
    obtain ⟨y, hy⟩ := Option.isSome_iff_exists.mp hs
    rw [hy]
    repeat walk_at "s"
    refine ed_v (ev_cb (ea_v (ev_var rfl (ea_nil (eb_dictLT hl ⟨_, rfl, ?_⟩)))))
    repeat walk_at "s"
    refine ⟨_, _, rfl, by rw [lookD_dkl, hy]; rfl, ?_⟩
    repeat walk_at "s"
end
end Ln
/-! K11: papers judged. -/
namespace Ln
open PySem PySem.Spec PyProof.Rows L2
section
local macro_rules | `(tactic| walk_at "kb") => `(tactic| first | exact kb_ii | exact kb_ib | exact kb_tt | exact kb_tl | exact kb_lt | exact kb_ll | exact kb_dd)
local macro_rules | `(tactic| walk_at "om") => `(tactic| first | omega | (simp only [List.length_map, List.length_cons, List.length_nil]; omega))
local macro_rules | `(tactic| walk_at "s") => `(tactic| first
  | ((with_reducible show Ev _ _ (tVar _) _ _); refine ev_var rfl ?_)
  | (with_reducible refine ev_int ?_)
  | (with_reducible refine ev_bl ?_)
  | (with_reducible refine ev_str ?_)
  | (with_reducible refine ev_non ?_)
  | (with_reducible refine ev_ty ?_)
  | (with_reducible refine ev_fn ?_)
  | (with_reducible refine ev_op ?_)
  | (with_reducible refine er_b0 ?_)
  | (with_reducible refine er_i0 ?_)
  | ((with_reducible show Er _ _ (rIxT _) _ _ _); first | refine er_ixT ⟨_, _, rfl, rfl, ?_⟩ | refine er_ixT ⟨_, _, rfl, (by assumption), ?_⟩)
  | ((with_reducible show Er _ _ (rIxL _) _ _ _); first | refine er_ixL ⟨_, rfl, ?_⟩ | refine er_ixL ⟨_, (by assumption), ?_⟩)
  | (with_reducible refine ev_neg ?_)
  | (with_reducible refine ev_prop ?_)
  | (with_reducible refine ev_gi ?_)
  | (with_reducible refine ev_meth ?_)
  | ((with_reducible show Ev _ _ (tMake _ _ _ _ _) _ _); refine ev_make ?_)
  | ((with_reducible show Ev _ _ (tFld _ _ _) _ _); refine ev_fldA (by assumption) ?_)
  | (with_reducible refine ev_din ?_)
  | (with_reducible refine ev_dnin ?_)
  | (with_reducible refine ev_dget ?_)
  | ((with_reducible show Ed _ _ (tVar _) _ _); first | refine ed_own rfl ?_ | refine ed_ro rfl ?_ | refine ed_frz rfl ?_ | refine ed_v (ev_var rfl ⟨_, rfl, ?_⟩))
  | (with_reducible refine ev_call ?_)
  | ((with_reducible show Ev _ _ (tCall (spF _ _) _ _ _) _ _); refine ev_ef (ef_callF ?_))
  | (with_reducible refine ev_cb ?_)
  | ((with_reducible show Ea _ _ (tCons (tVar _) _) _ _); refine ea_pot rfl ?_)
  | (with_reducible refine ea_nil ?_)
  | (with_reducible refine ea_v ?_)
  | (with_reducible refine ev_andV ?_)
  | (with_reducible refine ev_orV ?_)
  | (with_reducible refine ev_notV ?_)
  | (with_reducible refine ev_if ?_)
  | (with_reducible refine ev_chain ?_)
  | (with_reducible refine et_test ?_)
  | (with_reducible refine et_B ?_)
  | (with_reducible refine et_yes ?_)
  | (with_reducible refine et_and ?_)
  | (with_reducible refine et_or ?_)
  | (with_reducible refine et_not ?_)
  | (with_reducible refine et_ifT ?_)
  | (with_reducible refine es_seq ?_)
  | (with_reducible refine es_next ?_)
  | (with_reducible refine es_if ?_)
  | (with_reducible refine es_ret ?_)
  | (with_reducible refine es_set ?_)
  | (with_reducible refine es_asg ?_)
  | (with_reducible refine eg_nm ?_)
  | (with_reducible refine egs_cons ?_)
  | (with_reducible refine egs_nil ?_)
  | ((with_reducible show Eg _ _ (gTup _ _ _) _ _ _); refine eg_tup ⟨_, rfl, rfl, ?_⟩)
  | ((with_reducible show Es _ _ (tPar _ _ (tCons tDNewK _)) _ _); refine es_parO (by first | (simp [startE]; done) | decide) (ef_dnew ?_))
  | (with_reducible refine es_par ?_)
  | ((with_reducible show Er _ _ (rI _ _) _ _ _); first | refine er_i (Or.inl ⟨by omega, by omega⟩) ?_ | refine er_i (Or.inr ⟨by omega, by omega⟩) ?_ | refine er_i ⟨by omega, by omega⟩ ?_ | refine er_i (by omega) ?_)
  | (with_reducible refine es_drop ?_)
  | (with_reducible refine ev_tup ?_)
  | (with_reducible refine ev_lst ?_)
  | ((with_reducible show Eb _ _ (rIsi _) [_, Ag.v (Dm.ty _)] _); refine eb_isi rfl (by walk_at "kb") ?_)
  | ((with_reducible show Eb _ _ (rIsi _) [_, Ag.v (Dm.fn _)] _); refine eb_isiC (by assumption) ?_)
  | ((with_reducible show Eb _ _ (rIsiT _) _ _); refine eb_isi2 rfl (by walk_at "kb") (by walk_at "kb") ?_)
  | ((with_reducible show Er _ _ (fun _ _ _ _ => _) _ _ _); first | refine er_isN ?_ | refine er_notN ?_)
  | ((with_reducible show Er _ _ rEq _ _ _); refine er_eq ⟨_, rfl, ?_⟩)
  | ((with_reducible show Er _ _ rNe _ _ _); refine er_ne ⟨_, rfl, ?_⟩)
  | ((with_reducible show Eb _ _ _ [Ag.v (Dm.int _)] _); first | refine eb_abs ?_ | refine eb_int ?_)
  | ((with_reducible show Eb _ _ (rListOf _) _ _); refine eb_list ⟨_, (by first | rfl | assumption), ?_⟩)
  | ((with_reducible show Eb _ _ _ [Ag.v _] _); refine eb_len ⟨_, (by first | rfl | assumption), ?_⟩)
  | ((with_reducible show ite _ _ _); first | refine br_y rfl ?_ | refine br_n rfl ?_ | refine br_y (decide_eq_true (by walk_at "om")) ?_ | refine br_n (decide_eq_false (by walk_at "om")) ?_)
  | (with_reducible refine br_nt (by walk_at "om") ?_)
  | (with_reducible refine br_nf (by walk_at "om") ?_)
  | assumption
  | exact rfl
  | exact congrArg Dm.bl (decide_eq_true (by walk_at "om"))
  | exact congrArg Dm.bl (decide_eq_false (by walk_at "om"))
  | (with_reducible refine kb_t (by walk_at "om") ?_)
  | refine ⟨[_], rfl, sl15 (Nat.le_of_ble_eq_true rfl), ?_⟩
  | refine ⟨[_, _], rfl, sl15 (Nat.le_of_ble_eq_true rfl), ?_⟩
  | refine ⟨[_, _, _], rfl, sl15 (Nat.le_of_ble_eq_true rfl), ?_⟩
  | refine ⟨[], rfl, Nat.zero_le _, ?_⟩
  | exact ⟨_, rfl⟩
  | exact ⟨_, _, rfl⟩
  | exact ⟨_, _, _, rfl⟩
  | exact ⟨_, _, _, _, rfl⟩
  | refine ⟨_, _, rfl, rfl, ?_⟩
  | refine ⟨_, rfl, ?_⟩
  | refine ⟨_, _, rfl, ?_⟩
  | refine ⟨_, _, _, rfl, ?_⟩
  | refine ⟨_, _, _, _, rfl, ?_⟩
  | refine ⟨_, rfl, (by assumption), ?_⟩
  | refine ⟨_, _, rfl, (by assumption), ?_⟩
  | refine ⟨⟨_, _, rfl⟩, ?_⟩
  | refine And.intro (by first | assumption | walk_at "om") ?_
  | refine And.intro rfl ?_
  | (simp only [List.length_map]; assumption)
  | omega)
local macro_rules | `(tactic| walk_at "nx") => `(tactic| (repeat first | assumption | exact rfl | refine noX_set ?_ rfl))
local macro_rules | `(tactic| walk_at "gs") => `(tactic| (repeat first | exact gset_nil | exact gset_name (by decide) | exact gmono_nil | exact gmono_name | refine gset_tup ?_ | refine gmono_tup ?_ | refine gset_cons ?_ ?_ ?_ ?_ | refine gmono_cons ?_ ?_))
variable {P : Program} {w : World} {K : PySem.W.Frag} {mg : Str → Option Value} {base : Heap}
def W_is_part_l (F M fn : Addr) : Wf := fun as k => ∃ (fs : List (List Lot)) (i : Nat) (l : Lot) (h : Int), as = [.v (mapD F M fs), .v (.int i), .v (.tup [lotD l, .int h]), .v (.fn fn)] ∧ i < fs.length ∧ l.length ≤ 12 ∧ l ∈ fs.getD i [] ∧ k (.bl true)
theorem h_is_part_l (T : Kt K mg) : Held P w K mg base 8 T.a_is_part (spD K (W_is_part_l T.C_Family T.C_Map T.a_is_lot_of)) := by
  obtain ⟨fd, F⟩ := T.f_is_part
  have sc := sc_is_part
  refine held_of F sc (fun vs H Q E h => ?_) (fun _ _ _ _ _ _ us hl => match us, hl with | [_, _, _, _], _ => rfl) fun cdv A outer s H E hr => ?_
  · exact spD_len (fun as k h => by obtain ⟨_, _, _, _, rfl, _⟩ := h; rfl) vs H Q E h
  have hu := hu_of hr
  have hF_ : Cls K T.C_Family ∧ NoAttr K T.C_Family "own_lots" := ⟨T.isF.cl, T.naF⟩
  have hM_ : Cls K T.C_Map ∧ NoAttr K T.C_Map "own_families" := ⟨T.isM.cl, T.naM⟩
  have iF_ := T.isF
  have iM_ := T.isM
  have G_is_integer := held_mono (h_is_integer (P := P) (w := w) (base := base) T) (show 1 ≤ 7 by decide)
  have AF_ : ∀ f sp, (fun f : Addr => if f = T.a_is_lot_of then some (spD K (W_is_lot_of T.C_Family T.C_Map)) else none) f = some sp → Held P w K mg base 7 f sp := fun f sp h => by
    by_cases e : f = T.a_is_lot_of
    · simp only [e, if_pos] at h; cases h; rw [e]; exact held_mono (h_is_lot_of T) (show 7 ≤ 7 by decide)
    · simp only [e, if_neg, if_false] at h; cases h
  refine ⟨_, (pss_cons (ps_if (PW.pt (pw_or (pt_not (pt_val (pe_callB (call_isiKK (K := K) rfl) (by rfl) T.n_isinstance (by decide +kernel) (pa_cons (pv 2) (pa_cons (pe_bltn (v := .ty "tuple") (u := .type "tuple") (by rfl) T.n_tuple (by decide +kernel) rfl) pa_nil))))) (pw_or (pt_cmpR op_ne (pe_callB (call_lenK (K := K) rfl) (by rfl) T.n_len (by decide +kernel) (pa_cons (pv 2) pa_nil)) pe_int (nomark _)) (pw_or1 (pt_not (pt_val (pe_h G_is_integer hr rfl T.g_is_integer (pa_cons (pe_ix (ix_tupK (K := K) rfl) (pv 2) pe_int (fun _ _ => rfl)) pa_nil)))))))) (pss_one (ps_ret pe_bl)) pss_nil)
      (pss_one (ps_ret (pe_callA (i := 3) AF_ hr rfl (by first | exact Or.inl rfl | exact Or.inr (Or.inl rfl) | exact Or.inr (Or.inr rfl)) (pa_cons (pv 0) (pa_cons (pv 1) (pa_cons (pe_ix (ix_tupK (K := K) rfl) (pv 2) pe_int (fun _ _ => rfl)) pa_nil))))))),
    fun vs Q sp => ?_⟩
  refine body_ok (fun Z as k hw => ?_) sp
  obtain ⟨fs, i, l, h, rfl, h0, h1, h2, hk⟩ := hw
  try dsimp only [cxOf, Cx.nox]
  repeat walk_at "s"
  refine ev_callA rfl (if_pos rfl) ?_
  repeat walk_at "s"
def W_is_part_p (F M fn : Addr) : Wf := fun as k => ∃ (fs : List (List Lot)) (i : Nat) (gs : List Int) (h : Int), as = [.v (mapD F M fs), .v (.int i), .v (.tup [intsL gs, .int h]), .v (.fn fn)] ∧ i < fs.length ∧ (fs.getD i []).length ≤ 200 ∧ gs.length = (fs.getD i []).length ∧
  (∀ l ∈ fs.getD i [], (l.map (·.1)).Nodup) ∧ (∀ p ∈ gs.zip (fs.getD i []), (look p.2 p.1).isSome = true) ∧ k (.bl true)
theorem h_is_part_p (T : Kt K mg) : Held P w K mg base 8 T.a_is_part (spD K (W_is_part_p T.C_Family T.C_Map T.a_are_picks)) := by
  obtain ⟨fd, F⟩ := T.f_is_part
  have sc := sc_is_part
  refine held_of F sc (fun vs H Q E h => ?_) (fun _ _ _ _ _ _ us hl => match us, hl with | [_, _, _, _], _ => rfl) fun cdv A outer s H E hr => ?_
  · exact spD_len (fun as k h => by obtain ⟨_, _, _, _, rfl, _⟩ := h; rfl) vs H Q E h
  have hu := hu_of hr
  have hF_ : Cls K T.C_Family ∧ NoAttr K T.C_Family "own_lots" := ⟨T.isF.cl, T.naF⟩
  have hM_ : Cls K T.C_Map ∧ NoAttr K T.C_Map "own_families" := ⟨T.isM.cl, T.naM⟩
  have iF_ := T.isF
  have iM_ := T.isM
  have G_is_integer := held_mono (h_is_integer (P := P) (w := w) (base := base) T) (show 1 ≤ 7 by decide)
  have AF_ : ∀ f sp, (fun f : Addr => if f = T.a_are_picks then some (spD K (W_are_picks T.C_Family T.C_Map)) else none) f = some sp → Held P w K mg base 7 f sp := fun f sp h => by
    by_cases e : f = T.a_are_picks
    · simp only [e, if_pos] at h; cases h; rw [e]; exact held_mono (h_are_picks T) (show 7 ≤ 7 by decide)
    · simp only [e, if_neg, if_false] at h; cases h
  refine ⟨_, (pss_cons (ps_if (PW.pt (pw_or (pt_not (pt_val (pe_callB (call_isiKK (K := K) rfl) (by rfl) T.n_isinstance (by decide +kernel) (pa_cons (pv 2) (pa_cons (pe_bltn (v := .ty "tuple") (u := .type "tuple") (by rfl) T.n_tuple (by decide +kernel) rfl) pa_nil))))) (pw_or (pt_cmpR op_ne (pe_callB (call_lenK (K := K) rfl) (by rfl) T.n_len (by decide +kernel) (pa_cons (pv 2) pa_nil)) pe_int (nomark _)) (pw_or1 (pt_not (pt_val (pe_h G_is_integer hr rfl T.g_is_integer (pa_cons (pe_ix (ix_tupK (K := K) rfl) (pv 2) pe_int (fun _ _ => rfl)) pa_nil)))))))) (pss_one (ps_ret pe_bl)) pss_nil)
      (pss_one (ps_ret (pe_callA (i := 3) AF_ hr rfl (by first | exact Or.inl rfl | exact Or.inr (Or.inl rfl) | exact Or.inr (Or.inr rfl)) (pa_cons (pv 0) (pa_cons (pv 1) (pa_cons (pe_ix (ix_tupK (K := K) rfl) (pv 2) pe_int (fun _ _ => rfl)) pa_nil))))))),
    fun vs Q sp => ?_⟩
  refine body_ok (fun Z as k hw => ?_) sp
  obtain ⟨fs, i, gs, h, rfl, h0, h1, h2, h3, h4, hk⟩ := hw
  try dsimp only [cxOf, Cx.nox]
  repeat walk_at "s"
  refine ev_callA rfl (if_pos rfl) ?_
  repeat walk_at "s"
/-- a paper's parts: lane, what is told, height -/
abbrev Pp := List (Int × Dm × Int)
def ppK (pl : Pp) : List (Key × Dm) := pl.map fun x => (.inl x.1, .tup [x.2.1, .int x.2.2])
def lookP (pl : Pp) (j : Int) : Option (Int × Dm × Int) := pl.find? fun x => decide (x.1 = j)
theorem lookD_ppK (pl : Pp) (j : Int) : lookD (ppK pl) (.inl j) = (lookP pl j).map fun x => .tup [x.2.1, .int x.2.2] := by
  unfold lookD ppK lookP
  induction pl with
  | nil => rfl
  | cons e l ih =>
    by_cases h : e.1 = j
    · simp [h]
    · have h2 : ¬ ((Sum.inl e.1 : Key) = Sum.inl j) := fun z => h (Sum.inl.inj z)
      simp only [List.map_cons, List.find?_cons, h, h2, decide_false, Bool.false_eq_true, if_false] at ih ⊢
      exact ih
theorem lookP_mem {pl : Pp} {j : Int} {x : Int × Dm × Int} (h : lookP pl j = some x) : x ∈ pl ∧ x.1 = j := by
  unfold lookP at h
  exact ⟨List.mem_of_find?_eq_some h, by simpa using List.find?_some h⟩
theorem lookP_some {pl : Pp} {j : Int} (h : ∃ x ∈ pl, x.1 = j) : ∃ x, lookP pl j = some x := by
  obtain ⟨x, h1, h2⟩ := h
  unfold lookP
  cases e : pl.find? fun x => decide (x.1 = j) with
  | none => exact absurd h2 (by simpa using List.find?_eq_none.mp e x h1)
  | some y => exact ⟨y, rfl⟩
theorem ppK_nd {pl : Pp} (h : ∀ x ∈ pl, x.2.1.nd = true) : ∀ p ∈ ppK pl, p.2.nd = true := by
  intro p hp
  obtain ⟨x, hx, rfl⟩ := List.mem_map.mp hp
  simp [Dm.nd, ndL, h x hx]
theorem ppK_key (pl : Pp) : (ppK pl).map (fun p => keyD p.1) = pl.map fun x => Dm.int x.1 := by
  unfold ppK
  rw [List.map_map]; rfl
/-- what is told of a lane fits: a lot of it -/
def PlanFits (fs : List (List Lot)) (x : Int × Dm × Int) : Prop := ∃ (i : Nat) (l : Lot), x.1 = i ∧ i < fs.length ∧ x.2.1 = lotD l ∧ l.length ≤ 12 ∧ l ∈ fs.getD i []
def AnsFits (fs : List (List Lot)) (x : Int × Dm × Int) : Prop := ∃ (i : Nat) (gs : List Int), x.1 = i ∧ i < fs.length ∧ x.2.1 = intsL gs ∧ (fs.getD i []).length ≤ 200 ∧ gs.length = (fs.getD i []).length ∧
  (∀ l ∈ fs.getD i [], (l.map (·.1)).Nodup) ∧ (∀ p ∈ gs.zip (fs.getD i []), (look p.2 p.1).isSome = true)
theorem nd_ints (ns : List Int) : ndL (ns.map Dm.int) = true := by
  induction ns with
  | nil => rfl
  | cons n ns ih => rw [List.map_cons, ndL, ih]; rfl
theorem nd_en (l : Lot) : ndL (l.map enD) = true := by
  induction l with
  | nil => rfl
  | cons n ns ih => rw [List.map_cons, ndL, ih]; simp [enD, Dm.nd, ndL]
theorem nd_lots (ls : List Lot) : ndL (ls.map lotD) = true := by
  induction ls with
  | nil => rfl
  | cons n ns ih => rw [List.map_cons, ndL, ih]; simp [lotD, Dm.nd, nd_en]
theorem nd_fams (F : Addr) (fs : List (List Lot)) : ndL (fs.map (famD F)) = true := by
  induction fs with
  | nil => rfl
  | cons n ns ih => rw [List.map_cons, ndL, ih]; simp [famD, lotsD, Dm.nd, nd_lots]
theorem nd_map (F M : Addr) (fs : List (List Lot)) : (mapD F M fs).nd = true := by simp [mapD, Dm.nd, nd_fams]
theorem PlanFits.nd {fs : List (List Lot)} {x : Int × Dm × Int} (h : PlanFits fs x) : x.2.1.nd = true := by
  obtain ⟨i, l, _, _, e, _⟩ := h
  rw [e]; simp [lotD, Dm.nd, nd_en]
theorem AnsFits.nd {fs : List (List Lot)} {x : Int × Dm × Int} (h : AnsFits fs x) : x.2.1.nd = true := by
  obtain ⟨i, l, _, _, e, _⟩ := h
  rw [e]; simp [intsL, Dm.nd, nd_ints]
def W_are_parts_l (F M fn : Addr) : Wf := fun as k => ∃ (fs : List (List Lot)) (lane : Int) (pl : Pp), as = [.v (mapD F M fs), .v (.int lane), .v (.dic (ppK pl)), .v (.fn fn)] ∧ fs.length ≤ 12 ∧ pl.length ≤ 12 ∧ (∀ x ∈ pl, PlanFits fs x) ∧ (∃ x ∈ pl, x.1 = lane) ∧ k (.bl true)
theorem h_are_parts_l (T : Kt K mg) : Held P w K mg base 9 T.a_are_parts (spD K (W_are_parts_l T.C_Family T.C_Map T.a_is_lot_of)) := by
  obtain ⟨fd, F⟩ := T.f_are_parts
  have sc := sc_are_parts
  refine held_of F sc (fun vs H Q E h => ?_) (fun _ _ _ _ _ _ us hl => match us, hl with | [_, _, _, _], _ => rfl) fun cdv A outer s H E hr => ?_
  · exact spD_len (fun as k h => by obtain ⟨_, _, _, rfl, _⟩ := h; rfl) vs H Q E h
  have hu := hu_of hr
  have hF_ : Cls K T.C_Family ∧ NoAttr K T.C_Family "own_lots" := ⟨T.isF.cl, T.naF⟩
  have hM_ : Cls K T.C_Map ∧ NoAttr K T.C_Map "own_families" := ⟨T.isM.cl, T.naM⟩
  have iF_ := T.isF
  have iM_ := T.isM
  have G_is_lane_basics := held_mono (h_is_lane (P := P) (w := w) (base := base) T) (show 3 ≤ 8 by decide)
  have G_is_part := held_mono (h_is_part_l (P := P) (w := w) (base := base) T) (show 8 ≤ 8 by decide)
  have G_lanes := held_mono (h_Map_lanes (P := P) (w := w) (base := base) T) (show 1 ≤ 7 by decide)
  refine ⟨_, (pss_cons (ps_if (PW.pt (pw_or (pt_not (pt_val (pe_callB (call_isiKK (K := K) rfl) (by rfl) T.n_isinstance (by decide +kernel) (pa_cons (pv 2) (pa_cons (pe_bltn (v := .ty "dict") (u := .type "dict") (by rfl) T.n_dict (by decide +kernel) rfl) pa_nil))))) (pw_or1 (pt_not (pt_val (pe_callB (cr_allK (K := K) rfl) (by rfl) T.n_all (by decide +kernel) (pa_cons (pe_lock (pe_lc (own := [("part", 4)]) (g := gName 4) (tt := tYes) rfl sc.nd (pi_keys (pv 2)) (blkOk_by (N := N_are_parts) (sc := defScope s_are_parts) (by decide +kernel)) (fun _ _ _ _ _ => (pg_name (i := 4) sc.nd rfl (by first | exact Or.inl rfl | exact Or.inr rfl))) (fun _ _ _ _ _ => pts_nil) (fun _ _ _ _ _ => (pe_h G_is_lane_basics hr rfl T.g_is_lane_basics (pa_cons (pe_ph (pv 0) T.isM.cl T.p_lanes G_lanes hr) (pa_cons (pv 4) pa_nil)))))) pa_nil))))))) (pss_one (ps_ret pe_bl)) pss_nil)
      (pss_one (ps_ret (pe_and (pe_cmp (pc_din hu (pv 1) (pv 2))) (pe_one (pe_callB (cr_allK (K := K) rfl) (by rfl) T.n_all (by decide +kernel) (pa_cons (pe_lock (pe_lc (own := [("part", 4)]) (g := gName 4) (tt := tYes) rfl sc.nd (pi_keys (pv 2)) (blkOk_by (N := N_are_parts) (sc := defScope s_are_parts) (by decide +kernel)) (fun _ _ _ _ _ => (pg_name (i := 4) sc.nd rfl (by first | exact Or.inl rfl | exact Or.inr rfl))) (fun _ _ _ _ _ => pts_nil) (fun _ _ _ _ _ => (pe_h G_is_part hr rfl T.g_is_part (pa_cons (pv 0) (pa_cons (pv 4) (pa_cons (pe_dget hu (pv 2) (pv 4) (fun _ _ => rfl)) (pa_cons (pv 3) pa_nil)))))))) pa_nil))))))),
    fun vs Q sp => ?_⟩
  refine body_ok (fun Z as k hw => ?_) sp
  obtain ⟨fs, lane, pl, rfl, h0, h1, h2, h3, hk⟩ := hw
  have hnd := ppK_nd fun x hx => (h2 x hx).nd
  have hE : lockE K (startE N_are_parts [Ag.v (mapD T.C_Family T.C_Map fs), Ag.v (Dm.int lane), Ag.v (Dm.dic (ppK pl)), Ag.v (Dm.fn T.a_is_lot_of)]) 2 (ppK pl) = [some (.v (mapD T.C_Family T.C_Map fs)), some (.v (.int lane)), some (.x (frzP K (ppK pl))), some (.v (.fn T.a_is_lot_of)), none] := by
    simp [lockE, startE, lockC, Dm.nd, nd_map]
  have fl : ((pl.map fun _ => Dm.bl true).all Dm.flat) = true := by simp [Dm.flat]
  obtain ⟨xl, hxl⟩ := lookP_some h3
  try dsimp only [cxOf, Cx.nox]
  repeat walk_at "s"
  refine ev_ef (ef_lock (i := 2) (ks := ppK pl) rfl hnd fun Z1 hz1 => ?_)
  rw [hE]
  refine ef_mapX pl (fun x => .int x.1) (fun _ => .bl true) (by walk_at "gs") (by walk_at "gs") (ej (ei_keys rfl (ppK_key pl))) (sln' h1) (fun Z' x hx => eg_nm ?_) ⟨_, rfl, fl, ea_nil (eb_allT ⟨_, rfl, ?_⟩)⟩
  · obtain ⟨i, l, e1, e2, e3, e4, e5⟩ := h2 x hx
    repeat walk_at "s"
  refine br_n rfl ?_
  repeat walk_at "s"
  rw [lookD_ppK, hxl]
  refine br_y rfl ?_
  repeat walk_at "s"
  refine ev_ef (ef_lock (i := 2) (ks := ppK pl) rfl hnd fun Z1 hz1 => ?_)
  rw [hE]
  refine ef_mapX pl (fun x => .int x.1) (fun _ => .bl true) (by walk_at "gs") (by walk_at "gs") (ej (ei_keys rfl (ppK_key pl))) (sln' h1) (fun Z' x hx => eg_nm ?_) ⟨_, rfl, fl, ea_nil (eb_allT hk)⟩
  obtain ⟨y, hy⟩ := lookP_some ⟨x, hx, rfl⟩
  obtain ⟨hy1, hy2⟩ := lookP_mem hy
  obtain ⟨i, l, e1, e2, e3, e4, e5⟩ := h2 y hy1
  repeat walk_at "s"
  refine ⟨_, _, rfl, by rw [lookD_ppK, hy]; rfl, ?_⟩
  repeat walk_at "s"
  dsimp only
  rw [e3, ← hy2, e1]
  exact ⟨_, _, _, _, rfl, e2, e4, e5, rfl⟩
def W_are_parts_p (F M fn : Addr) : Wf := fun as k => ∃ (fs : List (List Lot)) (lane : Int) (pl : Pp), as = [.v (mapD F M fs), .v (.int lane), .v (.dic (ppK pl)), .v (.fn fn)] ∧ fs.length ≤ 12 ∧ pl.length ≤ 12 ∧ (∀ x ∈ pl, AnsFits fs x) ∧ (∃ x ∈ pl, x.1 = lane) ∧ k (.bl true)
theorem h_are_parts_p (T : Kt K mg) : Held P w K mg base 9 T.a_are_parts (spD K (W_are_parts_p T.C_Family T.C_Map T.a_are_picks)) := by
  obtain ⟨fd, F⟩ := T.f_are_parts
  have sc := sc_are_parts
  refine held_of F sc (fun vs H Q E h => ?_) (fun _ _ _ _ _ _ us hl => match us, hl with | [_, _, _, _], _ => rfl) fun cdv A outer s H E hr => ?_
  · exact spD_len (fun as k h => by obtain ⟨_, _, _, rfl, _⟩ := h; rfl) vs H Q E h
  have hu := hu_of hr
  have hF_ : Cls K T.C_Family ∧ NoAttr K T.C_Family "own_lots" := ⟨T.isF.cl, T.naF⟩
  have hM_ : Cls K T.C_Map ∧ NoAttr K T.C_Map "own_families" := ⟨T.isM.cl, T.naM⟩
  have iF_ := T.isF
  have iM_ := T.isM
  have G_is_lane_basics := held_mono (h_is_lane (P := P) (w := w) (base := base) T) (show 3 ≤ 8 by decide)
  have G_is_part := held_mono (h_is_part_p (P := P) (w := w) (base := base) T) (show 8 ≤ 8 by decide)
  have G_lanes := held_mono (h_Map_lanes (P := P) (w := w) (base := base) T) (show 1 ≤ 7 by decide)
  refine ⟨_, (pss_cons (ps_if (PW.pt (pw_or (pt_not (pt_val (pe_callB (call_isiKK (K := K) rfl) (by rfl) T.n_isinstance (by decide +kernel) (pa_cons (pv 2) (pa_cons (pe_bltn (v := .ty "dict") (u := .type "dict") (by rfl) T.n_dict (by decide +kernel) rfl) pa_nil))))) (pw_or1 (pt_not (pt_val (pe_callB (cr_allK (K := K) rfl) (by rfl) T.n_all (by decide +kernel) (pa_cons (pe_lock (pe_lc (own := [("part", 4)]) (g := gName 4) (tt := tYes) rfl sc.nd (pi_keys (pv 2)) (blkOk_by (N := N_are_parts) (sc := defScope s_are_parts) (by decide +kernel)) (fun _ _ _ _ _ => (pg_name (i := 4) sc.nd rfl (by first | exact Or.inl rfl | exact Or.inr rfl))) (fun _ _ _ _ _ => pts_nil) (fun _ _ _ _ _ => (pe_h G_is_lane_basics hr rfl T.g_is_lane_basics (pa_cons (pe_ph (pv 0) T.isM.cl T.p_lanes G_lanes hr) (pa_cons (pv 4) pa_nil)))))) pa_nil))))))) (pss_one (ps_ret pe_bl)) pss_nil)
      (pss_one (ps_ret (pe_and (pe_cmp (pc_din hu (pv 1) (pv 2))) (pe_one (pe_callB (cr_allK (K := K) rfl) (by rfl) T.n_all (by decide +kernel) (pa_cons (pe_lock (pe_lc (own := [("part", 4)]) (g := gName 4) (tt := tYes) rfl sc.nd (pi_keys (pv 2)) (blkOk_by (N := N_are_parts) (sc := defScope s_are_parts) (by decide +kernel)) (fun _ _ _ _ _ => (pg_name (i := 4) sc.nd rfl (by first | exact Or.inl rfl | exact Or.inr rfl))) (fun _ _ _ _ _ => pts_nil) (fun _ _ _ _ _ => (pe_h G_is_part hr rfl T.g_is_part (pa_cons (pv 0) (pa_cons (pv 4) (pa_cons (pe_dget hu (pv 2) (pv 4) (fun _ _ => rfl)) (pa_cons (pv 3) pa_nil)))))))) pa_nil))))))),
    fun vs Q sp => ?_⟩
  refine body_ok (fun Z as k hw => ?_) sp
  obtain ⟨fs, lane, pl, rfl, h0, h1, h2, h3, hk⟩ := hw
  have hnd := ppK_nd fun x hx => (h2 x hx).nd
  have hE : lockE K (startE N_are_parts [Ag.v (mapD T.C_Family T.C_Map fs), Ag.v (Dm.int lane), Ag.v (Dm.dic (ppK pl)), Ag.v (Dm.fn T.a_are_picks)]) 2 (ppK pl) = [some (.v (mapD T.C_Family T.C_Map fs)), some (.v (.int lane)), some (.x (frzP K (ppK pl))), some (.v (.fn T.a_are_picks)), none] := by
    simp [lockE, startE, lockC, Dm.nd, nd_map]
  have fl : ((pl.map fun _ => Dm.bl true).all Dm.flat) = true := by simp [Dm.flat]
  obtain ⟨xl, hxl⟩ := lookP_some h3
  try dsimp only [cxOf, Cx.nox]
  repeat walk_at "s"
  refine ev_ef (ef_lock (i := 2) (ks := ppK pl) rfl hnd fun Z1 hz1 => ?_)
  rw [hE]
  refine ef_mapX pl (fun x => .int x.1) (fun _ => .bl true) (by walk_at "gs") (by walk_at "gs") (ej (ei_keys rfl (ppK_key pl))) (sln' h1) (fun Z' x hx => eg_nm ?_) ⟨_, rfl, fl, ea_nil (eb_allT ⟨_, rfl, ?_⟩)⟩
  · obtain ⟨i, l, e1, e2, e3, e4, e5, e6, e7⟩ := h2 x hx
    repeat walk_at "s"
  refine br_n rfl ?_
  repeat walk_at "s"
  rw [lookD_ppK, hxl]
  refine br_y rfl ?_
  repeat walk_at "s"
  refine ev_ef (ef_lock (i := 2) (ks := ppK pl) rfl hnd fun Z1 hz1 => ?_)
  rw [hE]
  refine ef_mapX pl (fun x => .int x.1) (fun _ => .bl true) (by walk_at "gs") (by walk_at "gs") (ej (ei_keys rfl (ppK_key pl))) (sln' h1) (fun Z' x hx => eg_nm ?_) ⟨_, rfl, fl, ea_nil (eb_allT hk)⟩
  obtain ⟨y, hy⟩ := lookP_some ⟨x, hx, rfl⟩
  obtain ⟨hy1, hy2⟩ := lookP_mem hy
  obtain ⟨i, l, e1, e2, e3, e4, e5, e6, e7⟩ := h2 y hy1
  repeat walk_at "s"
  refine ⟨_, _, rfl, by rw [lookD_ppK, hy]; rfl, ?_⟩
  repeat walk_at "s"
  dsimp only
  rw [e3, ← hy2, e1]
  exact ⟨_, _, _, _, rfl, e2, e4, e5, e6, e7, rfl⟩
end
end Ln
/-! K12: papers judged, bounds. -/
namespace Ln
open PySem PySem.Spec PyProof.Rows L2
section
variable {τ : Type}
def qpP (enc : τ → Dm) (ql : List (Int × τ × Int)) : Pp := ql.map fun x => (x.1, enc x.2.1, x.2.2)
def lookT (ql : List (Int × τ × Int)) (j : Int) : Option (Int × τ × Int) := ql.find? fun x => decide (x.1 = j)
theorem lookP_qp (enc : τ → Dm) (ql : List (Int × τ × Int)) (j : Int) : lookP (qpP enc ql) j = (lookT ql j).map fun x => (x.1, enc x.2.1, x.2.2) := by
  unfold lookP qpP lookT
  rw [List.find?_map]; rfl
theorem lookD_qp (enc : τ → Dm) (ql : List (Int × τ × Int)) (j : Int) : lookD (ppK (qpP enc ql)) (.inl j) = (lookT ql j).map fun x => .tup [enc x.2.1, .int x.2.2] := by
  rw [lookD_ppK, lookP_qp, Option.map_map]; rfl
theorem items_qp (enc : τ → Dm) (ql : List (Int × τ × Int)) : (ppK (qpP enc ql)).map (fun p => Dm.tup [keyD p.1, p.2]) = ql.map fun x => .tup [.int x.1, .tup [enc x.2.1, .int x.2.2]] := by
  unfold ppK qpP
  rw [List.map_map, List.map_map]; rfl
end
def okE {τ : Type} (ql : List (Int × τ × Int)) (r : Int × Int) (h : Int) (e : Int × Int) : Bool := match lookT ql e.1 with
  | some y => decide (r.2 * e.2 + y.2.2 ≤ h + r.1)
  | none => false
def planOk (r : Int × Int) (ql : List (Int × Lot × Int)) : Bool := ql.all fun x => x.2.1.all (okE ql r x.2.2)
section
local macro_rules | `(tactic| walk_at "kb") => `(tactic| first | exact kb_ii | exact kb_ib | exact kb_tt | exact kb_tl | exact kb_lt | exact kb_ll | exact kb_dd)
local macro_rules | `(tactic| walk_at "om") => `(tactic| first | omega | (simp only [List.length_map, List.length_cons, List.length_nil]; omega))
local macro_rules | `(tactic| walk_at "s") => `(tactic| first
  | ((with_reducible show Ev _ _ (tVar _) _ _); refine ev_var rfl ?_)
  | (with_reducible refine ev_int ?_)
  | (with_reducible refine ev_bl ?_)
  | (with_reducible refine ev_str ?_)
  | (with_reducible refine ev_non ?_)
  | (with_reducible refine ev_ty ?_)
  | (with_reducible refine ev_fn ?_)
  | (with_reducible refine ev_op ?_)
  | (with_reducible refine er_b0 ?_)
  | (with_reducible refine er_i0 ?_)
  | ((with_reducible show Er _ _ (rIxT _) _ _ _); first | refine er_ixT ⟨_, _, rfl, rfl, ?_⟩ | refine er_ixT ⟨_, _, rfl, (by assumption), ?_⟩)
  | ((with_reducible show Er _ _ (rIxL _) _ _ _); first | refine er_ixL ⟨_, rfl, ?_⟩ | refine er_ixL ⟨_, (by assumption), ?_⟩)
  | (with_reducible refine ev_neg ?_)
  | (with_reducible refine ev_prop ?_)
  | (with_reducible refine ev_gi ?_)
  | (with_reducible refine ev_meth ?_)
  | ((with_reducible show Ev _ _ (tMake _ _ _ _ _) _ _); refine ev_make ?_)
  | ((with_reducible show Ev _ _ (tFld _ _ _) _ _); refine ev_fldA (by assumption) ?_)
  | (with_reducible refine ev_din ?_)
  | (with_reducible refine ev_dnin ?_)
  | (with_reducible refine ev_dget ?_)
  | ((with_reducible show Ed _ _ (tVar _) _ _); first | refine ed_own rfl ?_ | refine ed_ro rfl ?_ | refine ed_frz rfl ?_ | refine ed_v (ev_var rfl ⟨_, rfl, ?_⟩))
  | (with_reducible refine ev_call ?_)
  | ((with_reducible show Ev _ _ (tCall (spF _ _) _ _ _) _ _); refine ev_ef (ef_callF ?_))
  | (with_reducible refine ev_cb ?_)
  | ((with_reducible show Ea _ _ (tCons (tVar _) _) _ _); refine ea_pot rfl ?_)
  | (with_reducible refine ea_nil ?_)
  | (with_reducible refine ea_v ?_)
  | (with_reducible refine ev_andV ?_)
  | (with_reducible refine ev_orV ?_)
  | (with_reducible refine ev_notV ?_)
  | (with_reducible refine ev_if ?_)
  | (with_reducible refine ev_chain ?_)
  | (with_reducible refine et_test ?_)
  | (with_reducible refine et_B ?_)
  | (with_reducible refine et_yes ?_)
  | (with_reducible refine et_and ?_)
  | (with_reducible refine et_or ?_)
  | (with_reducible refine et_not ?_)
  | (with_reducible refine et_ifT ?_)
  | (with_reducible refine es_seq ?_)
  | (with_reducible refine es_next ?_)
  | (with_reducible refine es_if ?_)
  | (with_reducible refine es_ret ?_)
  | (with_reducible refine es_set ?_)
  | (with_reducible refine es_asg ?_)
  | (with_reducible refine eg_nm ?_)
  | (with_reducible refine egs_cons ?_)
  | (with_reducible refine egs_nil ?_)
  | ((with_reducible show Eg _ _ (gTup _ _ _) _ _ _); refine eg_tup ⟨_, rfl, rfl, ?_⟩)
  | ((with_reducible show Es _ _ (tPar _ _ (tCons tDNewK _)) _ _); refine es_parO (by first | (simp [startE]; done) | decide) (ef_dnew ?_))
  | (with_reducible refine es_par ?_)
  | ((with_reducible show Er _ _ (rI _ _) _ _ _); first | refine er_i (Or.inl ⟨by omega, by omega⟩) ?_ | refine er_i (Or.inr ⟨by omega, by omega⟩) ?_ | refine er_i ⟨by omega, by omega⟩ ?_ | refine er_i (by omega) ?_)
  | (with_reducible refine es_drop ?_)
  | (with_reducible refine ev_tup ?_)
  | (with_reducible refine ev_lst ?_)
  | ((with_reducible show Eb _ _ (rIsi _) [_, Ag.v (Dm.ty _)] _); refine eb_isi rfl (by walk_at "kb") ?_)
  | ((with_reducible show Eb _ _ (rIsi _) [_, Ag.v (Dm.fn _)] _); refine eb_isiC (by assumption) ?_)
  | ((with_reducible show Eb _ _ (rIsiT _) _ _); refine eb_isi2 rfl (by walk_at "kb") (by walk_at "kb") ?_)
  | ((with_reducible show Er _ _ (fun _ _ _ _ => _) _ _ _); first | refine er_isN ?_ | refine er_notN ?_)
  | ((with_reducible show Er _ _ rEq _ _ _); refine er_eq ⟨_, rfl, ?_⟩)
  | ((with_reducible show Er _ _ rNe _ _ _); refine er_ne ⟨_, rfl, ?_⟩)
  | ((with_reducible show Eb _ _ _ [Ag.v (Dm.int _)] _); first | refine eb_abs ?_ | refine eb_int ?_)
  | ((with_reducible show Eb _ _ (rListOf _) _ _); refine eb_list ⟨_, (by first | rfl | assumption), ?_⟩)
  | ((with_reducible show Eb _ _ _ [Ag.v _] _); refine eb_len ⟨_, (by first | rfl | assumption), ?_⟩)
  | ((with_reducible show ite _ _ _); first | refine br_y rfl ?_ | refine br_n rfl ?_ | refine br_y (decide_eq_true (by walk_at "om")) ?_ | refine br_n (decide_eq_false (by walk_at "om")) ?_)
  | (with_reducible refine br_nt (by walk_at "om") ?_)
  | (with_reducible refine br_nf (by walk_at "om") ?_)
  | assumption
  | exact rfl
  | exact congrArg Dm.bl (decide_eq_true (by walk_at "om"))
  | exact congrArg Dm.bl (decide_eq_false (by walk_at "om"))
  | (with_reducible refine kb_t (by walk_at "om") ?_)
  | refine ⟨[_], rfl, sl15 (Nat.le_of_ble_eq_true rfl), ?_⟩
  | refine ⟨[_, _], rfl, sl15 (Nat.le_of_ble_eq_true rfl), ?_⟩
  | refine ⟨[_, _, _], rfl, sl15 (Nat.le_of_ble_eq_true rfl), ?_⟩
  | refine ⟨[], rfl, Nat.zero_le _, ?_⟩
  | exact ⟨_, rfl⟩
  | exact ⟨_, _, rfl⟩
  | exact ⟨_, _, _, rfl⟩
  | exact ⟨_, _, _, _, rfl⟩
  | refine ⟨_, _, rfl, rfl, ?_⟩
  | refine ⟨_, rfl, ?_⟩
  | refine ⟨_, _, rfl, ?_⟩
  | refine ⟨_, _, _, rfl, ?_⟩
  | refine ⟨_, _, _, _, rfl, ?_⟩
  | refine ⟨_, rfl, (by assumption), ?_⟩
  | refine ⟨_, _, rfl, (by assumption), ?_⟩
  | refine ⟨⟨_, _, rfl⟩, ?_⟩
  | refine And.intro (by first | assumption | walk_at "om") ?_
  | refine And.intro rfl ?_
  | (simp only [List.length_map]; assumption)
  | omega)
local macro_rules | `(tactic| walk_at "nx") => `(tactic| (repeat first | assumption | exact rfl | refine noX_set ?_ rfl))
local macro_rules | `(tactic| walk_at "gs") => `(tactic| (repeat first | exact gset_nil | exact gset_name (by decide) | exact gmono_nil | exact gmono_name | refine gset_tup ?_ | refine gmono_tup ?_ | refine gset_cons ?_ ?_ ?_ ?_ | refine gmono_cons ?_ ?_))
variable {P : Program} {w : World} {K : PySem.W.Frag} {mg : Str → Option Value} {base : Heap}
def W_is_plan_paper (F M : Addr) : Wf := fun as k => ∃ (fs : List (List Lot)) (lane : Int) (r : Int × Int) (ql : List (Int × Lot × Int)), as = [.v (mapD F M fs), .v (.int lane), .v (enD r), .v (.dic (ppK (qpP lotD ql)))] ∧ fs.length ≤ 12 ∧ 0 ≤ lane ∧ lane < fs.length ∧ 1 ≤ r.2 ∧ r.2 ≤ 60 ∧
  ql.length ≤ 12 ∧ (∀ x ∈ qpP lotD ql, PlanFits fs x) ∧ (∃ x ∈ qpP lotD ql, x.1 = lane) ∧ k (.bl (planOk r ql))
theorem h_is_plan_paper (T : Kt K mg) : Held P w K mg base 10 T.a_is_plan_paper (spD K (W_is_plan_paper T.C_Family T.C_Map)) := by
  obtain ⟨fd, F⟩ := T.f_is_plan_paper
  have sc := sc_is_plan_paper
  refine held_of F sc (spD_len fun as k h => ?_) (fun _ _ _ _ _ _ us hl => match us, hl with | [_, _, _, _], _ => rfl) fun cdv A outer s H E hr => ?_
  · obtain ⟨_, _, _, _, rfl, _⟩ := h; rfl
  have hu := hu_of hr
  have hF_ : Cls K T.C_Family ∧ NoAttr K T.C_Family "own_lots" := ⟨T.isF.cl, T.naF⟩
  have hM_ : Cls K T.C_Map ∧ NoAttr K T.C_Map "own_families" := ⟨T.isM.cl, T.naM⟩
  have iF_ := T.isF
  have iM_ := T.isM
  have G_want_lane := held_mono (h_want_lane (P := P) (w := w) (base := base) T) (show 4 ≤ 9 by decide)
  have G_want_rate := held_mono (h_want_rate (P := P) (w := w) (base := base) T) (show 3 ≤ 9 by decide)
  have G_are_parts := held_mono (h_are_parts_l (P := P) (w := w) (base := base) T) (show 9 ≤ 9 by decide)
  have G_lanes := held_mono (h_Map_lanes (P := P) (w := w) (base := base) T) (show 1 ≤ 8 by decide)
  refine ⟨_, (pss_cons (ps_expr (pe_h G_want_lane hr rfl T.g_want_lane (pa_cons (pe_ph (pv 0) T.isM.cl T.p_lanes G_lanes hr) (pa_cons (pv 1) pa_nil))))
      (pss_cons (ps_expr (pe_h G_want_rate hr rfl T.g_want_rate (pa_cons (pv 2) pa_nil)))
      (pss_cons (ps_if (pt_not (pt_val (pe_h G_are_parts hr rfl T.g_are_parts (pa_cons (pv 0) (pa_cons (pv 1) (pa_cons (pv 3) (pa_cons (pe_glob (v := .ref T.a_is_lot_of) rfl T.g_is_lot_of rfl) pa_nil))))))) (pss_one (ps_ret pe_bl)) pss_nil)
      (pss_cons (ps_asg (pv 2) (pg_tupK (K := K) (n := 2) rfl rfl (pgs_cons (pg_name (i := 4) sc.nd rfl (by first | exact Or.inl rfl | exact Or.inr rfl)) (pgs_cons (pg_name (i := 5) sc.nd rfl (by first | exact Or.inl rfl | exact Or.inr rfl)) pgs_nil))))
      (pss_cons (ps_lock (ps_for PassesOwn.never rfl (pi_items (pv 3)) (pg_tupK (K := K) (n := 2) rfl rfl (pgs_cons (pg_name (i := 6) sc.nd rfl (by first | exact Or.inl rfl | exact Or.inr rfl)) (pgs_cons (pg_tupK (K := K) (n := 2) rfl rfl (pgs_cons (pg_name (i := 7) sc.nd rfl (by first | exact Or.inl rfl | exact Or.inr rfl)) (pgs_cons (pg_name (i := 8) sc.nd rfl (by first | exact Or.inl rfl | exact Or.inr rfl)) pgs_nil))) pgs_nil))) (pss_one (ps_if (pt_not (pt_val (pe_callB (cr_allK (K := K) rfl) (by rfl) T.n_all (by decide +kernel) (pa_cons (pe_lc (own := [("goal", 9), ("number", 10)]) (g := gTup K 2 (gCons (gName 9) (gCons (gName 10) (gNil)))) (tt := tYes) rfl sc.nd (pi_tupK (K := K) rfl (pv 7)) (blkOk_by (N := N_is_plan_paper) (sc := defScope s_is_plan_paper) (by decide +kernel)) (fun _ _ _ _ _ => (pg_tupK (K := K) (n := 2) rfl rfl (pgs_cons (pg_name (i := 9) sc.nd rfl (by first | exact Or.inl rfl | exact Or.inr rfl)) (pgs_cons (pg_name (i := 10) sc.nd rfl (by first | exact Or.inl rfl | exact Or.inr rfl)) pgs_nil)))) (fun _ _ _ _ _ => pts_nil) (fun _ _ _ _ _ => (pe_and (pe_cmp (pc_din hu (pv 9) (pv 3))) (pe_one (pe_cmpR op_le (pe_op op_add (pe_op op_mul (pv 5) (pv 10)) (pe_ix (ix_tupK (K := K) rfl) (pe_dget hu (pv 3) (pv 9) (fun _ _ => rfl)) pe_int (fun _ _ => rfl))) (pe_op op_add (pv 8) (pv 4)) (nomark _)))))) pa_nil)))) (pss_one (ps_ret pe_bl)) pss_nil))))
      (pss_one (ps_ret pe_bl))))))),
    fun vs Q sp => body_ok (fun Z as k hw => ?_) sp⟩
  obtain ⟨fs, lane, r, ql, rfl, h0, h1, h2, h3, h4, h5, h6, h7, hk⟩ := hw
  have hpl : (qpP lotD ql).length ≤ 12 := by unfold qpP; rw [List.length_map]; exact h5
  have hnd := ppK_nd fun x hx => (h6 x hx).nd
  try dsimp only [cxOf, Cx.nox]
  repeat walk_at "s"
  have hE : lockE K (((startE N_is_plan_paper [Ag.v (mapD T.C_Family T.C_Map fs), Ag.v (Dm.int lane), Ag.v (enD r), Ag.v (Dm.dic (ppK (qpP lotD ql)))]).set 4 (some (.v (.int r.1)))).set 5 (some (.v (.int r.2)))) 3 (ppK (qpP lotD ql)) =
      [some (.v (mapD T.C_Family T.C_Map fs)), some (.v (.int lane)), some (.v (enD r)), some (.x (frzP K (ppK (qpP lotD ql)))), some (.v (.int r.1)), some (.v (.int r.2)), none, none, none, none, none] := by
    simp [lockE, startE, lockC, Dm.nd, ndL, enD, nd_map]
  refine es_lock (i := 3) (ks := ppK (qpP lotD ql)) rfl hnd fun Z1 hz1 => ?_
  rw [hE]
  refine es_forA ql (fun x => .tup [.int x.1, .tup [lotD x.2.1, .int x.2.2]]) (fun j e => ∃ o1 o2 o3 o4 o5, e = [some (.v (mapD T.C_Family T.C_Map fs)), some (.v (.int lane)), some (.v (enD r)), some (.x (frzP K (ppK (qpP lotD ql)))), some (.v (.int r.1)), some (.v (.int r.2)), o1, o2, o3, o4, o5] ∧
    ∀ x ∈ ql.take j, x.2.1.all (okE ql r x.2.2) = true) (ei_items rfl (items_qp _ _)) ⟨_, _, _, _, _, rfl, by simp⟩ (fun j x e hj hI => ?_) (fun e hI => ?_)
  · obtain ⟨o1, o2, o3, o4, o5, rfl, h8⟩ := hI
    have tk : ql.take (j + 1) = ql.take j ++ [x] := by rw [List.take_succ, hj]; rfl
    have hmem := List.mem_of_getElem? hj
    obtain ⟨i, l, e1, e2, e3, e4, e5⟩ := h6 (x.1, lotD x.2.1, x.2.2) (List.mem_map_of_mem (f := fun x : Int × Lot × Int => (x.1, lotD x.2.1, x.2.2)) hmem)
    have hlen : x.2.1.length ≤ 12 := by
      have : x.2.1.map enD = l.map enD := by
        have e3 : lotD x.2.1 = lotD l := e3
        unfold lotD at e3
        exact Dm.ftp.inj e3
      have := congrArg List.length this
      rw [List.length_map, List.length_map] at this
      omega
    refine eg_tup ⟨_, rfl, rfl, egs_cons (eg_nm (egs_cons (eg_tup ⟨_, rfl, rfl, egs_cons (eg_nm (egs_cons (eg_nm (egs_nil (egs_nil ?_)))))⟩)))⟩
    refine es_if (et_not (et_B (ev_cb (ea_v (ev_ef (ef_mapX x.2.1 enD (fun e => .bl (okE ql r x.2.2 e)) (by walk_at "gs") (by walk_at "gs") (ej (ei_tup (ev_var rfl ⟨_, rfl, rfl⟩))) (sln' hlen) (fun Z' y hy => ?_) (ea_nil (eb_allB ⟨_, rfl, ?_⟩))))))))
    · repeat walk_at "s"
      rw [lookD_qp]
      unfold okE
      cases hl : lookT ql y.1 with
      | none =>
        refine br_n rfl ?_
        exact rfl
      | some z =>
        refine br_y rfl ?_
        repeat walk_at "s"
        refine ⟨_, _, rfl, by rw [lookD_qp, hl]; rfl, ?_⟩
        repeat walk_at "s"
    · cases hok : x.2.1.all (okE ql r x.2.2) with
      | true =>
        refine br_n rfl ?_
        repeat walk_at "s"
        refine ⟨_, _, _, _, _, rfl, fun z hz => ?_⟩
        rw [tk] at hz
        rcases List.mem_append.mp hz with hz | hz
        · exact h8 z hz
        · rw [List.mem_singleton.mp hz]; exact hok
      | false =>
        refine br_y rfl ?_
        have : planOk r ql = false := by
          unfold planOk
          cases ha : ql.all fun x => x.2.1.all (okE ql r x.2.2) with
          | false => rfl
          | true =>
            have := List.all_eq_true.mp ha x hmem
            rw [hok] at this; cases this
        rw [this] at hk
        exact es_ret (ev_bl ⟨rfl, hk⟩)
  · obtain ⟨o1, o2, o3, o4, o5, rfl, h8⟩ := hI
    rw [List.take_length] at h8
    have : planOk r ql = true := List.all_eq_true.mpr h8
    rw [this] at hk
    exact es_ret (ev_bl hk)
end
end Ln
/-! K13: answers judged, bounds. -/
namespace Ln
open PySem PySem.Spec PyProof.Rows L2
def okG {τ : Type} (ql : List (Int × τ × Int)) (r : Int × Int) (h : Int) (e : Int × Int) : Bool := match lookT ql e.1 with
  | some y => decide (r.2 * e.2 + y.2.2 ≥ h + r.1)
  | none => false
def stepsA (fs : List (List Lot)) (x : Int × List Int × Int) : List (Int × Int) := (x.2.1.zip (fs.getD x.1.toNat [])).map fun p => (p.1, (look p.2 p.1).getD 0)
def ansOk (r : Int × Int) (fs : List (List Lot)) (ql : List (Int × List Int × Int)) : Bool := ql.all fun x => (stepsA fs x).all (okG ql r x.2.2)
section
local macro_rules | `(tactic| walk_at "kb") => `(tactic| first | exact kb_ii | exact kb_ib | exact kb_tt | exact kb_tl | exact kb_lt | exact kb_ll | exact kb_dd)
local macro_rules | `(tactic| walk_at "om") => `(tactic| first | omega | (simp only [List.length_map, List.length_cons, List.length_nil]; omega))
local macro_rules | `(tactic| walk_at "s") => `(tactic| first
  | ((with_reducible show Ev _ _ (tVar _) _ _); refine ev_var rfl ?_)
  | (with_reducible refine ev_int ?_)
  | (with_reducible refine ev_bl ?_)
  | (with_reducible refine ev_str ?_)
  | (with_reducible refine ev_non ?_)
  | (with_reducible refine ev_ty ?_)
  | (with_reducible refine ev_fn ?_)
  | (with_reducible refine ev_op ?_)
  | (with_reducible refine er_b0 ?_)
  | (with_reducible refine er_i0 ?_)
  | ((with_reducible show Er _ _ (rIxT _) _ _ _); first | refine er_ixT ⟨_, _, rfl, rfl, ?_⟩ | refine er_ixT ⟨_, _, rfl, (by assumption), ?_⟩)
  | ((with_reducible show Er _ _ (rIxL _) _ _ _); first | refine er_ixL ⟨_, rfl, ?_⟩ | refine er_ixL ⟨_, (by assumption), ?_⟩)
  | (with_reducible refine ev_neg ?_)
  | (with_reducible refine ev_prop ?_)
  | (with_reducible refine ev_gi ?_)
  | (with_reducible refine ev_meth ?_)
  | ((with_reducible show Ev _ _ (tMake _ _ _ _ _) _ _); refine ev_make ?_)
  | ((with_reducible show Ev _ _ (tFld _ _ _) _ _); refine ev_fldA (by assumption) ?_)
  | (with_reducible refine ev_din ?_)
  | (with_reducible refine ev_dnin ?_)
  | (with_reducible refine ev_dget ?_)
  | ((with_reducible show Ed _ _ (tVar _) _ _); first | refine ed_own rfl ?_ | refine ed_ro rfl ?_ | refine ed_frz rfl ?_ | refine ed_v (ev_var rfl ⟨_, rfl, ?_⟩))
  | (with_reducible refine ev_call ?_)
  | ((with_reducible show Ev _ _ (tCall (spF _ _) _ _ _) _ _); refine ev_ef (ef_callF ?_))
  | (with_reducible refine ev_cb ?_)
  | ((with_reducible show Ea _ _ (tCons (tVar _) _) _ _); refine ea_pot rfl ?_)
  | (with_reducible refine ea_nil ?_)
  | (with_reducible refine ea_v ?_)
  | (with_reducible refine ev_andV ?_)
  | (with_reducible refine ev_orV ?_)
  | (with_reducible refine ev_notV ?_)
  | (with_reducible refine ev_if ?_)
  | (with_reducible refine ev_chain ?_)
  | (with_reducible refine et_test ?_)
  | (with_reducible refine et_B ?_)
  | (with_reducible refine et_yes ?_)
  | (with_reducible refine et_and ?_)
  | (with_reducible refine et_or ?_)
  | (with_reducible refine et_not ?_)
  | (with_reducible refine et_ifT ?_)
  | (with_reducible refine es_seq ?_)
  | (with_reducible refine es_next ?_)
  | (with_reducible refine es_if ?_)
  | (with_reducible refine es_ret ?_)
  | (with_reducible refine es_set ?_)
  | (with_reducible refine es_asg ?_)
  | (with_reducible refine eg_nm ?_)
  | (with_reducible refine egs_cons ?_)
  | (with_reducible refine egs_nil ?_)
  | ((with_reducible show Eg _ _ (gTup _ _ _) _ _ _); refine eg_tup ⟨_, rfl, rfl, ?_⟩)
  | ((with_reducible show Es _ _ (tPar _ _ (tCons tDNewK _)) _ _); refine es_parO (by first | (simp [startE]; done) | decide) (ef_dnew ?_))
  | (with_reducible refine es_par ?_)
  | ((with_reducible show Er _ _ (rI _ _) _ _ _); first | refine er_i (Or.inl ⟨by omega, by omega⟩) ?_ | refine er_i (Or.inr ⟨by omega, by omega⟩) ?_ | refine er_i ⟨by omega, by omega⟩ ?_ | refine er_i (by omega) ?_)
  | (with_reducible refine es_drop ?_)
  | (with_reducible refine ev_tup ?_)
  | (with_reducible refine ev_lst ?_)
  | ((with_reducible show Eb _ _ (rIsi _) [_, Ag.v (Dm.ty _)] _); refine eb_isi rfl (by walk_at "kb") ?_)
  | ((with_reducible show Eb _ _ (rIsi _) [_, Ag.v (Dm.fn _)] _); refine eb_isiC (by assumption) ?_)
  | ((with_reducible show Eb _ _ (rIsiT _) _ _); refine eb_isi2 rfl (by walk_at "kb") (by walk_at "kb") ?_)
  | ((with_reducible show Er _ _ (fun _ _ _ _ => _) _ _ _); first | refine er_isN ?_ | refine er_notN ?_)
  | ((with_reducible show Er _ _ rEq _ _ _); refine er_eq ⟨_, rfl, ?_⟩)
  | ((with_reducible show Er _ _ rNe _ _ _); refine er_ne ⟨_, rfl, ?_⟩)
  | ((with_reducible show Eb _ _ _ [Ag.v (Dm.int _)] _); first | refine eb_abs ?_ | refine eb_int ?_)
  | ((with_reducible show Eb _ _ (rListOf _) _ _); refine eb_list ⟨_, (by first | rfl | assumption), ?_⟩)
  | ((with_reducible show Eb _ _ _ [Ag.v _] _); refine eb_len ⟨_, (by first | rfl | assumption), ?_⟩)
  | ((with_reducible show ite _ _ _); first | refine br_y rfl ?_ | refine br_n rfl ?_ | refine br_y (decide_eq_true (by walk_at "om")) ?_ | refine br_n (decide_eq_false (by walk_at "om")) ?_)
  | (with_reducible refine br_nt (by walk_at "om") ?_)
  | (with_reducible refine br_nf (by walk_at "om") ?_)
  | assumption
  | exact rfl
  | exact congrArg Dm.bl (decide_eq_true (by walk_at "om"))
  | exact congrArg Dm.bl (decide_eq_false (by walk_at "om"))
  | (with_reducible refine kb_t (by walk_at "om") ?_)
  | refine ⟨[_], rfl, sl15 (Nat.le_of_ble_eq_true rfl), ?_⟩
  | refine ⟨[_, _], rfl, sl15 (Nat.le_of_ble_eq_true rfl), ?_⟩
  | refine ⟨[_, _, _], rfl, sl15 (Nat.le_of_ble_eq_true rfl), ?_⟩
  | refine ⟨[], rfl, Nat.zero_le _, ?_⟩
  | exact ⟨_, rfl⟩
  | exact ⟨_, _, rfl⟩
  | exact ⟨_, _, _, rfl⟩
  | exact ⟨_, _, _, _, rfl⟩
  | refine ⟨_, _, rfl, rfl, ?_⟩
  | refine ⟨_, rfl, ?_⟩
  | refine ⟨_, _, rfl, ?_⟩
  | refine ⟨_, _, _, rfl, ?_⟩
  | refine ⟨_, _, _, _, rfl, ?_⟩
  | refine ⟨_, rfl, (by assumption), ?_⟩
  | refine ⟨_, _, rfl, (by assumption), ?_⟩
  | refine ⟨⟨_, _, rfl⟩, ?_⟩
  | refine And.intro (by first | assumption | walk_at "om") ?_
  | refine And.intro rfl ?_
  | (simp only [List.length_map]; assumption)
  | omega)
local macro_rules | `(tactic| walk_at "nx") => `(tactic| (repeat first | assumption | exact rfl | refine noX_set ?_ rfl))
local macro_rules | `(tactic| walk_at "gs") => `(tactic| (repeat first | exact gset_nil | exact gset_name (by decide) | exact gmono_nil | exact gmono_name | refine gset_tup ?_ | refine gmono_tup ?_ | refine gset_cons ?_ ?_ ?_ ?_ | refine gmono_cons ?_ ?_))
variable {P : Program} {w : World} {K : PySem.W.Frag} {mg : Str → Option Value} {base : Heap}
def W_is_answer_paper (F M : Addr) : Wf := fun as k => ∃ (fs : List (List Lot)) (lane : Int) (r : Int × Int) (ql : List (Int × List Int × Int)), as = [.v (mapD F M fs), .v (.int lane), .v (enD r), .v (.dic (ppK (qpP intsL ql)))] ∧ fs.length ≤ 12 ∧ 0 ≤ lane ∧ lane < fs.length ∧ 1 ≤ r.2 ∧ r.2 ≤ 60 ∧
  ql.length ≤ 12 ∧ (∀ x ∈ qpP intsL ql, AnsFits fs x) ∧ (∃ x ∈ qpP intsL ql, x.1 = lane) ∧ k (.bl (ansOk r fs ql))
theorem h_is_answer_paper (T : Kt K mg) : Held P w K mg base 10 T.a_is_answer_paper (spD K (W_is_answer_paper T.C_Family T.C_Map)) := by
  obtain ⟨fd, F⟩ := T.f_is_answer_paper
  have sc := sc_is_answer_paper
  refine held_of F sc (spD_len fun as k h => ?_) (fun _ _ _ _ _ _ us hl => match us, hl with | [_, _, _, _], _ => rfl) fun cdv A outer s H E hr => ?_
  · obtain ⟨_, _, _, _, rfl, _⟩ := h; rfl
  have hu := hu_of hr
  have hF_ : Cls K T.C_Family ∧ NoAttr K T.C_Family "own_lots" := ⟨T.isF.cl, T.naF⟩
  have hM_ : Cls K T.C_Map ∧ NoAttr K T.C_Map "own_families" := ⟨T.isM.cl, T.naM⟩
  have iF_ := T.isF
  have iM_ := T.isM
  have G_want_lane := held_mono (h_want_lane (P := P) (w := w) (base := base) T) (show 4 ≤ 9 by decide)
  have G_want_rate := held_mono (h_want_rate (P := P) (w := w) (base := base) T) (show 3 ≤ 9 by decide)
  have G_are_parts := held_mono (h_are_parts_p (P := P) (w := w) (base := base) T) (show 9 ≤ 9 by decide)
  have G_picked_steps := held_mono (h_picked_steps (P := P) (w := w) (base := base) T) (show 1 ≤ 9 by decide)
  have G_lots := held_mono (h_Family_lots (P := P) (w := w) (base := base) T) (show 1 ≤ 9 by decide)
  have G_lanes := held_mono (h_Map_lanes (P := P) (w := w) (base := base) T) (show 1 ≤ 8 by decide)
  have G_getitem := held_mono (h_Map___getitem__ (P := P) (w := w) (base := base) T) (show 5 ≤ 8 by decide)
  refine ⟨_, (pss_cons (ps_expr (pe_h G_want_lane hr rfl T.g_want_lane (pa_cons (pe_ph (pv 0) T.isM.cl T.p_lanes G_lanes hr) (pa_cons (pv 1) pa_nil))))
      (pss_cons (ps_expr (pe_h G_want_rate hr rfl T.g_want_rate (pa_cons (pv 2) pa_nil)))
      (pss_cons (ps_if (pt_not (pt_val (pe_h G_are_parts hr rfl T.g_are_parts (pa_cons (pv 0) (pa_cons (pv 1) (pa_cons (pv 3) (pa_cons (pe_glob (v := .ref T.a_are_picks) rfl T.g_are_picks rfl) pa_nil))))))) (pss_one (ps_ret pe_bl)) pss_nil)
      (pss_cons (ps_asg (pv 2) (pg_tupK (K := K) (n := 2) rfl rfl (pgs_cons (pg_name (i := 4) sc.nd rfl (by first | exact Or.inl rfl | exact Or.inr rfl)) (pgs_cons (pg_name (i := 5) sc.nd rfl (by first | exact Or.inl rfl | exact Or.inr rfl)) pgs_nil))))
      (pss_cons (ps_lock (ps_for PassesOwn.never rfl (pi_items (pv 3)) (pg_tupK (K := K) (n := 2) rfl rfl (pgs_cons (pg_name (i := 6) sc.nd rfl (by first | exact Or.inl rfl | exact Or.inr rfl)) (pgs_cons (pg_tupK (K := K) (n := 2) rfl rfl (pgs_cons (pg_name (i := 7) sc.nd rfl (by first | exact Or.inl rfl | exact Or.inr rfl)) (pgs_cons (pg_name (i := 8) sc.nd rfl (by first | exact Or.inl rfl | exact Or.inr rfl)) pgs_nil))) pgs_nil))) (pss_cons (ps_set (i := 9) sc.nd rfl (by first | exact Or.inl rfl | exact Or.inr rfl) (pe_h G_picked_steps hr rfl T.g_picked_steps (pa_cons (pe_mh (pe_gi (pv 0) (pv 6) T.m_getitem G_getitem hr) T.isF.cl T.m_lots G_lots hr) (pa_cons (pv 7) pa_nil))))
      (pss_one (ps_if (pt_not (pt_val (pe_callB (cr_allK (K := K) rfl) (by rfl) T.n_all (by decide +kernel) (pa_cons (pe_lc (own := [("goal", 10), ("number", 11)]) (g := gTup K 2 (gCons (gName 10) (gCons (gName 11) (gNil)))) (tt := tYes) rfl sc.nd (pi_listK (K := K) rfl (pv 9)) (blkOk_by (N := N_is_answer_paper) (sc := defScope s_is_answer_paper) (by decide +kernel)) (fun _ _ _ _ _ => (pg_tupK (K := K) (n := 2) rfl rfl (pgs_cons (pg_name (i := 10) sc.nd rfl (by first | exact Or.inl rfl | exact Or.inr rfl)) (pgs_cons (pg_name (i := 11) sc.nd rfl (by first | exact Or.inl rfl | exact Or.inr rfl)) pgs_nil)))) (fun _ _ _ _ _ => pts_nil) (fun _ _ _ _ _ => (pe_and (pe_cmp (pc_din hu (pv 10) (pv 3))) (pe_one (pe_cmpR op_ge (pe_op op_add (pe_op op_mul (pv 5) (pv 11)) (pe_ix (ix_tupK (K := K) rfl) (pe_dget hu (pv 3) (pv 10) (fun _ _ => rfl)) pe_int (fun _ _ => rfl))) (pe_op op_add (pv 8) (pv 4)) (nomark _)))))) pa_nil)))) (pss_one (ps_ret pe_bl)) pss_nil)))))
      (pss_one (ps_ret pe_bl))))))),
    fun vs Q sp => body_ok (fun Z as k hw => ?_) sp⟩
  obtain ⟨fs, lane, r, ql, rfl, h0, h1, h2, h3, h4, h5, h6, h7, hk⟩ := hw
  have hpl : (qpP intsL ql).length ≤ 12 := by unfold qpP; rw [List.length_map]; exact h5
  have hnd := ppK_nd fun x hx => (h6 x hx).nd
  try dsimp only [cxOf, Cx.nox]
  repeat walk_at "s"
  have hE : lockE K (((startE N_is_answer_paper [Ag.v (mapD T.C_Family T.C_Map fs), Ag.v (Dm.int lane), Ag.v (enD r), Ag.v (Dm.dic (ppK (qpP intsL ql)))]).set 4 (some (.v (.int r.1)))).set 5 (some (.v (.int r.2)))) 3 (ppK (qpP intsL ql)) =
      [some (.v (mapD T.C_Family T.C_Map fs)), some (.v (.int lane)), some (.v (enD r)), some (.x (frzP K (ppK (qpP intsL ql)))), some (.v (.int r.1)), some (.v (.int r.2)), none, none, none, none, none, none] := by
    simp [lockE, startE, lockC, Dm.nd, ndL, enD, nd_map]
  refine es_lock (i := 3) (ks := ppK (qpP intsL ql)) rfl hnd fun Z1 hz1 => ?_
  rw [hE]
  refine es_forA ql (fun x => .tup [.int x.1, .tup [intsL x.2.1, .int x.2.2]]) (fun j e => ∃ o1 o2 o3 o4 o5 o6, e = [some (.v (mapD T.C_Family T.C_Map fs)), some (.v (.int lane)), some (.v (enD r)), some (.x (frzP K (ppK (qpP intsL ql)))), some (.v (.int r.1)), some (.v (.int r.2)), o1, o2, o3, o4, o5, o6] ∧
    ∀ x ∈ ql.take j, (stepsA fs x).all (okG ql r x.2.2) = true) (ei_items rfl (items_qp _ _)) ⟨_, _, _, _, _, _, rfl, by simp⟩ (fun j x e hj hI => ?_) (fun e hI => ?_)
  · obtain ⟨o1, o2, o3, o4, o5, o6, rfl, h8⟩ := hI
    have tk : ql.take (j + 1) = ql.take j ++ [x] := by rw [List.take_succ, hj]; rfl
    have hmem := List.mem_of_getElem? hj
    obtain ⟨i, gs, e1, e2, e3, e4, e5, e6, e7⟩ := h6 (x.1, intsL x.2.1, x.2.2) (List.mem_map_of_mem (f := fun x : Int × List Int × Int => (x.1, intsL x.2.1, x.2.2)) hmem)
    have e1 : x.1 = (i : Nat) := e1
    have hgs : x.2.1 = gs := by
      have e3 : intsL x.2.1 = intsL gs := e3
      unfold intsL at e3
      have := Dm.lst.inj e3
      exact (List.map_inj_right (fun a b h => Dm.int.inj h)).mp this
    have hfi : fs[i]? = some (fs.getD i []) := by rw [List.getD_eq_getElem?_getD, List.getElem?_eq_getElem e2]; rfl
    have hst : stepsA fs x = (gs.zip (fs.getD i [])).map fun p => (p.1, (look p.2 p.1).getD 0) := by
      unfold stepsA
      rw [hgs, e1, Int.toNat_natCast]
    have hlen : (stepsA fs x).length ≤ 200 := by
      rw [hst, List.length_map, List.length_zip]
      omega
    refine eg_tup ⟨_, rfl, rfl, egs_cons (eg_nm (egs_cons (eg_tup ⟨_, rfl, rfl, egs_cons (eg_nm (egs_cons (eg_nm (egs_nil (egs_nil ?_)))))⟩)))⟩
    repeat walk_at "s"
    refine ⟨fs, i, _, by rw [e1], hfi, ?_⟩
    repeat walk_at "s"
    refine And.intro (by decide) ?_
    rw [← hgs] at e7
    repeat walk_at "s"
    have hsd : ((x.2.1.zip (fs.getD i [])).map fun p => enD (p.1, (look p.2 p.1).getD 0)) = (stepsA fs x).map enD := by rw [hst, hgs, List.map_map]; rfl
    rw [hsd]
    refine ev_ef (ef_mapX (stepsA fs x) enD (fun e => .bl (okG ql r x.2.2 e)) (by walk_at "gs") (by walk_at "gs") (ej (ei_list (ev_var rfl ⟨_, rfl, rfl⟩))) (sln' hlen) (fun Z' y hy => ?_) (ea_nil (eb_allB ⟨_, rfl, ?_⟩)))
    · repeat walk_at "s"
      rw [lookD_qp]
      unfold okG
      cases hl : lookT ql y.1 with
      | none =>
        refine br_n rfl ?_
        exact rfl
      | some z =>
        refine br_y rfl ?_
        repeat walk_at "s"
        refine ⟨_, _, rfl, by rw [lookD_qp, hl]; rfl, ?_⟩
        repeat walk_at "s"
    · cases hok : (stepsA fs x).all (okG ql r x.2.2) with
      | true =>
        refine br_n rfl ?_
        repeat walk_at "s"
        refine ⟨_, _, _, _, _, _, rfl, fun z hz => ?_⟩
        rw [tk] at hz
        rcases List.mem_append.mp hz with hz | hz
        · exact h8 z hz
        · rw [List.mem_singleton.mp hz]; exact hok
      | false =>
        refine br_y rfl ?_
        have : ansOk r fs ql = false := by
          unfold ansOk
          cases ha : ql.all fun x => (stepsA fs x).all (okG ql r x.2.2) with
          | false => rfl
          | true =>
            have := List.all_eq_true.mp ha x hmem
            rw [hok] at this; cases this
        rw [this] at hk
        exact es_ret (ev_bl ⟨rfl, hk⟩)
  · obtain ⟨o1, o2, o3, o4, o5, o6, rfl, h8⟩ := hI
    rw [List.take_length] at h8
    have : ansOk r fs ql = true := List.all_eq_true.mpr h8
    rw [this] at hk
    exact es_ret (ev_bl hk)
def gapsOf {τ : Type} (r : Int × Int) (pl : List (Int × τ × Int)) (cs : List Int) : List Int := pl.map fun x => r.2 * gi cs x.1 - x.2.2
def W_ahead_by : Wf := fun as k => ∃ (pl : Pp) (lane : Int) (r : Int × Int) (cs : List Int) (m : Int) (xl : Int × Dm × Int), as = [.v (.dic (ppK pl)), .v (.int lane), .v (enD r), .v (intsL cs), .v (.int m)] ∧ pl.length ≤ 12 ∧ (∀ x ∈ pl, x.2.1.nd = true ∧ 0 ≤ x.1 ∧ x.1 < cs.length) ∧
  1 ≤ r.2 ∧ r.2 ≤ 60 ∧ 0 ≤ m ∧ m ≤ 1000 ∧ lookP pl lane = some xl ∧
  ∀ lo hi : Int, lo ∈ gapsOf r pl cs → (∀ y ∈ gapsOf r pl cs, lo ≤ y) → hi ∈ gapsOf r pl cs → (∀ y ∈ gapsOf r pl cs, y ≤ hi) → k (.tup [.int (m * r.1 + xl.2.2 + lo), .int (m * r.1 + xl.2.2 + hi)])
theorem h_ahead_by (T : Kt K mg) : Held P w K mg base 1 T.a_ahead_by (spD K W_ahead_by) := by
  obtain ⟨fd, F⟩ := T.f_ahead_by
  have sc := sc_ahead_by
  refine held_of F sc (spD_len fun as k h => ?_) (fun _ _ _ _ _ _ us hl => match us, hl with | [_, _, _, _, _], _ => rfl) fun cdv A outer s H E hr => ?_
  · obtain ⟨_, _, _, _, _, _, rfl, _⟩ := h; rfl
  have hu := hu_of hr
  have hF_ : Cls K T.C_Family ∧ NoAttr K T.C_Family "own_lots" := ⟨T.isF.cl, T.naF⟩
  have hM_ : Cls K T.C_Map ∧ NoAttr K T.C_Map "own_families" := ⟨T.isM.cl, T.naM⟩
  have iF_ := T.isF
  have iM_ := T.isM
  refine ⟨_, (pss_cons (ps_lock (ps_setLc (i := 5) (own := [("part", 6), ("told", 7), ("height", 8)]) (g := gTup K 2 (gCons (gName 6) (gCons (gTup K 2 (gCons (gName 7) (gCons (gName 8) (gNil)))) (gNil)))) (tt := tYes) rfl sc.nd rfl rfl (sw_true rfl rfl rfl (by decide +kernel)) (pi_items (pv 0)) (blkOk_by (N := N_ahead_by) (sc := defScope s_ahead_by) (by decide +kernel)) (fun _ _ _ _ _ => (pg_tupK (K := K) (n := 2) rfl rfl (pgs_cons (pg_name (i := 6) sc.nd rfl (by first | exact Or.inl rfl | exact Or.inr rfl)) (pgs_cons (pg_tupK (K := K) (n := 2) rfl rfl (pgs_cons (pg_name (i := 7) sc.nd rfl (by first | exact Or.inl rfl | exact Or.inr rfl)) (pgs_cons (pg_name (i := 8) sc.nd rfl (by first | exact Or.inl rfl | exact Or.inr rfl)) pgs_nil))) pgs_nil)))) (fun _ _ _ _ _ => pts_nil) (fun _ _ _ _ _ => (pe_op op_sub (pe_op op_mul (pe_ix (ix_tupK (K := K) rfl) (pv 2) pe_int (fun _ _ => rfl)) (pe_ix (ix_listK (K := K) rfl) (pv 3) (pv 6) (fun _ _ => rfl))) (pv 8)))))
      (pss_cons (ps_set (i := 9) sc.nd rfl (by first | exact Or.inl rfl | exact Or.inr rfl) (pe_op op_add (pe_op op_mul (pv 4) (pe_ix (ix_tupK (K := K) rfl) (pv 2) pe_int (fun _ _ => rfl))) (pe_ix (ix_tupK (K := K) rfl) (pe_dget hu (pv 0) (pv 1) (fun _ _ => rfl)) pe_int (fun _ _ => rfl))))
      (pss_one (ps_ret (pe_tup (pa_cons (pe_op op_add (pv 9) (pe_callB (cr_minK (K := K) rfl) (by rfl) T.n_min (by decide +kernel) (pa_cons (pv 5) pa_nil))) (pa_cons (pe_op op_add (pv 9) (pe_callB (cr_maxK (K := K) rfl) (by rfl) T.n_max (by decide +kernel) (pa_cons (pv 5) pa_nil))) pa_nil))))))),
    fun vs Q sp => body_ok (fun Z as k hw => ?_) sp⟩
  obtain ⟨pl, lane, r, cs, m, xl, rfl, h0, h1, h2, h3, h4, h5, h6, hk⟩ := hw
  have hnd := ppK_nd fun x hx => (h1 x hx).1
  have hne : 0 < (gapsOf r pl cs).length := by
    unfold gapsOf
    rw [List.length_map]
    exact List.length_pos_of_mem (lookP_mem h6).1
  try dsimp only [cxOf, Cx.nox]
  have hE : lockE K (startE N_ahead_by [.v (.dic (ppK pl)), .v (.int lane), .v (enD r), .v (intsL cs), .v (.int m)]) 0 (ppK pl) =
      [some (.x (frzP K (ppK pl))), some (.v (.int lane)), some (.v (enD r)), some (.v (intsL cs)), some (.v (.int m)), none, none, none, none, none] := by
    simp [lockE, startE, lockC, Dm.nd, ndL, enD, intsL, nd_ints]
  refine es_seq (es_lockSet (i := 0) (ks := ppK pl) rfl hnd fun Z1 hz1 => ?_)
  rw [hE]
  refine ef_mapX pl (fun x => .tup [.int x.1, .tup [x.2.1, .int x.2.2]]) (fun x => .int (r.2 * gi cs x.1 - x.2.2)) (by walk_at "gs") (by walk_at "gs") (ej (ei_items rfl ?_)) (sln' h0) (fun Z' x hx => ?_) ⟨_, rfl, by simp [Dm.flat], ?_⟩
  · unfold ppK
    rw [List.map_map]; rfl
  · obtain ⟨x0, x1, x2⟩ := h1 x hx
    have a1 := gi_at (l := cs) x1 x2
    refine eg_tup ⟨_, rfl, rfl, egs_cons (eg_nm (egs_cons (eg_tup ⟨_, rfl, rfl, egs_cons (eg_nm (egs_cons (eg_nm (egs_nil (egs_nil ?_)))))⟩)))⟩
    repeat walk_at "s"
  · have em : pl.map (fun x => Dm.int (r.2 * gi cs x.1 - x.2.2)) = (gapsOf r pl cs).map Dm.int := by unfold gapsOf; rw [List.map_map]; rfl
    rw [em]
    repeat walk_at "s"
    refine ⟨_, _, rfl, by rw [lookD_ppK, h6]; rfl, ?_⟩
    repeat walk_at "s"
    refine eb_min hne fun lo hl1 hl2 => ?_
    repeat walk_at "s"
    refine eb_max hne fun hi hh1 hh2 => ?_
    have := hk lo hi hl1 hl2 hh1 hh2
    repeat walk_at "s"
end
end Ln
/-! K14: bounds. -/
namespace Ln
open PySem PySem.Spec PyProof.Rows L2
section
local macro_rules | `(tactic| walk_at "kb") => `(tactic| first | exact kb_ii | exact kb_ib | exact kb_tt | exact kb_tl | exact kb_lt | exact kb_ll | exact kb_dd)
local macro_rules | `(tactic| walk_at "om") => `(tactic| first | omega | (simp only [List.length_map, List.length_cons, List.length_nil]; omega))
local macro_rules | `(tactic| walk_at "s") => `(tactic| first
  | ((with_reducible show Ev _ _ (tVar _) _ _); refine ev_var rfl ?_)
  | (with_reducible refine ev_int ?_)
  | (with_reducible refine ev_bl ?_)
  | (with_reducible refine ev_str ?_)
  | (with_reducible refine ev_non ?_)
  | (with_reducible refine ev_ty ?_)
  | (with_reducible refine ev_fn ?_)
  | (with_reducible refine ev_op ?_)
  | (with_reducible refine er_b0 ?_)
  | (with_reducible refine er_i0 ?_)
  | ((with_reducible show Er _ _ (rIxT _) _ _ _); first | refine er_ixT ⟨_, _, rfl, rfl, ?_⟩ | refine er_ixT ⟨_, _, rfl, (by assumption), ?_⟩)
  | ((with_reducible show Er _ _ (rIxL _) _ _ _); first | refine er_ixL ⟨_, rfl, ?_⟩ | refine er_ixL ⟨_, (by assumption), ?_⟩)
  | (with_reducible refine ev_neg ?_)
  | (with_reducible refine ev_prop ?_)
  | (with_reducible refine ev_gi ?_)
  | (with_reducible refine ev_meth ?_)
  | ((with_reducible show Ev _ _ (tMake _ _ _ _ _) _ _); refine ev_make ?_)
  | ((with_reducible show Ev _ _ (tFld _ _ _) _ _); refine ev_fldA (by assumption) ?_)
  | (with_reducible refine ev_din ?_)
  | (with_reducible refine ev_dnin ?_)
  | (with_reducible refine ev_dget ?_)
  | ((with_reducible show Ed _ _ (tVar _) _ _); first | refine ed_own rfl ?_ | refine ed_ro rfl ?_ | refine ed_frz rfl ?_ | refine ed_v (ev_var rfl ⟨_, rfl, ?_⟩))
  | (with_reducible refine ev_call ?_)
  | ((with_reducible show Ev _ _ (tCall (spF _ _) _ _ _) _ _); refine ev_ef (ef_callF ?_))
  | (with_reducible refine ev_cb ?_)
  | ((with_reducible show Ea _ _ (tCons (tVar _) _) _ _); refine ea_pot rfl ?_)
  | (with_reducible refine ea_nil ?_)
  | (with_reducible refine ea_v ?_)
  | (with_reducible refine ev_andV ?_)
  | (with_reducible refine ev_orV ?_)
  | (with_reducible refine ev_notV ?_)
  | (with_reducible refine ev_if ?_)
  | (with_reducible refine ev_chain ?_)
  | (with_reducible refine et_test ?_)
  | (with_reducible refine et_B ?_)
  | (with_reducible refine et_yes ?_)
  | (with_reducible refine et_and ?_)
  | (with_reducible refine et_or ?_)
  | (with_reducible refine et_not ?_)
  | (with_reducible refine et_ifT ?_)
  | (with_reducible refine es_seq ?_)
  | (with_reducible refine es_next ?_)
  | (with_reducible refine es_if ?_)
  | (with_reducible refine es_ret ?_)
  | (with_reducible refine es_set ?_)
  | (with_reducible refine es_asg ?_)
  | (with_reducible refine eg_nm ?_)
  | (with_reducible refine egs_cons ?_)
  | (with_reducible refine egs_nil ?_)
  | ((with_reducible show Eg _ _ (gTup _ _ _) _ _ _); refine eg_tup ⟨_, rfl, rfl, ?_⟩)
  | ((with_reducible show Es _ _ (tPar _ _ (tCons tDNewK _)) _ _); refine es_parO (by first | (simp [startE]; done) | decide) (ef_dnew ?_))
  | (with_reducible refine es_par ?_)
  | ((with_reducible show Er _ _ (rI _ _) _ _ _); first | refine er_i (Or.inl ⟨by omega, by omega⟩) ?_ | refine er_i (Or.inr ⟨by omega, by omega⟩) ?_ | refine er_i ⟨by omega, by omega⟩ ?_ | refine er_i (by omega) ?_)
  | (with_reducible refine es_drop ?_)
  | (with_reducible refine ev_tup ?_)
  | (with_reducible refine ev_lst ?_)
  | ((with_reducible show Eb _ _ (rIsi _) [_, Ag.v (Dm.ty _)] _); refine eb_isi rfl (by walk_at "kb") ?_)
  | ((with_reducible show Eb _ _ (rIsi _) [_, Ag.v (Dm.fn _)] _); refine eb_isiC (by assumption) ?_)
  | ((with_reducible show Eb _ _ (rIsiT _) _ _); refine eb_isi2 rfl (by walk_at "kb") (by walk_at "kb") ?_)
  | ((with_reducible show Er _ _ (fun _ _ _ _ => _) _ _ _); first | refine er_isN ?_ | refine er_notN ?_)
  | ((with_reducible show Er _ _ rEq _ _ _); refine er_eq ⟨_, rfl, ?_⟩)
  | ((with_reducible show Er _ _ rNe _ _ _); refine er_ne ⟨_, rfl, ?_⟩)
  | ((with_reducible show Eb _ _ _ [Ag.v (Dm.int _)] _); first | refine eb_abs ?_ | refine eb_int ?_)
  | ((with_reducible show Eb _ _ (rListOf _) _ _); refine eb_list ⟨_, (by first | rfl | assumption), ?_⟩)
  | ((with_reducible show Eb _ _ _ [Ag.v _] _); refine eb_len ⟨_, (by first | rfl | assumption), ?_⟩)
  | ((with_reducible show ite _ _ _); first | refine br_y rfl ?_ | refine br_n rfl ?_ | refine br_y (decide_eq_true (by walk_at "om")) ?_ | refine br_n (decide_eq_false (by walk_at "om")) ?_)
  | (with_reducible refine br_nt (by walk_at "om") ?_)
  | (with_reducible refine br_nf (by walk_at "om") ?_)
  | assumption
  | exact rfl
  | exact congrArg Dm.bl (decide_eq_true (by walk_at "om"))
  | exact congrArg Dm.bl (decide_eq_false (by walk_at "om"))
  | (with_reducible refine kb_t (by walk_at "om") ?_)
  | refine ⟨[_], rfl, sl15 (Nat.le_of_ble_eq_true rfl), ?_⟩
  | refine ⟨[_, _], rfl, sl15 (Nat.le_of_ble_eq_true rfl), ?_⟩
  | refine ⟨[_, _, _], rfl, sl15 (Nat.le_of_ble_eq_true rfl), ?_⟩
  | refine ⟨[], rfl, Nat.zero_le _, ?_⟩
  | exact ⟨_, rfl⟩
  | exact ⟨_, _, rfl⟩
  | exact ⟨_, _, _, rfl⟩
  | exact ⟨_, _, _, _, rfl⟩
  | refine ⟨_, _, rfl, rfl, ?_⟩
  | refine ⟨_, rfl, ?_⟩
  | refine ⟨_, _, rfl, ?_⟩
  | refine ⟨_, _, _, rfl, ?_⟩
  | refine ⟨_, _, _, _, rfl, ?_⟩
  | refine ⟨_, rfl, (by assumption), ?_⟩
  | refine ⟨_, _, rfl, (by assumption), ?_⟩
  | refine ⟨⟨_, _, rfl⟩, ?_⟩
  | refine And.intro (by first | assumption | walk_at "om") ?_
  | refine And.intro rfl ?_
  | (simp only [List.length_map]; assumption)
  | omega)
local macro_rules | `(tactic| walk_at "nx") => `(tactic| (repeat first | assumption | exact rfl | refine noX_set ?_ rfl))
local macro_rules | `(tactic| walk_at "gs") => `(tactic| (repeat first | exact gset_nil | exact gset_name (by decide) | exact gmono_nil | exact gmono_name | refine gset_tup ?_ | refine gmono_tup ?_ | refine gset_cons ?_ ?_ ?_ ?_ | refine gmono_cons ?_ ?_))
variable {P : Program} {w : World} {K : PySem.W.Frag} {mg : Str → Option Value} {base : Heap}
theorem qp_parts {τ : Type} {enc : τ → Dm} {ql : List (Int × τ × Int)} {Q : Int → Prop} (h : ∀ x ∈ ql, Q x.1) : ∀ x ∈ qpP enc ql, Q x.1 := by
  intro x hx
  obtain ⟨y, hy, rfl⟩ := List.mem_map.mp hx
  exact h y hy
theorem gaps_qp {τ : Type} (enc : τ → Dm) (r : Int × Int) (ql : List (Int × τ × Int)) (cs : List Int) : gapsOf r (qpP enc ql) cs = gapsOf r ql cs := by
  unfold gapsOf qpP
  rw [List.map_map]; rfl
def W_most_behind (F M : Addr) : Wf := fun as k => ∃ (fs : List (List Lot)) (lane : Int) (r : Int × Int) (ql : List (Int × Lot × Int)) (cs : List Int) (m : Int) (xl : Int × Lot × Int),
  as = [.v (mapD F M fs), .v (.int lane), .v (enD r), .v (.dic (ppK (qpP lotD ql))), .v (intsL cs), .v (.int m)] ∧ fs.length ≤ 12 ∧ 0 ≤ lane ∧ lane < fs.length ∧ 1 ≤ r.2 ∧ r.2 ≤ 60 ∧
  ql.length ≤ 12 ∧ (∀ x ∈ qpP lotD ql, PlanFits fs x) ∧ lookT ql lane = some xl ∧ planOk r ql = true ∧ cs.length = fs.length ∧ 0 ≤ m ∧ m ≤ 1000 ∧
  ∀ hi : Int, hi ∈ gapsOf r ql cs → (∀ y ∈ gapsOf r ql cs, y ≤ hi) → k (.int ((m * r.1 + xl.2.2 + hi) / r.2))
theorem qp_has {τ : Type} {enc : τ → Dm} {ql : List (Int × τ × Int)} {lane : Int} {xl : Int × τ × Int} (h : lookT ql lane = some xl) : ∃ x ∈ qpP enc ql, x.1 = lane := by
  unfold lookT at h
  exact ⟨(xl.1, enc xl.2.1, xl.2.2), List.mem_map_of_mem (f := fun x : Int × τ × Int => (x.1, enc x.2.1, x.2.2)) (List.mem_of_find?_eq_some h), by simpa using List.find?_some h⟩
theorem h_most_behind (T : Kt K mg) : Held P w K mg base 11 T.a_most_behind (spD K (W_most_behind T.C_Family T.C_Map)) := by
  obtain ⟨fd, F⟩ := T.f_most_behind
  have sc := sc_most_behind
  refine held_of F sc (spD_len fun as k h => ?_) (fun _ _ _ _ _ _ us hl => match us, hl with | [_, _, _, _, _, _], _ => rfl) fun cdv A outer s H E hr => ?_
  · obtain ⟨_, _, _, _, _, _, _, rfl, _⟩ := h; rfl
  have hu := hu_of hr
  have hF_ : Cls K T.C_Family ∧ NoAttr K T.C_Family "own_lots" := ⟨T.isF.cl, T.naF⟩
  have hM_ : Cls K T.C_Map ∧ NoAttr K T.C_Map "own_families" := ⟨T.isM.cl, T.naM⟩
  have iF_ := T.isF
  have iM_ := T.isM
  have G_is_plan_paper := held_mono (h_is_plan_paper (P := P) (w := w) (base := base) T) (show 10 ≤ 10 by decide)
  have G_want_content_of := held_mono (h_want_content_of (P := P) (w := w) (base := base) T) (show 3 ≤ 10 by decide)
  have G_want_many := held_mono (h_want_many (P := P) (w := w) (base := base) T) (show 3 ≤ 10 by decide)
  have G_ahead_by := held_mono (h_ahead_by (P := P) (w := w) (base := base) T) (show 1 ≤ 10 by decide)
  have G_lanes := held_mono (h_Map_lanes (P := P) (w := w) (base := base) T) (show 1 ≤ 9 by decide)
  refine ⟨_, (pss_cons (ps_if (pt_not (pt_val (pe_h G_is_plan_paper hr rfl T.g_is_plan_paper (pa_cons (pv 0) (pa_cons (pv 1) (pa_cons (pv 2) (pa_cons (pv 3) pa_nil))))))) (pss_one ps_never) pss_nil)
      (pss_cons (ps_expr (pe_h G_want_content_of hr rfl T.g_want_content_of (pa_cons (pe_ph (pv 0) T.isM.cl T.p_lanes G_lanes hr) (pa_cons (pv 4) pa_nil))))
      (pss_cons (ps_expr (pe_h G_want_many hr rfl T.g_want_many (pa_cons (pv 5) pa_nil)))
      (pss_one (ps_ret (pe_op op_fdiv (pe_ix (ix_tupK (K := K) rfl) (pe_h G_ahead_by hr rfl T.g_ahead_by (pa_cons (pv 3) (pa_cons (pv 1) (pa_cons (pv 2) (pa_cons (pv 4) (pa_cons (pv 5) pa_nil)))))) pe_int (fun _ _ => rfl)) (pe_ix (ix_tupK (K := K) rfl) (pv 2) pe_int (fun _ _ => rfl)))))))),
    fun vs Q sp => body_ok (fun Z as k hw => ?_) sp⟩
  obtain ⟨fs, lane, r, ql, cs, m, xl, rfl, h0, h1, h2, h3, h4, h5, h6, h7, h8, h9, h10, h11, hk⟩ := hw
  have hpl : (qpP lotD ql).length ≤ 12 := by unfold qpP; rw [List.length_map]; exact h5
  have hhas := qp_has (enc := lotD) h7
  have hlk : lookP (qpP lotD ql) lane = some (xl.1, lotD xl.2.1, xl.2.2) := by rw [lookP_qp, h7]; rfl
  have hps : ∀ x ∈ qpP lotD ql, x.2.1.nd = true ∧ 0 ≤ x.1 ∧ x.1 < cs.length := fun x hx => by
    obtain ⟨i, l, e1, e2, _⟩ := h6 x hx
    exact ⟨(h6 x hx).nd, by omega, by omega⟩
  try dsimp only [cxOf, Cx.nox]
  repeat walk_at "s"
  rw [h8]
  refine br_n rfl ?_
  repeat walk_at "s"
  refine ⟨_, _, cs, rfl, rfl, by omega, by omega, by omega, ?_⟩
  repeat walk_at "s"
  refine ⟨_, _, _, _, _, _, rfl, hpl, hps, h3, h4, h10, h11, hlk, fun lo hi hl1 hl2 hh1 hh2 => ?_⟩
  rw [gaps_qp] at hh1 hh2
  have := hk hi hh1 hh2
  repeat walk_at "s"
def W_least_behind (F M : Addr) : Wf := fun as k => ∃ (fs : List (List Lot)) (lane : Int) (r : Int × Int) (ql : List (Int × List Int × Int)) (cs : List Int) (m : Int) (xl : Int × List Int × Int),
  as = [.v (mapD F M fs), .v (.int lane), .v (enD r), .v (.dic (ppK (qpP intsL ql))), .v (intsL cs), .v (.int m)] ∧ fs.length ≤ 12 ∧ 0 ≤ lane ∧ lane < fs.length ∧ 1 ≤ r.2 ∧ r.2 ≤ 60 ∧
  ql.length ≤ 12 ∧ (∀ x ∈ qpP intsL ql, AnsFits fs x) ∧ lookT ql lane = some xl ∧ ansOk r fs ql = true ∧ cs.length = fs.length ∧ 0 ≤ m ∧ m ≤ 1000 ∧
  ∀ lo : Int, lo ∈ gapsOf r ql cs → (∀ y ∈ gapsOf r ql cs, lo ≤ y) → k (.int (0 - (0 - (m * r.1 + xl.2.2 + lo)) / r.2))
theorem h_least_behind (T : Kt K mg) : Held P w K mg base 11 T.a_least_behind (spD K (W_least_behind T.C_Family T.C_Map)) := by
  obtain ⟨fd, F⟩ := T.f_least_behind
  have sc := sc_least_behind
  refine held_of F sc (spD_len fun as k h => ?_) (fun _ _ _ _ _ _ us hl => match us, hl with | [_, _, _, _, _, _], _ => rfl) fun cdv A outer s H E hr => ?_
  · obtain ⟨_, _, _, _, _, _, _, rfl, _⟩ := h; rfl
  have hu := hu_of hr
  have hF_ : Cls K T.C_Family ∧ NoAttr K T.C_Family "own_lots" := ⟨T.isF.cl, T.naF⟩
  have hM_ : Cls K T.C_Map ∧ NoAttr K T.C_Map "own_families" := ⟨T.isM.cl, T.naM⟩
  have iF_ := T.isF
  have iM_ := T.isM
  have G_is_answer_paper := held_mono (h_is_answer_paper (P := P) (w := w) (base := base) T) (show 10 ≤ 10 by decide)
  have G_want_content_of := held_mono (h_want_content_of (P := P) (w := w) (base := base) T) (show 3 ≤ 10 by decide)
  have G_want_many := held_mono (h_want_many (P := P) (w := w) (base := base) T) (show 3 ≤ 10 by decide)
  have G_ahead_by := held_mono (h_ahead_by (P := P) (w := w) (base := base) T) (show 1 ≤ 10 by decide)
  have G_lanes := held_mono (h_Map_lanes (P := P) (w := w) (base := base) T) (show 1 ≤ 9 by decide)
  refine ⟨_, (pss_cons (ps_if (pt_not (pt_val (pe_h G_is_answer_paper hr rfl T.g_is_answer_paper (pa_cons (pv 0) (pa_cons (pv 1) (pa_cons (pv 2) (pa_cons (pv 3) pa_nil))))))) (pss_one ps_never) pss_nil)
      (pss_cons (ps_expr (pe_h G_want_content_of hr rfl T.g_want_content_of (pa_cons (pe_ph (pv 0) T.isM.cl T.p_lanes G_lanes hr) (pa_cons (pv 4) pa_nil))))
      (pss_cons (ps_expr (pe_h G_want_many hr rfl T.g_want_many (pa_cons (pv 5) pa_nil)))
      (pss_one (ps_ret (pe_op op_sub pe_int (pe_op op_fdiv (pe_op op_sub pe_int (pe_ix (ix_tupK (K := K) rfl) (pe_h G_ahead_by hr rfl T.g_ahead_by (pa_cons (pv 3) (pa_cons (pv 1) (pa_cons (pv 2) (pa_cons (pv 4) (pa_cons (pv 5) pa_nil)))))) pe_int (fun _ _ => rfl))) (pe_ix (ix_tupK (K := K) rfl) (pv 2) pe_int (fun _ _ => rfl))))))))),
    fun vs Q sp => body_ok (fun Z as k hw => ?_) sp⟩
  obtain ⟨fs, lane, r, ql, cs, m, xl, rfl, h0, h1, h2, h3, h4, h5, h6, h7, h8, h9, h10, h11, hk⟩ := hw
  have hpl : (qpP intsL ql).length ≤ 12 := by unfold qpP; rw [List.length_map]; exact h5
  have hhas := qp_has (enc := intsL) h7
  have hlk : lookP (qpP intsL ql) lane = some (xl.1, intsL xl.2.1, xl.2.2) := by rw [lookP_qp, h7]; rfl
  have hps : ∀ x ∈ qpP intsL ql, x.2.1.nd = true ∧ 0 ≤ x.1 ∧ x.1 < cs.length := fun x hx => by
    obtain ⟨i, l, e1, e2, _⟩ := h6 x hx
    exact ⟨(h6 x hx).nd, by omega, by omega⟩
  try dsimp only [cxOf, Cx.nox]
  repeat walk_at "s"
  rw [h8]
  refine br_n rfl ?_
  repeat walk_at "s"
  refine ⟨_, _, cs, rfl, rfl, by omega, by omega, by omega, ?_⟩
  repeat walk_at "s"
  refine ⟨_, _, _, _, _, _, rfl, hpl, hps, h3, h4, h10, h11, hlk, fun lo hi hl1 hl2 hh1 hh2 => ?_⟩
  rw [gaps_qp] at hl1 hl2
  have := hk lo hl1 hl2
  repeat walk_at "s"
end
end Ln
/-! K15: the law's own numbers. -/
namespace Ln
open PySem PySem.Spec PyProof.Rows L2
section
local macro_rules | `(tactic| walk_at "kb") => `(tactic| first | exact kb_ii | exact kb_ib | exact kb_tt | exact kb_tl | exact kb_lt | exact kb_ll | exact kb_dd)
local macro_rules | `(tactic| walk_at "om") => `(tactic| first | omega | (simp only [List.length_map, List.length_cons, List.length_nil]; omega))
local macro_rules | `(tactic| walk_at "s") => `(tactic| first
  | ((with_reducible show Ev _ _ _ _ _); first
    | ((with_reducible show Ev _ _ (tVar _) _ _); refine ev_var rfl ?_)
    | (with_reducible refine ev_int ?_)
    | (with_reducible refine ev_bl ?_)
    | (with_reducible refine ev_str ?_)
    | (with_reducible refine ev_non ?_)
    | (with_reducible refine ev_ty ?_)
    | (with_reducible refine ev_fn ?_)
    | (with_reducible refine ev_op ?_)
    | (with_reducible refine ev_neg ?_)
    | (with_reducible refine ev_prop ?_)
    | (with_reducible refine ev_gi ?_)
    | (with_reducible refine ev_meth ?_)
    | ((with_reducible show Ev _ _ (tMake _ _ _ _ _) _ _); refine ev_make ?_)
    | ((with_reducible show Ev _ _ (tFld _ _ _) _ _); refine ev_fldA (by assumption) ?_)
    | (with_reducible refine ev_din ?_)
    | (with_reducible refine ev_dnin ?_)
    | (with_reducible refine ev_dget ?_)
    | (with_reducible refine ev_call ?_)
    | ((with_reducible show Ev _ _ (tCall (spF _ _) _ _ _) _ _); refine ev_ef (ef_callF ?_))
    | (with_reducible refine ev_cb ?_)
    | (with_reducible refine ev_andV ?_)
    | (with_reducible refine ev_orV ?_)
    | (with_reducible refine ev_notV ?_)
    | (with_reducible refine ev_if ?_)
    | (with_reducible refine ev_chain ?_)
    | (with_reducible refine ev_tup ?_)
    | (with_reducible refine ev_lst ?_))
  | ((with_reducible show Er _ _ _ _ _ _); first
    | (with_reducible refine er_b0 ?_)
    | (with_reducible refine er_i0 ?_)
    | ((with_reducible show Er _ _ (rIxT _) _ _ _); first | refine er_ixT ⟨_, _, rfl, rfl, ?_⟩ | refine er_ixT ⟨_, _, rfl, (by assumption), ?_⟩)
    | ((with_reducible show Er _ _ (rIxL _) _ _ _); first | refine er_ixL ⟨_, rfl, ?_⟩ | refine er_ixL ⟨_, (by assumption), ?_⟩)
    | ((with_reducible show Er _ _ (rI _ _) _ _ _); first | refine er_i (Or.inl ⟨by omega, by omega⟩) ?_ | refine er_i (Or.inr ⟨by omega, by omega⟩) ?_ | refine er_i ⟨by omega, by omega⟩ ?_ | refine er_i (by omega) ?_)
    | ((with_reducible show Er _ _ (fun _ _ _ _ => _) _ _ _); first | refine er_isN ?_ | refine er_notN ?_)
    | ((with_reducible show Er _ _ rEq _ _ _); refine er_eq ⟨_, rfl, ?_⟩)
    | ((with_reducible show Er _ _ rNe _ _ _); refine er_ne ⟨_, rfl, ?_⟩))
  | ((with_reducible show Ea _ _ _ _ _); first
    | ((with_reducible show Ea _ _ (tCons (tVar _) _) _ _); refine ea_pot rfl ?_)
    | (with_reducible refine ea_nil ?_)
    | (with_reducible refine ea_v ?_))
  | ((with_reducible show Es _ _ _ _ _); first
    | (with_reducible refine es_seq ?_)
    | (with_reducible refine es_next ?_)
    | (with_reducible refine es_if ?_)
    | (with_reducible refine es_ret ?_)
    | (with_reducible refine es_set ?_)
    | (with_reducible refine es_asg ?_)
    | ((with_reducible show Es _ _ (tPar _ _ (tCons tDNewK _)) _ _); refine es_parO (by first | (simp [startE]; done) | decide) (ef_dnew ?_))
    | (with_reducible refine es_par ?_)
    | (with_reducible refine es_drop ?_))
  | ((with_reducible show Et _ _ _ _ _); first
    | (with_reducible refine et_test ?_)
    | (with_reducible refine et_B ?_)
    | (with_reducible refine et_yes ?_)
    | (with_reducible refine et_and ?_)
    | (with_reducible refine et_or ?_)
    | (with_reducible refine et_not ?_)
    | (with_reducible refine et_ifT ?_))
  | ((with_reducible show Eb _ _ _ _ _); first
    | ((with_reducible show Eb _ _ (rIsi _) [_, Ag.v (Dm.ty _)] _); refine eb_isi rfl (by walk_at "kb") ?_)
    | ((with_reducible show Eb _ _ (rIsi _) [_, Ag.v (Dm.fn _)] _); refine eb_isiC (by assumption) ?_)
    | ((with_reducible show Eb _ _ (rIsiT _) _ _); refine eb_isi2 rfl (by walk_at "kb") (by walk_at "kb") ?_)
    | ((with_reducible show Eb _ _ _ [Ag.v (Dm.int _)] _); first | refine eb_abs ?_ | refine eb_int ?_)
    | ((with_reducible show Eb _ _ (rListOf _) _ _); refine eb_list ⟨_, (by first | rfl | assumption), ?_⟩)
    | ((with_reducible show Eb _ _ _ [Ag.v _] _); refine eb_len ⟨_, (by first | rfl | assumption), ?_⟩))
  | ((with_reducible show Eg _ _ _ _ _ _); first
    | (with_reducible refine eg_nm ?_)
    | ((with_reducible show Eg _ _ (gTup _ _ _) _ _ _); refine eg_tup ⟨_, rfl, rfl, ?_⟩))
  | ((with_reducible show Egs _ _ _ _ _ _); first
    | (with_reducible refine egs_cons ?_)
    | (with_reducible refine egs_nil ?_))
  | ((with_reducible show Ed _ _ _ _ _); first
    | ((with_reducible show Ed _ _ (tVar _) _ _); first | refine ed_own rfl ?_ | refine ed_ro rfl ?_ | refine ed_frz rfl ?_ | refine ed_v (ev_var rfl ⟨_, rfl, ?_⟩)))
  | ((with_reducible show ite _ _ _); first | refine br_y rfl ?_ | refine br_n rfl ?_ | refine br_y (decide_eq_true (by walk_at "om")) ?_ | refine br_n (decide_eq_false (by walk_at "om")) ?_)
  | (with_reducible refine br_nt (by walk_at "om") ?_)
  | (with_reducible refine br_nf (by walk_at "om") ?_)
  | assumption
  | exact rfl
  | exact congrArg Dm.bl (decide_eq_true (by walk_at "om"))
  | exact congrArg Dm.bl (decide_eq_false (by walk_at "om"))
  | (with_reducible refine kb_t (by walk_at "om") ?_)
  | refine ⟨[_], rfl, sl15 (Nat.le_of_ble_eq_true rfl), ?_⟩
  | refine ⟨[_, _], rfl, sl15 (Nat.le_of_ble_eq_true rfl), ?_⟩
  | refine ⟨[_, _, _], rfl, sl15 (Nat.le_of_ble_eq_true rfl), ?_⟩
  | refine ⟨[], rfl, Nat.zero_le _, ?_⟩
  | exact ⟨_, rfl⟩
  | exact ⟨_, _, rfl⟩
  | exact ⟨_, _, _, rfl⟩
  | exact ⟨_, _, _, _, rfl⟩
  | refine ⟨_, _, rfl, rfl, ?_⟩
  | refine ⟨_, rfl, ?_⟩
  | refine ⟨_, _, rfl, ?_⟩
  | refine ⟨_, _, _, rfl, ?_⟩
  | refine ⟨_, _, _, _, rfl, ?_⟩
  | refine ⟨_, rfl, (by assumption), ?_⟩
  | refine ⟨_, _, rfl, (by assumption), ?_⟩
  | refine ⟨⟨_, _, rfl⟩, ?_⟩
  | refine And.intro (by first | assumption | walk_at "om") ?_
  | refine And.intro rfl ?_
  | (simp only [List.length_map]; assumption)
  | omega)
local macro_rules | `(tactic| walk_at "nx") => `(tactic| (repeat first | assumption | exact rfl | refine noX_set ?_ rfl))
local macro_rules | `(tactic| walk_at "gs") => `(tactic| (repeat first | exact gset_nil | exact gset_name (by decide) | exact gmono_nil | exact gmono_name | refine gset_tup ?_ | refine gmono_tup ?_ | refine gset_cons ?_ ?_ ?_ ?_ | refine gmono_cons ?_ ?_))
variable {P : Program} {w : World} {K : PySem.W.Frag} {mg : Str → Option Value} {base : Heap}
def W__law_draw : Wf := fun as k => ∃ n : Int, as = [.pot, .v (.int n)] ∧ 0 < n ∧ n < 1000000000 ∧ ∀ r : Int, 0 ≤ r → r < n → k (.int r)
theorem h__law_draw (T : Kt K mg) : Held P w K mg base 1 T.a__law_draw (spD K W__law_draw) := by
  obtain ⟨fd, F⟩ := T.f__law_draw
  have sc := sc__law_draw
  refine held_of F sc (fun vs H Q E h => ?_) (fun _ _ _ _ _ _ us hl => match us, hl with | [_, _], _ => rfl) fun cdv A outer s H E hr => ?_
  · exact spD_len (fun as k h => by obtain ⟨_, rfl, _⟩ := h; rfl) vs H Q E h
  have hu := hu_of hr
  have hF_ : Cls K T.C_Family ∧ NoAttr K T.C_Family "own_lots" := ⟨T.isF.cl, T.naF⟩
  have hM_ : Cls K T.C_Map ∧ NoAttr K T.C_Map "own_families" := ⟨T.isM.cl, T.naM⟩
  have iF_ := T.isF
  have iM_ := T.isM
  refine ⟨_, (pss_cons (ps_if (pt_cmpR op_gt (pe_ix (ix_listK (K := K) rfl) (pv 0) pe_int (fun _ _ => rfl)) pe_int (nomark _)) (pss_cons (ps_asg (pe_callB call_divmod (by rfl) T.n_divmod (by decide +kernel) (pa_cons (pe_ix (ix_listK (K := K) rfl) (pv 0) pe_int (fun _ _ => rfl)) (pa_cons (pv 1) pa_nil))) (pg_tupK (K := K) (n := 2) rfl rfl (pgs_cons (pg_sub (pv 0) pe_int set_list) (pgs_cons (pg_name (i := 2) sc.nd rfl (by first | exact Or.inl rfl | exact Or.inr rfl)) pgs_nil))))
      (pss_one (ps_ret (pv 2)))) pss_nil)
      (pss_cons (ps_asg (pe_op op_mod (pe_callTy call_int1 (by rfl) T.n_int (by decide +kernel) (pa_cons (pe_op op_add (pe_op op_mul (pe_ix (ix_listK (K := K) rfl) (pv 0) pe_int (fun _ _ => rfl)) pe_int) pe_int) pa_nil)) pe_int) (pg_sub (pv 0) pe_int set_list))
      (pss_one (ps_ret (pe_op op_mod (pe_callTy call_int1 (by rfl) T.n_int (by decide +kernel) (pa_cons (pe_op op_fdiv (pe_op op_mod (pe_callTy call_int1 (by rfl) T.n_int (by decide +kernel) (pa_cons (pe_op op_mul (pe_ix (ix_listK (K := K) rfl) (pv 0) pe_int (fun _ _ => rfl)) (pe_ix (ix_listK (K := K) rfl) (pv 0) pe_int (fun _ _ => rfl))) pa_nil)) pe_int) pe_int) pa_nil)) (pv 1)))))),
    fun vs Q sp => ?_⟩
  obtain ⟨Po, G, as, k, sg, hp, ra, ⟨n, rfl, h0, h1, hk⟩, c⟩ := sp
  cases ra with
  | cons r1 r2 =>
  obtain ⟨p, hP, rfl⟩ := r1
  obtain ⟨v, rfl, rv⟩ := args1 r2
  rw [rv.int_inv]
  obtain ⟨gp, a, b, hH⟩ := hp p hP
  try dsimp only [cxOf, Cx.nox]
  have i0 : atI [V.int a, V.int b] 0 = some (.int a) := atI_nat (j := 0) rfl
  have i1 : atI [V.int a, V.int b] 1 = some (.int b) := atI_nat (j := 1) rfl
  have adv : ∀ (H2 : Hp), (∀ q, Po ≠ some q → ∀ o, H q = some o → H2 q = some o) → (∃ x y, H2 p = some (.lst [.int x, .int y])) → Adv Po G H G H2 := fun H2 h3 h4 =>
    ⟨same_refl, fun q o hn e => h3 q hn o e, fun q h _ => h, fun q o e => h3 q (fun z => by have := (hp q z).1; rw [e] at this; cases this) o (sg q o e), fun q hq => by rw [hP] at hq; cases hq; exact h4⟩
  have np : ∀ q, Po ≠ some q → q ≠ p := fun q h z => h (by rw [z]; exact hP)
  refine ⟨.ref p, rfl, p, _, 0, .int a, rfl, rfl, .inl (.inl hH), i0, a, 0, rfl, rfl, _, rfl, ?_⟩
  refine br_d (fun hc => ?_) (fun hc => ?_)
  · refine ⟨.ref p, rfl, p, _, 0, .int a, rfl, rfl, .inl (.inl hH), i0, .int n, rfl, a, n, rfl, ⟨h0, by omega⟩, fun t ht => ?_⟩
    have tp : p ≠ t := ne_of_none hH ht
    refine ⟨t, _, rfl, .inl (.inl upd_same), rfl, _, _, rfl, ?_⟩
    refine ⟨.ref p, rfl, p, [.int a, .int b], 0, 0, rfl, rfl, by rw [upd_ne tp]; exact hH, rfl, ?_⟩
    refine ⟨_, _, rfl, rfl, _, rfl, ?_⟩
    refine c (.int (a % n)) _ G _ (hk _ (Int.emod_nonneg _ (by omega)) (Int.emod_lt_of_pos _ h0)) (adv _ (fun q hn o e => ?_) ⟨a / n, b, upd_same⟩) (.int _)
    rw [upd_ne (np q hn), upd_ne (ne_of_none e ht)]
    exact e
  · refine ⟨.ref p, rfl, p, _, 1, .int b, rfl, rfl, .inl (.inl hH), i1, b, 48271, rfl, rfl, Or.inr ⟨by omega, by omega⟩, _, 13007, rfl, rfl, .inl ⟨_, rfl, _, 2147483629, rfl, rfl, by omega, ?_⟩⟩
    refine ⟨.ref p, rfl, p, [.int a, .int b], 1, 1, rfl, rfl, hH, rfl, ?_⟩
    have b0 := Int.emod_nonneg (b * 48271 + 13007) (show (2147483629 : Int) ≠ 0 by omega)
    have b1 := Int.emod_lt_of_pos (b * 48271 + 13007) (show (0 : Int) < 2147483629 by omega)
    obtain ⟨b', hb'⟩ : ∃ b', b' = (b * 48271 + 13007) % 2147483629 := ⟨_, rfl⟩
    rw [← hb'] at b0 b1
    have hp2 : (L2.upd H p (.lst ([V.int a, V.int b].set 1 (V.int ((b * 48271 + 13007) % 2147483629))))) p = some (.lst [.int a, .int b']) := by rw [hb']; exact upd_same
    have j1 : atI [V.int a, V.int b'] 1 = some (.int b') := atI_nat (j := 1) rfl
    refine ⟨.ref p, rfl, p, [.int a, .int b'], 1, .int b', rfl, rfl, .inl (.inl hp2), j1, .ref p, rfl, p, [.int a, .int b'], 1, .int b', rfl, rfl, .inl (.inl hp2), j1, b', b', rfl, rfl, Or.inl ⟨by omega, by omega⟩, .inl ⟨_, rfl, _, 2147483563, rfl, rfl, by omega, _, 13, rfl, rfl, ⟨by omega, by omega⟩, .inl ⟨_, rfl, .int n, rfl, _, n, rfl, rfl, h0, ?_⟩⟩⟩
    refine c (.int _) _ G _ (hk _ (Int.emod_nonneg _ (by omega)) (Int.emod_lt_of_pos _ h0)) (adv _ (fun q hn o e => ?_) ⟨a, b', hp2⟩) (.int _)
    rw [upd_ne (np q hn)]
    exact e
def W__law_gcd : Wf := fun as k => ∃ (a b : Nat), as = [.v (.int a), .v (.int b)] ∧ k (.int (Nat.gcd a b : Nat))
theorem h__law_gcd (T : Kt K mg) : Held P w K mg base 1 T.a__law_gcd (spD K W__law_gcd) := by
  obtain ⟨fd, F⟩ := T.f__law_gcd
  have sc := sc__law_gcd
  refine held_of F sc (spD_len fun as k h => ?_) (fun _ _ _ _ _ _ us hl => match us, hl with | [_, _], _ => rfl) fun cdv A outer s H E hr => ?_
  · obtain ⟨_, _, rfl, _⟩ := h; rfl
  have hu := hu_of hr
  have hF_ : Cls K T.C_Family ∧ NoAttr K T.C_Family "own_lots" := ⟨T.isF.cl, T.naF⟩
  have hM_ : Cls K T.C_Map ∧ NoAttr K T.C_Map "own_families" := ⟨T.isM.cl, T.naM⟩
  have iF_ := T.isF
  have iM_ := T.isM
  refine ⟨_, (pss_cons (ps_while PassesOwn.never (pt_cmpR op_ne (pv 1) pe_int (nomark _)) (pss_one (ps_par (i := 0) (j := 1) (by rfl) sc.nd rfl rfl (by decide) rfl rfl (pa_cons (pv 1) (pa_cons (pe_op op_mod (pv 0) (pe_callTy call_int1 (by rfl) T.n_int (by decide +kernel) (pa_cons (pv 1) pa_nil))) pa_nil)) (by rfl))))
      (pss_one (ps_ret (pv 0)))),
    fun vs Q sp => body_ok (fun Z as k hw => ?_) sp⟩
  obtain ⟨a, b, rfl, hk⟩ := hw
  try dsimp only [cxOf, Cx.nox]
  repeat walk_at "s"
  refine es_while (fun m e => ∃ x y : Nat, e = [some (.v (.int x)), some (.v (.int y))] ∧ Nat.gcd x y = Nat.gcd a b ∧ y = m) b ⟨_, _, rfl, rfl, rfl⟩ fun m e hI => ?_
  obtain ⟨x, y, rfl, h1, rfl⟩ := hI
  repeat walk_at "s"
  by_cases hc : y = 0
  · subst hc
    rw [Nat.gcd_zero_right] at h1
    rw [← h1] at hk
    refine br_n rfl ?_
    repeat walk_at "s"
  · refine br_y (by rw [decide_eq_false (by omega)]; rfl) ?_
    have hy : 0 < y := by omega
    repeat walk_at "s"
    refine ⟨x % y, Nat.mod_lt _ hy, y, x % y, ?_, ?_, rfl⟩
    · rw [Int.natCast_emod]; rfl
    · rw [← h1, Nat.gcd_comm x y, Nat.gcd_rec y x, Nat.gcd_comm]
end
end Ln
/-! K16: the law's own rounds. -/
namespace Ln
open PySem PySem.Spec PyProof.Rows L2
structure Wd where
  c : Nat
  ps : List (Int × Int)
  ss : List Int
  bs : List Int
  nx : List Int
def worldK (W : Wd) : List (Key × Dm) := [(.inr "common", .int W.c), (.inr "paces", .lst (W.ps.map enD)), (.inr "steps", intsL W.ss), (.inr "base", intsL W.bs), (.inr "next", intsL W.nx)]
def worldD (W : Wd) : Dm := .dic (worldK W)
theorem look_common (W : Wd) : lookD (worldK W) (.inr "common") = some (.int W.c) := by simp [lookD, worldK]
theorem look_paces (W : Wd) : lookD (worldK W) (.inr "paces") = some (.lst (W.ps.map enD)) := by
  have h1 : ¬ (Str.ofString "common" = Str.ofString "paces") := by decide
  simp [lookD, worldK, h1]
theorem look_steps (W : Wd) : lookD (worldK W) (.inr "steps") = some (intsL W.ss) := by
  have h1 : ¬ (Str.ofString "common" = Str.ofString "steps") := by decide
  have h2 : ¬ (Str.ofString "paces" = Str.ofString "steps") := by decide
  simp [lookD, worldK, h1, h2]
theorem look_base (W : Wd) : lookD (worldK W) (.inr "base") = some (intsL W.bs) := by
  have h1 : ¬ (Str.ofString "common" = Str.ofString "base") := by decide
  have h2 : ¬ (Str.ofString "paces" = Str.ofString "base") := by decide
  have h3 : ¬ (Str.ofString "steps" = Str.ofString "base") := by decide
  simp [lookD, worldK, h1, h2, h3]
theorem look_next (W : Wd) : lookD (worldK W) (.inr "next") = some (intsL W.nx) := by
  have h1 : ¬ (Str.ofString "common" = Str.ofString "next") := by decide
  have h2 : ¬ (Str.ofString "paces" = Str.ofString "next") := by decide
  have h3 : ¬ (Str.ofString "steps" = Str.ofString "next") := by decide
  have h4 : ¬ (Str.ofString "base" = Str.ofString "next") := by decide
  simp [lookD, worldK, h1, h2, h3, h4]
section
local macro_rules | `(tactic| walk_at "kb") => `(tactic| first | exact kb_ii | exact kb_ib | exact kb_tt | exact kb_tl | exact kb_lt | exact kb_ll | exact kb_dd)
local macro_rules | `(tactic| walk_at "om") => `(tactic| first | omega | (simp only [List.length_map, List.length_cons, List.length_nil]; omega))
local macro_rules | `(tactic| walk_at "s") => `(tactic| first
  | ((with_reducible show Ev _ _ _ _ _); first
    | ((with_reducible show Ev _ _ (tVar _) _ _); refine ev_var rfl ?_)
    | (with_reducible refine ev_int ?_)
    | (with_reducible refine ev_bl ?_)
    | (with_reducible refine ev_str ?_)
    | (with_reducible refine ev_non ?_)
    | (with_reducible refine ev_ty ?_)
    | (with_reducible refine ev_fn ?_)
    | (with_reducible refine ev_op ?_)
    | (with_reducible refine ev_neg ?_)
    | (with_reducible refine ev_prop ?_)
    | (with_reducible refine ev_gi ?_)
    | (with_reducible refine ev_meth ?_)
    | ((with_reducible show Ev _ _ (tMake _ _ _ _ _) _ _); refine ev_make ?_)
    | ((with_reducible show Ev _ _ (tFld _ _ _) _ _); refine ev_fldA (by assumption) ?_)
    | (with_reducible refine ev_din ?_)
    | (with_reducible refine ev_dnin ?_)
    | (with_reducible refine ev_dget ?_)
    | (with_reducible refine ev_call ?_)
    | ((with_reducible show Ev _ _ (tCall (spF _ _) _ _ _) _ _); refine ev_ef (ef_callF ?_))
    | (with_reducible refine ev_cb ?_)
    | (with_reducible refine ev_andV ?_)
    | (with_reducible refine ev_orV ?_)
    | (with_reducible refine ev_notV ?_)
    | (with_reducible refine ev_if ?_)
    | (with_reducible refine ev_chain ?_)
    | (with_reducible refine ev_tup ?_)
    | (with_reducible refine ev_lst ?_))
  | ((with_reducible show Er _ _ _ _ _ _); first
    | (with_reducible refine er_b0 ?_)
    | (with_reducible refine er_i0 ?_)
    | ((with_reducible show Er _ _ (rIxT _) _ _ _); first | refine er_ixT ⟨_, _, rfl, rfl, ?_⟩ | refine er_ixT ⟨_, _, rfl, (by assumption), ?_⟩)
    | ((with_reducible show Er _ _ (rIxL _) _ _ _); first | refine er_ixL ⟨_, rfl, ?_⟩ | refine er_ixL ⟨_, (by assumption), ?_⟩)
    | ((with_reducible show Er _ _ (rI _ _) _ _ _); first | refine er_i (Or.inl ⟨by omega, by omega⟩) ?_ | refine er_i (Or.inr ⟨by omega, by omega⟩) ?_ | refine er_i ⟨by omega, by omega⟩ ?_ | refine er_i (by omega) ?_)
    | ((with_reducible show Er _ _ (fun _ _ _ _ => _) _ _ _); first | refine er_isN ?_ | refine er_notN ?_)
    | ((with_reducible show Er _ _ rEq _ _ _); refine er_eq ⟨_, rfl, ?_⟩)
    | ((with_reducible show Er _ _ rNe _ _ _); refine er_ne ⟨_, rfl, ?_⟩))
  | ((with_reducible show Ea _ _ _ _ _); first
    | ((with_reducible show Ea _ _ (tCons (tVar _) _) _ _); refine ea_pot rfl ?_)
    | (with_reducible refine ea_nil ?_)
    | (with_reducible refine ea_v ?_))
  | ((with_reducible show Es _ _ _ _ _); first
    | (with_reducible refine es_seq ?_)
    | (with_reducible refine es_next ?_)
    | (with_reducible refine es_if ?_)
    | (with_reducible refine es_ret ?_)
    | (with_reducible refine es_set ?_)
    | (with_reducible refine es_asg ?_)
    | ((with_reducible show Es _ _ (tPar _ _ (tCons tDNewK _)) _ _); refine es_parO (by first | (simp [startE]; done) | decide) (ef_dnew ?_))
    | (with_reducible refine es_par ?_)
    | (with_reducible refine es_drop ?_))
  | ((with_reducible show Et _ _ _ _ _); first
    | (with_reducible refine et_test ?_)
    | (with_reducible refine et_B ?_)
    | (with_reducible refine et_yes ?_)
    | (with_reducible refine et_and ?_)
    | (with_reducible refine et_or ?_)
    | (with_reducible refine et_not ?_)
    | (with_reducible refine et_ifT ?_))
  | ((with_reducible show Eb _ _ _ _ _); first
    | ((with_reducible show Eb _ _ (rIsi _) [_, Ag.v (Dm.ty _)] _); refine eb_isi rfl (by walk_at "kb") ?_)
    | ((with_reducible show Eb _ _ (rIsi _) [_, Ag.v (Dm.fn _)] _); refine eb_isiC (by assumption) ?_)
    | ((with_reducible show Eb _ _ (rIsiT _) _ _); refine eb_isi2 rfl (by walk_at "kb") (by walk_at "kb") ?_)
    | ((with_reducible show Eb _ _ _ [Ag.v (Dm.int _)] _); first | refine eb_abs ?_ | refine eb_int ?_)
    | ((with_reducible show Eb _ _ (rListOf _) _ _); refine eb_list ⟨_, (by first | rfl | assumption), ?_⟩)
    | ((with_reducible show Eb _ _ _ [Ag.v _] _); refine eb_len ⟨_, (by first | rfl | assumption), ?_⟩))
  | ((with_reducible show Eg _ _ _ _ _ _); first
    | (with_reducible refine eg_nm ?_)
    | ((with_reducible show Eg _ _ (gTup _ _ _) _ _ _); refine eg_tup ⟨_, rfl, rfl, ?_⟩))
  | ((with_reducible show Egs _ _ _ _ _ _); first
    | (with_reducible refine egs_cons ?_)
    | (with_reducible refine egs_nil ?_))
  | ((with_reducible show Ed _ _ _ _ _); first
    | ((with_reducible show Ed _ _ (tVar _) _ _); first | refine ed_own rfl ?_ | refine ed_ro rfl ?_ | refine ed_frz rfl ?_ | refine ed_v (ev_var rfl ⟨_, rfl, ?_⟩)))
  | ((with_reducible show ite _ _ _); first | refine br_y rfl ?_ | refine br_n rfl ?_ | refine br_y (decide_eq_true (by walk_at "om")) ?_ | refine br_n (decide_eq_false (by walk_at "om")) ?_)
  | (with_reducible refine br_nt (by walk_at "om") ?_)
  | (with_reducible refine br_nf (by walk_at "om") ?_)
  | assumption
  | exact rfl
  | exact congrArg Dm.bl (decide_eq_true (by walk_at "om"))
  | exact congrArg Dm.bl (decide_eq_false (by walk_at "om"))
  | (with_reducible refine kb_t (by walk_at "om") ?_)
  | refine ⟨[_], rfl, sl15 (Nat.le_of_ble_eq_true rfl), ?_⟩
  | refine ⟨[_, _], rfl, sl15 (Nat.le_of_ble_eq_true rfl), ?_⟩
  | refine ⟨[_, _, _], rfl, sl15 (Nat.le_of_ble_eq_true rfl), ?_⟩
  | refine ⟨[], rfl, Nat.zero_le _, ?_⟩
  | exact ⟨_, rfl⟩
  | exact ⟨_, _, rfl⟩
  | exact ⟨_, _, _, rfl⟩
  | exact ⟨_, _, _, _, rfl⟩
  | refine ⟨_, _, rfl, rfl, ?_⟩
  | refine ⟨_, rfl, ?_⟩
  | refine ⟨_, _, rfl, ?_⟩
  | refine ⟨_, _, _, rfl, ?_⟩
  | refine ⟨_, _, _, _, rfl, ?_⟩
  | refine ⟨_, rfl, (by assumption), ?_⟩
  | refine ⟨_, _, rfl, (by assumption), ?_⟩
  | refine ⟨⟨_, _, rfl⟩, ?_⟩
  | refine And.intro (by first | assumption | walk_at "om") ?_
  | refine And.intro rfl ?_
  | (simp only [List.length_map]; assumption)
  | omega)
local macro_rules | `(tactic| walk_at "nx") => `(tactic| (repeat first | assumption | exact rfl | refine noX_set ?_ rfl))
local macro_rules | `(tactic| walk_at "gs") => `(tactic| (repeat first | exact gset_nil | exact gset_name (by decide) | exact gmono_nil | exact gmono_name | refine gset_tup ?_ | refine gmono_tup ?_ | refine gset_cons ?_ ?_ ?_ ?_ | refine gmono_cons ?_ ?_))
variable {P : Program} {w : World} {K : PySem.W.Frag} {mg : Str → Option Value} {base : Heap}
def W__law_gap : Wf := fun as k => ∃ (W : Wd) (i j : Int), as = [.v (worldD W), .v (.int i), .v (.int j)] ∧ 0 ≤ i ∧ i < W.bs.length ∧ 0 ≤ j ∧ j < W.bs.length ∧ W.ss.length = W.bs.length ∧ k (.int (gi W.bs i + gi W.ss i - gi W.bs j))
theorem h__law_gap (T : Kt K mg) : Held P w K mg base 1 T.a__law_gap (spD K W__law_gap) := by
  obtain ⟨fd, F⟩ := T.f__law_gap
  have sc := sc__law_gap
  refine held_of F sc (spD_len fun as k h => ?_) (fun _ _ _ _ _ _ us hl => match us, hl with | [_, _, _], _ => rfl) fun cdv A outer s H E hr => ?_
  · obtain ⟨_, _, _, rfl, _⟩ := h; rfl
  have hu := hu_of hr
  have hF_ : Cls K T.C_Family ∧ NoAttr K T.C_Family "own_lots" := ⟨T.isF.cl, T.naF⟩
  have hM_ : Cls K T.C_Map ∧ NoAttr K T.C_Map "own_families" := ⟨T.isM.cl, T.naM⟩
  have iF_ := T.isF
  have iM_ := T.isM
  refine ⟨_, (pss_one (ps_ret (pe_op op_sub (pe_op op_add (pe_ix (ix_listK (K := K) rfl) (pe_dget hu (pv 0) pe_str (fun _ _ => rfl)) (pv 1) (fun _ _ => rfl)) (pe_ix (ix_listK (K := K) rfl) (pe_dget hu (pv 0) pe_str (fun _ _ => rfl)) (pv 1) (fun _ _ => rfl))) (pe_ix (ix_listK (K := K) rfl) (pe_dget hu (pv 0) pe_str (fun _ _ => rfl)) (pv 2) (fun _ _ => rfl))))),
    fun vs Q sp => body_ok (fun Z as k hw => ?_) sp⟩
  obtain ⟨W, i, j, rfl, h0, h1, h2, h3, h4, hk⟩ := hw
  have lb := look_base W
  have ls := look_steps W
  have a1 := gi_at (l := W.bs) h0 h1
  have a2 := gi_at (l := W.ss) h0 (by omega)
  have a3 := gi_at (l := W.bs) h2 h3
  try dsimp only [cxOf, Cx.nox]
  repeat walk_at "s"
def W__law_rows (F M : Addr) : Wf := fun as k => ∃ (fs : List (List Lot)), as = [.v (mapD F M fs)] ∧ fs.length ≤ 12 ∧ k (llD fs)
theorem h__law_rows (T : Kt K mg) : Held P w K mg base 2 T.a__law_rows (spD K (W__law_rows T.C_Family T.C_Map)) := by
  obtain ⟨fd, F⟩ := T.f__law_rows
  have sc := sc__law_rows
  refine held_of F sc (spD_len fun as k h => ?_) (fun _ _ _ _ _ _ us hl => match us, hl with | [_], _ => rfl) fun cdv A outer s H E hr => ?_
  · obtain ⟨_, rfl, _⟩ := h; rfl
  have hu := hu_of hr
  have hF_ : Cls K T.C_Family ∧ NoAttr K T.C_Family "own_lots" := ⟨T.isF.cl, T.naF⟩
  have hM_ : Cls K T.C_Map ∧ NoAttr K T.C_Map "own_families" := ⟨T.isM.cl, T.naM⟩
  have iF_ := T.isF
  have iM_ := T.isM
  have G_lots := held_mono (h_Family_lots (P := P) (w := w) (base := base) T) (show 1 ≤ 1 by decide)
  have G_families := held_mono (h_Map_families (P := P) (w := w) (base := base) T) (show 1 ≤ 1 by decide)
  refine ⟨_, (pss_one (ps_ret (pe_lc (own := [("_law_family", 1)]) (g := gName 1) (tt := tYes) rfl sc.nd (pi_listK (K := K) rfl (pe_mh (pv 0) T.isM.cl T.m_families G_families hr)) (blkOk_by (N := N__law_rows) (sc := defScope s__law_rows) (by decide +kernel)) (fun _ _ _ _ _ => (pg_name (i := 1) sc.nd rfl (by first | exact Or.inl rfl | exact Or.inr rfl))) (fun _ _ _ _ _ => pts_nil) (fun _ _ _ _ _ => (pe_mh (pv 1) T.isF.cl T.m_lots G_lots hr))))),
    fun vs Q sp => body_ok (fun Z as k hw => ?_) sp⟩
  obtain ⟨fs, rfl, h0, hk⟩ := hw
  try dsimp only [cxOf, Cx.nox]
  repeat walk_at "s"
  refine ev_ef (ef_mapX fs (famD T.C_Family) lotsD (by walk_at "gs") (by walk_at "gs") (ej (ei_list ?_)) (sln' h0) (fun Z' x hx => eg_nm ?_) hk)
  · repeat walk_at "s"
    refine And.intro (by decide) ?_
    repeat walk_at "s"
  · repeat walk_at "s"
    refine And.intro (by decide) ?_
    repeat walk_at "s"
def W__law_pick : Wf := fun as k => ∃ (ns : List Int), as = [.pot, .v (intsL ns)] ∧ 1 ≤ ns.length ∧ ns.length ≤ 1000 ∧ ∀ x ∈ ns, k (.int x)
theorem h__law_pick (T : Kt K mg) : Held P w K mg base 2 T.a__law_pick (spD K W__law_pick) := by
  obtain ⟨fd, F⟩ := T.f__law_pick
  have sc := sc__law_pick
  refine held_of F sc (spD_len fun as k h => ?_) (fun _ _ _ _ _ _ us hl => match us, hl with | [_, _], _ => rfl) fun cdv A outer s H E hr => ?_
  · obtain ⟨_, rfl, _⟩ := h; rfl
  have hu := hu_of hr
  have hF_ : Cls K T.C_Family ∧ NoAttr K T.C_Family "own_lots" := ⟨T.isF.cl, T.naF⟩
  have hM_ : Cls K T.C_Map ∧ NoAttr K T.C_Map "own_families" := ⟨T.isM.cl, T.naM⟩
  have iF_ := T.isF
  have iM_ := T.isM
  have G__law_draw := held_mono (h__law_draw (P := P) (w := w) (base := base) T) (show 1 ≤ 1 by decide)
  refine ⟨_, (pss_one (ps_ret (pe_ix (ix_listK (K := K) rfl) (pv 1) (pe_h G__law_draw hr rfl T.g__law_draw (pa_cons (pv 0) (pa_cons (pe_callB (call_lenK (K := K) rfl) (by rfl) T.n_len (by decide +kernel) (pa_cons (pv 1) pa_nil)) pa_nil))) (fun _ _ => rfl)))),
    fun vs Q sp => body_ok (fun Z as k hw => ?_) sp⟩
  obtain ⟨ns, rfl, h0, h1, hk⟩ := hw
  try dsimp only [cxOf, Cx.nox]
  repeat walk_at "s"
  refine fun r hr0 hr1 => ?_
  have hr2 : r < (ns.length : Nat) := by simpa using hr1
  have a1 := gi_at (l := ns) hr0 hr2
  have hm : gi ns r ∈ ns := by
    unfold gi
    rw [List.getD_eq_getElem?_getD, List.getElem?_eq_getElem (by omega)]
    exact List.getElem_mem _
  have := hk _ hm
  repeat walk_at "s"
def W__law_pace : Wf := fun as k => ∃ (n : Int), as = [.pot, .v (.int n)] ∧ 1 ≤ n ∧ n ≤ 1000 ∧ ∀ e : Int × Int, 1 ≤ e.2 → e.2 ≤ n → Int.gcd e.1 e.2 = 1 → -4 ≤ e.1 → e.1 ≤ 4 → k (enD e)
theorem h__law_pace (T : Kt K mg) : Held P w K mg base 2 T.a__law_pace (spD K W__law_pace) := by
  obtain ⟨fd, F⟩ := T.f__law_pace
  have sc := sc__law_pace
  refine held_of F sc (spD_len fun as k h => ?_) (fun _ _ _ _ _ _ us hl => match us, hl with | [_, _], _ => rfl) fun cdv A outer s H E hr => ?_
  · obtain ⟨_, rfl, _⟩ := h; rfl
  have hu := hu_of hr
  have hF_ : Cls K T.C_Family ∧ NoAttr K T.C_Family "own_lots" := ⟨T.isF.cl, T.naF⟩
  have hM_ : Cls K T.C_Map ∧ NoAttr K T.C_Map "own_families" := ⟨T.isM.cl, T.naM⟩
  have iF_ := T.isF
  have iM_ := T.isM
  have G__law_draw := held_mono (h__law_draw (P := P) (w := w) (base := base) T) (show 1 ≤ 1 by decide)
  have G__law_gcd := held_mono (h__law_gcd (P := P) (w := w) (base := base) T) (show 1 ≤ 1 by decide)
  refine ⟨_, (pss_cons (ps_par (i := 2) (j := 3) (by rfl) sc.nd rfl rfl (by decide) rfl rfl (pa_cons (pe_op op_add pe_int (pe_h G__law_draw hr rfl T.g__law_draw (pa_cons (pv 0) (pa_cons (pv 1) pa_nil)))) (pa_cons (pe_op op_sub (pe_h G__law_draw hr rfl T.g__law_draw (pa_cons (pv 0) (pa_cons pe_int pa_nil))) pe_int) pa_nil)) (by rfl))
      (pss_cons (ps_set (i := 4) sc.nd rfl (by first | exact Or.inl rfl | exact Or.inr rfl) (pe_h G__law_gcd hr rfl T.g__law_gcd (pa_cons (pv 2) (pa_cons (pe_callB call_abs (by rfl) T.n_abs (by decide +kernel) (pa_cons (pv 3) pa_nil)) pa_nil))))
      (pss_one (ps_ret (pe_tup (pa_cons (pe_op op_fdiv (pv 3) (pe_callTy call_int1 (by rfl) T.n_int (by decide +kernel) (pa_cons (pv 4) pa_nil))) (pa_cons (pe_op op_fdiv (pv 2) (pe_callTy call_int1 (by rfl) T.n_int (by decide +kernel) (pa_cons (pv 4) pa_nil))) pa_nil))))))),
    fun vs Q sp => body_ok (fun Z as k hw => ?_) sp⟩
  obtain ⟨n, rfl, h0, h1, hk⟩ := hw
  try dsimp only [cxOf, Cx.nox]
  repeat walk_at "s"
  refine fun r hr0 hr1 => ?_
  repeat walk_at "s"
  refine fun r2 hs0 hs1 => ?_
  repeat walk_at "s"
  rw [abs_nat]
  obtain ⟨q, hq⟩ : ∃ q : Nat, 1 + r = q := ⟨(1 + r).toNat, by omega⟩
  rw [hq]
  refine ⟨q, (r2 - 4).natAbs, rfl, ?_⟩
  obtain ⟨p, hp⟩ : ∃ p, p = r2 - 4 := ⟨_, rfl⟩
  rw [← hp]
  have hg : Nat.gcd q p.natAbs = Int.gcd p q := by
    rw [Nat.gcd_comm]; rfl
  rw [hg]
  have hg1 : 0 < Int.gcd p q := by
    rw [← hg]
    exact Nat.gcd_pos_of_pos_left _ (by omega)
  have hg2 : Int.gcd p q ≤ q := by
    rw [← hg]
    exact Nat.gcd_le_left _ (by omega)
  have hc := Int.gcd_ediv_gcd_ediv_gcd hg1
  have hd1 := Int.gcd_dvd_left p q
  have hd2 := Int.gcd_dvd_right p q
  obtain ⟨t, ht⟩ := hd1
  obtain ⟨u, hu2⟩ := hd2
  have hG : (0 : Int) < (Int.gcd p q : Nat) := by omega
  have e1 : p / (Int.gcd p q : Nat) = t := by
    conv => lhs; lhs; rw [ht]
    exact Int.mul_ediv_cancel_left _ (by omega)
  have e2 : (q : Int) / (Int.gcd p q : Nat) = u := by
    conv => lhs; lhs; rw [hu2]
    exact Int.mul_ediv_cancel_left _ (by omega)
  rw [e1, e2] at hc
  have hu1 : 1 ≤ u := by
    rcases Int.lt_or_le 0 u with z | z
    · omega
    · have := Int.mul_nonneg_of_nonpos_of_nonpos (a := -(Int.gcd p q : Nat)) (b := u) (by omega) z
      rw [Int.neg_mul, ← hu2] at this
      omega
  have hun : u ≤ q := by
    have : (1 : Int) * u ≤ (Int.gcd p q : Nat) * u := Int.mul_le_mul_of_nonneg_right (by omega) (by omega)
    rw [← hu2] at this
    omega
  have ht1 : -4 ≤ t ∧ t ≤ 4 := by
    rcases Int.lt_or_le t 0 with z | z
    · have : (1 : Int) * (-t) ≤ (Int.gcd p q : Nat) * (-t) := Int.mul_le_mul_of_nonneg_right (by omega) (by omega)
      rw [Int.mul_neg, Int.mul_neg, ← ht] at this
      omega
    · have : (1 : Int) * t ≤ (Int.gcd p q : Nat) * t := Int.mul_le_mul_of_nonneg_right (by omega) z
      rw [← ht] at this
      omega
  have := hk (t, u) hu1 (by omega) hc ht1.1 ht1.2
  repeat walk_at "s"
  rw [e1, e2]
  exact this
end
end Ln
/-! K17: the law's own rounds, papers. -/
namespace Ln
open PySem PySem.Spec PyProof.Rows L2
section
local macro_rules | `(tactic| walk_at "kb") => `(tactic| first | exact kb_ii | exact kb_ib | exact kb_tt | exact kb_tl | exact kb_lt | exact kb_ll | exact kb_dd)
local macro_rules | `(tactic| walk_at "om") => `(tactic| first | omega | (simp only [List.length_map, List.length_cons, List.length_nil]; omega))
local macro_rules | `(tactic| walk_at "s") => `(tactic| first
  | ((with_reducible show Ev _ _ _ _ _); first
    | ((with_reducible show Ev _ _ (tVar _) _ _); refine ev_var rfl ?_)
    | (with_reducible refine ev_int ?_)
    | (with_reducible refine ev_bl ?_)
    | (with_reducible refine ev_str ?_)
    | (with_reducible refine ev_non ?_)
    | (with_reducible refine ev_ty ?_)
    | (with_reducible refine ev_fn ?_)
    | (with_reducible refine ev_op ?_)
    | (with_reducible refine ev_neg ?_)
    | (with_reducible refine ev_prop ?_)
    | (with_reducible refine ev_gi ?_)
    | (with_reducible refine ev_meth ?_)
    | ((with_reducible show Ev _ _ (tMake _ _ _ _ _) _ _); refine ev_make ?_)
    | ((with_reducible show Ev _ _ (tFld _ _ _) _ _); refine ev_fldA (by assumption) ?_)
    | (with_reducible refine ev_din ?_)
    | (with_reducible refine ev_dnin ?_)
    | (with_reducible refine ev_dget ?_)
    | (with_reducible refine ev_call ?_)
    | ((with_reducible show Ev _ _ (tCall (spF _ _) _ _ _) _ _); refine ev_ef (ef_callF ?_))
    | (with_reducible refine ev_cb ?_)
    | (with_reducible refine ev_andV ?_)
    | (with_reducible refine ev_orV ?_)
    | (with_reducible refine ev_notV ?_)
    | (with_reducible refine ev_if ?_)
    | (with_reducible refine ev_chain ?_)
    | (with_reducible refine ev_tup ?_)
    | (with_reducible refine ev_lst ?_))
  | ((with_reducible show Er _ _ _ _ _ _); first
    | (with_reducible refine er_b0 ?_)
    | (with_reducible refine er_i0 ?_)
    | ((with_reducible show Er _ _ (rIxT _) _ _ _); first | refine er_ixT ⟨_, _, rfl, rfl, ?_⟩ | refine er_ixT ⟨_, _, rfl, (by assumption), ?_⟩)
    | ((with_reducible show Er _ _ (rIxL _) _ _ _); first | refine er_ixL ⟨_, rfl, ?_⟩ | refine er_ixL ⟨_, (by assumption), ?_⟩)
    | ((with_reducible show Er _ _ (rI _ _) _ _ _); first | refine er_i (Or.inl ⟨by omega, by omega⟩) ?_ | refine er_i (Or.inr ⟨by omega, by omega⟩) ?_ | refine er_i ⟨by omega, by omega⟩ ?_ | refine er_i (by omega) ?_)
    | ((with_reducible show Er _ _ (fun _ _ _ _ => _) _ _ _); first | refine er_isN ?_ | refine er_notN ?_)
    | ((with_reducible show Er _ _ rEq _ _ _); refine er_eq ⟨_, rfl, ?_⟩)
    | ((with_reducible show Er _ _ rNe _ _ _); refine er_ne ⟨_, rfl, ?_⟩))
  | ((with_reducible show Ea _ _ _ _ _); first
    | ((with_reducible show Ea _ _ (tCons (tVar _) _) _ _); refine ea_pot rfl ?_)
    | (with_reducible refine ea_nil ?_)
    | (with_reducible refine ea_v ?_))
  | ((with_reducible show Es _ _ _ _ _); first
    | (with_reducible refine es_seq ?_)
    | (with_reducible refine es_next ?_)
    | (with_reducible refine es_if ?_)
    | (with_reducible refine es_ret ?_)
    | (with_reducible refine es_set ?_)
    | (with_reducible refine es_asg ?_)
    | ((with_reducible show Es _ _ (tPar _ _ (tCons tDNewK _)) _ _); refine es_parO (by first | (simp [startE]; done) | decide) (ef_dnew ?_))
    | (with_reducible refine es_par ?_)
    | (with_reducible refine es_drop ?_))
  | ((with_reducible show Et _ _ _ _ _); first
    | (with_reducible refine et_test ?_)
    | (with_reducible refine et_B ?_)
    | (with_reducible refine et_yes ?_)
    | (with_reducible refine et_and ?_)
    | (with_reducible refine et_or ?_)
    | (with_reducible refine et_not ?_)
    | (with_reducible refine et_ifT ?_))
  | ((with_reducible show Eb _ _ _ _ _); first
    | ((with_reducible show Eb _ _ (rIsi _) [_, Ag.v (Dm.ty _)] _); refine eb_isi rfl (by walk_at "kb") ?_)
    | ((with_reducible show Eb _ _ (rIsi _) [_, Ag.v (Dm.fn _)] _); refine eb_isiC (by assumption) ?_)
    | ((with_reducible show Eb _ _ (rIsiT _) _ _); refine eb_isi2 rfl (by walk_at "kb") (by walk_at "kb") ?_)
    | ((with_reducible show Eb _ _ _ [Ag.v (Dm.int _)] _); first | refine eb_abs ?_ | refine eb_int ?_)
    | ((with_reducible show Eb _ _ (rListOf _) _ _); refine eb_list ⟨_, (by first | rfl | assumption), ?_⟩)
    | ((with_reducible show Eb _ _ _ [Ag.v _] _); refine eb_len ⟨_, (by first | rfl | assumption), ?_⟩))
  | ((with_reducible show Eg _ _ _ _ _ _); first
    | (with_reducible refine eg_nm ?_)
    | ((with_reducible show Eg _ _ (gTup _ _ _) _ _ _); refine eg_tup ⟨_, rfl, rfl, ?_⟩))
  | ((with_reducible show Egs _ _ _ _ _ _); first
    | (with_reducible refine egs_cons ?_)
    | (with_reducible refine egs_nil ?_))
  | ((with_reducible show Ed _ _ _ _ _); first
    | ((with_reducible show Ed _ _ (tVar _) _ _); first | refine ed_own rfl ?_ | refine ed_ro rfl ?_ | refine ed_frz rfl ?_ | refine ed_v (ev_var rfl ⟨_, rfl, ?_⟩)))
  | ((with_reducible show ite _ _ _); first | refine br_y rfl ?_ | refine br_n rfl ?_ | refine br_y (decide_eq_true (by walk_at "om")) ?_ | refine br_n (decide_eq_false (by walk_at "om")) ?_)
  | (with_reducible refine br_nt (by walk_at "om") ?_)
  | (with_reducible refine br_nf (by walk_at "om") ?_)
  | assumption
  | exact rfl
  | exact congrArg Dm.bl (decide_eq_true (by walk_at "om"))
  | exact congrArg Dm.bl (decide_eq_false (by walk_at "om"))
  | (with_reducible refine kb_t (by walk_at "om") ?_)
  | refine ⟨[_], rfl, sl15 (Nat.le_of_ble_eq_true rfl), ?_⟩
  | refine ⟨[_, _], rfl, sl15 (Nat.le_of_ble_eq_true rfl), ?_⟩
  | refine ⟨[_, _, _], rfl, sl15 (Nat.le_of_ble_eq_true rfl), ?_⟩
  | refine ⟨[], rfl, Nat.zero_le _, ?_⟩
  | exact ⟨_, rfl⟩
  | exact ⟨_, _, rfl⟩
  | exact ⟨_, _, _, rfl⟩
  | exact ⟨_, _, _, _, rfl⟩
  | refine ⟨_, _, rfl, rfl, ?_⟩
  | refine ⟨_, rfl, ?_⟩
  | refine ⟨_, _, rfl, ?_⟩
  | refine ⟨_, _, _, rfl, ?_⟩
  | refine ⟨_, _, _, _, rfl, ?_⟩
  | refine ⟨_, rfl, (by assumption), ?_⟩
  | refine ⟨_, _, rfl, (by assumption), ?_⟩
  | refine ⟨⟨_, _, rfl⟩, ?_⟩
  | refine And.intro (by first | assumption | walk_at "om") ?_
  | refine And.intro rfl ?_
  | (simp only [List.length_map]; assumption)
  | omega)
local macro_rules | `(tactic| walk_at "nx") => `(tactic| (repeat first | assumption | exact rfl | refine noX_set ?_ rfl))
local macro_rules | `(tactic| walk_at "gs") => `(tactic| (repeat first | exact gset_nil | exact gset_name (by decide) | exact gmono_nil | exact gmono_name | refine gset_tup ?_ | refine gmono_tup ?_ | refine gset_cons ?_ ?_ ?_ ?_ | refine gmono_cons ?_ ?_))
variable {P : Program} {w : World} {K : PySem.W.Frag} {mg : Str → Option Value} {base : Heap}
/-- the least of the greatest sums -/
def Told (cs : List Int) (ls : List Lot) (m : Int) : Prop := (∃ l ∈ ls, ∀ e ∈ l, gi cs e.1 + e.2 ≤ m) ∧ ∀ l ∈ ls, ∃ e ∈ l, m ≤ gi cs e.1 + e.2
def W__law_told : Wf := fun as k => ∃ (ls : List Lot) (cs : List Int), as = [.v (lotsD ls), .v (intsL cs), .v (.int 1)] ∧ 1 ≤ ls.length ∧ ls.length ≤ 200 ∧ LotsIn cs.length ls ∧ (∀ l ∈ ls, 1 ≤ l.length) ∧ ∀ m, Told cs ls m → k (.int m)
theorem al_max {cs : List Int} : ∀ {ls : List Lot} {ns : List Int}, Al (fun (l : Lot) m => (∀ e ∈ l, gi cs e.1 + e.2 ≤ m) ∧ ∃ e ∈ l, m ≤ gi cs e.1 + e.2) ls ns →
    (∀ m ∈ ns, ∃ l ∈ ls, ∀ e ∈ l, gi cs e.1 + e.2 ≤ m) ∧ ∀ l ∈ ls, ∃ m ∈ ns, ∃ e ∈ l, m ≤ gi cs e.1 + e.2
  | _, _, .nil => ⟨by simp, by simp⟩
  | _, _, .cons (x := l) (y := m) a b => by
    obtain ⟨h1, h2⟩ := al_max b
    refine ⟨fun m' hm => ?_, fun l' hl => ?_⟩
    · rcases List.mem_cons.mp hm with rfl | hm
      · exact ⟨l, List.mem_cons_self .., a.1⟩
      · obtain ⟨l2, h3, h4⟩ := h1 m' hm
        exact ⟨l2, List.mem_cons_of_mem _ h3, h4⟩
    · rcases List.mem_cons.mp hl with rfl | hl
      · exact ⟨m, List.mem_cons_self .., a.2⟩
      · obtain ⟨m2, h3, h4⟩ := h2 l' hl
        exact ⟨m2, List.mem_cons_of_mem _ h3, h4⟩
theorem h__law_told (T : Kt K mg) : Held P w K mg base 1 T.a__law_told (spD K W__law_told) := by
  obtain ⟨fd, F⟩ := T.f__law_told
  have sc := sc__law_told
  refine held_of F sc (spD_len fun as k h => ?_) (fun _ _ _ _ _ _ us hl => match us, hl with | [_, _, _], _ => rfl) fun cdv A outer s H E hr => ?_
  · obtain ⟨_, _, rfl, _⟩ := h; rfl
  have hu := hu_of hr
  have hF_ : Cls K T.C_Family ∧ NoAttr K T.C_Family "own_lots" := ⟨T.isF.cl, T.naF⟩
  have hM_ : Cls K T.C_Map ∧ NoAttr K T.C_Map "own_families" := ⟨T.isM.cl, T.naM⟩
  have iF_ := T.isF
  have iM_ := T.isM
  refine ⟨_, (pss_one (ps_ret (pe_callB (cr_minK (K := K) rfl) (by rfl) T.n_min (by decide +kernel) (pa_cons (pe_lc (own := [("_law_lot_here", 5)]) (g := gName 5) (tt := tYes) rfl sc.nd (pi_listK (K := K) rfl (pv 0)) (blkOk_by (N := N__law_told) (sc := defScope s__law_told) (by decide +kernel)) (fun _ _ _ _ _ => (pg_name (i := 5) sc.nd rfl (by first | exact Or.inl rfl | exact Or.inr rfl))) (fun _ _ _ _ _ => pts_nil) (fun _ _ _ _ _ => (pe_callB (cr_maxK (K := K) rfl) (by rfl) T.n_max (by decide +kernel) (pa_cons (pe_lc (own := [("_law_lane", 3), ("_law_number", 4)]) (g := gTup K 2 (gCons (gName 3) (gCons (gName 4) (gNil)))) (tt := tYes) rfl sc.nd (pi_tupK (K := K) rfl (pv 5)) (blkOk_by (N := N__law_told) (sc := ⟨.function, [(".0", .local), ("_law_lot_here", .local), ("max", .globalImplicit), ("_law_content", .cell), ("_law_times", .cell)], false, false, []⟩) (by decide +kernel)) (fun _ _ _ _ _ => (pg_tupK (K := K) (n := 2) rfl rfl (pgs_cons (pg_name (i := 3) sc.nd rfl (by first | exact Or.inl rfl | exact Or.inr rfl)) (pgs_cons (pg_name (i := 4) sc.nd rfl (by first | exact Or.inl rfl | exact Or.inr rfl)) pgs_nil)))) (fun _ _ _ _ _ => pts_nil) (fun _ _ _ _ _ => (pe_op op_add (pe_ix (ix_listK (K := K) rfl) (pv 1) (pv 3) (fun _ _ => rfl)) (pe_op op_mul (pv 2) (pv 4))))) pa_nil)))) pa_nil)))),
    fun vs Q sp => body_ok (fun Z as k hw => ?_) sp⟩
  obtain ⟨ls, cs, rfl, h0, h1, h2, h3, hk⟩ := hw
  try dsimp only [cxOf, Cx.nox]
  repeat walk_at "s"
  refine ev_ef (ef_eachX ls lotD (fun l y => ∃ m : Int, y = .int m ∧ ((∀ e ∈ l, gi cs e.1 + e.2 ≤ m) ∧ ∃ e ∈ l, m ≤ gi cs e.1 + e.2)) (by walk_at "gs") (by walk_at "gs") (ej (ei_list (ev_var rfl ⟨_, rfl, rfl⟩))) (sln' h1) (fun Z' l hl => eg_nm ?_) (fun ys hy => ?_))
  · obtain ⟨l1, l2⟩ := h2 l hl
    repeat walk_at "s"
    refine ev_ef (ef_mapX l enD (fun e => .int (gi cs e.1 + 1 * e.2)) (by walk_at "gs") (by walk_at "gs") (ej (ei_tup (ev_var rfl ⟨_, rfl, rfl⟩))) (sln' l1) (fun Z2 e he => ?_) (ea_nil ?_))
    · obtain ⟨e0, e1⟩ := l2 e he
      have a1 := gi_at (l := cs) e0 e1
      repeat walk_at "s"
    · have em : l.map (fun e => Dm.int (gi cs e.1 + 1 * e.2)) = (l.map fun e => gi cs e.1 + e.2).map Dm.int := by rw [List.map_map]; simp [Function.comp_def]
      rw [em]
      refine eb_max (by rw [List.length_map]; exact h3 l hl) fun m hm1 hm2 => ⟨m, rfl, fun e he => hm2 _ (List.mem_map_of_mem (f := fun e : Int × Int => gi cs e.1 + e.2) he), ?_⟩
      obtain ⟨e, he, rfl⟩ := List.mem_map.mp hm1
      exact ⟨e, he, Int.le_refl _⟩
  · obtain ⟨ns, rfl, hn⟩ := hy.split (f := Dm.int) (S := fun (l : Lot) m => (∀ e ∈ l, gi cs e.1 + e.2 ≤ m) ∧ ∃ e ∈ l, m ≤ gi cs e.1 + e.2) fun x y ⟨m, e, h⟩ => ⟨m, e, h⟩
    obtain ⟨q1, q2⟩ := al_max hn
    refine ea_nil (eb_min (by rw [← hn.length]; exact h0) fun m hm1 hm2 => hk m ⟨q1 m hm1, fun l hl => ?_⟩)
    obtain ⟨m2, hm3, e, he, hle⟩ := q2 l hl
    exact ⟨e, he, Int.le_trans (hm2 m2 hm3) hle⟩
def RowsOk (n : Nat) (fs : List (List Lot)) : Prop := ∀ ls ∈ fs, 1 ≤ ls.length ∧ ls.length ≤ 200 ∧ LotsIn n ls ∧ ∀ l ∈ ls, 1 ≤ l.length
def W__law_round : Wf := fun as k => ∃ (fs : List (List Lot)) (cs : List Int), as = [.v (llD fs), .v (intsL cs), .v (.int 1)] ∧ fs.length ≤ 12 ∧ RowsOk cs.length fs ∧ ∀ ms : List Int, Al (Told cs) fs ms → k (intsL ms)
theorem h__law_round (T : Kt K mg) : Held P w K mg base 2 T.a__law_round (spD K W__law_round) := by
  obtain ⟨fd, F⟩ := T.f__law_round
  have sc := sc__law_round
  refine held_of F sc (spD_len fun as k h => ?_) (fun _ _ _ _ _ _ us hl => match us, hl with | [_, _, _], _ => rfl) fun cdv A outer s H E hr => ?_
  · obtain ⟨_, _, rfl, _⟩ := h; rfl
  have hu := hu_of hr
  have hF_ : Cls K T.C_Family ∧ NoAttr K T.C_Family "own_lots" := ⟨T.isF.cl, T.naF⟩
  have hM_ : Cls K T.C_Map ∧ NoAttr K T.C_Map "own_families" := ⟨T.isM.cl, T.naM⟩
  have iF_ := T.isF
  have iM_ := T.isM
  have G__law_told := held_mono (h__law_told (P := P) (w := w) (base := base) T) (show 1 ≤ 1 by decide)
  refine ⟨_, (pss_one (ps_ret (pe_lc (own := [("_law_lots_here", 3)]) (g := gName 3) (tt := tYes) rfl sc.nd (pi_listK (K := K) rfl (pv 0)) (blkOk_by (N := N__law_round) (sc := defScope s__law_round) (by decide +kernel)) (fun _ _ _ _ _ => (pg_name (i := 3) sc.nd rfl (by first | exact Or.inl rfl | exact Or.inr rfl))) (fun _ _ _ _ _ => pts_nil) (fun _ _ _ _ _ => (pe_h G__law_told hr rfl T.g__law_told (pa_cons (pv 3) (pa_cons (pv 1) (pa_cons (pv 2) pa_nil)))))))),
    fun vs Q sp => body_ok (fun Z as k hw => ?_) sp⟩
  obtain ⟨fs, cs, rfl, h0, h1, hk⟩ := hw
  try dsimp only [cxOf, Cx.nox]
  repeat walk_at "s"
  refine ev_ef (ef_eachX fs lotsD (fun l y => ∃ m : Int, y = .int m ∧ Told cs l m) (by walk_at "gs") (by walk_at "gs") (ej (ei_list (ev_var rfl ⟨_, rfl, rfl⟩))) (sln' h0) (fun Z' l hl => eg_nm ?_) (fun ys hy => ?_))
  · obtain ⟨l1, l2, l3, l4⟩ := h1 l hl
    repeat walk_at "s"
    exact fun m hm => ⟨m, rfl, hm⟩
  · obtain ⟨ns, rfl, hn⟩ := hy.split (f := Dm.int) (S := Told cs) fun x y ⟨m, e, h⟩ => ⟨m, e, h⟩
    exact hk ns hn
end
end Ln
/-! K18: the law's own holds and picks. -/
namespace Ln
open PySem PySem.Spec PyProof.Rows L2
/-- the world's numbers go together -/
structure Wn0 (W : Wd) (n : Nat) : Prop where
  ls : W.ss.length = n
  lb : W.bs.length = n
  n2 : n ≤ 12
  c1 : 1 ≤ W.c
  c2 : W.c ≤ 1000
section
local macro_rules | `(tactic| walk_at "kb") => `(tactic| first | exact kb_ii | exact kb_ib | exact kb_tt | exact kb_tl | exact kb_lt | exact kb_ll | exact kb_dd)
local macro_rules | `(tactic| walk_at "om") => `(tactic| first | omega | (simp only [List.length_map, List.length_cons, List.length_nil]; omega))
local macro_rules | `(tactic| walk_at "s") => `(tactic| first
  | ((with_reducible show Ev _ _ _ _ _); first
    | ((with_reducible show Ev _ _ (tVar _) _ _); refine ev_var rfl ?_)
    | (with_reducible refine ev_int ?_)
    | (with_reducible refine ev_bl ?_)
    | (with_reducible refine ev_str ?_)
    | (with_reducible refine ev_non ?_)
    | (with_reducible refine ev_ty ?_)
    | (with_reducible refine ev_fn ?_)
    | (with_reducible refine ev_op ?_)
    | (with_reducible refine ev_neg ?_)
    | (with_reducible refine ev_prop ?_)
    | (with_reducible refine ev_gi ?_)
    | (with_reducible refine ev_meth ?_)
    | ((with_reducible show Ev _ _ (tMake _ _ _ _ _) _ _); refine ev_make ?_)
    | ((with_reducible show Ev _ _ (tFld _ _ _) _ _); refine ev_fldA (by assumption) ?_)
    | (with_reducible refine ev_din ?_)
    | (with_reducible refine ev_dnin ?_)
    | (with_reducible refine ev_dget ?_)
    | (with_reducible refine ev_call ?_)
    | ((with_reducible show Ev _ _ (tCall (spF _ _) _ _ _) _ _); refine ev_ef (ef_callF ?_))
    | (with_reducible refine ev_cb ?_)
    | (with_reducible refine ev_andV ?_)
    | (with_reducible refine ev_orV ?_)
    | (with_reducible refine ev_notV ?_)
    | (with_reducible refine ev_if ?_)
    | (with_reducible refine ev_chain ?_)
    | (with_reducible refine ev_tup ?_)
    | (with_reducible refine ev_lst ?_))
  | ((with_reducible show Er _ _ _ _ _ _); first
    | (with_reducible refine er_b0 ?_)
    | (with_reducible refine er_i0 ?_)
    | ((with_reducible show Er _ _ (rIxT _) _ _ _); first | refine er_ixT ⟨_, _, rfl, rfl, ?_⟩ | refine er_ixT ⟨_, _, rfl, (by assumption), ?_⟩)
    | ((with_reducible show Er _ _ (rIxL _) _ _ _); first | refine er_ixL ⟨_, rfl, ?_⟩ | refine er_ixL ⟨_, (by assumption), ?_⟩)
    | ((with_reducible show Er _ _ (rI _ _) _ _ _); first | refine er_i (Or.inl ⟨by omega, by omega⟩) ?_ | refine er_i (Or.inr ⟨by omega, by omega⟩) ?_ | refine er_i ⟨by omega, by omega⟩ ?_ | refine er_i (by omega) ?_)
    | ((with_reducible show Er _ _ (fun _ _ _ _ => _) _ _ _); first | refine er_isN ?_ | refine er_notN ?_)
    | ((with_reducible show Er _ _ rEq _ _ _); refine er_eq ⟨_, rfl, ?_⟩)
    | ((with_reducible show Er _ _ rNe _ _ _); refine er_ne ⟨_, rfl, ?_⟩))
  | ((with_reducible show Ea _ _ _ _ _); first
    | ((with_reducible show Ea _ _ (tCons (tVar _) _) _ _); refine ea_pot rfl ?_)
    | (with_reducible refine ea_nil ?_)
    | (with_reducible refine ea_v ?_))
  | ((with_reducible show Es _ _ _ _ _); first
    | (with_reducible refine es_seq ?_)
    | (with_reducible refine es_next ?_)
    | (with_reducible refine es_if ?_)
    | (with_reducible refine es_ret ?_)
    | (with_reducible refine es_set ?_)
    | (with_reducible refine es_asg ?_)
    | ((with_reducible show Es _ _ (tPar _ _ (tCons tDNewK _)) _ _); refine es_parO (by first | (simp [startE]; done) | decide) (ef_dnew ?_))
    | (with_reducible refine es_par ?_)
    | (with_reducible refine es_drop ?_))
  | ((with_reducible show Et _ _ _ _ _); first
    | (with_reducible refine et_test ?_)
    | (with_reducible refine et_B ?_)
    | (with_reducible refine et_yes ?_)
    | (with_reducible refine et_and ?_)
    | (with_reducible refine et_or ?_)
    | (with_reducible refine et_not ?_)
    | (with_reducible refine et_ifT ?_))
  | ((with_reducible show Eb _ _ _ _ _); first
    | ((with_reducible show Eb _ _ (rIsi _) [_, Ag.v (Dm.ty _)] _); refine eb_isi rfl (by walk_at "kb") ?_)
    | ((with_reducible show Eb _ _ (rIsi _) [_, Ag.v (Dm.fn _)] _); refine eb_isiC (by assumption) ?_)
    | ((with_reducible show Eb _ _ (rIsiT _) _ _); refine eb_isi2 rfl (by walk_at "kb") (by walk_at "kb") ?_)
    | ((with_reducible show Eb _ _ _ [Ag.v (Dm.int _)] _); first | refine eb_abs ?_ | refine eb_int ?_)
    | ((with_reducible show Eb _ _ (rListOf _) _ _); refine eb_list ⟨_, (by first | rfl | assumption), ?_⟩)
    | ((with_reducible show Eb _ _ _ [Ag.v _] _); refine eb_len ⟨_, (by first | rfl | assumption), ?_⟩))
  | ((with_reducible show Eg _ _ _ _ _ _); first
    | (with_reducible refine eg_nm ?_)
    | ((with_reducible show Eg _ _ (gTup _ _ _) _ _ _); refine eg_tup ⟨_, rfl, rfl, ?_⟩))
  | ((with_reducible show Egs _ _ _ _ _ _); first
    | (with_reducible refine egs_cons ?_)
    | (with_reducible refine egs_nil ?_))
  | ((with_reducible show Ed _ _ _ _ _); first
    | ((with_reducible show Ed _ _ (tVar _) _ _); first | refine ed_own rfl ?_ | refine ed_ro rfl ?_ | refine ed_frz rfl ?_ | refine ed_v (ev_var rfl ⟨_, rfl, ?_⟩)))
  | ((with_reducible show ite _ _ _); first | refine br_y rfl ?_ | refine br_n rfl ?_ | refine br_y (decide_eq_true (by walk_at "om")) ?_ | refine br_n (decide_eq_false (by walk_at "om")) ?_)
  | (with_reducible refine br_nt (by walk_at "om") ?_)
  | (with_reducible refine br_nf (by walk_at "om") ?_)
  | assumption
  | exact rfl
  | exact congrArg Dm.bl (decide_eq_true (by walk_at "om"))
  | exact congrArg Dm.bl (decide_eq_false (by walk_at "om"))
  | (with_reducible refine kb_t (by walk_at "om") ?_)
  | refine ⟨[_], rfl, sl15 (Nat.le_of_ble_eq_true rfl), ?_⟩
  | refine ⟨[_, _], rfl, sl15 (Nat.le_of_ble_eq_true rfl), ?_⟩
  | refine ⟨[_, _, _], rfl, sl15 (Nat.le_of_ble_eq_true rfl), ?_⟩
  | refine ⟨[], rfl, Nat.zero_le _, ?_⟩
  | exact ⟨_, rfl⟩
  | exact ⟨_, _, rfl⟩
  | exact ⟨_, _, _, rfl⟩
  | exact ⟨_, _, _, _, rfl⟩
  | refine ⟨_, _, rfl, rfl, ?_⟩
  | refine ⟨_, rfl, ?_⟩
  | refine ⟨_, _, rfl, ?_⟩
  | refine ⟨_, _, _, rfl, ?_⟩
  | refine ⟨_, _, _, _, rfl, ?_⟩
  | refine ⟨_, rfl, (by assumption), ?_⟩
  | refine ⟨_, _, rfl, (by assumption), ?_⟩
  | refine ⟨⟨_, _, rfl⟩, ?_⟩
  | refine And.intro (by first | assumption | walk_at "om") ?_
  | refine And.intro rfl ?_
  | (simp only [List.length_map]; assumption)
  | omega)
local macro_rules | `(tactic| walk_at "nx") => `(tactic| (repeat first | assumption | exact rfl | refine noX_set ?_ rfl))
local macro_rules | `(tactic| walk_at "gs") => `(tactic| (repeat first | exact gset_nil | exact gset_name (by decide) | exact gmono_nil | exact gmono_name | refine gset_tup ?_ | refine gmono_tup ?_ | refine gset_cons ?_ ?_ ?_ ?_ | refine gmono_cons ?_ ?_))
variable {P : Program} {w : World} {K : PySem.W.Frag} {mg : Str → Option Value} {base : Heap}
def W__law_hold : Wf := fun as k => ∃ (ls : List Lot) (i : Int) (W : Wd) (n : Nat), as = [.v (lotsD ls), .v (.int i), .v (worldD W)] ∧ Wn0 W n ∧ LotsIn n ls ∧ 0 ≤ i ∧ i < n ∧ ls.length ≤ 200 ∧ ∃ l, ls.find? (heldL W.c W.ss W.bs i) = some l ∧ k (lotD l)
theorem h__law_hold (T : Kt K mg) : Held P w K mg base 1 T.a__law_hold (spD K W__law_hold) := by
  obtain ⟨fd, F⟩ := T.f__law_hold
  have sc := sc__law_hold
  refine held_of F sc (spD_len fun as k h => ?_) (fun _ _ _ _ _ _ us hl => match us, hl with | [_, _, _], _ => rfl) fun cdv A outer s H E hr => ?_
  · obtain ⟨_, _, _, _, rfl, _⟩ := h; rfl
  have hu := hu_of hr
  have hF_ : Cls K T.C_Family ∧ NoAttr K T.C_Family "own_lots" := ⟨T.isF.cl, T.naF⟩
  have hM_ : Cls K T.C_Map ∧ NoAttr K T.C_Map "own_families" := ⟨T.isM.cl, T.naM⟩
  have iF_ := T.isF
  have iM_ := T.isM
  refine ⟨_, (pss_cons (ps_asg (pe_tup (pa_cons (pe_dget hu (pv 2) pe_str (fun _ _ => rfl)) (pa_cons (pe_dget hu (pv 2) pe_str (fun _ _ => rfl)) (pa_cons (pe_dget hu (pv 2) pe_str (fun _ _ => rfl)) pa_nil)))) (pg_tupK (K := K) (n := 3) rfl rfl (pgs_cons (pg_name (i := 3) sc.nd rfl (by first | exact Or.inl rfl | exact Or.inr rfl)) (pgs_cons (pg_name (i := 4) sc.nd rfl (by first | exact Or.inl rfl | exact Or.inr rfl)) (pgs_cons (pg_name (i := 5) sc.nd rfl (by first | exact Or.inl rfl | exact Or.inr rfl)) pgs_nil)))))
      (pss_cons (ps_for PassesOwn.never rfl (pi_listK (K := K) rfl (pv 0)) (pg_name (i := 6) sc.nd rfl (by first | exact Or.inl rfl | exact Or.inr rfl)) (pss_one (ps_if (pt_val (pe_callB (cr_allK (K := K) rfl) (by rfl) T.n_all (by decide +kernel) (pa_cons (pe_lc (own := [("_law_j", 7), ("_law_a", 8)]) (g := gTup K 2 (gCons (gName 7) (gCons (gName 8) (gNil)))) (tt := tYes) rfl sc.nd (pi_tupK (K := K) rfl (pv 6)) (blkOk_by (N := N__law_hold) (sc := defScope s__law_hold) (by decide +kernel)) (fun _ _ _ _ _ => (pg_tupK (K := K) (n := 2) rfl rfl (pgs_cons (pg_name (i := 7) sc.nd rfl (by first | exact Or.inl rfl | exact Or.inr rfl)) (pgs_cons (pg_name (i := 8) sc.nd rfl (by first | exact Or.inl rfl | exact Or.inr rfl)) pgs_nil)))) (fun _ _ _ _ _ => pts_nil) (fun _ _ _ _ _ => (pe_and (pe_cmpR op_le (pe_ix (ix_listK (K := K) rfl) (pv 3) (pv 7) (fun _ _ => rfl)) (pe_ix (ix_listK (K := K) rfl) (pv 3) (pv 1) (fun _ _ => rfl)) (nomark _)) (pe_one (pe_cmpR op_le (pe_op op_add (pe_ix (ix_listK (K := K) rfl) (pv 4) (pv 7) (fun _ _ => rfl)) (pe_op op_mul (pv 5) (pv 8))) (pe_op op_add (pe_ix (ix_listK (K := K) rfl) (pv 4) (pv 1) (fun _ _ => rfl)) (pe_ix (ix_listK (K := K) rfl) (pv 3) (pv 1) (fun _ _ => rfl))) (nomark _)))))) pa_nil))) (pss_one (ps_ret (pv 6))) pss_nil)))
      (pss_one (ps_ret pe_non)))),
    fun vs Q sp => body_ok (fun Z as k hw => ?_) sp⟩
  obtain ⟨ls, i, W, n, rfl, hW, hl, h0, h1, h2, r, hr, hk⟩ := hw
  have w1 := hW.ls
  have w2 := hW.lb
  have w4 := hW.c1
  have w5 := hW.c2
  have lc := look_common W
  have lb := look_base W
  have lss := look_steps W
  have a2 := gi_at (l := W.ss) h0 (by omega)
  have a4 := gi_at (l := W.bs) h0 (by omega)
  try dsimp only [cxOf, Cx.nox]
  repeat walk_at "s"
  refine (es_forA ls lotD (fun j e => ∃ o6 o7 o8, e = [some (.v (lotsD ls)), some (.v (.int i)), some (.v (worldD W)), some (.v (intsL W.ss)), some (.v (intsL W.bs)), some (.v (.int W.c)), o6, o7, o8] ∧ ∀ l ∈ ls.take j, heldL W.c W.ss W.bs i l = false) (ei_list (ev_var rfl ⟨_, rfl, rfl⟩)) ⟨_, _, _, rfl, by simp⟩ (fun j l e hj hI => ?_) (fun e hI => ?_))
  · obtain ⟨o6, o7, o8, rfl, h3⟩ := hI
    have tk : ls.take (j + 1) = ls.take j ++ [l] := by rw [List.take_succ, hj]; rfl
    obtain ⟨hl1, hl2⟩ := hl l (List.mem_of_getElem? hj)
    refine eg_nm (es_if (et_B (ev_cb (ea_v (ev_ef (ef_mapX l enD (fun e => .bl (heldE W.c W.ss W.bs i e)) (by walk_at "gs") (by walk_at "gs") (ej (ei_tup (ev_var rfl ⟨_, rfl, rfl⟩))) (sln' hl1) (fun Z' x hx => ?_) (ea_nil (eb_allB ⟨_, rfl, ?_⟩))))))))
    · obtain ⟨hx0, hx1⟩ := hl2 x hx
      have a1 := gi_at (l := W.ss) hx0 (by omega)
      have a3 := gi_at (l := W.bs) hx0 (by omega)
      unfold heldE
      repeat walk_at "s"
      refine br_d (fun hc => ?_) (fun hc => ?_)
      · repeat walk_at "s"
        rw [decide_eq_true hc]; rfl
      · rw [decide_eq_false hc]; rfl
    · show if heldL W.c W.ss W.bs i l = true then _ else _
      cases hh : heldL W.c W.ss W.bs i l with
      | true =>
        refine br_y rfl ?_
        have := find_at hj h3 hh
        rw [hr] at this
        cases this
        repeat walk_at "s"
      | false =>
        refine br_n rfl ?_
        repeat walk_at "s"
        intro l' hl'
        rw [tk] at hl'
        rcases List.mem_append.mp hl' with hl' | hl'
        · exact h3 l' hl'
        · rw [List.mem_singleton.mp hl']; exact hh
  · obtain ⟨o6, o7, o8, rfl, h3⟩ := hI
    rw [List.take_length] at h3
    have := h3 r (List.mem_of_find?_eq_some hr)
    rw [List.find?_some hr] at this
    cases this
theorem pick_find {c : Int} {ss bs : List Int} {i : Int} {l : Lot} {e : Int × Int} (h : l.find? (pickedE c ss bs i) = some e) : pickL c ss bs i l = e.1 := by
  unfold pickL
  induction l with
  | nil => cases h
  | cons a l ih =>
    by_cases hp : pickedE c ss bs i a = true
    · rw [List.find?_cons_of_pos hp] at h
      cases h
      simp [hp]
    · rw [List.find?_cons_of_neg hp] at h
      have := ih h
      simp [hp] at this ⊢
      exact this
def W__law_pick_of : Wf := fun as k => ∃ (l : Lot) (i : Int) (W : Wd) (n : Nat), as = [.v (lotD l), .v (.int i), .v (worldD W)] ∧ Wn0 W n ∧ (∀ e ∈ l, 0 ≤ e.1 ∧ e.1 < n) ∧ 0 ≤ i ∧ i < n ∧ (∃ e ∈ l, pickedE W.c W.ss W.bs i e = true) ∧ k (.int (pickL W.c W.ss W.bs i l))
theorem h__law_pick_of (T : Kt K mg) : Held P w K mg base 1 T.a__law_pick_of (spD K W__law_pick_of) := by
  obtain ⟨fd, F⟩ := T.f__law_pick_of
  have sc := sc__law_pick_of
  refine held_of F sc (spD_len fun as k h => ?_) (fun _ _ _ _ _ _ us hl => match us, hl with | [_, _, _], _ => rfl) fun cdv A outer s H E hr => ?_
  · obtain ⟨_, _, _, _, rfl, _⟩ := h; rfl
  have hu := hu_of hr
  have hF_ : Cls K T.C_Family ∧ NoAttr K T.C_Family "own_lots" := ⟨T.isF.cl, T.naF⟩
  have hM_ : Cls K T.C_Map ∧ NoAttr K T.C_Map "own_families" := ⟨T.isM.cl, T.naM⟩
  have iF_ := T.isF
  have iM_ := T.isM
  refine ⟨_, (pss_cons (ps_par3 (i := 3) (j := 4) (l := 5) (by rfl) sc.nd rfl rfl rfl (by decide) (by decide) (by decide) rfl rfl rfl (pa_cons (pe_dget hu (pv 2) pe_str (fun _ _ => rfl)) (pa_cons (pe_dget hu (pv 2) pe_str (fun _ _ => rfl)) (pa_cons (pe_dget hu (pv 2) pe_str (fun _ _ => rfl)) pa_nil))) (by rfl))
      (pss_cons (ps_for PassesOwn.never rfl (pi_tupK (K := K) rfl (pv 0)) (pg_tupK (K := K) (n := 2) rfl rfl (pgs_cons (pg_name (i := 6) sc.nd rfl (by first | exact Or.inl rfl | exact Or.inr rfl)) (pgs_cons (pg_name (i := 7) sc.nd rfl (by first | exact Or.inl rfl | exact Or.inr rfl)) pgs_nil))) (pss_one (ps_if (PW.pt (pw_and (pt_cmpR op_ge (pe_ix (ix_listK (K := K) rfl) (pv 3) (pv 6) (fun _ _ => rfl)) (pe_ix (ix_listK (K := K) rfl) (pv 3) (pv 1) (fun _ _ => rfl)) (nomark _)) (pw_and1 (pt_cmpR op_ge (pe_op op_add (pe_ix (ix_listK (K := K) rfl) (pv 4) (pv 6) (fun _ _ => rfl)) (pe_op op_mul (pv 5) (pv 7))) (pe_op op_add (pe_ix (ix_listK (K := K) rfl) (pv 4) (pv 1) (fun _ _ => rfl)) (pe_ix (ix_listK (K := K) rfl) (pv 3) (pv 1) (fun _ _ => rfl))) (nomark _))))) (pss_one (ps_ret (pv 6))) pss_nil)))
      (pss_one (ps_ret pe_non)))),
    fun vs Q sp => body_ok (fun Z as k hw => ?_) sp⟩
  obtain ⟨l, i, W, n, rfl, hW, hl, h0, h1, hp, hk⟩ := hw
  have w1 := hW.ls
  have w2 := hW.lb
  have w4 := hW.c1
  have w5 := hW.c2
  have lc := look_common W
  have lb := look_base W
  have lss := look_steps W
  have a2 := gi_at (l := W.ss) h0 (by omega)
  have a4 := gi_at (l := W.bs) h0 (by omega)
  try dsimp only [cxOf, Cx.nox]
  repeat walk_at "s"
  refine es_par3 ?_
  repeat walk_at "s"
  refine (es_forA l enD (fun j e => ∃ o6 o7, e = [some (.v (lotD l)), some (.v (.int i)), some (.v (worldD W)), some (.v (intsL W.ss)), some (.v (intsL W.bs)), some (.v (.int W.c)), o6, o7] ∧ ∀ x ∈ l.take j, pickedE W.c W.ss W.bs i x = false) (ei_tup (ev_var rfl ⟨_, rfl, rfl⟩)) ⟨_, _, rfl, by simp⟩ (fun j x e hj hI => ?_) (fun e hI => ?_))
  · obtain ⟨o6, o7, rfl, h3⟩ := hI
    have tk : l.take (j + 1) = l.take j ++ [x] := by rw [List.take_succ, hj]; rfl
    obtain ⟨hx0, hx1⟩ := hl x (List.mem_of_getElem? hj)
    have a1 := gi_at (l := W.ss) hx0 (by omega)
    have a3 := gi_at (l := W.bs) hx0 (by omega)
    have go : pickedE W.c W.ss W.bs i x = false → ∀ y ∈ l.take (j + 1), pickedE W.c W.ss W.bs i y = false := fun hh y hy => by
      rw [tk] at hy
      rcases List.mem_append.mp hy with hy | hy
      · exact h3 y hy
      · rw [List.mem_singleton.mp hy]; exact hh
    refine eg_tup ⟨_, rfl, rfl, egs_cons (eg_nm (egs_cons (eg_nm (egs_nil ?_))))⟩
    repeat walk_at "s"
    refine br_d (fun hc => ?_) (fun hc => ?_)
    · repeat walk_at "s"
      refine br_d (fun hd => ?_) (fun hd => ?_)
      · have hh : pickedE W.c W.ss W.bs i x = true := by unfold pickedE; rw [decide_eq_true hc, decide_eq_true hd]; rfl
        rw [pick_find (find_at hj h3 hh)] at hk
        repeat walk_at "s"
      · have hh : pickedE W.c W.ss W.bs i x = false := by unfold pickedE; rw [decide_eq_true hc, decide_eq_false hd]; rfl
        have := go hh
        repeat walk_at "s"
    · have hh : pickedE W.c W.ss W.bs i x = false := by unfold pickedE; rw [decide_eq_false hc]; rfl
      have := go hh
      repeat walk_at "s"
  · obtain ⟨o6, o7, rfl, h3⟩ := hI
    rw [List.take_length] at h3
    obtain ⟨e, he, hpe⟩ := hp
    rw [h3 e he] at hpe
    cases hpe
end
end Ln
/-! K19: the law's own lots. -/
namespace Ln
open PySem PySem.Spec PyProof.Rows L2
theorem look_self {l : Lot} (nd : (l.map (·.1)).Nodup) : ∀ e ∈ l, look l e.1 = some e.2 := by
  induction l with
  | nil => simp
  | cons a l ih =>
    intro e he
    rw [List.map_cons, List.nodup_cons] at nd
    rcases List.mem_cons.mp he with rfl | he
    · simp [look]
    · have hne : ¬ a.1 = e.1 := fun z => nd.1 (by rw [z]; exact List.mem_map_of_mem he)
      have := ih nd.2 e he
      unfold look at this ⊢
      rw [List.find?_cons_of_neg (by simpa using hne)]
      exact this
theorem look_map {l : Lot} (nd : (l.map (·.1)).Nodup) : (l.map (·.1)).map (fun y => (y, (look l y).getD 0)) = l := by
  rw [List.map_map]
  conv => rhs; rw [← List.map_id l]
  refine List.map_congr_left fun e he => ?_
  show (e.1, (look l e.1).getD 0) = e
  rw [look_self nd e he]; rfl
section
local macro_rules | `(tactic| walk_at "kb") => `(tactic| first | exact kb_ii | exact kb_ib | exact kb_tt | exact kb_tl | exact kb_lt | exact kb_ll | exact kb_dd)
local macro_rules | `(tactic| walk_at "om") => `(tactic| first | omega | (simp only [List.length_map, List.length_cons, List.length_nil]; omega))
local macro_rules | `(tactic| walk_at "s") => `(tactic| first
  | ((with_reducible show Ev _ _ _ _ _); first
    | ((with_reducible show Ev _ _ (tVar _) _ _); refine ev_var rfl ?_)
    | (with_reducible refine ev_int ?_)
    | (with_reducible refine ev_bl ?_)
    | (with_reducible refine ev_str ?_)
    | (with_reducible refine ev_non ?_)
    | (with_reducible refine ev_ty ?_)
    | (with_reducible refine ev_fn ?_)
    | (with_reducible refine ev_op ?_)
    | (with_reducible refine ev_neg ?_)
    | (with_reducible refine ev_prop ?_)
    | (with_reducible refine ev_gi ?_)
    | (with_reducible refine ev_meth ?_)
    | ((with_reducible show Ev _ _ (tMake _ _ _ _ _) _ _); refine ev_make ?_)
    | ((with_reducible show Ev _ _ (tFld _ _ _) _ _); refine ev_fldA (by assumption) ?_)
    | (with_reducible refine ev_din ?_)
    | (with_reducible refine ev_dnin ?_)
    | (with_reducible refine ev_dget ?_)
    | (with_reducible refine ev_call ?_)
    | ((with_reducible show Ev _ _ (tCall (spF _ _) _ _ _) _ _); refine ev_ef (ef_callF ?_))
    | (with_reducible refine ev_cb ?_)
    | (with_reducible refine ev_andV ?_)
    | (with_reducible refine ev_orV ?_)
    | (with_reducible refine ev_notV ?_)
    | (with_reducible refine ev_if ?_)
    | (with_reducible refine ev_chain ?_)
    | (with_reducible refine ev_tup ?_)
    | (with_reducible refine ev_lst ?_))
  | ((with_reducible show Er _ _ _ _ _ _); first
    | (with_reducible refine er_b0 ?_)
    | (with_reducible refine er_i0 ?_)
    | ((with_reducible show Er _ _ (rIxT _) _ _ _); first | refine er_ixT ⟨_, _, rfl, rfl, ?_⟩ | refine er_ixT ⟨_, _, rfl, (by assumption), ?_⟩)
    | ((with_reducible show Er _ _ (rIxL _) _ _ _); first | refine er_ixL ⟨_, rfl, ?_⟩ | refine er_ixL ⟨_, (by assumption), ?_⟩)
    | ((with_reducible show Er _ _ (rI _ _) _ _ _); first | refine er_i (Or.inl ⟨by omega, by omega⟩) ?_ | refine er_i (Or.inr ⟨by omega, by omega⟩) ?_ | refine er_i ⟨by omega, by omega⟩ ?_ | refine er_i (by omega) ?_)
    | ((with_reducible show Er _ _ (fun _ _ _ _ => _) _ _ _); first | refine er_isN ?_ | refine er_notN ?_)
    | ((with_reducible show Er _ _ rEq _ _ _); refine er_eq ⟨_, rfl, ?_⟩)
    | ((with_reducible show Er _ _ rNe _ _ _); refine er_ne ⟨_, rfl, ?_⟩))
  | ((with_reducible show Ea _ _ _ _ _); first
    | ((with_reducible show Ea _ _ (tCons (tVar _) _) _ _); refine ea_pot rfl ?_)
    | (with_reducible refine ea_nil ?_)
    | (with_reducible refine ea_v ?_))
  | ((with_reducible show Es _ _ _ _ _); first
    | (with_reducible refine es_seq ?_)
    | (with_reducible refine es_next ?_)
    | (with_reducible refine es_if ?_)
    | (with_reducible refine es_ret ?_)
    | (with_reducible refine es_set ?_)
    | (with_reducible refine es_asg ?_)
    | ((with_reducible show Es _ _ (tPar _ _ (tCons tDNewK _)) _ _); refine es_parO (by first | (simp [startE]; done) | decide) (ef_dnew ?_))
    | (with_reducible refine es_par ?_)
    | (with_reducible refine es_drop ?_))
  | ((with_reducible show Et _ _ _ _ _); first
    | (with_reducible refine et_test ?_)
    | (with_reducible refine et_B ?_)
    | (with_reducible refine et_yes ?_)
    | (with_reducible refine et_and ?_)
    | (with_reducible refine et_or ?_)
    | (with_reducible refine et_not ?_)
    | (with_reducible refine et_ifT ?_))
  | ((with_reducible show Eb _ _ _ _ _); first
    | ((with_reducible show Eb _ _ (rIsi _) [_, Ag.v (Dm.ty _)] _); refine eb_isi rfl (by walk_at "kb") ?_)
    | ((with_reducible show Eb _ _ (rIsi _) [_, Ag.v (Dm.fn _)] _); refine eb_isiC (by assumption) ?_)
    | ((with_reducible show Eb _ _ (rIsiT _) _ _); refine eb_isi2 rfl (by walk_at "kb") (by walk_at "kb") ?_)
    | ((with_reducible show Eb _ _ _ [Ag.v (Dm.int _)] _); first | refine eb_abs ?_ | refine eb_int ?_)
    | ((with_reducible show Eb _ _ (rListOf _) _ _); refine eb_list ⟨_, (by first | rfl | assumption), ?_⟩)
    | ((with_reducible show Eb _ _ _ [Ag.v _] _); refine eb_len ⟨_, (by first | rfl | assumption), ?_⟩))
  | ((with_reducible show Eg _ _ _ _ _ _); first
    | (with_reducible refine eg_nm ?_)
    | ((with_reducible show Eg _ _ (gTup _ _ _) _ _ _); refine eg_tup ⟨_, rfl, rfl, ?_⟩))
  | ((with_reducible show Egs _ _ _ _ _ _); first
    | (with_reducible refine egs_cons ?_)
    | (with_reducible refine egs_nil ?_))
  | ((with_reducible show Ed _ _ _ _ _); first
    | ((with_reducible show Ed _ _ (tVar _) _ _); first | refine ed_own rfl ?_ | refine ed_ro rfl ?_ | refine ed_frz rfl ?_ | refine ed_v (ev_var rfl ⟨_, rfl, ?_⟩)))
  | ((with_reducible show ite _ _ _); first | refine br_y rfl ?_ | refine br_n rfl ?_ | refine br_y (decide_eq_true (by walk_at "om")) ?_ | refine br_n (decide_eq_false (by walk_at "om")) ?_)
  | (with_reducible refine br_nt (by walk_at "om") ?_)
  | (with_reducible refine br_nf (by walk_at "om") ?_)
  | assumption
  | exact rfl
  | exact congrArg Dm.bl (decide_eq_true (by walk_at "om"))
  | exact congrArg Dm.bl (decide_eq_false (by walk_at "om"))
  | (with_reducible refine kb_t (by walk_at "om") ?_)
  | refine ⟨[_], rfl, sl15 (Nat.le_of_ble_eq_true rfl), ?_⟩
  | refine ⟨[_, _], rfl, sl15 (Nat.le_of_ble_eq_true rfl), ?_⟩
  | refine ⟨[_, _, _], rfl, sl15 (Nat.le_of_ble_eq_true rfl), ?_⟩
  | refine ⟨[], rfl, Nat.zero_le _, ?_⟩
  | exact ⟨_, rfl⟩
  | exact ⟨_, _, rfl⟩
  | exact ⟨_, _, _, rfl⟩
  | exact ⟨_, _, _, _, rfl⟩
  | refine ⟨_, _, rfl, rfl, ?_⟩
  | refine ⟨_, rfl, ?_⟩
  | refine ⟨_, _, rfl, ?_⟩
  | refine ⟨_, _, _, rfl, ?_⟩
  | refine ⟨_, _, _, _, rfl, ?_⟩
  | refine ⟨_, rfl, (by assumption), ?_⟩
  | refine ⟨_, _, rfl, (by assumption), ?_⟩
  | refine ⟨⟨_, _, rfl⟩, ?_⟩
  | refine And.intro (by first | assumption | walk_at "om") ?_
  | refine And.intro rfl ?_
  | (simp only [List.length_map]; assumption)
  | omega)
local macro_rules | `(tactic| walk_at "nx") => `(tactic| (repeat first | assumption | exact rfl | refine noX_set ?_ rfl))
local macro_rules | `(tactic| walk_at "gs") => `(tactic| (repeat first | exact gset_nil | exact gset_name (by decide) | exact gmono_nil | exact gmono_name | refine gset_tup ?_ | refine gmono_tup ?_ | refine gset_cons ?_ ?_ ?_ ?_ | refine gmono_cons ?_ ?_))
variable {P : Program} {w : World} {K : PySem.W.Frag} {mg : Str → Option Value} {base : Heap}
def W__law_lot : Wf := fun as k => ∃ l : Lot, as = [.v (.dic (dkl l))] ∧ (l.map (·.1)).Nodup ∧ l.length < 64 ∧ ∀ l' : Lot, l'.Perm l → l'.Pairwise (fun a b => a.1 < b.1) → k (lotD l')
theorem h__law_lot (T : Kt K mg) : Held P w K mg base 1 T.a__law_lot (spD K W__law_lot) := by
  obtain ⟨fd, F⟩ := T.f__law_lot
  have sc := sc__law_lot
  refine held_of F sc (spD_len fun as k h => ?_) (fun _ _ _ _ _ _ us hl => match us, hl with | [_], _ => rfl) fun cdv A outer s H E hr => ?_
  · obtain ⟨_, rfl, _⟩ := h; rfl
  have hu := hu_of hr
  have hF_ : Cls K T.C_Family ∧ NoAttr K T.C_Family "own_lots" := ⟨T.isF.cl, T.naF⟩
  have hM_ : Cls K T.C_Map ∧ NoAttr K T.C_Map "own_families" := ⟨T.isM.cl, T.naM⟩
  have iF_ := T.isF
  have iM_ := T.isM
  refine ⟨_, (pss_one (ps_ret (pe_callTy (call_tupFK (K := K) rfl) (by rfl) T.n_tuple (by decide +kernel) (pa_cons (pe_lc (own := [("_law_lane", 1)]) (g := gName 1) (tt := tYes) rfl sc.nd (pi_listK (K := K) rfl (pe_callB (call_sortedDI rfl) (by rfl) T.n_sorted (by decide +kernel) (pa_cons (pv 0) pa_nil))) (blkOk_by (N := N__law_lot) (sc := defScope s__law_lot) (by decide +kernel)) (fun _ _ _ _ _ => (pg_name (i := 1) sc.nd rfl (by first | exact Or.inl rfl | exact Or.inr rfl))) (fun _ _ _ _ _ => pts_nil) (fun _ _ _ _ _ => (pe_tup (pa_cons (pv 1) (pa_cons (pe_dget hu (pv 0) (pv 1) (fun _ _ => rfl)) pa_nil))))) pa_nil)))),
    fun vs Q sp => body_ok (fun Z as k hw => ?_) sp⟩
  obtain ⟨l, rfl, nd, h0, hk⟩ := hw
  have hkeys : (dkl l).map (·.1) = (l.map (·.1)).map Sum.inl := by
    unfold dkl
    rw [List.map_map, List.map_map]; rfl
  try dsimp only [cxOf, Cx.nox]
  refine es_ret (ev_cb (ea_v (ev_ef (ef_each (α := Int) (fun y d => d = enD (y, (look l y).getD 0)) (by walk_at "gs") (by walk_at "gs") (ej (ei_list (ev_cb (ea_v (ev_var rfl (ea_nil (eb_sortedDI hkeys (by rw [List.length_map]; exact h0) fun ys hp hs => ⟨_, rfl, ys, Dm.int, rfl, ?_, fun Z' y hy => eg_nm ?_, fun zs hz => ea_nil ?_⟩)))))))))))
  · rw [hp.length_eq, List.length_map]
    exact sln' (m := 64) (by omega)
  · obtain ⟨e, he, rfl⟩ := List.mem_map.mp (hp.mem_iff.mp hy)
    have lk : lookD (dkl l) (.inl e.1) = some (.int e.2) := by rw [lookD_dkl, look_self nd e he]; rfl
    rw [look_self nd e he]
    repeat walk_at "s"
  · have ez := hz.eq_map
    subst ez
    have em : ys.map (fun y => enD (y, (look l y).getD 0)) = (ys.map fun y => (y, (look l y).getD 0)).map enD := by rw [List.map_map]; rfl
    rw [em]
    refine eb_tupF (hk _ ?_ ?_)
    · have := hp.map (fun y => (y, (look l y).getD 0))
      rw [look_map nd] at this
      exact this
    · rw [List.pairwise_map]
      have nd2 : ys.Nodup := hp.nodup_iff.mpr nd
      exact (hs.and nd2).imp fun {a b} h => by
        have h1 := h.1
        have h2 := h.2
        show a < b
        omega
end
end Ln
/-! K20: the law's own classes. -/
namespace Ln
open PySem PySem.Spec PyProof.Rows L2
theorem cut_to {α : Type} (l : List α) (a : Nat) (h : a ≤ l.length) : cutL l none (some (a : Int)) = l.take a := by
  unfold cutL
  have e1 : HT.sIx l.length 0 none = 0 := rfl
  have e2 : HT.sIx l.length l.length (some (a : Int)) = a := by
    unfold HT.sIx
    simp
    rw [if_neg (by omega)]
    omega
  rw [e1, e2]; simp
theorem cut_from {α : Type} (l : List α) (a : Nat) : cutL l (some (a : Int)) none = l.drop a := by
  unfold cutL
  have e2 : HT.sIx l.length l.length none = l.length := rfl
  have e1 : HT.sIx l.length 0 (some (a : Int)) = min a l.length := by
    unfold HT.sIx
    simp
    omega
  rw [e1, e2]
  by_cases h : a ≤ l.length
  · rw [Nat.min_eq_left h]
    exact List.take_of_length_le (by simp)
  · rw [Nat.min_eq_right (by omega), List.drop_eq_nil_of_le (Nat.le_refl _), List.drop_eq_nil_of_le (by omega)]; simp
theorem flat_put (cs : List (List Int)) (a : Nat) (h : a ≤ cs.length) (x : Int) : (cs.take a ++ [(cs ++ [[]]).getD a [] ++ [x]] ++ cs.drop (a + 1)).flatten.Perm (cs.flatten ++ [x]) := by
  by_cases ha : a < cs.length
  · have e : cs = cs.take a ++ [cs[a]] ++ cs.drop (a + 1) := by
      have := List.take_append_drop a cs
      rw [List.drop_eq_getElem_cons ha] at this
      simpa using this.symm
    have g : (cs ++ [[]]).getD a [] = cs[a] := by
      rw [List.getD_eq_getElem?_getD, List.getElem?_append_left ha, List.getElem?_eq_getElem ha]; rfl
    rw [g]
    have ef : cs.flatten = (cs.take a).flatten ++ cs[a] ++ (cs.drop (a + 1)).flatten := by
      exact (congrArg List.flatten e).trans (by simp only [List.flatten_append, List.flatten_cons, List.flatten_nil, List.append_nil, List.append_assoc])
    rw [ef]
    simp only [List.flatten_append, List.flatten_cons, List.flatten_nil, List.append_nil, List.append_assoc]
    refine List.Perm.append_left _ (List.Perm.append_left _ ?_)
    exact List.perm_append_comm
  · have : a = cs.length := by omega
    subst this
    have g : (cs ++ [[]]).getD cs.length [] = [] := by
      rw [List.getD_eq_getElem?_getD]; simp
    rw [g, List.take_length, List.drop_eq_nil_of_le (by omega)]
    simp
section
local macro_rules | `(tactic| walk_at "kb") => `(tactic| first | exact kb_ii | exact kb_ib | exact kb_tt | exact kb_tl | exact kb_lt | exact kb_ll | exact kb_dd)
local macro_rules | `(tactic| walk_at "om") => `(tactic| first | omega | (simp only [List.length_map, List.length_cons, List.length_nil]; omega))
local macro_rules | `(tactic| walk_at "s") => `(tactic| first
  | ((with_reducible show Ev _ _ _ _ _); first
    | ((with_reducible show Ev _ _ (tVar _) _ _); refine ev_var rfl ?_)
    | (with_reducible refine ev_int ?_)
    | (with_reducible refine ev_bl ?_)
    | (with_reducible refine ev_str ?_)
    | (with_reducible refine ev_non ?_)
    | (with_reducible refine ev_ty ?_)
    | (with_reducible refine ev_fn ?_)
    | (with_reducible refine ev_op ?_)
    | (with_reducible refine ev_neg ?_)
    | (with_reducible refine ev_prop ?_)
    | (with_reducible refine ev_gi ?_)
    | (with_reducible refine ev_meth ?_)
    | ((with_reducible show Ev _ _ (tMake _ _ _ _ _) _ _); refine ev_make ?_)
    | ((with_reducible show Ev _ _ (tFld _ _ _) _ _); refine ev_fldA (by assumption) ?_)
    | (with_reducible refine ev_din ?_)
    | (with_reducible refine ev_dnin ?_)
    | (with_reducible refine ev_dget ?_)
    | (with_reducible refine ev_call ?_)
    | ((with_reducible show Ev _ _ (tCall (spF _ _) _ _ _) _ _); refine ev_ef (ef_callF ?_))
    | (with_reducible refine ev_cb ?_)
    | (with_reducible refine ev_andV ?_)
    | (with_reducible refine ev_orV ?_)
    | (with_reducible refine ev_notV ?_)
    | (with_reducible refine ev_if ?_)
    | (with_reducible refine ev_chain ?_)
    | (with_reducible refine ev_tup ?_)
    | (with_reducible refine ev_lst ?_))
  | ((with_reducible show Er _ _ _ _ _ _); first
    | (with_reducible refine er_b0 ?_)
    | (with_reducible refine er_i0 ?_)
    | ((with_reducible show Er _ _ (rIxT _) _ _ _); first | refine er_ixT ⟨_, _, rfl, rfl, ?_⟩ | refine er_ixT ⟨_, _, rfl, (by assumption), ?_⟩)
    | ((with_reducible show Er _ _ (rIxL _) _ _ _); first | refine er_ixL ⟨_, rfl, ?_⟩ | refine er_ixL ⟨_, (by assumption), ?_⟩)
    | ((with_reducible show Er _ _ (rI _ _) _ _ _); first | refine er_i (Or.inl ⟨by omega, by omega⟩) ?_ | refine er_i (Or.inr ⟨by omega, by omega⟩) ?_ | refine er_i ⟨by omega, by omega⟩ ?_ | refine er_i (by omega) ?_)
    | ((with_reducible show Er _ _ (fun _ _ _ _ => _) _ _ _); first | refine er_isN ?_ | refine er_notN ?_)
    | ((with_reducible show Er _ _ rEq _ _ _); refine er_eq ⟨_, rfl, ?_⟩)
    | ((with_reducible show Er _ _ rNe _ _ _); refine er_ne ⟨_, rfl, ?_⟩))
  | ((with_reducible show Ea _ _ _ _ _); first
    | ((with_reducible show Ea _ _ (tCons (tVar _) _) _ _); refine ea_pot rfl ?_)
    | (with_reducible refine ea_nil ?_)
    | (with_reducible refine ea_v ?_))
  | ((with_reducible show Es _ _ _ _ _); first
    | (with_reducible refine es_seq ?_)
    | (with_reducible refine es_next ?_)
    | (with_reducible refine es_if ?_)
    | (with_reducible refine es_ret ?_)
    | (with_reducible refine es_set ?_)
    | (with_reducible refine es_asg ?_)
    | ((with_reducible show Es _ _ (tPar _ _ (tCons tDNewK _)) _ _); refine es_parO (by first | (simp [startE]; done) | decide) (ef_dnew ?_))
    | (with_reducible refine es_par ?_)
    | (with_reducible refine es_drop ?_))
  | ((with_reducible show Et _ _ _ _ _); first
    | (with_reducible refine et_test ?_)
    | (with_reducible refine et_B ?_)
    | (with_reducible refine et_yes ?_)
    | (with_reducible refine et_and ?_)
    | (with_reducible refine et_or ?_)
    | (with_reducible refine et_not ?_)
    | (with_reducible refine et_ifT ?_))
  | ((with_reducible show Eb _ _ _ _ _); first
    | ((with_reducible show Eb _ _ (rIsi _) [_, Ag.v (Dm.ty _)] _); refine eb_isi rfl (by walk_at "kb") ?_)
    | ((with_reducible show Eb _ _ (rIsi _) [_, Ag.v (Dm.fn _)] _); refine eb_isiC (by assumption) ?_)
    | ((with_reducible show Eb _ _ (rIsiT _) _ _); refine eb_isi2 rfl (by walk_at "kb") (by walk_at "kb") ?_)
    | ((with_reducible show Eb _ _ _ [Ag.v (Dm.int _)] _); first | refine eb_abs ?_ | refine eb_int ?_)
    | ((with_reducible show Eb _ _ (rListOf _) _ _); refine eb_list ⟨_, (by first | rfl | assumption), ?_⟩)
    | ((with_reducible show Eb _ _ _ [Ag.v _] _); refine eb_len ⟨_, (by first | rfl | assumption), ?_⟩))
  | ((with_reducible show Eg _ _ _ _ _ _); first
    | (with_reducible refine eg_nm ?_)
    | ((with_reducible show Eg _ _ (gTup _ _ _) _ _ _); refine eg_tup ⟨_, rfl, rfl, ?_⟩))
  | ((with_reducible show Egs _ _ _ _ _ _); first
    | (with_reducible refine egs_cons ?_)
    | (with_reducible refine egs_nil ?_))
  | ((with_reducible show Ed _ _ _ _ _); first
    | ((with_reducible show Ed _ _ (tVar _) _ _); first | refine ed_own rfl ?_ | refine ed_ro rfl ?_ | refine ed_frz rfl ?_ | refine ed_v (ev_var rfl ⟨_, rfl, ?_⟩)))
  | ((with_reducible show ite _ _ _); first | refine br_y rfl ?_ | refine br_n rfl ?_ | refine br_y (decide_eq_true (by walk_at "om")) ?_ | refine br_n (decide_eq_false (by walk_at "om")) ?_)
  | (with_reducible refine br_nt (by walk_at "om") ?_)
  | (with_reducible refine br_nf (by walk_at "om") ?_)
  | assumption
  | exact rfl
  | exact congrArg Dm.bl (decide_eq_true (by walk_at "om"))
  | exact congrArg Dm.bl (decide_eq_false (by walk_at "om"))
  | (with_reducible refine kb_t (by walk_at "om") ?_)
  | refine ⟨[_], rfl, sl15 (Nat.le_of_ble_eq_true rfl), ?_⟩
  | refine ⟨[_, _], rfl, sl15 (Nat.le_of_ble_eq_true rfl), ?_⟩
  | refine ⟨[_, _, _], rfl, sl15 (Nat.le_of_ble_eq_true rfl), ?_⟩
  | refine ⟨[], rfl, Nat.zero_le _, ?_⟩
  | exact ⟨_, rfl⟩
  | exact ⟨_, _, rfl⟩
  | exact ⟨_, _, _, rfl⟩
  | exact ⟨_, _, _, _, rfl⟩
  | refine ⟨_, _, rfl, rfl, ?_⟩
  | refine ⟨_, rfl, ?_⟩
  | refine ⟨_, _, rfl, ?_⟩
  | refine ⟨_, _, _, rfl, ?_⟩
  | refine ⟨_, _, _, _, rfl, ?_⟩
  | refine ⟨_, rfl, (by assumption), ?_⟩
  | refine ⟨_, _, rfl, (by assumption), ?_⟩
  | refine ⟨⟨_, _, rfl⟩, ?_⟩
  | refine And.intro (by first | assumption | walk_at "om") ?_
  | refine And.intro rfl ?_
  | (simp only [List.length_map]; assumption)
  | omega)
local macro_rules | `(tactic| walk_at "nx") => `(tactic| (repeat first | assumption | exact rfl | refine noX_set ?_ rfl))
local macro_rules | `(tactic| walk_at "gs") => `(tactic| (repeat first | exact gset_nil | exact gset_name (by decide) | exact gmono_nil | exact gmono_name | refine gset_tup ?_ | refine gmono_tup ?_ | refine gset_cons ?_ ?_ ?_ ?_ | refine gmono_cons ?_ ?_))
variable {P : Program} {w : World} {K : PySem.W.Frag} {mg : Str → Option Value} {base : Heap}
def csD (cs : List (List Int)) : Dm := .lst (cs.map intsL)
def W__law_classes : Wf := fun as k => ∃ n : Nat, as = [.pot, .v (.int n)] ∧ n ≤ 12 ∧ ∀ cs : List (List Int), (∀ c ∈ cs, c ≠ []) → cs.flatten.Perm ((List.range n).map fun i => ((i : Nat) : Int)) → k (csD cs)
theorem h__law_classes (T : Kt K mg) : Held P w K mg base 2 T.a__law_classes (spD K W__law_classes) := by
  obtain ⟨fd, F⟩ := T.f__law_classes
  have sc := sc__law_classes
  refine held_of F sc (spD_len fun as k h => ?_) (fun _ _ _ _ _ _ us hl => match us, hl with | [_, _], _ => rfl) fun cdv A outer s H E hr => ?_
  · obtain ⟨_, rfl, _⟩ := h; rfl
  have hu := hu_of hr
  have hF_ : Cls K T.C_Family ∧ NoAttr K T.C_Family "own_lots" := ⟨T.isF.cl, T.naF⟩
  have hM_ : Cls K T.C_Map ∧ NoAttr K T.C_Map "own_families" := ⟨T.isM.cl, T.naM⟩
  have iF_ := T.isF
  have iM_ := T.isM
  have G__law_draw := held_mono (h__law_draw (P := P) (w := w) (base := base) T) (show 1 ≤ 1 by decide)
  refine ⟨_, (pss_cons (ps_set (i := 2) sc.nd rfl (by first | exact Or.inl rfl | exact Or.inr rfl) (pe_lst pa_nil))
      (pss_cons (ps_for PassesOwn.never rfl (pi_range1 (by rfl) T.n_range (pa_cons (pv 1) pa_nil)) (pg_name (i := 3) sc.nd rfl (by first | exact Or.inl rfl | exact Or.inr rfl)) (pss_cons (ps_set (i := 4) sc.nd rfl (by first | exact Or.inl rfl | exact Or.inr rfl) (pe_h G__law_draw hr rfl T.g__law_draw (pa_cons (pv 0) (pa_cons (pe_op op_add (pe_callB (call_lenK (K := K) rfl) (by rfl) T.n_len (by decide +kernel) (pa_cons (pv 2) pa_nil)) pe_int) pa_nil))))
      (pss_one (ps_set (i := 2) sc.nd rfl (by first | exact Or.inl rfl | exact Or.inr rfl) (pe_op op_cat (pe_op op_cat (pe_slice (sl_listK (K := K) rfl) (pv 2) po_none (po_some (pv 4))) (pe_lst (pa_cons (pe_op op_cat (pe_ix (ix_listK (K := K) rfl) (pe_op op_cat (pv 2) (pe_lst (pa_cons (pe_lst pa_nil) pa_nil))) (pv 4) (fun _ _ => rfl)) (pe_lst (pa_cons (pv 3) pa_nil))) pa_nil))) (pe_slice (sl_listK (K := K) rfl) (pv 2) (po_some (pe_op op_add (pv 4) pe_int)) po_none))))))
      (pss_one (ps_ret (pv 2))))),
    fun vs Q sp => body_ok (fun Z as k hw => ?_) sp⟩
  obtain ⟨n, rfl, h0, hk⟩ := hw
  try dsimp only [cxOf, Cx.nox]
  refine es_seq (es_set (ev_lst (ea_nil ⟨[], rfl, Nat.zero_le _, ?_⟩)))
  refine es_seq (es_forA (List.range n) (fun j => .int (j : Nat)) (fun m e => ∃ (cs : List (List Int)) (o3 o4 : Option Cl), e = [some .pot, some (.v (.int n)), some (.v (csD cs)), o3, o4] ∧ (∀ c ∈ cs, c ≠ []) ∧ cs.length ≤ m ∧ cs.flatten.Perm ((List.range m).map fun i => ((i : Nat) : Int)))
    (ei_range1 (ea_v (ev_var rfl (ea_nil ⟨_, rfl, by omega, by omega, intsD_map _⟩)))) ⟨[], _, _, rfl, by simp, by simp, by simp⟩ (fun m j e hj hI => ?_) (fun e hI => ?_))
  · obtain ⟨cs, o3, o4, rfl, h1, h2, h3⟩ := hI
    have hm : m < n := by
      have := (List.getElem?_eq_some_iff.mp hj).1
      rwa [List.length_range] at this
    have hjm : j = m := by
      rw [List.getElem?_range hm] at hj
      exact (Option.some.inj hj).symm
    subst hjm
    refine eg_nm (es_seq (es_set (ev_call ?_)))
    repeat walk_at "s"
    refine fun r hr0 hr1 => ?_
    obtain ⟨a, rfl⟩ := Int.eq_ofNat_of_zero_le hr0
    have ha : a ≤ cs.length := by
      have : ((cs.map intsL).length : Int) = cs.length := by rw [List.length_map]
      omega
    have hsz : ∀ m : Nat, m ≤ 100 → m ≤ sizeLine := fun m hm => sln hm (by decide)
    refine es_set (ev_op (ev_op (ev_slL (ev_var rfl ⟨_, rfl, eo_no (eo_some (ev_var rfl ⟨_, rfl, ?_⟩))⟩))))
    have hx : atI (cs.map intsL ++ [Dm.lst []]) (a : Int) = some (intsL ((cs ++ [[]]).getD a [])) := by
      have e : cs.map intsL ++ [Dm.lst []] = (cs ++ [[]]).map intsL := by rw [List.map_append]; rfl
      rw [e]
      refine lk_get (f := intsL) ?_
      rw [List.getD_eq_getElem?_getD, List.getElem?_eq_getElem (by simp; omega)]; rfl
    have hl1 : (cs.map intsL).length + [Dm.lst []].length ≤ sizeLine := by rw [List.length_map]; exact hsz _ (by simp; omega)
    refine ev_lst (ea_v (ev_op (ev_op (ev_op (ev_var rfl (ev_lst (ea_v (ev_lst (ea_nil ⟨[], rfl, Nat.zero_le _, ?_⟩)))))))))
    refine ea_nil ⟨[_], rfl, hsz 1 (by decide), ?_⟩
    refine er_cat hl1 ?_
    refine ev_var rfl (er_ixL ⟨_, hx, ?_⟩)
    refine ev_lst (ea_v (ev_var rfl (ea_nil ⟨[_], rfl, hsz 1 (by decide), ?_⟩)))
    have hfl : cs.flatten.length = j := by rw [h3.length_eq]; simp
    have hgl : ((cs ++ [[]]).getD a []).length ≤ j := by
      rw [← hfl]
      by_cases ha2 : a < cs.length
      · rw [List.getD_eq_getElem?_getD, List.getElem?_append_left ha2, List.getElem?_eq_getElem ha2]
        exact (List.sublist_flatten_of_mem (List.getElem_mem ha2)).length_le
      · have : a = cs.length := by omega
        rw [this, List.getD_eq_getElem?_getD]; simp
    refine er_cat (by rw [List.length_map]; exact hsz _ (show ((cs ++ [[]]).getD a []).length + 1 ≤ 100 by omega)) ?_
    refine ea_nil ⟨[_], rfl, hsz 1 (by decide), ?_⟩
    rw [cutD_map, cut_to cs a ha]
    refine er_cat (by rw [List.length_map]; exact hsz _ (by simp; omega)) ?_
    refine ev_slL (ev_var rfl ⟨_, rfl, eo_some (ev_op (ev_var rfl (ev_int (er_i0 ⟨_, rfl, eo_no ?_⟩))))⟩)
    rw [cutD_map, show (a : Int) + 1 = ((a + 1 : Nat) : Int) from rfl, cut_from]
    refine er_cat (by rw [List.length_append, List.length_map, List.length_map]; exact hsz _ (by simp; omega)) ?_
    have em : (cs.take a).map intsL ++ [Dm.lst (((cs ++ [[]]).getD a []).map Dm.int ++ [Dm.int (j : Nat)])] ++ (cs.drop (a + 1)).map intsL = (cs.take a ++ [(cs ++ [[]]).getD a [] ++ [((j : Nat) : Int)]] ++ cs.drop (a + 1)).map intsL := by
      rw [List.map_append, List.map_append]
      simp [intsL]
    rw [em]
    refine ⟨_, _, _, rfl, fun c hc => ?_, by simp; omega, ?_⟩
    · rcases List.mem_append.mp hc with hc | hc
      · rcases List.mem_append.mp hc with hc | hc
        · exact h1 c (List.mem_of_mem_take hc)
        · rw [List.mem_singleton.mp hc]; simp
      · exact h1 c (List.mem_of_mem_drop hc)
    · refine (flat_put cs a ha _).trans ?_
      rw [List.range_succ, List.map_append]
      exact List.Perm.append_right _ h3
  · obtain ⟨cs, o3, o4, rfl, h1, h2, h3⟩ := hI
    rw [List.length_range] at h3
    have := hk cs h1 h3
    exact es_ret (ev_var rfl this)
end
end Ln
/-! K21: the law's own pot, world. -/
namespace Ln
open PySem PySem.Spec PyProof.Rows L2
/-! ### a class of lanes gone round -/
structure Arr where
  ps : List (Int × Int)
  ss : List Int
  bs : List Int
  nx : List Int
def Arr.len (A : Arr) (n : Nat) : Prop := A.ps.length = n ∧ A.ss.length = n ∧ A.bs.length = n ∧ A.nx.length = n
def Arr.put (A : Arr) (l : Nat) (e : Int × Int) (st b x : Int) : Arr := ⟨A.ps.set l e, A.ss.set l st, A.bs.set l b, A.nx.set l x⟩
theorem Arr.put_len {A : Arr} {n l : Nat} {e : Int × Int} {st b x : Int} (h : A.len n) : (A.put l e st b x).len n := by
  obtain ⟨h1, h2, h3, h4⟩ := h
  exact ⟨by simp [Arr.put, h1], by simp [Arr.put, h2], by simp [Arr.put, h3], by simp [Arr.put, h4]⟩
theorem getD_set_ne {α : Type} {l : List α} {i j : Nat} {x d : α} (h : i ≠ j) : (l.set i x).getD j d = l.getD j d := by
  rw [List.getD_eq_getElem?_getD, List.getD_eq_getElem?_getD, List.getElem?_set_ne h]
theorem getD_set_eq {α : Type} {l : List α} {i : Nat} {x d : α} (h : i < l.length) : (l.set i x).getD i d = x := by
  rw [List.getD_eq_getElem?_getD, List.getElem?_set_self h]; rfl
def la (s : List Int) (a : Nat) : Nat := (s.getD a 0).toNat
/-- so far a class s is gone round: pace e, step st, begun at b0, common number c -/
def InC (c : Int) (s : List Int) (e : Int × Int) (st b0 : Int) (m : Nat) (A : Arr) : Prop := ∀ a, a < m →
  A.ps.getD (la s a) (0, 1) = e ∧ A.ss.getD (la s a) 0 = st ∧ -(2000 * (a + 1) : Int) ≤ A.bs.getD (la s a) 0 ∧ A.bs.getD (la s a) 0 ≤ 2000 * (a + 1) ∧
  ((a : Int) < e.2 → A.nx.getD (la s a) 0 = s.getD (if (a : Int) + 1 < e.2 then a + 1 else 0) 0 ∧ ∃ t, A.bs.getD (la s a) 0 = b0 + a * st + c * t) ∧
  (e.2 ≤ (a : Int) → ∃ d, d < a ∧ A.nx.getD (la s a) 0 = s.getD d 0 ∧ ∃ t, A.bs.getD (la s a) 0 + st - A.bs.getD (la s d) 0 = c * t)
theorem in_step {c : Int} {s : List Int} {e : Int × Int} {st b0 : Int} {m n : Nat} {A : Arr} (h : InC c s e st b0 m A) (hl : A.len n) (hm : la s m < n) (hd : ∀ a, a < m → la s a ≠ la s m) {b x : Int} (hb1 : -(2000 * (m + 1) : Int) ≤ b) (hb2 : b ≤ 2000 * (m + 1))
    (h1 : (m : Int) < e.2 → x = s.getD (if (m : Int) + 1 < e.2 then m + 1 else 0) 0 ∧ ∃ t, b = b0 + m * st + c * t) (h2 : e.2 ≤ (m : Int) → ∃ d, d < m ∧ x = s.getD d 0 ∧ ∃ t, b + st - A.bs.getD (la s d) 0 = c * t) :
    InC c s e st b0 (m + 1) (A.put (la s m) e st b x) := by
  obtain ⟨l1, l2, l3, l4⟩ := hl
  intro a ha
  by_cases z : a = m
  · subst z
    refine ⟨getD_set_eq (by omega), getD_set_eq (by omega), ?_, ?_, fun q => ?_, fun q => ?_⟩
    · show _ ≤ (A.bs.set _ _).getD _ _
      rw [getD_set_eq (by omega)]; exact hb1
    · show (A.bs.set _ _).getD _ _ ≤ _
      rw [getD_set_eq (by omega)]; exact hb2
    · obtain ⟨q1, t, q2⟩ := h1 q
      exact ⟨(getD_set_eq (by omega)).trans q1, t, (getD_set_eq (by omega)).trans q2⟩
    · obtain ⟨d, d1, d2, t, d3⟩ := h2 q
      refine ⟨d, d1, (getD_set_eq (by omega)).trans d2, t, ?_⟩
      show (A.bs.set _ _).getD _ _ + st - (A.bs.set _ _).getD _ _ = _
      rw [getD_set_eq (by omega), getD_set_ne (Ne.symm (hd d d1))]; exact d3
  · have ha2 : a < m := by omega
    have hne := Ne.symm (hd a ha2)
    obtain ⟨p1, p2, p3, p4, p5, p6⟩ := h a ha2
    refine ⟨(getD_set_ne hne).trans p1, (getD_set_ne hne).trans p2, ?_, ?_, fun q => ?_, fun q => ?_⟩
    · show _ ≤ (A.bs.set _ _).getD _ _
      rw [getD_set_ne hne]; exact p3
    · show (A.bs.set _ _).getD _ _ ≤ _
      rw [getD_set_ne hne]; exact p4
    · obtain ⟨q1, t, q2⟩ := p5 q
      exact ⟨(getD_set_ne hne).trans q1, t, (getD_set_ne hne).trans q2⟩
    · obtain ⟨d, d1, d2, t, d3⟩ := p6 q
      refine ⟨d, d1, (getD_set_ne hne).trans d2, t, ?_⟩
      show (A.bs.set _ _).getD _ _ + st - (A.bs.set _ _).getD _ _ = _
      rw [getD_set_ne hne, getD_set_ne (Ne.symm (hd d (by omega)))]; exact d3
/-- what holds of a lane that is done, L the lanes that are -/
def Don (c : Nat) (L : List Int) (A : Arr) : Prop := ∀ x ∈ L, (∃ e : Int × Int, A.ps.getD x.toNat (0, 1) = e ∧ 1 ≤ e.2 ∧ e.2.toNat ∣ c ∧ Int.gcd e.1 e.2 = 1 ∧ -4 ≤ e.1 ∧ e.1 ≤ 4 ∧ gi A.ss x = e.1 * ((c : Int) / e.2)) ∧
  -30000 ≤ gi A.bs x ∧ gi A.bs x ≤ 30000 ∧ gi A.nx x ∈ L ∧ gi A.ss (gi A.nx x) = gi A.ss x ∧ ∃ t, gi A.bs x + gi A.ss x - gi A.bs (gi A.nx x) = c * t
theorem Don.put {c : Nat} {L : List Int} {A : Arr} {l : Nat} {e : Int × Int} {st b x : Int} (h : Don c L A) (hl : ∀ y ∈ L, y.toNat ≠ l) : Don c L (A.put l e st b x) := by
  intro y hy
  obtain ⟨⟨e', p1, p2⟩, p3, p4, p5, p6, t, p7⟩ := h y hy
  have ny := Ne.symm (hl y hy)
  have nz := Ne.symm (hl _ p5)
  have g1 : gi (A.nx.set l x) y = gi A.nx y := getD_set_ne ny
  have g2 : gi (A.ss.set l st) y = gi A.ss y := getD_set_ne ny
  have g3 : gi (A.bs.set l b) y = gi A.bs y := getD_set_ne ny
  have g4 : gi (A.ss.set l st) (gi A.nx y) = gi A.ss (gi A.nx y) := getD_set_ne nz
  have g5 : gi (A.bs.set l b) (gi A.nx y) = gi A.bs (gi A.nx y) := getD_set_ne nz
  refine ⟨⟨e', (getD_set_ne ny).trans p1, ?_⟩, ?_⟩
  · show _ ∧ _ ∧ _ ∧ _ ∧ _ ∧ gi (A.ss.set l st) y = _
    rw [g2]; exact p2
  · show -30000 ≤ gi (A.bs.set l b) y ∧ gi (A.bs.set l b) y ≤ 30000 ∧ gi (A.nx.set l x) y ∈ L ∧ gi (A.ss.set l st) (gi (A.nx.set l x) y) = gi (A.ss.set l st) y ∧ ∃ t, gi (A.bs.set l b) y + gi (A.ss.set l st) y - gi (A.bs.set l b) (gi (A.nx.set l x) y) = c * t
    rw [g1, g2, g3, g4, g5]
    exact ⟨p3, p4, p5, p6, t, p7⟩
/-- a class that is gone round wholly is done -/
theorem in_end {c : Nat} {s : List Int} {e : Int × Int} {b0 : Int} {A : Arr} (h : InC c s e (e.1 * ((c : Int) / e.2)) b0 s.length A) (h1 : 1 ≤ e.2) (h2 : e.2 ≤ s.length) (h3 : e.2.toNat ∣ c) (h4 : Int.gcd e.1 e.2 = 1) (h5 : -4 ≤ e.1) (h6 : e.1 ≤ 4) (hs : s.length ≤ 12) : Don c s A := by
  intro x hx
  obtain ⟨a, ha, rfl⟩ := List.getElem_of_mem hx
  have lx : ∀ {d : Nat} (hd : d < s.length), s.getD d 0 = s[d] := fun {d} hd => by rw [List.getD_eq_getElem?_getD, List.getElem?_eq_getElem hd]; rfl
  have il : ∀ (l : List Int) {d : Nat} (hd : d < s.length), gi l s[d] = l.getD (la s d) 0 := fun l d hd => by
    unfold gi la
    rw [lx hd]
  obtain ⟨p1, p2, p3, p4, p5, p6⟩ := h a ha
  have hc : (e.2 : Int) * ((c : Int) / e.2) = c := by
    obtain ⟨t, ht⟩ := h3
    have e2 : ((e.2.toNat : Nat) : Int) = e.2 := Int.toNat_of_nonneg (by omega)
    have : (c : Int) = e.2 * t := by rw [ht]; push_cast; rw [e2]
    rw [this, Int.mul_ediv_cancel_left _ (by omega)]
  have hs2 : ((a : Nat) : Int) + 1 ≤ 12 := by omega
  refine ⟨⟨e, ?_, h1, h3, h4, h5, h6, ?_⟩, ?_, ?_, ?_⟩
  · have : s[a].toNat = la s a := by unfold la; rw [lx ha]
    rw [this]; exact p1
  · rw [il _ ha]; exact p2
  · rw [il _ ha]; omega
  · rw [il _ ha]; omega
  rw [il A.nx ha, il A.bs ha, il A.ss ha, p2]
  by_cases hq : (a : Int) < e.2
  · obtain ⟨q1, t, q2⟩ := p5 hq
    rw [q1]
    by_cases hq2 : (a : Int) + 1 < e.2
    · rw [if_pos hq2]
      have hd : a + 1 < s.length := by omega
      obtain ⟨r1, r2, r3, r4, r5, r6⟩ := h (a + 1) hd
      obtain ⟨_, t2, r7⟩ := r5 (by push_cast; omega)
      rw [lx hd, il _ hd, il _ hd, r2, r7, q2]
      refine ⟨List.getElem_mem _, rfl, t - t2, ?_⟩
      push_cast
      rw [Int.mul_sub, Int.add_mul]
      omega
    · rw [if_neg hq2]
      have hd : 0 < s.length := by omega
      obtain ⟨r1, r2, r3, r4, r5, r6⟩ := h 0 hd
      obtain ⟨_, t2, r7⟩ := r5 (by push_cast; omega)
      rw [lx hd, il _ hd, il _ hd, r2, r7, q2]
      refine ⟨List.getElem_mem _, rfl, e.1 + t - t2, ?_⟩
      have ea : (a : Int) = e.2 - 1 := by omega
      rw [ea]
      have k1 : e.2 * (e.1 * ((c : Int) / e.2)) = c * e.1 := by
        rw [← Int.mul_assoc, Int.mul_comm e.2 e.1, Int.mul_assoc, hc, Int.mul_comm]
      have k2 : (e.2 - 1) * (e.1 * ((c : Int) / e.2)) = c * e.1 - e.1 * ((c : Int) / e.2) := by rw [Int.sub_mul, k1, Int.one_mul]
      rw [k2, Int.mul_sub, Int.mul_add]
      push_cast
      rw [Int.zero_mul]
      omega
  · obtain ⟨d, d1, d2, t, d3⟩ := p6 (by omega)
    have hd : d < s.length := by omega
    rw [d2, lx hd, il _ hd, il _ hd, (h d hd).2.1]
    exact ⟨List.getElem_mem _, rfl, t, d3⟩
theorem Don.app {c : Nat} {L M : List Int} {A : Arr} (h : Don c L A) (h' : Don c M A) : Don c (L ++ M) A := by
  intro x hx
  rcases List.mem_append.mp hx with hx | hx
  · obtain ⟨p1, p2, p3, p4, p5⟩ := h x hx
    exact ⟨p1, p2, p3, List.mem_append_left _ p4, p5⟩
  · obtain ⟨p1, p2, p3, p4, p5⟩ := h' x hx
    exact ⟨p1, p2, p3, List.mem_append_right _ p4, p5⟩
theorem es_retF {K : PySem.W.Frag} {Z : Fr} {te : TE} {env : Env} {D : Wn} (h : Ef K Z te env fun d => D.rx (ownP K Z d)) : Es K Z (tRet te) env D := fun G H σ ok D' c => by
  refine h G H σ ok _ fun d a G1 H1 hd a1 n g w => ?_
  have ok1 := ok.adv a1
  obtain ⟨fa, na⟩ := ok.newx n
  exact c.rx _ _ G1 H1 hd ok1.hz a1.gg fun G2 H2 a2 => ⟨a, rfl, a2.gr a g w.there, fa, na, w.adv na a2⟩
section
local macro_rules | `(tactic| walk_at "kb") => `(tactic| first | exact kb_ii | exact kb_ib | exact kb_tt | exact kb_tl | exact kb_lt | exact kb_ll | exact kb_dd)
local macro_rules | `(tactic| walk_at "om") => `(tactic| first | omega | (simp only [List.length_map, List.length_cons, List.length_nil]; omega))
local macro_rules | `(tactic| walk_at "s") => `(tactic| first
  | ((with_reducible show Ev _ _ _ _ _); first
    | ((with_reducible show Ev _ _ (tVar _) _ _); refine ev_var rfl ?_)
    | (with_reducible refine ev_int ?_)
    | (with_reducible refine ev_bl ?_)
    | (with_reducible refine ev_str ?_)
    | (with_reducible refine ev_non ?_)
    | (with_reducible refine ev_ty ?_)
    | (with_reducible refine ev_fn ?_)
    | (with_reducible refine ev_op ?_)
    | (with_reducible refine ev_neg ?_)
    | (with_reducible refine ev_prop ?_)
    | (with_reducible refine ev_gi ?_)
    | (with_reducible refine ev_meth ?_)
    | ((with_reducible show Ev _ _ (tMake _ _ _ _ _) _ _); refine ev_make ?_)
    | ((with_reducible show Ev _ _ (tFld _ _ _) _ _); refine ev_fldA (by assumption) ?_)
    | (with_reducible refine ev_din ?_)
    | (with_reducible refine ev_dnin ?_)
    | (with_reducible refine ev_dget ?_)
    | (with_reducible refine ev_call ?_)
    | ((with_reducible show Ev _ _ (tCall (spF _ _) _ _ _) _ _); refine ev_ef (ef_callF ?_))
    | (with_reducible refine ev_cb ?_)
    | (with_reducible refine ev_andV ?_)
    | (with_reducible refine ev_orV ?_)
    | (with_reducible refine ev_notV ?_)
    | (with_reducible refine ev_if ?_)
    | (with_reducible refine ev_chain ?_)
    | (with_reducible refine ev_tup ?_)
    | (with_reducible refine ev_lst ?_))
  | ((with_reducible show Er _ _ _ _ _ _); first
    | (with_reducible refine er_b0 ?_)
    | (with_reducible refine er_i0 ?_)
    | ((with_reducible show Er _ _ (rIxT _) _ _ _); first | refine er_ixT ⟨_, _, rfl, rfl, ?_⟩ | refine er_ixT ⟨_, _, rfl, (by assumption), ?_⟩)
    | ((with_reducible show Er _ _ (rIxL _) _ _ _); first | refine er_ixL ⟨_, rfl, ?_⟩ | refine er_ixL ⟨_, (by assumption), ?_⟩)
    | ((with_reducible show Er _ _ (rI _ _) _ _ _); first | refine er_i (Or.inl ⟨by omega, by omega⟩) ?_ | refine er_i (Or.inr ⟨by omega, by omega⟩) ?_ | refine er_i ⟨by omega, by omega⟩ ?_ | refine er_i (by omega) ?_)
    | ((with_reducible show Er _ _ (fun _ _ _ _ => _) _ _ _); first | refine er_isN ?_ | refine er_notN ?_)
    | ((with_reducible show Er _ _ rEq _ _ _); refine er_eq ⟨_, rfl, ?_⟩)
    | ((with_reducible show Er _ _ rNe _ _ _); refine er_ne ⟨_, rfl, ?_⟩))
  | ((with_reducible show Ea _ _ _ _ _); first
    | ((with_reducible show Ea _ _ (tCons (tVar _) _) _ _); refine ea_pot rfl ?_)
    | (with_reducible refine ea_nil ?_)
    | (with_reducible refine ea_v ?_))
  | ((with_reducible show Es _ _ _ _ _); first
    | (with_reducible refine es_seq ?_)
    | (with_reducible refine es_next ?_)
    | (with_reducible refine es_if ?_)
    | (with_reducible refine es_ret ?_)
    | (with_reducible refine es_set ?_)
    | (with_reducible refine es_asg ?_)
    | ((with_reducible show Es _ _ (tPar _ _ (tCons tDNewK _)) _ _); refine es_parO (by first | (simp [startE]; done) | decide) (ef_dnew ?_))
    | (with_reducible refine es_par ?_)
    | (with_reducible refine es_drop ?_))
  | ((with_reducible show Et _ _ _ _ _); first
    | (with_reducible refine et_test ?_)
    | (with_reducible refine et_B ?_)
    | (with_reducible refine et_yes ?_)
    | (with_reducible refine et_and ?_)
    | (with_reducible refine et_or ?_)
    | (with_reducible refine et_not ?_)
    | (with_reducible refine et_ifT ?_))
  | ((with_reducible show Eb _ _ _ _ _); first
    | ((with_reducible show Eb _ _ (rIsi _) [_, Ag.v (Dm.ty _)] _); refine eb_isi rfl (by walk_at "kb") ?_)
    | ((with_reducible show Eb _ _ (rIsi _) [_, Ag.v (Dm.fn _)] _); refine eb_isiC (by assumption) ?_)
    | ((with_reducible show Eb _ _ (rIsiT _) _ _); refine eb_isi2 rfl (by walk_at "kb") (by walk_at "kb") ?_)
    | ((with_reducible show Eb _ _ _ [Ag.v (Dm.int _)] _); first | refine eb_abs ?_ | refine eb_int ?_)
    | ((with_reducible show Eb _ _ (rListOf _) _ _); refine eb_list ⟨_, (by first | rfl | assumption), ?_⟩)
    | ((with_reducible show Eb _ _ _ [Ag.v _] _); refine eb_len ⟨_, (by first | rfl | assumption), ?_⟩))
  | ((with_reducible show Eg _ _ _ _ _ _); first
    | (with_reducible refine eg_nm ?_)
    | ((with_reducible show Eg _ _ (gTup _ _ _) _ _ _); refine eg_tup ⟨_, rfl, rfl, ?_⟩))
  | ((with_reducible show Egs _ _ _ _ _ _); first
    | (with_reducible refine egs_cons ?_)
    | (with_reducible refine egs_nil ?_))
  | ((with_reducible show Ed _ _ _ _ _); first
    | ((with_reducible show Ed _ _ (tVar _) _ _); first | refine ed_own rfl ?_ | refine ed_ro rfl ?_ | refine ed_frz rfl ?_ | refine ed_v (ev_var rfl ⟨_, rfl, ?_⟩)))
  | ((with_reducible show ite _ _ _); first | refine br_y rfl ?_ | refine br_n rfl ?_ | refine br_y (decide_eq_true (by walk_at "om")) ?_ | refine br_n (decide_eq_false (by walk_at "om")) ?_)
  | (with_reducible refine br_nt (by walk_at "om") ?_)
  | (with_reducible refine br_nf (by walk_at "om") ?_)
  | assumption
  | exact rfl
  | exact congrArg Dm.bl (decide_eq_true (by walk_at "om"))
  | exact congrArg Dm.bl (decide_eq_false (by walk_at "om"))
  | (with_reducible refine kb_t (by walk_at "om") ?_)
  | refine ⟨[_], rfl, sl15 (Nat.le_of_ble_eq_true rfl), ?_⟩
  | refine ⟨[_, _], rfl, sl15 (Nat.le_of_ble_eq_true rfl), ?_⟩
  | refine ⟨[_, _, _], rfl, sl15 (Nat.le_of_ble_eq_true rfl), ?_⟩
  | refine ⟨[], rfl, Nat.zero_le _, ?_⟩
  | exact ⟨_, rfl⟩
  | exact ⟨_, _, rfl⟩
  | exact ⟨_, _, _, rfl⟩
  | exact ⟨_, _, _, _, rfl⟩
  | refine ⟨_, _, rfl, rfl, ?_⟩
  | refine ⟨_, rfl, ?_⟩
  | refine ⟨_, _, rfl, ?_⟩
  | refine ⟨_, _, _, rfl, ?_⟩
  | refine ⟨_, _, _, _, rfl, ?_⟩
  | refine ⟨_, rfl, (by assumption), ?_⟩
  | refine ⟨_, _, rfl, (by assumption), ?_⟩
  | refine ⟨⟨_, _, rfl⟩, ?_⟩
  | refine And.intro (by first | assumption | walk_at "om") ?_
  | refine And.intro rfl ?_
  | (simp only [List.length_map]; assumption)
  | omega)
local macro_rules | `(tactic| walk_at "nx") => `(tactic| (repeat first | assumption | exact rfl | refine noX_set ?_ rfl))
local macro_rules | `(tactic| walk_at "gs") => `(tactic| (repeat first | exact gset_nil | exact gset_name (by decide) | exact gmono_nil | exact gmono_name | refine gset_tup ?_ | refine gmono_tup ?_ | refine gset_cons ?_ ?_ ?_ ?_ | refine gmono_cons ?_ ?_))
local macro_rules | `(tactic| walk_at "pl") => `(tactic| (simp only [plainE, List.set_cons_zero, List.set_cons_succ, List.all_cons, List.all_nil, Bool.and_true, Bool.and_self, Bool.true_and, pc_v, pc_pot, pc_none, *]))
variable {P : Program} {w : World} {K : PySem.W.Frag} {mg : Str → Option Value} {base : Heap}
def W__law_pot : Wx := fun as Z k => ∃ (ns : List Int) (i : Nat), as = [.v (.scr ns), .v (.int (i : Nat))] ∧ i ≤ 100 ∧ ∀ x y : Int, k (ownP K Z (.lst [.int x, .int y]))
theorem h__law_pot (T : Kt K mg) : Held P w K mg base 1 T.a__law_pot (spF K (W__law_pot (K := K))) := by
  obtain ⟨fd, F⟩ := T.f__law_pot
  have sc := sc__law_pot
  refine held_of F sc (fun vs H Q E h => ?_) (fun _ _ _ _ _ _ us hl => match us, hl with | [_, _], _ => rfl) fun cdv A outer s H E hr => ?_
  · exact spF_len (fun as Z k h => by obtain ⟨_, _, rfl, _⟩ := h; rfl) vs H Q E h
  have hu := hu_of hr
  have hF_ : Cls K T.C_Family ∧ NoAttr K T.C_Family "own_lots" := ⟨T.isF.cl, T.naF⟩
  have hM_ : Cls K T.C_Map ∧ NoAttr K T.C_Map "own_families" := ⟨T.isM.cl, T.naM⟩
  have iF_ := T.isF
  have iM_ := T.isM
  refine ⟨_, (pss_cons (ps_set (i := 2) sc.nd rfl (by first | exact Or.inl rfl | exact Or.inr rfl) (pe_ifExp (pt_cmpR op_lt (pv 1) (pe_callB (call_lenK (K := K) rfl) (by rfl) T.n_len (by decide +kernel) (pa_cons (pv 0) pa_nil)) (nomark _)) (pe_callB call_abs (by rfl) T.n_abs (by decide +kernel) (pa_cons (pe_ix (ix_listK (K := K) rfl) (pv 0) (pv 1) (fun _ _ => rfl)) pa_nil)) (pe_op op_add (pe_op op_mul pe_int (pv 1)) pe_int)))
      (pss_one (ps_ret (pe_lst (pa_cons (pe_callB (call_max2 rfl) (by rfl) T.n_max (by decide +kernel) (pa_cons pe_int (pa_cons (pe_op op_sub (pv 2) (pe_op op_pow pe_int pe_int)) pa_nil))) (pa_cons (pe_op op_add (pe_op op_mod (pe_callTy call_int1 (by rfl) T.n_int (by decide +kernel) (pa_cons (pe_op op_add (pe_op op_add (pe_op op_mul (pe_op op_mod (pe_callTy call_int1 (by rfl) T.n_int (by decide +kernel) (pa_cons (pv 2) pa_nil)) pe_int) pe_int) (pe_op op_mul pe_int (pv 1))) pe_int) pa_nil)) pe_int) pe_int) pa_nil)))))),
    fun vs Q sp => ?_⟩
  refine body_okF (fun Z as k hw => ?_) sp
  obtain ⟨ns, i, rfl, h0, hk⟩ := hw
  try dsimp only [cxOf, Cx.nox]
  refine es_seq (es_set (Ev.mono (k := fun d => ∃ j : Int, d = .int j) (ev_if (et_test ?_)) fun d ⟨j, hj⟩ => ?_))
  · repeat walk_at "s"
    refine eb_lenS ?_
    repeat walk_at "s"
    refine br_d (fun hc => ?_) (fun hc => ?_)
    · have hi : i < ns.length := by omega
      have e : ns[i]? = some (ns.getD i 0) := by rw [List.getD_eq_getElem?_getD, List.getElem?_eq_getElem hi]; rfl
      exact ev_cb (ea_v (ev_op (ev_var rfl (ev_var rfl (er_ixS ⟨ns.getD i 0, atI_nat e, ea_nil (eb_abs ⟨_, rfl⟩)⟩)))))
    · exact ev_op (ev_op (ev_int (ev_var rfl (er_i (Or.inl ⟨by omega, by omega⟩) (ev_int (er_i0 ⟨_, rfl⟩))))))
  · subst hj
    refine es_retF (ef_lst (ea_v (ev_cb (ea_v (ev_int (ea_v (ev_op (ev_var rfl (ev_op (ev_int (ev_int (er_i ⟨by omega, by decide, by decide⟩ (er_i0 (ea_nil (eb_max2 ?_)))))))))))))))
    refine ea_v (ev_op (ev_op (ev_cb (ea_v (ev_op (ev_op (ev_op (ev_op (ev_cb (ea_v (ev_var rfl (ea_nil (eb_int (ev_int (er_i (by decide) (ev_int (er_i (Or.inr ⟨by omega, by omega⟩) ?_)))))))))))))))))
    refine ev_op (ev_int (ev_var rfl (er_i (Or.inl ⟨by omega, by omega⟩) (er_i0 (ev_int (er_i0 (ea_nil (eb_int (ev_int (er_i (by decide) (ev_int (er_i0 (ea_nil ⟨[_, _], rfl, sl15 (Nat.le_of_ble_eq_true rfl), hk _ _⟩)))))))))))))
/-! ### the world -/
structure Wg (W : Wd) (n : Nat) : Prop where
  lp : W.ps.length = n
  ls : W.ss.length = n
  lb : W.bs.length = n
  lx : W.nx.length = n
  n1 : 1 ≤ n
  n2 : n ≤ 5
  c1 : 1 ≤ W.c
  c2 : W.c ≤ 60
  pq : ∀ e ∈ W.ps, 1 ≤ e.2 ∧ e.2.toNat ∣ W.c ∧ Int.gcd e.1 e.2 = 1 ∧ -4 ≤ e.1 ∧ e.1 ≤ 4
  cm : cmnN W.ps = W.c
  st : W.ss = stepsL W.c W.ps
  sb : ∀ i : Nat, i < n → -1000 ≤ gi W.ss (i : Nat) ∧ gi W.ss (i : Nat) ≤ 1000
  bb : ∀ i : Nat, i < n → -30000 ≤ gi W.bs (i : Nat) ∧ gi W.bs (i : Nat) ≤ 30000
  nx : ∀ i : Nat, i < n → ∃ j : Nat, gi W.nx (i : Nat) = (j : Nat) ∧ j < n ∧ gi W.ss (j : Nat) = gi W.ss (i : Nat) ∧ ∃ t : Int, gi W.bs (i : Nat) + gi W.ss (i : Nat) - gi W.bs (j : Nat) = W.c * t
theorem cmn_mem {ps : List (Int × Int)} : ∀ e ∈ ps, e.2.toNat ∣ cmnN ps := by
  have key : ∀ (ps : List (Int × Int)) (a : Nat), a ∣ ps.foldl (fun f e => Nat.lcm f e.2.toNat) a ∧ ∀ e ∈ ps, e.2.toNat ∣ ps.foldl (fun f e => Nat.lcm f e.2.toNat) a := by
    intro ps
    induction ps with
    | nil => intro a; exact ⟨Nat.dvd_refl _, by simp⟩
    | cons b ps ih =>
      intro a
      obtain ⟨h1, h2⟩ := ih (Nat.lcm a b.2.toNat)
      refine ⟨Nat.dvd_trans (Nat.dvd_lcm_left ..) h1, fun e he => ?_⟩
      rcases List.mem_cons.mp he with rfl | he
      · exact Nat.dvd_trans (Nat.dvd_lcm_right ..) h1
      · exact h2 e he
  exact (key ps 1).2
def gcdE (s : List Int) (e : Int × Int) : Prop := 1 ≤ e.2 ∧ e.2 ≤ s.length ∧ Int.gcd e.1 e.2 = 1 ∧ -4 ≤ e.1 ∧ e.1 ≤ 4
theorem cmn_le {cs : List (List Int)} {ts : List (Int × Int)} (h : Al gcdE cs ts) : cmnN ts ≤ 2 ^ cs.flatten.length := by
  have key : ∀ {cs : List (List Int)} {ts : List (Int × Int)}, Al gcdE cs ts → ∀ a : Nat, ts.foldl (fun f e => Nat.lcm f e.2.toNat) a ≤ a * 2 ^ cs.flatten.length := by
    intro cs ts h
    induction h with
    | nil => intro a; simp
    | @cons s e cs ts hx _ ih =>
      intro a
      obtain ⟨h1, h2, _⟩ := hx
      refine Nat.le_trans (ih (Nat.lcm a e.2.toNat)) ?_
      rw [List.flatten_cons, List.length_append, Nat.pow_add, ← Nat.mul_assoc]
      refine Nat.mul_le_mul_right _ ?_
      have h3 : Nat.lcm a e.2.toNat ≤ a * e.2.toNat := by
        unfold Nat.lcm
        exact Nat.div_le_self _ _
      have h4 : e.2.toNat ≤ 2 ^ s.length := Nat.le_trans (by omega) (Nat.le_of_lt Nat.lt_two_pow_self)
      exact Nat.le_trans h3 (Nat.mul_le_mul_left _ h4)
  have := key h 1
  unfold cmnN
  omega
theorem cmn_pos {ts : List (Int × Int)} (h : ∀ e ∈ ts, 1 ≤ e.2) : 1 ≤ cmnN ts := by
  have key : ∀ (ts : List (Int × Int)), (∀ e ∈ ts, 1 ≤ e.2) → ∀ a : Nat, 1 ≤ a → 1 ≤ ts.foldl (fun f e => Nat.lcm f e.2.toNat) a := by
    intro ts
    induction ts with
    | nil => intro _ a ha; exact ha
    | cons e ts ih =>
      intro he a ha
      refine ih (fun x hx => he x (List.mem_cons_of_mem _ hx)) _ ?_
      have := he e (List.mem_cons_self ..)
      exact Nat.lcm_pos ha (by omega)
  exact key ts h 1 (Nat.le_refl _)
theorem split_flat {cs : List (List Int)} {j : Nat} {s : List Int} (h : cs[j]? = some s) : cs.flatten = (cs.take j).flatten ++ (s ++ (cs.drop (j + 1)).flatten) := by
  obtain ⟨hj, rfl⟩ := List.getElem?_eq_some_iff.mp h
  have e := List.take_append_drop j cs
  rw [List.drop_eq_getElem_cons hj] at e
  conv => lhs; rw [← e]
  rw [List.flatten_append, List.flatten_cons]
theorem mem_range {n : Nat} {L : List Int} (hp : L.Perm ((List.range n).map fun i => ((i : Nat) : Int))) {x : Int} : x ∈ L ↔ ∃ i : Nat, x = i ∧ i < n := by
  rw [hp.mem_iff, List.mem_map]
  constructor
  · rintro ⟨i, hi, rfl⟩
    exact ⟨i, rfl, List.mem_range.mp hi⟩
  · rintro ⟨i, rfl, hi⟩
    exact ⟨i, List.mem_range.mpr hi, rfl⟩
theorem nodup_range {n : Nat} {L : List Int} (hp : L.Perm ((List.range n).map fun i => ((i : Nat) : Int))) : L.Nodup :=
  hp.nodup_iff.mpr (List.Pairwise.map _ (fun a b h e => h (Int.ofNat_inj.mp e)) List.nodup_range)
theorem wg_of {cs : List (List Int)} {ts : List (Int × Int)} {n : Nat} {A : Arr} (hl : A.len n) (hd : Don (cmnN ts) cs.flatten A) (hp : cs.flatten.Perm ((List.range n).map fun i => ((i : Nat) : Int)))
    (hr : ∀ t ∈ ts, ∃ x ∈ cs.flatten, A.ps.getD x.toNat (0, 1) = t) (hc1 : 1 ≤ cmnN ts) (hc2 : cmnN ts ≤ 60) (n1 : 1 ≤ n) (n2 : n ≤ 5) : Wg ⟨cmnN ts, A.ps, A.ss, A.bs, A.nx⟩ n := by
  obtain ⟨l1, l2, l3, l4⟩ := hl
  have at_ : ∀ i : Nat, i < n → ∃ e : Int × Int, A.ps[i]? = some e ∧ 1 ≤ e.2 ∧ e.2.toNat ∣ cmnN ts ∧ Int.gcd e.1 e.2 = 1 ∧ -4 ≤ e.1 ∧ e.1 ≤ 4 ∧ gi A.ss (i : Nat) = e.1 * ((cmnN ts : Int) / e.2) := fun i hi => by
    obtain ⟨⟨e, e1, e2⟩, _⟩ := hd (i : Nat) ((mem_range hp).mpr ⟨i, rfl, hi⟩)
    refine ⟨e, ?_, e2⟩
    rw [Int.toNat_natCast, List.getD_eq_getElem?_getD, List.getElem?_eq_getElem (by omega)] at e1
    rw [List.getElem?_eq_getElem (by omega), ← e1]; rfl
  have mem_ : ∀ e ∈ A.ps, ∃ i : Nat, i < n ∧ A.ps[i]? = some e := fun e he => by
    obtain ⟨i, hi, rfl⟩ := List.getElem_of_mem he
    exact ⟨i, by omega, List.getElem?_eq_getElem hi⟩
  have pq : ∀ e ∈ A.ps, 1 ≤ e.2 ∧ e.2.toNat ∣ cmnN ts ∧ Int.gcd e.1 e.2 = 1 ∧ -4 ≤ e.1 ∧ e.1 ≤ 4 := fun e he => by
    obtain ⟨i, hi, h⟩ := mem_ e he
    obtain ⟨e', h1, h2, h3, h4, h5, h6, _⟩ := at_ i hi
    rw [h] at h1
    cases h1
    exact ⟨h2, h3, h4, h5, h6⟩
  refine ⟨l1, l2, l3, l4, n1, n2, hc1, hc2, pq, ?_, ?_, fun i hi => ?_, fun i hi => ?_, fun i hi => ?_⟩
  · refine Nat.dvd_antisymm (cmn_dvd fun e he => (pq e he).2.1) (cmn_dvd fun t ht => ?_)
    obtain ⟨x, hx, e⟩ := hr t ht
    obtain ⟨i, rfl, hi⟩ := (mem_range hp).mp hx
    refine cmn_mem t ?_
    rw [Int.toNat_natCast, List.getD_eq_getElem?_getD, List.getElem?_eq_getElem (by omega)] at e
    rw [← e]
    exact List.getElem_mem _
  · refine List.ext_getElem? fun i => ?_
    by_cases hi : i < n
    · obtain ⟨e, h1, _, _, _, _, _, h7⟩ := at_ i hi
      show A.ss[i]? = (stepsL (cmnN ts) A.ps)[i]?
      unfold stepsL
      rw [List.getElem?_map, h1, List.getElem?_eq_getElem (by omega)]
      unfold gi at h7
      rw [Int.toNat_natCast, List.getD_eq_getElem?_getD, List.getElem?_eq_getElem (by omega)] at h7
      exact congrArg some h7
    · show A.ss[i]? = (stepsL (cmnN ts) A.ps)[i]?
      rw [List.getElem?_eq_none (by omega), List.getElem?_eq_none (by rw [stepsL_len]; omega)]
  · obtain ⟨e, h1, h2, h3, h4, h5, h6, h7⟩ := at_ i hi
    show -1000 ≤ gi A.ss (i : Nat) ∧ gi A.ss (i : Nat) ≤ 1000
    rw [h7]
    have q1 : 0 ≤ (cmnN ts : Int) / e.2 := Int.ediv_nonneg (by omega) (by omega)
    have q2 : (cmnN ts : Int) / e.2 ≤ 60 := Int.le_trans (Int.ediv_le_self _ (by omega)) (by omega)
    have hm1 : e.1 * ((cmnN ts : Int) / e.2) ≤ 4 * ((cmnN ts : Int) / e.2) := Int.mul_le_mul_of_nonneg_right h6 q1
    have hm2 : (-4) * ((cmnN ts : Int) / e.2) ≤ e.1 * ((cmnN ts : Int) / e.2) := Int.mul_le_mul_of_nonneg_right h5 q1
    omega
  · obtain ⟨_, h1, h2, _⟩ := hd (i : Nat) ((mem_range hp).mpr ⟨i, rfl, hi⟩)
    exact ⟨h1, h2⟩
  · obtain ⟨_, _, _, h3, h4, t, h5⟩ := hd (i : Nat) ((mem_range hp).mpr ⟨i, rfl, hi⟩)
    obtain ⟨j, e, hj⟩ := (mem_range hp).mp h3
    rw [e] at h4 h5
    exact ⟨j, e, hj, h4, t, h5⟩
end
end Ln
/-! K22: the law's own world. -/
namespace Ln
open PySem PySem.Spec PyProof.Rows L2
theorem al_get {α β : Type} {R : α → β → Prop} : ∀ {xs : List α} {ys : List β} {i : Nat} {x : α}, Al R xs ys → xs[i]? = some x → ∃ y, ys[i]? = some y ∧ R x y
  | _, _, _, _, .nil, h => by simp at h
  | _, _, 0, _, .cons a b, h => by simp at h; subst h; exact ⟨_, rfl, a⟩
  | _, _, i + 1, _, .cons a b, h => by simp at h; simpa using al_get b h
theorem find_uniq {α : Type} {q : α → Bool} {y : α} : ∀ {l : List α}, y ∈ l → q y = true → (∀ z ∈ l, q z = true → z = y) → l.find? q = some y
  | [], h, _, _ => by simp at h
  | a :: l, h, hq, hu => by
    by_cases ha : q a = true
    · rw [List.find?_cons_of_pos ha, hu a (List.mem_cons_self ..) ha]
    · rw [List.find?_cons_of_neg ha]
      refine find_uniq ?_ hq fun z hz => hu z (List.mem_cons_of_mem _ hz)
      rcases List.mem_cons.mp h with rfl | h
      · exact absurd hq ha
      · exact h
theorem lookQ {τ : Type} {f : Nat → Int × τ × Int} (hf : ∀ i, (f i).1 = (i : Nat)) {n : Nat} {p : Nat → Bool} {j : Nat} (hj : j < n) (hp : p j = true) : lookT (((List.range n).filter p).map f) (j : Nat) = some (f j) := by
  unfold lookT
  refine find_uniq (List.mem_map_of_mem (List.mem_filter.mpr ⟨List.mem_range.mpr hj, hp⟩)) (by simp [hf]) fun z hz hq => ?_
  obtain ⟨i, _, rfl⟩ := List.mem_map.mp hz
  have : ((i : Nat) : Int) = j := by rw [← hf i]; simpa using hq
  rw [Int.ofNat_inj.mp this]
theorem okE_at {τ : Type} {ql : List (Int × τ × Int)} {r : Int × Int} {h : Int} {e : Int × Int} {y : Int × τ × Int} (hl : lookT ql e.1 = some y) : okE ql r h e = decide (r.2 * e.2 + y.2.2 ≤ h + r.1) := by
  unfold okE
  rw [hl]
theorem okG_at {τ : Type} {ql : List (Int × τ × Int)} {r : Int × Int} {h : Int} {e : Int × Int} {y : Int × τ × Int} (hl : lookT ql e.1 = some y) : okG ql r h e = decide (r.2 * e.2 + y.2.2 ≥ h + r.1) := by
  unfold okG
  rw [hl]
/-- what the plain law leans on: lots of lanes below n, for each lane one that holds, in each one that picks, keys once -/
structure Pl (c : Int) (ss bs : List Int) (fs : List (List Lot)) (n : Nat) : Prop where
  ln : fs.length = n
  inn : ∀ i, i < n → LotsIn n (fs.getD i [])
  hold : ∀ i, i < n → ∃ l ∈ fs.getD i [], heldL c ss bs (i : Nat) l = true
  pick : ∀ i, i < n → ∀ l ∈ fs.getD i [], ∃ e ∈ l, pickedE c ss bs (i : Nat) e = true
  nd : ∀ i, i < n → ∀ l ∈ fs.getD i [], (l.map (·.1)).Nodup
def planQ (c : Int) (ss bs : List Int) (fs : List (List Lot)) (lane : Int) (m : Nat) : List (Int × Lot × Int) :=
  ((List.range m).filter fun i => decide (gi ss (i : Nat) ≤ gi ss lane)).map fun i => (((i : Nat) : Int), hol c ss bs (i : Nat) (fs.getD i []), gi bs (i : Nat))
section
variable {c : Int} {ss bs : List Int} {fs : List (List Lot)} {n lane : Nat}
theorem held_iff {i : Int} {e : Int × Int} : heldE c ss bs i e = true ↔ gi ss e.1 ≤ gi ss i ∧ gi bs e.1 + c * e.2 ≤ gi bs i + gi ss i := by simp [heldE]
theorem picked_iff {i : Int} {e : Int × Int} : pickedE c ss bs i e = true ↔ gi ss i ≤ gi ss e.1 ∧ gi bs i + gi ss i ≤ gi bs e.1 + c * e.2 := by simp [pickedE]
theorem Pl.hol (h : Pl c ss bs fs n) {i : Nat} (hi : i < n) : Ln.hol c ss bs i (fs.getD i []) ∈ fs.getD i [] ∧ ∀ e ∈ Ln.hol c ss bs i (fs.getD i []), heldE c ss bs (i : Nat) e = true := by
  have hf := hol_find (h.hold i hi)
  have hh : heldL c ss bs (i : Nat) (Ln.hol c ss bs (i : Nat) (fs.getD i [])) = true := List.find?_some hf
  exact ⟨List.mem_of_find?_eq_some hf, fun e he => List.all_eq_true.mp hh e he⟩
theorem Pl.low (h : Pl c ss bs fs n) {i : Nat} (hi : i < n) {l : Lot} (hl : l ∈ fs.getD i []) {e : Int × Int} (he : e ∈ l) : ∃ j : Nat, e.1 = j ∧ j < n := by
  obtain ⟨h0, h1⟩ := (h.inn i hi l hl).2 e he
  exact ⟨e.1.toNat, by omega, by omega⟩
theorem planQ_look {j : Nat} (hj : j < n) (hp : gi ss (j : Nat) ≤ gi ss (lane : Nat)) : lookT (planQ c ss bs fs (lane : Nat) n) (j : Nat) = some (((j : Nat) : Int), hol c ss bs (j : Nat) (fs.getD j []), gi bs (j : Nat)) :=
  lookQ (f := fun i => (((i : Nat) : Int), hol c ss bs (i : Nat) (fs.getD i []), gi bs (i : Nat))) (fun _ => rfl) hj (decide_eq_true hp)
theorem planQ_mem {x : Int × Lot × Int} (hx : x ∈ planQ c ss bs fs (lane : Nat) n) : ∃ i : Nat, i < n ∧ gi ss (i : Nat) ≤ gi ss (lane : Nat) ∧ x = (((i : Nat) : Int), hol c ss bs (i : Nat) (fs.getD i []), gi bs (i : Nat)) := by
  obtain ⟨i, hi, rfl⟩ := List.mem_map.mp hx
  obtain ⟨h1, h2⟩ := List.mem_filter.mp hi
  exact ⟨i, List.mem_range.mp h1, of_decide_eq_true h2, rfl⟩
theorem ansK_look {j : Nat} (hj : j < n) (hp : gi ss (j : Nat) ≥ gi ss (lane : Nat)) : lookT (ansK c ss bs fs (lane : Nat) n) (j : Nat) = some (((j : Nat) : Int), (fs.getD j []).map (pickL c ss bs (j : Nat)), gi bs (j : Nat)) :=
  lookQ (f := fun i => (((i : Nat) : Int), (fs.getD i []).map (pickL c ss bs (i : Nat)), gi bs (i : Nat))) (fun _ => rfl) hj (decide_eq_true hp)
theorem ansK_mem {x : Int × List Int × Int} (hx : x ∈ ansK c ss bs fs (lane : Nat) n) : ∃ i : Nat, i < n ∧ gi ss (i : Nat) ≥ gi ss (lane : Nat) ∧ x = (((i : Nat) : Int), (fs.getD i []).map (pickL c ss bs (i : Nat)), gi bs (i : Nat)) := by
  obtain ⟨i, hi, rfl⟩ := List.mem_map.mp hx
  obtain ⟨h1, h2⟩ := List.mem_filter.mp hi
  exact ⟨i, List.mem_range.mp h1, of_decide_eq_true h2, rfl⟩
theorem plan_ok (h : Pl c ss bs fs n) : planOk (gi ss (lane : Nat), c) (planQ c ss bs fs (lane : Nat) n) = true := by
  refine List.all_eq_true.mpr fun x hx => List.all_eq_true.mpr fun e he => ?_
  obtain ⟨i, hi, h1, rfl⟩ := planQ_mem hx
  obtain ⟨h2, h3⟩ := h.hol hi
  obtain ⟨h4, h5⟩ := held_iff.mp (h3 e he)
  obtain ⟨j, e1, hj⟩ := h.low hi h2 he
  rw [e1] at h4 h5
  rw [okE_at (by rw [e1]; exact planQ_look hj (Int.le_trans h4 h1))]
  exact decide_eq_true (show c * e.2 + gi bs (j : Nat) ≤ gi bs (i : Nat) + gi ss (lane : Nat) by omega)
theorem plan_no (h : Pl c ss bs fs n) (hl : lane < n) : planOk (gi ss (lane : Nat) - 1, c) (planQ c ss bs fs (lane : Nat) n) = false := by
  rw [Bool.eq_false_iff]
  intro ht
  obtain ⟨h2, h3⟩ := h.hol hl
  obtain ⟨e, he, hp⟩ := h.pick lane hl _ h2
  obtain ⟨p1, p2⟩ := picked_iff.mp hp
  obtain ⟨q1, q2⟩ := held_iff.mp (h3 e he)
  have hx : (((lane : Nat) : Int), hol c ss bs (lane : Nat) (fs.getD lane []), gi bs (lane : Nat)) ∈ planQ c ss bs fs (lane : Nat) n :=
    List.mem_map_of_mem (f := fun i : Nat => (((i : Nat) : Int), hol c ss bs (i : Nat) (fs.getD i []), gi bs (i : Nat))) (List.mem_filter.mpr ⟨List.mem_range.mpr hl, decide_eq_true (Int.le_refl _)⟩)
  have := List.all_eq_true.mp (List.all_eq_true.mp ht _ hx) e he
  obtain ⟨j, e1, hj⟩ := h.low hl h2 he
  rw [e1] at q1 q2 p1 p2
  rw [okE_at (by rw [e1]; exact planQ_look hj q1)] at this
  have : c * e.2 + gi bs (j : Nat) ≤ gi bs (lane : Nat) + (gi ss (lane : Nat) - 1) := of_decide_eq_true this
  omega
theorem zip_self {α β : Type} (f : α → β) : ∀ l : List α, (l.map f).zip l = l.map fun x => (f x, x)
  | [] => rfl
  | a :: l => by simp [zip_self f l]
theorem Pl.first (h : Pl c ss bs fs n) {i : Nat} (hi : i < n) {l : Lot} (hl : l ∈ fs.getD i []) : ∃ e ∈ l, pickedE c ss bs (i : Nat) e = true ∧ pickL c ss bs (i : Nat) l = e.1 ∧ look l e.1 = some e.2 := by
  obtain ⟨e0, h0, h1⟩ := h.pick i hi l hl
  cases hf : l.find? (pickedE c ss bs (i : Nat)) with
  | none => exact absurd h1 (List.find?_eq_none.mp hf e0 h0)
  | some e =>
    have hm := List.mem_of_find?_eq_some hf
    exact ⟨e, hm, List.find?_some hf, pick_find hf, look_self (h.nd i hi l hl) e hm⟩
theorem stepsA_eq (c : Int) (ss bs : List Int) (fs : List (List Lot)) (i : Nat) (b : Int) : stepsA fs (((i : Nat) : Int), (fs.getD i []).map (pickL c ss bs (i : Nat)), b) = (fs.getD i []).map fun l => (pickL c ss bs (i : Nat) l, (look l (pickL c ss bs (i : Nat) l)).getD 0) := by
  unfold stepsA
  show (((fs.getD i []).map (pickL c ss bs (i : Nat))).zip (fs.getD (((i : Nat) : Int)).toNat [])).map _ = _
  rw [Int.toNat_natCast, zip_self, List.map_map]; rfl
theorem ans_ok (h : Pl c ss bs fs n) : ansOk (gi ss (lane : Nat), c) fs (ansK c ss bs fs (lane : Nat) n) = true := by
  refine List.all_eq_true.mpr fun x hx => List.all_eq_true.mpr fun g hg => ?_
  obtain ⟨i, hi, h1, rfl⟩ := ansK_mem hx
  rw [stepsA_eq] at hg
  obtain ⟨l, hl, rfl⟩ := List.mem_map.mp hg
  obtain ⟨e, he, h2, h3, h4⟩ := h.first hi hl
  rw [h3, h4]
  obtain ⟨p1, p2⟩ := picked_iff.mp h2
  obtain ⟨j, e1, hj⟩ := h.low hi hl he
  rw [e1] at p1 p2
  rw [okG_at (by show lookT _ e.1 = _; rw [e1]; exact ansK_look hj (Int.le_trans h1 p1))]
  exact decide_eq_true (show c * e.2 + gi bs (j : Nat) ≥ gi bs (i : Nat) + gi ss (lane : Nat) by omega)
theorem ans_no (h : Pl c ss bs fs n) (hl : lane < n) : ansOk (gi ss (lane : Nat) + 1, c) fs (ansK c ss bs fs (lane : Nat) n) = false := by
  rw [Bool.eq_false_iff]
  intro ht
  obtain ⟨h2, h3⟩ := h.hol hl
  obtain ⟨e, he, hp, e3, e4⟩ := h.first hl h2
  obtain ⟨p1, p2⟩ := picked_iff.mp hp
  obtain ⟨q1, q2⟩ := held_iff.mp (h3 e he)
  have hx : (((lane : Nat) : Int), (fs.getD lane []).map (pickL c ss bs (lane : Nat)), gi bs (lane : Nat)) ∈ ansK c ss bs fs (lane : Nat) n :=
    List.mem_map_of_mem (f := fun i : Nat => (((i : Nat) : Int), (fs.getD i []).map (pickL c ss bs (i : Nat)), gi bs (i : Nat))) (List.mem_filter.mpr ⟨List.mem_range.mpr hl, decide_eq_true (Int.le_refl _)⟩)
  have h5 := List.all_eq_true.mp ht _ hx
  rw [stepsA_eq] at h5
  have := List.all_eq_true.mp h5 _ (List.mem_map_of_mem h2)
  rw [e3, e4] at this
  obtain ⟨j, e1, hj⟩ := h.low hl h2 he
  rw [e1] at q1 q2 p1 p2
  rw [okG_at (by show lookT _ e.1 = _; rw [e1]; exact ansK_look hj p1)] at this
  have : c * e.2 + gi bs (j : Nat) ≥ gi bs (lane : Nat) + (gi ss (lane : Nat) + 1) := of_decide_eq_true this
  omega
/-! ### bounds along rounds -/
def Up (c : Int) (ss bs : List Int) (n lane : Nat) (hi : Int) (m : Nat) (cs : List Int) : Prop := ∀ i : Nat, i < n → gi ss (i : Nat) ≤ gi ss (lane : Nat) → c * gi cs (i : Nat) ≤ m * gi ss (lane : Nat) + gi bs (i : Nat) + hi
def Lo (c : Int) (ss bs : List Int) (n lane : Nat) (lo : Int) (m : Nat) (cs : List Int) : Prop := ∀ i : Nat, i < n → gi ss (i : Nat) ≥ gi ss (lane : Nat) → (m : Int) * gi ss (lane : Nat) + gi bs (i : Nat) + lo ≤ c * gi cs (i : Nat)
theorem told_get {cs ms : List Int} (h : Pl c ss bs fs n) (ht : Al (Told cs) fs ms) {i : Nat} (hi : i < n) : Told cs (fs.getD i []) (gi ms (i : Nat)) := by
  have hf : fs[i]? = some (fs.getD i []) := by
    rw [List.getD_eq_getElem?_getD, List.getElem?_eq_getElem (by rw [h.ln]; exact hi)]; rfl
  obtain ⟨y, h1, h2⟩ := al_get ht hf
  have : gi ms (i : Nat) = y := by
    unfold gi
    rw [Int.toNat_natCast, List.getD_eq_getElem?_getD, h1]; rfl
  rw [this]; exact h2
theorem up_step {hi : Int} {m : Nat} {cs ms : List Int} (hc : 0 ≤ c) (h : Pl c ss bs fs n) (hu : Up c ss bs n lane hi m cs) (ht : Al (Told cs) fs ms) : Up c ss bs n lane hi (m + 1) ms := by
  intro i hin hle
  obtain ⟨_, h2⟩ := told_get h ht hin
  obtain ⟨h3, h4⟩ := h.hol hin
  obtain ⟨e, he, h5⟩ := h2 _ h3
  obtain ⟨q1, q2⟩ := held_iff.mp (h4 e he)
  obtain ⟨j, e1, hj⟩ := h.low hin h3 he
  rw [e1] at q1 q2 h5
  have h6 := hu j hj (Int.le_trans q1 hle)
  have h7 := Int.mul_le_mul_of_nonneg_left h5 hc
  rw [Int.mul_add] at h7
  push_cast
  rw [Int.add_mul, Int.one_mul]
  omega
theorem lo_step {lo : Int} {m : Nat} {cs ms : List Int} (hc : 0 ≤ c) (h : Pl c ss bs fs n) (hu : Lo c ss bs n lane lo m cs) (ht : Al (Told cs) fs ms) : Lo c ss bs n lane lo (m + 1) ms := by
  intro i hin hle
  obtain ⟨⟨l, hl, h2⟩, _⟩ := told_get h ht hin
  obtain ⟨e, he, hp⟩ := h.pick i hin l hl
  obtain ⟨q1, q2⟩ := picked_iff.mp hp
  obtain ⟨j, e1, hj⟩ := h.low hin hl he
  have h5 := h2 e he
  rw [e1] at q1 q2 h5
  have h6 := hu j hj (Int.le_trans hle q1)
  have h7 := Int.mul_le_mul_of_nonneg_left h5 hc
  rw [Int.mul_add] at h7
  push_cast
  rw [Int.add_mul, Int.one_mul]
  omega
theorem up_zero {hi : Int} {cs : List Int} (hh : ∀ y ∈ gapsOf (gi ss (lane : Nat), c) (planQ c ss bs fs (lane : Nat) n) cs, y ≤ hi) : Up c ss bs n lane hi 0 cs := by
  intro i hin hle
  have hx : (((i : Nat) : Int), hol c ss bs (i : Nat) (fs.getD i []), gi bs (i : Nat)) ∈ planQ c ss bs fs (lane : Nat) n :=
    List.mem_map_of_mem (f := fun i : Nat => (((i : Nat) : Int), hol c ss bs (i : Nat) (fs.getD i []), gi bs (i : Nat))) (List.mem_filter.mpr ⟨List.mem_range.mpr hin, decide_eq_true hle⟩)
  have := hh _ (List.mem_map_of_mem (f := fun x : Int × Lot × Int => c * gi cs x.1 - x.2.2) hx)
  have : c * gi cs (i : Nat) - gi bs (i : Nat) ≤ hi := this
  push_cast
  rw [Int.zero_mul]
  omega
theorem lo_zero {lo : Int} {cs : List Int} (hh : ∀ y ∈ gapsOf (gi ss (lane : Nat), c) (ansK c ss bs fs (lane : Nat) n) cs, lo ≤ y) : Lo c ss bs n lane lo 0 cs := by
  intro i hin hle
  have hx : (((i : Nat) : Int), (fs.getD i []).map (pickL c ss bs (i : Nat)), gi bs (i : Nat)) ∈ ansK c ss bs fs (lane : Nat) n :=
    List.mem_map_of_mem (f := fun i : Nat => (((i : Nat) : Int), (fs.getD i []).map (pickL c ss bs (i : Nat)), gi bs (i : Nat))) (List.mem_filter.mpr ⟨List.mem_range.mpr hin, decide_eq_true hle⟩)
  have := hh _ (List.mem_map_of_mem (f := fun x : Int × List Int × Int => c * gi cs x.1 - x.2.2) hx)
  have : lo ≤ c * gi cs (i : Nat) - gi bs (i : Nat) := this
  push_cast
  rw [Int.zero_mul]
  omega
theorem up_end {hi : Int} {m : Nat} {cs : List Int} (hc : 0 < c) (hl : lane < n) (hu : Up c ss bs n lane hi m cs) : gi cs (lane : Nat) ≤ (m * gi ss (lane : Nat) + gi bs (lane : Nat) + hi) / c := by
  have := hu lane hl (Int.le_refl _)
  rw [Int.mul_comm] at this
  exact (Int.le_ediv_iff_mul_le hc).mpr this
theorem lo_end {lo : Int} {m : Nat} {cs : List Int} (hc : 0 < c) (hl : lane < n) (hu : Lo c ss bs n lane lo m cs) : 0 - (0 - (m * gi ss (lane : Nat) + gi bs (lane : Nat) + lo)) / c ≤ gi cs (lane : Nat) := by
  have h := hu lane hl (Int.le_refl _)
  have : -gi cs (lane : Nat) ≤ (0 - (m * gi ss (lane : Nat) + gi bs (lane : Nat) + lo)) / c := by
    refine (Int.le_ediv_iff_mul_le hc).mpr ?_
    rw [Int.neg_mul, Int.mul_comm]
    omega
  omega
end
theorem len_le_flat : ∀ {cs : List (List Int)}, (∀ c ∈ cs, c ≠ []) → cs.length ≤ cs.flatten.length
  | [], _ => by simp
  | c :: cs, h => by
    have := len_le_flat fun x hx => h x (List.mem_cons_of_mem _ hx)
    have hc := List.length_pos_iff.mpr (h c (List.mem_cons_self ..))
    rw [List.flatten_cons, List.length_append, List.length_cons]
    omega
theorem sum_len : ∀ cs : List (List Int), (cs.map fun s => ((s.length : Nat) : Int)).sum = (cs.flatten.length : Nat)
  | [] => rfl
  | c :: cs => by
    rw [List.map_cons, List.sum_cons, sum_len cs, List.flatten_cons, List.length_append]
    push_cast; rfl
theorem rep_one {α : Type} (x : α) (n : Nat) : (List.replicate n [x]).flatten = List.replicate n x := by
  induction n with
  | zero => rfl
  | succ n ih => rw [List.replicate_succ, List.flatten_cons, ih, List.replicate_succ]; rfl
theorem eg_wpacesE {K : PySem.W.Frag} {Z : Fr} {env : Env} {i j l : Nat} {c : Int} {ps : List (Int × Int)} {ss bs nx : List Int} {ke : Env → Prop} {e : Int × Int} (hi : env[i]? = some (some (.x (wdP K Z c (ps.map enD) ss bs nx)))) (pl : plainE (env.set i none) = true)
    (hj : env[j]? = some (some (.v (.int (l : Nat))))) (hl : l < ps.length) (h : ke (env.set i (some (.x (wdP K Z c ((ps.set l e).map enD) ss bs nx))))) : Eg K Z (gSub (tDGet (tVar i) (tC (.str "paces"))) (tVar j) rSetL) (enD e) env ke :=
  eg_wpaces hi pl hj (by rw [List.length_map]; exact hl) (by rw [← List.map_set]; exact h)
theorem al_got {α β : Type} {R : α → β → Prop} : ∀ {xs : List α} {ys : List β} {i : Nat} {y : β}, Al R xs ys → ys[i]? = some y → ∃ x, xs[i]? = some x ∧ R x y
  | _, _, _, _, .nil, h => by simp at h
  | _, _, 0, _, .cons a b, h => by simp at h; subst h; exact ⟨_, rfl, a⟩
  | _, _, i + 1, _, .cons a b, h => by simp at h; simpa using al_got b h
section
local macro_rules | `(tactic| walk_at "kb") => `(tactic| first | exact kb_ii | exact kb_ib | exact kb_tt | exact kb_tl | exact kb_lt | exact kb_ll | exact kb_dd)
local macro_rules | `(tactic| walk_at "om") => `(tactic| first | omega | (simp only [List.length_map, List.length_cons, List.length_nil]; omega))
local macro_rules | `(tactic| walk_at "s") => `(tactic| first
  | ((with_reducible show Ev _ _ _ _ _); first
    | ((with_reducible show Ev _ _ (tVar _) _ _); refine ev_var rfl ?_)
    | (with_reducible refine ev_int ?_)
    | (with_reducible refine ev_bl ?_)
    | (with_reducible refine ev_str ?_)
    | (with_reducible refine ev_non ?_)
    | (with_reducible refine ev_ty ?_)
    | (with_reducible refine ev_fn ?_)
    | (with_reducible refine ev_op ?_)
    | (with_reducible refine ev_neg ?_)
    | (with_reducible refine ev_prop ?_)
    | (with_reducible refine ev_gi ?_)
    | (with_reducible refine ev_meth ?_)
    | ((with_reducible show Ev _ _ (tMake _ _ _ _ _) _ _); refine ev_make ?_)
    | ((with_reducible show Ev _ _ (tFld _ _ _) _ _); refine ev_fldA (by assumption) ?_)
    | (with_reducible refine ev_din ?_)
    | (with_reducible refine ev_dnin ?_)
    | (with_reducible refine ev_dget ?_)
    | (with_reducible refine ev_call ?_)
    | ((with_reducible show Ev _ _ (tCall (spF _ _) _ _ _) _ _); refine ev_ef (ef_callF ?_))
    | (with_reducible refine ev_cb ?_)
    | (with_reducible refine ev_andV ?_)
    | (with_reducible refine ev_orV ?_)
    | (with_reducible refine ev_notV ?_)
    | (with_reducible refine ev_if ?_)
    | (with_reducible refine ev_chain ?_)
    | (with_reducible refine ev_tup ?_)
    | (with_reducible refine ev_lst ?_))
  | ((with_reducible show Er _ _ _ _ _ _); first
    | (with_reducible refine er_b0 ?_)
    | (with_reducible refine er_i0 ?_)
    | ((with_reducible show Er _ _ (rIxT _) _ _ _); first | refine er_ixT ⟨_, _, rfl, rfl, ?_⟩ | refine er_ixT ⟨_, _, rfl, (by assumption), ?_⟩)
    | ((with_reducible show Er _ _ (rIxL _) _ _ _); first | refine er_ixL ⟨_, rfl, ?_⟩ | refine er_ixL ⟨_, (by assumption), ?_⟩)
    | ((with_reducible show Er _ _ (rI _ _) _ _ _); first | refine er_i (Or.inl ⟨by omega, by omega⟩) ?_ | refine er_i (Or.inr ⟨by omega, by omega⟩) ?_ | refine er_i ⟨by omega, by omega⟩ ?_ | refine er_i (by omega) ?_)
    | ((with_reducible show Er _ _ (fun _ _ _ _ => _) _ _ _); first | refine er_isN ?_ | refine er_notN ?_)
    | ((with_reducible show Er _ _ rEq _ _ _); refine er_eq ⟨_, rfl, ?_⟩)
    | ((with_reducible show Er _ _ rNe _ _ _); refine er_ne ⟨_, rfl, ?_⟩))
  | ((with_reducible show Ea _ _ _ _ _); first
    | ((with_reducible show Ea _ _ (tCons (tVar _) _) _ _); refine ea_pot rfl ?_)
    | (with_reducible refine ea_nil ?_)
    | (with_reducible refine ea_v ?_))
  | ((with_reducible show Es _ _ _ _ _); first
    | (with_reducible refine es_seq ?_)
    | (with_reducible refine es_next ?_)
    | (with_reducible refine es_if ?_)
    | (with_reducible refine es_ret ?_)
    | (with_reducible refine es_set ?_)
    | (with_reducible refine es_asg ?_)
    | ((with_reducible show Es _ _ (tPar _ _ (tCons tDNewK _)) _ _); refine es_parO (by first | (simp [startE]; done) | decide) (ef_dnew ?_))
    | (with_reducible refine es_par ?_)
    | (with_reducible refine es_drop ?_))
  | ((with_reducible show Et _ _ _ _ _); first
    | (with_reducible refine et_test ?_)
    | (with_reducible refine et_B ?_)
    | (with_reducible refine et_yes ?_)
    | (with_reducible refine et_and ?_)
    | (with_reducible refine et_or ?_)
    | (with_reducible refine et_not ?_)
    | (with_reducible refine et_ifT ?_))
  | ((with_reducible show Eb _ _ _ _ _); first
    | ((with_reducible show Eb _ _ (rIsi _) [_, Ag.v (Dm.ty _)] _); refine eb_isi rfl (by walk_at "kb") ?_)
    | ((with_reducible show Eb _ _ (rIsi _) [_, Ag.v (Dm.fn _)] _); refine eb_isiC (by assumption) ?_)
    | ((with_reducible show Eb _ _ (rIsiT _) _ _); refine eb_isi2 rfl (by walk_at "kb") (by walk_at "kb") ?_)
    | ((with_reducible show Eb _ _ _ [Ag.v (Dm.int _)] _); first | refine eb_abs ?_ | refine eb_int ?_)
    | ((with_reducible show Eb _ _ (rListOf _) _ _); refine eb_list ⟨_, (by first | rfl | assumption), ?_⟩)
    | ((with_reducible show Eb _ _ _ [Ag.v _] _); refine eb_len ⟨_, (by first | rfl | assumption), ?_⟩))
  | ((with_reducible show Eg _ _ _ _ _ _); first
    | (with_reducible refine eg_nm ?_)
    | ((with_reducible show Eg _ _ (gTup _ _ _) _ _ _); refine eg_tup ⟨_, rfl, rfl, ?_⟩))
  | ((with_reducible show Egs _ _ _ _ _ _); first
    | (with_reducible refine egs_cons ?_)
    | (with_reducible refine egs_nil ?_))
  | ((with_reducible show Ed _ _ _ _ _); first
    | ((with_reducible show Ed _ _ (tVar _) _ _); first | refine ed_own rfl ?_ | refine ed_ro rfl ?_ | refine ed_frz rfl ?_ | refine ed_v (ev_var rfl ⟨_, rfl, ?_⟩)))
  | ((with_reducible show ite _ _ _); first | refine br_y rfl ?_ | refine br_n rfl ?_ | refine br_y (decide_eq_true (by walk_at "om")) ?_ | refine br_n (decide_eq_false (by walk_at "om")) ?_)
  | (with_reducible refine br_nt (by walk_at "om") ?_)
  | (with_reducible refine br_nf (by walk_at "om") ?_)
  | assumption
  | exact rfl
  | exact congrArg Dm.bl (decide_eq_true (by walk_at "om"))
  | exact congrArg Dm.bl (decide_eq_false (by walk_at "om"))
  | (with_reducible refine kb_t (by walk_at "om") ?_)
  | refine ⟨[_], rfl, sl15 (Nat.le_of_ble_eq_true rfl), ?_⟩
  | refine ⟨[_, _], rfl, sl15 (Nat.le_of_ble_eq_true rfl), ?_⟩
  | refine ⟨[_, _, _], rfl, sl15 (Nat.le_of_ble_eq_true rfl), ?_⟩
  | refine ⟨[], rfl, Nat.zero_le _, ?_⟩
  | exact ⟨_, rfl⟩
  | exact ⟨_, _, rfl⟩
  | exact ⟨_, _, _, rfl⟩
  | exact ⟨_, _, _, _, rfl⟩
  | refine ⟨_, _, rfl, rfl, ?_⟩
  | refine ⟨_, rfl, ?_⟩
  | refine ⟨_, _, rfl, ?_⟩
  | refine ⟨_, _, _, rfl, ?_⟩
  | refine ⟨_, _, _, _, rfl, ?_⟩
  | refine ⟨_, rfl, (by assumption), ?_⟩
  | refine ⟨_, _, rfl, (by assumption), ?_⟩
  | refine ⟨⟨_, _, rfl⟩, ?_⟩
  | refine And.intro (by first | assumption | walk_at "om") ?_
  | refine And.intro rfl ?_
  | (simp only [List.length_map]; assumption)
  | omega)
local macro_rules | `(tactic| walk_at "nx") => `(tactic| (repeat first | assumption | exact rfl | refine noX_set ?_ rfl))
local macro_rules | `(tactic| walk_at "gs") => `(tactic| (repeat first | exact gset_nil | exact gset_name (by decide) | exact gmono_nil | exact gmono_name | refine gset_tup ?_ | refine gmono_tup ?_ | refine gset_cons ?_ ?_ ?_ ?_ | refine gmono_cons ?_ ?_))
local macro_rules | `(tactic| walk_at "pl") => `(tactic| (simp only [plainE, List.set_cons_zero, List.set_cons_succ, List.all_cons, List.all_nil, Bool.and_true, Bool.and_self, Bool.true_and, pc_v, pc_pot, pc_none, *]))
variable {P : Program} {w : World} {K : PySem.W.Frag} {mg : Str → Option Value} {base : Heap}
def W__law_world : Wf := fun as k => ∃ (cs : List (List Int)) (n : Nat), as = [.pot, .v (csD cs)] ∧ (∀ c ∈ cs, c ≠ []) ∧ cs.flatten.Perm ((List.range n).map fun i => ((i : Nat) : Int)) ∧ 1 ≤ n ∧ n ≤ 5 ∧ ∀ W, Wg W n → k (worldD W)
theorem h__law_world (T : Kt K mg) : Held P w K mg base 3 T.a__law_world (spD K W__law_world) := by
  obtain ⟨fd, F⟩ := T.f__law_world
  have sc := sc__law_world
  refine held_of F sc (spD_len fun as k h => ?_) (fun _ _ _ _ _ _ us hl => match us, hl with | [_, _], _ => rfl) fun cdv A outer s H E hr => ?_
  · obtain ⟨_, _, rfl, _⟩ := h; rfl
  have hu := hu_of hr
  have hF_ : Cls K T.C_Family ∧ NoAttr K T.C_Family "own_lots" := ⟨T.isF.cl, T.naF⟩
  have hM_ : Cls K T.C_Map ∧ NoAttr K T.C_Map "own_families" := ⟨T.isM.cl, T.naM⟩
  have iF_ := T.isF
  have iM_ := T.isM
  have G__law_pace := held_mono (h__law_pace (P := P) (w := w) (base := base) T) (show 2 ≤ 2 by decide)
  have G__law_gcd := held_mono (h__law_gcd (P := P) (w := w) (base := base) T) (show 1 ≤ 2 by decide)
  have G__law_draw := held_mono (h__law_draw (P := P) (w := w) (base := base) T) (show 1 ≤ 2 by decide)
  refine ⟨_, (pss_cons (ps_setLc (i := 2) (own := [("_law_some", 3)]) (g := gName 3) (tt := tYes) rfl sc.nd rfl rfl (sw_true rfl rfl rfl (by decide +kernel)) (pi_listK (K := K) rfl (pv 1)) (blkOk_by (N := N__law_world) (sc := defScope s__law_world) (by decide +kernel)) (fun _ _ _ _ _ => (pg_name (i := 3) sc.nd rfl (by first | exact Or.inl rfl | exact Or.inr rfl))) (fun _ _ _ _ _ => pts_nil) (fun _ _ _ _ _ => (pe_h G__law_pace hr rfl T.g__law_pace (pa_cons (pv 0) (pa_cons (pe_callB (call_lenK (K := K) rfl) (by rfl) T.n_len (by decide +kernel) (pa_cons (pv 3) pa_nil)) pa_nil)))))
      (pss_cons (ps_set (i := 4) sc.nd rfl (by first | exact Or.inl rfl | exact Or.inr rfl) pe_int)
      (pss_cons (ps_for PassesOwn.never rfl (pi_listK (K := K) rfl (pv 2)) (pg_tupK (K := K) (n := 2) rfl rfl (pgs_cons (pg_name (i := 5) sc.nd rfl (by first | exact Or.inl rfl | exact Or.inr rfl)) (pgs_cons (pg_name (i := 6) sc.nd rfl (by first | exact Or.inl rfl | exact Or.inr rfl)) pgs_nil))) (pss_one (ps_set (i := 4) sc.nd rfl (by first | exact Or.inl rfl | exact Or.inr rfl) (pe_op op_fdiv (pe_op op_mul (pv 4) (pv 6)) (pe_h G__law_gcd hr rfl T.g__law_gcd (pa_cons (pv 4) (pa_cons (pv 6) pa_nil)))))))
      (pss_cons (ps_set (i := 7) sc.nd rfl (by first | exact Or.inl rfl | exact Or.inr rfl) (pe_callB (cr_sumK (K := K) rfl) (by rfl) T.n_sum (by decide +kernel) (pa_cons (pe_lc (own := [("_law_some", 3)]) (g := gName 3) (tt := tYes) rfl sc.nd (pi_listK (K := K) rfl (pv 1)) (blkOk_by (N := N__law_world) (sc := defScope s__law_world) (by decide +kernel)) (fun _ _ _ _ _ => (pg_name (i := 3) sc.nd rfl (by first | exact Or.inl rfl | exact Or.inr rfl))) (fun _ _ _ _ _ => pts_nil) (fun _ _ _ _ _ => (pe_callB (call_lenK (K := K) rfl) (by rfl) T.n_len (by decide +kernel) (pa_cons (pv 3) pa_nil)))) pa_nil)))
      (pss_cons (ps_set (i := 8) sc.nd rfl (by first | exact Or.inl rfl | exact Or.inr rfl) (pe_disp (pps_cons pe_str (pv 4) (pps_cons pe_str (pe_op op_rep (pe_lst (pa_cons (pe_tup (pa_cons pe_int (pa_cons pe_int pa_nil))) pa_nil)) (pv 7)) (pps_cons pe_str (pe_op op_rep (pe_lst (pa_cons pe_int pa_nil)) (pv 7)) pps_nil))) (by rfl) (by rfl) (fun z => by cases z) (by decide)))
      (pss_cons (ps_expr (pe_bm PySem.F.plainAttrs_dict PySem.F.slot_dict_update PySem.F.type_dict_update mtd_update (pv 8) (pa_cons (pe_disp (pps_cons pe_str (pe_op op_rep (pe_lst (pa_cons pe_int pa_nil)) (pv 7)) (pps_cons pe_str (pe_op op_rep (pe_lst (pa_cons pe_int pa_nil)) (pv 7)) pps_nil)) (by rfl) (by rfl) (fun z => by cases z) (by decide)) pa_nil)))
      (pss_cons (ps_for PassesOwn.never rfl (pi_zip (by rfl) T.n_zip (pa_cons (pv 1) (pa_cons (pv 2) pa_nil))) (pg_tupK (K := K) (n := 2) rfl rfl (pgs_cons (pg_name (i := 3) sc.nd rfl (by first | exact Or.inl rfl | exact Or.inr rfl)) (pgs_cons (pg_tupK (K := K) (n := 2) rfl rfl (pgs_cons (pg_name (i := 5) sc.nd rfl (by first | exact Or.inl rfl | exact Or.inr rfl)) (pgs_cons (pg_name (i := 6) sc.nd rfl (by first | exact Or.inl rfl | exact Or.inr rfl)) pgs_nil))) pgs_nil))) (pss_cons (ps_par (i := 9) (j := 10) (by rfl) sc.nd rfl rfl (by decide) rfl rfl (pa_cons (pe_op op_mul (pv 5) (pe_op op_fdiv (pv 4) (pe_callTy call_int1 (by rfl) T.n_int (by decide +kernel) (pa_cons (pv 6) pa_nil)))) (pa_cons (pe_h G__law_draw hr rfl T.g__law_draw (pa_cons (pv 0) (pa_cons (pv 4) pa_nil))) pa_nil)) (by rfl))
      (pss_one (ps_for PassesOwn.never rfl (pi_enum (by rfl) T.n_enumerate (pa_cons (pv 3) pa_nil)) (pg_tupK (K := K) (n := 2) rfl rfl (pgs_cons (pg_name (i := 11) sc.nd rfl (by first | exact Or.inl rfl | exact Or.inr rfl)) (pgs_cons (pg_name (i := 12) sc.nd rfl (by first | exact Or.inl rfl | exact Or.inr rfl)) pgs_nil))) (pss_cons (ps_asg (pe_tup (pa_cons (pe_tup (pa_cons (pv 5) (pa_cons (pv 6) pa_nil))) (pa_cons (pv 9) pa_nil))) (pg_tupK (K := K) (n := 2) rfl rfl (pgs_cons (pg_sub (pe_dget hu (pv 8) pe_str (fun _ _ => rfl)) (pv 12) set_list) (pgs_cons (pg_sub (pe_dget hu (pv 8) pe_str (fun _ _ => rfl)) (pv 12) set_list) pgs_nil))))
      (pss_cons (ps_set (i := 13) sc.nd rfl (by first | exact Or.inl rfl | exact Or.inr rfl) (pe_op op_mul (pv 4) (pe_op op_sub (pe_h G__law_draw hr rfl T.g__law_draw (pa_cons (pv 0) (pa_cons pe_int pa_nil))) pe_int)))
      (pss_one (ps_if (pt_cmpR op_lt (pv 11) (pv 6) (nomark _)) (pss_cons (ps_asg (pe_ix (ix_listK (K := K) rfl) (pv 3) (pe_ifExp (pt_cmpR op_lt (pe_op op_add (pv 11) pe_int) (pv 6) (nomark _)) (pe_op op_add (pv 11) pe_int) pe_int) (fun _ _ => rfl)) (pg_sub (pe_dget hu (pv 8) pe_str (fun _ _ => rfl)) (pv 12) set_list))
      (pss_one (ps_asg (pe_op op_add (pe_op op_add (pv 10) (pe_op op_mul (pv 11) (pv 9))) (pv 13)) (pg_sub (pe_dget hu (pv 8) pe_str (fun _ _ => rfl)) (pv 12) set_list)))) (pss_cons (ps_asg (pe_ix (ix_listK (K := K) rfl) (pv 3) (pe_h G__law_draw hr rfl T.g__law_draw (pa_cons (pv 0) (pa_cons (pv 11) pa_nil))) (fun _ _ => rfl)) (pg_sub (pe_dget hu (pv 8) pe_str (fun _ _ => rfl)) (pv 12) set_list))
      (pss_one (ps_asg (pe_op op_add (pe_op op_sub (pe_ix (ix_listK (K := K) rfl) (pe_dget hu (pv 8) pe_str (fun _ _ => rfl)) (pe_ix (ix_listK (K := K) rfl) (pe_dget hu (pv 8) pe_str (fun _ _ => rfl)) (pv 12) (fun _ _ => rfl)) (fun _ _ => rfl)) (pv 9)) (pv 13)) (pg_sub (pe_dget hu (pv 8) pe_str (fun _ _ => rfl)) (pv 12) set_list))))))))))))
      (pss_one (ps_ret (pv 8)))))))))),
    fun vs Q sp => body_ok (fun Z as k hw => ?_) sp⟩
  obtain ⟨cs, n, rfl, h1, h2, h3, h4, hk⟩ := hw
  have hfl : cs.flatten.length = n := by rw [h2.length_eq]; simp
  have hsl : ∀ s ∈ cs, 1 ≤ s.length ∧ s.length ≤ 5 := fun s hs => by
    have a := List.length_pos_iff.mpr (h1 s hs)
    have b := (List.sublist_flatten_of_mem hs).length_le
    omega
  have hcl : cs.length ≤ 5 := by
    have := len_le_flat h1
    omega
  try dsimp only [cxOf, Cx.nox]
  refine es_seq (es_set (ev_ef (ef_eachX cs intsL (fun s d => ∃ e, d = enD e ∧ gcdE s e) (by walk_at "gs") (by walk_at "gs") (ej (ei_list (ev_var rfl ⟨_, rfl, rfl⟩))) (sln' (m := 5) hcl) (fun Z' s hs => eg_nm ?_) (fun ys hy => ?_))))
  · obtain ⟨s1, s2⟩ := hsl s hs
    refine ev_call (ea_pot rfl (ea_v (ev_cb (ea_v (ev_var rfl (ea_nil (eb_len ⟨_, rfl, ea_nil ⟨s.length, by simp, by omega, by omega, fun e e1 e2 e3 e4 e5 => ⟨e, rfl, e1, e2, e3, e4, e5⟩⟩⟩)))))))
  obtain ⟨ts, rfl, ht⟩ := hy.split (f := enD) (S := gcdE) fun x y ⟨e, h1, h2⟩ => ⟨e, h1, h2⟩
  have hq : ∀ e ∈ ts, 1 ≤ e.2 ∧ e.2 ≤ 5 := by
    intro e he
    obtain ⟨i, hi, rfl⟩ := List.getElem_of_mem he
    obtain ⟨s, e1, e2⟩ := al_got ht (List.getElem?_eq_getElem hi)
    obtain ⟨q1, q2, _⟩ := e2
    have := hsl s (List.mem_of_getElem? e1)
    omega
  have hc1 : 1 ≤ cmnN ts := cmn_pos fun e he => (hq e he).1
  have hc2 : cmnN ts ≤ 32 := by
    have a := cmn_le ht
    rw [hfl] at a
    exact Nat.le_trans a (Nat.pow_le_pow_right (by omega) h4)
  have htl' : cs.length = ts.length := ht.length
  have htl : ts.length ≤ 5 := by rw [← ht.length]; exact hcl
  refine es_seq (es_set (ev_int ?_))
  refine es_seq (es_forA ts enD (fun j e => ∃ (o5 o6 : Option Cl), e = [some .pot, some (.v (csD cs)), some (.v (.lst (ts.map enD))), none, some (.v (.int (cmnN (ts.take j) : Nat))), o5, o6, none, none, none, none, none, none, none] ∧ plainC o5 = true ∧ plainC o6 = true)
    (ei_list (ev_var rfl ⟨_, rfl, rfl⟩)) ⟨none, none, rfl, rfl, rfl⟩ (fun j e e0 hj hI => ?_) (fun e0 hI => ?_))
  · obtain ⟨o5, o6, rfl, p5, p6⟩ := hI
    obtain ⟨q1, q2⟩ := hq e (List.mem_of_getElem? hj)
    have tk : ts.take (j + 1) = ts.take j ++ [e] := by rw [List.take_succ, hj]; rfl
    have hd : cmnN (ts.take j) ∣ cmnN ts := cmn_dvd fun x hx => cmn_mem x (List.mem_of_mem_take hx)
    have hle : cmnN (ts.take j) ≤ 32 := Nat.le_trans (Nat.le_of_dvd hc1 hd) hc2
    have hp : 1 ≤ cmnN (ts.take j) := cmn_pos fun x hx => (hq x (List.mem_of_mem_take hx)).1
    obtain ⟨q, hqq⟩ : ∃ q : Nat, e.2 = (q : Nat) := ⟨e.2.toNat, by omega⟩
    refine eg_tup ⟨_, rfl, rfl, egs_cons (eg_nm (egs_cons (eg_nm (egs_nil ?_))))⟩
    refine es_set (ev_op (ev_op (ev_var rfl (ev_var rfl (er_i (Or.inl ⟨by omega, by omega⟩) ?_)))))
    have hg1 : 0 < Nat.gcd (cmnN (ts.take j)) q := Nat.gcd_pos_of_pos_left _ hp
    have hg2 : Nat.gcd (cmnN (ts.take j)) q ≤ cmnN (ts.take j) := Nat.gcd_le_left _ hp
    refine ev_call (ea_v (ev_var rfl (ea_v (ev_var rfl (ea_nil ⟨cmnN (ts.take j), q, by rw [hqq], er_i ⟨by omega, by omega⟩ ?_⟩)))))
    refine ⟨some (.v (.int e.1)), some (.v (.int e.2)), ?_, rfl, rfl⟩
    rw [tk, cmn_snoc, hqq, Int.toNat_natCast]
    unfold Nat.lcm
    push_cast
    rfl
  obtain ⟨o5, o6, rfl, p5, p6⟩ := hI
  rw [List.take_length]
  refine es_seq (es_set (ev_cb (ea_v (ev_ef (ef_mapX cs intsL (fun s => .int (s.length : Nat)) (by walk_at "gs") (by walk_at "gs") (ej (ei_list (ev_var rfl ⟨_, rfl, rfl⟩))) (sln' (m := 5) hcl) (fun Z' s hs => eg_nm ?_) (ea_nil ?_))))))
  · refine ev_cb (ea_v (ev_var rfl (ea_nil (eb_len ⟨_, rfl, by rw [List.length_map]⟩))))
  have em : cs.map (fun s => Dm.int (s.length : Nat)) = (cs.map fun s => ((s.length : Nat) : Int)).map Dm.int := by rw [List.map_map]; rfl
  rw [em]
  refine eb_sum ?_
  rw [sum_len, hfl]
  have hrep : ∀ (i : Nat) (d : Dm) (env : Env) (Z' : Fr) (te : TE), env[i]? = some (some (.v (.int (n : Nat)))) → (∀ {k : Dm → Prop}, k d → Ev K Z' te env k) → Ef K Z' (tOp rRep (tLst (tCons te tNil)) (tVar i)) env fun x => x = .lst (List.replicate n d) := fun i d env Z' te hi hte => by
    refine ef_rep (ev_lst (ea_v (hte (ea_nil ⟨[d], rfl, sl15 (Nat.le_of_ble_eq_true rfl), ?_⟩))))
    refine ⟨[d], rfl, ev_var hi ⟨(n : Nat), rfl, by omega, by omega, ?_, ?_⟩⟩
    · rw [Int.toNat_natCast]
      exact Nat.le_trans (show [d].length * n ≤ 100 by simp; omega) (by decide)
    · rw [Int.toNat_natCast, rep_one]
  refine es_seq (es_world1 (i := 8) (c := (cmnN ts : Nat)) (ps := (List.replicate n ((0, 1) : Int × Int)).map enD) (ss := List.replicate n 0) (Nat.le_of_ble_eq_true rfl) ?_ (ev_var rfl rfl) ?_ ?_ ?_)
  · walk_at "pl"
  · rw [List.map_replicate]
    exact hrep 7 (enD (0, 1)) _ _ _ (by rfl) fun q => ev_tup (ea_v (ev_int (ea_v (ev_int (ea_nil ⟨[_, _], rfl, sl15 (Nat.le_of_ble_eq_true rfl), q⟩)))))
  · rw [List.map_replicate]
    refine hrep 7 (.int 0) _ _ _ ?_ fun q => ev_int q
    rfl
  have hr0 : (List.replicate n (0 : Int)).map Dm.int = List.replicate n (Dm.int 0) := List.map_replicate
  refine es_seq (es_world2 (i := 8) (bs := List.replicate n 0) (nx := List.replicate n 0) rfl ?_ ?_ ?_ ?_)
  · walk_at "pl"
  · rw [hr0]
    exact hrep 7 (.int 0) _ _ _ (by rfl) fun q => ev_int q
  · rw [hr0]
    exact hrep 7 (.int 0) _ _ _ (by rfl) fun q => ev_int q
  have nd := nodup_range h2
  have hz : (zipD (cs.map intsL) (ts.map enD)) = (cs.zip ts).map fun p => .tup [intsL p.1, enD p.2] := zipD_map _ _ _ _
  have hzl : (cs.zip ts).length = cs.length := by rw [List.length_zip, ← ht.length, Nat.min_self]
  refine es_seq (es_forA (cs.zip ts) (fun p => .tup [intsL p.1, enD p.2]) (fun j e => ∃ (A : Arr) (o3 o5 o6 o9 o10 o11 o12 o13 : Option Cl), e = [some .pot, some (.v (csD cs)), some (.v (.lst (ts.map enD))), o3, some (.v (.int (cmnN ts : Nat))), o5, o6, some (.v (.int (n : Nat))), some (.x (wdP K Z (cmnN ts : Nat) (A.ps.map enD) A.ss A.bs A.nx)), o9, o10, o11, o12, o13] ∧
    plainC o3 = true ∧ plainC o5 = true ∧ plainC o6 = true ∧ plainC o9 = true ∧ plainC o10 = true ∧ plainC o11 = true ∧ plainC o12 = true ∧ plainC o13 = true ∧ A.len n ∧ Don (cmnN ts) (cs.take j).flatten A ∧ ∀ t ∈ ts.take j, ∃ x ∈ (cs.take j).flatten, A.ps.getD x.toNat (0, 1) = t)
    (ei_zip (ea_v (ev_var rfl (ea_v (ev_var rfl (ea_nil ⟨_, _, rfl, hz⟩)))))) ⟨⟨List.replicate n (0, 1), List.replicate n 0, List.replicate n 0, List.replicate n 0⟩, none, o5, o6, none, none, none, none, none, rfl, rfl, p5, p6, rfl, rfl, rfl, rfl, rfl, ⟨by simp, by simp, by simp, by simp⟩, by simp [Don], by simp⟩ (fun j pr e0 hj hI => ?_) (fun e0 hI => ?_))
  · obtain ⟨A, o3, o5, o6, o9, o10, o11, o12, o13, rfl, r3, r5, r6, r9, r10, r11, r12, r13, lA, dA, pA⟩ := hI
    obtain ⟨s, e⟩ := pr
    have hs : cs[j]? = some s ∧ ts[j]? = some e := by
      rw [List.getElem?_zip_eq_some] at hj
      exact hj
    obtain ⟨hs, he⟩ := hs
    obtain ⟨s1, s2⟩ := hsl s (List.mem_of_getElem? hs)
    obtain ⟨e', he', g1, g2, g3, g4, g5⟩ := al_get ht hs
    rw [he] at he'
    cases he'
    have hcd : e.2.toNat ∣ cmnN ts := cmn_mem e (List.mem_of_getElem? he)
    have tkc : cs.take (j + 1) = cs.take j ++ [s] := by rw [List.take_succ, hs]; rfl
    have tkt : ts.take (j + 1) = ts.take j ++ [e] := by rw [List.take_succ, he]; rfl
    have sf := split_flat hs
    rw [sf] at nd
    have nd1 : ∀ x ∈ (cs.take j).flatten, ∀ y ∈ s, x ≠ y := fun x hx y hy => (List.nodup_append.mp nd).2.2 x hx y (List.mem_append_left _ hy)
    have nd2 : s.Nodup := (List.nodup_append.mp (List.nodup_append.mp nd).2.1).1
    have inn : ∀ y ∈ s, ∃ i : Nat, y = i ∧ i < n := fun y hy => (mem_range h2).mp (by rw [sf]; exact List.mem_append_right _ (List.mem_append_left _ hy))
    have ind : ∀ y ∈ (cs.take j).flatten, ∃ i : Nat, y = i ∧ i < n := fun y hy => (mem_range h2).mp (by rw [sf]; exact List.mem_append_left _ hy)
    have ga : ∀ {a : Nat}, a < s.length → s[a]? = some (s.getD a 0) := fun {a} h => by rw [List.getD_eq_getElem?_getD, List.getElem?_eq_getElem h]; rfl
    have lav : ∀ {a : Nat}, a < s.length → s.getD a 0 = ((la s a : Nat) : Int) ∧ la s a < n := fun {a} h => by
      obtain ⟨i, hi, hn⟩ := inn _ (List.mem_of_getElem? (ga h))
      unfold la
      rw [hi, Int.toNat_natCast]
      exact ⟨rfl, hn⟩
    have lad : ∀ {a b : Nat}, a < s.length → b < s.length → a ≠ b → la s a ≠ la s b := fun {a b} h1 h2 hne z => by
      have e1 := (lav h1).1
      have e2 := (lav h2).1
      rw [z, ← e2] at e1
      rw [List.getD_eq_getElem?_getD, List.getD_eq_getElem?_getD, List.getElem?_eq_getElem h1, List.getElem?_eq_getElem h2] at e1
      have e1 : s[a] = s[b] := e1
      exact hne ((List.getElem_inj nd2).mp e1)
    have hcq : 0 ≤ (cmnN ts : Int) / e.2 := Int.ediv_nonneg (by omega) (by omega)
    have hcq2 : (cmnN ts : Int) / e.2 ≤ 32 := Int.le_trans (Int.ediv_le_self _ (by omega)) (by omega)
    obtain ⟨st, hst⟩ : ∃ st, st = e.1 * ((cmnN ts : Int) / e.2) := ⟨_, rfl⟩
    have st1 : st ≤ 128 := by
      have : e.1 * ((cmnN ts : Int) / e.2) ≤ 4 * ((cmnN ts : Int) / e.2) := Int.mul_le_mul_of_nonneg_right g5 hcq
      omega
    have st2 : -128 ≤ st := by
      have : (-4) * ((cmnN ts : Int) / e.2) ≤ e.1 * ((cmnN ts : Int) / e.2) := Int.mul_le_mul_of_nonneg_right g4 hcq
      omega
    refine eg_tup ⟨_, rfl, rfl, egs_cons (eg_nm (egs_cons (eg_tup ⟨_, rfl, rfl, egs_cons (eg_nm (egs_cons (eg_nm (egs_nil (egs_nil ?_)))))⟩)))⟩
    dsimp only
    refine es_seq (es_par (ea_v (ev_op (ev_var rfl (ev_op (ev_var rfl (ev_cb (ea_v (ev_var rfl (ea_nil (eb_int (er_i ⟨by omega, by omega⟩ (er_i (Or.inl ⟨by omega, by omega⟩) (ea_v (ev_call (ea_pot rfl (ea_v (ev_var rfl (ea_nil ⟨_, rfl, by omega, by omega, fun b0 b1 b2 => ?_⟩)))))))))))))))))))
    refine ea_nil ⟨_, _, rfl, ?_⟩
    rw [← hst]
    refine es_forA s.zipIdx (fun p => .tup [.int (p.2 : Nat), .int p.1]) (fun m e0 => ∃ (A : Arr) (o11 o12 o13 : Option Cl), e0 = [some .pot, some (.v (csD cs)), some (.v (.lst (ts.map enD))), some (.v (intsL s)), some (.v (.int (cmnN ts : Nat))), some (.v (.int e.1)), some (.v (.int e.2)), some (.v (.int (n : Nat))), some (.x (wdP K Z (cmnN ts : Nat) (A.ps.map enD) A.ss A.bs A.nx)), some (.v (.int st)), some (.v (.int b0)), o11, o12, o13] ∧
      plainC o11 = true ∧ plainC o12 = true ∧ plainC o13 = true ∧ A.len n ∧ Don (cmnN ts) (cs.take j).flatten A ∧ (∀ t ∈ ts.take j, ∃ x ∈ (cs.take j).flatten, A.ps.getD x.toNat (0, 1) = t) ∧ InC (cmnN ts : Nat) s e st b0 m A)
      (ei_enum (ea_v (ev_var rfl (ea_nil ⟨_, rfl, enumD_map _ _ _⟩)))) ⟨A, o11, o12, o13, rfl, r11, r12, r13, lA, dA, pA, fun a ha => absurd ha (by omega)⟩ (fun m pr e0 hm hI => ?_) (fun e0 hI => ?_)
    · obtain ⟨A, o11, o12, o13, rfl, r11, r12, r13, lA, dA, pA, iA⟩ := hI
      have hm2 : m < s.length ∧ pr = (s.getD m 0, m) := by
        have h := (List.getElem?_eq_some_iff.mp hm).1
        rw [List.length_zipIdx] at h
        rw [List.getElem?_zipIdx, ga h] at hm
        exact ⟨h, by simpa using hm.symm⟩
      obtain ⟨hm1, rfl⟩ := hm2
      obtain ⟨xl, ln⟩ := lav hm1
      obtain ⟨l1, l2, l3, l4⟩ := lA
      refine eg_tup ⟨_, rfl, rfl, egs_cons (eg_nm (egs_cons (eg_nm (egs_nil ?_))))⟩
      dsimp only
      rw [xl]
      refine es_seq (es_asg (ev_tup (ea_v (ev_tup (ea_v (ev_var rfl (ea_v (ev_var rfl (ea_nil ⟨[_, _], rfl, sl15 (Nat.le_of_ble_eq_true rfl), ?_⟩)))))))))
      refine ea_v (ev_var rfl (ea_nil ⟨[_, _], rfl, sl15 (Nat.le_of_ble_eq_true rfl), ?_⟩))
      refine eg_tup ⟨_, rfl, rfl, egs_cons (eg_wpacesE (e := e) (l := la s m) rfl (by walk_at "pl") rfl (by omega) (egs_cons (eg_wsteps (l := la s m) rfl (by walk_at "pl") rfl (by omega) (egs_nil ?_))))⟩
      refine es_seq (es_set (ev_op (ev_var rfl (ev_op (ev_call (ea_pot rfl (ea_v (ev_int (ea_nil ⟨_, rfl, by omega, by omega, fun r r0 r1 => ?_⟩)))))))))
      refine ev_int (er_i0 (er_i (Or.inl ⟨by omega, by omega⟩) ?_))
      obtain ⟨mo, hmo⟩ : ∃ mo, mo = (cmnN ts : Int) * (r - 2) := ⟨_, rfl⟩
      rw [← hmo]
      have mo1 : mo ≤ 64 ∧ -64 ≤ mo := by
        have a1 : (cmnN ts : Int) * (r - 2) ≤ cmnN ts * 2 := Int.mul_le_mul_of_nonneg_left (by omega) (by omega)
        have a2 : (cmnN ts : Int) * (-2) ≤ cmnN ts * (r - 2) := Int.mul_le_mul_of_nonneg_left (by omega) (by omega)
        omega
      refine es_if (et_test (ev_op (ev_var rfl (ev_var rfl (er_b0 ⟨_, rfl, ?_⟩)))))
      have fin : ∀ b x : Int, -(2000 * (m + 1) : Int) ≤ b → b ≤ 2000 * (m + 1) → ((m : Int) < e.2 → x = s.getD (if (m : Int) + 1 < e.2 then m + 1 else 0) 0 ∧ ∃ t, b = b0 + m * st + (cmnN ts : Nat) * t) →
          (e.2 ≤ (m : Int) → ∃ d, d < m ∧ x = s.getD d 0 ∧ ∃ t, b + st - A.bs.getD (la s d) 0 = (cmnN ts : Nat) * t) →
          ∃ (A' : Arr) (o11 o12 o13 : Option Cl), [some .pot, some (.v (csD cs)), some (.v (.lst (ts.map enD))), some (.v (intsL s)), some (.v (.int (cmnN ts : Nat))), some (.v (.int e.1)), some (.v (.int e.2)), some (.v (.int (n : Nat))), some (.x (wdP K Z (cmnN ts : Nat) ((A.ps.set (la s m) e).map enD) (A.ss.set (la s m) st) (A.bs.set (la s m) b) (A.nx.set (la s m) x))), some (.v (.int st)), some (.v (.int b0)), some (.v (.int (m : Nat))), some (.v (.int (la s m : Nat))), some (.v (.int mo))] =
            [some .pot, some (.v (csD cs)), some (.v (.lst (ts.map enD))), some (.v (intsL s)), some (.v (.int (cmnN ts : Nat))), some (.v (.int e.1)), some (.v (.int e.2)), some (.v (.int (n : Nat))), some (.x (wdP K Z (cmnN ts : Nat) (A'.ps.map enD) A'.ss A'.bs A'.nx)), some (.v (.int st)), some (.v (.int b0)), o11, o12, o13] ∧
            plainC o11 = true ∧ plainC o12 = true ∧ plainC o13 = true ∧ A'.len n ∧ Don (cmnN ts) (cs.take j).flatten A' ∧ (∀ t ∈ ts.take j, ∃ x ∈ (cs.take j).flatten, A'.ps.getD x.toNat (0, 1) = t) ∧ InC (cmnN ts : Nat) s e st b0 (m + 1) A' := fun b x c1 c2 c3 c4 => by
        have dis : ∀ y ∈ (cs.take j).flatten, y.toNat ≠ la s m := fun y hy z => by
          obtain ⟨i, rfl, _⟩ := ind y hy
          rw [Int.toNat_natCast] at z
          refine nd1 _ hy (s.getD m 0) (List.mem_of_getElem? (ga hm1)) ?_
          rw [xl, z]
        refine ⟨A.put (la s m) e st b x, _, _, _, rfl, rfl, rfl, rfl, Arr.put_len ⟨l1, l2, l3, l4⟩, dA.put dis, fun t ht => ?_, in_step iA ⟨l1, l2, l3, l4⟩ ln (fun a ha => lad (by omega) hm1 (by omega)) c1 c2 c3 c4⟩
        obtain ⟨y, y1, y2⟩ := pA t ht
        exact ⟨y, y1, (getD_set_ne (Ne.symm (dis y y1))).trans y2⟩
      refine br_d (fun hc => ?_) (fun hc => ?_)
      · have hc : (m : Int) < e.2 := hc
        have ix : ∀ {j : Nat}, j < s.length → atI (s.map Dm.int) ((j : Nat) : Int) = some (.int (s.getD j 0)) := fun {j} hj => atI_nat (by rw [List.getElem?_map, ga hj]; rfl)
        refine es_seq (es_asg (ev_op (ev_var rfl (Ev.mono (k := fun d => d = .int ((if (m : Int) + 1 < e.2 then m + 1 else 0 : Nat) : Int)) ?_ fun d hd => ?_))))
        · refine ev_if (et_test (ev_op (ev_op (ev_var rfl (ev_int (er_i0 (ev_var rfl (er_b0 ⟨_, rfl, ?_⟩))))))))
          refine br_d (fun hc2 => ?_) (fun hc2 => ?_)
          · have hc2 : (m : Int) + 1 < e.2 := hc2
            rw [if_pos hc2]
            exact ev_op (ev_var rfl (ev_int (er_i0 rfl)))
          · have hc2 : ¬ (m : Int) + 1 < e.2 := hc2
            rw [if_neg hc2]
            exact ev_int rfl
        subst hd
        refine er_ixL ⟨_, ix (by split <;> omega), ?_⟩
        refine eg_wnext (l := la s m) rfl (by walk_at "pl") rfl (by omega) ?_
        have ms : (m : Int) * st ≤ 4 * 128 ∧ -(4 * 128) ≤ (m : Int) * st := by
          have a1 : (m : Int) * st ≤ m * 128 := Int.mul_le_mul_of_nonneg_left (by omega) (by omega)
          have a2 : (m : Int) * (-128) ≤ m * st := Int.mul_le_mul_of_nonneg_left (by omega) (by omega)
          omega
        refine es_asg (ev_op (ev_op (ev_var rfl (ev_op (ev_var rfl (ev_var rfl (er_i (Or.inl ⟨by omega, by omega⟩) (er_i0 (ev_var rfl (er_i0 ?_))))))))))
        refine eg_wbase (l := la s m) rfl (by walk_at "pl") rfl (by omega) ?_
        refine fin _ _ (by omega) (by omega) (fun _ => ⟨rfl, r - 2, by rw [hmo]⟩) (fun z => absurd hc (by omega))
      · have hc : ¬ (m : Int) < e.2 := hc
        have ix : ∀ {j : Nat}, j < s.length → atI (s.map Dm.int) ((j : Nat) : Int) = some (.int (s.getD j 0)) := fun {j} hj => atI_nat (by rw [List.getElem?_map, ga hj]; rfl)
        refine es_seq (es_asg (ev_op (ev_var rfl (ev_call (ea_pot rfl (ea_v (ev_var rfl (ea_nil ⟨_, rfl, by omega, by omega, fun d d0 d1 => ?_⟩))))))))
        obtain ⟨d, rfl⟩ := Int.eq_ofNat_of_zero_le d0
        have hdm : d < m := by omega
        obtain ⟨dl, dn⟩ := lav (show d < s.length by omega)
        refine er_ixL ⟨_, ix (j := d) (by omega), ?_⟩
        refine eg_wnext (l := la s m) rfl (by walk_at "pl") rfl (by omega) ?_
        have hlm : la s d ≠ la s m := lad (by omega) hm1 (by omega)
        obtain ⟨_, _, i3, i4, _⟩ := iA d hdm
        let W0 : Wd := ⟨cmnN ts, A.ps.set (la s m) e, A.ss.set (la s m) st, A.bs, A.nx.set (la s m) (s.getD d 0)⟩
        have k1 : lookD (fiveD (cmnN ts : Nat) ((A.ps.set (la s m) e).map enD) (A.ss.set (la s m) st) A.bs (A.nx.set (la s m) (s.getD d 0))) (.inr "base") = some (intsL A.bs) := look_base W0
        have k2 : lookD (fiveD (cmnN ts : Nat) ((A.ps.set (la s m) e).map enD) (A.ss.set (la s m) st) A.bs (A.nx.set (la s m) (s.getD d 0))) (.inr "next") = some (intsL (A.nx.set (la s m) (s.getD d 0))) := look_next W0
        have k3 : atI ((A.nx.set (la s m) (s.getD d 0)).map Dm.int) ((la s m : Nat) : Int) = some (.int ((la s d : Nat) : Int)) := by
          refine atI_nat ?_
          rw [List.getElem?_map, List.getElem?_set_self (by omega), dl]; rfl
        have k4 : atI (A.bs.map Dm.int) ((la s d : Nat) : Int) = some (.int (A.bs.getD (la s d) 0)) := by
          refine atI_nat ?_
          rw [List.getElem?_map, List.getD_eq_getElem?_getD, List.getElem?_eq_getElem (by omega)]; rfl
        refine es_asg (ev_lendW (i := 8) rfl ?_)
        refine (ev_op (ev_op (ev_op (ev_dget (ed_v (ev_var rfl ⟨_, rfl, ev_str ⟨_, _, rfl, k1, ?_⟩⟩))))))
        refine ev_op (ev_dget (ed_v (ev_var rfl ⟨_, rfl, ev_str ⟨_, _, rfl, k2, ev_var rfl (er_ixL ⟨_, k3, er_ixL ⟨_, k4, ev_var rfl (er_i0 (ev_var rfl (er_i0 ⟨rfl, ?_⟩)))⟩⟩)⟩⟩)))
        refine eg_wbase (l := la s m) rfl (by walk_at "pl") rfl (by omega) ?_
        refine fin _ _ (by omega) (by omega) (fun z => absurd z hc) (fun _ => ⟨d, hdm, rfl, r - 2, by rw [← hmo]; omega⟩)
    · obtain ⟨A, o11, o12, o13, rfl, r11, r12, r13, lA, dA, pA, iA⟩ := hI
      rw [List.length_zipIdx] at iA
      have dS := in_end (by rw [← hst]; exact iA) g1 g2 hcd g3 g4 g5 (by omega)
      have ff : (cs.take (j + 1)).flatten = (cs.take j).flatten ++ s := by rw [tkc]; simp
      refine ⟨A, _, _, _, _, _, o11, o12, o13, rfl, rfl, rfl, rfl, rfl, rfl, r11, r12, r13, lA, by rw [ff]; exact dA.app dS, fun t htm => ?_⟩
      rw [ff]
      rw [tkt] at htm
      rcases List.mem_append.mp htm with htm | htm
      · obtain ⟨x, x1, x2⟩ := pA t htm
        exact ⟨x, List.mem_append_left _ x1, x2⟩
      · rw [List.mem_singleton.mp htm]
        refine ⟨s.getD 0 0, List.mem_append_right _ (List.mem_of_getElem? (ga (by omega))), ?_⟩
        exact (iA 0 (by omega)).1
  · obtain ⟨A, o3, o5, o6, o9, o10, o11, o12, o13, rfl, r3, r5, r6, r9, r10, r11, r12, r13, lA, dA, pA⟩ := hI
    rw [hzl, List.take_length] at dA pA
    rw [htl', List.take_length] at pA
    exact es_retW rfl (hk _ (wg_of lA dA h2 pA hc1 (by omega) h3 h4))
end
end Ln
/-! K23: the law's own lots, map. -/
namespace Ln
open PySem PySem.Spec PyProof.Rows L2
def NumB (l : Lot) : Prop := ∀ e ∈ l, -1000000 ≤ e.2 ∧ e.2 ≤ 1000000
/-- a lot of the world's lane i -/
structure Lw (W : Wd) (n i : Nat) (l : Lot) : Prop where
  lk : Lk 12 l
  low : ∀ e ∈ l, e.1 < n
  num : NumB l
  pick : ∃ e ∈ l, pickedE W.c W.ss W.bs (i : Nat) e = true
/-- what is told of lanes, while a lot is made of it -/
structure Tw (W : Wd) (n i : Nat) (l : Lot) : Prop where
  nd : (l.map (·.1)).Nodup
  low : ∀ e ∈ l, 0 ≤ e.1 ∧ e.1 < n
  num : NumB l
  pick : ∃ e ∈ l, pickedE W.c W.ss W.bs (i : Nat) e = true
theorem Tw.len {W : Wd} {n i : Nat} {l : Lot} (h : Tw W n i l) : l.length ≤ n := by
  have hp : (l.map fun e => e.1.toNat).Nodup := by
    have := h.nd
    rw [List.Nodup, List.pairwise_map] at this ⊢
    refine List.Pairwise.imp_of_mem ?_ this
    intro a b ha hb hne z
    have h1 := h.low a ha
    have h2 := h.low b hb
    omega
  have hs : (l.map fun e => e.1.toNat) ⊆ List.range n := fun x hx => by
    obtain ⟨e, he, rfl⟩ := List.mem_map.mp hx
    have := h.low e he
    exact List.mem_range.mpr (by omega)
  have := hp.length_le_of_subset hs
  rwa [List.length_map, List.length_range] at this
theorem Tw.sorted {W : Wd} {n i : Nat} {l l' : Lot} (h : Tw W n i l) (hn : n ≤ 12) (hp : l'.Perm l) (hs : l'.Pairwise fun a b => a.1 < b.1) : Lw W n i l' := by
  have hl := h.len
  obtain ⟨e, he, hpk⟩ := h.pick
  refine ⟨⟨?_, ?_, fun e he => ?_, hs⟩, fun e he => (h.low e (hp.mem_iff.mp he)).2, fun e he => h.num e (hp.mem_iff.mp he), e, hp.mem_iff.mpr he, hpk⟩
  · exact List.length_pos_of_mem (hp.mem_iff.mpr he)
  · rw [hp.length_eq]; omega
  · have := h.low e (hp.mem_iff.mp he)
    omega
theorem Tw.add {W : Wd} {n i : Nat} {l : Lot} {j x : Int} (h : Tw W n i l) (hj : look l j = none) (h0 : 0 ≤ j) (h1 : j < n) (h2 : -1000000 ≤ x) (h3 : x ≤ 1000000) : Tw W n i (l ++ [(j, x)]) := by
  obtain ⟨e, he, hp⟩ := h.pick
  have hj2 : ∀ e ∈ l, e.1 ≠ j := fun e he z => by
    unfold look at hj
    rw [Option.map_eq_none_iff, List.find?_eq_none] at hj
    exact hj e he (by simp [z])
  refine ⟨?_, fun e he => ?_, fun e he => ?_, e, List.mem_append_left _ he, hp⟩
  · rw [List.map_append]
    refine List.nodup_append.mpr ⟨h.nd, by simp, fun a ha b hb => ?_⟩
    obtain ⟨e, he, rfl⟩ := List.mem_map.mp ha
    have hb : b = j := by simpa using hb
    rw [hb]
    exact hj2 e he
  · rcases List.mem_append.mp he with he | he
    · exact h.low e he
    · rw [List.mem_singleton.mp he]; exact ⟨h0, h1⟩
  · rcases List.mem_append.mp he with he | he
    · exact h.num e he
    · rw [List.mem_singleton.mp he]; exact ⟨h2, h3⟩
theorem putD_dkl {l : Lot} {j x : Int} (h : look l j = none) : putD (dkl l) (.inl j) (.int x) = dkl (l ++ [(j, x)]) := by
  have hj2 : ∀ e ∈ l, e.1 ≠ j := fun e he z => by
    unfold look at h
    rw [Option.map_eq_none_iff, List.find?_eq_none] at h
    exact h e he (by simp [z])
  rw [putD_new]
  · unfold dkl
    rw [List.map_append]; rfl
  · intro p hp e
    unfold dkl at hp
    obtain ⟨q, hq, rfl⟩ := List.mem_map.mp hp
    exact hj2 q hq (Sum.inl.inj e)
theorem look_dkl_some (l : Lot) (j : Int) : (lookD (dkl l) (.inl j)).isSome = (look l j).isSome := by
  rw [lookD_dkl, Option.isSome_map]
def Heldw (W : Wd) (i : Nat) (l : Lot) : Prop := ∀ e ∈ l, heldE W.c W.ss W.bs (i : Nat) e = true
section
local macro_rules | `(tactic| walk_at "kb") => `(tactic| first | exact kb_ii | exact kb_ib | exact kb_tt | exact kb_tl | exact kb_lt | exact kb_ll | exact kb_dd)
local macro_rules | `(tactic| walk_at "om") => `(tactic| first | omega | (simp only [List.length_map, List.length_cons, List.length_nil]; omega))
local macro_rules | `(tactic| walk_at "s") => `(tactic| first
  | ((with_reducible show Ev _ _ _ _ _); first
    | ((with_reducible show Ev _ _ (tVar _) _ _); refine ev_var rfl ?_)
    | (with_reducible refine ev_int ?_)
    | (with_reducible refine ev_bl ?_)
    | (with_reducible refine ev_str ?_)
    | (with_reducible refine ev_non ?_)
    | (with_reducible refine ev_ty ?_)
    | (with_reducible refine ev_fn ?_)
    | (with_reducible refine ev_op ?_)
    | (with_reducible refine ev_neg ?_)
    | (with_reducible refine ev_prop ?_)
    | (with_reducible refine ev_gi ?_)
    | (with_reducible refine ev_meth ?_)
    | ((with_reducible show Ev _ _ (tMake _ _ _ _ _) _ _); refine ev_make ?_)
    | ((with_reducible show Ev _ _ (tFld _ _ _) _ _); refine ev_fldA (by assumption) ?_)
    | (with_reducible refine ev_din ?_)
    | (with_reducible refine ev_dnin ?_)
    | (with_reducible refine ev_dget ?_)
    | (with_reducible refine ev_call ?_)
    | ((with_reducible show Ev _ _ (tCall (spF _ _) _ _ _) _ _); refine ev_ef (ef_callF ?_))
    | (with_reducible refine ev_cb ?_)
    | (with_reducible refine ev_andV ?_)
    | (with_reducible refine ev_orV ?_)
    | (with_reducible refine ev_notV ?_)
    | (with_reducible refine ev_if ?_)
    | (with_reducible refine ev_chain ?_)
    | (with_reducible refine ev_tup ?_)
    | (with_reducible refine ev_lst ?_))
  | ((with_reducible show Er _ _ _ _ _ _); first
    | (with_reducible refine er_b0 ?_)
    | (with_reducible refine er_i0 ?_)
    | ((with_reducible show Er _ _ (rIxT _) _ _ _); first | refine er_ixT ⟨_, _, rfl, rfl, ?_⟩ | refine er_ixT ⟨_, _, rfl, (by assumption), ?_⟩)
    | ((with_reducible show Er _ _ (rIxL _) _ _ _); first | refine er_ixL ⟨_, rfl, ?_⟩ | refine er_ixL ⟨_, (by assumption), ?_⟩)
    | ((with_reducible show Er _ _ (rI _ _) _ _ _); first | refine er_i (Or.inl ⟨by omega, by omega⟩) ?_ | refine er_i (Or.inr ⟨by omega, by omega⟩) ?_ | refine er_i ⟨by omega, by omega⟩ ?_ | refine er_i (by omega) ?_)
    | ((with_reducible show Er _ _ (fun _ _ _ _ => _) _ _ _); first | refine er_isN ?_ | refine er_notN ?_)
    | ((with_reducible show Er _ _ rEq _ _ _); refine er_eq ⟨_, rfl, ?_⟩)
    | ((with_reducible show Er _ _ rNe _ _ _); refine er_ne ⟨_, rfl, ?_⟩))
  | ((with_reducible show Ea _ _ _ _ _); first
    | ((with_reducible show Ea _ _ (tCons (tVar _) _) _ _); refine ea_pot rfl ?_)
    | (with_reducible refine ea_nil ?_)
    | (with_reducible refine ea_v ?_))
  | ((with_reducible show Es _ _ _ _ _); first
    | (with_reducible refine es_seq ?_)
    | (with_reducible refine es_next ?_)
    | (with_reducible refine es_if ?_)
    | (with_reducible refine es_ret ?_)
    | (with_reducible refine es_set ?_)
    | (with_reducible refine es_asg ?_)
    | ((with_reducible show Es _ _ (tPar _ _ (tCons tDNewK _)) _ _); refine es_parO (by first | (simp [startE]; done) | decide) (ef_dnew ?_))
    | (with_reducible refine es_par ?_)
    | (with_reducible refine es_drop ?_))
  | ((with_reducible show Et _ _ _ _ _); first
    | (with_reducible refine et_test ?_)
    | (with_reducible refine et_B ?_)
    | (with_reducible refine et_yes ?_)
    | (with_reducible refine et_and ?_)
    | (with_reducible refine et_or ?_)
    | (with_reducible refine et_not ?_)
    | (with_reducible refine et_ifT ?_))
  | ((with_reducible show Eb _ _ _ _ _); first
    | ((with_reducible show Eb _ _ (rIsi _) [_, Ag.v (Dm.ty _)] _); refine eb_isi rfl (by walk_at "kb") ?_)
    | ((with_reducible show Eb _ _ (rIsi _) [_, Ag.v (Dm.fn _)] _); refine eb_isiC (by assumption) ?_)
    | ((with_reducible show Eb _ _ (rIsiT _) _ _); refine eb_isi2 rfl (by walk_at "kb") (by walk_at "kb") ?_)
    | ((with_reducible show Eb _ _ _ [Ag.v (Dm.int _)] _); first | refine eb_abs ?_ | refine eb_int ?_)
    | ((with_reducible show Eb _ _ (rListOf _) _ _); refine eb_list ⟨_, (by first | rfl | assumption), ?_⟩)
    | ((with_reducible show Eb _ _ _ [Ag.v _] _); refine eb_len ⟨_, (by first | rfl | assumption), ?_⟩))
  | ((with_reducible show Eg _ _ _ _ _ _); first
    | (with_reducible refine eg_nm ?_)
    | ((with_reducible show Eg _ _ (gTup _ _ _) _ _ _); refine eg_tup ⟨_, rfl, rfl, ?_⟩))
  | ((with_reducible show Egs _ _ _ _ _ _); first
    | (with_reducible refine egs_cons ?_)
    | (with_reducible refine egs_nil ?_))
  | ((with_reducible show Ed _ _ _ _ _); first
    | ((with_reducible show Ed _ _ (tVar _) _ _); first | refine ed_own rfl ?_ | refine ed_ro rfl ?_ | refine ed_frz rfl ?_ | refine ed_v (ev_var rfl ⟨_, rfl, ?_⟩)))
  | ((with_reducible show ite _ _ _); first | refine br_y rfl ?_ | refine br_n rfl ?_ | refine br_y (decide_eq_true (by walk_at "om")) ?_ | refine br_n (decide_eq_false (by walk_at "om")) ?_)
  | (with_reducible refine br_nt (by walk_at "om") ?_)
  | (with_reducible refine br_nf (by walk_at "om") ?_)
  | assumption
  | exact rfl
  | exact congrArg Dm.bl (decide_eq_true (by walk_at "om"))
  | exact congrArg Dm.bl (decide_eq_false (by walk_at "om"))
  | (with_reducible refine kb_t (by walk_at "om") ?_)
  | refine ⟨[_], rfl, sl15 (Nat.le_of_ble_eq_true rfl), ?_⟩
  | refine ⟨[_, _], rfl, sl15 (Nat.le_of_ble_eq_true rfl), ?_⟩
  | refine ⟨[_, _, _], rfl, sl15 (Nat.le_of_ble_eq_true rfl), ?_⟩
  | refine ⟨[], rfl, Nat.zero_le _, ?_⟩
  | exact ⟨_, rfl⟩
  | exact ⟨_, _, rfl⟩
  | exact ⟨_, _, _, rfl⟩
  | exact ⟨_, _, _, _, rfl⟩
  | refine ⟨_, _, rfl, rfl, ?_⟩
  | refine ⟨_, rfl, ?_⟩
  | refine ⟨_, _, rfl, ?_⟩
  | refine ⟨_, _, _, rfl, ?_⟩
  | refine ⟨_, _, _, _, rfl, ?_⟩
  | refine ⟨_, rfl, (by assumption), ?_⟩
  | refine ⟨_, _, rfl, (by assumption), ?_⟩
  | refine ⟨⟨_, _, rfl⟩, ?_⟩
  | refine And.intro (by first | assumption | walk_at "om") ?_
  | refine And.intro rfl ?_
  | (simp only [List.length_map]; assumption)
  | omega)
local macro_rules | `(tactic| walk_at "nx") => `(tactic| (repeat first | assumption | exact rfl | refine noX_set ?_ rfl))
local macro_rules | `(tactic| walk_at "gs") => `(tactic| (repeat first | exact gset_nil | exact gset_name (by decide) | exact gmono_nil | exact gmono_name | refine gset_tup ?_ | refine gmono_tup ?_ | refine gset_cons ?_ ?_ ?_ ?_ | refine gmono_cons ?_ ?_))
local macro_rules | `(tactic| walk_at "pl") => `(tactic| (simp only [plainE, List.set_cons_zero, List.set_cons_succ, List.all_cons, List.all_nil, Bool.and_true, Bool.and_self, Bool.true_and, pc_v, pc_pot, pc_none, *]))
variable {P : Program} {w : World} {K : PySem.W.Frag} {mg : Str → Option Value} {base : Heap}
theorem ef_disp1 {Z : Fr} {env : Env} {tk tv : TE} {k : Dm → Prop} (h : Ev K Z tk env fun dk => Ev K Z tv env fun dv => ∃ x, dk.key = some x ∧ k (.dic [(x, dv)])) : Ef K Z (tDisp [(tk, tv)]) env k := fun G H σ ok Q c => by
  intro p np
  have a0 := Adv.skip (o := .dK []) ok.hz np
  have ok1 := ok.adv a0
  obtain ⟨fp, nP⟩ := ok.newx np
  refine h _ _ σ ok1 _ fun dk vk G1 H1 hv a1 rk => ?_
  refine hv G1 H1 σ (ok1.adv a1) _ fun dv vv G2 H2 hx a2 rv => ?_
  obtain ⟨x, hk, kd⟩ := hx
  have ek := rk.key hk
  subst ek
  have hp2 : H2 p = some (.dK []) := a2.hh p _ nP (a1.hh p _ nP upd_same)
  have gp : G2 p = none := a2.gr p (a1.gr p (ok.hz.exG.free np) (by rw [upd_same]; simp)) (by rw [a1.hh p _ nP upd_same]; simp)
  refine ⟨hp2, [(x, vv)], rfl, by show (1 : Nat) ≤ 15; decide, ?_⟩
  have em : mergeK [] [(x, vv)] = [(x, vv)] := rfl
  rw [em]
  exact c _ p G2 _ kd (((a0.trans a1).trans a2).at_new np gp nP) np gp ⟨_, upd_same, .cons rv .nil⟩
def W__law_world_drawn : Wf := fun as k => as = [.pot, .v (.int 5)] ∧ ∀ W n, Wg W n → k (worldD W)
theorem h__law_world_drawn (T : Kt K mg) : Held P w K mg base 4 T.a__law_world_drawn (spD K W__law_world_drawn) := by
  obtain ⟨fd, F⟩ := T.f__law_world_drawn
  have sc := sc__law_world_drawn
  refine held_of F sc (spD_len fun as k h => ?_) (fun _ _ _ _ _ _ us hl => match us, hl with | [_, _], _ => rfl) fun cdv A outer s H E hr => ?_
  · obtain ⟨rfl, _⟩ := h; rfl
  have hu := hu_of hr
  have hF_ : Cls K T.C_Family ∧ NoAttr K T.C_Family "own_lots" := ⟨T.isF.cl, T.naF⟩
  have hM_ : Cls K T.C_Map ∧ NoAttr K T.C_Map "own_families" := ⟨T.isM.cl, T.naM⟩
  have iF_ := T.isF
  have iM_ := T.isM
  have G__law_world := held_mono (h__law_world (P := P) (w := w) (base := base) T) (show 3 ≤ 3 by decide)
  have G__law_classes := held_mono (h__law_classes (P := P) (w := w) (base := base) T) (show 2 ≤ 3 by decide)
  have G__law_draw := held_mono (h__law_draw (P := P) (w := w) (base := base) T) (show 1 ≤ 3 by decide)
  refine ⟨_, (pss_one (ps_ret (pe_h G__law_world hr rfl T.g__law_world (pa_cons (pv 0) (pa_cons (pe_h G__law_classes hr rfl T.g__law_classes (pa_cons (pv 0) (pa_cons (pe_op op_add pe_int (pe_h G__law_draw hr rfl T.g__law_draw (pa_cons (pv 0) (pa_cons (pv 1) pa_nil)))) pa_nil))) pa_nil))))),
    fun vs Q sp => body_ok (fun Z as k hw => ?_) sp⟩
  obtain ⟨rfl, hk⟩ := hw
  try dsimp only [cxOf, Cx.nox]
  refine es_ret (ev_call (ea_pot rfl (ea_v (ev_call (ea_pot rfl (ea_v (ev_op (ev_int (ev_call (ea_pot rfl (ea_v (ev_var rfl (ea_nil ⟨_, rfl, by omega, by omega, fun r r0 r1 => ?_⟩)))))))))))))
  obtain ⟨r, rfl⟩ := Int.eq_ofNat_of_zero_le r0
  refine er_i0 (ea_nil ⟨1 + r, by push_cast; rfl, by omega, fun cs h1 h2 => ?_⟩)
  exact ea_nil ⟨cs, 1 + r, rfl, h1, h2, by omega, by omega, fun W hW => hk W _ hW⟩
/-- numbers of a gap -/
theorem Wg.gap {W : Wd} {n i j : Nat} (h : Wg W n) (hi : i < n) (hj : j < n) : -70000 ≤ gi W.bs (i : Nat) + gi W.ss (i : Nat) - gi W.bs (j : Nat) ∧ gi W.bs (i : Nat) + gi W.ss (i : Nat) - gi W.bs (j : Nat) ≤ 70000 := by
  have h1 := h.bb i hi
  have h2 := h.bb j hj
  have h3 := h.sb i hi
  omega
theorem div_small {a c : Int} (hc : 1 ≤ c) (h1 : -70000 ≤ a) (h2 : a ≤ 70000) : -70001 ≤ a / c ∧ a / c ≤ 70001 := by
  have e := Int.mul_ediv_add_emod a c
  have m0 := Int.emod_nonneg a (show c ≠ 0 by omega)
  have m1 := Int.emod_lt_of_pos a (show 0 < c by omega)
  constructor
  · rcases Int.lt_or_le (a / c) (-70001) with z | z
    · have : c * (a / c) ≤ c * (-70002) := Int.mul_le_mul_of_nonneg_left (by omega) (by omega)
      have : c * (-70002) ≤ c * (-70001) - 1 := by omega
      have h4 : c * (-70001) ≤ -70001 := by omega
      omega
    · exact z
  · rcases Int.lt_or_le 70001 (a / c) with z | z
    · have : c * 70002 ≤ c * (a / c) := Int.mul_le_mul_of_nonneg_left (by omega) (by omega)
      omega
    · exact z
def W__law_lots : Wf := fun as k => ∃ (W : Wd) (n i : Nat), as = [.pot, .v (worldD W), .v (.int (i : Nat))] ∧ Wg W n ∧ i < n ∧ ∀ ls : List Lot, 1 ≤ ls.length → ls.length ≤ 3 → (∀ l ∈ ls, Lw W n i l) → (∃ l ∈ ls, Heldw W i l) → k (lotsD ls)
theorem h__law_lots (T : Kt K mg) : Held P w K mg base 3 T.a__law_lots (spD K W__law_lots) := by
  obtain ⟨fd, F⟩ := T.f__law_lots
  have sc := sc__law_lots
  refine held_of F sc (spD_len fun as k h => ?_) (fun _ _ _ _ _ _ us hl => match us, hl with | [_, _, _], _ => rfl) fun cdv A outer s H E hr => ?_
  · obtain ⟨_, _, _, rfl, _⟩ := h; rfl
  have hu := hu_of hr
  have hF_ : Cls K T.C_Family ∧ NoAttr K T.C_Family "own_lots" := ⟨T.isF.cl, T.naF⟩
  have hM_ : Cls K T.C_Map ∧ NoAttr K T.C_Map "own_families" := ⟨T.isM.cl, T.naM⟩
  have iF_ := T.isF
  have iM_ := T.isM
  have G__law_gap := held_mono (h__law_gap (P := P) (w := w) (base := base) T) (show 1 ≤ 2 by decide)
  have G__law_draw := held_mono (h__law_draw (P := P) (w := w) (base := base) T) (show 1 ≤ 2 by decide)
  have G__law_lot := held_mono (h__law_lot (P := P) (w := w) (base := base) T) (show 1 ≤ 2 by decide)
  have G__law_pick := held_mono (h__law_pick (P := P) (w := w) (base := base) T) (show 2 ≤ 2 by decide)
  refine ⟨_, (pss_cons (ps_asg (pe_tup (pa_cons (pe_dget hu (pv 1) pe_str (fun _ _ => rfl)) (pa_cons (pe_callTy call_int1 (by rfl) T.n_int (by decide +kernel) (pa_cons (pe_dget hu (pv 1) pe_str (fun _ _ => rfl)) pa_nil)) (pa_cons (pe_callB (call_lenK (K := K) rfl) (by rfl) T.n_len (by decide +kernel) (pa_cons (pe_dget hu (pv 1) pe_str (fun _ _ => rfl)) pa_nil)) pa_nil)))) (pg_tupK (K := K) (n := 3) rfl rfl (pgs_cons (pg_name (i := 3) sc.nd rfl (by first | exact Or.inl rfl | exact Or.inr rfl)) (pgs_cons (pg_name (i := 4) sc.nd rfl (by first | exact Or.inl rfl | exact Or.inr rfl)) (pgs_cons (pg_name (i := 5) sc.nd rfl (by first | exact Or.inl rfl | exact Or.inr rfl)) pgs_nil)))))
      (pss_cons (ps_set (i := 6) sc.nd rfl (by first | exact Or.inl rfl | exact Or.inr rfl) (pe_disp (pps_cons (pe_ix (ix_listK (K := K) rfl) (pe_dget hu (pv 1) pe_str (fun _ _ => rfl)) (pv 2) (fun _ _ => rfl)) (pe_op op_fdiv (pe_h G__law_gap hr rfl T.g__law_gap (pa_cons (pv 1) (pa_cons (pv 2) (pa_cons (pe_ix (ix_listK (K := K) rfl) (pe_dget hu (pv 1) pe_str (fun _ _ => rfl)) (pv 2) (fun _ _ => rfl)) pa_nil)))) (pv 4)) pps_nil) (by rfl) (by rfl) (fun z => by cases z) (by decide)))
      (pss_cons (ps_for PassesOwn.never rfl (pi_range1 (by rfl) T.n_range (pa_cons (pv 5) pa_nil)) (pg_name (i := 7) sc.nd rfl (by first | exact Or.inl rfl | exact Or.inr rfl)) (pss_one (ps_if (PW.pt (pw_and (pt_cmp (pc_dnotin hu (pv 7) (pv 6))) (pw_and (pt_cmpR op_le (pe_ix (ix_listK (K := K) rfl) (pv 3) (pv 7) (fun _ _ => rfl)) (pe_ix (ix_listK (K := K) rfl) (pv 3) (pv 2) (fun _ _ => rfl)) (nomark _)) (pw_and1 (pt_cmpR op_eq (pe_h G__law_draw hr rfl T.g__law_draw (pa_cons (pv 0) (pa_cons pe_int pa_nil))) pe_int (nomark _)))))) (pss_one (ps_dput hu (pv 6) (pv 7) (pe_op op_sub (pe_op op_fdiv (pe_h G__law_gap hr rfl T.g__law_gap (pa_cons (pv 1) (pa_cons (pv 2) (pa_cons (pv 7) pa_nil)))) (pv 4)) (pe_h G__law_draw hr rfl T.g__law_draw (pa_cons (pv 0) (pa_cons pe_int pa_nil)))) rfl)) pss_nil)))
      (pss_cons (ps_set (i := 8) sc.nd rfl (by first | exact Or.inl rfl | exact Or.inr rfl) (pe_lst (pa_cons (pe_h G__law_lot hr rfl T.g__law_lot (pa_cons (pv 6) pa_nil)) pa_nil)))
      (pss_cons (ps_for PassesOwn.never rfl (pi_range1 (by rfl) T.n_range (pa_cons (pe_h G__law_draw hr rfl T.g__law_draw (pa_cons (pv 0) (pa_cons pe_int pa_nil))) pa_nil)) (pg_name (i := 9) sc.nd rfl (by first | exact Or.inl rfl | exact Or.inr rfl)) (pss_cons (ps_set (i := 10) sc.nd rfl (by first | exact Or.inl rfl | exact Or.inr rfl) (pe_h G__law_pick hr rfl T.g__law_pick (pa_cons (pv 0) (pa_cons (pe_lc (own := [("_law_j", 7)]) (g := gName 7) rfl sc.nd (pi_range1 (by rfl) T.n_range (pa_cons (pv 5) pa_nil)) (blkOk_by (N := N__law_lots) (sc := defScope s__law_lots) (by decide +kernel)) (fun _ _ _ _ _ => (pg_name (i := 7) sc.nd rfl (by first | exact Or.inl rfl | exact Or.inr rfl))) (fun _ _ _ _ _ => (pts_one (pt_cmpR op_ge (pe_ix (ix_listK (K := K) rfl) (pv 3) (pv 7) (fun _ _ => rfl)) (pe_ix (ix_listK (K := K) rfl) (pv 3) (pv 2) (fun _ _ => rfl)) (nomark _)))) (fun _ _ _ _ _ => (pv 7))) pa_nil))))
      (pss_cons (ps_set (i := 6) sc.nd rfl (by first | exact Or.inl rfl | exact Or.inr rfl) (pe_disp (pps_cons (pv 10) (pe_op op_add (pe_op op_sub pe_int (pe_op op_fdiv (pe_op op_sub pe_int (pe_h G__law_gap hr rfl T.g__law_gap (pa_cons (pv 1) (pa_cons (pv 2) (pa_cons (pv 10) pa_nil))))) (pv 4))) (pe_h G__law_draw hr rfl T.g__law_draw (pa_cons (pv 0) (pa_cons pe_int pa_nil)))) pps_nil) (by rfl) (by rfl) (fun z => by cases z) (by decide)))
      (pss_cons (ps_for PassesOwn.never rfl (pi_range1 (by rfl) T.n_range (pa_cons (pv 5) pa_nil)) (pg_name (i := 7) sc.nd rfl (by first | exact Or.inl rfl | exact Or.inr rfl)) (pss_one (ps_if (PW.pt (pw_and (pt_cmp (pc_dnotin hu (pv 7) (pv 6))) (pw_and1 (pt_cmpR op_eq (pe_h G__law_draw hr rfl T.g__law_draw (pa_cons (pv 0) (pa_cons pe_int pa_nil))) pe_int (nomark _))))) (pss_one (ps_dput hu (pv 6) (pv 7) (pe_op op_sub (pe_op op_add (pe_op op_fdiv (pe_h G__law_gap hr rfl T.g__law_gap (pa_cons (pv 1) (pa_cons (pv 2) (pa_cons (pv 7) pa_nil)))) (pv 4)) (pe_h G__law_draw hr rfl T.g__law_draw (pa_cons (pv 0) (pa_cons pe_int pa_nil)))) pe_int) rfl)) pss_nil)))
      (pss_one (ps_expr (pe_bm PySem.F.plainAttrs_list PySem.F.slot_list_append PySem.F.type_list_append mt_append (pv 8) (pa_cons (pe_h G__law_lot hr rfl T.g__law_lot (pa_cons (pv 6) pa_nil)) pa_nil))))))))
      (pss_one (ps_ret (pv 8)))))))),
    fun vs Q sp => body_ok (fun Z as k hw => ?_) sp⟩
  obtain ⟨W, n, i, rfl, hW, hi, hk⟩ := hw
  have hn := hW.n2
  have c1 := hW.c1
  have c2 := hW.c2
  have lls := hW.ls
  have llb := hW.lb
  have llx := hW.lx
  have lc := look_common W
  have lb := look_base W
  have lss := look_steps W
  have lx := look_next W
  obtain ⟨j0, hj0, hj1, hj2, t0, ht0⟩ := hW.nx i hi
  have ai := gi_at (l := W.ss) (j := (i : Nat)) (by omega) (by omega)
  have ax := gi_at (l := W.nx) (j := (i : Nat)) (by omega) (by omega)
  rw [hj0] at ax
  have gp := hW.gap hi hj1
  have hq0 : (gi W.bs (i : Nat) + gi W.ss (i : Nat) - gi W.bs (j0 : Nat)) / (W.c : Int) = t0 := by rw [ht0, Int.mul_ediv_cancel_left _ (by omega)]
  have ht1 := div_small (c := W.c) (by omega) gp.1 gp.2
  rw [hq0] at ht1
  try dsimp only [cxOf, Cx.nox]
  refine es_seq (es_asg (ev_tup (ea_v (ev_dget (ed_v (ev_var rfl ⟨_, rfl, ev_str ⟨_, _, rfl, lss, ?_⟩⟩))))))
  refine ea_v (ev_cb (ea_v (ev_dget (ed_v (ev_var rfl ⟨_, rfl, ev_str ⟨_, _, rfl, lc, ea_nil (eb_int ?_)⟩⟩)))))
  refine ea_v (ev_cb (ea_v (ev_dget (ed_v (ev_var rfl ⟨_, rfl, ev_str ⟨_, _, rfl, lb, ea_nil (eb_len ⟨_, rfl, ?_⟩)⟩⟩)))))
  refine ea_nil ⟨[_, _, _], rfl, sl15 (Nat.le_of_ble_eq_true rfl), eg_tup ⟨_, rfl, rfl, egs_cons (eg_nm (egs_cons (eg_nm (egs_cons (eg_nm (egs_nil ?_))))))⟩⟩
  rw [List.length_map, llb]
  refine es_seq (es_own (Nat.le_of_ble_eq_true rfl) (ef_disp1 ?_))
  refine ev_op (ev_dget (ed_v (ev_var rfl ⟨_, rfl, ev_str ⟨_, _, rfl, lx, ev_var rfl (er_ixL ⟨_, ax, ?_⟩)⟩⟩)))
  refine ev_op (ev_call (ea_v (ev_var rfl (ea_v (ev_var rfl (ea_v (ev_op (ev_dget (ed_v (ev_var rfl ⟨_, rfl, ev_str ⟨_, _, rfl, lx, ev_var rfl (er_ixL ⟨_, ax, ?_⟩)⟩⟩))))))))))
  refine ea_nil ⟨W, _, _, rfl, by omega, by omega, by omega, by omega, by omega, ev_var rfl (er_i ⟨by omega, by omega⟩ ⟨_, rfl, ?_⟩)⟩
  rw [hq0]
  have tw0 : Tw W n i [((j0 : Nat), t0)] := ⟨by simp, fun e he => by rw [List.mem_singleton.mp he]; exact ⟨by simp, by show ((j0 : Nat) : Int) < n; omega⟩, fun e he => by rw [List.mem_singleton.mp he]; exact ⟨by show -1000000 ≤ t0; omega, by show t0 ≤ 1000000; omega⟩,
    _, List.mem_singleton.mpr rfl, picked_iff.mpr ⟨by show gi W.ss (i : Nat) ≤ gi W.ss (j0 : Nat); omega, by show gi W.bs (i : Nat) + gi W.ss (i : Nat) ≤ gi W.bs (j0 : Nat) + W.c * t0; omega⟩⟩
  have hh0 : Heldw W i [((j0 : Nat), t0)] := fun e he => by
    rw [List.mem_singleton.mp he]
    exact held_iff.mpr ⟨by show gi W.ss (j0 : Nat) ≤ gi W.ss (i : Nat); omega, by show gi W.bs (j0 : Nat) + W.c * t0 ≤ gi W.bs (i : Nat) + gi W.ss (i : Nat); omega⟩
  have rg : ∀ {m j : Nat}, (List.range n)[m]? = some j → j = m ∧ j < n := fun {m j} h => by
    have hm : m < n := by
      have := (List.getElem?_eq_some_iff.mp h).1
      rwa [List.length_range] at this
    rw [List.getElem?_range hm] at h
    exact ⟨(Option.some.inj h).symm, by have := Option.some.inj h; omega⟩
  refine es_seq (es_forA (List.range n) (fun j => .int (j : Nat)) (fun m e => ∃ (l : Lot) (o7 : Option Cl), e = [some .pot, some (.v (worldD W)), some (.v (.int (i : Nat))), some (.v (intsL W.ss)), some (.v (.int (W.c : Nat))), some (.v (.int (n : Nat))), some (.o (.dic (dkl l))), o7, none, none, none] ∧ noX e = true ∧ Tw W n i l ∧ Heldw W i l)
    (ei_range1 (ea_v (ev_var rfl (ea_nil ⟨_, rfl, by omega, by omega, intsD_map _⟩)))) ⟨[((j0 : Nat), t0)], none, rfl, rfl, tw0, hh0⟩ (fun m j e hj hI => ?_) (fun e hI => ?_))
  · obtain ⟨l, o7, rfl, hx, hT, hH⟩ := hI
    obtain ⟨rfl, hjn⟩ := rg hj
    have aj := gi_at (l := W.ss) (j := (j : Nat)) (by omega) (by omega)
    have gq := hW.gap hi hjn
    have hl := hT.len
    refine eg_nm (es_if (et_and (et_test (ev_dnin (ev_var rfl (ed_own rfl ⟨_, rfl, _, rfl, ?_⟩))))))
    rw [look_dkl_some]
    cases hlk : look l (j : Nat) with
    | some y =>
      refine br_n rfl (br_n rfl ?_)
      exact es_next ⟨l, _, rfl, by walk_at "nx", hT, hH⟩
    | none =>
      refine br_y rfl ?_
      refine et_and (et_test (ev_op (ev_op (ev_var rfl (ev_var rfl (er_ixL ⟨_, aj, ev_op (ev_var rfl (ev_var rfl (er_ixL ⟨_, ai, er_b0 ⟨_, rfl, ?_⟩⟩)))⟩))))))
      refine br_d (fun hc => ?_) (fun hc => br_n rfl (es_next ⟨l, _, rfl, by walk_at "nx", hT, hH⟩))
      refine et_test (ev_op (ev_call (ea_pot rfl (ea_v (ev_int (ea_nil ⟨_, rfl, by omega, by omega, fun r r0 r1 => ev_int (er_eq ⟨_, rfl, _, rfl, ?_⟩)⟩))))))
      refine br_d (fun hc2 => ?_) (fun hc2 => es_next ⟨l, _, rfl, by walk_at "nx", hT, hH⟩)
      refine es_dput (ks := dkl l) (by walk_at "nx") rfl (by unfold dkl; rw [List.length_map]; exact sln' (m := 12) (by omega)) ?_
      refine ev_op (ev_op (ev_call (ea_v (ev_var rfl (ea_v (ev_var rfl (ea_v (ev_var rfl (ea_nil ⟨W, _, _, rfl, by omega, by omega, by omega, by omega, by omega, ev_var rfl (er_i ⟨by omega, by omega⟩ ?_)⟩)))))))))
      refine ev_call (ea_pot rfl (ea_v (ev_int (ea_nil ⟨_, rfl, by omega, by omega, fun r2 r20 r21 => er_i0 (ev_var rfl ⟨_, rfl, ?_⟩)⟩))))
      have gd := div_small (c := W.c) (by omega) gq.1 gq.2
      have gm := Int.mul_ediv_self_le (x := gi W.bs (i : Nat) + gi W.ss (i : Nat) - gi W.bs (j : Nat)) (k := W.c) (by omega)
      refine ⟨_, _, by rw [putD_dkl hlk]; rfl, by walk_at "nx", hT.add hlk (by omega) (by omega) (by omega) (by omega), fun e he => ?_⟩
      rcases List.mem_append.mp he with he | he
      · exact hH e he
      · rw [List.mem_singleton.mp he]
        refine held_iff.mpr ⟨hc, ?_⟩
        show gi W.bs (j : Nat) + W.c * ((gi W.bs (i : Nat) + gi W.ss (i : Nat) - gi W.bs (j : Nat)) / W.c - r2) ≤ gi W.bs (i : Nat) + gi W.ss (i : Nat)
        rw [Int.mul_sub]
        have : 0 ≤ (W.c : Int) * r2 := Int.mul_nonneg (by omega) (by omega)
        omega
  obtain ⟨l, o7, rfl, hx, hT, hH⟩ := hI
  have hl := hT.len
  refine es_frz (i := 6) hx rfl ?_
  refine es_seq (es_own (Nat.le_of_ble_eq_true rfl) (ef_lst (ea_v (ev_call (ea_v (ev_var rfl (ea_nil ⟨l, rfl, hT.nd, by omega, fun l' hp hs => ea_nil ⟨[_], rfl, sl15 (Nat.le_of_ble_eq_true rfl), ?_⟩⟩)))))))
  have hL := hT.sorted (by omega) hp hs
  have hLh : Heldw W i l' := fun e he => hH e (hp.mem_iff.mp he)
  refine es_seq (es_for (ei_range1 (ea_v (ev_call (ea_pot rfl (ea_v (ev_int (ea_nil ⟨_, rfl, by omega, by omega, fun r r0 r1 => ea_nil ⟨r, rfl, by omega, by omega, ?_⟩⟩))))))))
  obtain ⟨r, rfl⟩ := Int.eq_ofNat_of_zero_le r0
  rw [Int.toNat_natCast]
  refine ⟨fun m e => ∃ (ls : List Lot) (o6 o7 o9 o10 : Option Cl), e = [some .pot, some (.v (worldD W)), some (.v (.int (i : Nat))), some (.v (intsL W.ss)), some (.v (.int (W.c : Nat))), some (.v (.int (n : Nat))), o6, o7, some (.o (.lst (ls.map lotD))), o9, o10] ∧ noX e = true ∧ ls.length = m + 1 ∧ (∀ l ∈ ls, Lw W n i l) ∧ ∃ l ∈ ls, Heldw W i l,
    ⟨[l'], _, _, _, _, rfl, by walk_at "nx", rfl, fun l hl => by rw [List.mem_singleton.mp hl]; exact hL, l', List.mem_singleton.mpr rfl, hLh⟩, fun m d e hd hI => ?_, fun e hI => ?_⟩
  · obtain ⟨ls, o6, o7, o9, o10, rfl, hx, hl1, hl2, hl3⟩ := hI
    have hmr : m < r := by
      have := (List.getElem?_eq_some_iff.mp hd).1
      rwa [intsD_len] at this
    rw [intsD_at r 0 hd]
    have hfil : ∀ x ∈ ((List.range n).filter fun j => decide (gi W.ss (j : Nat) ≥ gi W.ss (i : Nat))).map (fun j => ((j : Nat) : Int)), ∃ j : Nat, x = j ∧ j < n ∧ gi W.ss (j : Nat) ≥ gi W.ss (i : Nat) := fun x hx => by
      obtain ⟨j, hj, rfl⟩ := List.mem_map.mp hx
      obtain ⟨h1, h2⟩ := List.mem_filter.mp hj
      exact ⟨j, rfl, List.mem_range.mp h1, of_decide_eq_true h2⟩
    have hfi : (i : Int) ∈ ((List.range n).filter fun j => decide (gi W.ss (j : Nat) ≥ gi W.ss (i : Nat))).map (fun j => ((j : Nat) : Int)) := List.mem_map_of_mem (f := fun j : Nat => ((j : Nat) : Int)) (List.mem_filter.mpr ⟨List.mem_range.mpr hi, decide_eq_true (Int.le_refl _)⟩)
    have hfn : (((List.range n).filter fun j => decide (gi W.ss (j : Nat) ≥ gi W.ss (i : Nat))).map (fun j => ((j : Nat) : Int))).length ≤ n := by
      rw [List.length_map]
      exact Nat.le_trans (List.length_filter_le _ _) (by rw [List.length_range]; exact Nat.le_refl _)
    refine eg_nm (es_seq (es_set (ev_call (ea_pot rfl (ea_v (ev_ef (ef_filX (List.range n) (fun j => .int (j : Nat)) (fun j => decide (gi W.ss (j : Nat) ≥ gi W.ss (i : Nat))) (fun j => .int (j : Nat)) (by walk_at "gs") (by walk_at "gs") (ej (ei_range1 (ea_v (ev_var rfl (ea_nil ⟨_, rfl, by omega, by omega, intsD_map _⟩))))) (by rw [List.length_range]; exact sln' (m := 12) (by omega)) (fun Z' j hj => eg_nm ?_) (ea_nil ?_))))))))
    · have hj := List.mem_range.mp hj
      have aj := gi_at (l := W.ss) (j := (j : Nat)) (by omega) (by omega)
      exact et_test (ev_op (ev_op (ev_var rfl (ev_var rfl (er_ixL ⟨_, aj, ev_op (ev_var rfl (ev_var rfl (er_ixL ⟨_, ai, er_b0 ⟨_, rfl, rfl, fun _ => ev_var rfl rfl⟩⟩)))⟩)))))
    have em : ((List.range n).filter fun j => decide (gi W.ss (j : Nat) ≥ gi W.ss (i : Nat))).map (fun j => Dm.int (j : Nat)) = (((List.range n).filter fun j => decide (gi W.ss (j : Nat) ≥ gi W.ss (i : Nat))).map (fun j => ((j : Nat) : Int))).map Dm.int := by rw [List.map_map]; rfl
    rw [em]
    refine ⟨_, rfl, List.length_pos_of_mem hfi, by omega, fun x hx2 => ?_⟩
    obtain ⟨j1, rfl, hj1n, hj1s⟩ := hfil x hx2
    have gj := hW.gap hi hj1n
    have hmn : noX _ = true := hx
    refine es_seq (es_own (Nat.le_of_ble_eq_true rfl) (ef_disp1 ?_))
    refine ev_var rfl (ev_op (ev_op (ev_int (ev_op (ev_op (ev_int (ev_call (ea_v (ev_var rfl (ea_v (ev_var rfl (ea_v (ev_var rfl (ea_nil ⟨W, _, _, rfl, by omega, by omega, by omega, by omega, by omega, er_i0 (ev_var rfl (er_i ⟨by omega, by omega⟩ (er_i0 ?_)))⟩))))))))))))))
    refine ev_call (ea_pot rfl (ea_v (ev_int (ea_nil ⟨_, rfl, by omega, by omega, fun r2 r20 r21 => er_i0 ⟨_, rfl, ?_⟩⟩))))
    obtain ⟨q, hq⟩ : ∃ q, q = (0 - (gi W.bs (i : Nat) + gi W.ss (i : Nat) - gi W.bs (j1 : Nat))) / (W.c : Int) := ⟨_, rfl⟩
    rw [← hq]
    have gd := div_small (a := 0 - (gi W.bs (i : Nat) + gi W.ss (i : Nat) - gi W.bs (j1 : Nat))) (c := W.c) (by omega) (by omega) (by omega)
    rw [← hq] at gd
    have gm : (W.c : Int) * q ≤ 0 - (gi W.bs (i : Nat) + gi W.ss (i : Nat) - gi W.bs (j1 : Nat)) := by
      rw [hq]
      exact Int.mul_ediv_self_le (by omega)
    have tw1 : Tw W n i [((j1 : Nat), 0 - q + r2)] := ⟨by simp, fun e he => by rw [List.mem_singleton.mp he]; exact ⟨by simp, by show ((j1 : Nat) : Int) < n; omega⟩, fun e he => by rw [List.mem_singleton.mp he]; exact ⟨by show -1000000 ≤ 0 - q + r2; omega, by show 0 - q + r2 ≤ 1000000; omega⟩,
      _, List.mem_singleton.mpr rfl, picked_iff.mpr ⟨hj1s, by
        show gi W.bs (i : Nat) + gi W.ss (i : Nat) ≤ gi W.bs (j1 : Nat) + W.c * (0 - q + r2)
        rw [Int.mul_add, Int.mul_sub, Int.mul_zero]
        have : 0 ≤ (W.c : Int) * r2 := Int.mul_nonneg (by omega) (by omega)
        omega⟩⟩
    refine es_seq (es_forA (List.range n) (fun j => .int (j : Nat)) (fun m e => ∃ (l : Lot) (o7 o9 o10 : Option Cl), e = [some .pot, some (.v (worldD W)), some (.v (.int (i : Nat))), some (.v (intsL W.ss)), some (.v (.int (W.c : Nat))), some (.v (.int (n : Nat))), some (.o (.dic (dkl l))), o7, some (.o (.lst (ls.map lotD))), o9, o10] ∧ noX e = true ∧ Tw W n i l)
      (ei_range1 (ea_v (ev_var rfl (ea_nil ⟨_, rfl, by omega, by omega, intsD_map _⟩)))) ⟨[((j1 : Nat), 0 - q + r2)], _, _, _, rfl, by walk_at "nx", tw1⟩ (fun m2 j e hj hI => ?_) (fun e hI => ?_))
    · obtain ⟨l, o7, o9, o10, rfl, hx, hT⟩ := hI
      obtain ⟨rfl, hjn⟩ := rg hj
      have gq := hW.gap hi hjn
      have hl := hT.len
      refine eg_nm (es_if (et_and (et_test (ev_dnin (ev_var rfl (ed_own rfl ⟨_, rfl, _, rfl, ?_⟩))))))
      rw [look_dkl_some]
      cases hlk : look l (j : Nat) with
      | some y =>
        refine br_n rfl (br_n rfl ?_)
        exact es_next ⟨l, _, _, _, rfl, by walk_at "nx", hT⟩
      | none =>
        refine br_y rfl ?_
        refine et_test (ev_op (ev_call (ea_pot rfl (ea_v (ev_int (ea_nil ⟨_, rfl, by omega, by omega, fun r r0 r1 => ev_int (er_eq ⟨_, rfl, _, rfl, ?_⟩)⟩))))))
        refine br_d (fun hc2 => ?_) (fun hc2 => es_next ⟨l, _, _, _, rfl, by walk_at "nx", hT⟩)
        refine es_dput (ks := dkl l) (by walk_at "nx") rfl (by unfold dkl; rw [List.length_map]; exact sln' (m := 12) (by omega)) ?_
        refine ev_op (ev_op (ev_op (ev_call (ea_v (ev_var rfl (ea_v (ev_var rfl (ea_v (ev_var rfl (ea_nil ⟨W, _, _, rfl, by omega, by omega, by omega, by omega, by omega, ev_var rfl (er_i ⟨by omega, by omega⟩ ?_)⟩))))))))))
        refine ev_call (ea_pot rfl (ea_v (ev_int (ea_nil ⟨_, rfl, by omega, by omega, fun r2 r20 r21 => er_i0 (ev_int (er_i0 (ev_var rfl ⟨_, rfl, ?_⟩)))⟩))))
        have gd := div_small (c := W.c) (by omega) gq.1 gq.2
        exact ⟨_, _, _, _, by rw [putD_dkl hlk]; rfl, by walk_at "nx", hT.add hlk (by omega) (by omega) (by omega) (by omega)⟩
    obtain ⟨l, o7, o9, o10, rfl, hx, hT⟩ := hI
    have hl := hT.len
    refine es_frz (i := 6) hx rfl ?_
    refine es_append (i := 8) (by walk_at "nx") rfl (by rw [List.length_map]; exact sln' (m := 12) (by omega)) (ea_v (ev_call (ea_v (ev_var rfl (ea_nil ⟨l, rfl, hT.nd, by omega, fun l' hp hs => ea_nil ⟨_, rfl, ?_⟩⟩)))))
    refine ⟨ls ++ [l'], _, _, _, _, by rw [List.map_append]; rfl, by walk_at "nx", by simp [hl1], fun y hy => ?_, ?_⟩
    · rcases List.mem_append.mp hy with hy | hy
      · exact hl2 y hy
      · rw [List.mem_singleton.mp hy]; exact hT.sorted (by omega) hp hs
    · obtain ⟨y, h1, h2⟩ := hl3
      exact ⟨y, List.mem_append_left _ h1, h2⟩
  obtain ⟨ls, o6, o7, o9, o10, rfl, hx, hl1, hl2, hl3⟩ := hI
  rw [intsD_len] at hl1
  refine es_frz (i := 8) hx rfl ?_
  exact es_ret (ev_var rfl (hk ls (by omega) (by omega) hl2 hl3))
end
end Ln
/-! K24: the law's own map, papers, bounds. -/
namespace Ln
open PySem PySem.Spec PyProof.Rows L2
structure FamG (W : Wd) (n i : Nat) (f : List Lot) : Prop where
  l1 : 1 ≤ f.length
  l2 : f.length ≤ 3
  ok : ∀ l ∈ f, Lw W n i l
  hd : ∃ l ∈ f, Heldw W i l
structure MapG (W : Wd) (n : Nat) (fs : List (List Lot)) : Prop where
  w : Wg W n
  ln : fs.length = n
  f : ∀ i, i < n → FamG W n i (fs.getD i [])
theorem FamG.kept {W : Wd} {n i : Nat} {ls r : List Lot} (hc : 1 ≤ W.c) (h1 : 1 ≤ ls.length) (h2 : ls.length ≤ 3) (h3 : ∀ l ∈ ls, Lw W n i l) (h4 : ∃ l ∈ ls, Heldw W i l) (r1 : ∀ l ∈ r, l ∈ ls) (r2 : r.length ≤ ls.length) (r3 : ∀ l ∈ ls, ∃ a ∈ r, Ahead a l) : FamG W n i r := by
  obtain ⟨l, hl, hh⟩ := h4
  obtain ⟨a, ha, hal⟩ := r3 l hl
  refine ⟨List.length_pos_of_mem ha, by omega, fun l hl => h3 l (r1 l hl), a, ha, fun e he => ?_⟩
  obtain ⟨x, hx, hle⟩ := hal e he
  obtain ⟨q1, q2⟩ := held_iff.mp (hh _ hx)
  have q2 : gi W.bs e.1 + W.c * x ≤ gi W.bs (i : Nat) + gi W.ss (i : Nat) := q2
  have : (W.c : Int) * e.2 ≤ W.c * x := Int.mul_le_mul_of_nonneg_left hle (by omega)
  exact held_iff.mpr ⟨q1, by omega⟩
section
variable {W : Wd} {n : Nat} {fs : List (List Lot)}
theorem MapG.at_ (h : MapG W n fs) {i : Nat} (hi : i < n) : fs[i]? = some (fs.getD i []) := by
  rw [List.getD_eq_getElem?_getD, List.getElem?_eq_getElem (by rw [h.ln]; exact hi)]; rfl
theorem FamG.inn {i : Nat} {f : List Lot} (h : FamG W n i f) : LotsIn n f := fun l hl => ⟨(h.ok l hl).lk.few, fun e he => ⟨((h.ok l hl).lk.low e he).1, (h.ok l hl).low e he⟩⟩
theorem FamG.heldL {i : Nat} {f : List Lot} (h : FamG W n i f) : ∃ l ∈ f, Ln.heldL W.c W.ss W.bs (i : Nat) l = true := by
  obtain ⟨l, hl, hh⟩ := h.hd
  exact ⟨l, hl, List.all_eq_true.mpr hh⟩
theorem MapG.pl (h : MapG W n fs) : Pl W.c W.ss W.bs fs n :=
  ⟨h.ln, fun i hi => (h.f i hi).inn, fun i hi => (h.f i hi).heldL, fun i hi l hl => ((h.f i hi).ok l hl).pick, fun i hi l hl => ((h.f i hi).ok l hl).lk.nodup⟩
theorem MapG.mem (h : MapG W n fs) {f : List Lot} (hf : f ∈ fs) : ∃ i, i < n ∧ FamG W n i f := by
  obtain ⟨i, hi, rfl⟩ := List.getElem_of_mem hf
  have hn : i < n := by rw [← h.ln]; exact hi
  have := h.f i hn
  rw [List.getD_eq_getElem?_getD, List.getElem?_eq_getElem hi] at this
  exact ⟨i, hn, this⟩
theorem MapG.wok (h : MapG W n fs) : Wok fs W.c W.ps W.bs := by
  have hw := h.w
  refine ⟨?_, fun i f hf => ?_⟩
  · rw [h.ln]
    exact ⟨hw.lp, hw.lb, hw.n1, by have := hw.n2; omega, hw.c1, by have := hw.c2; omega, fun e he => by
      obtain ⟨p1, p2, p3, p4, p5⟩ := hw.pq e he
      exact ⟨p1, p2, p3, by omega, by omega⟩, hw.cm⟩
  · have hi : i < n := by
      have := (List.getElem?_eq_some_iff.mp hf).1
      rw [← h.ln]; exact this
    have e := h.at_ hi
    rw [hf] at e
    cases e
    rw [← hw.st, h.ln]
    have hF := h.f i hi
    exact ⟨hF.inn, by have := hF.l2; omega, hF.heldL, fun l hl => (hF.ok l hl).pick⟩
theorem MapG.wn0 (h : MapG W n fs) : Wn0 W n := by
  have hw := h.w
  have := hw.n2
  have := hw.c2
  exact ⟨hw.ls, hw.lb, by omega, hw.c1, by omega⟩
end
theorem es_nx {K : PySem.W.Frag} {Z : Fr} {t : TS} {env env' : Env} {D : Wn} (h : Es K Z t env { D with nx := fun e => e = env' }) (h2 : D.nx env') : Es K Z t env D := fun G H σ ok D' c =>
  h G H σ ok D' ⟨fun e s G' H' q ok' sg => c.nx env' s G' H' h2 (by rw [← show e = env' from q]; exact ok') sg, c.bk, c.ct, c.rt, c.rx⟩
section
local macro_rules | `(tactic| walk_at "kb") => `(tactic| first | exact kb_ii | exact kb_ib | exact kb_tt | exact kb_tl | exact kb_lt | exact kb_ll | exact kb_dd)
local macro_rules | `(tactic| walk_at "om") => `(tactic| first | omega | (simp only [List.length_map, List.length_cons, List.length_nil]; omega))
local macro_rules | `(tactic| walk_at "s") => `(tactic| first
  | ((with_reducible show Ev _ _ _ _ _); first
    | ((with_reducible show Ev _ _ (tVar _) _ _); refine ev_var rfl ?_)
    | (with_reducible refine ev_int ?_)
    | (with_reducible refine ev_bl ?_)
    | (with_reducible refine ev_str ?_)
    | (with_reducible refine ev_non ?_)
    | (with_reducible refine ev_ty ?_)
    | (with_reducible refine ev_fn ?_)
    | (with_reducible refine ev_op ?_)
    | (with_reducible refine ev_neg ?_)
    | (with_reducible refine ev_prop ?_)
    | (with_reducible refine ev_gi ?_)
    | (with_reducible refine ev_meth ?_)
    | ((with_reducible show Ev _ _ (tMake _ _ _ _ _) _ _); refine ev_make ?_)
    | ((with_reducible show Ev _ _ (tFld _ _ _) _ _); refine ev_fldA (by assumption) ?_)
    | (with_reducible refine ev_din ?_)
    | (with_reducible refine ev_dnin ?_)
    | (with_reducible refine ev_dget ?_)
    | (with_reducible refine ev_call ?_)
    | ((with_reducible show Ev _ _ (tCall (spF _ _) _ _ _) _ _); refine ev_ef (ef_callF ?_))
    | (with_reducible refine ev_cb ?_)
    | (with_reducible refine ev_andV ?_)
    | (with_reducible refine ev_orV ?_)
    | (with_reducible refine ev_notV ?_)
    | (with_reducible refine ev_if ?_)
    | (with_reducible refine ev_chain ?_)
    | (with_reducible refine ev_tup ?_)
    | (with_reducible refine ev_lst ?_))
  | ((with_reducible show Er _ _ _ _ _ _); first
    | (with_reducible refine er_b0 ?_)
    | (with_reducible refine er_i0 ?_)
    | ((with_reducible show Er _ _ (rIxT _) _ _ _); first | refine er_ixT ⟨_, _, rfl, rfl, ?_⟩ | refine er_ixT ⟨_, _, rfl, (by assumption), ?_⟩)
    | ((with_reducible show Er _ _ (rIxL _) _ _ _); first | refine er_ixL ⟨_, rfl, ?_⟩ | refine er_ixL ⟨_, (by assumption), ?_⟩)
    | ((with_reducible show Er _ _ (rI _ _) _ _ _); first | refine er_i (Or.inl ⟨by omega, by omega⟩) ?_ | refine er_i (Or.inr ⟨by omega, by omega⟩) ?_ | refine er_i ⟨by omega, by omega⟩ ?_ | refine er_i (by omega) ?_)
    | ((with_reducible show Er _ _ (fun _ _ _ _ => _) _ _ _); first | refine er_isN ?_ | refine er_notN ?_)
    | ((with_reducible show Er _ _ rEq _ _ _); refine er_eq ⟨_, rfl, ?_⟩)
    | ((with_reducible show Er _ _ rNe _ _ _); refine er_ne ⟨_, rfl, ?_⟩))
  | ((with_reducible show Ea _ _ _ _ _); first
    | ((with_reducible show Ea _ _ (tCons (tVar _) _) _ _); refine ea_pot rfl ?_)
    | (with_reducible refine ea_nil ?_)
    | (with_reducible refine ea_v ?_))
  | ((with_reducible show Es _ _ _ _ _); first
    | (with_reducible refine es_seq ?_)
    | (with_reducible refine es_next ?_)
    | (with_reducible refine es_if ?_)
    | (with_reducible refine es_ret ?_)
    | (with_reducible refine es_set ?_)
    | (with_reducible refine es_asg ?_)
    | ((with_reducible show Es _ _ (tPar _ _ (tCons tDNewK _)) _ _); refine es_parO (by first | (simp [startE]; done) | decide) (ef_dnew ?_))
    | (with_reducible refine es_par ?_)
    | (with_reducible refine es_drop ?_))
  | ((with_reducible show Et _ _ _ _ _); first
    | (with_reducible refine et_test ?_)
    | (with_reducible refine et_B ?_)
    | (with_reducible refine et_yes ?_)
    | (with_reducible refine et_and ?_)
    | (with_reducible refine et_or ?_)
    | (with_reducible refine et_not ?_)
    | (with_reducible refine et_ifT ?_))
  | ((with_reducible show Eb _ _ _ _ _); first
    | ((with_reducible show Eb _ _ (rIsi _) [_, Ag.v (Dm.ty _)] _); refine eb_isi rfl (by walk_at "kb") ?_)
    | ((with_reducible show Eb _ _ (rIsi _) [_, Ag.v (Dm.fn _)] _); refine eb_isiC (by assumption) ?_)
    | ((with_reducible show Eb _ _ (rIsiT _) _ _); refine eb_isi2 rfl (by walk_at "kb") (by walk_at "kb") ?_)
    | ((with_reducible show Eb _ _ _ [Ag.v (Dm.int _)] _); first | refine eb_abs ?_ | refine eb_int ?_)
    | ((with_reducible show Eb _ _ (rListOf _) _ _); refine eb_list ⟨_, (by first | rfl | assumption), ?_⟩)
    | ((with_reducible show Eb _ _ _ [Ag.v _] _); refine eb_len ⟨_, (by first | rfl | assumption), ?_⟩))
  | ((with_reducible show Eg _ _ _ _ _ _); first
    | (with_reducible refine eg_nm ?_)
    | ((with_reducible show Eg _ _ (gTup _ _ _) _ _ _); refine eg_tup ⟨_, rfl, rfl, ?_⟩))
  | ((with_reducible show Egs _ _ _ _ _ _); first
    | (with_reducible refine egs_cons ?_)
    | (with_reducible refine egs_nil ?_))
  | ((with_reducible show Ed _ _ _ _ _); first
    | ((with_reducible show Ed _ _ (tVar _) _ _); first | refine ed_own rfl ?_ | refine ed_ro rfl ?_ | refine ed_frz rfl ?_ | refine ed_v (ev_var rfl ⟨_, rfl, ?_⟩)))
  | ((with_reducible show ite _ _ _); first | refine br_y rfl ?_ | refine br_n rfl ?_ | refine br_y (decide_eq_true (by walk_at "om")) ?_ | refine br_n (decide_eq_false (by walk_at "om")) ?_)
  | (with_reducible refine br_nt (by walk_at "om") ?_)
  | (with_reducible refine br_nf (by walk_at "om") ?_)
  | assumption
  | exact rfl
  | exact congrArg Dm.bl (decide_eq_true (by walk_at "om"))
  | exact congrArg Dm.bl (decide_eq_false (by walk_at "om"))
  | (with_reducible refine kb_t (by walk_at "om") ?_)
  | refine ⟨[_], rfl, sl15 (Nat.le_of_ble_eq_true rfl), ?_⟩
  | refine ⟨[_, _], rfl, sl15 (Nat.le_of_ble_eq_true rfl), ?_⟩
  | refine ⟨[_, _, _], rfl, sl15 (Nat.le_of_ble_eq_true rfl), ?_⟩
  | refine ⟨[], rfl, Nat.zero_le _, ?_⟩
  | exact ⟨_, rfl⟩
  | exact ⟨_, _, rfl⟩
  | exact ⟨_, _, _, rfl⟩
  | exact ⟨_, _, _, _, rfl⟩
  | refine ⟨_, _, rfl, rfl, ?_⟩
  | refine ⟨_, rfl, ?_⟩
  | refine ⟨_, _, rfl, ?_⟩
  | refine ⟨_, _, _, rfl, ?_⟩
  | refine ⟨_, _, _, _, rfl, ?_⟩
  | refine ⟨_, rfl, (by assumption), ?_⟩
  | refine ⟨_, _, rfl, (by assumption), ?_⟩
  | refine ⟨⟨_, _, rfl⟩, ?_⟩
  | refine And.intro (by first | assumption | walk_at "om") ?_
  | refine And.intro rfl ?_
  | (simp only [List.length_map]; assumption)
  | omega)
local macro_rules | `(tactic| walk_at "nx") => `(tactic| (repeat first | assumption | exact rfl | refine noX_set ?_ rfl))
local macro_rules | `(tactic| walk_at "gs") => `(tactic| (repeat first | exact gset_nil | exact gset_name (by decide) | exact gmono_nil | exact gmono_name | refine gset_tup ?_ | refine gmono_tup ?_ | refine gset_cons ?_ ?_ ?_ ?_ | refine gmono_cons ?_ ?_))
local macro_rules | `(tactic| walk_at "pl") => `(tactic| (simp only [plainE, List.set_cons_zero, List.set_cons_succ, List.all_cons, List.all_nil, Bool.and_true, Bool.and_self, Bool.true_and, pc_v, pc_pot, pc_none, *]))
variable {P : Program} {w : World} {K : PySem.W.Frag} {mg : Str → Option Value} {base : Heap}
def W__law_map (F M : Addr) : Wf := fun as k => ∃ (W : Wd) (n : Nat), as = [.pot, .v (worldD W)] ∧ Wg W n ∧ ∀ fs, MapG W n fs → k (mapD F M fs)
theorem h__law_map (T : Kt K mg) : Held P w K mg base 8 T.a__law_map (spD K (W__law_map T.C_Family T.C_Map)) := by
  obtain ⟨fd, F⟩ := T.f__law_map
  have sc := sc__law_map
  refine held_of F sc (spD_len fun as k h => ?_) (fun _ _ _ _ _ _ us hl => match us, hl with | [_, _], _ => rfl) fun cdv A outer s H E hr => ?_
  · obtain ⟨_, _, rfl, _⟩ := h; rfl
  have hu := hu_of hr
  have hF_ : Cls K T.C_Family ∧ NoAttr K T.C_Family "own_lots" := ⟨T.isF.cl, T.naF⟩
  have hM_ : Cls K T.C_Map ∧ NoAttr K T.C_Map "own_families" := ⟨T.isM.cl, T.naM⟩
  have iF_ := T.isF
  have iM_ := T.isM
  have G__law_lots := held_mono (h__law_lots (P := P) (w := w) (base := base) T) (show 3 ≤ 7 by decide)
  have G_initFamily := held_mono (h_Family___init__ (P := P) (w := w) (base := base) T) (show 6 ≤ 6 by decide)
  have G_initMap := held_mono (h_Map___init__ (P := P) (w := w) (base := base) T) (show 3 ≤ 6 by decide)
  refine ⟨_, (pss_one (ps_ret (pe_mk T.mkMap G_initMap hr rfl T.g_Map (pa_cons (pe_lc (own := [("_law_i", 2)]) (g := gName 2) (tt := tYes) rfl sc.nd (pi_range1 (by rfl) T.n_range (pa_cons (pe_callB (call_lenK (K := K) rfl) (by rfl) T.n_len (by decide +kernel) (pa_cons (pe_dget hu (pv 1) pe_str (fun _ _ => rfl)) pa_nil)) pa_nil)) (blkOk_by (N := N__law_map) (sc := defScope s__law_map) (by decide +kernel)) (fun _ _ _ _ _ => (pg_name (i := 2) sc.nd rfl (by first | exact Or.inl rfl | exact Or.inr rfl))) (fun _ _ _ _ _ => pts_nil) (fun _ _ _ _ _ => (pe_mk T.mkFamily G_initFamily hr rfl T.g_Family (pa_cons (pe_h G__law_lots hr rfl T.g__law_lots (pa_cons (pv 0) (pa_cons (pv 1) (pa_cons (pv 2) pa_nil)))) pa_nil)))) pa_nil)))),
    fun vs Q sp => body_ok (fun Z as k hw => ?_) sp⟩
  obtain ⟨W, n, rfl, hW, hk⟩ := hw
  have hn := hW.n2
  have n1 := hW.n1
  have llb := hW.lb
  have lb := look_base W
  try dsimp only [cxOf, Cx.nox]
  refine es_ret (ev_make (ea_v (ev_ef (ef_eachX (List.range n) (fun j => .int (j : Nat)) (fun j d => ∃ f, d = famD T.C_Family f ∧ FamG W n j f) (by walk_at "gs") (by walk_at "gs") (ej (ei_range1 ?_)) (by rw [List.length_range]; exact sln' (m := 12) (by omega)) (fun Z' j hj => eg_nm ?_) (fun ys hy => ?_)))))
  · refine ea_v (ev_cb (ea_v (ev_dget (ed_v (ev_var rfl ⟨_, rfl, ev_str ⟨_, _, rfl, lb, ea_nil (eb_len ⟨_, rfl, ea_nil ⟨n, by rw [List.length_map, llb], by omega, by omega, intsD_map _⟩⟩)⟩⟩)))))
  · have hj := List.mem_range.mp hj
    refine ev_make (ea_v (ev_call (ea_pot rfl (ea_v (ev_var rfl (ea_v (ev_var rfl (ea_nil ⟨W, n, j, rfl, hW, hj, fun ls h1 h2 h3 h4 => ea_nil ⟨ls, rfl, h1, by omega, fun l hl => (h3 l hl).lk, fun r r1 r2 r3 => ⟨r, rfl, ?_⟩⟩⟩))))))))
    exact .kept hW.c1 h1 h2 h3 h4 r1 r2 r3
  · obtain ⟨fs, rfl, hf⟩ := hy.split (f := famD T.C_Family) (S := fun j f => FamG W n j f) fun x y ⟨f, e, h⟩ => ⟨f, e, h⟩
    have hl : fs.length = n := by rw [← hf.length, List.length_range]
    have hG : MapG W n fs := ⟨hW, hl, fun i hi => by
      obtain ⟨f, h1, h2⟩ := al_get hf (List.getElem?_range hi)
      have : fs.getD i [] = f := by rw [List.getD_eq_getElem?_getD, h1]; rfl
      rw [this]; exact h2⟩
    refine ea_nil ⟨fs, rfl, by omega, by omega, fun f hf => ?_, hk fs hG⟩
    obtain ⟨i, hi, hF⟩ := hG.mem hf
    exact fun l hl2 => ⟨(hF.ok l hl2).lk, fun e he => by rw [hl]; exact (hF.ok l hl2).low e he⟩
def planR (W : Wd) (fs : List (List Lot)) (lane : Nat) (m : Nat) : List Dm := (planQ W.c W.ss W.bs fs (lane : Nat) m).map fun x => .tup [.int x.1, .tup [lotD x.2.1, .int x.2.2]]
def ansR (W : Wd) (fs : List (List Lot)) (lane : Nat) (m : Nat) : List Dm := (ansK W.c W.ss W.bs fs (lane : Nat) m).map fun x => .tup [.int x.1, .tup [intsL x.2.1, .int x.2.2]]
theorem planQ_succ (c : Int) (ss bs : List Int) (fs : List (List Lot)) (lane : Int) (j : Nat) : planQ c ss bs fs lane (j + 1) = planQ c ss bs fs lane j ++ (if gi ss (j : Nat) ≤ gi ss lane then [(((j : Nat) : Int), hol c ss bs (j : Nat) (fs.getD j []), gi bs (j : Nat))] else []) := by
  unfold planQ
  rw [List.range_succ, List.filter_append, List.map_append]
  by_cases hc : gi ss (j : Nat) ≤ gi ss lane
  · simp [hc]
  · simp [hc]
theorem ansK_succ (c : Int) (ss bs : List Int) (fs : List (List Lot)) (lane : Int) (j : Nat) : ansK c ss bs fs lane (j + 1) = ansK c ss bs fs lane j ++ (if gi ss (j : Nat) ≥ gi ss lane then [(((j : Nat) : Int), (fs.getD j []).map (pickL c ss bs (j : Nat)), gi bs (j : Nat))] else []) := by
  unfold ansK
  rw [List.range_succ, List.filter_append, List.map_append]
  by_cases hc : gi ss (j : Nat) ≥ gi ss lane
  · simp [hc]
  · simp [hc]
theorem planR_len (W : Wd) (fs : List (List Lot)) (lane : Nat) (m : Nat) : (planR W fs lane m).length ≤ m := by
  unfold planR planQ
  rw [List.length_map, List.length_map]
  exact Nat.le_trans (List.length_filter_le _ _) (by rw [List.length_range]; exact Nat.le_refl _)
theorem ansR_len (W : Wd) (fs : List (List Lot)) (lane : Nat) (m : Nat) : (ansR W fs lane m).length ≤ m := by
  unfold ansR ansK
  rw [List.length_map, List.length_map]
  exact Nat.le_trans (List.length_filter_le _ _) (by rw [List.length_range]; exact Nat.le_refl _)
def W__law_papers : Wf := fun as k => ∃ (W : Wd) (n lane : Nat) (fs : List (List Lot)), as = [.v (llD fs), .v (.int (lane : Nat)), .v (worldD W)] ∧ MapG W n fs ∧ lane < n ∧ k (.tup [.lst (planR W fs lane n), .lst (ansR W fs lane n)])
theorem h__law_papers (T : Kt K mg) : Held P w K mg base 2 T.a__law_papers (spD K W__law_papers) := by
  obtain ⟨fd, F⟩ := T.f__law_papers
  have sc := sc__law_papers
  refine held_of F sc (spD_len fun as k h => ?_) (fun _ _ _ _ _ _ us hl => match us, hl with | [_, _, _], _ => rfl) fun cdv A outer s H E hr => ?_
  · obtain ⟨_, _, _, _, rfl, _⟩ := h; rfl
  have hu := hu_of hr
  have hF_ : Cls K T.C_Family ∧ NoAttr K T.C_Family "own_lots" := ⟨T.isF.cl, T.naF⟩
  have hM_ : Cls K T.C_Map ∧ NoAttr K T.C_Map "own_families" := ⟨T.isM.cl, T.naM⟩
  have iF_ := T.isF
  have iM_ := T.isM
  have G__law_hold := held_mono (h__law_hold (P := P) (w := w) (base := base) T) (show 1 ≤ 1 by decide)
  have G__law_pick_of := held_mono (h__law_pick_of (P := P) (w := w) (base := base) T) (show 1 ≤ 1 by decide)
  refine ⟨_, (pss_cons (ps_par3 (i := 3) (j := 4) (l := 5) (by rfl) sc.nd rfl rfl rfl (by decide) (by decide) (by decide) rfl rfl rfl (pa_cons (pe_dget hu (pv 2) pe_str (fun _ _ => rfl)) (pa_cons (pe_lst pa_nil) (pa_cons (pe_lst pa_nil) pa_nil))) (by rfl))
      (pss_cons (ps_for PassesOwn.never rfl (pi_range1 (by rfl) T.n_range (pa_cons (pe_callB (call_lenK (K := K) rfl) (by rfl) T.n_len (by decide +kernel) (pa_cons (pv 0) pa_nil)) pa_nil)) (pg_name (i := 6) sc.nd rfl (by first | exact Or.inl rfl | exact Or.inr rfl)) (pss_cons (ps_if (pt_cmpR op_le (pe_ix (ix_listK (K := K) rfl) (pv 3) (pv 6) (fun _ _ => rfl)) (pe_ix (ix_listK (K := K) rfl) (pv 3) (pv 1) (fun _ _ => rfl)) (nomark _)) (pss_one (ps_expr (pe_bm PySem.F.plainAttrs_list PySem.F.slot_list_append PySem.F.type_list_append mt_append (pv 4) (pa_cons (pe_tup (pa_cons (pv 6) (pa_cons (pe_tup (pa_cons (pe_h G__law_hold hr rfl T.g__law_hold (pa_cons (pe_ix (ix_listK (K := K) rfl) (pv 0) (pv 6) (fun _ _ => rfl)) (pa_cons (pv 6) (pa_cons (pv 2) pa_nil)))) (pa_cons (pe_ix (ix_listK (K := K) rfl) (pe_dget hu (pv 2) pe_str (fun _ _ => rfl)) (pv 6) (fun _ _ => rfl)) pa_nil))) pa_nil))) pa_nil)))) pss_nil)
      (pss_one (ps_if (pt_cmpR op_ge (pe_ix (ix_listK (K := K) rfl) (pv 3) (pv 6) (fun _ _ => rfl)) (pe_ix (ix_listK (K := K) rfl) (pv 3) (pv 1) (fun _ _ => rfl)) (nomark _)) (pss_one (ps_expr (pe_bm PySem.F.plainAttrs_list PySem.F.slot_list_append PySem.F.type_list_append mt_append (pv 5) (pa_cons (pe_tup (pa_cons (pv 6) (pa_cons (pe_tup (pa_cons (pe_lc (own := [("_law_lot_here", 7)]) (g := gName 7) (tt := tYes) rfl sc.nd (pi_listK (K := K) rfl (pe_ix (ix_listK (K := K) rfl) (pv 0) (pv 6) (fun _ _ => rfl))) (blkOk_by (N := N__law_papers) (sc := defScope s__law_papers) (by decide +kernel)) (fun _ _ _ _ _ => (pg_name (i := 7) sc.nd rfl (by first | exact Or.inl rfl | exact Or.inr rfl))) (fun _ _ _ _ _ => pts_nil) (fun _ _ _ _ _ => (pe_h G__law_pick_of hr rfl T.g__law_pick_of (pa_cons (pv 7) (pa_cons (pv 6) (pa_cons (pv 2) pa_nil)))))) (pa_cons (pe_ix (ix_listK (K := K) rfl) (pe_dget hu (pv 2) pe_str (fun _ _ => rfl)) (pv 6) (fun _ _ => rfl)) pa_nil))) pa_nil))) pa_nil)))) pss_nil))))
      (pss_one (ps_ret (pe_tup (pa_cons (pv 4) (pa_cons (pv 5) pa_nil))))))),
    fun vs Q sp => body_ok (fun Z as k hw => ?_) sp⟩
  obtain ⟨W, n, lane, fs, rfl, hG, hl, hk⟩ := hw
  have hW := hG.w
  have hn := hW.n2
  have lls := hW.ls
  have llb := hW.lb
  have lc := look_common W
  have lb := look_base W
  have lss := look_steps W
  have aL := gi_at (l := W.ss) (j := (lane : Nat)) (by omega) (by omega)
  try dsimp only [cxOf, Cx.nox]
  refine es_seq (es_par3O (Nat.le_of_ble_eq_true rfl) (Nat.le_of_ble_eq_true rfl) (ev_dget (ed_v (ev_var rfl ⟨_, rfl, ev_str ⟨_, _, rfl, lss, ef_lst (ea_nil ⟨[], rfl, Nat.zero_le _, ef_lst (ea_nil ⟨[], rfl, Nat.zero_le _, ?_⟩)⟩)⟩⟩))))
  refine es_seq (es_forA (List.range n) (fun j => .int (j : Nat)) (fun m e => ∃ (o6 o7 : Option Cl), e = [some (.v (llD fs)), some (.v (.int (lane : Nat))), some (.v (worldD W)), some (.v (intsL W.ss)), some (.o (.lst (planR W fs lane m))), some (.o (.lst (ansR W fs lane m))), o6, o7] ∧ noX e = true)
    (ei_range1 (ea_v (ev_cb (ea_v (ev_var rfl (ea_nil (eb_len ⟨_, rfl, ea_nil ⟨n, by rw [List.length_map, hG.ln], by omega, by omega, intsD_map _⟩⟩))))))) ⟨_, _, rfl, rfl⟩ (fun m j e hj hI => ?_) (fun e hI => ?_))
  · obtain ⟨o6, o7, rfl, hx⟩ := hI
    have hm : m < n := by
      have := (List.getElem?_eq_some_iff.mp hj).1
      rwa [List.length_range] at this
    have hjm : j = m := by
      rw [List.getElem?_range hm] at hj
      exact (Option.some.inj hj).symm
    subst hjm
    have aj := gi_at (l := W.ss) (j := (j : Nat)) (by omega) (by omega)
    have bj := gi_at (l := W.bs) (j := (j : Nat)) (by omega) (by omega)
    have rj := lk_get (f := lotsD) (hG.at_ hm)
    have hF := hG.f j hm
    have l1 := planR_len W fs lane j
    have l2 := ansR_len W fs lane j
    have two : ∀ {a b : Dm}, ([a, b] : List Dm).length ≤ sizeLine := fun {a b} => sl15 (Nat.le_of_ble_eq_true rfl)
    have p1 : planR W fs lane (j + 1) = planR W fs lane j ++ (if gi W.ss (j : Nat) ≤ gi W.ss (lane : Nat) then [.tup [.int (j : Nat), .tup [lotD (hol W.c W.ss W.bs (j : Nat) (fs.getD j [])), .int (gi W.bs (j : Nat))]]] else []) := by
      unfold planR
      rw [planQ_succ, List.map_append]
      split <;> rfl
    have p2 : ansR W fs lane (j + 1) = ansR W fs lane j ++ (if gi W.ss (j : Nat) ≥ gi W.ss (lane : Nat) then [.tup [.int (j : Nat), .tup [intsL ((fs.getD j []).map (pickL W.c W.ss W.bs (j : Nat))), .int (gi W.bs (j : Nat))]]] else []) := by
      unfold ansR
      rw [ansK_succ, List.map_append]
      split <;> rfl
    have hnd := hG.wn0
    refine eg_nm (es_seq (es_nx (env' := [some (.v (llD fs)), some (.v (.int (lane : Nat))), some (.v (worldD W)), some (.v (intsL W.ss)), some (.o (.lst (planR W fs lane (j + 1)))), some (.o (.lst (ansR W fs lane j))), some (.v (.int (j : Nat))), o7]) ?_ ?_))
    · refine es_if (et_test (ev_op (ev_op (ev_var rfl (ev_var rfl (er_ixL ⟨_, aj, ev_op (ev_var rfl (ev_var rfl (er_ixL ⟨_, aL, er_b0 ⟨_, rfl, ?_⟩⟩)))⟩))))))
      refine br_d (fun hc => ?_) (fun hc => ?_)
      · have hc : gi W.ss (j : Nat) ≤ gi W.ss (lane : Nat) := hc
        rw [if_pos hc] at p1
        refine es_append (i := 4) (by walk_at "nx") rfl (sln' (m := 12) (by omega)) (ea_v (ev_tup (ea_v (ev_var rfl (ea_v (ev_tup (ea_v (ev_call (ea_v (ev_op (ev_var rfl (ev_var rfl (er_ixL ⟨_, rj, ea_v (ev_var rfl (ea_v (ev_var rfl (ea_nil ⟨_, _, W, n, rfl, hnd, hF.inn, by omega, by omega, Nat.le_trans hF.l2 (by decide), _, hol_find hF.heldL, ?_⟩))))⟩)))))))))))))
        refine ea_v (ev_op (ev_dget (ed_v (ev_var rfl ⟨_, rfl, ev_str ⟨_, _, rfl, lb, ev_var rfl (er_ixL ⟨_, bj, ea_nil ⟨[_, _], rfl, two, ea_nil ⟨[_, _], rfl, two, ea_nil ⟨_, rfl, ?_⟩⟩⟩⟩)⟩⟩))))
        rw [p1]; rfl
      · have hc : ¬ gi W.ss (j : Nat) ≤ gi W.ss (lane : Nat) := hc
        rw [if_neg hc, List.append_nil] at p1
        exact es_next (by rw [p1]; rfl)
    · have hx' : noX [some (.v (llD fs)), some (.v (.int (lane : Nat))), some (.v (worldD W)), some (.v (intsL W.ss)), some (.o (.lst (planR W fs lane (j + 1)))), some (.o (.lst (ansR W fs lane j))), some (.v (.int (j : Nat))), o7] = true := noX_set (i := 4) (c := .o (.lst (planR W fs lane (j + 1)))) (noX_set (i := 6) (c := .v (.int (j : Nat))) hx rfl) rfl
      refine es_if (et_test (ev_op (ev_op (ev_var rfl (ev_var rfl (er_ixL ⟨_, aj, ev_op (ev_var rfl (ev_var rfl (er_ixL ⟨_, aL, er_b0 ⟨_, rfl, ?_⟩⟩)))⟩))))))
      refine br_d (fun hc => ?_) (fun hc => ?_)
      · have hc : gi W.ss (j : Nat) ≥ gi W.ss (lane : Nat) := hc
        rw [if_pos hc] at p2
        refine es_append (i := 5) (by walk_at "nx") rfl (sln' (m := 12) (by omega)) (ea_v (ev_tup (ea_v (ev_var rfl (ea_v (ev_tup (ea_v (ev_ef (ef_mapX (fs.getD j []) lotD (fun l => .int (pickL W.c W.ss W.bs (j : Nat) l)) (by walk_at "gs") (by walk_at "gs") (ej (ei_list (ev_op (ev_var rfl (ev_var rfl (er_ixL ⟨_, rj, _, rfl, rfl⟩)))))) (sln' (m := 12) (Nat.le_trans hF.l2 (by decide))) (fun Z' l hl => eg_nm ?_) ?_)))))))))
        · exact ev_call (ea_v (ev_var rfl (ea_v (ev_var rfl (ea_v (ev_var rfl (ea_nil ⟨_, _, W, n, rfl, hnd, fun e he => (hF.inn l hl).2 e he, by omega, by omega, (hF.ok l hl).pick, rfl⟩)))))))
        have em : (fs.getD j []).map (fun l => Dm.int (pickL W.c W.ss W.bs (j : Nat) l)) = ((fs.getD j []).map (pickL W.c W.ss W.bs (j : Nat))).map Dm.int := by rw [List.map_map]; rfl
        rw [em]
        refine ea_v (ev_op (ev_dget (ed_v (ev_var rfl ⟨_, rfl, ev_str ⟨_, _, rfl, lb, ev_var rfl (er_ixL ⟨_, bj, ea_nil ⟨[_, _], rfl, two, ea_nil ⟨[_, _], rfl, two, ea_nil ⟨_, rfl, ?_⟩⟩⟩⟩)⟩⟩))))
        exact ⟨_, _, by rw [p2]; rfl, by walk_at "nx"⟩
      · have hc : ¬ gi W.ss (j : Nat) ≥ gi W.ss (lane : Nat) := hc
        rw [if_neg hc, List.append_nil] at p2
        exact es_next ⟨_, _, by rw [p2], by walk_at "nx"⟩
  obtain ⟨o6, o7, rfl, hx⟩ := hI
  rw [List.length_range]
  refine es_frz (i := 4) hx rfl (es_frz (i := 5) (by walk_at "nx") rfl ?_)
  exact es_ret (ev_tup (ea_v (ev_var rfl (ea_v (ev_var rfl (ea_nil ⟨[_, _], rfl, sl15 (Nat.le_of_ble_eq_true rfl), hk⟩))))))
end
end Ln
/-! K25: the law's own bounds. -/
namespace Ln
open PySem PySem.Spec PyProof.Rows L2
section
variable {W : Wd} {n lane : Nat} {fs : List (List Lot)}
theorem MapG.planFits (h : MapG W n fs) : ∀ x ∈ qpP lotD (planQ W.c W.ss W.bs fs (lane : Nat) n), PlanFits fs x := fun x hx => by
  obtain ⟨y, hy, rfl⟩ := List.mem_map.mp hx
  obtain ⟨i, hi, _, rfl⟩ := planQ_mem hy
  have hh := (h.pl.hol hi).1
  exact ⟨i, _, rfl, by rw [h.ln]; exact hi, rfl, ((h.f i hi).inn _ hh).1, hh⟩
theorem MapG.ansFits (h : MapG W n fs) : ∀ x ∈ qpP intsL (ansK W.c W.ss W.bs fs (lane : Nat) n), AnsFits fs x := fun x hx => by
  obtain ⟨y, hy, rfl⟩ := List.mem_map.mp hx
  obtain ⟨i, hi, _, rfl⟩ := ansK_mem hy
  have hl2 := (h.f i hi).l2
  refine ⟨i, _, rfl, by rw [h.ln]; exact hi, rfl, by omega, by rw [List.length_map], h.pl.nd i hi, fun p hp => ?_⟩
  rw [zip_self] at hp
  obtain ⟨l, hl, rfl⟩ := List.mem_map.mp hp
  obtain ⟨e, _, _, h3, h4⟩ := h.pl.first hi hl
  show (look l (pickL W.c W.ss W.bs (i : Nat) l)).isSome = true
  rw [h3, h4]; rfl
theorem planQ_len (c : Int) (ss bs : List Int) (fs : List (List Lot)) (lane : Int) (m : Nat) : (planQ c ss bs fs lane m).length ≤ m := by
  unfold planQ
  rw [List.length_map]
  exact Nat.le_trans (List.length_filter_le _ _) (by rw [List.length_range]; exact Nat.le_refl _)
theorem MapG.rowsOk (h : MapG W n fs) : RowsOk n fs := fun f hf => by
  obtain ⟨i, hi, hF⟩ := h.mem hf
  exact ⟨hF.l1, by have := hF.l2; omega, hF.inn, fun l hl => (hF.ok l hl).lk.ne⟩
end
def planD (W : Wd) (fs : List (List Lot)) (lane n : Nat) : Dm := .dic (ppK (qpP lotD (planQ W.c W.ss W.bs fs (lane : Nat) n)))
def ansDD (W : Wd) (fs : List (List Lot)) (lane n : Nat) : Dm := .dic (ppK (qpP intsL (ansK W.c W.ss W.bs fs (lane : Nat) n)))
section
local macro_rules | `(tactic| walk_at "kb") => `(tactic| first | exact kb_ii | exact kb_ib | exact kb_tt | exact kb_tl | exact kb_lt | exact kb_ll | exact kb_dd)
local macro_rules | `(tactic| walk_at "om") => `(tactic| first | omega | (simp only [List.length_map, List.length_cons, List.length_nil]; omega))
local macro_rules | `(tactic| walk_at "s") => `(tactic| first
  | ((with_reducible show Ev _ _ _ _ _); first
    | ((with_reducible show Ev _ _ (tVar _) _ _); refine ev_var rfl ?_)
    | (with_reducible refine ev_int ?_)
    | (with_reducible refine ev_bl ?_)
    | (with_reducible refine ev_str ?_)
    | (with_reducible refine ev_non ?_)
    | (with_reducible refine ev_ty ?_)
    | (with_reducible refine ev_fn ?_)
    | (with_reducible refine ev_op ?_)
    | (with_reducible refine ev_neg ?_)
    | (with_reducible refine ev_prop ?_)
    | (with_reducible refine ev_gi ?_)
    | (with_reducible refine ev_meth ?_)
    | ((with_reducible show Ev _ _ (tMake _ _ _ _ _) _ _); refine ev_make ?_)
    | ((with_reducible show Ev _ _ (tFld _ _ _) _ _); refine ev_fldA (by assumption) ?_)
    | (with_reducible refine ev_din ?_)
    | (with_reducible refine ev_dnin ?_)
    | (with_reducible refine ev_dget ?_)
    | (with_reducible refine ev_call ?_)
    | ((with_reducible show Ev _ _ (tCall (spF _ _) _ _ _) _ _); refine ev_ef (ef_callF ?_))
    | (with_reducible refine ev_cb ?_)
    | (with_reducible refine ev_andV ?_)
    | (with_reducible refine ev_orV ?_)
    | (with_reducible refine ev_notV ?_)
    | (with_reducible refine ev_if ?_)
    | (with_reducible refine ev_chain ?_)
    | (with_reducible refine ev_tup ?_)
    | (with_reducible refine ev_lst ?_))
  | ((with_reducible show Er _ _ _ _ _ _); first
    | (with_reducible refine er_b0 ?_)
    | (with_reducible refine er_i0 ?_)
    | ((with_reducible show Er _ _ (rIxT _) _ _ _); first | refine er_ixT ⟨_, _, rfl, rfl, ?_⟩ | refine er_ixT ⟨_, _, rfl, (by assumption), ?_⟩)
    | ((with_reducible show Er _ _ (rIxL _) _ _ _); first | refine er_ixL ⟨_, rfl, ?_⟩ | refine er_ixL ⟨_, (by assumption), ?_⟩)
    | ((with_reducible show Er _ _ (rI _ _) _ _ _); first | refine er_i (Or.inl ⟨by omega, by omega⟩) ?_ | refine er_i (Or.inr ⟨by omega, by omega⟩) ?_ | refine er_i ⟨by omega, by omega⟩ ?_ | refine er_i (by omega) ?_)
    | ((with_reducible show Er _ _ (fun _ _ _ _ => _) _ _ _); first | refine er_isN ?_ | refine er_notN ?_)
    | ((with_reducible show Er _ _ rEq _ _ _); refine er_eq ⟨_, rfl, ?_⟩)
    | ((with_reducible show Er _ _ rNe _ _ _); refine er_ne ⟨_, rfl, ?_⟩))
  | ((with_reducible show Ea _ _ _ _ _); first
    | ((with_reducible show Ea _ _ (tCons (tVar _) _) _ _); refine ea_pot rfl ?_)
    | (with_reducible refine ea_nil ?_)
    | (with_reducible refine ea_v ?_))
  | ((with_reducible show Es _ _ _ _ _); first
    | (with_reducible refine es_seq ?_)
    | (with_reducible refine es_next ?_)
    | (with_reducible refine es_if ?_)
    | (with_reducible refine es_ret ?_)
    | (with_reducible refine es_set ?_)
    | (with_reducible refine es_asg ?_)
    | ((with_reducible show Es _ _ (tPar _ _ (tCons tDNewK _)) _ _); refine es_parO (by first | (simp [startE]; done) | decide) (ef_dnew ?_))
    | (with_reducible refine es_par ?_)
    | (with_reducible refine es_drop ?_))
  | ((with_reducible show Et _ _ _ _ _); first
    | (with_reducible refine et_test ?_)
    | (with_reducible refine et_B ?_)
    | (with_reducible refine et_yes ?_)
    | (with_reducible refine et_and ?_)
    | (with_reducible refine et_or ?_)
    | (with_reducible refine et_not ?_)
    | (with_reducible refine et_ifT ?_))
  | ((with_reducible show Eb _ _ _ _ _); first
    | ((with_reducible show Eb _ _ (rIsi _) [_, Ag.v (Dm.ty _)] _); refine eb_isi rfl (by walk_at "kb") ?_)
    | ((with_reducible show Eb _ _ (rIsi _) [_, Ag.v (Dm.fn _)] _); refine eb_isiC (by assumption) ?_)
    | ((with_reducible show Eb _ _ (rIsiT _) _ _); refine eb_isi2 rfl (by walk_at "kb") (by walk_at "kb") ?_)
    | ((with_reducible show Eb _ _ _ [Ag.v (Dm.int _)] _); first | refine eb_abs ?_ | refine eb_int ?_)
    | ((with_reducible show Eb _ _ (rListOf _) _ _); refine eb_list ⟨_, (by first | rfl | assumption), ?_⟩)
    | ((with_reducible show Eb _ _ _ [Ag.v _] _); refine eb_len ⟨_, (by first | rfl | assumption), ?_⟩))
  | ((with_reducible show Eg _ _ _ _ _ _); first
    | (with_reducible refine eg_nm ?_)
    | ((with_reducible show Eg _ _ (gTup _ _ _) _ _ _); refine eg_tup ⟨_, rfl, rfl, ?_⟩))
  | ((with_reducible show Egs _ _ _ _ _ _); first
    | (with_reducible refine egs_cons ?_)
    | (with_reducible refine egs_nil ?_))
  | ((with_reducible show Ed _ _ _ _ _); first
    | ((with_reducible show Ed _ _ (tVar _) _ _); first | refine ed_own rfl ?_ | refine ed_ro rfl ?_ | refine ed_frz rfl ?_ | refine ed_v (ev_var rfl ⟨_, rfl, ?_⟩)))
  | ((with_reducible show ite _ _ _); first | refine br_y rfl ?_ | refine br_n rfl ?_ | refine br_y (decide_eq_true (by walk_at "om")) ?_ | refine br_n (decide_eq_false (by walk_at "om")) ?_)
  | (with_reducible refine br_nt (by walk_at "om") ?_)
  | (with_reducible refine br_nf (by walk_at "om") ?_)
  | assumption
  | exact rfl
  | exact congrArg Dm.bl (decide_eq_true (by walk_at "om"))
  | exact congrArg Dm.bl (decide_eq_false (by walk_at "om"))
  | (with_reducible refine kb_t (by walk_at "om") ?_)
  | refine ⟨[_], rfl, sl15 (Nat.le_of_ble_eq_true rfl), ?_⟩
  | refine ⟨[_, _], rfl, sl15 (Nat.le_of_ble_eq_true rfl), ?_⟩
  | refine ⟨[_, _, _], rfl, sl15 (Nat.le_of_ble_eq_true rfl), ?_⟩
  | refine ⟨[], rfl, Nat.zero_le _, ?_⟩
  | exact ⟨_, rfl⟩
  | exact ⟨_, _, rfl⟩
  | exact ⟨_, _, _, rfl⟩
  | exact ⟨_, _, _, _, rfl⟩
  | refine ⟨_, _, rfl, rfl, ?_⟩
  | refine ⟨_, rfl, ?_⟩
  | refine ⟨_, _, rfl, ?_⟩
  | refine ⟨_, _, _, rfl, ?_⟩
  | refine ⟨_, _, _, _, rfl, ?_⟩
  | refine ⟨_, rfl, (by assumption), ?_⟩
  | refine ⟨_, _, rfl, (by assumption), ?_⟩
  | refine ⟨⟨_, _, rfl⟩, ?_⟩
  | refine And.intro (by first | assumption | walk_at "om") ?_
  | refine And.intro rfl ?_
  | (simp only [List.length_map]; assumption)
  | omega)
local macro_rules | `(tactic| walk_at "nx") => `(tactic| (repeat first | assumption | exact rfl | refine noX_set ?_ rfl))
local macro_rules | `(tactic| walk_at "gs") => `(tactic| (repeat first | exact gset_nil | exact gset_name (by decide) | exact gmono_nil | exact gmono_name | refine gset_tup ?_ | refine gmono_tup ?_ | refine gset_cons ?_ ?_ ?_ ?_ | refine gmono_cons ?_ ?_))
local macro_rules | `(tactic| walk_at "pl") => `(tactic| (simp only [plainE, List.set_cons_zero, List.set_cons_succ, List.all_cons, List.all_nil, Bool.and_true, Bool.and_self, Bool.true_and, pc_v, pc_pot, pc_none, *]))
variable {P : Program} {w : World} {K : PySem.W.Frag} {mg : Str → Option Value} {base : Heap}
def W__law_bounds_right (F M : Addr) : Wf := fun as k => ∃ (W : Wd) (n lane : Nat) (fs : List (List Lot)), as = [.pot, .v (mapD F M fs), .v (.int (lane : Nat)), .v (enD (gi W.ss (lane : Nat), (W.c : Nat))), .v (planD W fs lane n), .v (ansDD W fs lane n)] ∧ MapG W n fs ∧ lane < n ∧ k (.bl true)
theorem h__law_bounds_right (T : Kt K mg) : Held P w K mg base 12 T.a__law_bounds_right (spD K (W__law_bounds_right T.C_Family T.C_Map)) := by
  obtain ⟨fd, F⟩ := T.f__law_bounds_right
  have sc := sc__law_bounds_right
  refine held_of F sc (spD_len fun as k h => ?_) (fun _ _ _ _ _ _ us hl => match us, hl with | [_, _, _, _, _, _], _ => rfl) fun cdv A outer s H E hr => ?_
  · obtain ⟨_, _, _, _, rfl, _⟩ := h; rfl
  have hu := hu_of hr
  have hF_ : Cls K T.C_Family ∧ NoAttr K T.C_Family "own_lots" := ⟨T.isF.cl, T.naF⟩
  have hM_ : Cls K T.C_Map ∧ NoAttr K T.C_Map "own_families" := ⟨T.isM.cl, T.naM⟩
  have iF_ := T.isF
  have iM_ := T.isM
  have G__law_rows := held_mono (h__law_rows (P := P) (w := w) (base := base) T) (show 2 ≤ 11 by decide)
  have G__law_draw := held_mono (h__law_draw (P := P) (w := w) (base := base) T) (show 1 ≤ 11 by decide)
  have G_most_behind := held_mono (h_most_behind (P := P) (w := w) (base := base) T) (show 11 ≤ 11 by decide)
  have G_least_behind := held_mono (h_least_behind (P := P) (w := w) (base := base) T) (show 11 ≤ 11 by decide)
  have G__law_round := held_mono (h__law_round (P := P) (w := w) (base := base) T) (show 2 ≤ 11 by decide)
  have G_lanes := held_mono (h_Map_lanes (P := P) (w := w) (base := base) T) (show 1 ≤ 10 by decide)
  refine ⟨_, (pss_cons (ps_par (i := 6) (j := 7) (by rfl) sc.nd rfl rfl (by decide) rfl rfl (pa_cons (pe_h G__law_rows hr rfl T.g__law_rows (pa_cons (pv 1) pa_nil)) (pa_cons (pe_lc (own := [("_law_j", 8)]) (g := gName 8) (tt := tYes) rfl sc.nd (pi_range1 (by rfl) T.n_range (pa_cons (pe_ph (pv 1) T.isM.cl T.p_lanes G_lanes hr) pa_nil)) (blkOk_by (N := N__law_bounds_right) (sc := defScope s__law_bounds_right) (by decide +kernel)) (fun _ _ _ _ _ => (pg_name (i := 8) sc.nd rfl (by first | exact Or.inl rfl | exact Or.inr rfl))) (fun _ _ _ _ _ => pts_nil) (fun _ _ _ _ _ => (pe_op op_sub (pe_h G__law_draw hr rfl T.g__law_draw (pa_cons (pv 0) (pa_cons pe_int pa_nil))) pe_int))) pa_nil)) (by rfl))
      (pss_cons (ps_set (i := 9) sc.nd rfl (by first | exact Or.inl rfl | exact Or.inr rfl) (pe_callTy (call_listK (K := K) rfl) (by rfl) T.n_list (by decide +kernel) (pa_cons (pv 7) pa_nil)))
      (pss_cons (ps_for PassesOwn.never rfl (pi_range1 (by rfl) T.n_range (pa_cons pe_int pa_nil)) (pg_name (i := 10) sc.nd rfl (by first | exact Or.inl rfl | exact Or.inr rfl)) (pss_cons (ps_set (i := 11) sc.nd rfl (by first | exact Or.inl rfl | exact Or.inr rfl) (pe_h G_most_behind hr rfl T.g_most_behind (pa_cons (pv 1) (pa_cons (pv 2) (pa_cons (pv 3) (pa_cons (pv 4) (pa_cons (pv 9) (pa_cons (pv 10) pa_nil))))))))
      (pss_cons (ps_set (i := 12) sc.nd rfl (by first | exact Or.inl rfl | exact Or.inr rfl) (pe_h G_least_behind hr rfl T.g_least_behind (pa_cons (pv 1) (pa_cons (pv 2) (pa_cons (pv 3) (pa_cons (pv 5) (pa_cons (pv 9) (pa_cons (pv 10) pa_nil))))))))
      (pss_cons (ps_if (PW.pt (pw_or (pt_not (pt_cmpR op_le (pv 12) (pe_ix (ix_listK (K := K) rfl) (pv 7) (pv 2) (fun _ _ => rfl)) (nomark _))) (pw_or1 (pt_not (pt_cmpR op_le (pe_ix (ix_listK (K := K) rfl) (pv 7) (pv 2) (fun _ _ => rfl)) (pv 11) (nomark _)))))) (pss_one (ps_ret pe_bl)) pss_nil)
      (pss_one (ps_set (i := 7) sc.nd rfl (by first | exact Or.inl rfl | exact Or.inr rfl) (pe_h G__law_round hr rfl T.g__law_round (pa_cons (pv 6) (pa_cons (pv 7) (pa_cons pe_int pa_nil))))))))))
      (pss_one (ps_ret pe_bl))))),
    fun vs Q sp => body_ok (fun Z as k hw => ?_) sp⟩
  obtain ⟨W, n, lane, fs, rfl, hG, hl, hk⟩ := hw
  have hln := hG.ln
  subst hln
  have hW := hG.w
  have hn := hW.n2
  have c1 := hW.c1
  have c2 := hW.c2
  have pl := hG.pl
  try dsimp only [cxOf, Cx.nox]
  refine es_seq (es_par (ea_v (ev_call (ea_v (ev_var rfl (ea_nil ⟨fs, rfl, by omega, ?_⟩))))))
  refine ea_v (ev_ef (ef_eachX (List.range fs.length) (fun j => .int (j : Nat)) (fun j d => ∃ x, d = .int x ∧ True) (by walk_at "gs") (by walk_at "gs") (ej (ei_range1 (ea_v (ev_prop (ev_var rfl ⟨⟨_, _, rfl⟩, fs, rfl, ea_nil ⟨_, rfl, by omega, by omega, intsD_map _⟩⟩))))) (by rw [List.length_range]; exact sln' (m := 12) (by omega)) (fun Z' j hj => eg_nm ?_) (fun ys hy => ?_)))
  · exact ev_op (ev_call (ea_pot rfl (ea_v (ev_int (ea_nil ⟨_, rfl, by omega, by omega, fun r r0 r1 => ev_int (er_i0 ⟨_, rfl, trivial⟩)⟩)))))
  obtain ⟨cs0, rfl, hcs⟩ := hy.split (f := Dm.int) (S := fun _ _ => True) fun x y ⟨z, e, h⟩ => ⟨z, e, h⟩
  have hc0 : cs0.length = fs.length := by rw [← hcs.length, List.length_range]
  refine ea_nil ⟨_, _, rfl, es_seq (es_set (ev_cb (ea_v (ev_var rfl (ea_nil (eb_list ⟨_, rfl, ?_⟩))))))⟩
  refine es_seq (es_forA (List.range 9) (fun j => .int (j : Nat)) (fun m e => ∃ (cs : List Int) (o8 o10 o11 o12 : Option Cl), e = [some .pot, some (.v (mapD T.C_Family T.C_Map fs)), some (.v (.int (lane : Nat))), some (.v (enD (gi W.ss (lane : Nat), (W.c : Nat)))), some (.v (planD W fs lane fs.length)), some (.v (ansDD W fs lane fs.length)), some (.v (llD fs)), some (.v (intsL cs)), o8, some (.v (intsL cs0)), o10, o11, o12] ∧
    cs.length = fs.length ∧ (∀ hi, (∀ y ∈ gapsOf (gi W.ss (lane : Nat), ((W.c : Nat) : Int)) (planQ W.c W.ss W.bs fs (lane : Nat) fs.length) cs0, y ≤ hi) → Up W.c W.ss W.bs fs.length lane hi m cs) ∧ (∀ lo, (∀ y ∈ gapsOf (gi W.ss (lane : Nat), ((W.c : Nat) : Int)) (ansK W.c W.ss W.bs fs (lane : Nat) fs.length) cs0, lo ≤ y) → Lo W.c W.ss W.bs fs.length lane lo m cs))
    (ei_range1 (ea_v (ev_int (ea_nil ⟨(9 : Nat), rfl, by omega, by omega, intsD_map _⟩)))) ⟨cs0, _, _, _, _, rfl, hc0, fun hi hh => up_zero hh, fun lo hh => lo_zero hh⟩ (fun m j e hj hI => ?_) (fun e hI => ?_))
  · obtain ⟨cs, o8, o10, o11, o12, rfl, hcl, hU, hL⟩ := hI
    have hm : m < 9 ∧ j = m := by
      have hm : m < 9 := by
        have := (List.getElem?_eq_some_iff.mp hj).1
        rwa [List.length_range] at this
      rw [List.getElem?_range hm] at hj
      exact ⟨hm, (Option.some.inj hj).symm⟩
    obtain ⟨hm, rfl⟩ := hm
    have aL := gi_at (l := cs) (j := (lane : Nat)) (by omega) (by omega)
    have q1 := planQ_len W.c W.ss W.bs fs (lane : Nat) fs.length
    have q2 := ansK_len W.c W.ss W.bs fs (lane : Nat) fs.length
    refine eg_nm (es_seq (es_set (ev_call (ea_v (ev_var rfl (ea_v (ev_var rfl (ea_v (ev_var rfl (ea_v (ev_var rfl (ea_v (ev_var rfl (ea_v (ev_var rfl (ea_nil ⟨fs, (lane : Nat), _, planQ W.c W.ss W.bs fs (lane : Nat) fs.length, cs0, (j : Nat), _, rfl, by omega, by omega, by omega, ?_, ?_, by omega, hG.planFits, planQ_look hl (Int.le_refl _), plan_ok pl, hc0, by omega, by omega, fun hi h1 h2 => ?_⟩))))))))))))))))
    · show (1 : Int) ≤ (W.c : Nat)
      omega
    · show ((W.c : Nat) : Int) ≤ 60
      omega
    refine es_seq (es_set (ev_call (ea_v (ev_var rfl (ea_v (ev_var rfl (ea_v (ev_var rfl (ea_v (ev_var rfl (ea_v (ev_var rfl (ea_v (ev_var rfl (ea_nil ⟨fs, (lane : Nat), _, ansK W.c W.ss W.bs fs (lane : Nat) fs.length, cs0, (j : Nat), _, rfl, by omega, by omega, by omega, ?_, ?_, by omega, hG.ansFits, ansK_look hl (Int.le_refl _), ans_ok pl, hc0, by omega, by omega, fun lo h3 h4 => ?_⟩)))))))))))))))
    · show (1 : Int) ≤ (W.c : Nat)
      omega
    · show ((W.c : Nat) : Int) ≤ 60
      omega
    have u1 := hU hi h2
    have u2 := hL lo h4
    have e1 := up_end (by omega) hl u1
    have e2 := lo_end (by omega) hl u2
    refine es_seq (es_if (et_or (et_not (et_test (ev_op (ev_var rfl (ev_op (ev_var rfl (ev_var rfl (er_ixL ⟨_, aL, er_b0 ⟨_, rfl, ?_⟩⟩))))))))))
    rw [decide_eq_true e2]
    refine br_n rfl (et_not (et_test (ev_op (ev_op (ev_var rfl (ev_var rfl (er_ixL ⟨_, aL, ev_var rfl (er_b0 ⟨_, rfl, ?_⟩)⟩)))))))
    rw [decide_eq_true e1]
    refine br_n rfl (es_next ?_)
    refine es_set (ev_call (ea_v (ev_var rfl (ea_v (ev_var rfl (ea_v (ev_int (ea_nil ⟨fs, cs, rfl, by omega, by rw [hcl]; exact hG.rowsOk, fun ms hms => ?_⟩))))))))
    exact ⟨ms, _, _, _, _, rfl, by rw [← hms.length], fun hi hh => up_step (by omega) pl (hU hi hh) hms, fun lo hh => lo_step (by omega) pl (hL lo hh) hms⟩
  · exact es_ret (ev_bl hk)
end
end Ln
/-! K26: what is shown of papers; the law's own lanes. -/
namespace Ln
open PySem PySem.Spec PyProof.Rows L2
/-- short ints, no dict, so many parts, so deep -/
structure ShB (m n : Nat) (d : Dm) : Prop where
  fit : d.fit = true
  sh : d.py.showable = true
  nd : d.py.hasDict = false
  ls : d.py.leavesShort 13 = true
  bk : d.py.bulk ≤ m
  dp : d.py.depth ≤ n
theorem shb_int {i : Int} (h1 : -999999999999 ≤ i) (h2 : i ≤ 999999999999) : ShB 0 0 (.int i) := by
  refine ⟨rfl, ?_, rfl, ?_, Nat.le_refl _, Nat.le_refl _⟩
  · show decide (i.natAbs.log2 < 1920) = true
    refine decide_eq_true ?_
    have h3 : i.natAbs < 2 ^ 60 := by omega
    by_cases hz : i.natAbs = 0
    · rw [hz]; decide
    · have := (Nat.log2_lt hz).mpr h3
      omega
  · show decide ((PyData.shown (.int i)).length ≤ 13) = true
    exact decide_eq_true (PyData.shown_int_le2 h1 h2)
theorem shb_all {m n : Nat} : ∀ {ds : List Dm}, (∀ d ∈ ds, ShB m n d) → fitL ds = true ∧ PyData.showableAll (pyL ds) = true ∧ PyData.hasDictAll (pyL ds) = false ∧ PyData.leavesShortAll 13 (pyL ds) = true ∧ PyData.bulkAll (pyL ds) ≤ ds.length * (m + 1) ∧ PyData.depthAll (pyL ds) ≤ n
  | [], _ => ⟨rfl, rfl, rfl, rfl, by simp [pyL, PyData.bulkAll], by simp [pyL, PyData.depthAll]⟩
  | d :: ds, h => by
    obtain ⟨h1, h2, h3, h4, h5, h6⟩ := shb_all fun x hx => h x (List.mem_cons_of_mem _ hx)
    have hd := h d (List.mem_cons_self ..)
    refine ⟨?_, ?_, ?_, ?_, ?_, ?_⟩
    · rw [fitL, hd.fit, h1]; rfl
    · rw [pyL, PyData.showableAll, hd.sh, h2]; rfl
    · rw [pyL, PyData.hasDictAll, hd.nd, h3]; rfl
    · rw [pyL, PyData.leavesShortAll, hd.ls, h4]; rfl
    · rw [pyL, PyData.bulkAll, List.length_cons, Nat.add_mul, Nat.one_mul]
      have := hd.bk
      omega
    · rw [pyL, PyData.depthAll]
      have := hd.dp
      omega
theorem shb_lst {m n : Nat} {ds : List Dm} (h : ∀ d ∈ ds, ShB m n d) : ShB (ds.length * (m + 1)) (n + 1) (.lst ds) := by
  obtain ⟨h1, h2, h3, h4, h5, h6⟩ := shb_all h
  refine ⟨by rw [Dm.fit]; exact h1, by rw [Dm.py, PyData.showable]; exact h2, by rw [Dm.py, PyData.hasDict]; exact h3, by rw [Dm.py, PyData.leavesShort]; exact h4, by rw [Dm.py, PyData.bulk]; exact h5, by rw [Dm.py, PyData.depth]; omega⟩
theorem shb_tup {m n : Nat} {ds : List Dm} (h : ∀ d ∈ ds, ShB m n d) : ShB (ds.length * (m + 1)) (n + 1) (.tup ds) := by
  obtain ⟨h1, h2, h3, h4, h5, h6⟩ := shb_all h
  refine ⟨by rw [Dm.fit]; exact h1, by rw [Dm.py, PyData.showable]; exact h2, by rw [Dm.py, PyData.hasDict]; exact h3, by rw [Dm.py, PyData.leavesShort]; exact h4, by rw [Dm.py, PyData.bulk]; exact h5, by rw [Dm.py, PyData.depth]; omega⟩
theorem shb_ftp {m n : Nat} {ds : List Dm} (h : ∀ d ∈ ds, ShB m n d) : ShB (ds.length * (m + 1)) (n + 1) (.ftp ds) := by
  obtain ⟨h1, h2, h3, h4, h5, h6⟩ := shb_all h
  refine ⟨by rw [Dm.fit]; exact h1, by rw [Dm.py, PyData.showable]; exact h2, by rw [Dm.py, PyData.hasDict]; exact h3, by rw [Dm.py, PyData.leavesShort]; exact h4, by rw [Dm.py, PyData.bulk]; exact h5, by rw [Dm.py, PyData.depth]; omega⟩
theorem ShB.mono {m n m' n' : Nat} {d : Dm} (h : ShB m n d) (hm : m ≤ m') (hn : n ≤ n') : ShB m' n' d := ⟨h.fit, h.sh, h.nd, h.ls, Nat.le_trans h.bk hm, Nat.le_trans h.dp hn⟩
theorem shb_two {m n : Nat} {a b : Dm} (ha : ShB m n a) (hb : ShB m n b) : ShB (2 * (m + 1)) (n + 1) (.tup [a, b]) :=
  shb_tup (ds := [a, b]) fun d hd => by
    rcases List.mem_cons.mp hd with rfl | hd
    · exact ha
    · rw [List.mem_singleton.mp hd]; exact hb
theorem shb_lot {l : Lot} (hl : l.length ≤ 12) (h0 : ∀ e ∈ l, 0 ≤ e.1 ∧ e.1 < 100) (h1 : NumB l) : ShB 60 2 (lotD l) := by
  have : ShB ((l.map enD).length * (2 + 1)) (1 + 1) (lotD l) := shb_ftp fun d hd => by
    obtain ⟨e, he, rfl⟩ := List.mem_map.mp hd
    have a := h0 e he
    have b := h1 e he
    exact shb_two (shb_int (by omega) (by omega)) (shb_int (by omega) (by omega))
  rw [List.length_map] at this
  exact this.mono (by omega) (by omega)
theorem eb_repr {K : PySem.W.Frag} {Z : Fr} {k : Dm → Prop} {m n : Nat} {d : Dm} {ds : List Dm} (h : ShB m n d) (hs : d.seq = some ds) (hm : m ≤ 100000) (hn : n ≤ 50) (q : k (.str d.py.shown)) : Eb K Z (rRepr K) [.v d] k := fun G H vs hz rs Q c => by
  obtain ⟨v, rfl, rv⟩ := args1 rs
  obtain ⟨a, xs, rfl, _, _⟩ := seq_rp hs rv
  have := h.dp
  have := h.bk
  exact ⟨a, d.py, rfl, Rp.dp h.fit (Rp.mono hz.exG rv), h.nd, h.sh, by omega, PyData.shown_fits_bulk (by decide) (by decide) h.ls (Nat.le_trans h.bk (Nat.le_trans hm (by decide))), c _ _ _ _ q hz.refl (.str _)⟩
section
variable {W : Wd} {n lane : Nat} {fs : List (List Lot)}
theorem MapG.shPlan (h : MapG W n fs) (lane : Nat) : ShB 2000 5 (.lst (planR W fs lane n)) := by
  have hn := h.w.n2
  have hl := planR_len W fs lane n
  have : ShB ((planR W fs lane n).length * (246 + 1)) (4 + 1) (.lst (planR W fs lane n)) := shb_lst fun d hd => by
    obtain ⟨x, hx, rfl⟩ := List.mem_map.mp hd
    obtain ⟨i, hi, _, rfl⟩ := planQ_mem hx
    have hm := (h.pl.hol hi).1
    have hL := (h.f i hi).ok _ hm
    have hb := h.w.bb i hi
    dsimp only
    refine (shb_two (m := 122) (n := 3) (shb_int (by omega) (by omega) |>.mono (by omega) (by omega)) ((shb_two (m := 60) (n := 2) (shb_lot hL.lk.few (fun e he => ⟨(hL.lk.low e he).1, by have := hL.low e he; omega⟩) hL.num) (shb_int (by omega) (by omega) |>.mono (by omega) (by omega))).mono (by omega) (by omega))).mono (by omega) (by omega)
  exact this.mono (by omega) (by omega)
theorem MapG.shAns (h : MapG W n fs) (lane : Nat) : ShB 2000 5 (.lst (ansR W fs lane n)) := by
  have hn := h.w.n2
  have hl := ansR_len W fs lane n
  have : ShB ((ansR W fs lane n).length * (246 + 1)) (4 + 1) (.lst (ansR W fs lane n)) := shb_lst fun d hd => by
    obtain ⟨x, hx, rfl⟩ := List.mem_map.mp hd
    obtain ⟨i, hi, _, rfl⟩ := ansK_mem hx
    have hb := h.w.bb i hi
    have hF := h.f i hi
    have l2 := hF.l2
    have hi2 : ShB 60 2 (intsL ((fs.getD i []).map (pickL W.c W.ss W.bs (i : Nat)))) := by
      have : ShB ((((fs.getD i []).map (pickL W.c W.ss W.bs (i : Nat))).map Dm.int).length * (0 + 1)) (0 + 1) (intsL ((fs.getD i []).map (pickL W.c W.ss W.bs (i : Nat)))) := shb_lst fun d hd => by
        obtain ⟨z, hz, rfl⟩ := List.mem_map.mp hd
        obtain ⟨l, hl, rfl⟩ := List.mem_map.mp hz
        obtain ⟨e, he, _, h3, _⟩ := h.pl.first hi hl
        rw [h3]
        have := (hF.ok l hl).lk.low e he
        exact shb_int (by omega) (by omega)
      rw [List.length_map, List.length_map] at this
      exact this.mono (by omega) (by omega)
    dsimp only
    refine (shb_two (m := 122) (n := 3) (shb_int (by omega) (by omega) |>.mono (by omega) (by omega)) ((shb_two (m := 60) (n := 2) hi2 (shb_int (by omega) (by omega) |>.mono (by omega) (by omega))).mono (by omega) (by omega))).mono (by omega) (by omega)
  exact this.mono (by omega) (by omega)
end
end Ln
/-! K27: the law's own lanes. -/
namespace Ln
open PySem PySem.Spec PyProof.Rows L2 LiI
theorem planK_eq (c : Int) (ss bs : List Int) (fs : List (List Lot)) (lane : Int) (m : Nat) : planK c ss bs fs lane m = ppK (qpP lotD (planQ c ss bs fs lane m)) := by
  unfold planK ppK qpP planQ
  rw [List.map_map, List.map_map]; rfl
theorem ansD_eq (ks : List (Int × List Int × Int)) : ansD ks = ppK (qpP intsL ks) := by
  unfold ansD ppK qpP
  rw [List.map_map]; rfl
theorem items_planR (W : Wd) (fs : List (List Lot)) (lane n : Nat) : (ppK (qpP lotD (planQ W.c W.ss W.bs fs (lane : Nat) n))).map (fun p => Dm.tup [keyD p.1, p.2]) = planR W fs lane n := items_qp _ _
theorem items_ansR (W : Wd) (fs : List (List Lot)) (lane n : Nat) : (ansD (ansK W.c W.ss W.bs fs (lane : Nat) n)).map (fun p => Dm.tup [keyD p.1, p.2]) = ansR W fs lane n := by
  rw [ansD_eq]
  exact items_qp _ _
def walkD (W : Wd) : Dm := .tup [.lst (W.ps.map enD), intsL W.bs]
def wfrzD (W : Wd) : Dm := .tup [.ftp (W.ps.map enD), .ftp (W.bs.map Dm.int)]
theorem walkD_is (W : Wd) : IsWalk (walkD W) W.ps W.bs := ⟨_, _, rfl, rfl, rfl⟩
theorem wfrzD_is (W : Wd) : IsWalk (wfrzD W) W.ps W.bs := ⟨_, _, rfl, rfl, rfl⟩
theorem es_eq {K : PySem.W.Frag} {Z : Fr} {t : TS} {env env' : Env} {D : Wn} (e : env = env') (h : Es K Z t env' D) : Es K Z t env D := by rw [e]; exact h
theorem et_lendE {K : PySem.W.Frag} {Z : Fr} {env env' : Env} {tt : TT} {kb : Bool → Prop} {i j : Nat} {a : Addr} {d : Dm} {ks : List (Int × List Int × Int)} (hij : i ≠ j) (hi : env[i]? = some (some (.x (atP K Z a d)))) (hj : env[j]? = some (some (.x (ansP (frA Z a) ks)))) (e : lend2 env i j d ks = env') (h : Et K Z tt env' kb) : Et K Z tt env kb :=
  et_lend2 hij hi hj (by rw [e]; exact h)
section
local macro_rules | `(tactic| walk_at "kb") => `(tactic| first | exact kb_ii | exact kb_ib | exact kb_tt | exact kb_tl | exact kb_lt | exact kb_ll | exact kb_dd)
local macro_rules | `(tactic| walk_at "om") => `(tactic| first | omega | (simp only [List.length_map, List.length_cons, List.length_nil]; omega))
local macro_rules | `(tactic| walk_at "s") => `(tactic| first
  | ((with_reducible show Ev _ _ _ _ _); first
    | ((with_reducible show Ev _ _ (tVar _) _ _); refine ev_var rfl ?_)
    | (with_reducible refine ev_int ?_)
    | (with_reducible refine ev_bl ?_)
    | (with_reducible refine ev_str ?_)
    | (with_reducible refine ev_non ?_)
    | (with_reducible refine ev_ty ?_)
    | (with_reducible refine ev_fn ?_)
    | (with_reducible refine ev_op ?_)
    | (with_reducible refine ev_neg ?_)
    | (with_reducible refine ev_prop ?_)
    | (with_reducible refine ev_gi ?_)
    | (with_reducible refine ev_meth ?_)
    | ((with_reducible show Ev _ _ (tMake _ _ _ _ _) _ _); refine ev_make ?_)
    | ((with_reducible show Ev _ _ (tFld _ _ _) _ _); refine ev_fldA (by assumption) ?_)
    | (with_reducible refine ev_din ?_)
    | (with_reducible refine ev_dnin ?_)
    | (with_reducible refine ev_dget ?_)
    | (with_reducible refine ev_call ?_)
    | ((with_reducible show Ev _ _ (tCall (spF _ _) _ _ _) _ _); refine ev_ef (ef_callF ?_))
    | (with_reducible refine ev_cb ?_)
    | (with_reducible refine ev_andV ?_)
    | (with_reducible refine ev_orV ?_)
    | (with_reducible refine ev_notV ?_)
    | (with_reducible refine ev_if ?_)
    | (with_reducible refine ev_chain ?_)
    | (with_reducible refine ev_tup ?_)
    | (with_reducible refine ev_lst ?_))
  | ((with_reducible show Er _ _ _ _ _ _); first
    | (with_reducible refine er_b0 ?_)
    | (with_reducible refine er_i0 ?_)
    | ((with_reducible show Er _ _ (rIxT _) _ _ _); first | refine er_ixT ⟨_, _, rfl, rfl, ?_⟩ | refine er_ixT ⟨_, _, rfl, (by assumption), ?_⟩)
    | ((with_reducible show Er _ _ (rIxL _) _ _ _); first | refine er_ixL ⟨_, rfl, ?_⟩ | refine er_ixL ⟨_, (by assumption), ?_⟩)
    | ((with_reducible show Er _ _ (rI _ _) _ _ _); first | refine er_i (Or.inl ⟨by omega, by omega⟩) ?_ | refine er_i (Or.inr ⟨by omega, by omega⟩) ?_ | refine er_i ⟨by omega, by omega⟩ ?_ | refine er_i (by omega) ?_)
    | ((with_reducible show Er _ _ (fun _ _ _ _ => _) _ _ _); first | refine er_isN ?_ | refine er_notN ?_)
    | ((with_reducible show Er _ _ rEq _ _ _); refine er_eq ⟨_, rfl, ?_⟩)
    | ((with_reducible show Er _ _ rNe _ _ _); refine er_ne ⟨_, rfl, ?_⟩))
  | ((with_reducible show Ea _ _ _ _ _); first
    | ((with_reducible show Ea _ _ (tCons (tVar _) _) _ _); refine ea_pot rfl ?_)
    | (with_reducible refine ea_nil ?_)
    | (with_reducible refine ea_v ?_))
  | ((with_reducible show Es _ _ _ _ _); first
    | (with_reducible refine es_seq ?_)
    | (with_reducible refine es_next ?_)
    | (with_reducible refine es_if ?_)
    | (with_reducible refine es_ret ?_)
    | (with_reducible refine es_set ?_)
    | (with_reducible refine es_asg ?_)
    | ((with_reducible show Es _ _ (tPar _ _ (tCons tDNewK _)) _ _); refine es_parO (by first | (simp [startE]; done) | decide) (ef_dnew ?_))
    | (with_reducible refine es_par ?_)
    | (with_reducible refine es_drop ?_))
  | ((with_reducible show Et _ _ _ _ _); first
    | (with_reducible refine et_test ?_)
    | (with_reducible refine et_B ?_)
    | (with_reducible refine et_yes ?_)
    | (with_reducible refine et_and ?_)
    | (with_reducible refine et_or ?_)
    | (with_reducible refine et_not ?_)
    | (with_reducible refine et_ifT ?_))
  | ((with_reducible show Eb _ _ _ _ _); first
    | ((with_reducible show Eb _ _ (rIsi _) [_, Ag.v (Dm.ty _)] _); refine eb_isi rfl (by walk_at "kb") ?_)
    | ((with_reducible show Eb _ _ (rIsi _) [_, Ag.v (Dm.fn _)] _); refine eb_isiC (by assumption) ?_)
    | ((with_reducible show Eb _ _ (rIsiT _) _ _); refine eb_isi2 rfl (by walk_at "kb") (by walk_at "kb") ?_)
    | ((with_reducible show Eb _ _ _ [Ag.v (Dm.int _)] _); first | refine eb_abs ?_ | refine eb_int ?_)
    | ((with_reducible show Eb _ _ (rListOf _) _ _); refine eb_list ⟨_, (by first | rfl | assumption), ?_⟩)
    | ((with_reducible show Eb _ _ _ [Ag.v _] _); refine eb_len ⟨_, (by first | rfl | assumption), ?_⟩))
  | ((with_reducible show Eg _ _ _ _ _ _); first
    | (with_reducible refine eg_nm ?_)
    | ((with_reducible show Eg _ _ (gTup _ _ _) _ _ _); refine eg_tup ⟨_, rfl, rfl, ?_⟩))
  | ((with_reducible show Egs _ _ _ _ _ _); first
    | (with_reducible refine egs_cons ?_)
    | (with_reducible refine egs_nil ?_))
  | ((with_reducible show Ed _ _ _ _ _); first
    | ((with_reducible show Ed _ _ (tVar _) _ _); first | refine ed_own rfl ?_ | refine ed_ro rfl ?_ | refine ed_frz rfl ?_ | refine ed_v (ev_var rfl ⟨_, rfl, ?_⟩)))
  | ((with_reducible show ite _ _ _); first | refine br_y rfl ?_ | refine br_n rfl ?_ | refine br_y (decide_eq_true (by walk_at "om")) ?_ | refine br_n (decide_eq_false (by walk_at "om")) ?_)
  | (with_reducible refine br_nt (by walk_at "om") ?_)
  | (with_reducible refine br_nf (by walk_at "om") ?_)
  | assumption
  | exact rfl
  | exact congrArg Dm.bl (decide_eq_true (by walk_at "om"))
  | exact congrArg Dm.bl (decide_eq_false (by walk_at "om"))
  | (with_reducible refine kb_t (by walk_at "om") ?_)
  | refine ⟨[_], rfl, sl15 (Nat.le_of_ble_eq_true rfl), ?_⟩
  | refine ⟨[_, _], rfl, sl15 (Nat.le_of_ble_eq_true rfl), ?_⟩
  | refine ⟨[_, _, _], rfl, sl15 (Nat.le_of_ble_eq_true rfl), ?_⟩
  | refine ⟨[], rfl, Nat.zero_le _, ?_⟩
  | exact ⟨_, rfl⟩
  | exact ⟨_, _, rfl⟩
  | exact ⟨_, _, _, rfl⟩
  | exact ⟨_, _, _, _, rfl⟩
  | refine ⟨_, _, rfl, rfl, ?_⟩
  | refine ⟨_, rfl, ?_⟩
  | refine ⟨_, _, rfl, ?_⟩
  | refine ⟨_, _, _, rfl, ?_⟩
  | refine ⟨_, _, _, _, rfl, ?_⟩
  | refine ⟨_, rfl, (by assumption), ?_⟩
  | refine ⟨_, _, rfl, (by assumption), ?_⟩
  | refine ⟨⟨_, _, rfl⟩, ?_⟩
  | refine And.intro (by first | assumption | walk_at "om") ?_
  | refine And.intro rfl ?_
  | (simp only [List.length_map]; assumption)
  | omega)
local macro_rules | `(tactic| walk_at "nx") => `(tactic| (repeat first | assumption | exact rfl | refine noX_set ?_ rfl))
local macro_rules | `(tactic| walk_at "gs") => `(tactic| (repeat first | exact gset_nil | exact gset_name (by decide) | exact gmono_nil | exact gmono_name | refine gset_tup ?_ | refine gmono_tup ?_ | refine gset_cons ?_ ?_ ?_ ?_ | refine gmono_cons ?_ ?_))
local macro_rules | `(tactic| walk_at "pl") => `(tactic| (simp only [plainE, List.set_cons_zero, List.set_cons_succ, List.all_cons, List.all_nil, Bool.and_true, Bool.and_self, Bool.true_and, pc_v, pc_pot, pc_none, *]))
variable {P : Program} {w : World} {K : PySem.W.Frag} {mg : Str → Option Value} {base : Heap}
def W__law_lane_right (F M : Addr) : Wf := fun as k => ∃ (W : Wd) (n lane : Nat) (fs : List (List Lot)), as = [.pot, .v (mapD F M fs), .v (worldD W), .v (walkD W), .v (.int (lane : Nat))] ∧ MapG W n fs ∧ lane < n ∧ k (.bl true)
theorem h__law_lane_right (T : Kt K mg) : HeldG P w K mg base 13 T.a__law_lane_right (spD K (W__law_lane_right T.C_Family T.C_Map)) := by
  obtain ⟨fd, F⟩ := T.f__law_lane_right
  have sc := sc__law_lane_right
  refine heldG_of F sc (spD_len fun as k h => ?_) (fun _ _ _ _ _ _ us hl => match us, hl with | [_, _, _, _, _], _ => rfl) fun cdv A outer s H E hr hgd => ?_
  · obtain ⟨_, _, _, _, rfl, _⟩ := h; rfl
  have hu := hu_of hr
  have hF_ : Cls K T.C_Family ∧ NoAttr K T.C_Family "own_lots" := ⟨T.isF.cl, T.naF⟩
  have hM_ : Cls K T.C_Map ∧ NoAttr K T.C_Map "own_families" := ⟨T.isM.cl, T.naM⟩
  have iF_ := T.isF
  have iM_ := T.isM
  have G__law_rows := held_mono (h__law_rows (P := P) (w := w) (base := base) T) (show 2 ≤ 12 by decide)
  have G_plan_from := held_mono (h_plan_from (P := P) (w := w) (base := base) T) (show 10 ≤ 12 by decide)
  have G_answer_from := held_mono (h_answer_from (P := P) (w := w) (base := base) T) (show 10 ≤ 12 by decide)
  have G__law_papers := held_mono (h__law_papers (P := P) (w := w) (base := base) T) (show 2 ≤ 12 by decide)
  have G_step_of := held_mono (h_step_of (P := P) (w := w) (base := base) T) (show 10 ≤ 12 by decide)
  have G_is_plan_paper := held_mono (h_is_plan_paper (P := P) (w := w) (base := base) T) (show 10 ≤ 12 by decide)
  have G_is_answer_paper := held_mono (h_is_answer_paper (P := P) (w := w) (base := base) T) (show 10 ≤ 12 by decide)
  have G__law_bounds_right := held_mono (h__law_bounds_right (P := P) (w := w) (base := base) T) (show 12 ≤ 12 by decide)
  obtain ⟨fW_answer_from, FW_answer_from⟩ := T.f_answer_from
  have GW_answer_from := FnOk.mono (hf_answer_from (P := P) (w := w) (base := base) T FW_answer_from) (show 10 ≤ 12 by decide)
  refine ⟨_, (pss_cons (ps_set (i := 5) sc.nd rfl (by first | exact Or.inl rfl | exact Or.inr rfl) (pe_h G__law_rows hr rfl T.g__law_rows (pa_cons (pv 1) pa_nil)))
      (pss_cons (ps_par (i := 6) (j := 7) (by rfl) sc.nd rfl rfl (by decide) rfl rfl (pa_cons (pe_h G_plan_from hr rfl T.g_plan_from (pa_cons (pv 1) (pa_cons (pv 3) (pa_cons (pv 4) pa_nil)))) (pa_cons (pe_h G_answer_from hr rfl T.g_answer_from (pa_cons (pv 1) (pa_cons (pv 3) (pa_cons (pv 4) pa_nil)))) pa_nil)) (by rfl))
      (pss_cons (ps_set (i := 8) sc.nd rfl (by first | exact Or.inl rfl | exact Or.inr rfl) (pe_h G__law_papers hr rfl T.g__law_papers (pa_cons (pv 5) (pa_cons (pv 4) (pa_cons (pv 2) pa_nil)))))
      (pss_cons (ps_if (PW.pt (pw_or (pt_cmpR op_ne (pe_callB (cr_reprK (K := K) rfl hr hgd) (by rfl) T.n_repr (by decide +kernel) (pa_cons (LiI.pe_listItems rfl (pv 6) rfl T.n_list (by decide +kernel)) pa_nil)) (pe_callB (cr_reprK (K := K) rfl hr hgd) (by rfl) T.n_repr (by decide +kernel) (pa_cons (pe_ix (ix_tupK (K := K) rfl) (pv 8) pe_int (fun _ _ => rfl)) pa_nil)) (nomark _)) (pw_or1 (pt_cmpR op_ne (pe_callB (cr_reprK (K := K) rfl hr hgd) (by rfl) T.n_repr (by decide +kernel) (pa_cons (LiI.pe_listItems rfl (pv 7) rfl T.n_list (by decide +kernel)) pa_nil)) (pe_callB (cr_reprK (K := K) rfl hr hgd) (by rfl) T.n_repr (by decide +kernel) (pa_cons (pe_ix (ix_tupK (K := K) rfl) (pv 8) pe_int (fun _ _ => rfl)) pa_nil)) (nomark _))))) (pss_one (ps_ret pe_bl)) pss_nil)
      (pss_cons (ps_par (i := 9) (j := 10) (by rfl) sc.nd rfl rfl (by decide) rfl rfl (pa_cons (pe_h G_step_of hr rfl T.g_step_of (pa_cons (pv 1) (pa_cons (pv 3) (pa_cons (pv 4) pa_nil)))) (pa_cons (pe_dget hu (pv 2) pe_str (fun _ _ => rfl)) pa_nil)) (by rfl))
      (pss_cons (ps_if (pt_cmpR op_ne (pv 9) (pe_ix (ix_listK (K := K) rfl) (pe_dget hu (pv 2) pe_str (fun _ _ => rfl)) (pv 4) (fun _ _ => rfl)) (nomark _)) (pss_one (ps_ret pe_bl)) pss_nil)
      (pss_cons (ps_if (PW.pt (pw_or (pt_not (pt_val (pe_h G_is_plan_paper hr rfl T.g_is_plan_paper (pa_cons (pv 1) (pa_cons (pv 4) (pa_cons (pe_tup (pa_cons (pv 9) (pa_cons (pv 10) pa_nil))) (pa_cons (pv 6) pa_nil))))))) (pw_or1 (pt_val (pe_h G_is_plan_paper hr rfl T.g_is_plan_paper (pa_cons (pv 1) (pa_cons (pv 4) (pa_cons (pe_tup (pa_cons (pe_op op_sub (pv 9) pe_int) (pa_cons (pv 10) pa_nil))) (pa_cons (pv 6) pa_nil))))))))) (pss_one (ps_ret pe_bl)) pss_nil)
      (pss_cons (ps_if (pt_not (pt_val (pe_h G_is_answer_paper hr rfl T.g_is_answer_paper (pa_cons (pv 1) (pa_cons (pv 4) (pa_cons (pe_tup (pa_cons (pv 9) (pa_cons (pv 10) pa_nil))) (pa_cons (pv 7) pa_nil))))))) (pss_one (ps_ret pe_bl)) pss_nil)
      (pss_cons (ps_if (pt_val (pe_h G_is_answer_paper hr rfl T.g_is_answer_paper (pa_cons (pv 1) (pa_cons (pv 4) (pa_cons (pe_tup (pa_cons (pe_op op_add (pv 9) pe_int) (pa_cons (pv 10) pa_nil))) (pa_cons (pv 7) pa_nil)))))) (pss_one (ps_ret pe_bl)) pss_nil)
      (pss_cons (ps_if (pt_not (pt_val (pe_h G__law_bounds_right hr rfl T.g__law_bounds_right (pa_cons (pv 0) (pa_cons (pv 1) (pa_cons (pv 4) (pa_cons (pe_tup (pa_cons (pv 9) (pa_cons (pv 10) pa_nil))) (pa_cons (pv 6) (pa_cons (pv 7) pa_nil))))))))) (pss_one (ps_ret pe_bl)) pss_nil)
      (pss_cons (ps_expr (pe_bm0 PySem.F.plainAttrs_dict PySem.F.slot_dict_clear PySem.F.type_dict_clear mtd_clear (pv 6)))
      (pss_cons (ps_for PassesOwn.never rfl (pi_listK (K := K) rfl (pe_callTy (call_listD rfl) (by rfl) T.n_list (by decide +kernel) (pa_cons (pv 7) pa_nil))) (pg_name (i := 11) sc.nd rfl (by first | exact Or.inl rfl | exact Or.inr rfl)) (pss_one (ps_expr (pe_bm0 PySem.F.plainAttrs_list PySem.F.slot_list_clear PySem.F.type_list_clear mt_clear (pe_ix (ix_tupK (K := K) rfl) (pe_dget hu (pv 7) (pv 11) (fun _ _ => rfl)) pe_int (fun _ _ => rfl))))))
      (pss_one (ps_ret (pe_cmpR op_eq (pe_callB (cr_reprK (K := K) rfl hr hgd) (by rfl) T.n_repr (by decide +kernel) (pa_cons (LiI.pe_listItems rfl (pe_callW GW_answer_from hr rfl T.g_answer_from FW_answer_from.kp (kwb_rot_of FW_answer_from rfl (fun _ _ _ _ _ _ _ _ _ => rfl)) (pk_cons (pv 4) (pk_cons (pv 3) (pk_cons (pv 1) pk_nil)))) rfl T.n_list (by decide +kernel)) pa_nil)) (pe_callB (cr_reprK (K := K) rfl hr hgd) (by rfl) T.n_repr (by decide +kernel) (pa_cons (pe_ix (ix_tupK (K := K) rfl) (pv 8) pe_int (fun _ _ => rfl)) pa_nil)) (nomark _)))))))))))))))),
    fun vs Q sp => body_ok (fun Z as k hw => ?_) sp⟩
  obtain ⟨W, n, lane, fs, rfl, hG, hl, hk⟩ := hw
  have hln := hG.ln
  subst hln
  have hW := hG.w
  have hn := hW.n2
  have c1 := hW.c1
  have c2 := hW.c2
  have pl := hG.pl
  have wok := hG.wok
  have lls := hW.ls
  have lc := look_common W
  have lss := look_steps W
  have aL := gi_at (l := W.ss) (j := (lane : Nat)) (by omega) (by omega)
  have q1 := planQ_len W.c W.ss W.bs fs (lane : Nat) fs.length
  have q2 := ansK_len W.c W.ss W.bs fs (lane : Nat) fs.length
  have hpd : Dm.dic (planK W.c (stepsL W.c W.ps) W.bs fs (lane : Nat) fs.length) = planD W fs lane fs.length := by rw [← hW.st, planK_eq]; rfl
  have hpk := planQ_look (c := (W.c : Nat)) (ss := W.ss) (bs := W.bs) (fs := fs) hl (Int.le_refl _)
  have hak := ansK_look (c := (W.c : Nat)) (ss := W.ss) (bs := W.bs) (fs := fs) hl (Int.le_refl _)
  have two : ∀ {a b : Dm}, ([a, b] : List Dm).length ≤ sizeLine := fun {a b} => sl15 (Nat.le_of_ble_eq_true rfl)
  have hxp : ∃ x ∈ qpP lotD (planQ W.c W.ss W.bs fs (lane : Nat) fs.length), x.1 = (lane : Int) := qp_has hpk
  have hxa : ∃ x ∈ qpP intsL (ansK W.c W.ss W.bs fs (lane : Nat) fs.length), x.1 = (lane : Int) := qp_has hak
  have cc1 : (1 : Int) ≤ ((W.c : Nat) : Int) := by omega
  have cc2 : ((W.c : Nat) : Int) ≤ 60 := by omega
  have shp := hG.shPlan lane
  have sha := hG.shAns lane
  try dsimp only [cxOf, Cx.nox]
  refine es_seq (es_set (ev_call (ea_v (ev_var rfl (ea_nil ⟨fs, rfl, by omega, ?_⟩)))))
  refine es_seq (es_parOX (ef_callF (ea_v (ev_var rfl (ea_v (ev_var rfl (ea_v (ev_var rfl (ea_nil fun Z1 hz1 => ⟨fs, _, W.c, W.ps, W.bs, (lane : Nat), rfl, walkD_is W, wok, by omega, by omega, _, rfl, ?_⟩)))))))))
  refine ea_v (ev_var rfl (ea_v (ev_var rfl (ea_v (ev_var rfl (ea_nil fun Z2 hz2 => ⟨fs, _, W.c, W.ps, W.bs, (lane : Nat), rfl, walkD_is W, wok, by omega, by omega, _, rfl, fun a => ?_⟩))))))
  rw [hpd, ← hW.st]
  refine es_eq (env' := [some .pot, some (.v (mapD T.C_Family T.C_Map fs)), some (.v (worldD W)), some (.v (walkD W)), some (.v (.int (lane : Nat))), some (.v (llD fs)), some (.x (atP K Z a (planD W fs lane fs.length))), some (.x (ansP (frA Z a) (ansK W.c W.ss W.bs fs (lane : Nat) fs.length))), none, none, none, none]) rfl ?_
  refine es_seq (es_set (ev_call (ea_v (ev_var rfl (ea_v (ev_var rfl (ea_v (ev_var rfl (ea_nil ⟨W, _, lane, fs, rfl, hG, hl, ?_⟩)))))))))
  refine es_eq (env' := [some .pot, some (.v (mapD T.C_Family T.C_Map fs)), some (.v (worldD W)), some (.v (walkD W)), some (.v (.int (lane : Nat))), some (.v (llD fs)), some (.x (atP K Z a (planD W fs lane fs.length))), some (.x (ansP (frA Z a) (ansK W.c W.ss W.bs fs (lane : Nat) fs.length))), some (.v (.tup [.lst (planR W fs lane fs.length), .lst (ansR W fs lane fs.length)])), none, none, none]) rfl ?_
  have hans : Dm.dic (ansD (ansK W.c W.ss W.bs fs (lane : Nat) fs.length)) = ansDD W fs lane fs.length := by rw [ansD_eq]; rfl
  refine es_seq (es_if (et_lendE (i := 6) (j := 7) (by decide) rfl rfl (env' := [some .pot, some (.v (mapD T.C_Family T.C_Map fs)), some (.v (worldD W)), some (.v (walkD W)), some (.v (.int (lane : Nat))), some (.v (llD fs)), some (.v (planD W fs lane fs.length)), some (.v (ansDD W fs lane fs.length)), some (.v (.tup [.lst (planR W fs lane fs.length), .lst (ansR W fs lane fs.length)])), none, none, none]) (by unfold lend2; rw [hans]; rfl) (et_or (et_test (ev_op (ev_cb (ea_v (ev_items (ev_var rfl ⟨_, rfl, ?_⟩)))))))))
  rw [items_planR]
  refine ea_nil (eb_repr shp rfl (by decide) (by decide) (ev_cb (ea_v (ev_op (ev_var rfl (ev_int (er_ixT ⟨_, _, rfl, rfl, ea_nil (eb_repr shp rfl (by decide) (by decide) (er_ne ⟨_, rfl, _, rfl, ?_⟩))⟩)))))))
  rw [decide_eq_true rfl]
  refine br_n rfl (et_test (ev_op (ev_cb (ea_v (ev_items (ev_var rfl ⟨_, rfl, ?_⟩))))))
  rw [show (ppK (qpP intsL (ansK W.c W.ss W.bs fs (lane : Nat) fs.length))).map (fun p => Dm.tup [keyD p.1, p.2]) = ansR W fs lane fs.length from items_qp _ _]
  refine ea_nil (eb_repr sha rfl (by decide) (by decide) (ev_cb (ea_v (ev_op (ev_var rfl (ev_int (er_ixT ⟨_, _, rfl, rfl, ea_nil (eb_repr sha rfl (by decide) (by decide) (er_ne ⟨_, rfl, _, rfl, ?_⟩))⟩)))))))
  rw [decide_eq_true rfl]
  refine br_n rfl (es_next ?_)
  refine es_seq (es_par (ea_v (ev_call (ea_v (ev_var rfl (ea_v (ev_var rfl (ea_v (ev_var rfl (ea_nil ⟨fs, _, W.c, W.ps, W.bs, (lane : Nat), rfl, walkD_is W, wok, by omega, by omega, ?_⟩))))))))))
  rw [← hW.st]
  refine ea_v (ev_dget (ed_v (ev_var rfl ⟨_, rfl, ev_str ⟨_, _, rfl, lc, ea_nil ⟨_, _, rfl, ?_⟩⟩⟩)))
  refine es_eq (env' := [some .pot, some (.v (mapD T.C_Family T.C_Map fs)), some (.v (worldD W)), some (.v (walkD W)), some (.v (.int (lane : Nat))), some (.v (llD fs)), some (.x (atP K Z a (planD W fs lane fs.length))), some (.x (ansP (frA Z a) (ansK W.c W.ss W.bs fs (lane : Nat) fs.length))), some (.v (.tup [.lst (planR W fs lane fs.length), .lst (ansR W fs lane fs.length)])), some (.v (.int (gi W.ss (lane : Nat)))), some (.v (.int (W.c : Nat))), none]) rfl ?_
  refine es_seq (es_if (et_test (ev_op (ev_var rfl (ev_op (ev_dget (ed_v (ev_var rfl ⟨_, rfl, ev_str ⟨_, _, rfl, lss, ev_var rfl (er_ixL ⟨_, aL, er_ne ⟨_, rfl, _, rfl, ?_⟩⟩)⟩⟩))))))))
  rw [decide_eq_true rfl]
  refine br_n rfl (es_next ?_)
  refine es_seq (es_if (et_lendE (i := 6) (j := 7) (by decide) rfl rfl (env' := [some .pot, some (.v (mapD T.C_Family T.C_Map fs)), some (.v (worldD W)), some (.v (walkD W)), some (.v (.int (lane : Nat))), some (.v (llD fs)), some (.v (planD W fs lane fs.length)), some (.v (ansDD W fs lane fs.length)), some (.v (.tup [.lst (planR W fs lane fs.length), .lst (ansR W fs lane fs.length)])), some (.v (.int (gi W.ss (lane : Nat)))), some (.v (.int (W.c : Nat))), none]) (by unfold lend2; rw [hans]; rfl) (et_or (et_not (et_B (ev_call (ea_v (ev_var rfl (ea_v (ev_var rfl (ea_v (ev_tup (ea_v (ev_var rfl (ea_v (ev_var rfl (ea_nil ⟨[_, _], rfl, two, ea_v (ev_var rfl (ea_nil ⟨fs, (lane : Nat), (gi W.ss (lane : Nat), ((W.c : Nat) : Int)), planQ W.c W.ss W.bs fs (lane : Nat) fs.length, rfl, by omega, by omega, by omega, cc1, cc2, by omega, hG.planFits, hxp, _, rfl, ?_⟩))⟩)))))))))))))))))
  rw [plan_ok pl]
  refine br_n rfl (et_B (ev_call (ea_v (ev_var rfl (ea_v (ev_var rfl (ea_v (ev_tup (ea_v (ev_op (ev_var rfl (ev_int (er_i0 (ea_v (ev_var rfl (ea_nil ⟨[_, _], rfl, two, ea_v (ev_var rfl (ea_nil ⟨fs, (lane : Nat), (gi W.ss (lane : Nat) - 1, ((W.c : Nat) : Int)), planQ W.c W.ss W.bs fs (lane : Nat) fs.length, rfl, by omega, by omega, by omega, cc1, cc2, by omega, hG.planFits, hxp, _, rfl, ?_⟩))⟩))))))))))))))))
  rw [plan_no pl hl]
  refine br_n rfl (es_next ?_)
  refine es_seq (es_if (et_lendE (i := 6) (j := 7) (by decide) rfl rfl (env' := [some .pot, some (.v (mapD T.C_Family T.C_Map fs)), some (.v (worldD W)), some (.v (walkD W)), some (.v (.int (lane : Nat))), some (.v (llD fs)), some (.v (planD W fs lane fs.length)), some (.v (ansDD W fs lane fs.length)), some (.v (.tup [.lst (planR W fs lane fs.length), .lst (ansR W fs lane fs.length)])), some (.v (.int (gi W.ss (lane : Nat)))), some (.v (.int (W.c : Nat))), none]) (by unfold lend2; rw [hans]; rfl) (et_not (et_B (ev_call (ea_v (ev_var rfl (ea_v (ev_var rfl (ea_v (ev_tup (ea_v (ev_var rfl (ea_v (ev_var rfl (ea_nil ⟨[_, _], rfl, two, ea_v (ev_var rfl (ea_nil ⟨fs, (lane : Nat), (gi W.ss (lane : Nat), ((W.c : Nat) : Int)), ansK W.c W.ss W.bs fs (lane : Nat) fs.length, rfl, by omega, by omega, by omega, cc1, cc2, by omega, hG.ansFits, hxa, _, rfl, ?_⟩))⟩))))))))))))))))
  rw [ans_ok pl]
  refine br_n rfl (es_next ?_)
  refine es_seq (es_if (et_lendE (i := 6) (j := 7) (by decide) rfl rfl (env' := [some .pot, some (.v (mapD T.C_Family T.C_Map fs)), some (.v (worldD W)), some (.v (walkD W)), some (.v (.int (lane : Nat))), some (.v (llD fs)), some (.v (planD W fs lane fs.length)), some (.v (ansDD W fs lane fs.length)), some (.v (.tup [.lst (planR W fs lane fs.length), .lst (ansR W fs lane fs.length)])), some (.v (.int (gi W.ss (lane : Nat)))), some (.v (.int (W.c : Nat))), none]) (by unfold lend2; rw [hans]; rfl) (et_B (ev_call (ea_v (ev_var rfl (ea_v (ev_var rfl (ea_v (ev_tup (ea_v (ev_op (ev_var rfl (ev_int (er_i0 (ea_v (ev_var rfl (ea_nil ⟨[_, _], rfl, two, ea_v (ev_var rfl (ea_nil ⟨fs, (lane : Nat), (gi W.ss (lane : Nat) + 1, ((W.c : Nat) : Int)), ansK W.c W.ss W.bs fs (lane : Nat) fs.length, rfl, by omega, by omega, by omega, cc1, cc2, by omega, hG.ansFits, hxa, _, rfl, ?_⟩))⟩))))))))))))))))))
  rw [ans_no pl hl]
  refine br_n rfl (es_next ?_)
  refine es_seq (es_if (et_lendE (i := 6) (j := 7) (by decide) rfl rfl (env' := [some .pot, some (.v (mapD T.C_Family T.C_Map fs)), some (.v (worldD W)), some (.v (walkD W)), some (.v (.int (lane : Nat))), some (.v (llD fs)), some (.v (planD W fs lane fs.length)), some (.v (ansDD W fs lane fs.length)), some (.v (.tup [.lst (planR W fs lane fs.length), .lst (ansR W fs lane fs.length)])), some (.v (.int (gi W.ss (lane : Nat)))), some (.v (.int (W.c : Nat))), none]) (by unfold lend2; rw [hans]; rfl) (et_not (et_B (ev_call (ea_pot rfl (ea_v (ev_var rfl (ea_v (ev_var rfl (ea_v (ev_tup (ea_v (ev_var rfl (ea_v (ev_var rfl (ea_nil ⟨[_, _], rfl, two, ea_v (ev_var rfl (ea_v (ev_var rfl (ea_nil ⟨W, _, lane, fs, rfl, hG, hl, _, rfl, ?_⟩))))⟩)))))))))))))))))
  refine br_n rfl (es_next ?_)
  refine es_seq (es_clearO (i := 6) (j := 7) (by decide) rfl rfl ?_)
  refine es_eq (env' := [some .pot, some (.v (mapD T.C_Family T.C_Map fs)), some (.v (worldD W)), some (.v (walkD W)), some (.v (.int (lane : Nat))), some (.v (llD fs)), none, some (.x (ansP Z (ansK W.c W.ss W.bs fs (lane : Nat) fs.length))), some (.v (.tup [.lst (planR W fs lane fs.length), .lst (ansR W fs lane fs.length)])), some (.v (.int (gi W.ss (lane : Nat)))), some (.v (.int (W.c : Nat))), none]) rfl ?_
  refine es_seq (es_clearAns (i := 7) (j := 11) (by decide) rfl (Nat.le_of_ble_eq_true rfl) rfl fun o p po => ?_)
  refine es_ret (ev_op (ev_cb (ea_v (ev_items (ev_ansW (ea_v (ev_var rfl (ea_v (ev_var rfl (ea_v (ev_var rfl (ea_nil ⟨_, _, _, rfl, fun Z3 hz3 => ⟨fs, _, W.c, W.ps, W.bs, (lane : Nat), rfl, walkD_is W, wok, by omega, by omega, _, rfl, _, rfl, ?_⟩⟩))))))))))))
  rw [← hW.st, items_ansR]
  refine ea_nil (eb_repr sha rfl (by decide) (by decide) (ev_cb (ea_v (ev_op (ev_var rfl (ev_int (er_ixT ⟨_, _, rfl, rfl, ea_nil (eb_repr sha rfl (by decide) (by decide) (er_eq ⟨_, rfl, ?_⟩))⟩)))))))
  rw [decide_eq_true rfl]
  exact hk
end
end Ln
/-! K28: the law. -/
namespace Ln
open PySem PySem.Spec PyProof.Rows L2 LiI
section
local macro_rules | `(tactic| walk_at "kb") => `(tactic| first | exact kb_ii | exact kb_ib | exact kb_tt | exact kb_tl | exact kb_lt | exact kb_ll | exact kb_dd)
local macro_rules | `(tactic| walk_at "om") => `(tactic| first | omega | (simp only [List.length_map, List.length_cons, List.length_nil]; omega))
local macro_rules | `(tactic| walk_at "s") => `(tactic| first
  | ((with_reducible show Ev _ _ _ _ _); first
    | ((with_reducible show Ev _ _ (tVar _) _ _); refine ev_var rfl ?_)
    | (with_reducible refine ev_int ?_)
    | (with_reducible refine ev_bl ?_)
    | (with_reducible refine ev_str ?_)
    | (with_reducible refine ev_non ?_)
    | (with_reducible refine ev_ty ?_)
    | (with_reducible refine ev_fn ?_)
    | (with_reducible refine ev_op ?_)
    | (with_reducible refine ev_neg ?_)
    | (with_reducible refine ev_prop ?_)
    | (with_reducible refine ev_gi ?_)
    | (with_reducible refine ev_meth ?_)
    | ((with_reducible show Ev _ _ (tMake _ _ _ _ _) _ _); refine ev_make ?_)
    | ((with_reducible show Ev _ _ (tFld _ _ _) _ _); refine ev_fldA (by assumption) ?_)
    | (with_reducible refine ev_din ?_)
    | (with_reducible refine ev_dnin ?_)
    | (with_reducible refine ev_dget ?_)
    | (with_reducible refine ev_call ?_)
    | ((with_reducible show Ev _ _ (tCall (spF _ _) _ _ _) _ _); refine ev_ef (ef_callF ?_))
    | (with_reducible refine ev_cb ?_)
    | (with_reducible refine ev_andV ?_)
    | (with_reducible refine ev_orV ?_)
    | (with_reducible refine ev_notV ?_)
    | (with_reducible refine ev_if ?_)
    | (with_reducible refine ev_chain ?_)
    | (with_reducible refine ev_tup ?_)
    | (with_reducible refine ev_lst ?_))
  | ((with_reducible show Er _ _ _ _ _ _); first
    | (with_reducible refine er_b0 ?_)
    | (with_reducible refine er_i0 ?_)
    | ((with_reducible show Er _ _ (rIxT _) _ _ _); first | refine er_ixT ⟨_, _, rfl, rfl, ?_⟩ | refine er_ixT ⟨_, _, rfl, (by assumption), ?_⟩)
    | ((with_reducible show Er _ _ (rIxL _) _ _ _); first | refine er_ixL ⟨_, rfl, ?_⟩ | refine er_ixL ⟨_, (by assumption), ?_⟩)
    | ((with_reducible show Er _ _ (rI _ _) _ _ _); first | refine er_i (Or.inl ⟨by omega, by omega⟩) ?_ | refine er_i (Or.inr ⟨by omega, by omega⟩) ?_ | refine er_i ⟨by omega, by omega⟩ ?_ | refine er_i (by omega) ?_)
    | ((with_reducible show Er _ _ (fun _ _ _ _ => _) _ _ _); first | refine er_isN ?_ | refine er_notN ?_)
    | ((with_reducible show Er _ _ rEq _ _ _); refine er_eq ⟨_, rfl, ?_⟩)
    | ((with_reducible show Er _ _ rNe _ _ _); refine er_ne ⟨_, rfl, ?_⟩))
  | ((with_reducible show Ea _ _ _ _ _); first
    | ((with_reducible show Ea _ _ (tCons (tVar _) _) _ _); refine ea_pot rfl ?_)
    | (with_reducible refine ea_nil ?_)
    | (with_reducible refine ea_v ?_))
  | ((with_reducible show Es _ _ _ _ _); first
    | (with_reducible refine es_seq ?_)
    | (with_reducible refine es_next ?_)
    | (with_reducible refine es_if ?_)
    | (with_reducible refine es_ret ?_)
    | (with_reducible refine es_set ?_)
    | (with_reducible refine es_asg ?_)
    | ((with_reducible show Es _ _ (tPar _ _ (tCons tDNewK _)) _ _); refine es_parO (by first | (simp [startE]; done) | decide) (ef_dnew ?_))
    | (with_reducible refine es_par ?_)
    | (with_reducible refine es_drop ?_))
  | ((with_reducible show Et _ _ _ _ _); first
    | (with_reducible refine et_test ?_)
    | (with_reducible refine et_B ?_)
    | (with_reducible refine et_yes ?_)
    | (with_reducible refine et_and ?_)
    | (with_reducible refine et_or ?_)
    | (with_reducible refine et_not ?_)
    | (with_reducible refine et_ifT ?_))
  | ((with_reducible show Eb _ _ _ _ _); first
    | ((with_reducible show Eb _ _ (rIsi _) [_, Ag.v (Dm.ty _)] _); refine eb_isi rfl (by walk_at "kb") ?_)
    | ((with_reducible show Eb _ _ (rIsi _) [_, Ag.v (Dm.fn _)] _); refine eb_isiC (by assumption) ?_)
    | ((with_reducible show Eb _ _ (rIsiT _) _ _); refine eb_isi2 rfl (by walk_at "kb") (by walk_at "kb") ?_)
    | ((with_reducible show Eb _ _ _ [Ag.v (Dm.int _)] _); first | refine eb_abs ?_ | refine eb_int ?_)
    | ((with_reducible show Eb _ _ (rListOf _) _ _); refine eb_list ⟨_, (by first | rfl | assumption), ?_⟩)
    | ((with_reducible show Eb _ _ _ [Ag.v _] _); refine eb_len ⟨_, (by first | rfl | assumption), ?_⟩))
  | ((with_reducible show Eg _ _ _ _ _ _); first
    | (with_reducible refine eg_nm ?_)
    | ((with_reducible show Eg _ _ (gTup _ _ _) _ _ _); refine eg_tup ⟨_, rfl, rfl, ?_⟩))
  | ((with_reducible show Egs _ _ _ _ _ _); first
    | (with_reducible refine egs_cons ?_)
    | (with_reducible refine egs_nil ?_))
  | ((with_reducible show Ed _ _ _ _ _); first
    | ((with_reducible show Ed _ _ (tVar _) _ _); first | refine ed_own rfl ?_ | refine ed_ro rfl ?_ | refine ed_frz rfl ?_ | refine ed_v (ev_var rfl ⟨_, rfl, ?_⟩)))
  | ((with_reducible show ite _ _ _); first | refine br_y rfl ?_ | refine br_n rfl ?_ | refine br_y (decide_eq_true (by walk_at "om")) ?_ | refine br_n (decide_eq_false (by walk_at "om")) ?_)
  | (with_reducible refine br_nt (by walk_at "om") ?_)
  | (with_reducible refine br_nf (by walk_at "om") ?_)
  | assumption
  | exact rfl
  | exact congrArg Dm.bl (decide_eq_true (by walk_at "om"))
  | exact congrArg Dm.bl (decide_eq_false (by walk_at "om"))
  | (with_reducible refine kb_t (by walk_at "om") ?_)
  | refine ⟨[_], rfl, sl15 (Nat.le_of_ble_eq_true rfl), ?_⟩
  | refine ⟨[_, _], rfl, sl15 (Nat.le_of_ble_eq_true rfl), ?_⟩
  | refine ⟨[_, _, _], rfl, sl15 (Nat.le_of_ble_eq_true rfl), ?_⟩
  | refine ⟨[], rfl, Nat.zero_le _, ?_⟩
  | exact ⟨_, rfl⟩
  | exact ⟨_, _, rfl⟩
  | exact ⟨_, _, _, rfl⟩
  | exact ⟨_, _, _, _, rfl⟩
  | refine ⟨_, _, rfl, rfl, ?_⟩
  | refine ⟨_, rfl, ?_⟩
  | refine ⟨_, _, rfl, ?_⟩
  | refine ⟨_, _, _, rfl, ?_⟩
  | refine ⟨_, _, _, _, rfl, ?_⟩
  | refine ⟨_, rfl, (by assumption), ?_⟩
  | refine ⟨_, _, rfl, (by assumption), ?_⟩
  | refine ⟨⟨_, _, rfl⟩, ?_⟩
  | refine And.intro (by first | assumption | walk_at "om") ?_
  | refine And.intro rfl ?_
  | (simp only [List.length_map]; assumption)
  | omega)
local macro_rules | `(tactic| walk_at "nx") => `(tactic| (repeat first | assumption | exact rfl | refine noX_set ?_ rfl))
local macro_rules | `(tactic| walk_at "gs") => `(tactic| (repeat first | exact gset_nil | exact gset_name (by decide) | exact gmono_nil | exact gmono_name | refine gset_tup ?_ | refine gmono_tup ?_ | refine gset_cons ?_ ?_ ?_ ?_ | refine gmono_cons ?_ ?_))
local macro_rules | `(tactic| walk_at "pl") => `(tactic| (simp only [plainE, List.set_cons_zero, List.set_cons_succ, List.all_cons, List.all_nil, Bool.and_true, Bool.and_self, Bool.true_and, pc_v, pc_pot, pc_none, *]))
variable {P : Program} {w : World} {K : PySem.W.Frag} {mg : Str → Option Value} {base : Heap}
def W__law_right : Wf := fun as k => as = [.pot] ∧ k (.bl true)
theorem h__law_right (T : Kt K mg) : HeldG P w K mg base 14 T.a__law_right (spD K W__law_right) := by
  obtain ⟨fd, F⟩ := T.f__law_right
  have sc := sc__law_right
  refine heldG_of F sc (spD_len fun as k h => ?_) (fun _ _ _ _ _ _ us hl => match us, hl with | [_], _ => rfl) fun cdv A outer s H E hr hgd => ?_
  · obtain ⟨rfl, _⟩ := h; rfl
  have hu := hu_of hr
  have hF_ : Cls K T.C_Family ∧ NoAttr K T.C_Family "own_lots" := ⟨T.isF.cl, T.naF⟩
  have hM_ : Cls K T.C_Map ∧ NoAttr K T.C_Map "own_families" := ⟨T.isM.cl, T.naM⟩
  have iF_ := T.isF
  have iM_ := T.isM
  have G__law_world_drawn := held_mono (h__law_world_drawn (P := P) (w := w) (base := base) T) (show 4 ≤ 13 by decide)
  have G__law_map := held_mono (h__law_map (P := P) (w := w) (base := base) T) (show 8 ≤ 13 by decide)
  have G__law_lane_right := heldG_mono (h__law_lane_right (P := P) (w := w) (base := base) T) (show 13 ≤ 13 by decide)
  have G_answer_from := held_mono (h_answer_from (P := P) (w := w) (base := base) T) (show 10 ≤ 13 by decide)
  have G__law_papers := held_mono (h__law_papers (P := P) (w := w) (base := base) T) (show 2 ≤ 13 by decide)
  have G__law_rows := held_mono (h__law_rows (P := P) (w := w) (base := base) T) (show 2 ≤ 13 by decide)
  obtain ⟨fW_plan_from, FW_plan_from⟩ := T.f_plan_from
  have GW_plan_from := FnOk.mono (hf_plan_from (P := P) (w := w) (base := base) T FW_plan_from) (show 10 ≤ 13 by decide)
  have G_lanes := held_mono (h_Map_lanes (P := P) (w := w) (base := base) T) (show 1 ≤ 12 by decide)
  refine ⟨_, (pss_cons (ps_set (i := 1) sc.nd rfl (by first | exact Or.inl rfl | exact Or.inr rfl) (pe_h G__law_world_drawn hr rfl T.g__law_world_drawn (pa_cons (pv 0) (pa_cons pe_int pa_nil))))
      (pss_cons (ps_set (i := 2) sc.nd rfl (by first | exact Or.inl rfl | exact Or.inr rfl) (pe_h G__law_map hr rfl T.g__law_map (pa_cons (pv 0) (pa_cons (pv 1) pa_nil))))
      (pss_cons (ps_set (i := 3) sc.nd rfl (by first | exact Or.inl rfl | exact Or.inr rfl) (pe_tup (pa_cons (pe_dget hu (pv 1) pe_str (fun _ _ => rfl)) (pa_cons (pe_dget hu (pv 1) pe_str (fun _ _ => rfl)) pa_nil))))
      (pss_cons (ps_if (pt_not (pt_val (pe_callB (cr_allK (K := K) rfl) (by rfl) T.n_all (by decide +kernel) (pa_cons (pe_lc (own := [("_law_lane", 4)]) (g := gName 4) (tt := tYes) rfl sc.nd (pi_range1 (by rfl) T.n_range (pa_cons (pe_ph (pv 2) T.isM.cl T.p_lanes G_lanes hr) pa_nil)) (blkOk_by (N := N__law_right) (sc := defScope s__law_right) (by decide +kernel)) (fun _ _ _ _ _ => (pg_name (i := 4) sc.nd rfl (by first | exact Or.inl rfl | exact Or.inr rfl))) (fun _ _ _ _ _ => pts_nil) (fun _ _ _ _ _ => (pe_hG G__law_lane_right hr hgd rfl T.g__law_lane_right (pa_cons (pv 0) (pa_cons (pv 2) (pa_cons (pv 1) (pa_cons (pv 3) (pa_cons (pv 4) pa_nil)))))))) pa_nil)))) (pss_one (ps_ret pe_bl)) pss_nil)
      (pss_cons (ps_set (i := 5) sc.nd rfl (by first | exact Or.inl rfl | exact Or.inr rfl) (pe_tup (pa_cons (pe_callTy (call_tupFK (K := K) rfl) (by rfl) T.n_tuple (by decide +kernel) (pa_cons (pe_dget hu (pv 1) pe_str (fun _ _ => rfl)) pa_nil)) (pa_cons (pe_callTy (call_tupFK (K := K) rfl) (by rfl) T.n_tuple (by decide +kernel) (pa_cons (pe_dget hu (pv 1) pe_str (fun _ _ => rfl)) pa_nil)) pa_nil))))
      (pss_cons (ps_for PassesOwn.never rfl (pi_range1 (by rfl) T.n_range (pa_cons (pe_ph (pv 2) T.isM.cl T.p_lanes G_lanes hr) pa_nil)) (pg_name (i := 6) sc.nd rfl (by first | exact Or.inl rfl | exact Or.inr rfl)) (pss_cons (ps_set (i := 7) sc.nd rfl (by first | exact Or.inl rfl | exact Or.inr rfl) (pe_lst (pa_cons (LiI.pe_listItems rfl (pe_callW GW_plan_from hr rfl T.g_plan_from FW_plan_from.kp (kwb_rot_of FW_plan_from rfl (fun _ _ _ _ _ _ _ _ _ => rfl)) (pk_cons (pv 6) (pk_cons (pv 5) (pk_cons (pv 2) pk_nil)))) rfl T.n_list (by decide +kernel)) (pa_cons (LiI.pe_listItems rfl (pe_h G_answer_from hr rfl T.g_answer_from (pa_cons (pv 2) (pa_cons (pv 5) (pa_cons (pv 6) pa_nil)))) rfl T.n_list (by decide +kernel)) pa_nil))))
      (pss_one (ps_if (pt_cmpR op_ne (pe_callB (cr_reprK (K := K) rfl hr hgd) (by rfl) T.n_repr (by decide +kernel) (pa_cons (pv 7) pa_nil)) (pe_callB (cr_reprK (K := K) rfl hr hgd) (by rfl) T.n_repr (by decide +kernel) (pa_cons (pe_callTy (call_listK (K := K) rfl) (by rfl) T.n_list (by decide +kernel) (pa_cons (pe_h G__law_papers hr rfl T.g__law_papers (pa_cons (pe_h G__law_rows hr rfl T.g__law_rows (pa_cons (pv 2) pa_nil)) (pa_cons (pv 6) (pa_cons (pv 1) pa_nil)))) pa_nil)) pa_nil)) (nomark _)) (pss_one (ps_ret pe_bl)) pss_nil))))
      (pss_one (ps_ret pe_bl)))))))),
    fun vs Q sp => body_ok (fun Z as k hw => ?_) sp⟩
  obtain ⟨rfl, hk⟩ := hw
  try dsimp only [cxOf, Cx.nox]
  refine es_seq (es_set (ev_call (ea_pot rfl (ea_v (ev_int (ea_nil ⟨rfl, fun W n hW => ?_⟩))))))
  refine es_seq (es_set (ev_call (ea_pot rfl (ea_v (ev_var rfl (ea_nil ⟨W, n, rfl, hW, fun fs hG => ?_⟩))))))
  have hln := hG.ln
  subst hln
  have hn := hW.n2
  have lb := look_base W
  have lp := look_paces W
  have wok := hG.wok
  have two : ∀ {a b : Dm}, ([a, b] : List Dm).length ≤ sizeLine := fun {a b} => sl15 (Nat.le_of_ble_eq_true rfl)
  refine es_seq (es_set (ev_tup (ea_v (ev_dget (ed_v (ev_var rfl ⟨_, rfl, ev_str ⟨_, _, rfl, lp, ea_v (ev_dget (ed_v (ev_var rfl ⟨_, rfl, ev_str ⟨_, _, rfl, lb, ea_nil ⟨[_, _], rfl, two, ?_⟩⟩⟩)))⟩⟩))))))
  refine es_eq (env' := [some .pot, some (.v (worldD W)), some (.v (mapD T.C_Family T.C_Map fs)), some (.v (walkD W)), none, none, none, none]) rfl ?_
  refine es_seq (es_if (et_not (et_B (ev_cb (ea_v (ev_ef (ef_mapX (List.range fs.length) (fun j => .int (j : Nat)) (fun _ => .bl true) (by walk_at "gs") (by walk_at "gs") (ej (ei_range1 (ea_v (ev_prop (ev_var rfl ⟨⟨_, _, rfl⟩, fs, rfl, ea_nil ⟨_, rfl, by omega, by omega, intsD_map _⟩⟩))))) (by rw [List.length_range]; exact sln' (m := 12) (by omega)) (fun Z' j hj => eg_nm ?_) (ea_nil (eb_allT ⟨_, rfl, ?_⟩)))))))))
  · have hj := List.mem_range.mp hj
    exact ev_call (ea_pot rfl (ea_v (ev_var rfl (ea_v (ev_var rfl (ea_v (ev_var rfl (ea_v (ev_var rfl (ea_nil ⟨W, _, j, fs, rfl, hG, hj, rfl⟩))))))))))
  refine br_n rfl (es_next ?_)
  refine es_seq (es_set (ev_tup (ea_v (ev_cb (ea_v (ev_dget (ed_v (ev_var rfl ⟨_, rfl, ev_str ⟨_, _, rfl, lp, ea_nil (eb_tupF ?_)⟩⟩))))))))
  refine ea_v (ev_cb (ea_v (ev_dget (ed_v (ev_var rfl ⟨_, rfl, ev_str ⟨_, _, rfl, lb, ea_nil (eb_tupF (ea_nil ⟨[_, _], rfl, two, ?_⟩))⟩⟩)))))
  refine es_eq (env' := [some .pot, some (.v (worldD W)), some (.v (mapD T.C_Family T.C_Map fs)), some (.v (walkD W)), none, some (.v (wfrzD W)), none, none]) rfl ?_
  refine es_seq (es_forA (List.range fs.length) (fun j => .int (j : Nat)) (fun m e => ∃ o6 o7, e = [some .pot, some (.v (worldD W)), some (.v (mapD T.C_Family T.C_Map fs)), some (.v (walkD W)), none, some (.v (wfrzD W)), o6, o7])
    (ei_range1 (ea_v (ev_prop (ev_var rfl ⟨⟨_, _, rfl⟩, fs, rfl, ea_nil ⟨_, rfl, by omega, by omega, intsD_map _⟩⟩)))) ⟨_, _, rfl⟩ (fun m j e hj hI => ?_) (fun e hI => ?_))
  · obtain ⟨o6, o7, rfl⟩ := hI
    have hj := List.mem_range.mp (List.mem_of_getElem? hj)
    have shp := hG.shPlan j
    have sha := hG.shAns j
    have hpd : planK W.c (stepsL W.c W.ps) W.bs fs (j : Nat) fs.length = ppK (qpP lotD (planQ W.c W.ss W.bs fs (j : Nat) fs.length)) := by rw [← hW.st, planK_eq]
    refine eg_nm (es_seq (es_set (ev_lst (ea_v (ev_items (ev_ef (ef_callW (ea_v (ev_var rfl (ea_v (ev_var rfl (ea_v (ev_var rfl (ea_nil ⟨_, _, _, rfl, fun Z3 hz3 => ⟨fs, _, W.c, W.ps, W.bs, (j : Nat), rfl, wfrzD_is W, wok, by omega, by omega, _, rfl, _, rfl, ?_⟩⟩))))))))))))))
    rw [hpd, items_planR]
    refine ea_v (ev_items (ev_ansF (ea_v (ev_var rfl (ea_v (ev_var rfl (ea_v (ev_var rfl (ea_nil fun Z3 hz3 => ⟨fs, _, W.c, W.ps, W.bs, (j : Nat), rfl, wfrzD_is W, wok, by omega, by omega, _, rfl, _, rfl, ?_⟩)))))))))
    rw [← hW.st, items_ansR]
    refine ea_nil ⟨[_, _], rfl, two, ?_⟩
    have shm : ∀ d ∈ ([.lst (planR W fs j fs.length), .lst (ansR W fs j fs.length)] : List Dm), ShB 2000 5 d := fun d hd => by
      rcases List.mem_cons.mp hd with e | hd
      · rw [e]; exact shp
      · rw [List.mem_singleton.mp hd]; exact sha
    have shl : ShB 5000 6 (.lst [.lst (planR W fs j fs.length), .lst (ansR W fs j fs.length)]) := ShB.mono (shb_lst (m := 2000) (n := 5) shm) (by simp) (by omega)
    refine es_if (et_test (ev_op (ev_cb (ea_v (ev_var rfl (ea_nil (eb_repr shl rfl (by decide) (by decide) ?_)))))))
    refine ev_cb (ea_v (ev_cb (ea_v (ev_call (ea_v (ev_call (ea_v (ev_var rfl (ea_nil ⟨fs, rfl, by omega, ea_v (ev_var rfl (ea_v (ev_var rfl (ea_nil ⟨W, _, j, fs, rfl, hG, hj, ea_nil (eb_list ⟨_, rfl, ea_nil (eb_repr shl rfl (by decide) (by decide) (er_ne ⟨_, rfl, _, rfl, ?_⟩))⟩)⟩))))⟩)))))))))
    rw [decide_eq_true rfl]
    exact br_n rfl (es_next ⟨_, _, rfl⟩)
  · exact es_ret (ev_bl hk)
def W_law : Wf := fun as k => ∃ ns : List Int, as = [.v (.scr ns)] ∧ ns.length ≤ 63 ∧ k (.bl true)
theorem h_law (T : Kt K mg) : HeldG P w K mg base 15 T.a_law (spD K W_law) := by
  obtain ⟨fd, F⟩ := T.f_law
  have sc := sc_law
  refine heldG_of F sc (spD_len fun as k h => ?_) (fun _ _ _ _ _ _ us hl => match us, hl with | [_], _ => rfl) fun cdv A outer s H E hr hgd => ?_
  · obtain ⟨_, rfl, _⟩ := h; rfl
  have hu := hu_of hr
  have hF_ : Cls K T.C_Family ∧ NoAttr K T.C_Family "own_lots" := ⟨T.isF.cl, T.naF⟩
  have hM_ : Cls K T.C_Map ∧ NoAttr K T.C_Map "own_families" := ⟨T.isM.cl, T.naM⟩
  have iF_ := T.isF
  have iM_ := T.isM
  have G__law_right := heldG_mono (h__law_right (P := P) (w := w) (base := base) T) (show 14 ≤ 14 by decide)
  have G__law_pot := held_mono (h__law_pot (P := P) (w := w) (base := base) T) (show 1 ≤ 14 by decide)
  refine ⟨_, (pss_one (ps_ret (pe_callB (cr_allK (K := K) rfl) (by rfl) T.n_all (by decide +kernel) (pa_cons (pe_lc (own := [("_law_k", 1)]) (g := gName 1) (tt := tYes) rfl sc.nd (pi_range1 (by rfl) T.n_range (pa_cons (pe_callB (call_max2 rfl) (by rfl) T.n_max (by decide +kernel) (pa_cons pe_int (pa_cons (pe_callB (call_min2 rfl) (by rfl) T.n_min (by decide +kernel) (pa_cons pe_int (pa_cons (pe_callB (call_lenK (K := K) rfl) (by rfl) T.n_len (by decide +kernel) (pa_cons (pv 0) pa_nil)) pa_nil))) pa_nil))) pa_nil)) (blkOk_by (N := N_law) (sc := defScope s_law) (by decide +kernel)) (fun _ _ _ _ _ => (pg_name (i := 1) sc.nd rfl (by first | exact Or.inl rfl | exact Or.inr rfl))) (fun _ _ _ _ _ => pts_nil) (fun _ _ _ _ _ => (pe_hG G__law_right hr hgd rfl T.g__law_right (pa_cons (pe_h G__law_pot hr rfl T.g__law_pot (pa_cons (pv 0) (pa_cons (pv 1) pa_nil))) pa_nil)))) pa_nil)))),
    fun vs Q sp => body_ok (fun Z as k hw => ?_) sp⟩
  obtain ⟨ns, rfl, h0, hk⟩ := hw
  try dsimp only [cxOf, Cx.nox]
  obtain ⟨n, hn1, hn2⟩ : ∃ n : Nat, (if (if ((ns.length : Nat) : Int) < 3 then ((ns.length : Nat) : Int) else 3) > 1 then (if ((ns.length : Nat) : Int) < 3 then ((ns.length : Nat) : Int) else 3) else 1) = (n : Nat) ∧ n ≤ 3 := by
    refine ⟨(if (if ((ns.length : Nat) : Int) < 3 then ((ns.length : Nat) : Int) else 3) > 1 then (if ((ns.length : Nat) : Int) < 3 then ((ns.length : Nat) : Int) else 3) else 1).toNat, ?_, ?_⟩
    · split <;> split <;> omega
    · split <;> split <;> omega
  have hlen : (List.range n).length < sizeLine := by rw [List.length_range]; exact sln' (m := 12) (by omega)
  refine es_ret (ev_cb (ea_v (ev_ef (ef_mapX (List.range n) (fun j => .int (j : Nat)) (fun _ => .bl true) (by walk_at "gs") (by walk_at "gs") (ej (ei_range1 (ea_v (ev_cb (ea_v (ev_int (ea_v (ev_cb (ea_v (ev_int (ea_v (ev_cb (ea_v (ev_var rfl (ea_nil (eb_lenS (ea_nil (eb_min2 (ea_nil (eb_max2 (ea_nil ⟨_, rfl, ?_, ?_, ?_⟩))))))))))))))))))))) hlen (fun Z' j hj => eg_nm ?_) (ea_nil (eb_allT hk))))))
  · rw [hn1]; omega
  · rw [hn1]; omega
  · rw [hn1, Int.toNat_natCast]; exact intsD_map _
  · have hj := List.mem_range.mp hj
    exact ev_callPot (ef_callF (ea_v (ev_var rfl (ea_v (ev_var rfl (ea_nil fun Z1 hz1 => ⟨ns, j, rfl, by omega, fun x y => ⟨_, rfl, x, y, rfl, rfl, rfl⟩⟩))))))
end
end Ln
/-! End: the law is called behind the top. -/
namespace Ln
open PySem PySem.Spec PyProof.Rows L2
section
variable {P : Program} {w : World} {K : PySem.W.Frag} {mg : Str → Option Value} {s : Shared} {a : Addr} {u : Option HO} {ob : Obj}
/-- one object at the most is told of -/
def cellAt (a : Addr) (u : Option HO) : Hp := fun b => if b = a then u else none
theorem cellAt_self : cellAt a u a = u := if_pos rfl
theorem cellAt_ne {b : Addr} (h : b ≠ a) : cellAt a u b = none := if_neg h
/-- the state in which the law is called -/
structure Scene (K : PySem.W.Frag) (mg : Str → Option Value) (s : Shared) : Prop where
  kin : K.In s.heap
  glo : s.heap.Ns mainGlobals mg
  bui : ∃ mb, s.heap.Ns builtinsNs mb ∧ ∀ x : Str, x ≠ "__name__" → mb x = bootBuiltins x
  lim : s.heap.NoLimit
  gen : s.gens = #[]
theorem cell_kept (ho : s.heap.get? a = some ob) {b : Addr} {o : Obj} (e : s.heap.get? b = some o) (h : b = a → u = none) : (hidT s.heap (cellAt a u)).get? b = some o :=
  hidT_get e (by
    unfold cellAt
    split
    · next q => exact h q
    · rfl)
theorem cell_ns (ho : s.heap.get? a = some ob) (hd : ∀ es ep, ob.data ≠ .dict es ep) {b : Addr} {m : Str → Option Value} (z : s.heap.Ns b m) : (hidT s.heap (cellAt a u)).Ns b m := by
  obtain ⟨o, es, ep, e, d, r⟩ := z
  refine ⟨o, es, ep, hidT_get e (cellAt_ne fun q => ?_), d, r⟩
  rw [q, ho] at e
  obtain rfl := Option.some.inj e
  exact hd _ _ d
theorem scene_env (S : Scene K mg s) (ho : s.heap.get? a = some ob) (hd : ∀ es ep, ob.data ≠ .dict es ep) (hu : u = none ∨ K.lookup a = none) (hok : HOk P w (cellAt a u) s.heap) :
    Env0 P w K mg (hidT s.heap (cellAt a u)) callerA [] s (cellAt a u) := by
  obtain ⟨mb, b1, b2⟩ := S.bui
  obtain ⟨mc, l1, l2⟩ := S.lim
  have inK : K.In (hidT s.heap (cellAt a u)) := fun b o e => cell_kept ho (S.kin b o e) fun q => by
    rcases hu with z | z
    · exact z
    · rw [q, z] at e; cases e
  have md : Mod K mg (hidT s.heap (cellAt a u)) := ⟨inK, cell_ns ho hd S.glo, ⟨mb, cell_ns ho hd b1, b2⟩, ⟨mc, cell_ns ho hd l1, l2⟩⟩
  exact { frames := rfl, mod := md, bs := fun _ _ e => of_hidT e, bsz := Nat.le_of_eq (hidT_size _ _), funs := trivial, frf := fun b m => (List.not_mem_nil m).elim, hok := hok, bare := .of_eq S.gen }
theorem law_at {fa : Addr} {k : Nat} {sp : Sp} (S : Scene K mg s) (ho : s.heap.get? a = some ob) (hd : ∀ es ep, ob.data ≠ .dict es ep) (hu : u = none ∨ (K.lookup a = none ∧ ∃ o xs, u = some (.frz o (.lst xs))))
    (hok : HOk P w (cellAt a u) s.heap) (hr : Room k callerA) (F : HeldG P w K mg (hidT s.heap (cellAt a u)) k fa sp) (hsp : sp [.ref a] (cellAt a u) (fun v _ => v = .bl true) fun _ _ _ => False) :
    codeAny (model P w) callerA (.call (.ref fa) ⟨[.ref a], []⟩) (fun r t => r = .ok (.ret (.bool true)) ∧ OldK s.heap t.heap ∧ t.os = s.os ∧ AllBare t.gens) s := by
  obtain ⟨fd, ps, G, hk, hb⟩ := F.ex
  have n1 : ps.length = 1 := (G.ln _ _ _ _ hsp).symm
  have bt := hb s [.ref a] S.kin (by rw [n1]; rfl)
  have e0 := scene_env (P := P) (w := w) S ho hd (hu.imp_right And.left) hok
  refine codeAny_mono (G.go callerA [] s _ ⟨[.ref a], []⟩ [.ref a] [.ref a] _ _ hr rfl e0 bt (.cons rfl .nil) hsp) fun r t z => ?_
  match r, z with
  | .error e, z => exact z.elim
  | .ok .next, z => exact z.elim
  | .ok .brk, z => exact z.elim
  | .ok .cont, z => exact z.elim
  | .ok (.ret x), ⟨v, H2, os, bare, un, ok2, rv, q⟩ =>
    have q : v = .bl true := q
    rw [q] at rv
    have rv : x = Value.bool true := rv
    refine ⟨by rw [rv], OldK.of_keep fun b o e => ?_, os, bare⟩
    have nn : ∀ {l : List Addr}, l = [] → b ∉ l := fun e m => by rw [e] at m; exact List.not_mem_nil m
    by_cases hb : b = a
    · subst hb
      rcases hu with z | ⟨_, ou, xs, z⟩
      · exact un.keep b o e (by rw [cellAt_self]; exact z) (nn rfl) (nn rfl)
      · have c1 : cellAt b u b = some (.frz ou (.lst xs)) := by rw [cellAt_self]; exact z
        obtain ⟨g1, _⟩ := hok b _ c1
        obtain ⟨g2, _⟩ := ok2 b _ (un.frzs b ou _ c1)
        rw [g2, ← g1, e]
    · exact un.keep b o e (cellAt_ne hb) (nn rfl) (nn rfl)
/-- a script of whole numbers, whether or not the module owns it -/
theorem law_go {fa : Addr} {k : Nat} {sp : Sp} {vs : List Value} {ns : List Int} (S : Scene K mg s) (ha : s.heap.get? a = some { cls := .type "list", data := .seq vs.toArray }) (hi : IntsAre vs ns) (hl : ns.length ≤ sizeLine) (hr : Room k callerA)
    (F : ∀ base : Heap, HeldG P w K mg base k fa sp) (hsp : ∀ H : Hp, SqL K H a (ns.map V.int) → sp [.ref a] H (fun v _ => v = .bl true) fun _ _ _ => False) :
    codeAny (model P w) callerA (.call (.ref fa) ⟨[.ref a], []⟩) (fun r t => r = .ok (.ret (.bool true)) ∧ OldK s.heap t.heap ∧ t.os = s.os ∧ AllBare t.gens) s := by
  have rv := vals_ints hi
  have nd : ∀ (es : Array DictEntry) (ep : Nat), ({ cls := .type "list", data := .seq vs.toArray } : Obj).data ≠ .dict es ep := fun _ _ z => nomatch z
  cases q : K.lookup a with
  | none =>
    refine law_at (u := some (.frz { cls := .type "list", data := .seq vs.toArray } (.lst (ns.map V.int)))) S ha nd (.inr ⟨q, _, _, rfl⟩) (fun b h z => ?_) hr (F _) (hsp _ (.inl (.inr ⟨_, cellAt_self⟩)))
    by_cases hb : b = a
    · subst hb
      rw [cellAt_self] at z
      obtain rfl := Option.some.inj z
      exact ⟨ha, by rw [List.length_map]; exact hl, vs, _, rv, ha⟩
    · rw [cellAt_ne hb] at z; cases z
  | some o =>
    have e := (S.kin a o q).symm.trans ha
    obtain rfl := Option.some.inj e
    refine law_at (u := none) S ha nd (.inl rfl) (fun b h z => ?_) hr (F _) (hsp _ (.inr ⟨_, vs.toArray, _, q, rfl, rfl, rfl, ?_, ?_⟩))
    · unfold cellAt at z
      split at z <;> cases z
    · rw [List.size_toArray, hi.length]; exact hl
    · exact rv
end
end Ln
/-! Fin: the statement. -/
namespace Ln
open PySem PySem.W PySem.Calls PyProof.Rows
theorem two_looks {α β γ δ : Type} {x : Option α} {f : α → β} {g : α → γ} {h : α → δ} {b : β} {c : γ} {d : δ} (h1 : x.map (fun s => (f s, g s)) = some (b, c)) (h2 : x.map h = some d) : x.map (fun s => (f s, g s, h s)) = some (b, c, d) := by
  cases x with
  | none => cases h1
  | some s =>
    cases h1
    cases h2
    rfl
theorem hd_run (w : World) : HandSHeadRun.RunEq hdR (view hdR.prog [hdI]) hdH hdOb 60000 hdL w := fun os => two_looks (hd_run1 w os) (hd_run2 w os)
theorem hd_name : (HandSHeadRun.topDef hdR.prog hdI).name = ("law" : PySem.Str) := by kernel_rfl
theorem hd_call : WalkO (view hdR.prog [hdI]) hdL (XL (view hdR.prog [hdI]) []) hdH.says hdR.toRowW (HandSHeadRun.topDef hdR.prog hdI) [] fun f vs => PySem.call f vs := by
  refine Att.attach_call (l := PySem.Challenge.rw_lanelots_k83_whole_papers_of_walks) (n := 63) rfl (by kernel_rfl) fun w s₀ s₁ mg mb fa o pm cd doc a vs ns G Y _ _ _ hmg hobj hints hlen hg => ?_
  obtain ⟨K, KX, c⟩ := Y
  have T : Kt K mg := kt_of KX G.T.g c
  have e : mg ("law" : PySem.Str) = some (.ref fa) := by rw [← hd_name]; exact hmg
  have ea := T.g_law.symm.trans e
  have F : ∀ base : Heap, HeldG (PySem.Challenge.rw_lanelots_k83_whole_papers_of_walks).prog w K mg base 15 fa (spD K W_law) := fun base => by
    have z := h_law (P := (PySem.Challenge.rw_lanelots_k83_whole_papers_of_walks).prog) (w := w) (base := base) T
    rw [show T.a_law = fa by injection ea with z1; injection z1] at z
    exact z
  exact law_go ⟨KX, G.T.g, ⟨mb, G.T.b, G.T.builtins⟩, G.T.nolimit, hg⟩ hobj hints (Nat.le_trans hlen (by decide)) ⟨rfl, by decide, by decide⟩ F fun H hS =>
    ⟨none, H, [.v (.scr ns)], fun d => d = .bl true, fun _ _ e => e, (fun _ q => nomatch q), .cons (.scr hS) .nil, ⟨ns, rfl, hlen, rfl⟩, fun d v G' H' kd _ rv => by
      rw [kd] at rv
      exact rv.bl_inv⟩
end Ln
open PySem PySem.W PySem.Calls PyProof.Rows
theorem PySem.Challenge.cw_lanelots_k83_whole_papers_of_walks_holds : PySem.Challenge.rw_lanelots_k83_whole_papers_of_walks.Holds := by
  w_on; o_law
  refine HandSHeadRun.head_any (r := Ln.hdR) (q := view Ln.hdR.prog [Ln.hdI]) (H := Ln.hdH) (ob := Ln.hdOb) (M := 60000) (loose := Ln.hdL) (d := HandSHeadRun.topDef Ln.hdR.prog Ln.hdI) (kwd := []) Ln.hdOb_eq (by kernel_rfl) (fun s => by kernel_rfl) Ln.hd_run
    (by kernel_rfl) (by kernel_rfl) (by kernel_rfl) (by rfl) (by first | assumption | decide +kernel) (by decide +kernel) ⟨rfl, rfl, rfl, rfl, rfl, by decide +kernel⟩ ?hw Ln.hd_call
  case hw => w_witness2
