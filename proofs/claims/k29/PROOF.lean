import PyProof.Rows.All
import Wide.All
import OpenK.AllK
import Wide.FinOn
import HandS.ForMost
import HandS.ForExc
import HandS.TryMany
import HandS.ExcField
import HandS.ExcIs
import HandS.Lambda
import HandS.TupAny
import HandS.SortInts
import HandS.Style
import HandS.Flow
import HandS.Conv
import HandS.Deep
import HandS.RaiseMore
import HandS.More
import HandS.IsInst
import HandS.Defaults
import HandS.MakeKw
import PyProof.TableCode
import PySem.Challenge.RW_longways_k29_columns_of_any_size
set_option Elab.async false
set_option linter.all false
section
set_option maxRecDepth 100000
namespace Ly
open PySem PySem.Spec L2
open PyProof.Rows hiding St

inductive D where
  | n | b (x : Bool) | i (z : Int) | s (x : Str)
  | l (xs : List D) | t (xs : List D) | z (xs : List D) | zt (xs : List D)
  | dk (ks : List Key) (ds : List D) | dt (ks : List (List Key)) (ds : List D)

mutual
inductive Rep (K : PySem.W.Frag) (G : Hp) : V → D → Prop
  | n : Rep K G .non .n
  | b (x : Bool) : Rep K G (.bl x) (.b x)
  | i (z : Int) : Rep K G (.int z) (.i z)
  | s (x : Str) : Rep K G (.str x) (.s x)
  | l {a : Addr} {xs : List V} {ds : List D} : G a = some (.lst xs) → Reps K G xs ds → Rep K G (.ref a) (.l ds)
  | z {a : Addr} {xs : List V} {ds : List D} : SqL K G a xs → Reps K G xs ds → Rep K G (.ref a) (.z ds)
  | t {a : Addr} {xs : List V} {ds : List D} : G a = some (.tup xs) → Reps K G xs ds → Rep K G (.ref a) (.t ds)
  | zt {a : Addr} {xs : List V} {ds : List D} : SqT K G a xs → Reps K G xs ds → Rep K G (.ref a) (.zt ds)
  | dk {a : Addr} {kvs : List (Key × V)} {ks : List Key} {ds : List D} : Rd G a (.dK kvs) → ks = kvs.map (·.1) → Reps K G (kvs.map (·.2)) ds → Rep K G (.ref a) (.dk ks ds)
  | dt {a : Addr} {kvs : List (List Key × V)} {ks : List (List Key)} {ds : List D} : Rd G a (.dT kvs) → ks = kvs.map (·.1) → Reps K G (kvs.map (·.2)) ds → Rep K G (.ref a) (.dt ks ds)
inductive Reps (K : PySem.W.Frag) (G : Hp) : List V → List D → Prop
  | nil : Reps K G [] []
  | cons {v : V} {vs : List V} {d : D} {ds : List D} : Rep K G v d → Reps K G vs ds → Reps K G (v :: vs) (d :: ds)
end

theorem Same.rd {G G' : Hp} (e : Same G G') {a : Addr} {u : HO} (h : Rd G a u) : Rd G' a u := by
  rcases h with h | ⟨o, h⟩
  · exact .inl (e _ _ h)
  · exact .inr ⟨o, e _ _ h⟩
theorem Same.tup {K : PySem.W.Frag} {H H' : Hp} {a : Addr} {xs : List V} (e : Same H H') (h : SqT K H a xs) : SqT K H' a xs := by
  rcases h with h | h
  · exact .inl (Same.rd e h)
  · exact .inr h

section
variable {K : PySem.W.Frag} {G G' : Hp}
mutual
theorem Rep.mono (e : Same G G') : ∀ {v : V} {d : D}, Rep K G v d → Rep K G' v d
  | _, _, .n => .n
  | _, _, .b x => .b x
  | _, _, .i x => .i x
  | _, _, .s x => .s x
  | _, _, .l h r => .l (e _ _ h) (Reps.mono e r)
  | _, _, .z h r => .z (e.seq h) (Reps.mono e r)
  | _, _, .t h r => .t (e _ _ h) (Reps.mono e r)
  | _, _, .zt h r => .zt (Same.tup e h) (Reps.mono e r)
  | _, _, .dk h q r => .dk (Same.rd e h) q (Reps.mono e r)
  | _, _, .dt h q r => .dt (Same.rd e h) q (Reps.mono e r)
theorem Reps.mono (e : Same G G') : ∀ {vs : List V} {ds : List D}, Reps K G vs ds → Reps K G' vs ds
  | _, _, .nil => .nil
  | _, _, .cons h r => .cons (Rep.mono e h) (Reps.mono e r)
end
theorem Reps.length : ∀ {vs : List V} {ds : List D}, Reps K G vs ds → vs.length = ds.length
  | _, _, .nil => rfl
  | _, _, .cons _ r => by simp [Reps.length r]
theorem Reps.get : ∀ {vs : List V} {ds : List D} {i : Nat} {v : V}, Reps K G vs ds → vs[i]? = some v → ∃ d, ds[i]? = some d ∧ Rep K G v d
  | _, _, _, _, .nil, e => by simp at e
  | _, _, 0, _, .cons h _, e => by simp at e; subst e; exact ⟨_, rfl, h⟩
  | _, _, i + 1, _, .cons _ r, e => by
    obtain ⟨d, h1, h2⟩ := Reps.get (i := i) r (by simpa using e)
    exact ⟨d, by simpa using h1, h2⟩
theorem Reps.get' : ∀ {vs : List V} {ds : List D} {i : Nat} {d : D}, Reps K G vs ds → ds[i]? = some d → ∃ v, vs[i]? = some v ∧ Rep K G v d
  | _, _, _, _, .nil, e => by simp at e
  | _, _, 0, _, .cons h _, e => by simp at e; subst e; exact ⟨_, rfl, h⟩
  | _, _, i + 1, _, .cons _ r, e => by
    obtain ⟨d, h1, h2⟩ := Reps.get' (i := i) r (by simpa using e)
    exact ⟨d, by simpa using h1, h2⟩
theorem Reps.append : ∀ {vs ws : List V} {ds es : List D}, Reps K G vs ds → Reps K G ws es → Reps K G (vs ++ ws) (ds ++ es)
  | _, _, _, _, .nil, s => s
  | _, _, _, _, .cons h r, s => .cons h (Reps.append r s)
theorem Reps.take : ∀ {vs : List V} {ds : List D} (n : Nat), Reps K G vs ds → Reps K G (vs.take n) (ds.take n)
  | _, _, 0, _ => .nil
  | _, _, _ + 1, .nil => .nil
  | _, _, n + 1, .cons h r => .cons h (Reps.take n r)
theorem Reps.drop : ∀ {vs : List V} {ds : List D} (n : Nat), Reps K G vs ds → Reps K G (vs.drop n) (ds.drop n)
  | _, _, 0, r => r
  | _, _, _ + 1, .nil => .nil
  | _, _, n + 1, .cons _ r => Reps.drop n r
theorem Reps.set {v : V} {d : D} (h : Rep K G v d) : ∀ {vs : List V} {ds : List D} (i : Nat), Reps K G vs ds → Reps K G (vs.set i v) (ds.set i d)
  | _, _, _, .nil => .nil
  | _, _, 0, .cons _ r => .cons h r
  | _, _, i + 1, .cons q r => .cons q (Reps.set h i r)
theorem Reps.reverse : ∀ {vs : List V} {ds : List D}, Reps K G vs ds → Reps K G vs.reverse ds.reverse
  | _, _, .nil => .nil
  | _, _, .cons h r => by
    rw [List.reverse_cons, List.reverse_cons]
    exact (Reps.reverse r).append (.cons h .nil)
theorem Rep.int_inv {v : V} {z : Int} (h : Rep K G v (.i z)) : v = .int z := by cases h; rfl
theorem Rep.str_inv {v : V} {z : Str} (h : Rep K G v (.s z)) : v = .str z := by cases h; rfl
theorem Rep.bl_inv {v : V} {z : Bool} (h : Rep K G v (.b z)) : v = .bl z := by cases h; rfl
theorem Rep.n_inv {v : V} (h : Rep K G v .n) : v = .non := by cases h; rfl
theorem Rep.l_inv {v : V} {ds : List D} (h : Rep K G v (.l ds)) : ∃ a xs, v = .ref a ∧ G a = some (.lst xs) ∧ Reps K G xs ds := by
  cases h with | l h r => exact ⟨_, _, rfl, h, r⟩
theorem Rep.t_inv {v : V} {ds : List D} (h : Rep K G v (.t ds)) : ∃ a xs, v = .ref a ∧ G a = some (.tup xs) ∧ Reps K G xs ds := by
  cases h with | t h r => exact ⟨_, _, rfl, h, r⟩
theorem Rep.zt_inv {v : V} {ds : List D} (h : Rep K G v (.zt ds)) : ∃ a xs, v = .ref a ∧ SqT K G a xs ∧ Reps K G xs ds := by
  cases h with | zt h r => exact ⟨_, _, rfl, h, r⟩
theorem Reps.ints : ∀ {vs : List V} {zs : List Int}, Reps K G vs (zs.map D.i) → vs = zs.map V.int
  | _, [], .nil => rfl
  | _, z :: zs, .cons h r => by rw [h.int_inv, List.map_cons, Reps.ints r]
theorem Reps.ofInts : ∀ (zs : List Int), Reps K G (zs.map V.int) (zs.map D.i)
  | [] => .nil
  | z :: zs => .cons (.i z) (Reps.ofInts zs)
theorem Reps.strs : ∀ {vs : List V} {zs : List Str}, Reps K G vs (zs.map D.s) → vs = zs.map V.str
  | _, [], .nil => rfl
  | _, z :: zs, .cons h r => by rw [h.str_inv, List.map_cons, Reps.strs r]
theorem Reps.ofStrs : ∀ (zs : List Str), Reps K G (zs.map V.str) (zs.map D.s)
  | [] => .nil
  | z :: zs => .cons (.s z) (Reps.ofStrs zs)
end

structure Gr (G H G' H' : Hp) : Prop where
  hh : Same H H'
  gg : Same G G'
  gh : Same G' H'
  nw : ∀ a o, G' a = some o → H a ≠ none → G a = some o
theorem Gr.refl {G H : Hp} (h : Same G H) : Gr G H G H := ⟨Same.refl _, Same.refl _, h, fun _ _ e _ => e⟩
theorem Gr.trans {G H G1 H1 G2 H2 : Hp} (a : Gr G H G1 H1) (b : Gr G1 H1 G2 H2) : Gr G H G2 H2 := by
  refine ⟨a.hh.trans b.hh, a.gg.trans b.gg, b.gh, fun c o e n => a.nw c o (b.nw c o e fun z => ?_) n⟩
  cases q : H c with
  | none => exact n q
  | some u => rw [a.hh c u q] at z; cases z
theorem Gr.new {G H : Hp} (h : Same G H) {p : Addr} {o : HO} (hp : H p = none) : Gr G H (upd G p o) (upd H p o) := by
  have gp : G p = none := h.free hp
  refine ⟨fun b u e => by rw [upd_ne (ne_of_none e hp)]; exact e, fun b u e => by rw [upd_ne (ne_of_none e gp)]; exact e, fun b u e => ?_, fun b u e n => ?_⟩
  · by_cases hb : b = p
    · subst hb; rw [upd_same] at e ⊢; exact e
    · rw [upd_ne hb] at e ⊢; exact h b u e
  · by_cases hb : b = p
    · subst hb; exact absurd hp n
    · rw [upd_ne hb] at e; exact e
theorem Gr.own {G H : Hp} (h : Same G H) {p : Addr} {o : HO} (hp : H p = none) : Gr G H G (upd H p o) :=
  ⟨fun b u e => by rw [upd_ne (ne_of_none e hp)]; exact e, Same.refl _, fun b u e => by rw [upd_ne (ne_of_none (h b u e) hp)]; exact h b u e, fun _ _ e _ => e⟩
theorem Gr.freeze {G0 H0 G H : Hp} (g : Gr G0 H0 G H) {p : Addr} {o : HO} (hp : H0 p = none) (gp : G p = none) (e : H p = some o) : Gr G0 H0 (upd G p o) H := by
  refine ⟨g.hh, fun b u q => ?_, fun b u q => ?_, fun b u q n => ?_⟩
  · have z := g.gg b u q
    rw [upd_ne (ne_of_none z gp)]; exact z
  · by_cases hb : b = p
    · subst hb; rw [upd_same] at q; rw [e]; exact q
    · rw [upd_ne hb] at q; exact g.gh b u q
  · by_cases hb : b = p
    · subst hb; exact absurd hp n
    · rw [upd_ne hb] at q; exact g.nw b u q n
theorem Gr.keepNone {G H G' H' : Hp} (g : Gr G H G' H') {p : Addr} {o : HO} (gp : G p = none) (e : H p = some o) : G' p = none := by
  cases q : G' p with
  | none => rfl
  | some u =>
    have z := g.nw p u q (by rw [e]; intro z; cases z)
    rw [gp] at z; cases z

inductive Own (K : PySem.W.Frag) (G H : Hp) (p : Addr) : D → Prop
  | l {xs : List V} {ds : List D} : H p = some (.lst xs) → Reps K G xs ds → Own K G H p (.l ds)
  | dk {kvs : List (Key × V)} {ks : List Key} {ds : List D} : H p = some (.dK kvs) → ks = kvs.map (·.1) → Reps K G (kvs.map (·.2)) ds → Own K G H p (.dk ks ds)
  | dt {kvs : List (List Key × V)} {ks : List (List Key)} {ds : List D} : H p = some (.dT kvs) → ks = kvs.map (·.1) → Reps K G (kvs.map (·.2)) ds → Own K G H p (.dt ks ds)
theorem Own.mono {K : PySem.W.Frag} {G H G' H' : Hp} {p : Addr} {d : D} (hh : Same H H') (gg : Same G G') (o : Own K G H p d) : Own K G' H' p d := by
  cases o with
  | l h r => exact .l (hh _ _ h) (r.mono gg)
  | dk h q r => exact .dk (hh _ _ h) q (r.mono gg)
  | dt h q r => exact .dt (hh _ _ h) q (r.mono gg)
theorem Own.some {K : PySem.W.Frag} {G H : Hp} {p : Addr} {d : D} (o : Own K G H p d) : ∃ u, H p = some u := by
  cases o with
  | l h r => exact ⟨_, h⟩
  | dk h q r => exact ⟨_, h⟩
  | dt h q r => exact ⟨_, h⟩
theorem Own.rep {K : PySem.W.Frag} {G H : Hp} {p : Addr} {d : D} (gp : G p = none) (o : Own K G H p d) : ∃ u, H p = .some u ∧ Rep K (upd G p u) (.ref p) d := by
  have sm : ∀ u, Same G (upd G p u) := fun u b w e => by rw [upd_ne (ne_of_none e gp)]; exact e
  cases o with
  | l h r => exact ⟨_, h, .l upd_same (r.mono (sm _))⟩
  | dk h q r => exact ⟨_, h, .dk (.inl upd_same) q (r.mono (sm _))⟩
  | dt h q r => exact ⟨_, h, .dt (.inl upd_same) q (r.mono (sm _))⟩

inductive Rv where
  | sh (d : D) | fr (d : D) | bo (d : D)
def Rv.d : Rv → D
  | .sh d => d | .fr d => d | .bo d => d
structure Exn where
  cls : Str
  fs : Option (List (Str × D)) := none
inductive Re (α : Type) where
  | ok (a : α) | ex (e : Exn) | bad
def Re.bind {α β : Type} (x : Re α) (f : α → Re β) : Re β := match x with
  | .ok a => f a | .ex e => .ex e | .bad => .bad
@[simp] theorem Re.bind_ok {α β : Type} (a : α) (f : α → Re β) : (Re.ok a).bind f = f a := rfl
@[simp] theorem Re.bind_ex {α β : Type} (e : Exn) (f : α → Re β) : (Re.ex e : Re α).bind f = .ex e := rfl
@[simp] theorem Re.bind_bad {α β : Type} (f : α → Re β) : (Re.bad : Re α).bind f = .bad := rfl

abbrev Env' := List (Option Rv)
abbrev FE := Env' → Re Rv
abbrev FT := Env' → Re Bool
abbrev FA := Env' → Re (List D)
abbrev FI := Env' → Re (List D)
inductive Fl where
  | nx (Γ : Env') | rt (r : Rv) | bk (Γ : Env') | ct (Γ : Env') | ex (e : Exn) (Γ : Env') | bad
abbrev FS := Env' → Fl

structure LC where
  K : PySem.W.Frag
  mg : Str → Option Value
  B : Hp
  G0 : Hp
  W : WX

def RV (c : LC) (G H : Hp) (v : V) : Rv → Prop
  | .sh d => Rep c.K G v d
  | .fr d => ∃ p, v = .ref p ∧ c.B p = none ∧ G p = none ∧ Own c.K G H p d
  | .bo d => ∃ p, v = .ref p ∧ c.B p = none ∧ G p = none ∧ Own c.K G H p d
def Fresh (H0 : Hp) (v : V) : Rv → Prop
  | .fr _ => ∃ p, v = .ref p ∧ H0 p = none
  | _ => True
theorem RV.mono {c : LC} {G H G' H' : Hp} {v : V} {r : Rv} (g : Gr G H G' H') (h : RV c G H v r) : RV c G' H' v r := by
  cases r with
  | sh d => exact Rep.mono g.gg h
  | fr d =>
    obtain ⟨p, e, b, n, o⟩ := h
    obtain ⟨u, hu⟩ := o.some
    exact ⟨p, e, b, g.keepNone n hu, o.mono g.hh g.gg⟩
  | bo d =>
    obtain ⟨p, e, b, n, o⟩ := h
    obtain ⟨u, hu⟩ := o.some
    exact ⟨p, e, b, g.keepNone n hu, o.mono g.hh g.gg⟩

structure EnvOk (c : LC) (G H : Hp) (σ : St) (Γ : Env') : Prop where
  bh : Same c.B H
  g0 : Same c.G0 G
  gh : Same G H
  gf : ∀ a o, G a = some o → c.B a ≠ none → c.G0 a = some o
  len : σ.length = Γ.length
  at' : ∀ (i : Nat) (r : Rv), Γ[i]? = some (some r) → ∃ v, σ[i]? = some (some v) ∧ RV c G H v r ∧ ∀ d, r ≠ .bo d
  sep : ∀ (i j : Nat) (d e : D) (p : Addr), Γ[i]? = some (some (.fr d)) → Γ[j]? = some (some (.fr e)) → σ[i]? = some (some (.ref p)) → σ[j]? = some (some (.ref p)) → i = j
theorem EnvOk.mono {c : LC} {G H G' H' : Hp} {σ : St} {Γ : Env'} (e : EnvOk c G H σ Γ) (g : Gr G H G' H') : EnvOk c G' H' σ Γ := by
  refine ⟨e.bh.trans g.hh, e.g0.trans g.gg, g.gh, fun a o q n => e.gf a o (g.nw a o q fun z => ?_) n, e.len, fun i r h => ?_, e.sep⟩
  · cases x : c.B a with
    | none => exact n x
    | some u => rw [e.bh a u x] at z; cases z
  · obtain ⟨v, h1, h2, h3⟩ := e.at' i r h
    exact ⟨v, h1, h2.mono g, h3⟩

def ExAt (c : LC) (W : Value → Option Addr → Hp → Prop) (e : Exn) (G H : Hp) : Prop :=
  ∀ (C : Addr) (d : Option Addr), c.mg e.cls = some (.ref C) →
    (match e.fs with
      | none => d = none
      | some fs => ∃ (p : Addr) (vs : List (Str × V)), d = some p ∧ H p = some (.xd vs) ∧ vs.map (·.1) = fs.map (·.1) ∧ Reps c.K G (vs.map (·.2)) (fs.map (·.2))) →
    W (.ref C) d H

def Post (c : LC) (re : Re Rv) (σ : St) (G H : Hp) (Q : VK) : Prop := match re with
  | .ok r => ∀ v G' H', Gr G H G' H' → RV c G' H' v r → Fresh H v r → Q v H'
  | .ex e => ∀ G' H', Gr G H G' H' → ExAt c (fun C d H' => c.W C d σ H') e G' H'
  | .bad => False
def PostT (c : LC) (re : Re Bool) (σ : St) (G H : Hp) (Q : Bool → Hp → Prop) : Prop := match re with
  | .ok r => ∀ G' H', Gr G H G' H' → Q r H'
  | .ex e => ∀ G' H', Gr G H G' H' → ExAt c (fun C d H' => c.W C d σ H') e G' H'
  | .bad => False
def PostA (c : LC) (re : Re (List D)) (σ : St) (G H : Hp) (Q : List V → Hp → Prop) : Prop := match re with
  | .ok ds => ∀ vs G' H', Gr G H G' H' → Reps c.K G' vs ds → Q vs H'
  | .ex e => ∀ G' H', Gr G H G' H' → ExAt c (fun C d H' => c.W C d σ H') e G' H'
  | .bad => False
def tE (c : LC) (f : FE) : TE := fun σ H Q => ∃ G Γ, EnvOk c G H σ Γ ∧ Post c (f Γ) σ G H Q
def tT (c : LC) (f : FT) : TT := fun σ H Q => ∃ G Γ, EnvOk c G H σ Γ ∧ PostT c (f Γ) σ G H Q
def tA (c : LC) (f : FA) : TA := fun σ H Q => ∃ G Γ, EnvOk c G H σ Γ ∧ PostA c (f Γ) σ G H Q

theorem PE.weak {X : Cx} {e : Expr} {t t' : TE} (h : PE X e t) (w : ∀ σ H Q, t' σ H Q → t σ H Q) : PE X e t' := ⟨fun pins s σ H Q I q => h.run pins s σ H Q I (w _ _ _ q)⟩
theorem PT.weak {X : Cx} {e : Expr} {t t' : TT} (h : PT X e t) (w : ∀ σ H Q, t' σ H Q → t σ H Q) : PT X e t' := ⟨fun pins s σ H Q I q => h.run pins s σ H Q I (w _ _ _ q)⟩
theorem PA.weak {X : Cx} {e : List Expr} {t t' : TA} (h : PA X e t) (w : ∀ σ H Q, t' σ H Q → t σ H Q) : PA X e t' := ⟨fun pos pins s σ H Q I q => h.run pos pins s σ H Q I (w _ _ _ q)⟩
theorem PS.weak {X : Cx} {e : Stmt} {t t' : TS} (h : PS X e t) (w : ∀ D σ H, t' D σ H → t D σ H) : PS X e t' := ⟨fun pins s σ H D I q => h.run pins s σ H D I (w _ _ _ q)⟩
theorem PSs.weak {X : Cx} {e : List Stmt} {t t' : TS} (h : PSs X e t) (w : ∀ D σ H, t' D σ H → t D σ H) : PSs X e t' := ⟨fun pins s σ H D I q => h.run pins s σ H D I (w _ _ _ q)⟩

theorem Post.ex_later {c : LC} {e : Exn} {σ : St} {G H G1 H1 : Hp} (g : Gr G H G1 H1) (h : ∀ G' H', Gr G H G' H' → ExAt c (fun C d H' => c.W C d σ H') e G' H') :
    ∀ G' H', Gr G1 H1 G' H' → ExAt c (fun C d H' => c.W C d σ H') e G' H' := fun G' H' g' => h G' H' (g.trans g')
theorem Fresh.back {H0 H : Hp} {v : V} {r : Rv} (e : Same H0 H) (h : Fresh H v r) : Fresh H0 v r := by
  cases r with
  | fr d => obtain ⟨p, e1, e2⟩ := h; exact ⟨p, e1, e.free e2⟩
  | sh d => trivial
  | bo d => trivial
theorem Post.later {c : LC} {re : Re Rv} {σ : St} {G H G1 H1 : Hp} {Q : VK} (g : Gr G H G1 H1) (h : Post c re σ G H Q) : Post c re σ G1 H1 Q := by
  cases re with
  | bad => exact h
  | ex x => exact Post.ex_later g h
  | ok r => exact fun v G2 H2 g2 rv fr => h v G2 H2 (g.trans g2) rv (fr.back g.hh)
theorem PostT.later {c : LC} {re : Re Bool} {σ : St} {G H G1 H1 : Hp} {Q : Bool → Hp → Prop} (g : Gr G H G1 H1) (h : PostT c re σ G H Q) : PostT c re σ G1 H1 Q := by
  cases re with
  | bad => exact h
  | ex x => exact Post.ex_later g h
  | ok r => exact fun G2 H2 g2 => h G2 H2 (g.trans g2)
theorem PostA.later {c : LC} {re : Re (List D)} {σ : St} {G H G1 H1 : Hp} {Q : List V → Hp → Prop} (g : Gr G H G1 H1) (h : PostA c re σ G H Q) : PostA c re σ G1 H1 Q := by
  cases re with
  | bad => exact h
  | ex x => exact Post.ex_later g h
  | ok r => exact fun v G2 H2 g2 rv => h v G2 H2 (g.trans g2) rv
theorem tE_bind {c : LC} {f : FE} {σ : St} {H : Hp} {G : Hp} {Γ : Env'} (he : EnvOk c G H σ Γ) {β : Type} {k : Rv → Re β} {R : VK}
    {P : Re β → Hp → Hp → Prop} (hb : ∀ G H, P .bad G H → False) (hx : ∀ x G H, P (.ex x) G H → ∀ G' H', Gr G H G' H' → ExAt c (fun C d H' => c.W C d σ H') x G' H') (hl : ∀ r G H G' H', Gr G H G' H' → P r G H → P r G' H') (h : P ((f Γ).bind k) G H)
    (hk : ∀ r v G' H', f Γ = .ok r → Gr G H G' H' → RV c G' H' v r → Fresh H v r → EnvOk c G' H' σ Γ → P (k r) G' H' → R v H') : tE c f σ H R := by
  refine ⟨G, Γ, he, ?_⟩
  cases e : f Γ with
  | bad => rw [e] at h; exact (hb _ _ h).elim
  | ex x => rw [e] at h; exact hx _ _ _ h
  | ok r =>
    intro v G' H' g rv fr
    rw [e] at h
    exact hk r v G' H' e g rv fr (he.mono g) (hl _ _ _ _ _ g h)
theorem tT_bind {c : LC} {f : FT} {σ : St} {H : Hp} {G : Hp} {Γ : Env'} (he : EnvOk c G H σ Γ) {β : Type} {k : Bool → Re β} {R : Bool → Hp → Prop}
    {P : Re β → Hp → Hp → Prop} (hb : ∀ G H, P .bad G H → False) (hx : ∀ x G H, P (.ex x) G H → ∀ G' H', Gr G H G' H' → ExAt c (fun C d H' => c.W C d σ H') x G' H') (hl : ∀ r G H G' H', Gr G H G' H' → P r G H → P r G' H') (h : P ((f Γ).bind k) G H)
    (hk : ∀ r G' H', f Γ = .ok r → Gr G H G' H' → EnvOk c G' H' σ Γ → P (k r) G' H' → R r H') : tT c f σ H R := by
  refine ⟨G, Γ, he, ?_⟩
  cases e : f Γ with
  | bad => rw [e] at h; exact (hb _ _ h).elim
  | ex x => rw [e] at h; exact hx _ _ _ h
  | ok r =>
    intro G' H' g
    rw [e] at h
    exact hk r G' H' e g (he.mono g) (hl _ _ _ _ _ g h)
theorem tA_bind {c : LC} {f : FA} {σ : St} {H : Hp} {G : Hp} {Γ : Env'} (he : EnvOk c G H σ Γ) {β : Type} {k : List D → Re β} {R : List V → Hp → Prop}
    {P : Re β → Hp → Hp → Prop} (hb : ∀ G H, P .bad G H → False) (hx : ∀ x G H, P (.ex x) G H → ∀ G' H', Gr G H G' H' → ExAt c (fun C d H' => c.W C d σ H') x G' H') (hl : ∀ r G H G' H', Gr G H G' H' → P r G H → P r G' H') (h : P ((f Γ).bind k) G H)
    (hk : ∀ r vs G' H', f Γ = .ok r → Gr G H G' H' → Reps c.K G' vs r → EnvOk c G' H' σ Γ → P (k r) G' H' → R vs H') : tA c f σ H R := by
  refine ⟨G, Γ, he, ?_⟩
  cases e : f Γ with
  | bad => rw [e] at h; exact (hb _ _ h).elim
  | ex x => rw [e] at h; exact hx _ _ _ h
  | ok r =>
    intro vs G' H' g rv
    rw [e] at h
    exact hk r vs G' H' e g rv (he.mono g) (hl _ _ _ _ _ g h)
theorem Post.wish {c : LC} {σ : St} {Q : VK} : (∀ G H, Post c .bad σ G H Q → False) ∧ (∀ x G H, Post c (.ex x) σ G H Q → ∀ G' H', Gr G H G' H' → ExAt c (fun C d H' => c.W C d σ H') x G' H') ∧ (∀ r G H G' H', Gr G H G' H' → Post c r σ G H Q → Post c r σ G' H' Q) :=
  ⟨fun _ _ h => h, fun _ _ _ h => h, fun _ _ _ _ _ g h => h.later g⟩
theorem PostT.wish {c : LC} {σ : St} {Q : Bool → Hp → Prop} : (∀ G H, PostT c .bad σ G H Q → False) ∧ (∀ x G H, PostT c (.ex x) σ G H Q → ∀ G' H', Gr G H G' H' → ExAt c (fun C d H' => c.W C d σ H') x G' H') ∧ (∀ r G H G' H', Gr G H G' H' → PostT c r σ G H Q → PostT c r σ G' H' Q) :=
  ⟨fun _ _ h => h, fun _ _ _ h => h, fun _ _ _ _ _ g h => h.later g⟩
theorem PostA.wish {c : LC} {σ : St} {Q : List V → Hp → Prop} : (∀ G H, PostA c .bad σ G H Q → False) ∧ (∀ x G H, PostA c (.ex x) σ G H Q → ∀ G' H', Gr G H G' H' → ExAt c (fun C d H' => c.W C d σ H') x G' H') ∧ (∀ r G H G' H', Gr G H G' H' → PostA c r σ G H Q → PostA c r σ G' H' Q) :=
  ⟨fun _ _ h => h, fun _ _ _ h => h, fun _ _ _ _ _ g h => h.later g⟩
end Ly
end

section
set_option maxRecDepth 100000
namespace Ly
open PySem PySem.Spec L2
open PyProof.Rows hiding St

structure Cy (X : Cx) (c : LC) : Prop where
  K : X.K = c.K
  mg : X.mg = c.mg
  tk : Takes X c.W
  calm : X.calm = true
  nd : X.N.Nodup
  un : X.A.units + 64 < cLine

theorem EnvOk.sh {c : LC} {G H : Hp} {σ : St} {Γ : Env'} (e : EnvOk c G H σ Γ) : Same G H := e.gh

theorem eE {c : LC} {f : FE} {σ : St} {H : Hp} {G : Hp} {Γ : Env'} {Q : VK} {k : Rv → Re Rv} {R : VK} (he : EnvOk c G H σ Γ) (h : Post c ((f Γ).bind k) σ G H Q)
    (hk : ∀ r v G' H', f Γ = .ok r → Gr G H G' H' → RV c G' H' v r → Fresh H v r → EnvOk c G' H' σ Γ → Post c (k r) σ G' H' Q → R v H') : tE c f σ H R :=
  tE_bind (P := fun r G H => Post c r σ G H Q) he Post.wish.1 Post.wish.2.1 Post.wish.2.2 h hk
theorem eT {c : LC} {f : FE} {σ : St} {H : Hp} {G : Hp} {Γ : Env'} {Q : Bool → Hp → Prop} {k : Rv → Re Bool} {R : VK} (he : EnvOk c G H σ Γ) (h : PostT c ((f Γ).bind k) σ G H Q)
    (hk : ∀ r v G' H', f Γ = .ok r → Gr G H G' H' → RV c G' H' v r → Fresh H v r → EnvOk c G' H' σ Γ → PostT c (k r) σ G' H' Q → R v H') : tE c f σ H R :=
  tE_bind (P := fun r G H => PostT c r σ G H Q) he PostT.wish.1 PostT.wish.2.1 PostT.wish.2.2 h hk
theorem eA {c : LC} {f : FE} {σ : St} {H : Hp} {G : Hp} {Γ : Env'} {Q : List V → Hp → Prop} {k : Rv → Re (List D)} {R : VK} (he : EnvOk c G H σ Γ) (h : PostA c ((f Γ).bind k) σ G H Q)
    (hk : ∀ r v G' H', f Γ = .ok r → Gr G H G' H' → RV c G' H' v r → Fresh H v r → EnvOk c G' H' σ Γ → PostA c (k r) σ G' H' Q → R v H') : tE c f σ H R :=
  tE_bind (P := fun r G H => PostA c r σ G H Q) he PostA.wish.1 PostA.wish.2.1 PostA.wish.2.2 h hk
theorem tTE {c : LC} {f : FT} {σ : St} {H : Hp} {G : Hp} {Γ : Env'} {Q : VK} {k : Bool → Re Rv} {R : Bool → Hp → Prop} (he : EnvOk c G H σ Γ) (h : Post c ((f Γ).bind k) σ G H Q)
    (hk : ∀ r G' H', f Γ = .ok r → Gr G H G' H' → EnvOk c G' H' σ Γ → Post c (k r) σ G' H' Q → R r H') : tT c f σ H R :=
  tT_bind (P := fun r G H => Post c r σ G H Q) he Post.wish.1 Post.wish.2.1 Post.wish.2.2 h hk
theorem tTT {c : LC} {f : FT} {σ : St} {H : Hp} {G : Hp} {Γ : Env'} {Q : Bool → Hp → Prop} {k : Bool → Re Bool} {R : Bool → Hp → Prop} (he : EnvOk c G H σ Γ) (h : PostT c ((f Γ).bind k) σ G H Q)
    (hk : ∀ r G' H', f Γ = .ok r → Gr G H G' H' → EnvOk c G' H' σ Γ → PostT c (k r) σ G' H' Q → R r H') : tT c f σ H R :=
  tT_bind (P := fun r G H => PostT c r σ G H Q) he PostT.wish.1 PostT.wish.2.1 PostT.wish.2.2 h hk
theorem tAE {c : LC} {f : FA} {σ : St} {H : Hp} {G : Hp} {Γ : Env'} {Q : VK} {k : List D → Re Rv} {R : List V → Hp → Prop} (he : EnvOk c G H σ Γ) (h : Post c ((f Γ).bind k) σ G H Q)
    (hk : ∀ r vs G' H', f Γ = .ok r → Gr G H G' H' → Reps c.K G' vs r → EnvOk c G' H' σ Γ → Post c (k r) σ G' H' Q → R vs H') : tA c f σ H R :=
  tA_bind (P := fun r G H => Post c r σ G H Q) he Post.wish.1 Post.wish.2.1 Post.wish.2.2 h hk
theorem tAA {c : LC} {f : FA} {σ : St} {H : Hp} {G : Hp} {Γ : Env'} {Q : List V → Hp → Prop} {k : List D → Re (List D)} {R : List V → Hp → Prop} (he : EnvOk c G H σ Γ) (h : PostA c ((f Γ).bind k) σ G H Q)
    (hk : ∀ r vs G' H', f Γ = .ok r → Gr G H G' H' → Reps c.K G' vs r → EnvOk c G' H' σ Γ → PostA c (k r) σ G' H' Q → R vs H') : tA c f σ H R :=
  tA_bind (P := fun r G H => PostA c r σ G H Q) he PostA.wish.1 PostA.wish.2.1 PostA.wish.2.2 h hk
section
variable {X : Cx} {c : LC} {a b e : Expr} {f g h : FE} {pos : Pos}

def eV (i : Nat) : FE := fun Γ => match Γ[i]? with
  | some (some (.sh d)) => .ok (.sh d)
  | some (some (.fr d)) => .ok (.bo d)
  | _ => .bad
theorem re_v {i : Nat} {x : Str} (hN : X.N[i]? = some x) (hv : Vis X.env.scope x) (hd : (x == ("__debug__" : Str)) = false := by decide) (hcd : (x == ("__classdict__" : Str)) = false := by decide) :
    PE X (.Name x pos) (tE c (eV i)) := by
  refine PE.weak (pe_var hN hv hd hcd) ?_
  rintro σ H Q ⟨G, Γ, he, q⟩
  unfold eV at q
  split at q
  · rename_i d hi
    obtain ⟨v, h1, h2, _⟩ := he.at' i _ hi
    exact ⟨v, h1, q v G H (.refl he.gh) h2 True.intro⟩
  · rename_i d hi
    obtain ⟨v, h1, h2, _⟩ := he.at' i _ hi
    exact ⟨v, h1, q v G H (.refl he.gh) h2 True.intro⟩
  · exact q.elim
def eC (d : D) : FE := fun _ => .ok (.sh d)
theorem re_c {v : V} {d : D} (hp : PE X e (tC v)) (h : ∀ G, Rep c.K G v d) : PE X e (tE c (eC d)) :=
  PE.weak hp fun σ H Q ⟨G, Γ, he, q⟩ => q v G H (.refl he.gh) (h G) True.intro
theorem re_int {z : Int} {j} : PE X (.Constant (.int z) j pos) (tE c (eC (.i z))) := re_c pe_int fun _ => .i z
theorem re_bl {z : Bool} {j} : PE X (.Constant (.bool z) j pos) (tE c (eC (.b z))) := re_c pe_bl fun _ => .b z
theorem re_n {j} : PE X (.Constant .none j pos) (tE c (eC .n)) := re_c pe_non fun _ => .n
theorem re_s {z : Str} {j} : PE X (.Constant (.str z) j pos) (tE c (eC (.s z))) := re_c pe_str fun _ => .s z
theorem re_gl {x : Str} {v : V} {u : Value} {d : D} (hg : Gl X x) (hm : X.mg x = some u) (r : RelV v u) (h : ∀ G, Rep c.K G v d) (hd : (x == ("__debug__" : Str)) = false := by decide) : PE X (.Name x pos) (tE c (eC d)) :=
  re_c (pe_glob hg hm r hd) h

def e1 (k : Rv → Re Rv) (f : FE) : FE := fun Γ => (f Γ).bind k
def e2 (k : Rv → Rv → Re Rv) (f g : FE) : FE := fun Γ => (f Γ).bind fun x => (g Γ).bind fun y => k x y
def Ok1 (c : LC) (r : V → Hp → VK → Prop) (k : Rv → Re Rv) : Prop := ∀ (σ : St) (G H : Hp) (x : V) (rx : Rv) (Q : VK), Same G H → Same c.B H → RV c G H x rx → Post c (k rx) σ G H Q → r x H Q
def Ok2 (c : LC) (r : R2) (k : Rv → Rv → Re Rv) : Prop := ∀ (σ : St) (G H : Hp) (x y : V) (rx ry : Rv) (Q : VK), Same G H → Same c.B H → RV c G H x rx → RV c G H y ry → Post c (k rx ry) σ G H Q → r x y H Q
theorem tE_2 {k : Rv → Rv → Re Rv} {r : R2} (hk : Ok2 c r k) : ∀ σ H Q, tE c (e2 k f g) σ H Q → tOp r (tE c f) (tE c g) σ H Q := by
  rintro σ H Q ⟨G, Γ, he, q⟩
  refine eE he q fun rx x G1 H1 e1 g1 v1 fr1 he1 q1 => ?_
  refine eE he1 q1 fun ry y G2 H2 e2 g2 v2 fr2 he2 q2 => ?_
  exact hk σ G2 H2 x y rx ry Q he2.gh he2.bh (v1.mono g2) v2 q2
theorem tE_1 {k : Rv → Re Rv} {r : V → Hp → VK → Prop} (hk : Ok1 c r k) : ∀ σ H Q, tE c (e1 k f) σ H Q → tUn r (tE c f) σ H Q := by
  rintro σ H Q ⟨G, Γ, he, q⟩
  exact eE he q fun rx x G1 H1 _ g1 v1 fr1 he1 q1 => hk σ G1 H1 x rx Q he1.gh he1.bh v1 q1
theorem re_op {op : Operator} {k : Rv → Rv → Re Rv} {r : R2} (ho : OpR X (binaryOp op) r) (hk : Ok2 c r k) (ha : PE X a (tE c f)) (hb : PE X b (tE c g)) : PE X (.BinOp a op b pos) (tE c (e2 k f g)) :=
  PE.weak (pe_op ho ha hb) (tE_2 hk)
theorem re_un {op : UnaryOp} {k : Rv → Re Rv} {r : V → Hp → VK → Prop} (ho : UnR X (unaryOp op) r) (hk : Ok1 c r k) (ha : PE X a (tE c f)) : PE X (.UnaryOp op a pos) (tE c (e1 k f)) :=
  PE.weak (pe_un ho ha) (tE_1 hk)
theorem re_cmp {op : CmpOp} {k : Rv → Rv → Re Rv} {r : R2} (ho : OpR X (compareOp op) r) (hk : Ok2 c r k) (ha : PE X a (tE c f)) (hb : PE X b (tE c g)) (hm : behindInMarks op b = false) : PE X (.Compare a [op] [b] pos) (tE c (e2 k f g)) :=
  PE.weak (pe_cmpR ho ha hb hm) (tE_2 hk)

theorem RV.int {G H : Hp} {v : V} {r : Rv} {z : Int} (h : RV c G H v r) (e : r.d = .i z) : v = .int z := by
  cases r with
  | sh d => cases (show d = .i z from e); exact Rep.int_inv h
  | fr d => cases (show d = .i z from e); obtain ⟨_, _, _, _, o⟩ := h; cases o
  | bo d => cases (show d = .i z from e); obtain ⟨_, _, _, _, o⟩ := h; cases o
theorem RV.str {G H : Hp} {v : V} {r : Rv} {z : Str} (h : RV c G H v r) (e : r.d = .s z) : v = .str z := by
  cases r with
  | sh d => cases (show d = .s z from e); exact Rep.str_inv h
  | fr d => cases (show d = .s z from e); obtain ⟨_, _, _, _, o⟩ := h; cases o
  | bo d => cases (show d = .s z from e); obtain ⟨_, _, _, _, o⟩ := h; cases o
theorem RV.bl {G H : Hp} {v : V} {r : Rv} {z : Bool} (h : RV c G H v r) (e : r.d = .b z) : v = .bl z := by
  cases r with
  | sh d => cases (show d = .b z from e); exact Rep.bl_inv h
  | fr d => cases (show d = .b z from e); obtain ⟨_, _, _, _, o⟩ := h; cases o
  | bo d => cases (show d = .b z from e); obtain ⟨_, _, _, _, o⟩ := h; cases o
theorem RV.non {G H : Hp} {v : V} {r : Rv} (h : RV c G H v r) (e : r.d = .n) : v = .non := by
  cases r with
  | sh d => cases (show d = .n from e); exact Rep.n_inv h
  | fr d => cases (show d = .n from e); obtain ⟨_, _, _, _, o⟩ := h; cases o
  | bo d => cases (show d = .n from e); obtain ⟨_, _, _, _, o⟩ := h; cases o
theorem RV.lst {G H : Hp} {v : V} {r : Rv} {ds : List D} (gh : Same G H) (h : RV c G H v r) (e : r.d = .l ds) : ∃ p xs, v = .ref p ∧ H p = some (.lst xs) ∧ Reps c.K G xs ds := by
  cases r with
  | sh d => cases (show d = .l ds from e); obtain ⟨p, xs, e1, e2, e3⟩ := Rep.l_inv h; exact ⟨p, xs, e1, gh _ _ e2, e3⟩
  | fr d => cases (show d = .l ds from e); obtain ⟨p, e1, _, _, o⟩ := h; cases o with | l h1 h2 => exact ⟨p, _, e1, h1, h2⟩
  | bo d => cases (show d = .l ds from e); obtain ⟨p, e1, _, _, o⟩ := h; cases o with | l h1 h2 => exact ⟨p, _, e1, h1, h2⟩
theorem RV.tup {G H : Hp} {v : V} {r : Rv} {ds : List D} (h : RV c G H v r) (e : r.d = .t ds) : ∃ p xs, v = .ref p ∧ G p = some (.tup xs) ∧ Reps c.K G xs ds := by
  cases r with
  | sh d => cases (show d = .t ds from e); exact Rep.t_inv h
  | fr d => cases (show d = .t ds from e); obtain ⟨_, _, _, _, o⟩ := h; cases o
  | bo d => cases (show d = .t ds from e); obtain ⟨_, _, _, _, o⟩ := h; cases o
theorem Rep.z_inv {K : PySem.W.Frag} {G : Hp} {v : V} {ds : List D} (h : Rep K G v (.z ds)) : ∃ a xs, v = .ref a ∧ SqL K G a xs ∧ Reps K G xs ds := by
  cases h with | z h r => exact ⟨_, _, rfl, h, r⟩
theorem RV.zl {G H : Hp} {v : V} {r : Rv} {ds : List D} (h : RV c G H v r) (e : r.d = .z ds) : ∃ p xs, v = .ref p ∧ SqL c.K G p xs ∧ Reps c.K G xs ds := by
  cases r with
  | sh d => cases (show d = .z ds from e); exact Rep.z_inv h
  | fr d => cases (show d = .z ds from e); obtain ⟨_, _, _, _, o⟩ := h; cases o
  | bo d => cases (show d = .z ds from e); obtain ⟨_, _, _, _, o⟩ := h; cases o
theorem RV.ztup {G H : Hp} {v : V} {r : Rv} {ds : List D} (h : RV c G H v r) (e : r.d = .zt ds) : ∃ p xs, v = .ref p ∧ SqT c.K G p xs ∧ Reps c.K G xs ds := by
  cases r with
  | sh d => cases (show d = .zt ds from e); exact Rep.zt_inv h
  | fr d => cases (show d = .zt ds from e); obtain ⟨_, _, _, _, o⟩ := h; cases o
  | bo d => cases (show d = .zt ds from e); obtain ⟨_, _, _, _, o⟩ := h; cases o
def D.seq? : D → Option (List D)
  | .l ds => some ds | .z ds => some ds | _ => none
theorem RV.sql {G H : Hp} {v : V} {r : Rv} {ds : List D} (gh : Same G H) (h : RV c G H v r) (e : r.d.seq? = some ds) : ∃ p xs, v = .ref p ∧ SqL c.K H p xs ∧ Reps c.K G xs ds := by
  cases q : r.d with
  | l es =>
    rw [q] at e; cases e
    obtain ⟨p, xs, e1, e2, e3⟩ := h.lst gh q
    exact ⟨p, xs, e1, .of e2, e3⟩
  | z es =>
    rw [q] at e; cases e
    obtain ⟨p, xs, e1, e2, e3⟩ := h.zl q
    exact ⟨p, xs, e1, gh.seq e2, e3⟩
  | _ => rw [q] at e; cases e
theorem post_sh {σ : St} {G H : Hp} {Q : VK} {v : V} {d : D} (gh : Same G H) (q : Post c (.ok (.sh d)) σ G H Q) (h : Rep c.K G v d) : Q v H := q v G H (.refl gh) h True.intro
theorem post_lst {σ : St} {G H : Hp} {Q : VK} {ds : List D} {xs : List V} (bh : Same c.B H) (gh : Same G H) (q : Post c (.ok (.fr (.l ds))) σ G H Q) (h : Reps c.K G xs ds) : ∀ p, H p = none → Q (.ref p) (upd H p (.lst xs)) := fun p hp =>
  q _ G _ (.own gh hp) ⟨p, rfl, bh.free hp, gh.free hp, .l upd_same h⟩ ⟨p, rfl, hp⟩
theorem post_tup {σ : St} {G H : Hp} {Q : VK} {ds : List D} {xs : List V} (gh : Same G H) (q : Post c (.ok (.sh (.t ds))) σ G H Q) (h : Reps c.K G xs ds) : ∀ p, H p = none → Q (.ref p) (upd H p (.tup xs)) := fun p hp => by
  have g := Gr.new (o := .tup xs) gh hp
  exact q _ _ _ g (Rep.t upd_same (h.mono g.gg)) True.intro
theorem post_dk0 {σ : St} {G H : Hp} {Q : VK} (bh : Same c.B H) (gh : Same G H) (q : Post c (.ok (.fr (.dk [] []))) σ G H Q) : ∀ p, H p = none → Q (.ref p) (upd H p (.dK [])) := fun p hp =>
  q _ G _ (.own gh hp) ⟨p, rfl, bh.free hp, gh.free hp, .dk upd_same rfl .nil⟩ ⟨p, rfl, hp⟩
theorem post_dt0 {σ : St} {G H : Hp} {Q : VK} (bh : Same c.B H) (gh : Same G H) (q : Post c (.ok (.fr (.dt [] []))) σ G H Q) : ∀ p, H p = none → Q (.ref p) (upd H p (.dT [])) := fun p hp =>
  q _ G _ (.own gh hp) ⟨p, rfl, bh.free hp, gh.free hp, .dt upd_same rfl .nil⟩ ⟨p, rfl, hp⟩

def kI (f : Int → Int → Re Rv) : Rv → Rv → Re Rv := fun x y => match x.d, y.d with
  | .i p, .i q => f p q
  | _, _ => .bad
def oki (z : Int) : Re Rv := .ok (.sh (.i z))
def okb (z : Bool) : Re Rv := .ok (.sh (.b z))
theorem ok2_I {C : Int → Int → Prop} {h : Int → Int → Int} {f : Int → Int → Re Rv} (hf : ∀ i j, f i j = oki (h i j) ∧ C i j ∨ f i j = .bad) : Ok2 c (rI C fun i j => .int (h i j)) (kI f) := by
  intro σ G H x y rx ry Q gh bh hx hy q
  unfold kI at q
  split at q
  · rename_i i j e1 e2
    rcases hf i j with ⟨e, hc⟩ | e
    · rw [e] at q
      exact ⟨i, j, hx.int e1, hy.int e2, hc, post_sh gh q (.i _)⟩
    · rw [e] at q; exact q.elim
  · exact q.elim
theorem ok2_I0 {h : Int → Int → Int} : Ok2 c (rI0 fun i j => .int (h i j)) (kI fun i j => oki (h i j)) := by
  intro σ G H x y rx ry Q gh bh hx hy q
  unfold kI at q
  split at q
  · rename_i i j e1 e2
    exact ⟨i, j, hx.int e1, hy.int e2, post_sh gh q (.i _)⟩
  · exact q.elim
theorem ok2_B0 {h : Int → Int → Bool} : Ok2 c (rI0 fun i j => .bl (h i j)) (kI fun i j => okb (h i j)) := by
  intro σ G H x y rx ry Q gh bh hx hy q
  unfold kI at q
  split at q
  · rename_i i j e1 e2
    exact ⟨i, j, hx.int e1, hy.int e2, post_sh gh q (.b _)⟩
  · exact q.elim
theorem Ok2.or {r r' : R2} {k k' : Rv → Rv → Re Rv} (h : Ok2 c r k) (h' : Ok2 c r' k') : Ok2 c (fun x y H Q => r x y H Q ∨ r' x y H Q) (fun x y => match k x y with | .bad => k' x y | o => o) := by
  intro σ G H x y rx ry Q gh bh hx hy q
  dsimp only at q
  cases e : k rx ry with
  | bad => rw [e] at q; exact .inr (h' σ G H x y rx ry Q gh bh hx hy q)
  | ok o => rw [e] at q; exact .inl (h σ G H x y rx ry Q gh bh hx hy (by rw [e]; exact q))
  | ex o => rw [e] at q; exact .inl (h σ G H x y rx ry Q gh bh hx hy (by rw [e]; exact q))
def kAdd : Rv → Rv → Re Rv := fun x y => match x.d, y.d with
  | .i p, .i q => oki (p + q)
  | .s p, .s q => if p.length + q.length ≤ sizeLine then .ok (.sh (.s (p ++ q))) else .bad
  | .l p, .l q => if p.length + q.length ≤ sizeLine then .ok (.fr (.l (p ++ q))) else .bad
  | .t p, .t q => if p.length + q.length ≤ sizeLine then .ok (.sh (.t (p ++ q))) else .bad
  | _, _ => .bad
def rAddS : R2 := fun x y H Q => ∃ i j, x = .str i ∧ y = .str j ∧ i.length + j.length ≤ sizeLine ∧ Q (.str (i ++ j)) H
def rAddAll (K : PySem.W.Frag) : R2 := fun x y H Q => (rI0 (fun i j => .int (i + j)) x y H Q ∨ rAddS x y H Q) ∨ (rCat x y H Q ∨ rCatA K x y H Q)
theorem op_addAll : OpR X (binaryOp .Add) (rAddAll X.K) := OpR.or (OpR.or op_add op_add_str) (OpR.or op_cat op_catA)
theorem ok2_add : Ok2 c (rAddAll c.K) kAdd := by
  intro σ G H x y rx ry Q gh bh hx hy q
  unfold kAdd at q
  split at q
  · rename_i i j e1 e2
    exact .inl (.inl ⟨i, j, hx.int e1, hy.int e2, post_sh gh q (.i _)⟩)
  · rename_i i j e1 e2
    split at q
    · exact .inl (.inr ⟨i, j, hx.str e1, hy.str e2, by assumption, post_sh gh q (.s _)⟩)
    · exact q.elim
  · rename_i i j e1 e2
    split at q
    · obtain ⟨p, xs, h1, h2, h3⟩ := hx.lst gh e1
      obtain ⟨p', ys, h1', h2', h3'⟩ := hy.lst gh e2
      exact .inr (.inl ⟨p, p', xs, ys, h1, h1', h2, h2', by rw [h3.length, h3'.length]; assumption, post_lst bh gh q (h3.append h3')⟩)
    · exact q.elim
  · rename_i i j e1 e2
    split at q
    · obtain ⟨p, xs, h1, h2, h3⟩ := hx.tup e1
      obtain ⟨p', ys, h1', h2', h3'⟩ := hy.tup e2
      refine .inr (.inr ⟨p, p', xs, ys, h1, h1', SqT.of (gh _ _ h2), SqT.of (gh _ _ h2'), by rw [h3.length, h3'.length]; assumption, fun e => ?_, fun _ e => ?_, fun _ _ => post_tup gh q (h3.append h3')⟩)
      · subst e
        cases h3
        exact post_sh gh q (.t h2' (by simpa using h3'))
      · subst e
        cases h3'
        exact post_sh gh q (.t h2 (by simpa using h3))
    · exact q.elim
  · exact q.elim
theorem re_add (cy : Cy X c) (ha : PE X a (tE c f)) (hb : PE X b (tE c g)) : PE X (.BinOp a .Add b pos) (tE c (e2 kAdd f g)) := by
  refine re_op (r := rAddAll c.K) ?_ ok2_add ha hb
  rw [← cy.K]; exact op_addAll
def kSub : Rv → Rv → Re Rv := kI fun i j => oki (i - j)
theorem re_sub (ha : PE X a (tE c f)) (hb : PE X b (tE c g)) : PE X (.BinOp a .Sub b pos) (tE c (e2 kSub f g)) := re_op op_sub ok2_I0 ha hb
def kMul : Rv → Rv → Re Rv := fun x y => match x.d, y.d with
  | .i p, .i q => if (-(2 ^ 64) < p ∧ p < 2 ^ 64) ∨ (-(2 ^ 64) < q ∧ q < 2 ^ 64) then oki (p * q) else .bad
  | .l p, .i q => if -(2 ^ 63) ≤ q ∧ q < 2 ^ 63 ∧ p.length * q.toNat ≤ sizeLine then .ok (.fr (.l (List.replicate q.toNat p).flatten)) else .bad
  | _, _ => .bad
theorem Reps.rep {K : PySem.W.Frag} {G : Hp} {xs : List V} {ds : List D} (h : Reps K G xs ds) : ∀ n : Nat, Reps K G (List.replicate n xs).flatten (List.replicate n ds).flatten
  | 0 => .nil
  | n + 1 => by
    rw [List.replicate_succ, List.replicate_succ, List.flatten_cons, List.flatten_cons]
    exact h.append (Reps.rep h n)
theorem ok2_mul : Ok2 c (fun x y H Q => rI CMul (fun i j => .int (i * j)) x y H Q ∨ rRep x y H Q) kMul := by
  intro σ G H x y rx ry Q gh bh hx hy q
  unfold kMul at q
  split at q
  · rename_i i j e1 e2
    split at q
    · exact .inl ⟨i, j, hx.int e1, hy.int e2, by assumption, post_sh gh q (.i _)⟩
    · exact q.elim
  · rename_i i j e1 e2
    split at q
    · rename_i hc
      obtain ⟨p, xs, h1, h2, h3⟩ := hx.lst gh e1
      exact .inr ⟨p, j, xs, h1, hy.int e2, h2, hc.1, hc.2.1, by rw [h3.length]; exact hc.2.2, post_lst bh gh q (h3.rep _)⟩
    · exact q.elim
  · exact q.elim
theorem re_mul (ha : PE X a (tE c f)) (hb : PE X b (tE c g)) : PE X (.BinOp a .Mult b pos) (tE c (e2 kMul f g)) := re_op (OpR.or op_mul op_rep) ok2_mul ha hb
def kMod : Rv → Rv → Re Rv := kI fun i j => if 0 < j then oki (i % j) else .bad
theorem re_mod (ha : PE X a (tE c f)) (hb : PE X b (tE c g)) : PE X (.BinOp a .Mod b pos) (tE c (e2 kMod f g)) :=
  re_op op_mod (ok2_I (h := fun i j => i % j) fun i j => by by_cases hj : 0 < j <;> simp [hj]) ha hb
def kDiv : Rv → Rv → Re Rv := kI fun i j => if 0 < j ∧ j < 1073741824 then oki (i / j) else .bad
theorem re_div (ha : PE X a (tE c f)) (hb : PE X b (tE c g)) : PE X (.BinOp a .FloorDiv b pos) (tE c (e2 kDiv f g)) :=
  re_op op_fdiv (ok2_I (h := fun i j => i / j) fun i j => by
    by_cases hj : 0 < j ∧ j < 1073741824
    · left; rw [if_pos hj]; exact ⟨rfl, hj⟩
    · right; rw [if_neg hj]) ha hb
def kPow : Rv → Rv → Re Rv := kI fun i j => if 0 ≤ j ∧ j ≤ 1000000 ∧ i.natAbs < 2 ^ 64 then oki (i ^ j.toNat) else .bad
theorem re_pow (ha : PE X a (tE c f)) (hb : PE X b (tE c g)) : PE X (.BinOp a .Pow b pos) (tE c (e2 kPow f g)) :=
  re_op op_pow (ok2_I (h := fun i j => i ^ j.toNat) fun i j => by
    by_cases hj : 0 ≤ j ∧ j ≤ 1000000 ∧ i.natAbs < 2 ^ 64
    · left; rw [if_pos hj]; exact ⟨rfl, hj⟩
    · right; rw [if_neg hj]) ha hb
def kNeg : Rv → Re Rv := fun x => match x.d with | .i p => oki (-p) | _ => .bad
theorem re_neg (ha : PE X a (tE c f)) : PE X (.UnaryOp .USub a pos) (tE c (e1 kNeg f)) := by
  refine re_un un_neg ?_ ha
  intro σ G H x rx Q gh bh hx q
  unfold kNeg at q
  split at q
  · rename_i p e
    exact ⟨p, hx.int e, post_sh gh q (.i _)⟩
  · exact q.elim

def kLt : Rv → Rv → Re Rv := kI fun i j => okb (decide (i < j))
def kLe : Rv → Rv → Re Rv := kI fun i j => okb (decide (i ≤ j))
def kGt : Rv → Rv → Re Rv := kI fun i j => okb (decide (j < i))
def kGe : Rv → Rv → Re Rv := kI fun i j => okb (decide (j ≤ i))
structure CmpD (X : Cx) (c : LC) (op : CmpOp) (k : Rv → Rv → Re Rv) : Prop where
  ex : ∃ r : R2, OpR X (compareOp op) r ∧ Ok2 c r k
theorem cd_lt : CmpD X c .Lt kLt := ⟨_, op_lt, ok2_B0⟩
theorem cd_le : CmpD X c .LtE kLe := ⟨_, op_le, ok2_B0⟩
theorem cd_gt : CmpD X c .Gt kGt := ⟨_, op_gt, ok2_B0⟩
theorem cd_ge : CmpD X c .GtE kGe := ⟨_, op_ge, ok2_B0⟩
theorem re_cd {op : CmpOp} {k : Rv → Rv → Re Rv} (h : CmpD X c op k) (ha : PE X a (tE c f)) (hb : PE X b (tE c g)) (hm : behindInMarks op b = false) : PE X (.Compare a [op] [b] pos) (tE c (e2 k f g)) := by
  obtain ⟨r, h1, h2⟩ := h.ex
  exact re_cmp h1 h2 ha hb hm
def eCh (k k' : Rv → Rv → Re Rv) (f g h : FE) : FE := fun Γ => (f Γ).bind fun x => (g Γ).bind fun y => (k x y).bind fun z => match z with
  | .sh (.b true) => (h Γ).bind fun w => k' y w
  | .sh (.b false) => .ok (.sh (.b false))
  | _ => .bad
theorem re_chain {op op' : CmpOp} {k k' : Rv → Rv → Re Rv} {d : Expr} (h1 : CmpD X c op k) (h2 : CmpD X c op' k') (ha : PE X a (tE c f)) (hb : PE X b (tE c g)) (hd : PE X d (tE c h))
    (hm : lastMarks [op, op'] [b, d] = false := by with_unfolding_all rfl) : PE X (.Compare a [op, op'] [b, d] pos) (tE c (eCh k k' f g h)) := by
  obtain ⟨r, o1, k1⟩ := h1.ex
  obtain ⟨r', o2, k2⟩ := h2.ex
  refine PE.weak (pe_chain o1 o2 ha hb hd hm) ?_
  rintro σ H Q ⟨G, Γ, he, q⟩
  refine eE he q fun rx x G1 H1 e1 g1 v1 fr1 he1 q1 => ?_
  refine eE he1 q1 fun ry y G2 H2 e2 g2 v2 fr2 he2 q2 => ?_
  have v1' := v1.mono g2
  refine k1 σ G2 H2 x y rx ry _ he2.gh he2.bh v1' v2 ?_
  cases e : k rx ry with
  | bad => rw [e] at q2; exact q2
  | ex o => rw [e] at q2; exact q2
  | ok z =>
    rw [e] at q2
    simp only [Re.bind_ok] at q2
    intro v G3 H3 g3 v3 fr3
    have he3 := he2.mono g3
    split at q2
    · cases (Rep.bl_inv v3)
      refine ⟨true, rfl, ?_⟩
      rw [if_pos rfl]
      have q3 : Post c ((h Γ).bind fun w => k' ry w) σ G3 H3 Q := Post.later g3 q2
      refine eE he3 q3 fun rw' w G4 H4 e4 g4 v4 fr4 he4 q4 => ?_
      exact k2 σ G4 H4 y w ry rw' Q he4.gh he4.bh ((v2.mono g3).mono g4) v4 q4
    · cases (Rep.bl_inv v3)
      refine ⟨false, rfl, ?_⟩
      rw [if_neg Bool.false_ne_true]
      exact q2 _ G3 H3 g3 (.b false) True.intro
    · exact q2.elim
end
end Ly
end

section
set_option maxRecDepth 100000
namespace Ly
open PySem PySem.Spec L2
open PyProof.Rows hiding St

mutual
def D.py : D → PyData
  | .n => .none | .b x => .bool x | .i x => .int x | .s x => .str x
  | .l xs => .list (D.pys xs) | .t xs => .tuple (D.pys xs) | .z xs => .list (D.pys xs) | .zt xs => .tuple (D.pys xs)
  | .dk _ _ => .dict [] | .dt _ _ => .dict []
def D.pys : List D → List PyData
  | [] => []
  | x :: xs => D.py x :: D.pys xs
end
def deq (x y : D) : Bool := PyData.eqv x.py y.py
def dok : Nat → D → Bool
  | _, .n => true | _, .b _ => true | _, .i _ => true | _, .s x => PyData.strOk x
  | n + 1, .l xs => xs.all (dok n) | n + 1, .t xs => xs.all (dok n) | n + 1, .zt xs => xs.all (dok n)
  | _, _ => false
theorem pys_map : ∀ xs : List D, D.pys xs = xs.map D.py
  | [] => rfl
  | x :: xs => by rw [D.pys, pys_map xs]; rfl
theorem dok_py : ∀ (n : Nat) (d : D), dok n d = true → d.py.canLay0 = true ∧ d.py.depth ≤ n := by
  intro n
  induction n with
  | zero =>
    intro d h
    cases d with
    | n => exact ⟨by rw [D.py, PyData.canLay0], by rw [D.py, PyData.depth] <;> exact Nat.zero_le _⟩
    | b x => exact ⟨by rw [D.py, PyData.canLay0], by rw [D.py, PyData.depth] <;> exact Nat.zero_le _⟩
    | i z => exact ⟨by rw [D.py, PyData.canLay0], by rw [D.py, PyData.depth] <;> exact Nat.zero_le _⟩
    | s x => exact ⟨by rw [D.py, PyData.canLay0]; exact h, by rw [D.py, PyData.depth] <;> exact Nat.zero_le _⟩
    | _ => cases h
  | succ n ih =>
    have all : ∀ xs : List D, xs.all (dok n) = true → PyData.canLayAll0 (D.pys xs) = true ∧ PyData.depthAll (D.pys xs) ≤ n := by
      intro xs
      induction xs with
      | nil => intro _; exact ⟨by rw [D.pys, PyData.canLayAll0], by rw [D.pys, PyData.depthAll]; exact Nat.zero_le _⟩
      | cons x xs ihx =>
        intro h
        rw [List.all_cons, Bool.and_eq_true] at h
        obtain ⟨h1, h2⟩ := ih x h.1
        obtain ⟨h3, h4⟩ := ihx h.2
        refine ⟨by rw [D.pys, PyData.canLayAll0, h1, h3]; rfl, ?_⟩
        rw [D.pys, PyData.depthAll]
        exact Nat.max_le.mpr ⟨h2, h4⟩
    intro d h
    cases d with
    | n => exact ⟨by rw [D.py, PyData.canLay0], by rw [D.py, PyData.depth] <;> exact Nat.zero_le _⟩
    | b x => exact ⟨by rw [D.py, PyData.canLay0], by rw [D.py, PyData.depth] <;> exact Nat.zero_le _⟩
    | i z => exact ⟨by rw [D.py, PyData.canLay0], by rw [D.py, PyData.depth] <;> exact Nat.zero_le _⟩
    | s x => exact ⟨by rw [D.py, PyData.canLay0]; exact h, by rw [D.py, PyData.depth] <;> exact Nat.zero_le _⟩
    | l xs =>
      obtain ⟨h1, h2⟩ := all xs h
      exact ⟨by rw [D.py, PyData.canLay0]; exact h1, by rw [D.py, PyData.depth]; omega⟩
    | t xs =>
      obtain ⟨h1, h2⟩ := all xs h
      exact ⟨by rw [D.py, PyData.canLay0]; exact h1, by rw [D.py, PyData.depth]; omega⟩
    | zt xs =>
      obtain ⟨h1, h2⟩ := all xs h
      exact ⟨by rw [D.py, PyData.canLay0]; exact h1, by rw [D.py, PyData.depth]; omega⟩
    | _ => cases h
theorem dok_shaped {n : Nat} {d : D} (h : dok n d = true) (hn : n ≤ 64) : SeqAt.shaped d.py = true := by
  obtain ⟨h1, h2⟩ := dok_py n d h
  unfold SeqAt.shaped
  rw [h1, Bool.true_and]
  exact decide_eq_true (Nat.le_trans h2 hn)
section
variable {K : PySem.W.Frag} {G : Hp}
theorem dp_of : ∀ (n : Nat) (d : D) (v : V), Rep K G v d → dok n d = true → Dp K G v d.py := by
  intro n
  induction n with
  | zero =>
    intro d v r h
    cases r with
    | n => rw [D.py]; exact .non
    | b x => rw [D.py]; exact .bl _
    | i z => rw [D.py]; exact .int _
    | s x => rw [D.py]; exact .str _
    | _ => cases h
  | succ n ih =>
    have all : ∀ (ds : List D) (vs : List V), Reps K G vs ds → ds.all (dok n) = true → DpAll K G vs (D.pys ds) := by
      intro ds
      induction ds with
      | nil => intro vs r _; cases r; rw [D.pys]; exact .nil
      | cons x xs ihx =>
        intro vs r h
        cases r with
        | cons r1 r2 =>
          rw [List.all_cons, Bool.and_eq_true] at h
          rw [D.pys]
          exact .cons (ih _ _ r1 h.1) (ihx _ r2 h.2)
    intro d v r h
    cases r with
    | n => rw [D.py]; exact .non
    | b x => rw [D.py]; exact .bl _
    | i z => rw [D.py]; exact .int _
    | s x => rw [D.py]; exact .str _
    | l h1 h2 => rw [D.py]; exact .lst (.of h1) (all _ _ h2 h)
    | t h1 h2 => rw [D.py]; exact .tup (SqT.of h1) (all _ _ h2 h)
    | zt h1 h2 => rw [D.py]; exact .tup h1 (all _ _ h2 h)
    | _ => cases h
theorem dpAll_of {n : Nat} : ∀ (ds : List D) (vs : List V), Reps K G vs ds → ds.all (dok n) = true → DpAll K G vs (D.pys ds)
  | [], _, .nil, _ => by rw [D.pys]; exact .nil
  | x :: xs, _, .cons r1 r2, h => by
    rw [List.all_cons, Bool.and_eq_true] at h
    rw [D.pys]
    exact .cons (dp_of n _ _ r1 h.1) (dpAll_of xs _ r2 h.2)
mutual
theorem Dp.up {G' : Hp} (e : Same G G') : ∀ {v : V} {d : PyData}, Dp K G v d → Dp K G' v d
  | _, _, .non => .non
  | _, _, .bl _ => .bl _
  | _, _, .int _ => .int _
  | _, _, .str _ => .str _
  | _, _, .lst h r => .lst (e.seq h) (DpAll.up e r)
  | _, _, .tup h r => .tup (Same.tup e h) (DpAll.up e r)
theorem DpAll.up {G' : Hp} (e : Same G G') : ∀ {v : List V} {d : List PyData}, DpAll K G v d → DpAll K G' v d
  | _, _, .nil => .nil
  | _, _, .cons h r => .cons (Dp.up e h) (DpAll.up e r)
end
end
section
variable {c : LC}
theorem RV.dp {G H : Hp} {v : V} {r : Rv} (gh : Same G H) (h : RV c G H v r) (n : Nat) (hd : dok (n + 1) r.d = true) : Dp c.K H v r.d.py := by
  cases r with
  | sh d => exact Dp.up gh (dp_of _ _ _ h hd)
  | fr d =>
    obtain ⟨p, rfl, _, _, o⟩ := h
    cases o with
    | l h1 h2 => show Dp c.K H _ (D.py (.l _)); rw [D.py]; exact .lst (.of h1) (DpAll.up gh (dpAll_of (n := n) _ _ h2 hd))
    | dk h1 _ h2 => cases hd
    | dt h1 _ h2 => cases hd
  | bo d =>
    obtain ⟨p, rfl, _, _, o⟩ := h
    cases o with
    | l h1 h2 => show Dp c.K H _ (D.py (.l _)); rw [D.py]; exact .lst (.of h1) (DpAll.up gh (dpAll_of (n := n) _ _ h2 hd))
    | dk h1 _ h2 => cases hd
    | dt h1 _ h2 => cases hd
def kEq : Rv → Rv → Re Rv := fun x y => if dok 12 x.d = true ∧ dok 12 y.d = true then okb (deq x.d y.d) else .bad
def kNe : Rv → Rv → Re Rv := fun x y => if dok 12 x.d = true ∧ dok 12 y.d = true then okb (!deq x.d y.d) else .bad
theorem ok2_eq : Ok2 c (rEqD c.K) kEq := by
  intro σ G H x y rx ry Q gh bh hx hy q
  unfold kEq at q
  split at q
  · rename_i hd
    exact ⟨_, _, hx.dp gh 11 hd.1, hy.dp gh 11 hd.2, dok_shaped hd.1 (by decide), dok_shaped hd.2 (by decide), post_sh gh q (.b _)⟩
  · exact q.elim
theorem ok2_ne : Ok2 c (rNeD c.K) kNe := by
  intro σ G H x y rx ry Q gh bh hx hy q
  unfold kNe at q
  split at q
  · rename_i hd
    exact ⟨_, _, hx.dp gh 11 hd.1, hy.dp gh 11 hd.2, dok_shaped hd.1 (by decide), dok_shaped hd.2 (by decide), post_sh gh q (.b _)⟩
  · exact q.elim
variable {X : Cx}
theorem cd_eq (cy : Cy X c) : CmpD X c .Eq kEq := ⟨_, cy.K ▸ op_eqD cy.un, ok2_eq⟩
theorem cd_ne (cy : Cy X c) : CmpD X c .NotEq kNe := ⟨_, cy.K ▸ op_neD cy.un, ok2_ne⟩
def isN : Rv → Bool
  | .sh .n => true | _ => false
def kIs (neg : Bool) : Rv → Rv → Re Rv := fun x y => match y with
  | .sh .n => okb (if neg then !isN x else isN x)
  | _ => .bad
theorem RV.isN {G H : Hp} {v : V} {r : Rv} (h : RV c G H v r) : decide (v = .non) = isN r := by
  cases r with
  | sh d =>
    have h : Rep c.K G v d := h
    cases h <;> rfl
  | fr d => obtain ⟨p, rfl, _⟩ := h; rfl
  | bo d => obtain ⟨p, rfl, _⟩ := h; rfl
end

section
variable {X : Cx} {c : LC} {a b e : Expr} {f g : FE} {ft gt : FT} {pos : Pos}
theorem re_isN {j pos'} (ha : PE X a (tE c f)) : PE X (.Compare a [.Is] [.Constant .none j pos'] pos) (tE c (e2 (kIs false) f (eC .n))) := by
  refine PE.weak (pe_cmp (pc_isN ha)) ?_
  rintro σ H Q ⟨G, Γ, he, q⟩
  refine eE he q fun rx x G1 H1 e1 g1 v1 fr1 he1 q1 => ?_
  have q1 : Post c (okb (isN rx)) σ G1 H1 Q := q1
  rw [v1.isN]
  exact post_sh he1.gh q1 (.b _)
theorem re_notN {j pos'} (ha : PE X a (tE c f)) : PE X (.Compare a [.IsNot] [.Constant .none j pos'] pos) (tE c (e2 (kIs true) f (eC .n))) := by
  refine PE.weak (pe_cmp (pc_notN ha)) ?_
  rintro σ H Q ⟨G, Γ, he, q⟩
  refine eE he q fun rx x G1 H1 e1 g1 v1 fr1 he1 q1 => ?_
  have q1 : Post c (okb (!isN rx)) σ G1 H1 Q := q1
  show Q (.bl (!decide (x = .non))) H1
  rw [v1.isN]
  exact post_sh he1.gh q1 (.b _)
def kB : Rv → Re Bool
  | .sh (.b x) => .ok x
  | _ => .bad
def tV (f : FE) : FT := fun Γ => (f Γ).bind kB
theorem kB_ok {G H : Hp} {v : V} {r : Rv} {σ : St} {Q : Bool → Hp → Prop} (gh : Same G H) (h : RV c G H v r) (q : PostT c (kB r) σ G H Q) : ∃ k, v = .bl k ∧ Q k H := by
  unfold kB at q
  split at q
  · cases (Rep.bl_inv h)
    exact ⟨_, rfl, q G H (.refl gh)⟩
  · exact q.elim
theorem rt_cmp {op : CmpOp} {k : Rv → Rv → Re Rv} (h : CmpD X c op k) (ha : PE X a (tE c f)) (hb : PE X b (tE c g)) (hm : behindInMarks op b = false) : PT X (.Compare a [op] [b] pos) (tT c (tV (e2 k f g))) := by
  obtain ⟨r, h1, h2⟩ := h.ex
  refine PT.weak (pt_cmpR h1 ha hb hm) ?_
  rintro σ H Q ⟨G, Γ, he, q⟩
  exact tE_2 h2 σ H _ ⟨G, Γ, he, by
    have q : PostT c ((e2 k f g Γ).bind kB) σ G H Q := q
    cases e : e2 k f g Γ with
    | bad => rw [e] at q; exact q
    | ex x => rw [e] at q; exact q
    | ok r =>
      rw [e] at q
      exact fun v G' H' g' rv _ => kB_ok g'.gh rv (PostT.later g' q)⟩
theorem tV_test {t : TE} (hp : PT X a (tTest t)) (ht : ∀ σ H Q, tE c f σ H Q → t σ H Q) : PT X a (tT c (tV f)) := by
  refine PT.weak hp ?_
  rintro σ H Q ⟨G, Γ, he, q⟩
  exact ht σ H _ ⟨G, Γ, he, by
    have q : PostT c ((f Γ).bind kB) σ G H Q := q
    cases e : f Γ with
    | bad => rw [e] at q; exact q
    | ex x => rw [e] at q; exact q
    | ok r =>
      rw [e] at q
      exact fun v G' H' g' rv _ => kB_ok g'.gh rv (PostT.later g' q)⟩
theorem chain_weak {k k' : Rv → Rv → Re Rv} {r r' : R2} {h : FE} (k1 : Ok2 c r k) (k2 : Ok2 c r' k') : ∀ σ H Q, tE c (eCh k k' f g h) σ H Q → tChain r r' (tE c f) (tE c g) (tE c h) σ H Q := by
  rintro σ H Q ⟨G, Γ, he, q⟩
  refine eE he q fun rx x G1 H1 e1 g1 v1 fr1 he1 q1 => ?_
  refine eE he1 q1 fun ry y G2 H2 e2 g2 v2 fr2 he2 q2 => ?_
  have v1' := v1.mono g2
  refine k1 σ G2 H2 x y rx ry _ he2.gh he2.bh v1' v2 ?_
  cases e : k rx ry with
  | bad => rw [e] at q2; exact q2
  | ex o => rw [e] at q2; exact q2
  | ok z =>
    rw [e] at q2
    simp only [Re.bind_ok] at q2
    intro v G3 H3 g3 v3 fr3
    have he3 := he2.mono g3
    split at q2
    · cases (Rep.bl_inv v3)
      refine ⟨true, rfl, ?_⟩
      rw [if_pos rfl]
      have q3 : Post c ((h Γ).bind fun w => k' ry w) σ G3 H3 Q := Post.later g3 q2
      refine eE he3 q3 fun rw' w G4 H4 e4 g4 v4 fr4 he4 q4 => ?_
      exact k2 σ G4 H4 y w ry rw' Q he4.gh he4.bh ((v2.mono g3).mono g4) v4 q4
    · cases (Rep.bl_inv v3)
      refine ⟨false, rfl, ?_⟩
      rw [if_neg Bool.false_ne_true]
      exact q2 _ G3 H3 g3 (.b false) True.intro
    · exact q2.elim
theorem rt_chain {op op' : CmpOp} {k k' : Rv → Rv → Re Rv} {d : Expr} {h : FE} (h1 : CmpD X c op k) (h2 : CmpD X c op' k') (ha : PE X a (tE c f)) (hb : PE X b (tE c g)) (hd : PE X d (tE c h))
    (hm : lastMarks [op, op'] [b, d] = false := by with_unfolding_all rfl) : PT X (.Compare a [op, op'] [b, d] pos) (tT c (tV (eCh k k' f g h))) := by
  obtain ⟨r, o1, k1⟩ := h1.ex
  obtain ⟨r', o2, k2⟩ := h2.ex
  exact tV_test (pt_chain o1 o2 ha hb hd hm) (chain_weak k1 k2)
theorem rt_val (ha : PE X a (tE c f)) (he : ∀ whole, isTrue a X.env whole = (do let v ← whole; standAt a.pos; holding [v] (truthy v)) := by intro _; rfl) : PT X a (tT c (tV f)) :=
  tV_test (t := tE c f) (PT.weak (pt_val ha he) fun σ H Q q => q) fun σ H Q q => q
def tNotF (f : FT) : FT := fun Γ => (f Γ).bind fun x => .ok (!x)
theorem rt_not (ha : PT X a (tT c ft)) : PT X (.UnaryOp .Not a pos) (tT c (tNotF ft)) := by
  refine PT.weak (pt_not ha) ?_
  rintro σ H Q ⟨G, Γ, he, q⟩
  refine tTT he q fun b G1 H1 e1 g1 he1 q1 => ?_
  exact q1 G1 H1 (.refl he1.gh)
def tAndF (f g : FT) : FT := fun Γ => (f Γ).bind fun x => if x = true then g Γ else .ok false
def tOrF (f g : FT) : FT := fun Γ => (f Γ).bind fun x => if x = true then .ok true else g Γ
theorem rw_and1 (ha : PT X a (tT c ft)) : PW X (.BoolOp .And [a] pos) (tT c ft) := pw_and1 ha
theorem rw_or1 (ha : PT X a (tT c ft)) : PW X (.BoolOp .Or [a] pos) (tT c ft) := pw_or1 ha
theorem PW.weak {e : Expr} {t t' : TT} (h : PW X e t) (w : ∀ σ H Q, t' σ H Q → t σ H Q) : PW X e t' := ⟨fun wh pins s σ H Q I q => h.run wh pins s σ H Q I (w _ _ _ q)⟩
theorem rw_and {rest : List Expr} (ha : PT X a (tT c ft)) (hb : PW X (.BoolOp .And (b :: rest) pos) (tT c gt)) : PW X (.BoolOp .And (a :: b :: rest) pos) (tT c (tAndF ft gt)) := by
  refine PW.weak (pw_and ha hb) ?_
  rintro σ H Q ⟨G, Γ, he, q⟩
  refine tTT he q fun k G1 H1 e1 g1 he1 q1 => ?_
  cases k with
  | true => rw [if_pos rfl]; exact ⟨G1, Γ, he1, q1⟩
  | false => rw [if_neg Bool.false_ne_true]; exact q1 G1 H1 (.refl he1.gh)
theorem rw_or {rest : List Expr} (ha : PT X a (tT c ft)) (hb : PW X (.BoolOp .Or (b :: rest) pos) (tT c gt)) : PW X (.BoolOp .Or (a :: b :: rest) pos) (tT c (tOrF ft gt)) := by
  refine PW.weak (pw_or ha hb) ?_
  rintro σ H Q ⟨G, Γ, he, q⟩
  refine tTT he q fun k G1 H1 e1 g1 he1 q1 => ?_
  cases k with
  | true => rw [if_pos rfl]; exact q1 G1 H1 (.refl he1.gh)
  | false => rw [if_neg Bool.false_ne_true]; exact ⟨G1, Γ, he1, q1⟩
def eAnd (f g : FE) : FE := fun Γ => (f Γ).bind fun x => match x with
  | .sh (.b true) => g Γ | .sh (.b false) => .ok (.sh (.b false)) | _ => .bad
def eOr (f g : FE) : FE := fun Γ => (f Γ).bind fun x => match x with
  | .sh (.b true) => .ok (.sh (.b true)) | .sh (.b false) => g Γ | _ => .bad
theorem re_one {op} (h : PE X a (tE c f)) : PE X (.BoolOp op [a] pos) (tE c f) := pe_one h
theorem re_and {rest : List Expr} (ha : PE X a (tE c f)) (hb : PE X (.BoolOp .And (b :: rest) pos) (tE c g)) : PE X (.BoolOp .And (a :: b :: rest) pos) (tE c (eAnd f g)) := by
  refine PE.weak (pe_and ha hb) ?_
  rintro σ H Q ⟨G, Γ, he, q⟩
  refine eE he q fun rx x G1 H1 e1 g1 v1 fr1 he1 q1 => ?_
  split at q1
  · cases (Rep.bl_inv v1); refine ⟨true, rfl, ?_⟩; rw [if_pos rfl]; exact ⟨G1, Γ, he1, q1⟩
  · cases (Rep.bl_inv v1); refine ⟨false, rfl, ?_⟩; rw [if_neg Bool.false_ne_true]; exact post_sh he1.gh q1 (.b _)
  · exact q1.elim
theorem re_or {rest : List Expr} (ha : PE X a (tE c f)) (hb : PE X (.BoolOp .Or (b :: rest) pos) (tE c g)) : PE X (.BoolOp .Or (a :: b :: rest) pos) (tE c (eOr f g)) := by
  refine PE.weak (pe_or ha hb) ?_
  rintro σ H Q ⟨G, Γ, he, q⟩
  refine eE he q fun rx x G1 H1 e1 g1 v1 fr1 he1 q1 => ?_
  split at q1
  · cases (Rep.bl_inv v1); refine ⟨true, rfl, ?_⟩; rw [if_pos rfl]; exact post_sh he1.gh q1 (.b _)
  · cases (Rep.bl_inv v1); refine ⟨false, rfl, ?_⟩; rw [if_neg Bool.false_ne_true]; exact ⟨G1, Γ, he1, q1⟩
  · exact q1.elim
def eNot (f : FE) : FE := fun Γ => (f Γ).bind fun x => match x with
  | .sh (.b k) => .ok (.sh (.b (!k))) | _ => .bad
theorem re_not (ha : PE X a (tE c f)) : PE X (.UnaryOp .Not a pos) (tE c (eNot f)) := by
  refine PE.weak (pe_not ha) ?_
  rintro σ H Q ⟨G, Γ, he, q⟩
  refine eE he q fun rx x G1 H1 e1 g1 v1 fr1 he1 q1 => ?_
  split at q1
  · cases (Rep.bl_inv v1); exact ⟨_, rfl, post_sh he1.gh q1 (.b _)⟩
  · exact q1.elim
def eIf (t : FT) (f g : FE) : FE := fun Γ => (t Γ).bind fun x => if x = true then f Γ else g Γ
theorem re_if {t : Expr} (hc : PT X t (tT c ft)) (ha : PE X a (tE c f)) (hb : PE X b (tE c g)) : PE X (.IfExp t a b pos) (tE c (eIf ft f g)) := by
  refine PE.weak (pe_ifExp hc ha hb) ?_
  rintro σ H Q ⟨G, Γ, he, q⟩
  refine tTE he q fun k G1 H1 e1 g1 he1 q1 => ?_
  cases k with
  | true => rw [if_pos rfl] at q1 ⊢; exact ⟨G1, Γ, he1, q1⟩
  | false => rw [if_neg Bool.false_ne_true] at q1 ⊢; exact ⟨G1, Γ, he1, q1⟩
end
end Ly
end

section
set_option maxRecDepth 100000
namespace Ly
open PySem PySem.Spec L2
open PyProof.Rows hiding St

theorem tE_bind0 {c : LC} {f : FE} {σ : St} {H : Hp} {G : Hp} {Γ : Env'} (he : EnvOk c G H σ Γ) {β : Type} {k : Rv → Re β} {R : VK}
    {P : Re β → Prop} (hb : P .bad → False) (hx : ∀ x, P (.ex x) → ∀ G' H', Gr G H G' H' → ExAt c (fun C d H' => c.W C d σ H') x G' H') (h : P ((f Γ).bind k))
    (hk : ∀ r v G' H', f Γ = .ok r → Gr G H G' H' → RV c G' H' v r → Fresh H v r → P (k r) → R v H') : tE c f σ H R := by
  refine ⟨G, Γ, he, ?_⟩
  cases e : f Γ with
  | bad => rw [e] at h; exact (hb h).elim
  | ex x => rw [e] at h; exact hx _ h
  | ok r =>
    intro v G' H' g rv fr
    rw [e] at h
    exact hk r v G' H' e g rv fr h
def share : Rv → Re D
  | .sh d => .ok d | .fr d => .ok d | .bo _ => .bad
theorem RV.share {c : LC} {G0 H0 G H : Hp} {v : V} {r : Rv} {d : D} (g : Gr G0 H0 G H) (h : RV c G H v r) (fr : Fresh H0 v r) (e : share r = .ok d) : ∃ G', Gr G0 H0 G' H ∧ Same G G' ∧ Rep c.K G' v d := by
  cases r with
  | sh d' => cases e; exact ⟨G, g, Same.refl _, h⟩
  | fr d' =>
    cases e
    obtain ⟨p, rfl, _, gp, o⟩ := h
    obtain ⟨p', e1, hp⟩ := fr
    cases e1
    obtain ⟨u, hu, rp⟩ := o.rep gp
    exact ⟨_, g.freeze hp gp hu, fun b w q => by rw [upd_ne (ne_of_none q gp)]; exact q, rp⟩
  | bo d' => cases e
section
variable {X : Cx} {c : LC} {a b e : Expr} {es : List Expr} {f g h : FE} {fa : FA} {pos : Pos}
def aNil : FA := fun _ => .ok []
def aCons (f : FE) (g : FA) : FA := fun Γ => (f Γ).bind fun r => (share r).bind fun d => (g Γ).bind fun ds => .ok (d :: ds)
theorem ra_nil : PA X [] (tA c aNil) := PA.weak pa_nil fun σ H Q ⟨G, Γ, he, q⟩ => q [] G H (.refl he.gh) .nil
theorem ra_cons (ha : PE X e (tE c f)) (hr : PA X es (tA c fa)) (hs : starEach (e :: es) X.env = (false, eval e X.env) :: starEach es X.env := by rfl) : PA X (e :: es) (tA c (aCons f fa)) := by
  refine PA.weak (pa_cons ha hr hs) ?_
  rintro σ H Q ⟨G, Γ, he, q⟩
  refine tE_bind0 (P := fun r => PostA c r σ G H Q) he (fun h => h) (fun x h => h) q fun r v G1 H1 _ g1 v1 fr1 q1 => ?_
  cases e1 : share r with
  | bad => rw [e1] at q1; exact q1.elim
  | ex x => rw [e1] at q1; cases r <;> cases e1
  | ok d =>
    rw [e1] at q1
    obtain ⟨G2, g2, s2, rp⟩ := v1.share g1 fr1 e1
    refine tAA (he.mono g2) (PostA.later g2 q1) fun ds vs G3 H3 _ g3 rs he3 q3 => ?_
    exact q3 _ G3 H3 (.refl he3.gh) (.cons (rp.mono g3.gg) rs)

def eLst (f : FA) : FE := fun Γ => (f Γ).bind fun ds => if ds.length ≤ 16777216 then .ok (.fr (.l ds)) else .bad
theorem re_lst (ha : PA X es (tA c fa)) : PE X (.List es pos) (tE c (eLst fa)) := by
  refine PE.weak (pe_lst ha) ?_
  rintro σ H Q ⟨G, Γ, he, q⟩
  refine tAE he q fun ds vs G1 H1 _ g1 rs he1 q1 => ?_
  split at q1
  · exact ⟨by rw [rs.length, sizeLine_eq]; assumption, post_lst he1.bh he1.gh q1 rs⟩
  · exact q1.elim
def eTup (f : FA) : FE := fun Γ => (f Γ).bind fun ds => if ds.length ≤ 16777216 then .ok (.sh (.t ds)) else .bad
theorem re_tup {x1} (ha : PA X es (tA c fa)) : PE X (.Tuple es x1 pos) (tE c (eTup fa)) := by
  refine PE.weak (pe_tup ha) ?_
  rintro σ H Q ⟨G, Γ, he, q⟩
  refine tAE he q fun ds vs G1 H1 _ g1 rs he1 q1 => ?_
  split at q1
  · exact ⟨by rw [rs.length, sizeLine_eq]; assumption, post_tup he1.gh q1 rs⟩
  · exact q1.elim
def eDk0 : FE := fun _ => .ok (.fr (.dk [] []))
def eDt0 : FE := fun _ => .ok (.fr (.dt [] []))
theorem re_dk0 : PE X (.Dict [] [] pos) (tE c eDk0) := PE.weak pe_dnewK fun σ H Q ⟨G, Γ, he, q⟩ => post_dk0 he.bh he.gh q
theorem re_dt0 : PE X (.Dict [] [] pos) (tE c eDt0) := PE.weak pe_dnewT fun σ H Q ⟨G, Γ, he, q⟩ => post_dt0 he.bh he.gh q

def kIx : Rv → Rv → Re Rv := fun x y => match x.d, y.d with
  | .l ds, .i k => match atI ds k with | some d => .ok (.sh d) | none => .bad
  | .z ds, .i k => match atI ds k with | some d => .ok (.sh d) | none => .bad
  | .t ds, .i k => match atI ds k with | some d => .ok (.sh d) | none => .bad
  | .zt ds, .i k => match atI ds k with | some d => .ok (.sh d) | none => .bad
  | .s x, .i k => if x.length ≤ 16777216 then (match atI x.cps.toList k with | some ch => .ok (.sh (.s ⟨#[ch]⟩)) | none => .bad) else .bad
  | _, _ => .bad
theorem Reps.atI {K : PySem.W.Frag} {G : Hp} {xs : List V} {ds : List D} {k : Int} {d : D} (r : Reps K G xs ds) (h : L2.atI ds k = some d) : ∃ v, L2.atI xs k = some v ∧ Rep K G v d := by
  unfold L2.atI at h ⊢
  rw [r.length]
  cases e : ixN ds.length k with
  | none => rw [e] at h; cases h
  | some j => rw [e] at h; exact r.get' h
theorem ok2_ix : Ok2 c (rIx c.K) kIx := by
  intro σ G H x y rx ry Q gh bh hx hy q
  unfold kIx at q
  split at q
  · rename_i ds k e1 e2
    split at q
    · rename_i d hd
      obtain ⟨p, xs, h1, h2, h3⟩ := hx.lst gh e1
      obtain ⟨v, hv, rv⟩ := h3.atI hd
      exact .inl ⟨p, xs, k, v, h1, hy.int e2, .of h2, hv, post_sh gh q rv⟩
    · exact q.elim
  · rename_i ds k e1 e2
    split at q
    · rename_i d hd
      obtain ⟨p, xs, h1, h2, h3⟩ := hx.zl e1
      obtain ⟨v, hv, rv⟩ := h3.atI hd
      exact .inl ⟨p, xs, k, v, h1, hy.int e2, gh.seq h2, hv, post_sh gh q rv⟩
    · exact q.elim
  · rename_i ds k e1 e2
    split at q
    · rename_i d hd
      obtain ⟨p, xs, h1, h2, h3⟩ := hx.tup e1
      obtain ⟨v, hv, rv⟩ := h3.atI hd
      exact .inr (.inl ⟨p, xs, k, v, h1, hy.int e2, SqT.of (gh _ _ h2), hv, post_sh gh q rv⟩)
    · exact q.elim
  · rename_i ds k e1 e2
    split at q
    · rename_i d hd
      obtain ⟨p, xs, h1, h2, h3⟩ := hx.ztup e1
      obtain ⟨v, hv, rv⟩ := h3.atI hd
      exact .inr (.inl ⟨p, xs, k, v, h1, hy.int e2, Same.tup gh h2, hv, post_sh gh q rv⟩)
    · exact q.elim
  · rename_i z k e1 e2
    split at q
    · split at q
      · rename_i hz _ ch hd
        exact .inr (.inr ⟨z, k, ch, hx.str e1, hy.int e2, by rw [sizeLine_eq]; exact hz, hd, post_sh gh q (.s _)⟩)
      · exact q.elim
    · exact q.elim
  · exact q.elim
theorem re_ix (cy : Cy X c) (ha : PE X a (tE c f)) (hb : PE X b (tE c g)) (hs : PlainIx b := by intro _ _; rfl) : PE X (.Subscript a b pos) (tE c (e2 kIx f g)) := by
  have hr : IxR X (rIx c.K) := by rw [← cy.K]; exact ix_seq
  exact PE.weak (pe_ix hr ha hb hs) (tE_2 ok2_ix)

abbrev FO := Env' → Re (Option Int)
def oNo : FO := fun _ => .ok none
def oIs (f : FE) : FO := fun Γ => (f Γ).bind fun r => match r with | .sh (.i k) => .ok (some k) | _ => .bad
def PostO (c : LC) (re : Re (Option Int)) (σ : St) (G H : Hp) (Q : Option Int → Hp → Prop) : Prop := match re with
  | .ok r => ∀ G' H', Gr G H G' H' → Q r H'
  | .ex e => ∀ G' H', Gr G H G' H' → ExAt c (fun C d H' => c.W C d σ H') e G' H'
  | .bad => False
def tO (c : LC) (f : FO) : TO := fun σ H Q => ∃ G Γ, EnvOk c G H σ Γ ∧ PostO c (f Γ) σ G H Q
theorem PO.weak {X : Cx} {e : Option Expr} {t t' : TO} (h : PO X e t) (w : ∀ σ H Q, t' σ H Q → t σ H Q) : PO X e t' := ⟨fun pins s σ H Q I q => h.run pins s σ H Q I (w _ _ _ q)⟩
theorem PostO.later {re : Re (Option Int)} {σ : St} {G H G1 H1 : Hp} {Q : Option Int → Hp → Prop} (g : Gr G H G1 H1) (h : PostO c re σ G H Q) : PostO c re σ G1 H1 Q := by
  cases re with
  | bad => exact h
  | ex x => exact Post.ex_later g h
  | ok r => exact fun G2 H2 g2 => h G2 H2 (g.trans g2)
theorem ro_no : PO X none (tO c oNo) := PO.weak po_none fun σ H Q ⟨G, Γ, he, q⟩ => q G H (.refl he.gh)
theorem ro_is (ha : PE X e (tE c f)) : PO X (some e) (tO c (oIs f)) := by
  refine PO.weak (po_some ha) ?_
  rintro σ H Q ⟨G, Γ, he, q⟩
  refine tE_bind (P := fun r G H => PostO c r σ G H Q) he (fun _ _ h => h) (fun _ _ _ h => h) (fun _ _ _ _ _ g h => h.later g) q fun r v G1 H1 _ g1 v1 _ he1 q1 => ?_
  split at q1
  · exact ⟨_, Rep.int_inv v1, q1 G1 H1 (.refl he1.gh)⟩
  · exact q1.elim
theorem tO_bind {f : FO} {σ : St} {H : Hp} {G : Hp} {Γ : Env'} {Q : VK} (he : EnvOk c G H σ Γ) {k : Option Int → Re Rv} {R : Option Int → Hp → Prop}
    (h : Post c ((f Γ).bind k) σ G H Q) (hk : ∀ r G' H', Gr G H G' H' → EnvOk c G' H' σ Γ → Post c (k r) σ G' H' Q → R r H') : tO c f σ H R := by
  refine ⟨G, Γ, he, ?_⟩
  cases e : f Γ with
  | bad => rw [e] at h; exact h.elim
  | ex x => rw [e] at h; exact h
  | ok r =>
    intro G' H' g
    rw [e] at h
    exact hk r G' H' g (he.mono g) (Post.later g h)
def cut {α : Type} (xs : List α) (lo hi : Option Int) : List α := (xs.drop (HT.sIx xs.length 0 lo)).take (HT.sIx xs.length xs.length hi - HT.sIx xs.length 0 lo)
def kSl (r : Rv) (lo hi : Option Int) : Re Rv := match r.d with
  | .l ds => .ok (.fr (.l (cut ds lo hi)))
  | .z ds => .ok (.fr (.l (cut ds lo hi)))
  | .t ds => .ok (.sh (.t (cut ds lo hi)))
  | .s x => if x.length ≤ 16777216 then .ok (.sh (.s (cutS x lo hi))) else .bad
  | _ => .bad
def eSl (f : FE) (lo hi : FO) : FE := fun Γ => (f Γ).bind fun r => (lo Γ).bind fun l => (hi Γ).bind fun h => kSl r l h
theorem Reps.cut {K : PySem.W.Frag} {G : Hp} {xs : List V} {ds : List D} (r : Reps K G xs ds) (lo hi : Option Int) : Reps K G (cutV xs lo hi) (cut ds lo hi) := by
  unfold cutV Ly.cut
  rw [r.length]
  exact (r.drop _).take _
theorem cut_whole {α : Type} {xs : List α} {lo hi : Option Int} (h : HT.sIx xs.length 0 lo = 0 ∧ HT.sIx xs.length xs.length hi = xs.length) : cut xs lo hi = xs := by
  unfold cut
  rw [h.1, h.2]
  simp
theorem re_sl (cy : Cy X c) {lo hi : Option Expr} {fl fh : FO} {p2 : Pos} (ha : PE X e (tE c f)) (hl : PO X lo (tO c fl)) (hu : PO X hi (tO c fh)) : PE X (.Subscript e (.Slice lo hi none p2) pos) (tE c (eSl f fl fh)) := by
  have hr : SlR X (fun x lo hi H Q => (rSlL c.K x lo hi H Q ∨ rSlS x lo hi H Q) ∨ rSlA c.K x lo hi H Q) := by
    rw [← cy.K]; exact SlR.or (SlR.or sl_list sl_str) sl_tupA
  refine PE.weak (pe_slice hr ha hl hu) ?_
  rintro σ H Q ⟨G, Γ, he, q⟩
  refine eE he q fun r v G1 H1 _ g1 v1 _ he1 q1 => ?_
  refine tO_bind he1 q1 fun l G2 H2 g2 he2 q2 => ?_
  refine tO_bind he2 q2 fun u G3 H3 g3 he3 q3 => ?_
  have v3 := (v1.mono g2).mono g3
  unfold kSl at q3
  split at q3
  · rename_i ds ed
    obtain ⟨p, xs, e1, e2, e3⟩ := v3.lst he3.gh ed
    exact .inl (.inl ⟨p, xs, e1, .of e2, post_lst he3.bh he3.gh q3 (e3.cut l u)⟩)
  · rename_i ds ed
    obtain ⟨p, xs, e1, e2, e3⟩ := v3.zl ed
    exact .inl (.inl ⟨p, xs, e1, he3.gh.seq e2, post_lst he3.bh he3.gh q3 (e3.cut l u)⟩)
  · rename_i ds ed
    obtain ⟨p, xs, e1, e2, e3⟩ := v3.tup ed
    refine .inr ⟨p, xs, e1, SqT.of (he3.gh _ _ e2), fun hw => ?_, fun _ => post_tup he3.gh q3 (e3.cut l u)⟩
    refine post_sh he3.gh q3 (.t e2 ?_)
    have hw' := hw
    rw [e3.length] at hw'
    rw [cut_whole hw']
    exact e3
  · rename_i z ed
    split at q3
    · exact .inl (.inr ⟨z, v3.str ed, by rw [sizeLine_eq]; assumption, post_sh he3.gh q3 (.s _)⟩)
    · exact q3.elim
  · exact q3.elim
def kRev : Rv → Re Rv := fun x => match x.d with
  | .l ds => .ok (.fr (.l ds.reverse))
  | .z ds => .ok (.fr (.l ds.reverse))
  | _ => .bad
theorem re_rev (cy : Cy X c) {k : Nat} {p1 p2 p3 : Pos} (ha : PE X e (tE c f)) : PE X (.Subscript e (.Slice none none (some (.UnaryOp .USub (.Constant (.int 1) k p1) p2)) p3) pos) (tE c (e1 kRev f)) := by
  refine PE.weak (pe_revL ha) ?_
  rintro σ H Q ⟨G, Γ, he, q⟩
  refine eE he q fun r v G1 H1 _ g1 v1 _ he1 q1 => ?_
  rw [cy.K]
  unfold kRev at q1
  split at q1
  · rename_i ds ed
    obtain ⟨p, xs, e1, e2, e3⟩ := v1.lst he1.gh ed
    exact ⟨p, xs, e1, .of e2, post_lst he1.bh he1.gh q1 e3.reverse⟩
  · rename_i ds ed
    obtain ⟨p, xs, e1, e2, e3⟩ := v1.zl ed
    exact ⟨p, xs, e1, he1.gh.seq e2, post_lst he1.bh he1.gh q1 e3.reverse⟩
  · exact q1.elim

def OkC1 (c : LC) (r : List V → Hp → VK → Prop) (k : Rv → Re Rv) : Prop := ∀ (σ : St) (G H : Hp) (x : V) (rx : Rv) (Q : VK), Same G H → Same c.B H → RV c G H x rx → Post c (k rx) σ G H Q → r [x] H Q
def OkC2 (c : LC) (r : List V → Hp → VK → Prop) (k : Rv → Rv → Re Rv) : Prop := ∀ (σ : St) (G H : Hp) (x y : V) (rx ry : Rv) (Q : VK), Same G H → Same c.B H → RV c G H x rx → RV c G H y ry → Post c (k rx ry) σ G H Q → r [x, y] H Q
theorem tE_c1 {k : Rv → Re Rv} {r : List V → Hp → VK → Prop} (hk : OkC1 c r k) : ∀ σ H Q, tE c (e1 k f) σ H Q → tCB r (tCons (tE c f) tNil) σ H Q := by
  rintro σ H Q ⟨G, Γ, he, q⟩
  exact eE he q fun rx x G1 H1 _ g1 v1 fr1 he1 q1 => hk σ G1 H1 x rx Q he1.gh he1.bh v1 q1
theorem tE_c2 {k : Rv → Rv → Re Rv} {r : List V → Hp → VK → Prop} (hk : OkC2 c r k) : ∀ σ H Q, tE c (e2 k f g) σ H Q → tCB r (tCons (tE c f) (tCons (tE c g) tNil)) σ H Q := by
  rintro σ H Q ⟨G, Γ, he, q⟩
  refine eE he q fun rx x G1 H1 e1 g1 v1 fr1 he1 q1 => ?_
  refine eE he1 q1 fun ry y G2 H2 e2 g2 v2 fr2 he2 q2 => ?_
  exact hk σ G2 H2 x y rx ry Q he2.gh he2.bh (v1.mono g2) v2 q2
theorem re_b1 {x : Str} {p : Pos} {id : String} {r : List V → Hp → VK → Prop} {k : Rv → Re Rv} (hc : CallR X (.builtin id) r) (hk : OkC1 c r k) (hg : Gl X x) (hm : X.mg x = none) (hv : bootBuiltins x = some (.builtin id)) (ha : PE X a (tE c f))
    (hn : x ≠ "__name__" := by decide) (hdb : (x == ("__debug__" : Str)) = false := by decide) (hs : starEach [a] X.env = [(false, eval a X.env)] := by rfl) : PE X (.Call (.Name x p) [a] [] pos) (tE c (e1 k f)) :=
  PE.weak (pe_callB hc hg hm hv (pa_cons ha pa_nil hs) hn hdb hs) (tE_c1 hk)
theorem re_t1 {x : Str} {p : Pos} {id : String} {r : List V → Hp → VK → Prop} {k : Rv → Re Rv} (hc : CallR X (.type id) r) (hk : OkC1 c r k) (hg : Gl X x) (hm : X.mg x = none) (hv : bootBuiltins x = some (.type id)) (ha : PE X a (tE c f))
    (hn : x ≠ "__name__" := by decide) (hdb : (x == ("__debug__" : Str)) = false := by decide) (hs : starEach [a] X.env = [(false, eval a X.env)] := by rfl) : PE X (.Call (.Name x p) [a] [] pos) (tE c (e1 k f)) :=
  PE.weak (pe_callTy hc hg hm hv (pa_cons ha pa_nil hs) hn hdb hs) (tE_c1 hk)
theorem re_b2 {x : Str} {p : Pos} {id : String} {r : List V → Hp → VK → Prop} {k : Rv → Rv → Re Rv} (hc : CallR X (.builtin id) r) (hk : OkC2 c r k) (hg : Gl X x) (hm : X.mg x = none) (hv : bootBuiltins x = some (.builtin id)) (ha : PE X a (tE c f)) (hb : PE X b (tE c g))
    (hn : x ≠ "__name__" := by decide) (hdb : (x == ("__debug__" : Str)) = false := by decide) (hs : starEach [a, b] X.env = (false, eval a X.env) :: starEach [b] X.env := by rfl) (hs2 : starEach [b] X.env = [(false, eval b X.env)] := by rfl)
    (hpl : (backTo pos (starEach [b] X.env)).any (·.1) = false := by rfl) : PE X (.Call (.Name x p) [a, b] [] pos) (tE c (e2 k f g)) :=
  PE.weak (pe_callB hc hg hm hv (pa_cons ha (pa_cons hb pa_nil hs2) hs) hn hdb hs hpl) (tE_c2 hk)
def kLen : Rv → Re Rv := fun x => match x.d with
  | .l ds => oki ds.length | .z ds => oki ds.length | .t ds => oki ds.length
  | .s y => if y.length ≤ 16777216 then oki y.length else .bad
  | _ => .bad
theorem okc_len : OkC1 c (fun xs H Q => ∃ x n, xs = [x] ∧ LenV c.K x H n ∧ Q (.int n) H) kLen := by
  intro σ G H x rx Q gh bh hx q
  unfold kLen at q
  split at q
  · rename_i ds e
    obtain ⟨p, xs, e1, e2, e3⟩ := hx.lst gh e
    subst e1
    exact ⟨_, ds.length, rfl, .inl ⟨xs, .of e2, e3.length.symm⟩, post_sh gh q (.i _)⟩
  · rename_i ds e
    obtain ⟨p, xs, e1, e2, e3⟩ := hx.zl e
    subst e1
    exact ⟨_, ds.length, rfl, .inl ⟨xs, gh.seq e2, e3.length.symm⟩, post_sh gh q (.i _)⟩
  · rename_i ds e
    obtain ⟨p, xs, e1, e2, e3⟩ := hx.tup e
    subst e1
    exact ⟨_, ds.length, rfl, .inr ⟨xs, SqT.of (gh _ _ e2), e3.length.symm⟩, post_sh gh q (.i _)⟩
  · rename_i y e
    split at q
    · cases hx.str e
      exact ⟨_, y.length, rfl, ⟨by rw [sizeLine_eq]; assumption, rfl⟩, post_sh gh q (.i _)⟩
    · exact q.elim
  · exact q.elim
theorem re_len (cy : Cy X c) {p : Pos} (hg : Gl X "len") (hm : X.mg "len" = none) (ha : PE X a (tE c f)) (hs : starEach [a] X.env = [(false, eval a X.env)] := by rfl) : PE X (.Call (.Name "len" p) [a] [] pos) (tE c (e1 kLen f)) :=
  re_b1 (r := fun xs H Q => ∃ x n, xs = [x] ∧ LenV c.K x H n ∧ Q (.int n) H) (by rw [← cy.K]; exact call_len) okc_len hg hm boot_len ha (by decide) (by decide) hs
def kAbs : Rv → Re Rv := fun x => match x.d with | .i p => oki (if p < 0 then -p else p) | _ => .bad
theorem re_abs {p : Pos} (hg : Gl X "abs") (hm : X.mg "abs" = none) (ha : PE X a (tE c f)) (hs : starEach [a] X.env = [(false, eval a X.env)] := by rfl) : PE X (.Call (.Name "abs" p) [a] [] pos) (tE c (e1 kAbs f)) := by
  refine re_b1 call_abs ?_ hg hm (by decide +kernel) ha (by decide) (by decide) hs
  intro σ G H x rx Q gh bh hx q
  unfold kAbs at q
  split at q
  · rename_i k e
    exact ⟨k, by rw [hx.int e], post_sh gh q (.i _)⟩
  · exact q.elim
def kMax2 : Rv → Rv → Re Rv := kI fun i j => oki (if j > i then j else i)
def kMin2 : Rv → Rv → Re Rv := kI fun i j => oki (if j < i then j else i)
theorem re_max2 (cy : Cy X c) {p : Pos} (hg : Gl X "max") (hm : X.mg "max" = none) (ha : PE X a (tE c f)) (hb : PE X b (tE c g)) (hs : starEach [a, b] X.env = (false, eval a X.env) :: starEach [b] X.env := by rfl) (hs2 : starEach [b] X.env = [(false, eval b X.env)] := by rfl)
    (hpl : (backTo pos (starEach [b] X.env)).any (·.1) = false := by rfl) : PE X (.Call (.Name "max" p) [a, b] [] pos) (tE c (e2 kMax2 f g)) := by
  refine re_b2 (call_max2 cy.calm) ?_ hg hm (by decide +kernel) ha hb (by decide) (by decide) hs hs2 hpl
  intro σ G H x y rx ry Q gh bh hx hy q
  unfold kMax2 kI at q
  split at q
  · rename_i i j e e'
    exact ⟨i, j, by rw [hx.int e, hy.int e'], post_sh gh q (.i _)⟩
  · exact q.elim
theorem re_min2 (cy : Cy X c) {p : Pos} (hg : Gl X "min") (hm : X.mg "min" = none) (ha : PE X a (tE c f)) (hb : PE X b (tE c g)) (hs : starEach [a, b] X.env = (false, eval a X.env) :: starEach [b] X.env := by rfl) (hs2 : starEach [b] X.env = [(false, eval b X.env)] := by rfl)
    (hpl : (backTo pos (starEach [b] X.env)).any (·.1) = false := by rfl) : PE X (.Call (.Name "min" p) [a, b] [] pos) (tE c (e2 kMin2 f g)) := by
  refine re_b2 (call_min2 cy.calm) ?_ hg hm (by decide +kernel) ha hb (by decide) (by decide) hs hs2 hpl
  intro σ G H x y rx ry Q gh bh hx hy q
  unfold kMin2 kI at q
  split at q
  · rename_i i j e e'
    exact ⟨i, j, by rw [hx.int e, hy.int e'], post_sh gh q (.i _)⟩
  · exact q.elim
def kInt : Rv → Re Rv := fun x => match x.d with | .i k => oki k | .b k => oki (if k then 1 else 0) | _ => .bad
theorem re_toInt {p : Pos} (hg : Gl X "int") (hm : X.mg "int" = none) (ha : PE X a (tE c f)) (hs : starEach [a] X.env = [(false, eval a X.env)] := by rfl) : PE X (.Call (.Name "int" p) [a] [] pos) (tE c (e1 kInt f)) := by
  refine re_t1 call_int1 ?_ hg hm (by decide +kernel) ha (by decide) (by decide) hs
  intro σ G H x rx Q gh bh hx q
  unfold kInt at q
  split at q
  · rename_i k e
    exact .inl ⟨k, by rw [hx.int e], post_sh gh q (.i _)⟩
  · rename_i k e
    exact .inr ⟨k, by rw [hx.bl e], post_sh gh q (.i _)⟩
  · exact q.elim
def kList : Rv → Re Rv := fun x => match x.d with
  | .l ds => .ok (.fr (.l ds)) | .z ds => .ok (.fr (.l ds)) | .t ds => .ok (.fr (.l ds)) | _ => .bad
theorem re_list (cy : Cy X c) {p : Pos} (hg : Gl X "list") (hm : X.mg "list" = none) (ha : PE X a (tE c f)) (hs : starEach [a] X.env = [(false, eval a X.env)] := by rfl) : PE X (.Call (.Name "list" p) [a] [] pos) (tE c (e1 kList f)) := by
  refine re_t1 (r := fun xs H Q => ∃ p ys, xs = [.ref p] ∧ (SqL c.K H p ys ∨ SqT c.K H p ys) ∧ ∀ l, H l = none → Q (.ref l) (upd H l (.lst ys))) (by rw [← cy.K]; exact call_list_of) ?_ hg hm (by decide +kernel) ha (by decide) (by decide) hs
  intro σ G H x rx Q gh bh hx q
  unfold kList at q
  split at q
  · rename_i ds e
    obtain ⟨p, xs, e1, e2, e3⟩ := hx.lst gh e
    exact ⟨p, xs, by rw [e1], .inl (.of e2), post_lst bh gh q e3⟩
  · rename_i ds e
    obtain ⟨p, xs, e1, e2, e3⟩ := hx.zl e
    exact ⟨p, xs, by rw [e1], .inl (gh.seq e2), post_lst bh gh q e3⟩
  · rename_i ds e
    obtain ⟨p, xs, e1, e2, e3⟩ := hx.tup e
    exact ⟨p, xs, by rw [e1], .inr (SqT.of (gh _ _ e2)), post_lst bh gh q e3⟩
  · exact q.elim
def kTuple : Rv → Re Rv := fun x => match x.d with
  | .l ds => .ok (.sh (.t ds)) | .z ds => .ok (.sh (.t ds)) | .t ds => .ok (.sh (.t ds)) | _ => .bad
theorem re_tuple (cy : Cy X c) {p : Pos} (hg : Gl X "tuple") (hm : X.mg "tuple" = none) (ha : PE X a (tE c f)) (hs : starEach [a] X.env = [(false, eval a X.env)] := by rfl) : PE X (.Call (.Name "tuple" p) [a] [] pos) (tE c (e1 kTuple f)) := by
  refine re_t1 (r := fun xs H Q => ∃ p ys, xs = [.ref p] ∧ ((SqL c.K H p ys ∧ ∀ l, H l = none → Q (.ref l) (upd H l (.tup ys))) ∨ (SqT c.K H p ys ∧ Q (.ref p) H))) (by rw [← cy.K]; exact call_tuple_of) ?_ hg hm (by decide +kernel) ha (by decide) (by decide) hs
  intro σ G H x rx Q gh bh hx q
  unfold kTuple at q
  split at q
  · rename_i ds e
    obtain ⟨p, xs, e1, e2, e3⟩ := hx.lst gh e
    exact ⟨p, xs, by rw [e1], .inl ⟨.of e2, post_tup gh q e3⟩⟩
  · rename_i ds e
    obtain ⟨p, xs, e1, e2, e3⟩ := hx.zl e
    exact ⟨p, xs, by rw [e1], .inl ⟨gh.seq e2, post_tup gh q e3⟩⟩
  · rename_i ds e
    obtain ⟨p, xs, e1, e2, e3⟩ := hx.tup e
    exact ⟨p, xs, by rw [e1], .inr ⟨SqT.of (gh _ _ e2), by rw [← e1]; refine post_sh gh q ?_; rw [e1]; exact .t e2 e3⟩⟩
  · exact q.elim
def rgD (a b : Int) : List D := (List.range (b - a).toNat).map fun i => D.i (a + (i : Nat))
def rgOk (a b : Int) : Bool := decide (-(2 ^ 62) ≤ a ∧ a < 2 ^ 62 ∧ -(2 ^ 62) ≤ b ∧ b < 2 ^ 62 ∧ (b - a).toNat ≤ 16777216)
def kLr : Int → Int → Re Rv := fun i j => if rgOk i j = true then .ok (.fr (.l (rgD i j))) else .bad
theorem Reps.rg {K : PySem.W.Frag} {G : Hp} (a b : Int) : Reps K G (rgV a b) (rgD a b) := by
  have h : rgV a b = ((List.range (b - a).toNat).map fun i => a + ((i : Nat) : Int)).map V.int := by unfold rgV; rw [List.map_map]; rfl
  have h' : rgD a b = ((List.range (b - a).toNat).map fun i => a + ((i : Nat) : Int)).map D.i := by unfold rgD; rw [List.map_map]; rfl
  rw [h, h']
  exact Reps.ofInts _
theorem rgOk_ok {a b : Int} (h : rgOk a b = true) : RgOk a b := by
  obtain ⟨h1, h2, h3, h4, h5⟩ := of_decide_eq_true h
  exact ⟨h1, h2, h3, h4, by omega⟩
theorem re_listR1 (cy : Cy X c) {p p' : Pos} {ps : Pos} (hl : Gl X "list") (hml : X.mg "list" = none) (hg : Gl X "range") (hm : X.mg "range" = none) (ha : PE X a (tE c f)) (hs : starEach [a] X.env = [(false, eval a X.env)] := by rfl)
    (hs' : starEach [.Call (.Name "range" p') [a] [] ps] X.env = [(false, eval (.Call (.Name "range" p') [a] [] ps) X.env)] := by rfl) :
    PE X (.Call (.Name "list" p) [.Call (.Name "range" p') [a] [] ps] [] pos) (tE c (e1 (fun r => match r.d with | .i j => kLr 0 j | _ => .bad) f)) := by
  refine PE.weak (pe_listRg cy.calm hl hml (prg_1 hg hm ha hs) hs') ?_
  rintro σ H Q ⟨G, Γ, he, q⟩
  refine eE he q fun rx x G1 H1 _ g1 v1 fr1 he1 q1 => ?_
  split at q1
  · rename_i j e
    unfold kLr at q1
    split at q1
    · rename_i hr
      exact ⟨j, v1.int e, rgOk_ok hr, post_lst he1.bh he1.gh q1 (.rg _ _)⟩
    · exact q1.elim
  · exact q1.elim
theorem re_listR2 (cy : Cy X c) {p p' : Pos} {ps : Pos} (hl : Gl X "list") (hml : X.mg "list" = none) (hg : Gl X "range") (hm : X.mg "range" = none) (ha : PE X a (tE c f)) (hb : PE X b (tE c g))
    (hs : starEach [a, b] X.env = (false, eval a X.env) :: starEach [b] X.env := by rfl) (hs2 : starEach [b] X.env = [(false, eval b X.env)] := by rfl) (hpl : (backTo ps (starEach [b] X.env)).any (·.1) = false := by rfl)
    (hs' : starEach [.Call (.Name "range" p') [a, b] [] ps] X.env = [(false, eval (.Call (.Name "range" p') [a, b] [] ps) X.env)] := by rfl) :
    PE X (.Call (.Name "list" p) [.Call (.Name "range" p') [a, b] [] ps] [] pos) (tE c (e2 (kI kLr) f g)) := by
  refine PE.weak (pe_listRg cy.calm hl hml (prg_2 hg hm ha hb hs hs2 hpl) hs') ?_
  rintro σ H Q ⟨G, Γ, he, q⟩
  refine eE he q fun rx x G1 H1 _ g1 v1 fr1 he1 q1 => ?_
  refine eE he1 q1 fun ry y G2 H2 e2 g2 v2 fr2 he2 q2 => ?_
  unfold kI at q2
  split at q2
  · rename_i i j e e'
    unfold kLr at q2
    split at q2
    · rename_i hr
      exact ⟨i, j, (v1.mono g2).int e, v2.int e', rgOk_ok hr, post_lst he2.bh he2.gh q2 (.rg _ _)⟩
    · exact q2.elim
  · exact q2.elim
end
end Ly
end

section
set_option maxRecDepth 100000
namespace Ly
open PySem PySem.Spec L2
open PyProof.Rows hiding St

def spF (K : PySem.W.Frag) (mg : Str → Option Value) (n : Nat) (F : List D → Re Rv) : Sp := fun vs H Q E => ∃ G ds, ds.length = n ∧ Same G H ∧ Reps K G vs ds ∧
  match F ds with
  | .ok (.sh d) => ∀ v G' H', Gr G H G' H' → Rep K G' v d → Q v H'
  | .ok (.fr d) => ∀ p G' H', Gr G H G' H' → H p = none → G' p = none → Own K G' H' p d → Q (.ref p) H'
  | .ex e => ∀ G' H', Gr G H G' H' → ExAt ⟨K, mg, H, G, fun _ _ _ _ => True⟩ E e G' H'
  | _ => False
structure DefOk (P : Program) (w : World) (K : PySem.W.Frag) (mg : Str → Option Value) (base : Heap) (k : Nat) (x : Str) (n : Nat) (F : List D → Re Rv) : Prop where
  ex : ∃ (f : Addr) (fd : FuncData) (ps : List Str), mg x = some (.ref f) ∧ PySem.W.keepIn K (.ref f) = true ∧ Binds K fd ps [] ∧ FnOk P w K mg base (L2.CX P w) k f fd ps (spF K mg n F)
theorem DefOk.mono {P : Program} {w : World} {K : PySem.W.Frag} {mg : Str → Option Value} {base : Heap} {j k : Nat} {x : Str} {n : Nat} {F : List D → Re Rv} (h : DefOk P w K mg base j x n F) (l : j ≤ k) : DefOk P w K mg base k x n F := by
  obtain ⟨f, fd, ps, h1, h2, h3, h4⟩ := h.ex
  exact ⟨f, fd, ps, h1, h2, h3, h4.mono l⟩
def eCall (n : Nat) (F : List D → Re Rv) (fa : FA) : FE := fun Γ => (fa Γ).bind fun ds => if ds.length = n then (match F ds with
  | .ok (.bo _) => .bad | r => r) else .bad
section
variable {X : Cx} {c : LC} {a b e : Expr} {es : List Expr} {f g h : FE} {fa : FA} {pos : Pos}
theorem re_call (cy : Cy X c) {x : Str} {p : Pos} {k n : Nat} {F : List D → Re Rv} (h : DefOk X.prog X.w X.K X.mg X.base k x n F) (hr : Room k X.A) (hg : Gl X x) (ha : PA X (e :: es) (tA c fa))
    (hdb : (x == ("__debug__" : Str)) = false := by decide) (he : starEach (e :: es) X.env = (false, eval e X.env) :: starEach es X.env := by rfl) (hpl : (backTo pos (starEach es X.env)).any (·.1) = false := by rfl) :
    PE X (.Call (.Name x p) (e :: es) [] pos) (tE c (eCall n F fa)) := by
  obtain ⟨f, fd, ps, h1, h2, h3, h4⟩ := h.ex
  refine PE.weak (pe_callS (E := WE c.W) h4 hr hg h1 h2 h3 (fun σ => passAt cy.tk σ) ha hdb he hpl) ?_
  rintro σ H Q ⟨G, Γ, he, q⟩
  refine tAE he q fun ds vs G1 H1 _ g1 rs he1 q1 => ?_
  split at q1
  · rename_i hn
    refine ⟨G1, ds, hn, he1.gh, by rw [cy.K]; exact rs, ?_⟩
    cases eF : F ds with
    | bad => rw [eF] at q1; exact q1
    | ex x => rw [eF] at q1; exact fun G' H' g' C d hC hd => q1 G' H' g' C d (by rw [← cy.mg]; exact hC) (by rw [← cy.K]; exact hd)
    | ok r =>
      rw [eF] at q1
      cases r with
      | sh d => exact fun v G' H' g' rv => q1 v G' H' g' (by rw [cy.K] at rv; exact rv) True.intro
      | fr d => exact fun p' G' H' g' hp gp o => q1 (.ref p') G' H' g' ⟨p', rfl, he1.bh.free hp, gp, by rw [cy.K] at o; exact o⟩ ⟨p', rfl, hp⟩
      | bo d => exact q1
  · exact q1.elim
end

structure EndOk (c : LC) (G H : Hp) : Prop where
  bh : Same c.B H
  g0 : Same c.G0 G
  gh : Same G H
  gf : ∀ a o, G a = some o → c.B a ≠ none → c.G0 a = some o
theorem EnvOk.end {c : LC} {G H : Hp} {σ : St} {Γ : Env'} (e : EnvOk c G H σ Γ) : EndOk c G H := ⟨e.bh, e.g0, e.gh, e.gf⟩
def PostS (c : LC) (r : Fl) (G : Hp) (D : Ends) : Prop := match r with
  | .nx Γ' => ∀ σ' G' H', EnvOk c G' H' σ' Γ' → Same G G' → D.nx σ' H'
  | .bk Γ' => ∀ σ' G' H', EnvOk c G' H' σ' Γ' → Same G G' → D.bk σ' H'
  | .ct Γ' => ∀ σ' G' H', EnvOk c G' H' σ' Γ' → Same G G' → D.ct σ' H'
  | .rt r => ∀ v G' H', EndOk c G' H' → Same G G' → RV c G' H' v r → (∀ d, r ≠ .bo d) → D.rt v H'
  | .ex e Γ' => ∀ σ' G' H', EnvOk c G' H' σ' Γ' → Same G G' → ExAt c (fun C d H' => c.W C d σ' H') e G' H'
  | .bad => False
def tS (c : LC) (f : FS) : TS := fun D σ H => ∃ G Γ, EnvOk c G H σ Γ ∧ PostS c (f Γ) G D
theorem PostS.later {c : LC} {r : Fl} {G G1 : Hp} {D : Ends} (g : Same G G1) (h : PostS c r G D) : PostS c r G1 D := by
  cases r with
  | nx Γ => exact fun σ' G' H' e s => h σ' G' H' e (g.trans s)
  | bk Γ => exact fun σ' G' H' e s => h σ' G' H' e (g.trans s)
  | ct Γ => exact fun σ' G' H' e s => h σ' G' H' e (g.trans s)
  | rt r => exact fun v G' H' e s => h v G' H' e (g.trans s)
  | ex x Γ => exact fun σ' G' H' e s => h σ' G' H' e (g.trans s)
  | bad => exact h
def Re.fl {α : Type} (r : Re α) (Γ : Env') (k : α → Fl) : Fl := match r with
  | .ok a => k a | .ex e => .ex e Γ | .bad => .bad
theorem sE {c : LC} {f : FE} {σ : St} {H G : Hp} {Γ : Env'} {D : Ends} {k : Rv → Fl} {R : VK} (he : EnvOk c G H σ Γ) (h : PostS c ((f Γ).fl Γ k) G D)
    (hk : ∀ r v G' H', f Γ = .ok r → Gr G H G' H' → RV c G' H' v r → Fresh H v r → EnvOk c G' H' σ Γ → PostS c (k r) G' D → R v H') : tE c f σ H R := by
  refine ⟨G, Γ, he, ?_⟩
  cases e : f Γ with
  | bad => rw [e] at h; exact h
  | ex x => rw [e] at h; exact fun G' H' g => h σ G' H' (he.mono g) g.gg
  | ok r =>
    intro v G' H' g rv fr
    rw [e] at h
    exact hk r v G' H' e g rv fr (he.mono g) (PostS.later g.gg h)
theorem sE0 {c : LC} {f : FE} {σ : St} {H G : Hp} {Γ : Env'} {D : Ends} {k : Rv → Fl} {R : VK} (he : EnvOk c G H σ Γ) (h : PostS c ((f Γ).fl Γ k) G D)
    (hk : ∀ r v G' H', f Γ = .ok r → Gr G H G' H' → RV c G' H' v r → Fresh H v r → PostS c (k r) G D → R v H') : tE c f σ H R := by
  refine ⟨G, Γ, he, ?_⟩
  cases e : f Γ with
  | bad => rw [e] at h; exact h
  | ex x => rw [e] at h; exact fun G' H' g => h σ G' H' (he.mono g) g.gg
  | ok r =>
    intro v G' H' g rv fr
    rw [e] at h
    exact hk r v G' H' e g rv fr h
theorem sT {c : LC} {f : FT} {σ : St} {H G : Hp} {Γ : Env'} {D : Ends} {k : Bool → Fl} {R : Bool → Hp → Prop} (he : EnvOk c G H σ Γ) (h : PostS c ((f Γ).fl Γ k) G D)
    (hk : ∀ r G' H', f Γ = .ok r → Gr G H G' H' → EnvOk c G' H' σ Γ → PostS c (k r) G' D → R r H') : tT c f σ H R := by
  refine ⟨G, Γ, he, ?_⟩
  cases e : f Γ with
  | bad => rw [e] at h; exact h
  | ex x => rw [e] at h; exact fun G' H' g => h σ G' H' (he.mono g) g.gg
  | ok r =>
    intro G' H' g
    rw [e] at h
    exact hk r G' H' e g (he.mono g) (PostS.later g.gg h)
section
variable {X : Cx} {c : LC} {a b e : Expr} {st : Stmt} {rest : List Stmt} {f g h : FE} {ft : FT} {u v : FS} {pos : Pos}
def sNil : FS := fun Γ => .nx Γ
def sSeq (u v : FS) : FS := fun Γ => match u Γ with
  | .nx Γ' => v Γ' | o => o
theorem rs_nil : PSs X [] (tS c sNil) := PSs.weak pss_nil fun D σ H ⟨G, Γ, he, q⟩ => q σ G H he (Same.refl _)
theorem rs_cons (h1 : PS X st (tS c u)) (h2 : PSs X rest (tS c v)) : PSs X (st :: rest) (tS c (sSeq u v)) := by
  refine PSs.weak (pss_cons h1 h2) ?_
  rintro D σ H ⟨G, Γ, he, q⟩
  refine ⟨G, Γ, he, ?_⟩
  unfold sSeq at q
  cases e : u Γ with
  | nx Γ' =>
    rw [e] at q
    exact fun σ' G' H' he' s => ⟨G', Γ', he', PostS.later s q⟩
  | bk Γ' => rw [e] at q; exact q
  | ct Γ' => rw [e] at q; exact q
  | rt r => rw [e] at q; exact q
  | ex x Γ' => rw [e] at q; exact q
  | bad => rw [e] at q; exact q
theorem rs_one (h1 : PS X st (tS c u)) : PSs X [st] (tS c u) := pss_one h1
def sBrk : FS := fun Γ => .bk Γ
def sCnt : FS := fun Γ => .ct Γ
theorem rs_pass : PS X (.Pass pos) (tS c sNil) := PS.weak ps_pass fun D σ H ⟨G, Γ, he, q⟩ => q σ G H he (Same.refl _)
theorem rs_brk : PS X (.Break pos) (tS c sBrk) := PS.weak ps_break fun D σ H ⟨G, Γ, he, q⟩ => q σ G H he (Same.refl _)
theorem rs_cnt : PS X (.Continue pos) (tS c sCnt) := PS.weak ps_continue fun D σ H ⟨G, Γ, he, q⟩ => q σ G H he (Same.refl _)
def sIf (t : FT) (u v : FS) : FS := fun Γ => (t Γ).fl Γ fun b => if b = true then u Γ else v Γ
theorem rs_if {t : Expr} {as bs : List Stmt} (hc : PT X t (tT c ft)) (ha : PSs X as (tS c u)) (hb : PSs X bs (tS c v)) : PS X (.If t as bs pos) (tS c (sIf ft u v)) := by
  refine PS.weak (ps_if hc ha hb) ?_
  rintro D σ H ⟨G, Γ, he, q⟩
  refine sT he q fun k G1 H1 _ g1 he1 q1 => ?_
  cases k with
  | true => rw [if_pos rfl] at q1 ⊢; exact ⟨G1, Γ, he1, q1⟩
  | false => rw [if_neg Bool.false_ne_true] at q1 ⊢; exact ⟨G1, Γ, he1, q1⟩
def sRet (f : FE) : FS := fun Γ => (f Γ).fl Γ fun r => match r with
  | .bo d => .rt (.fr d) | r => .rt r
theorem rs_ret (ha : PE X e (tE c f)) : PS X (.Return (some e) pos) (tS c (sRet f)) := by
  refine PS.weak (ps_ret ha) ?_
  rintro D σ H ⟨G, Γ, he, q⟩
  refine sE he q fun r v G1 H1 _ g1 v1 fr he1 q1 => ?_
  cases r with
  | sh d => exact q1 v G1 H1 he1.end (Same.refl _) v1 (fun _ z => by cases z)
  | fr d => exact q1 v G1 H1 he1.end (Same.refl _) v1 (fun _ z => by cases z)
  | bo d => exact q1 v G1 H1 he1.end (Same.refl _) v1 (fun _ z => by cases z)
def sRetN : FS := fun _ => .rt (.sh .n)
theorem rs_retN : PS X (.Return none pos) (tS c sRetN) := by
  refine PS.weak ps_retN ?_
  rintro D σ H ⟨G, Γ, he, q⟩
  exact q .non G H he.end (Same.refl _) .n (fun _ z => by cases z)
def sEx (f : FE) : FS := fun Γ => (f Γ).fl Γ fun _ => .nx Γ
theorem rs_ex (ha : PE X e (tE c f)) (hs : swapsWith e none pos.line X.env = pure false := by rfl) : PS X (.Expr e pos) (tS c (sEx f)) := by
  refine PS.weak (ps_expr ha hs) ?_
  rintro D σ H ⟨G, Γ, he, q⟩
  exact sE he q fun r v G1 H1 _ g1 v1 fr he1 q1 => q1 σ G1 H1 he1 (Same.refl _)

theorem set_get {α : Type} {l : List (Option α)} {i j : Nat} {x y : α} (h : (l.set i (some x))[j]? = some (some y)) : (j = i ∧ x = y ∧ i < l.length) ∨ (j ≠ i ∧ l[j]? = some (some y)) := by
  by_cases hj : j = i
  · subst hj
    by_cases hl : j < l.length
    · rw [List.getElem?_set_self hl] at h; cases h; exact .inl ⟨rfl, rfl, hl⟩
    · rw [List.getElem?_eq_none (by simpa using hl)] at h; cases h
  · rw [List.getElem?_set_ne (Ne.symm hj)] at h; exact .inr ⟨hj, h⟩
theorem EnvOk.setSh {G H : Hp} {σ : St} {Γ : Env'} (he : EnvOk c G H σ Γ) (i : Nat) {v : V} {d : D} (h : Rep c.K G v d) : EnvOk c G H (σ.set i (some v)) (Γ.set i (some (.sh d))) := by
  refine ⟨he.bh, he.g0, he.gh, he.gf, by simpa using he.len, fun j r hj => ?_, fun j k x y p hj hk sj sk => ?_⟩
  · rcases set_get hj with ⟨rfl, rfl, hl⟩ | ⟨hne, hj⟩
    · exact ⟨v, List.getElem?_set_self (by rw [he.len]; exact hl), h, fun _ z => by cases z⟩
    · obtain ⟨w, h1, h2, h3⟩ := he.at' j r hj
      exact ⟨w, by rw [List.getElem?_set_ne (Ne.symm hne)]; exact h1, h2, h3⟩
  · rcases set_get hj with ⟨_, z, _⟩ | ⟨nj, hj⟩
    · cases z
    · rcases set_get hk with ⟨_, z, _⟩ | ⟨nk, hk⟩
      · cases z
      · rw [List.getElem?_set_ne (Ne.symm nj)] at sj
        rw [List.getElem?_set_ne (Ne.symm nk)] at sk
        exact he.sep j k x y p hj hk sj sk
theorem EnvOk.setFr {G H : Hp} {σ : St} {Γ : Env'} (he : EnvOk c G H σ Γ) (i : Nat) {p : Addr} {d : D} (bp : c.B p = none) (gp : G p = none) (o : Own c.K G H p d)
    (nw : ∀ (j : Nat) (e : D), Γ[j]? = some (some (Rv.fr e)) → σ[j]? ≠ some (some (V.ref p))) : EnvOk c G H (σ.set i (some (.ref p))) (Γ.set i (some (.fr d))) := by
  refine ⟨he.bh, he.g0, he.gh, he.gf, by simpa using he.len, fun j r hj => ?_, fun j k x y q hj hk sj sk => ?_⟩
  · rcases set_get hj with ⟨rfl, rfl, hl⟩ | ⟨hne, hj⟩
    · exact ⟨.ref p, List.getElem?_set_self (by rw [he.len]; exact hl), ⟨p, rfl, bp, gp, o⟩, fun _ z => by cases z⟩
    · obtain ⟨w, h1, h2, h3⟩ := he.at' j r hj
      exact ⟨w, by rw [List.getElem?_set_ne (Ne.symm hne)]; exact h1, h2, h3⟩
  · rcases set_get hj with ⟨ej, _, _⟩ | ⟨nj, hj'⟩
    · rcases set_get hk with ⟨ek, _, _⟩ | ⟨nk, hk'⟩
      · rw [ej, ek]
      · subst ej
        rw [List.getElem?_set_ne (Ne.symm nk)] at sk
        rcases set_get sj with ⟨_, z, _⟩ | ⟨z, _⟩
        · cases z; exact absurd sk (nw k y hk')
        · exact absurd rfl z
    · rcases set_get hk with ⟨ek, _, _⟩ | ⟨nk, hk'⟩
      · subst ek
        rw [List.getElem?_set_ne (Ne.symm nj)] at sj
        rcases set_get sk with ⟨_, z, _⟩ | ⟨z, _⟩
        · cases z; exact absurd sj (nw j x hj')
        · exact absurd rfl z
      · rw [List.getElem?_set_ne (Ne.symm nj)] at sj
        rw [List.getElem?_set_ne (Ne.symm nk)] at sk
        exact he.sep j k x y q hj' hk' sj sk
theorem EnvOk.newTo {G H : Hp} {σ : St} {Γ : Env'} (he : EnvOk c G H σ Γ) {p : Addr} (hp : H p = none) : ∀ (j : Nat) (e : D), Γ[j]? = some (some (Rv.fr e)) → σ[j]? ≠ some (some (V.ref p)) := fun j e hj z => by
  obtain ⟨v, h1, h2, _⟩ := he.at' j _ hj
  obtain ⟨q, rfl, _, _, o⟩ := h2
  rw [h1] at z
  cases z
  obtain ⟨u, hu⟩ := o.some
  rw [hp] at hu
  cases hu
def setR (i : Nat) (Γ : Env') : Rv → Fl
  | .bo _ => .bad | r => .nx (Γ.set i (some r))
def sSet (i : Nat) (f : FE) : FS := fun Γ => (f Γ).fl Γ (setR i Γ)
theorem set_env {G H G1 H1 : Hp} {σ : St} {Γ : Env'} {D : Ends} {i : Nat} {r : Rv} {v : V} (he : EnvOk c G H σ Γ) (g : Gr G H G1 H1) (h : RV c G1 H1 v r) (fr : Fresh H v r) (q : PostS c (setR i Γ r) G D) : D.nx (σ.set i (some v)) H1 := by
  cases r with
  | sh d => exact q _ G1 H1 ((he.mono g).setSh i h) g.gg
  | fr d =>
    obtain ⟨p, rfl, bp, gp, o⟩ := h
    obtain ⟨p', e', hp⟩ := fr
    cases e'
    exact q _ G1 H1 ((he.mono g).setFr i bp gp o (he.newTo hp)) g.gg
  | bo d => exact q.elim
theorem rs_set (cy : Cy X c) {i : Nat} {x : Str} {pos' : Pos} (hi : X.N[i]? = some x) (hx : Loc X.env.scope x) (ha : PE X e (tE c f)) (hs : swapsWith e (some (.Name x pos')) pos.line X.env = pure false := by rfl)
    (hf : X.fn x = true ∨ X.env.scope.names.lookup x = some .local := by first | exact .inl rfl | exact .inr rfl) : PS X (.Assign [.Name x pos'] e pos) (tS c (sSet i f)) := by
  refine PS.weak (ps_set cy.nd hi hx ha hs hf) ?_
  rintro D σ H ⟨G, Γ, he, q⟩
  exact sE0 he q fun r v G1 H1 _ g1 v1 fr q1 => set_env he g1 v1 fr q1
def frz (i : Nat) (Γ : Env') : Env' := match Γ[i]? with
  | some (some (.fr d)) => Γ.set i (some (.sh d))
  | _ => Γ
def sFrz (i : Nat) (u : FS) : FS := fun Γ => u (frz i Γ)
theorem EnvOk.frz {G H : Hp} {σ : St} {Γ : Env'} (he : EnvOk c G H σ Γ) (i : Nat) : ∃ G', Same G G' ∧ EnvOk c G' H σ (Ly.frz i Γ) := by
  unfold Ly.frz
  split
  · rename_i d hi
    obtain ⟨v, h1, ⟨p, rfl, bp, gp, o⟩, _⟩ := he.at' i _ hi
    obtain ⟨w, hw, rp⟩ := o.rep gp
    have sm : Same G (upd G p w) := fun b x q => by rw [upd_ne (ne_of_none q gp)]; exact q
    have il : i < Γ.length := (List.getElem?_eq_some_iff.mp hi).1
    refine ⟨upd G p w, sm, ⟨he.bh, he.g0.trans sm, fun b x q => ?_, fun b x q n => ?_, by simpa using he.len, fun j r hj => ?_, fun j k x y q hj hk sj sk => ?_⟩⟩
    · by_cases hb : b = p
      · subst hb; rw [upd_same] at q; rw [hw]; exact q
      · rw [upd_ne hb] at q; exact he.gh b x q
    · by_cases hb : b = p
      · subst hb; exact absurd bp n
      · rw [upd_ne hb] at q; exact he.gf b x q n
    · rcases set_get hj with ⟨rfl, rfl, hl⟩ | ⟨hne, hj⟩
      · exact ⟨.ref p, h1, rp, fun _ z => by cases z⟩
      · obtain ⟨v', h1', h2', h3'⟩ := he.at' j r hj
        refine ⟨v', h1', ?_, h3'⟩
        cases r with
        | sh d' => exact Rep.mono sm h2'
        | fr d' =>
          obtain ⟨p', rfl, bp', gp', o'⟩ := h2'
          have np : p' ≠ p := fun z => by subst z; exact hne (he.sep j i _ _ p' hj hi h1' h1)
          exact ⟨p', rfl, bp', by rw [upd_ne np]; exact gp', o'.mono (Same.refl _) sm⟩
        | bo d' => exact absurd rfl (h3' d')
    · rcases set_get hj with ⟨_, z, _⟩ | ⟨nj, hj⟩
      · cases z
      · rcases set_get hk with ⟨_, z, _⟩ | ⟨nk, hk⟩
        · cases z
        · exact he.sep j k x y q hj hk sj sk
  · exact ⟨G, Same.refl _, he⟩
theorem rs_frz {sts : List Stmt} (i : Nat) (h : PSs X sts (tS c u)) : PSs X sts (tS c (sFrz i u)) := by
  refine PSs.weak h ?_
  rintro D σ H ⟨G, Γ, he, q⟩
  obtain ⟨G', s, he'⟩ := he.frz i
  exact ⟨G', _, he', PostS.later s q⟩
def setN : List Nat → List D → Env' → Option Env'
  | [], [], Γ => some Γ
  | i :: is, d :: ds, Γ => setN is ds (Γ.set i (some (.sh d)))
  | _, _, _ => none
def gNames : List Nat → TGs
  | [] => gNil
  | i :: is => gCons (gName i) (gNames is)
theorem gNames_ok {G H : Hp} {Q : St → Hp → Prop} : ∀ {is : List Nat} {ds : List D} {vs : List V} {σ : St} {Γ Γ' : Env'}, EnvOk c G H σ Γ → Reps c.K G vs ds → setN is ds Γ = some Γ' → (∀ σ', EnvOk c G H σ' Γ' → (∀ j, j ∉ is → σ'[j]? = σ[j]?) → Q σ' H) → gNames is vs σ H Q
  | [], [], _, σ, Γ, Γ', he, .nil, e, q => by
    cases e
    exact ⟨rfl, q σ he (fun _ _ => rfl)⟩
  | i :: is, d :: ds, _, σ, Γ, Γ', he, .cons (v := v) (vs := vs) r rs, e, q => by
    refine ⟨_, _, rfl, ?_⟩
    refine gNames_ok (is := is) (he.setSh i r) rs e fun σ' h1 h2 => q σ' h1 fun j hj => ?_
    rw [h2 j (fun z => hj (List.mem_cons_of_mem _ z)), List.getElem?_set_ne (fun z => hj (by rw [z]; exact List.mem_cons_self))]
  | [], _ :: _, _, _, _, _, _, _, e, _ => by cases e
  | _ :: _, [], _, _, _, _, _, _, e, _ => by cases e
inductive Tg where
  | one (i : Nat) | tup (is : List Nat)
def Tg.ix : Tg → List Nat
  | .one i => [i] | .tup is => is
def Tg.set : Tg → D → Env' → Option Env'
  | .one i, d, Γ => some (Γ.set i (some (.sh d)))
  | .tup is, .t ds, Γ => setN is ds Γ
  | .tup _, _, _ => none
def Tg.tgt (K : PySem.W.Frag) : Tg → TG
  | .one i => gName i
  | .tup is => gTup K is.length (gNames is)
theorem setN_length : ∀ {is : List Nat} {ds : List D} {Γ Γ' : Env'}, setN is ds Γ = some Γ' → ds.length = is.length
  | [], [], _, _, _ => rfl
  | _ :: is, _ :: ds, _, _, e => by simp [setN_length (is := is) e]
  | [], _ :: _, _, _, e => by cases e
  | _ :: _, [], _, _, e => by cases e
theorem Tg.ok {G H : Hp} {t : Tg} {d : D} {v : V} {σ : St} {Γ Γ' : Env'} {Q : St → Hp → Prop} (he : EnvOk c G H σ Γ) (r : Rep c.K G v d) (e : t.set d Γ = some Γ') (q : ∀ σ', EnvOk c G H σ' Γ' → (∀ j, j ∉ t.ix → σ'[j]? = σ[j]?) → Q σ' H) : t.tgt c.K v σ H Q := by
  cases t with
  | one i =>
    cases e
    exact q _ (he.setSh i r) fun j hj => List.getElem?_set_ne (fun z => hj (by rw [z]; exact List.mem_cons_self))
  | tup is =>
    cases d with
    | t ds =>
      obtain ⟨a, xs, e1, e2, e3⟩ := r.t_inv
      exact ⟨a, xs, e1, SqT.of (he.gh _ _ e2), by rw [e3.length, setN_length (show setN is ds Γ = some Γ' from e)], gNames_ok he e3 e q⟩
    | _ => cases e
theorem rg_one (cy : Cy X c) {i : Nat} {x : Str} (hi : X.N[i]? = some x) (hx : Loc X.env.scope x) (hf : X.fn x = true ∨ X.env.scope.names.lookup x = some .local := by first | exact .inl rfl | exact .inr rfl) : PG X (.Name x pos) ((Tg.one i).tgt c.K) :=
  pg_name cy.nd hi hx hf
def sAsg (t : Tg) (f : FE) : FS := fun Γ => (f Γ).fl Γ fun r => match r with
  | .sh d => (match t.set d Γ with | some Γ' => .nx Γ' | none => .bad)
  | _ => .bad
theorem rs_asg {t : Tg} {tg : Expr} (hg : PG X tg (t.tgt c.K)) (ha : PE X e (tE c f)) (hs : swapsWithSole [tg] e pos.line X.env = pure false := by rfl) (hw : swappedStores [tg] e X.env = pure none := by rfl)
    (h1 : (assignEach [tg] X.env).map (·.2) = [assign tg X.env] := by rfl) : PS X (.Assign [tg] e pos) (tS c (sAsg t f)) := by
  refine PS.weak (ps_asg ha hg hs hw h1) ?_
  rintro D σ H ⟨G, Γ, he, q⟩
  refine sE he q fun r v G1 H1 _ g1 v1 fr he1 q1 => ?_
  cases r with
  | sh d =>
    dsimp only at q1
    cases e' : t.set d Γ with
    | none => rw [e'] at q1; exact q1.elim
    | some Γ' =>
      rw [e'] at q1
      exact Tg.ok he1 v1 e' fun σ' h1 _ => q1 σ' G1 H1 h1 (Same.refl _)
  | fr d => exact q1.elim
  | bo d => exact q1.elim
end
end Ly
end

section
set_option maxRecDepth 100000
namespace Ly
open PySem PySem.Spec L2
open PyProof.Rows hiding St

theorem Own.at {K : PySem.W.Frag} {G H H' : Hp} {p : Addr} {d : D} (e : H' p = H p) (o : Own K G H p d) : Own K G H' p d := by
  cases o with
  | l h r => exact .l (e.trans h) r
  | dk h q r => exact .dk (e.trans h) q r
  | dt h q r => exact .dt (e.trans h) q r
section
variable {X : Cx} {c : LC} {a b e : Expr} {es : List Expr} {f g h : FE} {ft : FT} {fa : FA} {u v : FS} {pos : Pos}
theorem EnvOk.put {G H : Hp} {σ : St} {Γ : Env'} (he : EnvOk c G H σ Γ) {i : Nat} {p : Addr} {d d' : D} {o' : HO} (hi : Γ[i]? = some (some (.fr d))) (hs : σ[i]? = some (some (.ref p))) (o : Own c.K G (upd H p o') p d') :
    EnvOk c G (upd H p o') σ (Γ.set i (some (.fr d'))) := by
  obtain ⟨v, h1, ⟨p', e', bp, gp, _⟩, _⟩ := he.at' i _ hi
  rw [hs] at h1
  cases h1
  cases e'
  refine ⟨fun b x q => ?_, he.g0, fun b x q => ?_, he.gf, by simpa using he.len, fun j r hj => ?_, fun j k x y q hj hk sj sk => ?_⟩
  · rw [upd_ne (ne_of_none q bp)]; exact he.bh b x q
  · rw [upd_ne (ne_of_none q gp)]; exact he.gh b x q
  · rcases set_get hj with ⟨rfl, rfl, hl⟩ | ⟨hne, hj⟩
    · exact ⟨.ref p, hs, ⟨p, rfl, bp, gp, o⟩, fun _ z => by cases z⟩
    · obtain ⟨w, h1, h2, h3⟩ := he.at' j r hj
      refine ⟨w, h1, ?_, h3⟩
      cases r with
      | sh x => exact h2
      | fr x =>
        obtain ⟨q, rfl, bq, gq, oq⟩ := h2
        have nq : q ≠ p := fun z => by subst z; exact hne (he.sep j i _ _ q hj hi h1 hs)
        exact ⟨q, rfl, bq, gq, oq.at (upd_ne nq)⟩
      | bo x => exact absurd rfl (h3 x)
  · have old : ∀ (m : Nat) (z : D), (Γ.set i (some (.fr d')))[m]? = some (some (.fr z)) → ∃ z', Γ[m]? = some (some (.fr z')) := fun m z hm => by
      rcases set_get hm with ⟨rfl, _, _⟩ | ⟨_, hm⟩
      · exact ⟨_, hi⟩
      · exact ⟨_, hm⟩
    obtain ⟨x', hj'⟩ := old j x hj
    obtain ⟨y', hk'⟩ := old k y hk
    exact he.sep j k x' y' q hj' hk' sj sk
theorem EnvOk.list {G H : Hp} {σ : St} {Γ : Env'} (he : EnvOk c G H σ Γ) {i : Nat} {ds : List D} (hi : Γ[i]? = some (some (.fr (.l ds)))) :
    ∃ p xs, σ[i]? = some (some (.ref p)) ∧ G p = none ∧ H p = some (.lst xs) ∧ Reps c.K G xs ds := by
  obtain ⟨v, h1, ⟨p, rfl, bp, gp, o⟩, _⟩ := he.at' i _ hi
  cases o with
  | l h2 h3 => exact ⟨p, _, h1, gp, h2, h3⟩
theorem sS {σ : St} {H G : Hp} {Γ : Env'} {D' : Ends} {k : D → Fl} {R : VK} (he : EnvOk c G H σ Γ) (h : PostS c ((f Γ).fl Γ fun r => (share r).fl Γ k) G D')
    (hk : ∀ d v G' H', Gr G H G' H' → Rep c.K G' v d → EnvOk c G' H' σ Γ → PostS c (k d) G' D' → R v H') : tE c f σ H R := by
  refine sE0 he h fun r v G1 H1 _ g1 v1 fr q1 => ?_
  cases e1 : share r with
  | bad => rw [e1] at q1; exact q1.elim
  | ex x => cases r <;> cases e1
  | ok d =>
    rw [e1] at q1
    obtain ⟨G2, g2, s2, rp⟩ := v1.share g1 fr e1
    exact hk d v G2 H1 g2 rp (he.mono g2) (PostS.later g2.gg q1)

def sApp (i : Nat) (f : FE) : FS := fun Γ => match Γ[i]? with
  | some (some (.fr (.l ds))) => (f Γ).fl Γ fun r => (share r).fl Γ fun d => if ds.length < 16777216 then .nx (Γ.set i (some (.fr (.l (ds ++ [d]))))) else .bad
  | _ => .bad
theorem rs_app {i : Nat} {x : Str} {px apos cpos : Pos} (hN : X.N[i]? = some x) (hv : Vis X.env.scope x) (ha : PE X e (tE c f))
    (hd : (x == ("__debug__" : Str)) = false := by decide) (hcd : (x == ("__classdict__" : Str)) = false := by decide)
    (hsw : swapsWith (.Call (.Attribute (.Name x px) "append" apos) [e] [] cpos) none pos.line X.env = pure false := by rfl)
    (hbase : attributeBase (.Name x px) "append" X.env (eval (.Name x px) X.env) = eval (.Name x px) X.env := by rfl)
    (hfew : ((backTo cpos (starEach [e] X.env)).all (fun x => !x.1) && (backToKw cpos (keywordEach [] X.env)).all (fun x => x.1.isSome)
      && decide ([e].length + ([] : List Keyword).length + (if ([] : List Keyword).isEmpty then 0 else 1) < 30)) = true := by rfl)
    (hline : (apos.endLine == cpos.line) = true := by rfl) (hs : starEach [e] X.env = [(false, eval e X.env)] := by rfl) :
    PS X (.Expr (.Call (.Attribute (.Name x px) "append" apos) [e] [] cpos) pos) (tS c (sApp i f)) := by
  refine PS.weak (ps_expr (pe_bm PySem.F.plainAttrs_list PySem.F.slot_list_append PySem.F.type_list_append mt_append (pe_var hN hv hd hcd) (pa_cons ha pa_nil hs) hbase hfew hline hs) hsw) ?_
  rintro D σ H ⟨G, Γ, he, q⟩
  unfold sApp at q
  split at q
  · rename_i ds hi
    obtain ⟨p, xs, h1, gp, h2, h3⟩ := he.list hi
    refine ⟨_, h1, .inl ⟨rfl, _, SqL.of h2⟩, ?_⟩
    refine sS he q fun d v G1 H1 g1 r1 he1 q1 => ?_
    split at q1
    · refine ⟨p, xs, v, rfl, rfl, g1.hh _ _ h2, by rw [h3.length, sizeLine_eq]; assumption, ?_⟩
      exact q1 σ G1 _ (he1.put (d' := .l (ds ++ [d])) hi h1 (.l upd_same ((h3.mono g1.gg).append (.cons r1 .nil)))) (Same.refl _)
    · exact q1.elim
  · exact q.elim
def sIns (i : Nat) (f g : FE) : FS := fun Γ => match Γ[i]? with
  | some (some (.fr (.l ds))) => (f Γ).fl Γ fun r => match r.d with
    | .i k => (g Γ).fl Γ fun r => (share r).fl Γ fun d => if ds.length < 16777216 ∧ 0 ≤ k ∧ k < 2 ^ 63 then .nx (Γ.set i (some (.fr (.l (ds.take k.toNat ++ [d] ++ ds.drop k.toNat))))) else .bad
    | _ => .bad
  | _ => .bad
theorem rs_ins {i : Nat} {x : Str} {px apos cpos : Pos} (hN : X.N[i]? = some x) (hv : Vis X.env.scope x) (ha : PE X a (tE c f)) (hb : PE X b (tE c g))
    (hd : (x == ("__debug__" : Str)) = false := by decide) (hcd : (x == ("__classdict__" : Str)) = false := by decide)
    (hsw : swapsWith (.Call (.Attribute (.Name x px) "insert" apos) [a, b] [] cpos) none pos.line X.env = pure false := by rfl)
    (hbase : attributeBase (.Name x px) "insert" X.env (eval (.Name x px) X.env) = eval (.Name x px) X.env := by rfl)
    (hfew : ((backTo cpos (starEach [a, b] X.env)).all (fun x => !x.1) && (backToKw cpos (keywordEach [] X.env)).all (fun x => x.1.isSome)
      && decide ([a, b].length + ([] : List Keyword).length + (if ([] : List Keyword).isEmpty then 0 else 1) < 30)) = true := by rfl)
    (hline : (apos.endLine == cpos.line) = true := by rfl) (hs : starEach [a, b] X.env = (false, eval a X.env) :: starEach [b] X.env := by rfl) (hs2 : starEach [b] X.env = [(false, eval b X.env)] := by rfl)
    (hpl : (backTo cpos (starEach [b] X.env)).any (·.1) = false := by rfl) :
    PS X (.Expr (.Call (.Attribute (.Name x px) "insert" apos) [a, b] [] cpos) pos) (tS c (sIns i f g)) := by
  refine PS.weak (ps_expr (pe_bm PySem.F.plainAttrs_list PySem.F.slot_list_insert PySem.F.type_list_insert mt_insert (pe_var hN hv hd hcd) (pa_cons ha (pa_cons hb pa_nil hs2) hs) hbase hfew hline hs hpl) hsw) ?_
  rintro D σ H ⟨G, Γ, he, q⟩
  unfold sIns at q
  split at q
  · rename_i ds hi
    obtain ⟨p, xs, h1, gp, h2, h3⟩ := he.list hi
    refine ⟨_, h1, .inl ⟨rfl, _, SqL.of h2⟩, ?_⟩
    refine sE he q fun r v G1 H1 _ g1 v1 fr he1 q1 => ?_
    split at q1
    · rename_i k ek
      refine sS he1 q1 fun d w G2 H2 g2 r2 he2 q2 => ?_
      split at q2
      · rename_i hc
        cases v1.int ek
        refine ⟨p, xs, k, w, rfl, rfl, g2.hh _ _ (g1.hh _ _ h2), by rw [h3.length, sizeLine_eq]; exact hc.1, hc.2.1, hc.2.2, ?_⟩
        have h3' := (h3.mono g1.gg).mono g2.gg
        exact q2 σ G2 _ (he2.put (d' := .l (ds.take k.toNat ++ [d] ++ ds.drop k.toNat)) hi h1 (.l upd_same (((h3'.take _).append (.cons r2 .nil)).append (h3'.drop _)))) (Same.refl _)
      · exact q2.elim
    · exact q1.elim
  · exact q.elim

def tGt (c : LC) (s : D → Env' → Re Env') : TG := fun v σ H Q => ∃ G Γ d, EnvOk c G H σ Γ ∧ Rep c.K G v d ∧ match s d Γ with
  | .ok Γ' => ∀ σ' G' H', EnvOk c G' H' σ' Γ' → Same G G' → Q σ' H'
  | _ => False
theorem PG.weak {tg : Expr} {t t' : TG} (h : PG X tg t) (w : ∀ v σ H Q, t' v σ H Q → t v σ H Q) : PG X tg t' := ⟨fun pins s σ H v u Q I r q => h.run pins s σ H v u Q I r (w _ _ _ _ q)⟩
def gOne (i : Nat) : D → Env' → Re Env' := fun d Γ => .ok (Γ.set i (some (.sh d)))
def gSubL (i : Nat) (f : FE) : D → Env' → Re Env' := fun d Γ => match Γ[i]? with
  | some (some (.fr (.l ds))) => (f Γ).bind fun r => match r.d with
    | .i k => (match ixN ds.length k with | some j => .ok (Γ.set i (some (.fr (.l (ds.set j d))))) | none => .bad)
    | _ => .bad
  | _ => .bad
theorem rg_name (cy : Cy X c) {i : Nat} {x : Str} (hi : X.N[i]? = some x) (hx : Loc X.env.scope x) (hf : X.fn x = true ∨ X.env.scope.names.lookup x = some .local := by first | exact .inl rfl | exact .inr rfl) : PG X (.Name x pos) (tGt c (gOne i)) :=
  PG.weak (pg_name cy.nd hi hx hf) fun v σ H Q ⟨G, Γ, d, he, r, q⟩ => q _ G H (he.setSh i r) (Same.refl _)
theorem rg_sub {i : Nat} {x : Str} {px : Pos} (hN : X.N[i]? = some x) (hv : Vis X.env.scope x) (hb : PE X b (tE c f))
    (hd : (x == ("__debug__" : Str)) = false := by decide) (hcd : (x == ("__classdict__" : Str)) = false := by decide)
    (ha : ∀ v, assign (.Subscript (.Name x px) b pos) X.env v = (do
      let ov ← holding [v] (eval (.Name x px) X.env)
      let iv ← holding [v, ov] (eval b X.env)
      standAt pos
      holding [v, ov, iv] (setItem ov iv v)
      release [v, ov, iv] []) := by intro _; rfl) :
    PG X (.Subscript (.Name x px) b pos) (tGt c (gSubL i f)) := by
  refine PG.weak (pg_sub (pe_var hN hv hd hcd) hb set_list ha) ?_
  rintro v σ H Q ⟨G, Γ, d, he, r, q⟩
  cases e : gSubL i f d Γ with
  | bad => rw [e] at q; exact q.elim
  | ex x => rw [e] at q; exact q.elim
  | ok Γ' =>
    rw [e] at q
    unfold gSubL at e
    split at e
    · rename_i ds hi
      obtain ⟨p, xs, h1, gp, h2, h3⟩ := he.list hi
      refine ⟨_, h1, G, Γ, he, ?_⟩
      cases ef : f Γ with
      | bad => rw [ef] at e; cases e
      | ex x => rw [ef] at e; cases e
      | ok rr =>
        rw [ef] at e
        simp only [Re.bind_ok] at e
        intro w G1 H1 g1 v1 fr
        split at e
        · rename_i k ek
          split at e
          · rename_i j hj
            cases e
            cases v1.int ek
            refine ⟨p, xs, k, j, rfl, rfl, g1.hh _ _ h2, by rw [h3.length]; exact hj, ?_⟩
            exact q σ G1 _ ((he.mono g1).put (d' := .l (ds.set j d)) hi h1 (.l upd_same ((h3.mono g1.gg).set (r.mono g1.gg) j))) g1.gg
          · cases e
        · cases e
    · cases e
def gAll : List (D → Env' → Re Env') → List D → Env' → Re Env'
  | [], [], Γ => .ok Γ
  | s :: ss, d :: ds, Γ => (s d Γ).bind fun Γ' => gAll ss ds Γ'
  | _, _, _ => .bad
def tGts (c : LC) : List (D → Env' → Re Env') → TGs
  | [] => gNil
  | s :: ss => gCons (tGt c s) (tGts c ss)
theorem gAll_ok {Q : St → Hp → Prop} : ∀ {ss : List (D → Env' → Re Env')} {ds : List D} {vs : List V} {σ : St} {Γ Γ' : Env'} {G H : Hp}, EnvOk c G H σ Γ → Reps c.K G vs ds → gAll ss ds Γ = .ok Γ' →
    (∀ σ' G' H', EnvOk c G' H' σ' Γ' → Same G G' → Q σ' H') → tGts c ss vs σ H Q
  | [], [], _, σ, Γ, Γ', G, H, he, .nil, e, q => by
    cases e
    exact ⟨rfl, q σ G H he (Same.refl _)⟩
  | s :: ss, d :: ds, _, σ, Γ, Γ', G, H, he, .cons (v := v) (vs := vs) r rs, e, q => by
    refine ⟨_, _, rfl, G, Γ, d, he, r, ?_⟩
    have e' : (s d Γ).bind (fun Γ' => gAll ss ds Γ') = .ok Γ' := e
    cases es : s d Γ with
    | bad => rw [es] at e'; cases e'
    | ex x => rw [es] at e'; cases e'
    | ok Γ1 =>
      rw [es] at e'
      exact fun σ1 G1 H1 he1 s1 => gAll_ok he1 (rs.mono s1) e' fun σ2 G2 H2 he2 s2 => q σ2 G2 H2 he2 (s1.trans s2)
  | [], _ :: _, _, _, _, _, _, _, _, _, e, _ => by cases e
  | _ :: _, [], _, _, _, _, _, _, _, _, e, _ => by cases e
def gTupL (ss : List (D → Env' → Re Env')) : D → Env' → Re Env' := fun d Γ => match d with
  | .t ds => gAll ss ds Γ | _ => .bad
theorem gAll_length : ∀ {ss : List (D → Env' → Re Env')} {ds : List D} {Γ Γ' : Env'}, gAll ss ds Γ = .ok Γ' → ds.length = ss.length
  | [], [], _, _, _ => rfl
  | s :: ss, d :: ds, Γ, Γ', e => by
    have e' : (s d Γ).bind (fun Γ' => gAll ss ds Γ') = .ok Γ' := e
    cases es : s d Γ with
    | bad => rw [es] at e'; cases e'
    | ex x => rw [es] at e'; cases e'
    | ok Γ1 => rw [es] at e'; simp [gAll_length (show gAll ss ds Γ1 = .ok Γ' from e')]
  | [], _ :: _, _, _, e => by cases e
  | _ :: _, [], _, _, e => by cases e
theorem rg_nil : PGs X [] (tGts c []) := pgs_nil
theorem rg_cons {s : D → Env' → Re Env'} {ss : List (D → Env' → Re Env')} (h1 : PG X e (tGt c s)) (h2 : PGs X es (tGts c ss))
    (hs : (assignEach (e :: es) X.env).map (·.2) = assign e X.env :: (assignEach es X.env).map (·.2) := by rfl) : PGs X (e :: es) (tGts c (s :: ss)) := pgs_cons h1 h2 hs
theorem rg_tup (cy : Cy X c) {k : Nat} {ss : List (D → Env' → Re Env')} (h : PGs X es (tGts c ss)) (hn : (assignEach es X.env).length = ss.length := by rfl) (hst : (assignEach es X.env).findIdx? (·.1) = none := by rfl) :
    PG X (.Tuple es k pos) (tGt c (gTupL ss)) := by
  refine PG.weak (pg_tup cy.calm h hn hst) ?_
  rintro v σ H Q ⟨G, Γ, d, he, r, q⟩
  cases d with
  | t ds =>
    obtain ⟨a, xs, e1, e2, e3⟩ := r.t_inv
    cases e : gAll ss ds Γ with
    | bad => rw [show gTupL ss (D.t ds) Γ = gAll ss ds Γ from rfl, e] at q; exact q.elim
    | ex x => rw [show gTupL ss (D.t ds) Γ = gAll ss ds Γ from rfl, e] at q; exact q.elim
    | ok Γ' =>
      rw [show gTupL ss (D.t ds) Γ = gAll ss ds Γ from rfl, e] at q
      refine ⟨a, xs, e1, by rw [cy.K]; exact SqT.of (he.gh _ _ e2), by rw [e3.length, gAll_length e], gAll_ok he e3 e q⟩
  | _ => exact q.elim
def sAsgT (s : D → Env' → Re Env') (f : FE) : FS := fun Γ => (f Γ).fl Γ fun r => (share r).fl Γ fun d => match s d Γ with
  | .ok Γ' => .nx Γ' | _ => .bad
theorem rs_asgT {s : D → Env' → Re Env'} {tg : Expr} (hg : PG X tg (tGt c s)) (ha : PE X e (tE c f)) (hs : swapsWithSole [tg] e pos.line X.env = pure false := by rfl) (hw : swappedStores [tg] e X.env = pure none := by rfl)
    (h1 : (assignEach [tg] X.env).map (·.2) = [assign tg X.env] := by rfl) : PS X (.Assign [tg] e pos) (tS c (sAsgT s f)) := by
  refine PS.weak (ps_asg ha hg hs hw h1) ?_
  rintro D σ H ⟨G, Γ, he, q⟩
  refine sS he q fun d v G1 H1 g1 r1 he1 q1 => ⟨G1, Γ, d, he1, r1, ?_⟩
  cases es : s d Γ with
  | bad => rw [es] at q1; exact q1.elim
  | ex x => rw [es] at q1; exact q1.elim
  | ok Γ' => rw [es] at q1; exact q1
def sAug (i : Nat) (k : Rv → Rv → Re Rv) (f : FE) : FS := fun Γ => (eV i Γ).fl Γ fun x => (f Γ).fl Γ fun y => (k x y).fl Γ (setR i Γ)
theorem rs_aug (cy : Cy X c) {i : Nat} {x : Str} {pos' : Pos} {op : Operator} {r : R2} {k : Rv → Rv → Re Rv} (hi : X.N[i]? = some x) (hx : Loc X.env.scope x) (ho : OpR X (inplaceOp op) r) (hk : Ok2 c r k) (ha : PE X e (tE c f))
    (hf : X.fn x = true ∨ X.env.scope.names.lookup x = some .local := by first | exact .inl rfl | exact .inr rfl) : PS X (.AugAssign (.Name x pos') op e pos) (tS c (sAug i k f)) := by
  refine PS.weak (ps_aug cy.nd hi hx ha (ti := r) ho hf) ?_
  rintro D σ H ⟨G, Γ, he, q⟩
  have hx : ∃ rx v, eV i Γ = .ok rx ∧ σ[i]? = some (some v) ∧ RV c G H v rx := by
    unfold sAug at q
    cases e1 : eV i Γ with
    | bad => rw [e1] at q; exact q.elim
    | ex x => unfold eV at e1; split at e1 <;> cases e1
    | ok rx =>
      unfold eV at e1
      split at e1
      · rename_i d hd
        cases e1
        obtain ⟨v, h1, h2, _⟩ := he.at' i _ hd
        exact ⟨_, v, rfl, h1, h2⟩
      · rename_i d hd
        cases e1
        obtain ⟨v, h1, h2, _⟩ := he.at' i _ hd
        exact ⟨_, v, rfl, h1, h2⟩
      · cases e1
  obtain ⟨rx, vx, e1, e2, v0⟩ := hx
  unfold sAug at q
  rw [e1] at q
  refine ⟨vx, e2, ?_⟩
  refine sE he q fun ry y G1 H1 _ g1 v1 fr he1 q1 => ?_
  refine hk σ G1 H1 vx y rx ry _ he1.gh he1.bh (v0.mono g1) v1 ?_
  cases e3 : k rx ry with
  | bad => rw [e3] at q1; exact q1
  | ex x => rw [e3] at q1; exact fun G' H' g => q1 σ G' H' (he1.mono g) g.gg
  | ok rz =>
    rw [e3] at q1
    exact fun z G2 H2 g2 v2 fr2 => set_env he1 g2 v2 fr2 q1
end
end Ly
end

section
set_option maxRecDepth 100000
namespace Ly
open PySem PySem.Spec L2
open PyProof.Rows hiding St

structure WalkOk (K : PySem.W.Frag) (G : Hp) (J : It) (ds : List D) : Prop where
  go : ∀ (G1 H1 : Hp), Same G G1 → Same G1 H1 → ∀ (i : Nat) (d : D), ds[i]? = some d → J.go i H1 ∧ ∀ x H2, J.yld i H1 x H2 → ∃ G2, Gr G1 H1 G2 H2 ∧ Rep K G2 x d
  stop : ∀ (H1 : Hp), Same G H1 → ∀ i, ds.length ≤ i → J.stop i H1
def PostI (c : LC) (re : Re (List D)) (σ : St) (G H : Hp) (R : It → Hp → Prop) : Prop := match re with
  | .ok ds => ∀ J G' H', Gr G H G' H' → WalkOk c.K G' J ds → R J H'
  | .ex e => ∀ G' H', Gr G H G' H' → ExAt c (fun C d H' => c.W C d σ H') e G' H'
  | .bad => False
def tI (c : LC) (f : FI) : TI := fun σ H R => ∃ G Γ, EnvOk c G H σ Γ ∧ PostI c (f Γ) σ G H R
theorem PI.weak {X : Cx} {tg e : Expr} {t t' : TI} (h : PI X tg e t) (w : ∀ σ H R, t' σ H R → t σ H R) : PI X tg e t' := ⟨fun pins s σ H R I q => h.run pins s σ H R I (w _ _ _ q)⟩
theorem PostI.later {c : LC} {re : Re (List D)} {σ : St} {G H G1 H1 : Hp} {R : It → Hp → Prop} (g : Gr G H G1 H1) (h : PostI c re σ G H R) : PostI c re σ G1 H1 R := by
  cases re with
  | bad => exact h
  | ex x => exact Post.ex_later g h
  | ok ds => exact fun J G2 H2 g2 w => h J G2 H2 (g.trans g2) w
section
variable {X : Cx} {c : LC} {a b e tg : Expr} {es : List Expr} {f g h : FE} {fi : FI} {fa : FA} {pos : Pos}
theorem iE {σ : St} {H : Hp} {G : Hp} {Γ : Env'} {Q : It → Hp → Prop} {k : Rv → Re (List D)} {R : VK} (he : EnvOk c G H σ Γ) (h : PostI c ((f Γ).bind k) σ G H Q)
    (hk : ∀ r v G' H', f Γ = .ok r → Gr G H G' H' → RV c G' H' v r → Fresh H v r → EnvOk c G' H' σ Γ → PostI c (k r) σ G' H' Q → R v H') : tE c f σ H R :=
  tE_bind (P := fun r G H => PostI c r σ G H Q) he (fun _ _ h => h) (fun _ _ _ h => h) (fun _ _ _ _ _ g h => h.later g) h hk
theorem iE0 {σ : St} {H : Hp} {G : Hp} {Γ : Env'} {Q : It → Hp → Prop} {k : Rv → Re (List D)} {R : VK} (he : EnvOk c G H σ Γ) (h : PostI c ((f Γ).bind k) σ G H Q)
    (hk : ∀ r v G' H', f Γ = .ok r → Gr G H G' H' → RV c G' H' v r → Fresh H v r → PostI c (k r) σ G H Q → R v H') : tE c f σ H R :=
  tE_bind0 (P := fun r => PostI c r σ G H Q) he (fun h => h) (fun x h => h) h hk
def itL (f : FE) : FI := fun Γ => (f Γ).bind fun r => (share r).bind fun d => match d.seq? with
  | some ds => .ok ds | none => .bad
theorem walk_list {K : PySem.W.Frag} {G : Hp} {a : Addr} {xs : List V} {ds : List D} (h : SqL K G a xs) (r : Reps K G xs ds) : WalkOk K G (Itl K a) ds := by
  refine ⟨fun G1 H1 s1 s2 i d hi => ?_, fun H1 s1 i hi => ⟨xs, s1.seq h, by rw [r.length]; exact hi⟩⟩
  obtain ⟨v, hv, rv⟩ := r.get' hi
  have h1 := s2.seq (s1.seq h)
  refine ⟨⟨xs, v, h1, hv⟩, ?_⟩
  rintro x H2 ⟨rfl, hx⟩
  have e := hx xs h1
  rw [hv] at e
  cases e
  exact ⟨G1, .refl s2, rv.mono s1⟩
theorem ri_list (cy : Cy X c) (ha : PE X e (tE c f)) : PI X tg e (tI c (itL f)) := by
  refine PI.weak (pi_list ha) ?_
  rintro σ H R ⟨G, Γ, he, q⟩
  refine iE0 he q fun r v G1 H1 eq1 g1 v1 fr q1 => ?_
  cases e1 : share r with
  | bad => rw [e1] at q1; exact q1.elim
  | ex x => cases r <;> cases e1
  | ok d =>
    rw [e1] at q1
    obtain ⟨G2, g2, s2, rp⟩ := v1.share g1 fr e1
    simp only [Re.bind_ok] at q1
    rw [cy.K]
    cases d with
    | l ds =>
      obtain ⟨a, xs, rfl, h1, h2⟩ := rp.l_inv
      exact ⟨a, rfl, ⟨xs, .of (g2.gh _ _ h1)⟩, q1 _ _ _ g2 (walk_list (.of h1) h2)⟩
    | z ds =>
      obtain ⟨a, xs, rfl, h1, h2⟩ := rp.z_inv
      exact ⟨a, rfl, ⟨xs, g2.gh.seq h1⟩, q1 _ _ _ g2 (walk_list h1 h2)⟩
    | _ => exact q1.elim
def itT (f : FE) : FI := fun Γ => (f Γ).bind fun r => match r with
  | .sh (.t ds) => .ok ds | .sh (.zt ds) => .ok ds | _ => .bad
theorem walk_tup {K : PySem.W.Frag} {G : Hp} {a : Addr} {xs : List V} {ds : List D} (h1 : SqT K G a xs) (h2 : Reps K G xs ds) : WalkOk K G (Itt K a) ds := by
  refine ⟨fun G2 H2 s1 s2 i d hi => ?_, fun H2 s1 i hi => ⟨xs, Same.tup s1 h1, by rw [h2.length]; exact hi⟩⟩
  obtain ⟨v, hv, rv⟩ := h2.get' hi
  have h3 := Same.tup s2 (Same.tup s1 h1)
  refine ⟨⟨xs, v, h3, hv⟩, ?_⟩
  rintro x H3 ⟨rfl, hx⟩
  have e := hx xs h3
  rw [hv] at e
  cases e
  exact ⟨G2, .refl s2, rv.mono s1⟩
theorem ri_tup (cy : Cy X c) (ha : PE X e (tE c f)) : PI X tg e (tI c (itT f)) := by
  refine PI.weak (pi_tup ha) ?_
  rintro σ H R ⟨G, Γ, he, q⟩
  refine iE he q fun r v G1 H1 eq1 g1 v1 fr he1 q1 => ?_
  split at q1
  · rename_i ds
    obtain ⟨a, xs, rfl, h1, h2⟩ := Rep.t_inv v1
    rw [cy.K]
    exact ⟨a, rfl, ⟨xs, SqT.of (he1.gh _ _ h1)⟩, q1 _ G1 H1 (.refl he1.gh) (walk_tup (SqT.of h1) h2)⟩
  · rename_i ds
    obtain ⟨a, xs, rfl, h1, h2⟩ := Rep.zt_inv v1
    rw [cy.K]
    exact ⟨a, rfl, ⟨xs, Same.tup he1.gh h1⟩, q1 _ G1 H1 (.refl he1.gh) (walk_tup h1 h2)⟩
  · exact q1.elim
def rgb (a b : Int) : Bool := decide (-(2 ^ 62) ≤ a ∧ a < 2 ^ 62 ∧ -(2 ^ 62) ≤ b ∧ b < 2 ^ 62)
theorem walk_range {K : PySem.W.Frag} {G : Hp} {lo : Int} {n : Nat} : WalkOk K G (Itr lo n) ((List.range n).map fun k => D.i (lo + (k : Nat))) := by
  refine ⟨fun G1 H1 s1 s2 i d hi => ?_, fun H1 s1 i hi => (by simpa using hi : n ≤ i)⟩
  rw [List.getElem?_map] at hi
  have hin : i < n := by
    rcases Nat.lt_or_ge i n with h | h
    · exact h
    · rw [List.getElem?_eq_none (by simpa using h)] at hi; cases hi
  rw [List.getElem?_range hin] at hi
  cases hi
  refine ⟨hin, ?_⟩
  rintro x H2 ⟨rfl, rfl⟩
  exact ⟨G1, .refl s2, .i _⟩
def itR (lo hi : Int) : Re (List D) := if rgb lo hi = true then .ok (rgD lo hi) else .bad
def itR1 (f : FE) : FI := fun Γ => (f Γ).bind fun r => match r with
  | .sh (.i j) => itR 0 j | _ => .bad
theorem ri_range1 {p : Pos} (hg : Gl X "range") (hm : X.mg "range" = none) (ha : PE X a (tE c f)) (hs : starEach [a] X.env = [(false, eval a X.env)] := by rfl) : PI X tg (.Call (.Name "range" p) [a] [] pos) (tI c (itR1 f)) := by
  refine PI.weak (pi_range1 hg hm (pa_cons ha pa_nil hs) hs) ?_
  rintro σ H R ⟨G, Γ, he, q⟩
  refine iE he q fun r v G1 H1 eq1 g1 v1 fr he1 q1 => ?_
  split at q1
  · rename_i j
    unfold itR at q1
    split at q1
    · rename_i hb
      obtain ⟨_, _, h3, h4⟩ := of_decide_eq_true hb
      cases (Rep.int_inv v1)
      refine ⟨j, rfl, h3, h4, q1 _ G1 H1 (.refl he1.gh) ?_⟩
      have w := walk_range (K := c.K) (G := G1) (lo := 0) (n := j.toNat)
      unfold rgD
      rw [Int.sub_zero]
      exact w
    · exact q1.elim
  · exact q1.elim
def itR2 (f g : FE) : FI := fun Γ => (f Γ).bind fun r => (g Γ).bind fun s => match r, s with
  | .sh (.i i), .sh (.i j) => itR i j | _, _ => .bad
theorem ri_range2 {p : Pos} (hg : Gl X "range") (hm : X.mg "range" = none) (ha : PE X a (tE c f)) (hb : PE X b (tE c g)) (hs : starEach [a, b] X.env = [(false, eval a X.env), (false, eval b X.env)] := by rfl) (hs2 : starEach [b] X.env = [(false, eval b X.env)] := by rfl) :
    PI X tg (.Call (.Name "range" p) [a, b] [] pos) (tI c (itR2 f g)) := by
  refine PI.weak (pi_range2 hg hm (pa_cons ha (pa_cons hb pa_nil hs2) (by rw [hs, hs2])) hs hs2) ?_
  rintro σ H R ⟨G, Γ, he, q⟩
  refine iE he q fun r v G1 H1 eq1 g1 v1 fr he1 q1 => ?_
  refine iE he1 q1 fun s w G2 H2 eq2 g2 v2 fr2 he2 q2 => ?_
  split at q2
  · rename_i i j
    unfold itR at q2
    split at q2
    · rename_i hb
      cases (Rep.int_inv v1)
      cases (Rep.int_inv v2)
      exact ⟨i, j, rfl, of_decide_eq_true hb, q2 _ G2 H2 (.refl he2.gh) walk_range⟩
    · exact q2.elim
  · exact q2.elim
def rg3 (lo st : Int) (n : Nat) : List D := (List.range n).map fun k => D.i (lo + (k : Nat) * st)
def itR3 (f g h : FE) : FI := fun Γ => (f Γ).bind fun r => (g Γ).bind fun s => (h Γ).bind fun t => match r, s, t with
  | .sh (.i i), .sh (.i j), .sh (.i k) => if k ≠ 0 ∧ k.natAbs < 1073741824 ∧ Builtin.Range.small i j k = true then .ok (rg3 i k (Builtin.Range.rangeSize i j k).toNat) else .bad
  | _, _, _ => .bad
theorem rangeSize_nn (i j k : Int) : Builtin.Range.rangeSize i j k = ((Builtin.Range.rangeSize i j k).toNat : Int) := by
  have h : 0 ≤ Builtin.Range.rangeSize i j k := by
    unfold Builtin.Range.rangeSize
    by_cases hk : k > 0
    · rw [if_pos hk]
      by_cases hij : i < j
      · rw [if_pos hij]
        have := Int.ediv_nonneg (a := j - i - 1) (b := k) (by omega) (by omega)
        omega
      · rw [if_neg hij]; exact Int.le_refl _
    · rw [if_neg hk]
      by_cases hij : i > j
      · rw [if_pos hij]
        have := Int.ediv_nonneg (a := i - j - 1) (b := -k) (by omega) (by omega)
        omega
      · rw [if_neg hij]; exact Int.le_refl _
  omega
theorem ri_range3 {d : Expr} {p : Pos} (hg : Gl X "range") (hm : X.mg "range" = none) (ha : PE X a (tE c f)) (hb : PE X b (tE c g)) (hd : PE X d (tE c h)) (hs : starEach [a, b, d] X.env = (false, eval a X.env) :: starEach [b, d] X.env := by rfl)
    (hs2 : starEach [b, d] X.env = (false, eval b X.env) :: starEach [d] X.env := by rfl) (hs3 : starEach [d] X.env = [(false, eval d X.env)] := by rfl) (hpl : (backTo pos (starEach [b, d] X.env)).any (·.1) = false := by rfl) :
    PI X tg (.Call (.Name "range" p) [a, b, d] [] pos) (tI c (itR3 f g h)) := by
  refine PI.weak (pi_range3 hg hm (pa_cons ha (pa_cons hb (pa_cons hd pa_nil hs3) hs2) hs) hs hpl) ?_
  rintro σ H R ⟨G, Γ, he, q⟩
  refine iE he q fun r v G1 H1 eq1 g1 v1 fr he1 q1 => ?_
  refine iE he1 q1 fun s w G2 H2 eq2 g2 v2 fr2 he2 q2 => ?_
  refine iE he2 q2 fun t u G3 H3 eq3 g3 v3 fr3 he3 q3 => ?_
  split at q3
  · rename_i i j k
    split at q3
    · rename_i hc
      cases (Rep.int_inv v1)
      cases (Rep.int_inv v2)
      cases (Rep.int_inv v3)
      refine ⟨i, j, k, (Builtin.Range.rangeSize i j k).toNat, rfl, ⟨hc.1, hc.2.1, hc.2.2, rangeSize_nn i j k⟩, q3 _ G3 H3 (.refl he3.gh) ?_⟩
      refine ⟨fun G4 H4 s1 s2 m d hi => ?_, fun H1 s1 m hm => (show (Builtin.Range.rangeSize i j k).toNat ≤ m by simpa only [rg3, List.length_map, List.length_range] using hm)⟩
      unfold rg3 at hi
      rw [List.getElem?_map] at hi
      have hin : m < (Builtin.Range.rangeSize i j k).toNat := by
        rcases Nat.lt_or_ge m (Builtin.Range.rangeSize i j k).toNat with h | h
        · exact h
        · rw [List.getElem?_eq_none (by simpa using h)] at hi; cases hi
      rw [List.getElem?_range hin] at hi
      cases hi
      refine ⟨hin, ?_⟩
      rintro x H5 ⟨rfl, rfl⟩
      exact ⟨G4, .refl s2, .i _⟩
    · exact q3.elim
  · exact q3.elim
def signs (x : Str) : List D := x.cps.toList.map fun k => D.s ⟨#[k]⟩
def itS (f : FE) : FI := fun Γ => (f Γ).bind fun r => match r with
  | .sh (.s x) => .ok (signs x) | _ => .bad
theorem ri_str (ha : PE X e (tE c f)) : PI X tg e (tI c (itS f)) := by
  refine PI.weak (pi_str ha) ?_
  rintro σ H R ⟨G, Γ, he, q⟩
  refine iE he q fun r v G1 H1 eq1 g1 v1 fr he1 q1 => ?_
  split at q1
  · rename_i x
    refine ⟨x, Rep.str_inv v1, q1 _ G1 H1 (.refl he1.gh) ⟨fun G2 H2 s1 s2 i d hi => ?_, fun H2 s1 i hi => (show x.cps.size ≤ i by simpa [signs] using hi)⟩⟩
    unfold signs at hi
    rw [List.getElem?_map] at hi
    cases ec : x.cps[i]? with
    | none => simp [ec] at hi
    | some k =>
      have hi' : D.s ⟨#[k]⟩ = d := by simpa [ec] using hi
      subst hi'
      refine ⟨(Array.getElem?_eq_some_iff.mp ec).1, ?_⟩
      rintro y H3 ⟨rfl, k', hk', rfl⟩
      rw [ec] at hk'
      cases hk'
      exact ⟨G2, .refl s2, .s _⟩
  · exact q1.elim
def enumD (ds : List D) : List D := (List.range ds.length).zipWith (fun (k : Nat) d => D.t [.i (k : Nat), d]) ds
def itE (f : FE) : FI := fun Γ => (f Γ).bind fun r => (share r).bind fun d => match d.seq? with
  | some ds => .ok (enumD ds) | none => .bad
theorem enumD_get {ds : List D} {i : Nat} {d : D} (h : (enumD ds)[i]? = some d) : ∃ e, ds[i]? = some e ∧ d = .t [.i (i : Nat), e] := by
  unfold enumD at h
  rw [List.getElem?_zipWith] at h
  cases e1 : ds[i]? with
  | none => rw [e1] at h; cases e2 : (List.range ds.length)[i]? <;> rw [e2] at h <;> cases h
  | some e =>
    have hl : i < ds.length := (List.getElem?_eq_some_iff.mp e1).1
    rw [e1, List.getElem?_range hl] at h
    exact ⟨e, rfl, (Option.some.inj h).symm⟩
theorem ri_enum (cy : Cy X c) {p tpos : Pos} {elts : List Expr} {kk : Nat} (hg : Gl X "enumerate") (hm : X.mg "enumerate" = none) (ha : PE X e (tE c f)) (hs : starEach [e] X.env = [(false, eval e X.env)] := by rfl) :
    PI X (.Tuple elts kk tpos) (.Call (.Name "enumerate" p) [e] [] pos) (tI c (itE f)) := by
  refine PI.weak (pi_enum hg hm (pa_cons ha pa_nil hs) hs) ?_
  rintro σ H R ⟨G, Γ, he, q⟩
  refine iE0 he q fun r v G1 H1 eq1 g1 v1 fr q1 => ?_
  cases e1 : share r with
  | bad => rw [e1] at q1; exact q1.elim
  | ex x => cases r <;> cases e1
  | ok d =>
    rw [e1] at q1
    obtain ⟨G2, g2, s2, rp⟩ := v1.share g1 fr e1
    simp only [Re.bind_ok] at q1
    rw [cy.K]
    have main : ∀ (a : Addr) (xs : List V) (ds : List D), SqL c.K G2 a xs → Reps c.K G2 xs ds → WalkOk c.K G2 (Ite c.K a) (enumD ds) := by
      intro a xs ds h1 h2
      refine ⟨fun G3 H3 s1 s2 i d hi => ?_, fun H3 s1 i hi => ⟨xs, s1.seq h1, by rw [h2.length]; simpa [enumD] using hi⟩⟩
      obtain ⟨e, he, rfl⟩ := enumD_get hi
      obtain ⟨v, hv, rv⟩ := h2.get' he
      have h3 := s2.seq (s1.seq h1)
      refine ⟨⟨xs, v, h3, hv⟩, ?_⟩
      rintro x H4 ⟨T, y, rfl, hT, rfl, hy⟩
      have ey := hy xs h3
      rw [hv] at ey
      cases ey
      have g := Gr.new (o := .tup [.int (i : Nat), v]) s2 hT
      exact ⟨_, g, .t upd_same (.cons (.i _) (.cons ((rv.mono s1).mono g.gg) .nil))⟩
    cases d with
    | l ds =>
      obtain ⟨a, xs, rfl, h1, h2⟩ := rp.l_inv
      exact ⟨a, xs, rfl, .of (g2.gh _ _ h1), q1 _ _ _ g2 (main a xs ds (.of h1) h2)⟩
    | z ds =>
      obtain ⟨a, xs, rfl, h1, h2⟩ := rp.z_inv
      exact ⟨a, xs, rfl, g2.gh.seq h1, q1 _ _ _ g2 (main a xs ds h1 h2)⟩
    | _ => exact q1.elim
end
end Ly
end

section
set_option maxRecDepth 100000
namespace Ly
open PySem PySem.Spec L2
open PyProof.Rows hiding St

section
variable {X : Cx} {c : LC} {a b e tg : Expr} {es : List Expr} {f g h : FE} {ft : FT} {fi : FI} {fa : FA} {u v : FS} {pos : Pos} {body : List Stmt}
def forL (t : Tg) (u : FS) : List D → Env' → Fl
  | [], Γ => .nx Γ
  | d :: ds, Γ => match t.set d Γ with
    | none => .bad
    | some Γ1 => match u Γ1 with
      | .nx Γ' => forL t u ds Γ'
      | .ct Γ' => forL t u ds Γ'
      | .bk Γ' => .nx Γ'
      | .rt r => .rt r
      | .ex e Γ' => .ex e Γ'
      | .bad => .bad
def sFor (fi : FI) (t : Tg) (u : FS) : FS := fun Γ => (fi Γ).fl Γ fun ds => forL t u ds Γ
theorem rs_for (hp : PassesOwn (model X.prog X.w) X.A X.env X.xe) (cy : Cy X c) {iter : Expr} {t : Tg} (hi : PI X tg iter (tI c fi)) (hg : PG X tg (t.tgt c.K)) (hb : PSs X body (tS c u))
    (hs : ∀ x, foldedSetIterable iter X.env x = pure x := by intro _; rfl) : PS X (.For tg iter body [] pos) (tS c (sFor fi t u)) := by
  refine PS.weak (ps_for hp cy.calm hi hg hb hs) ?_
  rintro D σ H ⟨G, Γ, he, q⟩
  unfold sFor at q
  refine ⟨G, Γ, he, ?_⟩
  cases ef : fi Γ with
  | bad => rw [ef] at q; exact q
  | ex x => rw [ef] at q; exact fun G' H' g => q σ G' H' (he.mono g) g.gg
  | ok ds =>
    rw [ef] at q
    intro J G1 H1 g1 w
    refine ⟨fun i m σ' H' => m = ds.length - i ∧ i ≤ ds.length ∧ ∃ Gi Γi, EnvOk c Gi H' σ' Γi ∧ Same G1 Gi ∧ PostS c (forL t u (ds.drop i) Γi) Gi D,
      ⟨ds.length, by simp, Nat.zero_le _, G1, Γ, he.mono g1, Same.refl _, PostS.later g1.gg q⟩, ?_⟩
    rintro i m σ' H' ⟨rfl, hi, Gi, Γi, hei, si, qi⟩
    by_cases hl : i < ds.length
    · obtain ⟨d, hd⟩ : ∃ d, ds[i]? = some d := ⟨ds[i], by simp [hl]⟩
      have hdrop : ds.drop i = d :: ds.drop (i + 1) := by
        rw [List.drop_eq_getElem_cons hl]
        congr 1
        simpa [hl] using hd
      rw [hdrop] at qi
      obtain ⟨go, yl⟩ := w.go Gi H' si hei.gh i d hd
      refine .inr ⟨go, fun σ'' H'' => ∃ Gj Γj, EnvOk c Gj H'' σ'' Γj ∧ Same G1 Gj ∧ PostS c (forL t u (ds.drop (i + 1)) Γj) Gj D,
        fun σ'' H'' ⟨Gj, Γj, hej, sj, qj⟩ => ⟨ds.length - (i + 1), by omega, rfl, hl, Gj, Γj, hej, sj, qj⟩, fun x H2 hy => ?_⟩
      obtain ⟨G2, g2, r2⟩ := yl x H2 hy
      have he2 := hei.mono g2
      unfold forL at qi
      cases et : t.set d Γi with
      | none => rw [et] at qi; exact qi.elim
      | some Γ1 =>
        rw [et] at qi
        refine Tg.ok he2 r2 et fun σ2 he3 _ => ⟨G2, Γ1, he3, ?_⟩
        have s2 : Same G1 G2 := si.trans g2.gg
        have qi : PostS c (match u Γ1 with | .nx Γ' => forL t u (ds.drop (i + 1)) Γ' | .ct Γ' => forL t u (ds.drop (i + 1)) Γ' | .bk Γ' => .nx Γ' | .rt r => .rt r | .ex e Γ' => .ex e Γ' | .bad => .bad) G2 D := PostS.later g2.gg qi
        cases eu : u Γ1 with
        | nx Γ' => rw [eu] at qi; exact fun σ3 G3 H3 he4 s3 => ⟨G3, Γ', he4, s2.trans s3, PostS.later s3 qi⟩
        | ct Γ' => rw [eu] at qi; exact fun σ3 G3 H3 he4 s3 => ⟨G3, Γ', he4, s2.trans s3, PostS.later s3 qi⟩
        | bk Γ' => rw [eu] at qi; exact qi
        | rt r => rw [eu] at qi; exact qi
        | ex x Γ' => rw [eu] at qi; exact qi
        | bad => rw [eu] at qi; exact qi
    · have ei : i = ds.length := by omega
      subst ei
      refine .inl ⟨w.stop H' (si.trans hei.gh) _ (Nat.le_refl _), ?_⟩
      rw [List.drop_length] at qi
      exact qi σ' Gi H' hei (Same.refl _)

def whL (t : FT) (u : FS) : Nat → Env' → Fl
  | 0, _ => .bad
  | n + 1, Γ => (t Γ).fl Γ fun b => if b = true then (match u Γ with
      | .nx Γ' => whL t u n Γ'
      | .ct Γ' => whL t u n Γ'
      | .bk Γ' => .nx Γ'
      | .rt r => .rt r
      | .ex e Γ' => .ex e Γ'
      | .bad => .bad) else .nx Γ
def sWh (n : Nat) (t : FT) (u : FS) : FS := fun Γ => whL t u n Γ
theorem rs_while (hp : PassesOwn (model X.prog X.w) X.A X.env X.xe) (n : Nat) (hc : PT X a (tT c ft)) (hb : PSs X body (tS c u)) : PS X (.While a body [] pos) (tS c (sWh n ft u)) := by
  refine PS.weak (ps_while hp hc hb) ?_
  rintro D σ H ⟨G, Γ, he, q⟩
  refine ⟨fun m σ H => ∃ G Γ, EnvOk c G H σ Γ ∧ PostS c (whL ft u m Γ) G D, ⟨n, G, Γ, he, q⟩, ?_⟩
  rintro m σ H ⟨G, Γ, he, q⟩
  cases m with
  | zero => exact q.elim
  | succ m =>
    unfold whL at q
    refine sT he q fun k G1 H1 _ g1 he1 q1 => ?_
    cases k with
    | true =>
      rw [if_pos rfl] at q1 ⊢
      refine ⟨fun σ' H' => ∃ G' Γ', EnvOk c G' H' σ' Γ' ∧ PostS c (whL ft u m Γ') G' D, fun σ' H' h => ⟨m, Nat.lt_succ_self _, h⟩, G1, Γ, he1, ?_⟩
      cases eu : u Γ with
      | nx Γ' => rw [eu] at q1; exact fun σ3 G3 H3 he4 s3 => ⟨G3, Γ', he4, PostS.later s3 q1⟩
      | ct Γ' => rw [eu] at q1; exact fun σ3 G3 H3 he4 s3 => ⟨G3, Γ', he4, PostS.later s3 q1⟩
      | bk Γ' => rw [eu] at q1; exact q1
      | rt r => rw [eu] at q1; exact q1
      | ex x Γ' => rw [eu] at q1; exact q1
      | bad => rw [eu] at q1; exact q1
    | false =>
      rw [if_neg Bool.false_ne_true] at q1 ⊢
      exact q1 σ G1 H1 he1 (Same.refl _)

def LC.calm (c : LC) : LC := { c with W := fun _ _ _ _ => False }
theorem EnvOk.calm {G H : Hp} {σ : St} {Γ : Env'} (e : EnvOk c G H σ Γ) : EnvOk c.calm G H σ Γ := ⟨e.bh, e.g0, e.gh, e.gf, e.len, e.at', e.sep⟩
theorem EnvOk.hot {G H : Hp} {σ : St} {Γ : Env'} (e : EnvOk c.calm G H σ Γ) : EnvOk c G H σ Γ := ⟨e.bh, e.g0, e.gh, e.gf, e.len, e.at', e.sep⟩
def wipeG (Γ : Env') : List Nat → Env'
  | [] => Γ
  | v :: vs => (wipeG Γ vs).set v none
theorem wipeG_length (Γ : Env') : ∀ vs : List Nat, (wipeG Γ vs).length = Γ.length
  | [] => rfl
  | v :: vs => by unfold wipeG; rw [List.length_set, wipeG_length Γ vs]
theorem wipeG_some {Γ : Env'} {i : Nat} {x : Rv} : ∀ {vs : List Nat}, (wipeG Γ vs)[i]? = some (some x) → Γ[i]? = some (some x) ∧ i ∉ vs
  | [], h => ⟨h, by simp⟩
  | v :: vs, h => by
    unfold wipeG at h
    by_cases hi : v = i
    · subst hi
      by_cases hv : v < (wipeG Γ vs).length
      · rw [List.getElem?_set_self hv] at h; cases h
      · rw [List.getElem?_eq_none (by simpa using hv)] at h; cases h
    · rw [List.getElem?_set_ne hi] at h
      obtain ⟨h1, h2⟩ := wipeG_some h
      exact ⟨h1, by simp only [List.mem_cons, not_or]; exact ⟨fun e => hi e.symm, h2⟩⟩
theorem EnvOk.wipe {G H : Hp} {σ : St} {Γ : Env'} (e : EnvOk c G H σ Γ) (vs : List Nat) : EnvOk c G H (L2.wipe σ vs) (wipeG Γ vs) := by
  refine ⟨e.bh, e.g0, e.gh, e.gf, by rw [wipe_length, wipeG_length]; exact e.len, fun i r hi => ?_, fun i j x y p hi hj si sj => ?_⟩
  · obtain ⟨h1, h2⟩ := wipeG_some hi
    obtain ⟨v, h3, h4, h5⟩ := e.at' i r h1
    exact ⟨v, by rw [wipe_out h2]; exact h3, h4, h5⟩
  · obtain ⟨h1, h2⟩ := wipeG_some hi
    obtain ⟨h3, h4⟩ := wipeG_some hj
    rw [wipe_out h2] at si
    rw [wipe_out h4] at sj
    exact e.sep i j x y p h1 h3 si sj
theorem wipe_in {σ τ : St} (hl : σ.length = τ.length) : ∀ (vs : List Nat), (∀ j, j ∉ vs → σ[j]? = τ[j]?) → L2.wipe σ vs = L2.wipe τ vs := by
  intro vs hj
  apply List.ext_getElem?
  intro j
  by_cases hv : j ∈ vs
  · have at1 : ∀ (ρ : St) (ws : List Nat), j ∈ ws → (L2.wipe ρ ws)[j]? = if j < ρ.length then some none else none := by
      intro ρ ws
      induction ws with
      | nil => intro h; cases h
      | cons v ws ih =>
        intro h
        unfold L2.wipe
        by_cases e : v = j
        · subst e
          by_cases hv : v < ρ.length
          · rw [List.getElem?_set_self (by rw [wipe_length]; exact hv), if_pos hv]
          · rw [List.getElem?_eq_none (by rw [List.length_set, wipe_length]; omega), if_neg hv]
        · rw [List.getElem?_set_ne e]
          rcases List.mem_cons.mp h with z | z
          · exact absurd z.symm e
          · exact ih z
    rw [at1 σ vs hv, at1 τ vs hv, hl]
  · rw [wipe_out hv, wipe_out hv]
    exact hj j hv
def lcStep (t : Tg) (ft : FT) (fe : FE) (Γ0 : Env') (d : D) : Re (List D) := match t.set d Γ0 with
  | none => .bad
  | some Γ1 => (ft Γ1).bind fun b => if b = true then (fe Γ1).bind fun r => (share r).bind fun y => .ok [y] else .ok []
def lcL (t : Tg) (ft : FT) (fe : FE) (Γ0 : Env') : List D → Re (List D)
  | [] => .ok []
  | d :: ds => (lcStep t ft fe Γ0 d).bind fun y => (lcL t ft fe Γ0 ds).bind fun ys => .ok (y ++ ys)
def lcRes : Re (List D) → Re Rv
  | .ok ys => if ys.length ≤ 16777216 then .ok (.fr (.l ys)) else .bad
  | _ => .bad
def eLc (fi : FI) (t : Tg) (ft : FT) (fe : FE) (own : List Nat) : FE := fun Γ => (fi Γ).bind fun ds => lcRes (lcL t ft fe (wipeG Γ own) ds)
def tYesF : FT := fun _ => .ok true
theorem rts_nil : PTs X [] (tT c tYesF) := ⟨fun pins s σ H Q I ⟨G, Γ, he, q⟩ => pts_nil.run pins s σ H Q I (q G H (.refl he.gh))⟩
theorem rts_one (ha : PT X a (tT c ft)) : PTs X [a] (tT c ft) := pts_one ha
theorem lcStep_ok {t : Tg} {fe : FE} {Γ0 : Env'} {d : D} {y : List D} (h : lcStep t ft fe Γ0 d = .ok y) : ∃ Γ1, t.set d Γ0 = some Γ1 ∧ ((ft Γ1 = .ok false ∧ y = []) ∨ ∃ r z, ft Γ1 = .ok true ∧ fe Γ1 = .ok r ∧ share r = .ok z ∧ y = [z]) := by
  unfold lcStep at h
  cases et : t.set d Γ0 with
  | none => rw [et] at h; cases h
  | some Γ1 =>
    rw [et] at h
    refine ⟨Γ1, rfl, ?_⟩
    cases eb : ft Γ1 with
    | bad => simp [eb] at h
    | ex x => simp [eb] at h
    | ok k =>
      cases k with
      | false => simp [eb] at h; exact .inl ⟨rfl, h⟩
      | true =>
        simp only [eb, Re.bind_ok, if_true] at h
        cases er : fe Γ1 with
        | bad => simp [er] at h
        | ex x => simp [er] at h
        | ok r =>
          simp only [er, Re.bind_ok] at h
          cases es : share r with
          | bad => simp [es] at h
          | ex x => simp [es] at h
          | ok z => simp only [es, Re.bind_ok, Re.ok.injEq] at h; exact .inr ⟨r, z, rfl, rfl, es, h.symm⟩
theorem Tg.set_length {t : Tg} {d : D} {Γ Γ' : Env'} (h : t.set d Γ = some Γ') : Γ'.length = Γ.length := by
  have all : ∀ (is : List Nat) (ds : List D) (Γ Γ' : Env'), setN is ds Γ = some Γ' → Γ'.length = Γ.length := by
    intro is
    induction is with
    | nil => intro ds Γ Γ' h; cases ds <;> cases h; rfl
    | cons i is ih =>
      intro ds Γ Γ' h
      cases ds with
      | nil => cases h
      | cons d ds => rw [ih ds _ Γ' h, List.length_set]
  cases t with
  | one i => cases h; exact List.length_set ..
  | tup is =>
    cases d with
    | t ds => exact all is ds Γ Γ' h
    | _ => cases h
theorem lc_main {t : Tg} {fe : FE} {own : List Nat} {σ : St} {H : Hp} {Q : VK} {G : Hp} {Γ : Env'} {ds ys : List D} (hix : ∀ j ∈ t.ix, j ∈ own) (he : EnvOk c G H σ Γ) (hl : lcL t ft fe (wipeG Γ own) ds = .ok ys) (hz : ys.length ≤ 16777216)
    (q : ∀ p G' H', Gr G H G' H' → H p = none → G' p = none → Own c.K G' H' p (.l ys) → Q (.ref p) H') {J : It} {G1 H1 : Hp} (g1 : Gr G H G1 H1) (w : WalkOk c.K G1 J ds) :
    ∀ D, H1 D = none → ∃ W : Nat → Nat → Hp → Prop, (∃ m, W 0 m (upd H1 D (.lst []))) ∧ ∀ i m H, W i m H →
      (J.stop i H ∧ Q (.ref D) H) ∨ (J.go i H ∧ ∃ Nx : Hp → Prop, (∀ H', Nx H' → ∃ m', m' < m ∧ W (i + 1) m' H') ∧ ∀ x H', J.yld i H x H' → t.tgt c.K x (wipe σ own) H' fun σ2 H2 => wipe σ2 own = wipe σ own ∧ tT c.calm ft σ2 H2 fun b H3 =>
        if b = true then tE c.calm fe σ2 H3 fun y H4 => ∃ acc, H4 D = some (.lst acc) ∧ acc.length < sizeLine ∧ Nx (upd H4 D (.lst (acc ++ [y]))) else Nx H3) := by
  intro D hD
  have hD0 : H D = none := g1.hh.free hD
  have g1D : G1 D = none := g1.gh.free hD
  let Inv : Nat → Hp → Prop := fun i H' => ∃ Gi acc dn rs, Same H1 H' ∧ Same G1 Gi ∧ Same Gi H' ∧ (∀ b o, Gi b = some o → H1 b ≠ none → G1 b = some o) ∧ Gi D = none ∧ H' D = some (.lst acc) ∧ Reps c.K Gi acc dn ∧ lcL t ft fe (wipeG Γ own) (ds.drop i) = .ok rs ∧ dn ++ rs = ys
  refine ⟨fun i m H' => m = ds.length - i ∧ i ≤ ds.length ∧ Inv i H', ⟨ds.length, by simp, Nat.zero_le _, G1, [], [], ys, ?_, Same.refl _, ?_, fun _ _ e _ => e, g1D, upd_same, .nil, hl, rfl⟩, ?_⟩
  · exact fun b o e => by rw [upd_ne (ne_of_none e hD)]; exact e
  · exact fun b o e => by rw [upd_ne (ne_of_none e g1D)]; exact g1.gh b o e
  rintro i m H' ⟨rfl, hi, Gi, acc, dn, rs, hh, gg, gh, nw, gD, aD, ra, hr, hy⟩
  by_cases hlt : i < ds.length
  · obtain ⟨d, hd⟩ : ∃ d, ds[i]? = some d := ⟨ds[i], by simp [hlt]⟩
    have hdrop : ds.drop i = d :: ds.drop (i + 1) := by
      rw [List.drop_eq_getElem_cons hlt]
      congr 1
      simpa [hlt] using hd
    rw [hdrop] at hr
    obtain ⟨go, yl⟩ := w.go Gi H' gg gh i d hd
    refine .inr ⟨go, Inv (i + 1), fun H'' hn => ⟨ds.length - (i + 1), by omega, rfl, hlt, hn⟩, fun x H2 hyl => ?_⟩
    obtain ⟨G2, g2, r2⟩ := yl x H2 hyl
    unfold lcL at hr
    cases es : lcStep t ft fe (wipeG Γ own) d with
    | bad => simp [es] at hr
    | ex x => simp [es] at hr
    | ok y =>
      simp only [es, Re.bind_ok] at hr
      cases er : lcL t ft fe (wipeG Γ own) (ds.drop (i + 1)) with
      | bad => simp [er] at hr
      | ex x => simp [er] at hr
      | ok rs' =>
        simp only [er, Re.bind_ok, Re.ok.injEq] at hr
        obtain ⟨Γ1, et, hcase⟩ := lcStep_ok es
        have heW : EnvOk c G1 H1 (wipe σ own) (wipeG Γ own) := (he.mono g1).wipe own
        have gi : Gr G1 H1 Gi H' := ⟨hh, gg, gh, nw⟩
        have he2 := (heW.mono gi).mono g2
        have D2 : G2 D = none := g2.keepNone gD aD
        have a2 := g2.hh _ _ aD
        have ra2 := ra.mono g2.gg
        refine Tg.ok he2 r2 et fun σ2 he3 hj => ⟨?_, G2, Γ1, he3.calm, ?_⟩
        · have l2 : σ2.length = (wipe σ own).length := by rw [he3.len, Tg.set_length et, he2.len]
          have e1 : wipe σ2 own = wipe (wipe σ own) own := wipe_in l2 own fun j hn => hj j fun z => hn (hix j z)
          have e2 : wipe (wipe σ own) own = wipe σ own := wipe_in (by rw [wipe_length]) own fun j hn => wipe_out hn
          rw [e1, e2]
        · rcases hcase with ⟨hf, rfl⟩ | ⟨r, z, hf, hfe, hsh, rfl⟩
          · rw [hf]
            intro G3 H3 g3
            rw [if_neg Bool.false_ne_true]
            refine ⟨G3, acc, dn, rs', (hh.trans g2.hh).trans g3.hh, (gg.trans g2.gg).trans g3.gg, g3.gh, (gi.trans (g2.trans g3)).nw, g3.keepNone D2 a2, g3.hh _ _ a2, ra2.mono g3.gg, er, ?_⟩
            rw [← hy, ← hr]; rfl
          · rw [hf]
            intro G3 H3 g3
            rw [if_pos rfl]
            refine ⟨G3, Γ1, he3.calm.mono g3, ?_⟩
            rw [hfe]
            intro v G4 H4 g4 v4 fr4
            obtain ⟨G5, g5, s5, rp⟩ := RV.share (c := c) g4 v4 fr4 hsh
            have a5 := g5.hh _ _ (g3.hh _ _ a2)
            have D5 : G5 D = none := g5.keepNone (g3.keepNone D2 a2) (g3.hh _ _ a2)
            have g0 := gi.trans (g2.trans (g3.trans g5))
            refine ⟨acc, a5, ?_, G5, acc ++ [v], dn ++ [z], rs', ?_, g0.gg, ?_, g0.nw, D5, upd_same, ((ra2.mono g3.gg).mono g5.gg).append (.cons rp .nil), er, ?_⟩
            · rw [ra.length, sizeLine_eq]
              have := congrArg List.length hy
              rw [← hr] at this
              simp at this
              omega
            · exact fun b o e => by rw [upd_ne (ne_of_none e hD)]; exact g0.hh b o e
            · exact fun b o e => by rw [upd_ne (ne_of_none e D5)]; exact g5.gh b o e
            · rw [← hy, ← hr]; simp
  · have ei : i = ds.length := by omega
    subst ei
    rw [List.drop_length] at hr
    cases hr
    rw [List.append_nil] at hy
    subst hy
    have gi : Gr G1 H1 Gi H' := ⟨hh, gg, gh, nw⟩
    exact .inl ⟨w.stop H' (gg.trans gh) _ (Nat.le_refl _), q D Gi H' (g1.trans gi) hD0 gD (.l aD ra)⟩
theorem Cy.blk (cy : Cy X c) (s : Shared) (H : Hp) (scope : Scope) (ce : Env) (fp : List Addr) : Cy (X.blk s H scope ce fp) c.calm :=
  ⟨cy.K, cy.mg, takes0, cy.calm, cy.nd, cy.un⟩
theorem re_lc (cy : Cy X c) {elt iter : Expr} {ifs : List Expr} {scope : Scope} {own : List (Str × Nat)} {t : Tg} {fe : FE} (hi : PI X tg iter (tI c fi)) (ok : BlkOk X.N X.env.scope scope own) (hix : ∀ j ∈ t.ix, j ∈ own.map (·.2))
    (hg : ∀ (s : Shared) (H : Hp) (C : Addr) (cl : List (Str × Addr)) (fp : List Addr), Cy (X.blk s H scope (compEnvC scope cl C X.env) fp) c.calm → PG (X.blk s H scope (compEnvC scope cl C X.env) fp) tg (t.tgt c.K))
    (ht : ∀ (s : Shared) (H : Hp) (C : Addr) (cl : List (Str × Addr)) (fp : List Addr), Cy (X.blk s H scope (compEnvC scope cl C X.env) fp) c.calm → PTs (X.blk s H scope (compEnvC scope cl C X.env) fp) ifs (tT c.calm ft))
    (hel : ∀ (s : Shared) (H : Hp) (C : Addr) (cl : List (Str × Addr)) (fp : List Addr), Cy (X.blk s H scope (compEnvC scope cl C X.env) fp) c.calm → PE (X.blk s H scope (compEnvC scope cl C X.env) fp) elt (tE c.calm fe)) (hs : ∀ x, foldedSetIterable iter X.env x = pure x := by intro _; rfl) :
    PE X (.ListComp elt [⟨tg, iter, ifs, 0⟩] scope pos) (tE c (eLc fi t ft fe (own.map (·.2)))) := by
  refine PE.weak (pe_lc cy.calm cy.nd hi ok (fun s H C cl fp => hg s H C cl fp (cy.blk ..)) (fun s H C cl fp => ht s H C cl fp (cy.blk ..)) (fun s H C cl fp => hel s H C cl fp (cy.blk ..)) hs) ?_
  rintro σ H Q ⟨G, Γ, he, q⟩
  unfold eLc at q
  refine ⟨G, Γ, he, ?_⟩
  cases ef : fi Γ with
  | bad => rw [ef] at q; exact q
  | ex x => rw [ef] at q; exact q
  | ok ds =>
    rw [ef] at q
    simp only [Re.bind_ok] at q
    intro J G1 H1 g1 w
    cases el : lcL t ft fe (wipeG Γ (own.map (·.2))) ds with
    | bad => rw [el] at q; exact q.elim
    | ex x => rw [el] at q; exact q.elim
    | ok ys =>
      rw [el] at q
      unfold lcRes at q
      dsimp only at q
      split at q
      · rename_i hz
        exact lc_main hix he el hz (fun p G' H' g hp gp o => q (.ref p) G' H' g ⟨p, rfl, he.bh.free hp, gp, o⟩ ⟨p, rfl, hp⟩) g1 w
      · exact q.elim
theorem rs_setLc (cy : Cy X c) {i : Nat} {y : Str} {py : Pos} {elt iter : Expr} {ifs : List Expr} {scope : Scope} {own : List (Str × Nat)} {spos : Pos} {t : Tg} {fe : FE} (hy : X.N[i]? = some y) (hyl : X.env.scope.names.lookup y = some .local)
    (hsw : swapsWith (.ListComp elt [⟨tg, iter, ifs, 0⟩] scope pos) (some (.Name y py)) spos.line X.env = pure true) (hi : PI X tg iter (tI c fi)) (ok : BlkOk X.N X.env.scope scope own) (hix : ∀ j ∈ t.ix, j ∈ own.map (·.2))
    (hg : ∀ (s : Shared) (H : Hp) (C : Addr) (cl : List (Str × Addr)) (fp : List Addr), Cy (X.blk s H scope (compEnvC scope cl C X.env) fp) c.calm → PG (X.blk s H scope (compEnvC scope cl C X.env) fp) tg (t.tgt c.K))
    (ht : ∀ (s : Shared) (H : Hp) (C : Addr) (cl : List (Str × Addr)) (fp : List Addr), Cy (X.blk s H scope (compEnvC scope cl C X.env) fp) c.calm → PTs (X.blk s H scope (compEnvC scope cl C X.env) fp) ifs (tT c.calm ft))
    (hel : ∀ (s : Shared) (H : Hp) (C : Addr) (cl : List (Str × Addr)) (fp : List Addr), Cy (X.blk s H scope (compEnvC scope cl C X.env) fp) c.calm → PE (X.blk s H scope (compEnvC scope cl C X.env) fp) elt (tE c.calm fe)) (hs : ∀ x, foldedSetIterable iter X.env x = pure x := by intro _; rfl) :
    PS X (.Assign [.Name y py] (.ListComp elt [⟨tg, iter, ifs, 0⟩] scope pos) spos) (tS c (sSet i (eLc fi t ft fe (own.map (·.2))))) := by
  refine PS.weak (ps_setLc cy.calm cy.nd hy hyl hsw hi ok (fun s H C cl fp => hg s H C cl fp (cy.blk ..)) (fun s H C cl fp => ht s H C cl fp (cy.blk ..)) (fun s H C cl fp => hel s H C cl fp (cy.blk ..)) hs) ?_
  rintro D σ H ⟨G, Γ, he, q⟩
  unfold sSet eLc at q
  refine ⟨G, Γ, he, ?_⟩
  cases ef : fi Γ with
  | bad => rw [ef] at q; exact q
  | ex x => rw [ef] at q; exact fun G' H' g => q σ G' H' (he.mono g) g.gg
  | ok ds =>
    rw [ef] at q
    simp only [Re.bind_ok] at q
    intro J G1 H1 g1 w
    cases el : lcL t ft fe (wipeG Γ (own.map (·.2))) ds with
    | bad => rw [el] at q; exact q.elim
    | ex x => rw [el] at q; exact q.elim
    | ok ys =>
      rw [el] at q
      unfold lcRes at q
      dsimp only at q
      split at q
      · rename_i hz
        exact lc_main (Q := fun x H1 => gName i x σ H1 D.nx) hix he el hz (fun p G' H' g hp gp o => set_env (r := .fr (.l ys)) he g ⟨p, rfl, he.bh.free hp, gp, o⟩ ⟨p, rfl, hp⟩ q) g1 w
      · exact q.elim

def sRaise (x : Str) : FS := fun Γ => .ex ⟨x, none⟩ Γ
structure XOk (K : PySem.W.Frag) (mg : Str → Option Value) (x : Str) : Prop where
  ex : ∃ C : Addr, mg x = some (.ref C) ∧ PySem.W.excIn K C [.type "ValueError", .type "Exception", .type "BaseException", .type "object"] "ValueError.__new__" = true ∧ PySem.W.keepIn K (.ref C) = true ∧
    PySem.W.subIn K (.ref C) (.type "BaseException") = some true ∧ PySem.W.typeIn K (.ref C) = some (.type "type")
theorem rs_raise (cy : Cy X c) {x m : Str} {j : Nat} {p p2 pos2 : Pos} (T : XOk X.K X.mg x) (hg : Gl X x) (hdb : (x == ("__debug__" : Str)) = false := by decide) :
    PS X (.Raise (some (.Call (.Name x p) [.Constant (.str m) j p2] [] pos)) none pos2) (tS c (sRaise x)) := by
  obtain ⟨C, h1, h2, h3, h4, h5⟩ := T.ex
  refine PS.weak (ps_raise cy.calm cy.tk (pmk_own PySem.F.excBase_ValueError h2 h1 h3 (raises_own h4 h5) hg hdb)) ?_
  rintro D σ H ⟨G, Γ, he, q⟩
  exact q σ G H he (Same.refl _) C none (by rw [← cy.mg]; exact h1) rfl
def runF (n m : Nat) (body : FS) (ds : List D) : Re Rv := if ds.length = n then (match body (ds.map (fun d => some (.sh d)) ++ List.replicate (m - n) none) with
  | .nx _ => .ok (.sh .n)
  | .rt (.sh d) => .ok (.sh d)
  | .rt (.fr d) => .ok (.fr d)
  | .ex e _ => .ex e
  | _ => .bad) else .bad
end
section
variable {P : Program} {w : World} {K : PySem.W.Frag} {mg : Str → Option Value} {base : Heap}
abbrev dLc (K : PySem.W.Frag) (mg : Str → Option Value) (H G : Hp) (E : XK) : LC := ⟨K, mg, H, G, fun cls d _ H' => E cls d H'⟩
theorem start_env {G H : Hp} {vs : List V} {ds : List D} {N : List Str} {E : XK} (gh : Same G H) (r : Reps K G vs ds) : EnvOk (dLc K mg H G E) G H (start N vs) (ds.map (fun d => some (.sh d)) ++ List.replicate (N.length - ds.length) none) := by
  have hl := r.length
  refine ⟨Same.refl _, Same.refl _, gh, fun a o e _ => e, by simp [L2.start, hl], fun i rv hi => ?_, fun i j x y p hi hj si sj => ?_⟩
  · by_cases hlt : i < ds.length
    · rw [List.getElem?_append_left (by simpa using hlt)] at hi
      rw [List.getElem?_map] at hi
      cases e : ds[i]? with
      | none => rw [e] at hi; cases hi
      | some d =>
        rw [e] at hi
        cases hi
        obtain ⟨v, hv, rv⟩ := r.get' e
        refine ⟨v, ?_, rv, fun _ z => by cases z⟩
        unfold L2.start
        rw [List.getElem?_append_left (by simpa [hl] using hlt), List.getElem?_map, hv]
        rfl
    · rw [List.getElem?_append_right (by simpa using hlt)] at hi
      rw [List.getElem?_replicate] at hi
      split at hi <;> cases hi
  · have no : ∀ (i : Nat) (x : D), (ds.map (fun d => some (Rv.sh d)) ++ List.replicate (N.length - ds.length) none)[i]? = some (some (.fr x)) → False := by
      intro i x hi
      by_cases hlt : i < ds.length
      · rw [List.getElem?_append_left (by simpa using hlt)] at hi
        rw [List.getElem?_map] at hi
        cases e : ds[i]? with
        | none => rw [e] at hi; cases hi
        | some d => rw [e] at hi; cases hi
      · rw [List.getElem?_append_right (by simpa using hlt)] at hi
        rw [List.getElem?_replicate] at hi
        split at hi <;> cases hi
    exact (no i x hi).elim
theorem def_fn {x qual : Str} {st : Stmt} {f : Addr} {fd : FuncData} {N ps : List Str} {k n m : Nat} {body : FS} (F : Fun K x qual st f fd) (S : FnScope N ps (defScope st))
    (hn : ps.length = n) (hN : N.length = m)
    (h : ∀ (cdv : Value) (A : Around) (outer : List Env) (s : Shared) (H G : Hp) (E : XK), Room k (A.deeper (envOfC qual (defScope st) s.heap.objs.size f cdv)) →
      Cy (cxOf (L2.CX P w) P w K mg base N qual (defScope st) f cdv A outer s H E) (dLc K mg H G E) →
      PassesOwn (model P w) (A.deeper (envOfC qual (defScope st) s.heap.objs.size f cdv)) (envOfC qual (defScope st) s.heap.objs.size f cdv) (cxOf (L2.CX P w) P w K mg base N qual (defScope st) f cdv A outer s H E).xe →
      PSs (cxOf (L2.CX P w) P w K mg base N qual (defScope st) f cdv A outer s H E) (defBody st) (tS (dLc K mg H G E) body)) : FnOk P w K mg base (L2.CX P w) (k + 1) f fd ps (spF K mg n (runF n m body)) := by
  refine F.okX S (fun vs H Q E hs => ?_) (fun cdv A outer s H vs Q E hr hs => ?_)
  · obtain ⟨G, ds, hl, gh, r, _⟩ := hs
    rw [r.length, hl, hn]
  · obtain ⟨G, ds, hl, gh, r, q⟩ := hs
    have cy : Cy (cxOf (L2.CX P w) P w K mg base N qual (defScope st) f cdv A outer s H E) (dLc K mg H G E) := ⟨rfl, rfl, takes_of rfl rfl rfl rfl, rfl, S.nd, hr.units⟩
    refine ⟨_, h cdv A outer s H G E hr cy (passes_of (X := cxOf (L2.CX P w) P w K mg base N qual (defScope st) f cdv A outer s H E) rfl), G, _, start_env gh r, ?_⟩
    have gr : ∀ {G' H' : Hp}, EndOk (dLc K mg H G E) G' H' → Gr G H G' H' := fun e => ⟨e.bh, e.g0, e.gh, e.gf⟩
    unfold runF at q
    rw [if_pos hl] at q
    rw [hN, hl]
    cases eb : body (ds.map (fun d => some (.sh d)) ++ List.replicate (m - n) none) with
    | nx Γ' => rw [eb] at q; exact fun σ' G' H' he s => q .non G' H' (gr he.end) .n
    | rt rv =>
      rw [eb] at q
      cases rv with
      | sh d => exact fun v G' H' he s hv _ => q v G' H' (gr he) hv
      | fr d => exact fun v G' H' he s ⟨p, e, bp, gp, o⟩ _ => by subst e; exact q p G' H' (gr he) bp gp o
      | bo d => exact fun v G' H' he s hv hn => absurd rfl (hn d)
    | ex e Γ' => rw [eb] at q; exact fun σ' G' H' he s C d hC hd => q G' H' (gr he.end) C d hC hd
    | bk Γ' => rw [eb] at q; exact q.elim
    | ct Γ' => rw [eb] at q; exact q.elim
    | bad => rw [eb] at q; exact q.elim
theorem fn_bad {f : Addr} {fd : FuncData} {ps : List Str} {n : Nat} {j : Nat} : FnOk P w K mg base (L2.CX P w) j f fd ps (spF K mg n fun _ => .bad) :=
  ⟨fun vs H Q E ⟨_, _, _, _, _, h⟩ => h.elim, fun A outer s H args us vs Q E _ _ _ _ ⟨_, _, _, _, _, h⟩ => h.elim⟩
end
end Ly
end

section
set_option maxRecDepth 100000
namespace Ly
open PySem PySem.Spec L2
open PyProof.Rows hiding St

section
variable {X : Cx} {c : LC} {a b e : Expr} {es : List Expr} {f g h : FE} {ft : FT} {fi : FI} {fa : FA} {u v : FS} {pos : Pos} {body : List Stmt}
def D.ty? : D → Option String
  | .n => some "NoneType" | .b _ => some "bool" | .i _ => some "int" | .s _ => some "str"
  | .l _ => some "list" | .z _ => some "list" | .t _ => some "tuple" | .zt _ => some "tuple" | _ => none
theorem Rep.tyx {G : Hp} {v : V} {d : D} {T : String} (h : Rep c.K G v d) (e : d.ty? = some T) : TyX c.K G v (.type T) := by
  cases h with
  | n => cases e; exact .base .non
  | b x => cases e; exact .base (.bl x)
  | i x => cases e; exact .base (.int x)
  | s x => cases e; exact .base (.str x)
  | l h1 h2 => cases e; exact .base (.lst h1)
  | z h1 h2 =>
    cases e
    rcases h1 with (h1 | ⟨o, h1⟩) | ⟨o, its, n, h1, h3, _⟩
    · exact .base (.lst h1)
    · exact .base (.frz h1)
    · exact .kList h1 h3
  | t h1 h2 => cases e; exact .base (.tup h1)
  | zt h1 h2 =>
    cases e
    rcases h1 with (h1 | ⟨o, h1⟩) | ⟨o, its, n, h1, h3, _⟩
    · exact .base (.tup h1)
    · exact .fTuple h1
    · exact .kTuple h1 h3
  | dk _ _ _ => cases e
  | dt _ _ _ => cases e
theorem TyX.up {K : PySem.W.Frag} {G H : Hp} {v : V} {T : String} (gh : Same G H) (h : TyX K G v (.type T)) : TyX K H v (.type T) := by
  cases h with
  | base b =>
    cases b with
    | non => exact .base .non
    | bl x => exact .base (.bl x)
    | int x => exact .base (.int x)
    | str x => exact .base (.str x)
    | flt x => exact .base (.flt x)
    | lst e => exact .base (.lst (gh _ _ e))
    | frz e => exact .base (.frz (gh _ _ e))
    | tup e => exact .base (.tup (gh _ _ e))
    | dK e => exact .base (.dK (gh _ _ e))
    | dT e => exact .base (.dT (gh _ _ e))
  | byt b => exact .byt b
  | set e => exact .set (gh _ _ e)
  | kList e k => exact .kList e k
  | kTuple e k => exact .kTuple e k
  | kDict e k => exact .kDict e k
  | fTuple e => exact .fTuple (gh _ _ e)
  | fDict e => exact .fDict (gh _ _ e)
theorem RV.tyx {G H : Hp} {v : V} {r : Rv} {T : String} (gh : Same G H) (h : RV c G H v r) (e : r.d.ty? = some T) : TyX c.K H v (.type T) := by
  cases r with
  | sh d => exact TyX.up gh (Rep.tyx h e)
  | fr d =>
    obtain ⟨p, rfl, _, _, o⟩ := h
    cases o with
    | l h1 h2 => cases e; exact .base (.lst h1)
    | dk h1 _ _ => cases e
    | dt h1 _ _ => cases e
  | bo d =>
    obtain ⟨p, rfl, _, _, o⟩ := h
    cases o with
    | l h1 h2 => cases e; exact .base (.lst h1)
    | dk h1 _ _ => cases e
    | dt h1 _ _ => cases e
def isiB (T : String) : String → Option Bool := fun t => kitB t T
def kIsi (T : String) : Rv → Re Rv := fun r => match r.d.ty? with
  | some t => (match isiB T t with | some k => okb k | none => .bad)
  | none => .bad
theorem re_isi (cy : Cy X c) {T : String} {x : Str} {p p2 : Pos} (hg : Gl X "isinstance") (hm : X.mg "isinstance" = none) (hgT : Gl X x) (hmT : X.mg x = none) (hvT : bootBuiltins x = some (.type T)) (ha : PE X a (tE c f))
    (hn : x ≠ "__name__" := by decide) (hd : (x == ("__debug__" : Str)) = false := by decide)
    (hs : starEach [a, .Name x p2] X.env = (false, eval a X.env) :: starEach [.Name x p2] X.env := by rfl) (hs2 : starEach [.Name x p2] X.env = [(false, eval (.Name x p2) X.env)] := by rfl) (hpl : (backTo pos (starEach [.Name x p2] X.env)).any (·.1) = false := by rfl) :
    PE X (.Call (.Name "isinstance" p) [a, .Name x p2] [] pos) (tE c (e1 (kIsi T) f)) := by
  refine PE.weak (pe_callB call_isi hg hm (by decide +kernel) (pa_cons ha (pa_cons (pe_bltn (v := .ty T) hgT hmT hvT rfl hn hd) pa_nil hs2) hs) (by decide) (by decide) hs hpl) ?_
  rintro σ H Q ⟨G, Γ, he, q⟩
  refine eE he q fun r v G1 H1 eq1 g1 v1 fr he1 q1 => ?_
  unfold kIsi at q1
  split at q1
  · rename_i t et
    split at q1
    · rename_i k ek
      rw [cy.K]
      exact ⟨v, .ty T, .type t, .type T, k, rfl, .ty T, v1.tyx he1.gh et, kit_ty ek, post_sh he1.gh q1 (.b _)⟩
    · exact q1.elim
  · exact q1.elim
def kIsi2 (T U : String) : Rv → Re Rv := fun r => match r.d.ty? with
  | some t => (match isiB T t, isiB U t with | some k, some j => okb (k || j) | _, _ => .bad)
  | none => .bad
theorem re_isi2 (cy : Cy X c) {T U : String} {x y : Str} {kk : Nat} {p p2 p3 pt : Pos} (hg : Gl X "isinstance") (hm : X.mg "isinstance" = none) (hgT : Gl X x) (hmT : X.mg x = none) (hvT : bootBuiltins x = some (.type T)) (hgU : Gl X y) (hmU : X.mg y = none) (hvU : bootBuiltins y = some (.type U)) (ha : PE X a (tE c f))
    (hn : x ≠ "__name__" := by decide) (hd : (x == ("__debug__" : Str)) = false := by decide) (hn' : y ≠ "__name__" := by decide) (hd' : (y == ("__debug__" : Str)) = false := by decide)
    (hs : starEach [a, .Tuple [.Name x p2, .Name y p3] kk pt] X.env = (false, eval a X.env) :: starEach [.Tuple [.Name x p2, .Name y p3] kk pt] X.env := by rfl)
    (hs2 : starEach [.Tuple [.Name x p2, .Name y p3] kk pt] X.env = [(false, eval (.Tuple [.Name x p2, .Name y p3] kk pt) X.env)] := by rfl)
    (hs3 : starEach [.Name x p2, .Name y p3] X.env = (false, eval (.Name x p2) X.env) :: starEach [.Name y p3] X.env := by rfl) (hs4 : starEach [.Name y p3] X.env = [(false, eval (.Name y p3) X.env)] := by rfl)
    (hpl : (backTo pos (starEach [.Tuple [.Name x p2, .Name y p3] kk pt] X.env)).any (·.1) = false := by rfl) :
    PE X (.Call (.Name "isinstance" p) [a, .Tuple [.Name x p2, .Name y p3] kk pt] [] pos) (tE c (e1 (kIsi2 T U) f)) := by
  refine PE.weak (pe_callB call_isiT hg hm (by decide +kernel) (pa_cons ha (pa_cons (pe_tup (pa_cons (pe_bltn (v := .ty T) hgT hmT hvT rfl hn hd) (pa_cons (pe_bltn (v := .ty U) hgU hmU hvU rfl hn' hd') pa_nil hs4) hs3)) pa_nil hs2) hs) (by decide) (by decide) hs hpl) ?_
  rintro σ H Q ⟨G, Γ, he, q⟩
  refine eE he q fun r v G1 H1 eq1 g1 v1 fr he1 q1 => ?_
  unfold kIsi2 at q1
  split at q1
  · rename_i t et
    split at q1
    · rename_i k j ek ej
      rw [cy.K]
      refine ⟨by show 2 ≤ sizeLine; decide, fun tp hp => ?_⟩
      have g2 := Gr.new (o := .tup [.ty T, .ty U]) he1.gh hp
      have v2 := v1.mono g2
      refine ⟨v, tp, [.ty T, .ty U], .type t, [.type T, .type U], k || j, rfl, upd_same, .cons (.ty T) (.cons (.ty U) .nil), v2.tyx g2.gh et, ?_, ?_⟩
      · refine kitAny_cons (kit_ty ek) (fun e => ?_) (fun e => by rw [e]; rfl)
        refine kitAny_cons (kit_ty ej) (fun e' => ?_) (fun e' => by rw [e']; exact Bool.or_true _)
        rw [e, e']; exact kitAny_nil
      · exact q1 _ _ _ g2 (Rep.b _) True.intro
    · exact q1.elim
  · exact q1.elim

def D.bools : List D → Option (List Bool)
  | [] => some []
  | .b x :: r => (D.bools r).map (x :: ·)
  | _ :: _ => none
def D.ints : List D → Option (List Int)
  | [] => some []
  | .i x :: r => (D.ints r).map (x :: ·)
  | _ :: _ => none
theorem D.ints_eq : ∀ {ds : List D} {zs : List Int}, D.ints ds = some zs → ds = zs.map D.i
  | [], _, h => by cases h; rfl
  | .i x :: r, zs, h => by
    unfold D.ints at h
    cases e : D.ints r with
    | none => rw [e] at h; cases h
    | some ws => rw [e] at h; cases h; rw [List.map_cons, ← D.ints_eq e]
  | .n :: _, _, h => by cases h
  | .b _ :: _, _, h => by cases h
  | .s _ :: _, _, h => by cases h
  | .l _ :: _, _, h => by cases h
  | .t _ :: _, _, h => by cases h
  | .z _ :: _, _, h => by cases h
  | .zt _ :: _, _, h => by cases h
  | .dk _ _ :: _, _, h => by cases h
  | .dt _ _ :: _, _, h => by cases h
theorem D.ints_map (zs : List Int) : D.ints (zs.map D.i) = some zs := by
  induction zs with
  | nil => rfl
  | cons z zs ih => rw [List.map_cons, D.ints, ih]; rfl
theorem D.bools_eq : ∀ {ds : List D} {zs : List Bool}, D.bools ds = some zs → ds = zs.map D.b
  | [], _, h => by cases h; rfl
  | .b x :: r, zs, h => by
    unfold D.bools at h
    cases e : D.bools r with
    | none => rw [e] at h; cases h
    | some ws => rw [e] at h; cases h; rw [List.map_cons, ← D.bools_eq e]
  | .n :: _, _, h => by cases h
  | .i _ :: _, _, h => by cases h
  | .s _ :: _, _, h => by cases h
  | .l _ :: _, _, h => by cases h
  | .t _ :: _, _, h => by cases h
  | .z _ :: _, _, h => by cases h
  | .zt _ :: _, _, h => by cases h
  | .dk _ _ :: _, _, h => by cases h
  | .dt _ _ :: _, _, h => by cases h
theorem D.bools_map (zs : List Bool) : D.bools (zs.map D.b) = some zs := by
  induction zs with
  | nil => rfl
  | cons z zs ih => rw [List.map_cons, D.bools, ih]; rfl
theorem Reps.bls {K : PySem.W.Frag} {G : Hp} : ∀ {vs : List V} {zs : List Bool}, Reps K G vs (zs.map D.b) → vs = zs.map V.bl
  | _, [], .nil => rfl
  | _, z :: zs, .cons h r => by rw [h.bl_inv, List.map_cons, Reps.bls r]
def kAll : Rv → Re Rv := fun r => match r.d.seq? with
  | some ds => (match D.bools ds with | some bs => okb (bs.all id) | none => .bad) | none => .bad
def kAny : Rv → Re Rv := fun r => match r.d.seq? with
  | some ds => (match D.bools ds with | some bs => okb (bs.any id) | none => .bad) | none => .bad
theorem re_all (cy : Cy X c) {p : Pos} (hg : Gl X "all") (hm : X.mg "all" = none) (ha : PE X a (tE c f)) (hs : starEach [a] X.env = [(false, eval a X.env)] := by rfl) : PE X (.Call (.Name "all" p) [a] [] pos) (tE c (e1 kAll f)) := by
  refine re_b1 (r := rAll c.K) (by rw [← cy.K]; exact cr_all cy.calm) ?_ hg hm (by decide +kernel) ha (by decide) (by decide) hs
  intro σ G H x rx Q gh bh hx q
  unfold kAll at q
  split at q
  · rename_i ds e
    split at q
    · rename_i bs eb
      obtain ⟨p, xs, rfl, e2, e3⟩ := hx.sql gh e
      rw [D.bools_eq eb] at e3
      rw [e3.bls] at e2
      exact ⟨p, bs, rfl, e2, post_sh gh q (.b _)⟩
    · exact q.elim
  · exact q.elim
theorem re_any (cy : Cy X c) {p : Pos} (hg : Gl X "any") (hm : X.mg "any" = none) (ha : PE X a (tE c f)) (hs : starEach [a] X.env = [(false, eval a X.env)] := by rfl) : PE X (.Call (.Name "any" p) [a] [] pos) (tE c (e1 kAny f)) := by
  refine re_b1 (r := rAny c.K) (by rw [← cy.K]; exact cr_any cy.calm) ?_ hg hm (by decide +kernel) ha (by decide) (by decide) hs
  intro σ G H x rx Q gh bh hx q
  unfold kAny at q
  split at q
  · rename_i ds e
    split at q
    · rename_i bs eb
      obtain ⟨p, xs, rfl, e2, e3⟩ := hx.sql gh e
      rw [D.bools_eq eb] at e3
      rw [e3.bls] at e2
      exact ⟨p, bs, rfl, e2, post_sh gh q (.b _)⟩
    · exact q.elim
  · exact q.elim
def kSum : Rv → Re Rv := fun r => match r.d.seq? with
  | some ds => (match D.ints ds with | some zs => oki zs.sum | none => .bad) | none => .bad
theorem re_sum (cy : Cy X c) {p : Pos} (hg : Gl X "sum") (hm : X.mg "sum" = none) (ha : PE X a (tE c f)) (hs : starEach [a] X.env = [(false, eval a X.env)] := by rfl) : PE X (.Call (.Name "sum" p) [a] [] pos) (tE c (e1 kSum f)) := by
  refine re_b1 (r := rSum c.K) (by rw [← cy.K]; exact cr_sum cy.calm) ?_ hg hm (by decide +kernel) ha (by decide) (by decide) hs
  intro σ G H x rx Q gh bh hx q
  unfold kSum at q
  split at q
  · rename_i ds e
    split at q
    · rename_i bs eb
      obtain ⟨p, xs, rfl, e2, e3⟩ := hx.sql gh e
      rw [D.ints_eq eb] at e3
      rw [e3.ints] at e2
      exact ⟨p, bs, rfl, e2, post_sh gh q (.i _)⟩
    · exact q.elim
  · exact q.elim
def maxI : List Int → Int
  | [] => 0 | z :: zs => zs.foldl max z
def minI : List Int → Int
  | [] => 0 | z :: zs => zs.foldl min z
theorem foldl_max_le (zs : List Int) : ∀ z : Int, z ≤ zs.foldl max z ∧ (∀ y ∈ zs, y ≤ zs.foldl max z) ∧ (zs.foldl max z = z ∨ zs.foldl max z ∈ zs) := by
  induction zs with
  | nil => intro z; exact ⟨Int.le_refl _, by simp, .inl rfl⟩
  | cons y ys ih =>
    intro z
    obtain ⟨h1, h2, h3⟩ := ih (max z y)
    refine ⟨by rw [List.foldl_cons]; omega, fun w hw => ?_, ?_⟩
    · rw [List.foldl_cons]
      rcases List.mem_cons.mp hw with rfl | hw
      · omega
      · exact h2 w hw
    · rw [List.foldl_cons]
      rcases h3 with h3 | h3
      · rcases Int.le_total z y with h | h
        · right; rw [h3, Int.max_eq_right h]; exact List.mem_cons_self
        · left; rw [h3, Int.max_eq_left h]
      · right; exact List.mem_cons_of_mem _ h3
theorem foldl_min_le (zs : List Int) : ∀ z : Int, zs.foldl min z ≤ z ∧ (∀ y ∈ zs, zs.foldl min z ≤ y) ∧ (zs.foldl min z = z ∨ zs.foldl min z ∈ zs) := by
  induction zs with
  | nil => intro z; exact ⟨Int.le_refl _, by simp, .inl rfl⟩
  | cons y ys ih =>
    intro z
    obtain ⟨h1, h2, h3⟩ := ih (min z y)
    refine ⟨by rw [List.foldl_cons]; omega, fun w hw => ?_, ?_⟩
    · rw [List.foldl_cons]
      rcases List.mem_cons.mp hw with rfl | hw
      · omega
      · exact h2 w hw
    · rw [List.foldl_cons]
      rcases h3 with h3 | h3
      · rcases Int.le_total z y with h | h
        · left; rw [h3, Int.min_eq_left h]
        · right; rw [h3, Int.min_eq_right h]; exact List.mem_cons_self
      · right; exact List.mem_cons_of_mem _ h3
theorem maxI_is {zs : List Int} {m : Int} (h : m ∈ zs) (hm : ∀ y ∈ zs, y ≤ m) : m = maxI zs := by
  cases zs with
  | nil => cases h
  | cons z zs =>
    obtain ⟨h1, h2, h3⟩ := foldl_max_le zs z
    have a : m ≤ maxI (z :: zs) := by
      rcases List.mem_cons.mp h with rfl | h
      · exact h1
      · exact h2 m h
    have b : maxI (z :: zs) ≤ m := by
      show zs.foldl max z ≤ m
      rcases h3 with h3 | h3
      · rw [h3]; exact hm z List.mem_cons_self
      · exact hm _ (List.mem_cons_of_mem _ h3)
    omega
theorem minI_is {zs : List Int} {m : Int} (h : m ∈ zs) (hm : ∀ y ∈ zs, m ≤ y) : m = minI zs := by
  cases zs with
  | nil => cases h
  | cons z zs =>
    obtain ⟨h1, h2, h3⟩ := foldl_min_le zs z
    have a : minI (z :: zs) ≤ m := by
      rcases List.mem_cons.mp h with rfl | h
      · exact h1
      · exact h2 m h
    have b : m ≤ minI (z :: zs) := by
      show m ≤ zs.foldl min z
      rcases h3 with h3 | h3
      · rw [h3]; exact hm z List.mem_cons_self
      · exact hm _ (List.mem_cons_of_mem _ h3)
    omega
def kMax : Rv → Re Rv := fun r => match r.d.seq? with
  | some ds => (match D.ints ds with | some zs => if 0 < zs.length then oki (maxI zs) else .bad | none => .bad) | none => .bad
def kMin : Rv → Re Rv := fun r => match r.d.seq? with
  | some ds => (match D.ints ds with | some zs => if 0 < zs.length then oki (minI zs) else .bad | none => .bad) | none => .bad
theorem re_max (cy : Cy X c) {p : Pos} (hg : Gl X "max") (hm : X.mg "max" = none) (ha : PE X a (tE c f)) (hs : starEach [a] X.env = [(false, eval a X.env)] := by rfl) : PE X (.Call (.Name "max" p) [a] [] pos) (tE c (e1 kMax f)) := by
  refine re_b1 (r := rMax c.K) (by rw [← cy.K]; exact cr_max cy.calm) ?_ hg hm (by decide +kernel) ha (by decide) (by decide) hs
  intro σ G H x rx Q gh bh hx q
  unfold kMax at q
  split at q
  · rename_i ds e
    split at q
    · rename_i bs eb
      split at q
      · obtain ⟨p, xs, rfl, e2, e3⟩ := hx.sql gh e
        rw [D.ints_eq eb] at e3
        rw [e3.ints] at e2
        refine ⟨p, bs, rfl, e2, by assumption, fun m hm hle => ?_⟩
        rw [maxI_is hm hle]
        exact post_sh gh q (.i _)
      · exact q.elim
    · exact q.elim
  · exact q.elim
theorem re_min (cy : Cy X c) {p : Pos} (hg : Gl X "min") (hm : X.mg "min" = none) (ha : PE X a (tE c f)) (hs : starEach [a] X.env = [(false, eval a X.env)] := by rfl) : PE X (.Call (.Name "min" p) [a] [] pos) (tE c (e1 kMin f)) := by
  refine re_b1 (r := rMin c.K) (by rw [← cy.K]; exact cr_min cy.calm) ?_ hg hm (by decide +kernel) ha (by decide) (by decide) hs
  intro σ G H x rx Q gh bh hx q
  unfold kMin at q
  split at q
  · rename_i ds e
    split at q
    · rename_i bs eb
      split at q
      · obtain ⟨p, xs, rfl, e2, e3⟩ := hx.sql gh e
        rw [D.ints_eq eb] at e3
        rw [e3.ints] at e2
        refine ⟨p, bs, rfl, e2, by assumption, fun m hm hle => ?_⟩
        rw [minI_is hm hle]
        exact post_sh gh q (.i _)
      · exact q.elim
    · exact q.elim
  · exact q.elim
def sortI (zs : List Int) : List Int := zs.mergeSort fun a b => decide (a ≤ b)
theorem sortI_is {zs ys : List Int} (hp : ys.Perm zs) (hs : ys.Pairwise (· ≤ ·)) : ys = sortI zs := by
  have h1 : (sortI zs).Perm zs := List.mergeSort_perm _ _
  have h2 : (sortI zs).Pairwise (· ≤ ·) := by
    have := List.pairwise_mergeSort (le := fun a b : Int => decide (a ≤ b)) (fun a b c h1 h2 => by simp only [decide_eq_true_eq] at *; omega) (fun a b => by simp only [Bool.or_eq_true, decide_eq_true_eq]; omega) zs
    exact this.imp fun h => by simpa using h
  exact List.Perm.eq_of_pairwise (fun a b _ _ h1 h2 => by omega) hs h2 (hp.trans h1.symm)
def kSort : Rv → Re Rv := fun r => match r.d.seq? with
  | some ds => (match D.ints ds with | some zs => .ok (.fr (.l ((sortI zs).map D.i))) | none => .bad) | none => .bad
theorem re_sort (cy : Cy X c) {p : Pos} (hg : Gl X "sorted") (hm : X.mg "sorted" = none) (ha : PE X a (tE c f)) (hs : starEach [a] X.env = [(false, eval a X.env)] := by rfl) : PE X (.Call (.Name "sorted" p) [a] [] pos) (tE c (e1 kSort f)) := by
  refine re_b1 (r := rSortedI c.K) (by rw [← cy.K]; exact cr_sortedI) ?_ hg hm (by decide +kernel) ha (by decide) (by decide) hs
  intro σ G H x rx Q gh bh hx q
  unfold kSort at q
  split at q
  · rename_i ds e
    split at q
    · rename_i bs eb
      obtain ⟨p, xs, rfl, e2, e3⟩ := hx.sql gh e
      rw [D.ints_eq eb] at e3
      rw [e3.ints] at e2
      refine ⟨p, bs, rfl, e2, fun ns' p' hp hs hn => ?_⟩
      rw [sortI_is hp hs]
      exact post_lst bh gh q (Reps.ofInts _) p' hn
    · exact q.elim
  · exact q.elim
end
end Ly
end

section
set_option maxRecDepth 100000
namespace Ly
open PySem PySem.Spec L2
open PyProof.Rows hiding St

def D.key? : D → Option Key
  | .i x => some (.inl x) | .s x => some (.inr x) | _ => none
def D.keys? : List D → Option (List Key)
  | [] => some []
  | d :: ds => match d.key?, D.keys? ds with | some k, some ks => some (k :: ks) | _, _ => none
theorem Rep.key {K : PySem.W.Frag} {G : Hp} {v : V} {d : D} {k : Key} (h : Rep K G v d) (e : d.key? = some k) : v = kV k := by
  cases h with
  | i z => cases e; rfl
  | s z => cases e; rfl
  | _ => cases e
theorem Reps.keys {K : PySem.W.Frag} {G : Hp} : ∀ {vs : List V} {ds : List D} {ks : List Key}, Reps K G vs ds → D.keys? ds = some ks → vs = ks.map kV
  | _, _, ks, .nil, e => by cases e; rfl
  | _, d :: ds, ks, .cons r rs, e => by
    unfold D.keys? at e
    split at e
    · rename_i k ks' e1 e2
      cases e
      rw [List.map_cons, ← r.key e1, ← Reps.keys rs e2]
    · cases e
def kget {κ : Type} [DecidableEq κ] : List κ → List D → κ → Option D
  | k' :: ks, d :: ds, k => if k' = k then some d else kget ks ds k
  | _, _, _ => none
def kput {κ : Type} [DecidableEq κ] (ks : List κ) (ds : List D) (k : κ) (d : D) : List κ × List D :=
  if k ∈ ks then (ks, (ks.zip ds).map fun p => if p.1 = k then d else p.2) else (ks ++ [k], ds ++ [d])
section
variable {κ : Type} [DecidableEq κ] {K : PySem.W.Frag} {G : Hp}
theorem kget_ok : ∀ {kvs : List (κ × V)} {ds : List D} {k : κ}, Reps K G (kvs.map (·.2)) ds → (valV kvs k = none ∧ kget (kvs.map (·.1)) ds k = none) ∨ ∃ v d, valV kvs k = some v ∧ kget (kvs.map (·.1)) ds k = some d ∧ Rep K G v d
  | [], _, k, .nil => .inl ⟨rfl, rfl⟩
  | p :: r, d :: ds, k, .cons h t => by
    by_cases e : p.1 = k
    · exact .inr ⟨p.2, d, valV_pos e, by rw [List.map_cons, kget, if_pos e], h⟩
    · rw [valV_neg e, List.map_cons, kget, if_neg e]
      exact kget_ok t
theorem mem_any {kvs : List (κ × V)} {k : κ} : (kvs.any fun kv => decide (kv.1 = k)) = true ↔ k ∈ kvs.map (·.1) := by
  simp [List.any_eq_true, List.mem_map]
theorem kput_ok {kvs : List (κ × V)} {ds : List D} {k : κ} {v : V} {d : D} (h : Reps K G (kvs.map (·.2)) ds) (r : Rep K G v d) :
    (kput (kvs.map (·.1)) ds k d).1 = (putK kvs k v).map (·.1) ∧ Reps K G ((putK kvs k v).map (·.2)) (kput (kvs.map (·.1)) ds k d).2 := by
  unfold kput putK
  by_cases hm : k ∈ kvs.map (·.1)
  · rw [if_pos hm, if_pos (mem_any.mpr hm)]
    refine ⟨?_, ?_⟩
    · clear hm h
      induction kvs with
      | nil => rfl
      | cons p t ih =>
        simp only [List.map_cons]
        have ih : List.map (fun x => x.1) t = List.map (fun x => x.1) (List.map (fun kv => if kv.1 = k then (kv.1, v) else kv) t) := ih
        rw [← ih]
        by_cases e : p.1 = k
        · rw [if_pos e]
        · rw [if_neg e]
    · clear hm
      induction kvs generalizing ds with
      | nil => cases h; exact .nil
      | cons p t ih =>
        cases h with
        | cons h1 h2 =>
          simp only [List.map_cons, List.zip_cons_cons]
          by_cases e : p.1 = k
          · rw [if_pos e, if_pos e]; exact .cons r (ih h2)
          · rw [if_neg e, if_neg e]; exact .cons h1 (ih h2)
  · rw [if_neg hm, if_neg (fun z => hm (mem_any.mp z))]
    exact ⟨by simp, by simpa using h.append (.cons r .nil)⟩
theorem putK_length_le (kvs : List (κ × V)) (k : κ) (v : V) : (putK kvs k v).length ≤ kvs.length + 1 := by
  unfold putK; split <;> simp
end
section
variable {X : Cx} {c : LC} {a b e o : Expr} {es : List Expr} {f g h : FE} {ft : FT} {fi : FI} {fa : FA} {u v : FS} {pos : Pos} {body : List Stmt}
theorem RV.dk {G H : Hp} {v : V} {r : Rv} {ks : List Key} {ds : List D} (gh : Same G H) (h : RV c G H v r) (e : r.d = .dk ks ds) : ∃ p kvs, v = .ref p ∧ Rd H p (.dK kvs) ∧ ks = kvs.map (·.1) ∧ Reps c.K G (kvs.map (·.2)) ds := by
  cases r with
  | sh d =>
    cases (show d = .dk ks ds from e)
    have h : Rep c.K G v (.dk ks ds) := h
    cases h with
    | dk h1 h2 h3 => exact ⟨_, _, rfl, Same.rd gh h1, h2, h3⟩
  | fr d => cases (show d = .dk ks ds from e); obtain ⟨p, e1, _, _, o⟩ := h; cases o with | dk h1 h2 h3 => exact ⟨p, _, e1, .inl h1, h2, h3⟩
  | bo d => cases (show d = .dk ks ds from e); obtain ⟨p, e1, _, _, o⟩ := h; cases o with | dk h1 h2 h3 => exact ⟨p, _, e1, .inl h1, h2, h3⟩
theorem RV.dt {G H : Hp} {v : V} {r : Rv} {ks : List (List Key)} {ds : List D} (gh : Same G H) (h : RV c G H v r) (e : r.d = .dt ks ds) : ∃ p kvs, v = .ref p ∧ Rd H p (.dT kvs) ∧ ks = kvs.map (·.1) ∧ Reps c.K G (kvs.map (·.2)) ds := by
  cases r with
  | sh d =>
    cases (show d = .dt ks ds from e)
    have h : Rep c.K G v (.dt ks ds) := h
    cases h with
    | dt h1 h2 h3 => exact ⟨_, _, rfl, Same.rd gh h1, h2, h3⟩
  | fr d => cases (show d = .dt ks ds from e); obtain ⟨p, e1, _, _, o⟩ := h; cases o with | dt h1 h2 h3 => exact ⟨p, _, e1, .inl h1, h2, h3⟩
  | bo d => cases (show d = .dt ks ds from e); obtain ⟨p, e1, _, _, o⟩ := h; cases o with | dt h1 h2 h3 => exact ⟨p, _, e1, .inl h1, h2, h3⟩
def dlook (dict key : D) : Option (Option D) := match dict with
  | .dk ks ds => (key.key?).map fun k => kget ks ds k
  | .dt ks ds => (match key with | .t kd => (D.keys? kd).map fun k => kget ks ds k | _ => none)
  | _ => none
theorem RV.key {G H : Hp} {v : V} {r : Rv} {k : Key} (h : RV c G H v r) (e : r.d.key? = some k) : v = kV k := by
  cases k with
  | inl z =>
    have ed : r.d = .i z := by cases q : r.d <;> rw [q] at e <;> cases e; rfl
    exact h.int ed
  | inr z =>
    have ed : r.d = .s z := by cases q : r.d <;> rw [q] at e <;> cases e; rfl
    exact h.str ed
theorem dlook_ok {G H : Hp} {v y : V} {r s : Rv} {o : Option D} (gh : Same G H) (h : RV c G H v r) (hy : RV c G H y s) (e : dlook r.d s.d = some o) :
    ∃ p ov, v = .ref p ∧ DGet H p y ov ∧ ((ov = none ∧ o = none) ∨ ∃ w d, ov = some w ∧ o = some d ∧ Rep c.K G w d) := by
  unfold dlook at e
  split at e
  · rename_i ks ds ed
    obtain ⟨p, kvs, rfl, h1, rfl, h3⟩ := h.dk gh ed
    cases ek : s.d.key? with
    | none => rw [ek] at e; cases e
    | some k =>
      rw [ek] at e
      cases e
      have ey := hy.key ek
      refine ⟨p, valV kvs k, rfl, .inl ⟨kvs, k, h1, ey, rfl⟩, ?_⟩
      rcases kget_ok (k := k) h3 with ⟨a, b⟩ | ⟨w, d, a, b, r⟩
      · exact .inl ⟨a, b⟩
      · exact .inr ⟨w, d, a, b, r⟩
  · rename_i ks ds ed
    obtain ⟨p, kvs, rfl, h1, rfl, h3⟩ := h.dt gh ed
    split at e
    · rename_i kd es
      cases ek : D.keys? kd with
      | none => rw [ek] at e; cases e
      | some k =>
        rw [ek] at e
        cases e
        obtain ⟨b, xs, rfl, h4, h5⟩ := hy.tup es
        rw [h5.keys ek] at h4
        refine ⟨p, valV kvs k, rfl, .inr ⟨kvs, k, b, h1, rfl, gh _ _ h4, rfl⟩, ?_⟩
        rcases kget_ok (k := k) h3 with ⟨a, b⟩ | ⟨w, d, a, b, r⟩
        · exact .inl ⟨a, b⟩
        · exact .inr ⟨w, d, a, b, r⟩
    · cases e
  · cases e
def kDget : Rv → Rv → Re Rv := fun x y => match dlook x.d y.d with
  | some (some d) => .ok (.sh d) | _ => .bad
theorem re_dget (cy : Cy X c) (ho : PE X o (tE c f)) (hi : PE X a (tE c g)) (hs : NoSl a := by intro _ _; rfl) : PE X (.Subscript o a pos) (tE c (e2 kDget f g)) := by
  have hu : X.A.units + 1 < cLine := Nat.lt_of_le_of_lt (Nat.add_le_add_left (by decide) _) cy.un
  refine PE.weak (pe_dget hu ho hi hs) ?_
  rintro σ H Q ⟨G, Γ, he, q⟩
  refine eE he q fun rx x G1 H1 eq1 g1 v1 fr1 he1 q1 => ?_
  refine eE he1 q1 fun ry y G2 H2 eq2 g2 v2 fr2 he2 q2 => ?_
  unfold kDget at q2
  split at q2
  · rename_i d ed
    obtain ⟨p, ov, e1, hd, h⟩ := dlook_ok he2.gh (v1.mono g2) v2 ed
    rcases h with ⟨_, h⟩ | ⟨w, d', h1, h2, h3⟩
    · cases h
    · cases h2
      subst h1
      exact ⟨p, w, e1, hd, post_sh he2.gh q2 h3⟩
  · exact q2.elim
def inD (x y : D) : Option Bool := match y with
  | .dk _ _ => (dlook y x).map Option.isSome
  | .dt _ _ => (dlook y x).map Option.isSome
  | .l ds => if dok 12 x = true ∧ dok 12 (.l ds) = true then some (ds.any fun z => deq z x) else none
  | .s t => (match x with | .s w => (match w.cps.toList with | [ch] => some (decide (ch ∈ t.cps.toList)) | _ => none) | _ => none)
  | _ => none
def rInA (K : PySem.W.Frag) (neg : Bool) : R2 := fun x y H Q => (∃ a o, y = .ref a ∧ DGet H a x o ∧ Q (.bl (if neg then !o.isSome else o.isSome)) H) ∨
  (∃ d ds, Dp K H x d ∧ Dp K H y (.list ds) ∧ SeqAt.shaped d = true ∧ SeqAt.shaped (.list ds) = true ∧ Q (.bl (if neg then !ds.any fun z => PyData.eqv z d else ds.any fun z => PyData.eqv z d)) H) ∨
  (∃ i j : Str, x = .str i ∧ y = .str j ∧ Q (.bl (if neg then !(!(Builtin.Str.occurrences j i 0 j.length 1).isEmpty) else !(Builtin.Str.occurrences j i 0 j.length 1).isEmpty)) H)
theorem op_inA (hu : X.A.units + 65 < cLine) : OpR X (compareOp .In) (rInA X.K false) := by
  intro pins s σ H x y v u Q I rx ry h
  rcases h with ⟨a, o, rfl, hd, q⟩ | ⟨d, ds, h1, h2, h3, h4, q⟩ | ⟨i, j, h1, h2, q⟩
  · obtain rfl : u = Value.ref a := ry
    exact d_in (by omega) I hd rx fun s3 I3 => ⟨.bl o.isSome, H, I3, rfl, q⟩
  · exact op_inD hu pins s σ H x y v u Q I rx ry ⟨d, ds, h1, h2, h3, h4, q⟩
  · exact op_in_str pins s σ H x y v u Q I rx ry ⟨i, j, h1, h2, q⟩
theorem op_notInA (hu : X.A.units + 65 < cLine) : OpR X (compareOp .NotIn) (rInA X.K true) := by
  intro pins s σ H x y v u Q I rx ry h
  rcases h with ⟨a, o, rfl, hd, q⟩ | ⟨d, ds, h1, h2, h3, h4, q⟩ | ⟨i, j, h1, h2, q⟩
  · obtain rfl : u = Value.ref a := ry
    exact d_notIn (by omega) I hd rx fun s3 I3 => ⟨.bl (!o.isSome), H, I3, rfl, q⟩
  · exact op_notInD hu pins s σ H x y v u Q I rx ry ⟨d, ds, h1, h2, h3, h4, q⟩
  · exact op_notin_str pins s σ H x y v u Q I rx ry ⟨i, j, h1, h2, q⟩
def kIn (neg : Bool) : Rv → Rv → Re Rv := fun x y => match inD x.d y.d with
  | some k => okb (if neg then !k else k) | none => .bad
theorem pys_any (x : D) : ∀ ds : List D, ((D.pys ds).any fun z => PyData.eqv z x.py) = ds.any fun z => deq z x
  | [] => by rw [D.pys]; rfl
  | d :: ds => by rw [D.pys, List.any_cons, List.any_cons, pys_any x ds]; rfl
theorem ok2_in (neg : Bool) : Ok2 c (rInA c.K neg) (kIn neg) := by
  intro σ G H x y rx ry Q gh bh hx hy q
  unfold kIn at q
  split at q
  · rename_i k ek
    have q : Post c (okb (if neg then !k else k)) σ G H Q := q
    unfold inD at ek
    split at ek
    · rename_i ks ds ed
      cases el : dlook ry.d rx.d with
      | none => rw [el] at ek; cases ek
      | some o =>
        rw [el] at ek
        cases ek
        obtain ⟨p, ov, e1, hd, h⟩ := dlook_ok gh hy hx el
        have ei : ov.isSome = o.isSome := by
          rcases h with ⟨h1, h2⟩ | ⟨w, d, h1, h2, _⟩ <;> rw [h1, h2] <;> rfl
        exact .inl ⟨p, ov, e1, hd, by rw [ei]; exact post_sh gh q (.b _)⟩
    · rename_i ks ds ed
      cases el : dlook ry.d rx.d with
      | none => rw [el] at ek; cases ek
      | some o =>
        rw [el] at ek
        cases ek
        obtain ⟨p, ov, e1, hd, h⟩ := dlook_ok gh hy hx el
        have ei : ov.isSome = o.isSome := by
          rcases h with ⟨h1, h2⟩ | ⟨w, d, h1, h2, _⟩ <;> rw [h1, h2] <;> rfl
        exact .inl ⟨p, ov, e1, hd, by rw [ei]; exact post_sh gh q (.b _)⟩
    · rename_i ds ed
      split at ek
      · rename_i hd
        cases ek
        have hdy : dok 12 ry.d = true := by rw [ed]; exact hd.2
        have dy := hy.dp gh 11 hdy
        have sy := dok_shaped hdy (by decide)
        rw [ed, D.py] at dy sy
        refine .inr (.inl ⟨_, _, hx.dp gh 11 hd.1, dy, dok_shaped hd.1 (by decide), sy, ?_⟩)
        rw [pys_any]
        exact post_sh gh q (.b _)
      · cases ek
    · rename_i t ed
      split at ek
      · rename_i w ew
        split at ek
        · rename_i ch ec
          cases ek
          have exw : w = ⟨#[ch]⟩ := by
            obtain ⟨l⟩ := w
            have : l = #[ch] := by
              apply Array.ext'
              simpa using ec
            rw [this]
          refine .inr (.inr ⟨w, t, hx.str ew, hy.str ed, ?_⟩)
          subst exw
          have e1 : (!(Builtin.Str.occurrences t ⟨#[ch]⟩ 0 t.length 1).isEmpty) = decide (ch ∈ t.cps.toList) := PySem.StrLaws.found_one t ch
          rw [e1]
          exact post_sh gh q (.b _)
        · cases ek
      · cases ek
    · cases ek
  · exact q.elim
end
structure Cy2 (X : Cx) : Prop where
  un : X.A.units + 65 < cLine
section
variable {X : Cx} {c : LC} {a b e o : Expr} {es : List Expr} {f g h : FE} {ft : FT} {fi : FI} {fa : FA} {u v : FS} {pos : Pos} {body : List Stmt}
theorem cd_in (cy : Cy X c) (hu : X.A.units + 65 < cLine) : CmpD X c .In (kIn false) := ⟨_, cy.K ▸ op_inA hu, ok2_in false⟩
theorem cd_notIn (cy : Cy X c) (hu : X.A.units + 65 < cLine) : CmpD X c .NotIn (kIn true) := ⟨_, cy.K ▸ op_notInA hu, ok2_in true⟩
def dput (dict key val : D) : Option D := match dict with
  | .dk ks ds => if ks.length < 16777216 then (key.key?).map fun k => .dk (kput ks ds k val).1 (kput ks ds k val).2 else none
  | .dt ks ds => if ks.length < 16777216 then (match key with | .t kd => (D.keys? kd).map fun k => .dt (kput ks ds k val).1 (kput ks ds k val).2 | _ => none) else none
  | _ => none
def sDput (i : Nat) (fk fv : FE) : FS := fun Γ => match Γ[i]? with
  | some (some (.fr t)) => (fv Γ).fl Γ fun r => (share r).fl Γ fun d => (fk Γ).fl Γ fun k => (match dput t k.d d with | some t' => .nx (Γ.set i (some (.fr t'))) | none => .bad)
  | _ => .bad
theorem rs_dput (cy : Cy X c) {i : Nat} {x : Str} {px pos' : Pos} (hN : X.N[i]? = some x) (hv : Vis X.env.scope x) (hk : PE X a (tE c g)) (hval : PE X e (tE c f))
    (hd : (x == ("__debug__" : Str)) = false := by decide) (hcd : (x == ("__classdict__" : Str)) = false := by decide)
    (hs : swapsWith e (some (.Subscript (.Name x px) a pos')) pos.line X.env = pure false := by rfl) : PS X (.Assign [.Subscript (.Name x px) a pos'] e pos) (tS c (sDput i g f)) := by
  have hu : X.A.units + 1 < cLine := Nat.lt_of_le_of_lt (Nat.add_le_add_left (by decide) _) cy.un
  refine PS.weak (ps_dput hu (pe_var hN hv hd hcd) hk hval hs) ?_
  rintro D σ H ⟨G, Γ, he, q⟩
  unfold sDput at q
  split at q
  · rename_i t hi
    obtain ⟨vo, h1, ⟨p, rfl, bp, gp, o⟩, _⟩ := he.at' i _ hi
    refine sS he q fun d w G1 H1 g1 r1 he1 q1 => ?_
    refine ⟨_, h1, ?_⟩
    refine sE he1 q1 fun rk y G2 H2 eq2 g2 v2 fr2 he2 q2 => ?_
    split at q2
    · rename_i t' et
      have o2 := (o.mono g1.hh g1.gg).mono g2.hh g2.gg
      have r2 := r1.mono g2.gg
      cases o2 with
      | l _ _ => cases et
      | @dk kvs ks ds h2 h3 h4 =>
        unfold dput at et
        dsimp only at et
        split at et
        · rename_i hl
          cases ek : rk.d.key? with
          | none => rw [ek] at et; cases et
          | some k =>
            rw [ek] at et
            cases et
            subst h3
            obtain ⟨e1, e2⟩ := kput_ok (k := k) h4 r2
            refine ⟨p, _, rfl, .inl ⟨kvs, k, h2, v2.key ek, by rw [sizeLine_eq]; simpa using hl, rfl⟩, ?_⟩
            exact q2 σ G2 _ (he2.put (d' := .dk (kput (kvs.map (·.1)) ds k d).1 (kput (kvs.map (·.1)) ds k d).2) hi h1 (.dk upd_same e1 e2)) (Same.refl _)
        · cases et
      | @dt kvs ks ds h2 h3 h4 =>
        unfold dput at et
        dsimp only at et
        split at et
        · rename_i hl
          split at et
          · rename_i kd ekd
            cases ek : Ly.D.keys? kd with
            | none => rw [ek] at et; cases et
            | some k =>
              rw [ek] at et
              cases et
              subst h3
              obtain ⟨e1, e2⟩ := kput_ok (k := k) h4 r2
              obtain ⟨b, xs, rfl, h5, h6⟩ := v2.tup ekd
              rw [h6.keys ek] at h5
              refine ⟨p, _, rfl, .inr ⟨kvs, k, b, h2, rfl, he2.gh _ _ h5, by rw [sizeLine_eq]; simpa using hl, rfl⟩, ?_⟩
              exact q2 σ G2 _ (he2.put (d' := .dt (kput (kvs.map (·.1)) ds k d).1 (kput (kvs.map (·.1)) ds k d).2) hi h1 (.dt upd_same e1 e2)) (Same.refl _)
          · cases et
        · cases et
    · exact q2.elim
  · exact q.elim
end
end Ly
end

section
set_option maxRecDepth 100000
namespace Ly
open PySem PySem.Spec L2
open PyProof.Rows hiding St
section
variable {X : Cx} {c : LC} {a b e o : Expr} {es : List Expr} {f g h : FE} {ft : FT} {fi : FI} {fa : FA} {u v : FS} {pos : Pos} {body : List Stmt} {tg : Expr}
theorem nv (i : Nat) {x : Str} (hN : X.N[i]? = some x := by rfl) (hv : Vis X.env.scope x := by first | exact Or.inl rfl | exact Or.inr (Or.inl rfl) | exact Or.inr (Or.inr rfl)) (hd : (x == ("__debug__" : Str)) = false := by decide)
    (hcd : (x == ("__classdict__" : Str)) = false := by decide) : PE X (.Name x pos) (tE c (eV i)) := re_v hN hv hd hcd
theorem re_gi {x : Str} {z : Int} (h : ∃ t, X.mg x = some (.int z t)) (hg : Gl X x := by rfl) (hd : (x == ("__debug__" : Str)) = false := by decide) : PE X (.Name x pos) (tE c (eC (.i z))) := by
  obtain ⟨t, h⟩ := h
  exact re_gl hg h (v := .int z) ⟨t, rfl⟩ (fun _ => .i z) hd
theorem re_gs {x : Str} {z : Str} (h : ∃ t, X.mg x = some (.str z t)) (hg : Gl X x := by rfl) (hd : (x == ("__debug__" : Str)) = false := by decide) : PE X (.Name x pos) (tE c (eC (.s z))) := by
  obtain ⟨t, h⟩ := h
  exact re_gl hg h (v := .str z) ⟨t, rfl⟩ (fun _ => .s z) hd
def itA (f : FE) : FI := fun Γ => (f Γ).bind fun r => match r with
  | .sh (.l ds) => .ok ds | .fr (.l ds) => .ok ds | .sh (.z ds) => .ok ds | .sh (.t ds) => .ok ds | .sh (.zt ds) => .ok ds | .sh (.s x) => .ok (signs x) | _ => .bad
theorem ri_any (cy : Cy X c) (ha : PE X e (tE c f)) : PI X tg e (tI c (itA f)) := by
  have h1 := ri_list (tg := tg) cy ha
  have h2 := ri_tup (tg := tg) cy ha
  have h3 := ri_str (tg := tg) (c := c) ha
  refine ⟨fun pins s σ H R I hq => ?_⟩
  obtain ⟨G, Γ, he, q⟩ := hq
  unfold itA at q
  cases ef : f Γ with
  | bad => exact h1.run pins s σ H R I ⟨G, Γ, he, by unfold itL; rw [ef] at q ⊢; exact q⟩
  | ex x => exact h1.run pins s σ H R I ⟨G, Γ, he, by unfold itL; rw [ef] at q ⊢; exact q⟩
  | ok r =>
    rw [ef] at q
    simp only [Re.bind_ok] at q
    split at q
    · exact h1.run pins s σ H R I ⟨G, Γ, he, by unfold itL; rw [ef]; exact q⟩
    · exact h1.run pins s σ H R I ⟨G, Γ, he, by unfold itL; rw [ef]; exact q⟩
    · exact h1.run pins s σ H R I ⟨G, Γ, he, by unfold itL; rw [ef]; exact q⟩
    · exact h2.run pins s σ H R I ⟨G, Γ, he, by unfold itT; rw [ef]; exact q⟩
    · exact h2.run pins s σ H R I ⟨G, Γ, he, by unfold itT; rw [ef]; exact q⟩
    · exact h3.run pins s σ H R I ⟨G, Γ, he, by unfold itS; rw [ef]; exact q⟩
    · exact q.elim
theorem rgn_nil : PGs X [] (gNames []) := pgs_nil
theorem rgn_cons (cy : Cy X c) {i : Nat} {x : Str} {px : Pos} {is : List Nat} (hr : PGs X es (gNames is)) (hi : X.N[i]? = some x := by rfl) (hx : Loc X.env.scope x := by first | exact Or.inl rfl | exact Or.inr rfl)
    (hf : X.fn x = true ∨ X.env.scope.names.lookup x = some .local := by first | exact .inl rfl | exact .inr rfl)
    (hs : (assignEach (.Name x px :: es) X.env).map (·.2) = assign (.Name x px) X.env :: (assignEach es X.env).map (·.2) := by rfl) : PGs X (.Name x px :: es) (gNames (i :: is)) :=
  pgs_cons (pg_name cy.nd hi hx hf) hr hs
theorem rg_names (cy : Cy X c) {k : Nat} {is : List Nat} (h : PGs X es (gNames is)) (hn : (assignEach es X.env).length = is.length := by rfl) (hst : (assignEach es X.env).findIdx? (·.1) = none := by rfl) :
    PG X (.Tuple es k pos) ((Tg.tup is).tgt c.K) := cy.K ▸ pg_tup cy.calm h hn hst
theorem rg1 (cy : Cy X c) (i : Nat) {x : Str} (hi : X.N[i]? = some x := by rfl) (hx : Loc X.env.scope x := by first | exact Or.inl rfl | exact Or.inr rfl)
    (hf : X.fn x = true ∨ X.env.scope.names.lookup x = some .local := by first | exact .inl rfl | exact .inr rfl) : PG X (.Name x pos) ((Tg.one i).tgt c.K) := rg_one cy hi hx hf
def sPar (i j : Nat) (f g : FE) : FS := fun Γ => (f Γ).fl Γ fun r => (share r).fl Γ fun d => (g Γ).fl Γ fun s => (share s).fl Γ fun e => .nx ((Γ.set i (some (.sh d))).set j (some (.sh e)))
theorem rs_par (cy : Cy X c) {i j : Nat} {x y : Str} {px py pt : Pos} {kt k2 pt2} (hi : X.N[i]? = some x) (hj : X.N[j]? = some y) (hij : i ≠ j)
    (hx : X.env.scope.names.lookup x = some .local) (hy : X.env.scope.names.lookup y = some .local) (ha : PE X a (tE c f)) (hb : PE X b (tE c g))
    (hw : swappedStores [.Tuple [.Name x px, .Name y py] kt pt] (.Tuple [a, b] k2 pt2) X.env = pure (some [x, y]))
    (hs : swapsWithSole [.Tuple [.Name x px, .Name y py] kt pt] (.Tuple [a, b] k2 pt2) pos.line X.env = pure false := by rfl)
    (h1 : starEach [a, b] X.env = (false, eval a X.env) :: starEach [b] X.env := by rfl) (h2 : starEach [b] X.env = [(false, eval b X.env)] := by rfl) :
    PS X (.Assign [.Tuple [.Name x px, .Name y py] kt pt] (.Tuple [a, b] k2 pt2) pos) (tS c (sPar i j f g)) := by
  refine PS.weak (ps_par cy.calm cy.nd hi hj hij hx hy (pa_cons ha (pa_cons hb pa_nil h2) h1) hw hs) ?_
  rintro D σ H ⟨G, Γ, he, q⟩
  refine sS he q fun d v G1 H1 g1 r1 he1 q1 => ?_
  refine sS he1 q1 fun d2 v2 G2 H2 g2 r2 he2 q2 => ?_
  exact ⟨v, v2, rfl, q2 _ G2 H2 ((he2.setSh i (r1.mono g2.gg)).setSh j r2) (Same.refl _)⟩
theorem rt_isN {j pos'} (ha : PE X a (tE c f)) : PT X (.Compare a [.Is] [.Constant .none j pos'] pos) (tT c (tV (e2 (kIs false) f (eC .n)))) := by
  refine tV_test (t := tIsN (tE c f)) (pt_cmp (pc_isN ha)) ?_
  rintro σ H Q ⟨G, Γ, he, q⟩
  refine eE he q fun rx x G1 H1 e1 g1 v1 fr1 he1 q1 => ?_
  have q1 : Post c (okb (isN rx)) σ G1 H1 Q := q1
  rw [v1.isN]
  exact post_sh he1.gh q1 (.b _)
theorem rt_notN {j pos'} (ha : PE X a (tE c f)) : PT X (.Compare a [.IsNot] [.Constant .none j pos'] pos) (tT c (tV (e2 (kIs true) f (eC .n)))) := by
  refine tV_test (t := tNotN (tE c f)) (pt_cmp (pc_notN ha)) ?_
  rintro σ H Q ⟨G, Γ, he, q⟩
  refine eE he q fun rx x G1 H1 e1 g1 v1 fr1 he1 q1 => ?_
  have q1 : Post c (okb (!isN rx)) σ G1 H1 Q := q1
  show Q (.bl (!decide (x = .non))) H1
  rw [v1.isN]
  exact post_sh he1.gh q1 (.b _)
def kLr1 : Rv → Re Rv := fun r => match r.d with | .i j => kLr 0 j | _ => .bad
def kAug_add : Rv → Rv → Re Rv := kI fun i j => oki (i + j)
def kAug_mul : Rv → Rv → Re Rv := kI fun i j => if (-(2 ^ 64) < i ∧ i < 2 ^ 64) ∨ (-(2 ^ 64) < j ∧ j < 2 ^ 64) then oki (i * j) else .bad
def kAug_mod : Rv → Rv → Re Rv := kI fun i j => if 0 < j then oki (i % j) else .bad
def kAug_div : Rv → Rv → Re Rv := kI fun i j => if 0 < j ∧ j < 1073741824 then oki (i / j) else .bad
variable {i : Nat} {x : Str} {pos' : Pos}
theorem ra_add (cy : Cy X c) (hi : X.N[i]? = some x) (hx : Loc X.env.scope x) (ha : PE X e (tE c f)) (hf : X.fn x = true ∨ X.env.scope.names.lookup x = some .local := by first | exact .inl rfl | exact .inr rfl) :
    PS X (.AugAssign (.Name x pos') .Add e pos) (tS c (sAug i kAug_add f)) := rs_aug cy hi hx iop_add ok2_I0 ha hf
theorem ra_mul (cy : Cy X c) (hi : X.N[i]? = some x) (hx : Loc X.env.scope x) (ha : PE X e (tE c f)) (hf : X.fn x = true ∨ X.env.scope.names.lookup x = some .local := by first | exact .inl rfl | exact .inr rfl) :
    PS X (.AugAssign (.Name x pos') .Mult e pos) (tS c (sAug i kAug_mul f)) := rs_aug cy hi hx iop_mul (ok2_I (h := fun i j => i * j) fun i j => by
      by_cases hj : (-(2 ^ 64) < i ∧ i < 2 ^ 64) ∨ (-(2 ^ 64) < j ∧ j < 2 ^ 64)
      · left; rw [if_pos hj]; exact ⟨rfl, hj⟩
      · right; rw [if_neg hj]) ha hf
theorem ra_mod (cy : Cy X c) (hi : X.N[i]? = some x) (hx : Loc X.env.scope x) (ha : PE X e (tE c f)) (hf : X.fn x = true ∨ X.env.scope.names.lookup x = some .local := by first | exact .inl rfl | exact .inr rfl) :
    PS X (.AugAssign (.Name x pos') .Mod e pos) (tS c (sAug i kAug_mod f)) := rs_aug cy hi hx iop_mod (ok2_I (h := fun i j => i % j) fun i j => by by_cases hj : 0 < j <;> simp [hj]) ha hf
theorem ra_div (cy : Cy X c) (hi : X.N[i]? = some x) (hx : Loc X.env.scope x) (ha : PE X e (tE c f)) (hf : X.fn x = true ∨ X.env.scope.names.lookup x = some .local := by first | exact .inl rfl | exact .inr rfl) :
    PS X (.AugAssign (.Name x pos') .FloorDiv e pos) (tS c (sAug i kAug_div f)) := rs_aug cy hi hx iop_fdiv (ok2_I (h := fun i j => i / j) fun i j => by
      by_cases hj : 0 < j ∧ j < 1073741824
      · left; rw [if_pos hj]; exact ⟨rfl, hj⟩
      · right; rw [if_neg hj]) ha hf
end
theorem _root_.L2.Room.units65 {k : Nat} {A : Around} (r : Room k A) : A.units + 65 < cLine := by have := r.un; omega
theorem walk_law {l : PySem.W.OpenLaw} {q : Program} {loose : List Str} {XP : (Str → Option Value) → Heap → Prop} {YP : World → Heap → Prop} {d : DefRec} {K : Params → PySem.W.Frag} {k : Nat} {x : Str} {F : List D → Re Rv} (hn : l.most = some 63) (hdf : d.params.defaults = []) (hr : Room k callerA)
    (hY : ∀ (w : World) (h : Heap), YP w h → (K w.params).In h)
    (hF : ∀ (w : World) (mg : Str → Option Value) (fa : Addr) (h : Heap), (K w.params).In h → h.Ns mainGlobals mg → mg d.name = some (.ref fa) →
      ∃ fd : FuncData, (∀ (s : Shared) (u : Value), BindsTo s fd ⟨[u], []⟩ [(x, u)]) ∧ ∀ base : Heap, (K w.params).In base → base.Ns mainGlobals mg → FnOk l.prog w (K w.params) mg base (L2.CX l.prog w) k fa fd [x] (spF (K w.params) mg 1 F))
    (ht : ∀ ns : List Int, ns.length ≤ 63 → F [.z (ns.map .i)] = .ok (.sh (.b true))) :
    PySem.W.WalkO q loose XP YP l.row.toRowW d [] (fun f vs => PySem.call f vs) := by
  refine L2.walk_of (n := 63) (k := k) (x := x) (CX := fun w => L2.CX l.prog w)
    (sp := fun w vs H Q _ => ∃ (a : Addr) (ns : List Int), vs = [.ref a] ∧ SqL (K w.params) H a (ns.map V.int) ∧ ns.length ≤ 63 ∧ ∀ H', Q (.bl true) H') hn (by decide) hdf hr hY ?_ (fun w H a ns h1 h2 h3 => ⟨a, ns, rfl, h3, h1, fun _ => rfl⟩) ?_
  · intro w mg fa h KX G hmg
    obtain ⟨fd, hb, h⟩ := hF w mg fa h KX G hmg
    refine ⟨fd, hb, fun base hK hG => (h base hK hG).imp fun vs H Q E ⟨a, ns, e, hs, hl, hq⟩ => ?_⟩
    subst e
    refine ⟨H, [.z (ns.map .i)], rfl, Same.refl _, .cons (.z hs (Reps.ofInts ns)) .nil, ?_⟩
    rw [ht ns hl]
    intro v G' H' g rv
    cases rv.bl_inv
    exact hq H'
  · intro w H s e s' h
    obtain ⟨_, _, _, _, _, _, _, _, _, _, _, _, z⟩ := h
    exact z
end Ly
end

section
set_option maxRecDepth 100000
namespace Ly
open PySem PySem.Spec L2
open PyProof.Rows hiding St
inductive Src where
  | p (i : Nat) | d (i : Nat) | k (i : Nat)
def gp {α : Type} : List Src → List α → List α → List α → List α
  | [], _, _, _ => []
  | .p i :: r, us, ds, ws => us[i]?.toList ++ gp r us ds ws
  | .d i :: r, us, ds, ws => ds[i]?.toList ++ gp r us ds ws
  | .k i :: r, us, ds, ws => ws[i]?.toList ++ gp r us ds ws
theorem vals_at {xs : List V} {us : List Value} (i : Nat) (r : Vals xs us) : Vals xs[i]?.toList us[i]?.toList := by
  cases h : xs[i]? with
  | none =>
    have : us[i]? = none := by rw [List.getElem?_eq_none_iff] at h ⊢; rw [← r.length]; exact h
    rw [this]; exact .nil
  | some x =>
    obtain ⟨u, hu, rx⟩ := r.get h
    rw [hu]; exact .cons rx .nil
theorem reps_at {K : PySem.W.Frag} {G : Hp} {xs : List V} {ds : List D} (i : Nat) (r : Reps K G xs ds) : Reps K G xs[i]?.toList ds[i]?.toList := by
  cases h : xs[i]? with
  | none =>
    have : ds[i]? = none := by rw [List.getElem?_eq_none_iff] at h ⊢; rw [← r.length]; exact h
    rw [this]; exact .nil
  | some x =>
    obtain ⟨u, hu, rx⟩ := r.get h
    rw [hu]; exact .cons rx .nil
theorem gp_vals : ∀ (l : List Src) {vs ds zs : List V} {us its ws : List Value}, Vals vs us → Vals ds its → Vals zs ws → Vals (gp l vs ds zs) (gp l us its ws)
  | [], _, _, _, _, _, _, _, _, _ => .nil
  | .p i :: l, _, _, _, _, _, _, a, b, c => (vals_at i a).append (gp_vals l a b c)
  | .d i :: l, _, _, _, _, _, _, a, b, c => (vals_at i b).append (gp_vals l a b c)
  | .k i :: l, _, _, _, _, _, _, a, b, c => (vals_at i c).append (gp_vals l a b c)
theorem gp_reps {K : PySem.W.Frag} {G : Hp} : ∀ (l : List Src) {vs ds zs : List V} {us its ws : List D}, Reps K G vs us → Reps K G ds its → Reps K G zs ws → Reps K G (gp l vs ds zs) (gp l us its ws)
  | [], _, _, _, _, _, _, _, _, _ => .nil
  | .p i :: l, _, _, _, _, _, _, a, b, c => (reps_at i a).append (gp_reps l a b c)
  | .d i :: l, _, _, _, _, _, _, a, b, c => (reps_at i b).append (gp_reps l a b c)
  | .k i :: l, _, _, _, _, _, _, a, b, c => (reps_at i c).append (gp_reps l a b c)
abbrev FnD (K : PySem.W.Frag) (x : Str) (st : Stmt) (dvs : List V) (f : Addr) (fd : FuncData) : Prop := FunD K x x (defArgs st) (defBody st) (defScope st) dvs [] f fd
theorem fnD_mk {K : PySem.W.Frag} {x : Str} {st : Stmt} {f T : Addr} {oc oc2 : Value} {od od2 an : Option Addr} {osl sl2 : Array (Option Value)} {kV doc pm cdv ct : Value} {dvs : List V} {its : List Value} {n : Nat}
    (l : K.lookup f = some ⟨oc, od, .func (PySem.W.fnOf x x (defArgs st) (defBody st) (defScope st) (.ref T) kV doc pm an cdv ct), osl⟩) (c : PySem.W.codeIn K cdv x = true) (k : PySem.W.keepIn K (.ref f) = true)
    (lT : K.lookup T = some ⟨oc2, od2, .seq its.toArray n, sl2⟩) (rv : Vals dvs its) (ne : dvs ≠ []) : FnD K x st dvs f (PySem.W.fnOf x x (defArgs st) (defBody st) (defScope st) (.ref T) kV doc pm an cdv ct) :=
  ⟨⟨oc, od, .ref T, kV, doc, pm, an, cdv, ct, osl, rfl, l, c, .inr ⟨ne, T, _, its, n, rfl, lT, rfl, rv⟩, .inl rfl⟩, k⟩
section
variable {P : Program} {w : World} {K : PySem.W.Frag} {mg : Str → Option Value} {base : Heap}
theorem def_fnD {x : Str} {st : Stmt} {f : Addr} {fd : FuncData} {dvs : List V} {N ps : List Str} {k n m : Nat} {body : FS} (F : FnD K x st dvs f fd) (S : FnScope N ps (defScope st))
    (hn : ps.length = n) (hN : N.length = m)
    (h : ∀ (cdv : Value) (A : Around) (outer : List Env) (s : Shared) (H G : Hp) (E : XK), Room k (A.deeper (envOfC x (defScope st) s.heap.objs.size f cdv)) →
      Cy (cxOf (L2.CX P w) P w K mg base N x (defScope st) f cdv A outer s H E) (dLc K mg H G E) →
      PassesOwn (model P w) (A.deeper (envOfC x (defScope st) s.heap.objs.size f cdv)) (envOfC x (defScope st) s.heap.objs.size f cdv) (cxOf (L2.CX P w) P w K mg base N x (defScope st) f cdv A outer s H E).xe →
      PSs (cxOf (L2.CX P w) P w K mg base N x (defScope st) f cdv A outer s H E) (defBody st) (tS (dLc K mg H G E) body)) : FnOk P w K mg base (L2.CX P w) (k + 1) f fd ps (spF K mg n (runF n m body)) := by
  refine F.ok S (fun vs H Q E hs => ?_) (fun cdv A outer s H vs Q E hr hs => ?_)
  · obtain ⟨G, ds, hl, gh, r, _⟩ := hs
    rw [r.length, hl, hn]
  · obtain ⟨G, ds, hl, gh, r, q⟩ := hs
    have cy : Cy (cxOf (L2.CX P w) P w K mg base N x (defScope st) f cdv A outer s H E) (dLc K mg H G E) := ⟨rfl, rfl, takes_of rfl rfl rfl rfl, rfl, S.nd, hr.units⟩
    refine ⟨_, h cdv A outer s H G E hr cy (passes_of (X := cxOf (L2.CX P w) P w K mg base N x (defScope st) f cdv A outer s H E) rfl), G, _, start_env gh r, ?_⟩
    have gr : ∀ {G' H' : Hp}, EndOk (dLc K mg H G E) G' H' → Gr G H G' H' := fun e => ⟨e.bh, e.g0, e.gh, e.gf⟩
    unfold runF at q
    rw [if_pos hl] at q
    rw [hN, hl]
    cases eb : body (ds.map (fun d => some (.sh d)) ++ List.replicate (m - n) none) with
    | nx Γ' => rw [eb] at q; exact fun σ' G' H' he s => q .non G' H' (gr he.end) .n
    | rt rv =>
      rw [eb] at q
      cases rv with
      | sh d => exact fun v G' H' he s hv _ => q v G' H' (gr he) hv
      | fr d => exact fun v G' H' he s ⟨p, e, bp, gp, o⟩ _ => by subst e; exact q p G' H' (gr he) bp gp o
      | bo d => exact fun v G' H' he s hv hn => absurd rfl (hn d)
    | ex e Γ' => rw [eb] at q; exact fun σ' G' H' he s C d hC hd => q G' H' (gr he.end) C d hC hd
    | bk Γ' => rw [eb] at q; exact q.elim
    | ct Γ' => rw [eb] at q; exact q.elim
    | bad => rw [eb] at q; exact q.elim
theorem bindsD {x : Str} {st : Stmt} {f : Addr} {fd : FuncData} {dvs : List V} {ps : List Str} (F : FnD K x st dvs f fd) (ne : dvs ≠ [])
    (h : ∀ (T : Addr) (kV doc pm : Value) (an : Option Addr) (cdv ct : Value) (us its : List Value), us.length = ps.length → its.length = dvs.length →
      ∃ k, bindArgs (PySem.W.fnOf x x (defArgs st) (defBody st) (defScope st) (.ref T) kV doc pm an cdv ct) ⟨us, []⟩ = seqItems? (.ref T) >>= k ∧ k (some its.toArray) = pure (ps.zip us)) : Binds K fd ps [] := by
  obtain ⟨ds, hv, hb⟩ := FunD.binds1 (ps := ps) F ps.length dvs.length ne (by omega) (fun T kV doc pm an cdv ct us its e1 e2 => by
    rw [List.drop_eq_nil_of_le (Nat.le_of_eq e2), List.append_nil]; exact h T kV doc pm an cdv ct us its e1 e2)
  rw [List.drop_length] at hv
  cases hv
  exact hb
structure DefOkK (P : Program) (w : World) (K : PySem.W.Frag) (mg : Str → Option Value) (base : Heap) (k : Nat) (x : Str) (n : Nat) (ks : List Str) (l : List Src) (dds : List D) (nn : Nat) (F : List D → Re Rv) : Prop where
  ex : ∃ (f : Addr) (fd : FuncData) (ps : List Str) (its : List Value) (dvs : List V), mg x = some (.ref f) ∧ PySem.W.keepIn K (.ref f) = true ∧ KBn K fd ps n ks (fun us ws => gp l us its ws) (fun vs zs => gp l vs dvs zs) ∧
    (∀ G, Reps K G dvs dds) ∧ FnOk P w K mg base (L2.CX P w) k f fd ps (spF K mg nn F)
theorem defK_mk {x : Str} {st : Stmt} {f : Addr} {fd : FuncData} {dvs : List V} {ps : List Str} {k : Nat} {nn : Nat} {dds : List D} {F : List D → Re Rv} (n : Nat) (ks : List Str) (l : List Src) (hm : mg x = some (.ref f)) (D1 : FnD K x st dvs f fd) (ne : dvs ≠ [])
    (hd : ∀ G, Reps K G dvs dds) (ok : FnOk P w K mg base (L2.CX P w) k f fd ps (spF K mg nn F))
    (h : ∀ (T : Addr) (kV doc pm : Value) (an : Option Addr) (cdv ct : Value) (us its ws : List Value), us.length = n → its.length = dvs.length → ws.length = ks.length →
      ∃ k, bindArgs (PySem.W.fnOf x x (defArgs st) (defBody st) (defScope st) (.ref T) kV doc pm an cdv ct) ⟨us, ks.zip ws⟩ = seqItems? (.ref T) >>= k ∧ k (some its.toArray) = pure (ps.zip (gp l us its ws))) : DefOkK P w K mg base k x n ks l dds nn F := by
  obtain ⟨its, hb⟩ := FunD.kbindsD D1 n ks (fun {α} => gp (α := α) l) ne (gp_vals l) h
  exact ⟨f, fd, ps, its, dvs, hm, D1.kp, hb, hd, ok⟩
end
def eCallK (n m : Nat) (l : List Src) (dds : List D) (nn : Nat) (F : List D → Re Rv) (fa fk : FA) : FE := fun Γ => (fa Γ).bind fun ds => (fk Γ).bind fun zs => if ds.length = n ∧ zs.length = m ∧ (gp l ds dds zs).length = nn then (match F (gp l ds dds zs) with
  | .ok (.bo _) => .bad | r => r) else .bad
section
variable {X : Cx} {c : LC} {a b e : Expr} {es : List Expr} {f g h : FE} {fa fk : FA} {pos kpos : Pos} {kws : List Keyword} {nm : Option Str}
theorem PK.weak {t t' : TA} (ha : PK X kws t) (w : ∀ σ H Q, t' σ H Q → t σ H Q) : PK X kws t' := ⟨fun pos pins s σ H Q I q => ha.run pos pins s σ H Q I (w σ H Q q)⟩
theorem rk_nil : PK X [] (tA c aNil) := PK.weak pk_nil fun σ H Q ⟨G, Γ, he, q⟩ => q [] G H (.refl he.gh) .nil
theorem rk_cons (ha : PE X e (tE c f)) (hr : PK X kws (tA c fa)) : PK X (⟨nm, e, kpos⟩ :: kws) (tA c (aCons f fa)) := by
  refine PK.weak (pk_cons ha hr) ?_
  rintro σ H Q ⟨G, Γ, he, q⟩
  refine tE_bind0 (P := fun r => PostA c r σ G H Q) he (fun h => h) (fun x h => h) q fun r v G1 H1 _ g1 v1 fr1 q1 => ?_
  cases e1 : share r with
  | bad => rw [e1] at q1; exact q1.elim
  | ex x => rw [e1] at q1; cases r <;> cases e1
  | ok d =>
    rw [e1] at q1
    obtain ⟨G2, g2, s2, rp⟩ := v1.share g1 fr1 e1
    refine tAA (he.mono g2) (PostA.later g2 q1) fun ds vs G3 H3 _ g3 rs he3 q3 => ?_
    exact q3 _ G3 H3 (.refl he3.gh) (.cons (rp.mono g3.gg) rs)
theorem run_fnNS {CX : CXT} {k n : Nat} {f : Addr} {fd : FuncData} {ps ks : List Str} {sp : Sp} {E : St → XK} {g : List Value → List Value → List Value} {gV : List V → List V → List V} {pins : List (Addr × Obj)} {σ : St} {H : Hp} {s : Shared} {Q : VK} {us ws : List Value} {vs zs : List V}
    (F : FnOk X.prog X.w X.K X.mg X.base CX k f fd ps sp) (hr : Room k X.A) (hb : KBn X.K fd ps n ks g gV) (hx : PassesAt CX X σ (E σ)) (I : Inv X pins σ H s) (r : Vals vs us) (rz : Vals zs ws) (l1 : vs.length = n) (l2 : zs.length = ks.length) (h : sp (gV vs zs) H Q (E σ)) :
    wpAny (model X.prog X.w) X.A (call (.ref f) us (ks.zip ws)) (EP X pins σ Q) X.xe s :=
  wpAny_call (codeAny_mono (F.run X.A X.stack s H ⟨us, ks.zip ws⟩ (g us ws) (gV vs zs) Q (E σ) hr I.env0 (hb.to s us ws I.kIn (r.length.symm.trans l1) (rz.length.symm.trans l2)) (hb.rel r rz) h) fun o s' hq => by
    cases o with
    | error e => exact hx pins H s e s' I hq
    | ok fl => cases fl with
      | ret u => exact I.after hq
      | next => exact False.elim hq
      | brk => exact False.elim hq
      | cont => exact False.elim hq)
def tCallNS (n m : Nat) (sp : Sp) (gV : List V → List V → List V) (E : St → XK) (t tk : TA) : TE := fun σ H Q => t σ H fun vs H1 => tk σ H1 fun zs H2 => vs.length = n ∧ zs.length = m ∧ sp (gV vs zs) H2 Q (E σ)
theorem pe_callNS {CX : CXT} {k n : Nat} {f : Addr} {fd : FuncData} {ps ks : List Str} {sp : Sp} {E : St → XK} {x : Str} {p : Pos} {t tk : TA} {g : List Value → List Value → List Value} {gV : List V → List V → List V}
    (F : FnOk X.prog X.w X.K X.mg X.base CX k f fd ps sp) (hr : Room k X.A) (hg : Gl X x) (hm : X.mg x = some (.ref f)) (hk : PySem.W.keepIn X.K (.ref f) = true) (hb : KBn X.K fd ps n ks g gV) (hx : ∀ σ, PassesAt CX X σ (E σ)) (ha : PA X (e :: es) t) (hkw : PK X kws tk)
    (hdb : (x == ("__debug__" : Str)) = false) (he : starEach (e :: es) X.env = (false, eval e X.env) :: starEach es X.env) (hpl : ((backTo pos (starEach (e :: es) X.env)).any (·.1) || (backToKw pos (keywordEach kws X.env)).any (·.1.isNone)) = false)
    (hall : (backToKw pos (keywordEach kws X.env)).all (·.1.isSome) = true) (hks : (backToKw pos (keywordEach kws X.env)).filterMap (·.1) = ks) : PE X (.Call (.Name x p) (e :: es) kws pos) (tCallNS n ks.length sp gV E t tk) :=
  ⟨fun pins s σ H Q I h => wpAny_Call_Name_kw (ld_glob I hg hm (PySem.W.callWith_KW (h₀ := X.base) I.ok.mod.kin hk hall (thn (ha.run pos pins s σ H _ I h) fun us s1 ⟨vs, H1, I1, r, q⟩ => thn (hkw.run pos pins s1 σ H1 _ I1 q) fun ws s2 ⟨zs, H2, I2, rz, l1, l2, q2⟩ => ⟨I2.kIn, by
    rw [hks]; exact run_fnNS F hr hb (hx σ) I2 r rz l1 l2 q2⟩) hpl he) hdb)⟩
theorem re_callK (cy : Cy X c) {x : Str} {p : Pos} {k n nn : Nat} {ks : List Str} {l : List Src} {dds : List D} {F : List D → Re Rv} (h : DefOkK X.prog X.w X.K X.mg X.base k x n ks l dds nn F) (hr : Room k X.A) (hg : Gl X x) (ha : PA X (e :: es) (tA c fa)) (hkw : PK X kws (tA c fk))
    (hdb : (x == ("__debug__" : Str)) = false := by decide) (he : starEach (e :: es) X.env = (false, eval e X.env) :: starEach es X.env := by rfl) (hpl : ((backTo pos (starEach (e :: es) X.env)).any (·.1) || (backToKw pos (keywordEach kws X.env)).any (·.1.isNone)) = false := by rfl)
    (hall : (backToKw pos (keywordEach kws X.env)).all (·.1.isSome) = true := by rfl) (hks : (backToKw pos (keywordEach kws X.env)).filterMap (·.1) = ks := by rfl) :
    PE X (.Call (.Name x p) (e :: es) kws pos) (tE c (eCallK n ks.length l dds nn F fa fk)) := by
  obtain ⟨f, fd, ps, its, dvs, h1, h2, h3, hd, h4⟩ := h.ex
  refine PE.weak (pe_callNS (E := WE c.W) h4 hr hg h1 h2 h3 (fun σ => passAt cy.tk σ) ha hkw hdb he hpl hall hks) ?_
  rintro σ H Q ⟨G, Γ, he, q⟩
  refine tAE he q fun ds vs G1 H1 _ g1 rs he1 q1 => ?_
  refine tAE he1 q1 fun zs us G2 H2 _ g2 rz he2 q2 => ?_
  split at q2
  · rename_i hn
    have rs2 := rs.mono g2.gg
    refine ⟨by rw [rs2.length]; exact hn.1, by rw [rz.length]; exact hn.2.1, G2, gp l ds dds zs, hn.2.2, he2.gh, by rw [cy.K]; exact gp_reps l rs2 (by rw [← cy.K]; exact hd G2) rz, ?_⟩
    cases eF : F (gp l ds dds zs) with
    | bad => rw [eF] at q2; exact q2
    | ex x => rw [eF] at q2; exact fun G' H' g' C d hC hd => q2 G' H' g' C d (by rw [← cy.mg]; exact hC) (by rw [← cy.K]; exact hd)
    | ok r =>
      rw [eF] at q2
      cases r with
      | sh d => exact fun v G' H' g' rv => q2 v G' H' g' (by rw [cy.K] at rv; exact rv) True.intro
      | fr d => exact fun p' G' H' g' hp gp o => q2 (.ref p') G' H' g' ⟨p', rfl, he2.bh.free hp, gp, by rw [cy.K] at o; exact o⟩ ⟨p', rfl, hp⟩
      | bo d => exact q2
  · exact q2.elim
end
end Ly
end

section
set_option maxRecDepth 100000
namespace Ly
open PySem PySem.Spec L2
open PyProof.Rows hiding St
def D.plain : D → Bool
  | .n => true | .b _ => true | .i _ => true | .s _ => true | _ => false
theorem Rep.plain {K : PySem.W.Frag} {G G' : Hp} {v : V} {d : D} (h : Rep K G v d) (e : d.plain = true) : Rep K G' v d := by
  cases h with
  | n => exact .n
  | b x => exact .b x
  | i x => exact .i x
  | s x => exact .s x
  | _ => cases e
def eFz (i : Nat) (f : FE) : FE := fun Γ => match f (frz i Γ) with
  | .ok (.sh d) => if d.plain = true then .ok (.sh d) else .bad
  | .ex x => (match x.fs with | none => .ex x | some _ => .bad)
  | _ => .bad
section
variable {X : Cx} {c : LC} {a : Expr} {f : FE}
theorem re_fz (i : Nat) (ha : PE X a (tE c f)) : PE X a (tE c (eFz i f)) := by
  refine PE.weak ha ?_
  rintro σ H Q ⟨G, Γ, he, q⟩
  obtain ⟨G2, sm, he2⟩ := he.frz i
  refine ⟨G2, frz i Γ, he2, ?_⟩
  unfold eFz at q
  cases e : f (frz i Γ) with
  | bad => rw [e] at q; exact q
  | ex x =>
    rw [e] at q
    obtain ⟨cl, fs⟩ := x
    cases fs with
    | some _ => exact q.elim
    | none => exact fun G' H' g C d hC hd => q G H' ⟨g.hh, Same.refl _, he.gh.trans g.hh, fun _ _ z _ => z⟩ C d hC hd
  | ok r =>
    rw [e] at q
    cases r with
    | fr d => exact q.elim
    | bo d => exact q.elim
    | sh d =>
      dsimp only at q
      split at q
      · rename_i hp
        exact fun v G' H' g rv fr => q v G H' ⟨g.hh, Same.refl _, he.gh.trans g.hh, fun _ _ z _ => z⟩ (Rep.plain rv hp) fr
      · exact q.elim
end
section
variable {Γ : Env'} {f : FE} {i : Nat}
@[simp] theorem eFz_at : eFz i f Γ = match f (frz i Γ) with
  | .ok (.sh d) => if d.plain = true then .ok (.sh d) else .bad
  | .ex x => (match x.fs with | none => .ex x | some _ => .bad)
  | _ => .bad := rfl
theorem itR3_of {f g h : FE} {i j k : Int} (e1 : f Γ = .ok (.sh (.i i))) (e2 : g Γ = .ok (.sh (.i j))) (e3 : h Γ = .ok (.sh (.i k))) (hk : k ≠ 0 ∧ k.natAbs < 1073741824 ∧ Builtin.Range.small i j k = true) :
    itR3 f g h Γ = .ok (rg3 i k (Builtin.Range.rangeSize i j k).toNat) := by
  unfold itR3
  rw [e1, e2, e3]
  exact if_pos hk
theorem deq_refl {d : D} (h : dok 12 d = true) : deq d d = true := PySem.SeqAt.eqv_refl d.py (dok_py 12 d h).1
theorem kNe_refl {d : D} {r s : Rv} (h : dok 12 d = true) (e1 : r.d = d) (e2 : s.d = d) : kNe r s = .ok (.sh (.b false)) := by
  unfold kNe
  rw [e1, e2, if_pos ⟨h, h⟩, deq_refl h]
  rfl
theorem kEq_refl {d : D} {r s : Rv} (h : dok 12 d = true) (e1 : r.d = d) (e2 : s.d = d) : kEq r s = .ok (.sh (.b true)) := by
  unfold kEq
  rw [e1, e2, if_pos ⟨h, h⟩, deq_refl h]
  rfl
@[simp] theorem plain_b {x : Bool} : (D.b x).plain = true := rfl
@[simp] theorem plain_i {x : Int} : (D.i x).plain = true := rfl
end
end Ly
end

section
set_option maxRecDepth 100000
namespace Ly
open PySem PySem.Spec L2
open PyProof.Rows hiding St
section
variable {Γ : Env'} {f g h : FE} {ft gt : FT} {fa : FA} {fi : FI} {u v : FS}
@[simp] theorem eV_0 {a : Option Rv} {r : Env'} : eV 0 (a :: r) = match (a : Option Rv) with | some (.sh d) => .ok (.sh d) | some (.fr d) => .ok (.bo d) | _ => .bad := by
  cases a with
  | none => rfl
  | some x => cases x <;> rfl
@[simp] theorem eV_s {i : Nat} {a : Option Rv} {r : Env'} : eV (i + 1) (a :: r) = eV i r := rfl
@[simp] theorem eC_at {d : D} : eC d Γ = .ok (.sh d) := rfl
@[simp] theorem e1_at {k : Rv → Re Rv} : e1 k f Γ = (f Γ).bind k := rfl
@[simp] theorem e2_at {k : Rv → Rv → Re Rv} : e2 k f g Γ = (f Γ).bind fun x => (g Γ).bind fun y => k x y := rfl
@[simp] theorem eIf_at : eIf ft f g Γ = (ft Γ).bind fun x => if x = true then f Γ else g Γ := rfl
@[simp] theorem eAnd_at : eAnd f g Γ = (f Γ).bind fun x => match x with | .sh (.b true) => g Γ | .sh (.b false) => .ok (.sh (.b false)) | _ => .bad := rfl
@[simp] theorem eOr_at : eOr f g Γ = (f Γ).bind fun x => match x with | .sh (.b true) => .ok (.sh (.b true)) | .sh (.b false) => g Γ | _ => .bad := rfl
@[simp] theorem eNot_at : eNot f Γ = (f Γ).bind fun x => match x with | .sh (.b k) => .ok (.sh (.b (!k))) | _ => .bad := rfl
@[simp] theorem tV_at : tV f Γ = (f Γ).bind kB := rfl
@[simp] theorem kB_b {x : Bool} : kB (.sh (.b x)) = .ok x := rfl
@[simp] theorem tNotF_at : tNotF ft Γ = (ft Γ).bind fun x => .ok (!x) := rfl
@[simp] theorem tAndF_at : tAndF ft gt Γ = (ft Γ).bind fun x => if x = true then gt Γ else .ok false := rfl
@[simp] theorem tOrF_at : tOrF ft gt Γ = (ft Γ).bind fun x => if x = true then .ok true else gt Γ := rfl
@[simp] theorem aNil_at : aNil Γ = .ok [] := rfl
@[simp] theorem aCons_at : aCons f fa Γ = (f Γ).bind fun r => (share r).bind fun d => (fa Γ).bind fun ds => .ok (d :: ds) := rfl
@[simp] theorem share_sh {d : D} : share (.sh d) = .ok d := rfl
@[simp] theorem share_fr {d : D} : share (.fr d) = .ok d := rfl
@[simp] theorem eLst_at : eLst fa Γ = (fa Γ).bind fun ds => if ds.length ≤ 16777216 then .ok (.fr (.l ds)) else .bad := rfl
@[simp] theorem eTup_at : eTup fa Γ = (fa Γ).bind fun ds => if ds.length ≤ 16777216 then .ok (.sh (.t ds)) else .bad := rfl
@[simp] theorem eSl_at {lo hi : FO} : eSl f lo hi Γ = (f Γ).bind fun r => (lo Γ).bind fun l => (hi Γ).bind fun h => kSl r l h := rfl
@[simp] theorem oNo_at : oNo Γ = .ok none := rfl
@[simp] theorem oIs_at : oIs f Γ = (f Γ).bind fun r => match r with | .sh (.i k) => .ok (some k) | _ => .bad := rfl
@[simp] theorem eCall_at {n : Nat} {F : List D → Re Rv} : eCall n F fa Γ = (fa Γ).bind fun ds => if ds.length = n then (match F ds with | .ok (.bo _) => .bad | r => r) else .bad := rfl
@[simp] theorem eCh_at {k k' : Rv → Rv → Re Rv} : eCh k k' f g h Γ = (f Γ).bind fun x => (g Γ).bind fun y => (k x y).bind fun z => match z with | .sh (.b true) => (h Γ).bind fun w => k' y w | .sh (.b false) => .ok (.sh (.b false)) | _ => .bad := rfl
@[simp] theorem eLc_at {t : Tg} {fe : FE} {own : List Nat} : eLc fi t ft fe own Γ = (fi Γ).bind fun ds => lcRes (lcL t ft fe (wipeG Γ own) ds) := rfl
@[simp] theorem itR1_at : itR1 f Γ = (f Γ).bind fun r => match r with | .sh (.i j) => itR 0 j | _ => .bad := rfl
@[simp] theorem itR2_at : itR2 f g Γ = (f Γ).bind fun r => (g Γ).bind fun s => match r, s with | .sh (.i i), .sh (.i j) => itR i j | _, _ => .bad := rfl
@[simp] theorem itA_at : itA f Γ = (f Γ).bind fun r => match r with | .sh (.l ds) => .ok ds | .fr (.l ds) => .ok ds | .sh (.z ds) => .ok ds | .sh (.t ds) => .ok ds | .sh (.zt ds) => .ok ds | .sh (.s x) => .ok (signs x) | _ => .bad := rfl
@[simp] theorem fl_ok {α : Type} {a : α} {k : α → Fl} : (Re.ok a).fl Γ k = k a := rfl
@[simp] theorem fl_ex {α : Type} {e : Exn} {k : α → Fl} : (Re.ex e : Re α).fl Γ k = .ex e Γ := rfl
@[simp] theorem fl_bad {α : Type} {k : α → Fl} : (Re.bad : Re α).fl Γ k = .bad := rfl
@[simp] theorem sNil_at : sNil Γ = .nx Γ := rfl
@[simp] theorem sSeq_at : sSeq u v Γ = match u Γ with | .nx Γ' => v Γ' | o => o := rfl
@[simp] theorem sIf_at : sIf ft u v Γ = (ft Γ).fl Γ fun b => if b = true then u Γ else v Γ := rfl
@[simp] theorem sRet_at : sRet f Γ = (f Γ).fl Γ fun r => match r with | .bo d => .rt (.fr d) | r => .rt r := rfl
@[simp] theorem sEx_at : sEx f Γ = (f Γ).fl Γ fun _ => .nx Γ := rfl
@[simp] theorem sSet_at {i : Nat} : sSet i f Γ = (f Γ).fl Γ (setR i Γ) := rfl
@[simp] theorem setR_sh {i : Nat} {d : D} : setR i Γ (.sh d) = .nx (Γ.set i (some (.sh d))) := rfl
@[simp] theorem setR_fr {i : Nat} {d : D} : setR i Γ (.fr d) = .nx (Γ.set i (some (.fr d))) := rfl
@[simp] theorem sFrz_at {i : Nat} : sFrz i u Γ = u (frz i Γ) := rfl
@[simp] theorem frz_0 {a : Option Rv} {r : Env'} : frz 0 (a :: r) = (match (a : Option Rv) with | some (.fr d) => some (.sh d) | o => o) :: r := by
  cases a with
  | none => rfl
  | some x => cases x <;> rfl
theorem frz_len (i : Nat) (Γ : Env') : (frz i Γ).length = Γ.length := by unfold frz; split <;> simp
@[simp] theorem frz_s {i : Nat} {a : Option Rv} {r : Env'} : frz (i + 1) (a :: r) = a :: frz i r := by
  unfold frz
  rw [List.getElem?_cons_succ]
  cases h : r[i]? with
  | none => rfl
  | some o =>
    cases o with
    | none => rfl
    | some x => cases x <;> rfl
@[simp] theorem sFor_at {t : Tg} : sFor fi t u Γ = (fi Γ).fl Γ fun ds => forL t u ds Γ := rfl
@[simp] theorem sWh_at {n : Nat} : sWh n ft u Γ = whL ft u n Γ := rfl
@[simp] theorem sRaise_at {x : Str} : sRaise x Γ = .ex ⟨x, none⟩ Γ := rfl
@[simp] theorem sAsg_at {t : Tg} : sAsg t f Γ = (f Γ).fl Γ fun r => match r with | .sh d => (match t.set d Γ with | some Γ' => .nx Γ' | none => .bad) | _ => .bad := rfl
@[simp] theorem sAsgT_at {s : D → Env' → Re Env'} : sAsgT s f Γ = (f Γ).fl Γ fun r => (share r).fl Γ fun d => match s d Γ with | .ok Γ' => .nx Γ' | _ => .bad := rfl
@[simp] theorem one_set {i : Nat} {d : D} : Tg.set (.one i) d Γ = some (Γ.set i (some (.sh d))) := rfl
@[simp] theorem tup_set {is : List Nat} {ds : List D} : Tg.set (.tup is) (.t ds) Γ = setN is ds Γ := rfl
@[simp] theorem setN_nil : setN [] [] Γ = some Γ := rfl
@[simp] theorem setN_cons {i : Nat} {is : List Nat} {d : D} {ds : List D} : setN (i :: is) (d :: ds) Γ = setN is ds (Γ.set i (some (.sh d))) := rfl
@[simp] theorem sApp_at {i : Nat} : sApp i f Γ = match Γ[i]? with
  | some (some (.fr (.l ds))) => (f Γ).fl Γ fun r => (share r).fl Γ fun d => if ds.length < 16777216 then .nx (Γ.set i (some (.fr (.l (ds ++ [d]))))) else .bad
  | _ => .bad := rfl
@[simp] theorem wipeG_nil : wipeG Γ [] = Γ := rfl
@[simp] theorem wipeG_cons {i : Nat} {is : List Nat} : wipeG Γ (i :: is) = (wipeG Γ is).set i none := rfl
@[simp] theorem Rv.d_sh {d : D} : (Rv.sh d).d = d := rfl
@[simp] theorem Rv.d_fr {d : D} : (Rv.fr d).d = d := rfl
@[simp] theorem Rv.d_bo {d : D} : (Rv.bo d).d = d := rfl
@[simp] theorem kI_i {k : Int → Int → Re Rv} {a b : Int} : kI k (.sh (.i a)) (.sh (.i b)) = k a b := rfl
@[simp] theorem kAdd_i {a b : Int} : kAdd (.sh (.i a)) (.sh (.i b)) = .ok (.sh (.i (a + b))) := rfl
@[simp] theorem kSub_i {a b : Int} : kSub (.sh (.i a)) (.sh (.i b)) = .ok (.sh (.i (a - b))) := rfl
@[simp] theorem kLt_i {a b : Int} : kLt (.sh (.i a)) (.sh (.i b)) = .ok (.sh (.b (decide (a < b)))) := rfl
@[simp] theorem kLe_i {a b : Int} : kLe (.sh (.i a)) (.sh (.i b)) = .ok (.sh (.b (decide (a ≤ b)))) := rfl
@[simp] theorem kGt_i {a b : Int} : kGt (.sh (.i a)) (.sh (.i b)) = .ok (.sh (.b (decide (b < a)))) := rfl
@[simp] theorem kGe_i {a b : Int} : kGe (.sh (.i a)) (.sh (.i b)) = .ok (.sh (.b (decide (b ≤ a)))) := rfl
theorem kMod_i {a b : Int} (h : 0 < b) : kMod (.sh (.i a)) (.sh (.i b)) = .ok (.sh (.i (a % b))) := by unfold kMod; rw [kI_i, if_pos h]; rfl
theorem kDiv_i {a b : Int} (h : 0 < b ∧ b < 1073741824) : kDiv (.sh (.i a)) (.sh (.i b)) = .ok (.sh (.i (a / b))) := by unfold kDiv; rw [kI_i, if_pos h]; rfl
theorem kMul_l {a b : Int} (h : -(2 ^ 64) < a ∧ a < 2 ^ 64) : kMul (.sh (.i a)) (.sh (.i b)) = .ok (.sh (.i (a * b))) := by unfold kMul; simp only [Rv.d]; rw [if_pos (.inl h)]; rfl
theorem kMul_r {a b : Int} (h : -(2 ^ 64) < b ∧ b < 2 ^ 64) : kMul (.sh (.i a)) (.sh (.i b)) = .ok (.sh (.i (a * b))) := by unfold kMul; simp only [Rv.d]; rw [if_pos (.inr h)]; rfl
theorem kPow_i {a b : Int} (h : 0 ≤ b ∧ b ≤ 1000000 ∧ a.natAbs < 2 ^ 64) : kPow (.sh (.i a)) (.sh (.i b)) = .ok (.sh (.i (a ^ b.toNat))) := by unfold kPow; rw [kI_i, if_pos h]; rfl
@[simp] theorem kNeg_i {a : Int} : kNeg (.sh (.i a)) = .ok (.sh (.i (-a))) := rfl
@[simp] theorem kSl_z {ds : List D} {lo hi : Option Int} : kSl (.sh (.z ds)) lo hi = .ok (.fr (.l (cut ds lo hi))) := rfl
@[simp] theorem kSl_l {ds : List D} {lo hi : Option Int} : kSl (.sh (.l ds)) lo hi = .ok (.fr (.l (cut ds lo hi))) := rfl
@[simp] theorem kSl_bl {ds : List D} {lo hi : Option Int} : kSl (.bo (.l ds)) lo hi = .ok (.fr (.l (cut ds lo hi))) := rfl
@[simp] theorem kSl_fl {ds : List D} {lo hi : Option Int} : kSl (.fr (.l ds)) lo hi = .ok (.fr (.l (cut ds lo hi))) := rfl
theorem cut_map {α β : Type} (f : α → β) (xs : List α) (lo hi : Option Int) : cut (xs.map f) lo hi = (cut xs lo hi).map f := by
  unfold cut
  simp [List.map_take, List.map_drop]
theorem cut_length_le {α : Type} (xs : List α) (lo hi : Option Int) : (cut xs lo hi).length ≤ xs.length := by
  unfold cut
  simp only [List.length_take, List.length_drop]
  omega
theorem cut_mem {α : Type} {xs : List α} {lo hi : Option Int} {x : α} (h : x ∈ cut xs lo hi) : x ∈ xs := List.mem_of_mem_drop (List.mem_of_mem_take h)
theorem cut_to {α : Type} {xs : List α} {n : Nat} (h : n ≤ xs.length) : cut xs none (some (n : Int)) = xs.take n := by
  have e1 : HT.sIx xs.length 0 none = 0 := rfl
  have e2 : HT.sIx xs.length xs.length (some (n : Int)) = n := by simp only [HT.sIx]; split <;> omega
  unfold cut
  rw [e1, e2]
  simp
theorem cut_from {α : Type} {xs : List α} {n : Nat} (h : n ≤ xs.length) : cut xs (some (n : Int)) none = xs.drop n := by
  have e1 : HT.sIx xs.length xs.length none = xs.length := rfl
  have e2 : HT.sIx xs.length 0 (some (n : Int)) = n := by simp only [HT.sIx]; split <;> omega
  unfold cut
  rw [e1, e2]
  rw [List.take_of_length_le]
  simp
theorem cut_ab {α : Type} {xs : List α} {a b : Nat} (ha : a ≤ xs.length) (hb : b ≤ xs.length) : cut xs (some (a : Int)) (some (b : Int)) = (xs.drop a).take (b - a) := by
  have e1 : HT.sIx xs.length xs.length (some (b : Int)) = b := by simp only [HT.sIx]; split <;> omega
  have e2 : HT.sIx xs.length 0 (some (a : Int)) = a := by simp only [HT.sIx]; split <;> omega
  unfold cut
  rw [e1, e2]
theorem itR_ok {a b : Int} (h : rgb a b = true) : itR a b = .ok (rgD a b) := by unfold itR; rw [if_pos h]
theorem rgD_nat (n : Nat) : rgD 0 n = (List.range n).map fun i => D.i ((i : Nat) : Int) := by unfold rgD; simp
theorem rgD_get {a b : Int} {i : Nat} {d : D} (h : (rgD a b)[i]? = some d) : d = .i (a + (i : Nat)) ∧ a + (i : Nat) < b := by
  unfold rgD at h
  rw [List.getElem?_map] at h
  by_cases hl : i < (b - a).toNat
  · rw [List.getElem?_range hl] at h
    cases h
    exact ⟨rfl, by omega⟩
  · rw [List.getElem?_eq_none (by simpa using hl)] at h; cases h
@[simp] theorem kLen_l {ds : List D} : kLen (.sh (.l ds)) = .ok (.sh (.i ds.length)) := rfl
@[simp] theorem kLen_fl {ds : List D} : kLen (.fr (.l ds)) = .ok (.sh (.i ds.length)) := rfl
@[simp] theorem kLen_bl {ds : List D} : kLen (.bo (.l ds)) = .ok (.sh (.i ds.length)) := rfl
@[simp] theorem kLen_t {ds : List D} : kLen (.sh (.t ds)) = .ok (.sh (.i ds.length)) := rfl
@[simp] theorem kLen_z {ds : List D} : kLen (.sh (.z ds)) = .ok (.sh (.i ds.length)) := rfl
def ixR (ds : List D) (k : Int) : Re Rv := match atI ds k with | some d => .ok (.sh d) | none => .bad
@[simp] theorem kIx_l {ds : List D} {k : Int} : kIx (.sh (.l ds)) (.sh (.i k)) = ixR ds k := rfl
@[simp] theorem kIx_fl {ds : List D} {k : Int} : kIx (.fr (.l ds)) (.sh (.i k)) = ixR ds k := rfl
@[simp] theorem kIx_bl {ds : List D} {k : Int} : kIx (.bo (.l ds)) (.sh (.i k)) = ixR ds k := rfl
@[simp] theorem kIx_t {ds : List D} {k : Int} : kIx (.sh (.t ds)) (.sh (.i k)) = ixR ds k := rfl
@[simp] theorem kIx_z {ds : List D} {k : Int} : kIx (.sh (.z ds)) (.sh (.i k)) = ixR ds k := rfl
theorem atI_is {α : Type} {xs : List α} {k : Int} {n : Nat} {x : α} (e : k = (n : Int)) (h : xs[n]? = some x) : atI xs k = some x := by
  have hl : n < xs.length := (List.getElem?_eq_some_iff.mp h).1
  unfold atI ixN
  subst e
  rw [if_pos (Int.natCast_nonneg _), if_pos (by omega)]
  simpa using h
theorem ixR_is {ds : List D} {k : Int} {n : Nat} {d : D} (e : k = (n : Int)) (h : ds[n]? = some d) : ixR ds k = .ok (.sh d) := by unfold ixR; rw [atI_is e h]
@[simp] theorem ixR_0 {d : D} {ds : List D} : ixR (d :: ds) 0 = .ok (.sh d) := ixR_is (n := 0) rfl rfl
@[simp] theorem ixR_1 {a d : D} {ds : List D} : ixR (a :: d :: ds) 1 = .ok (.sh d) := ixR_is (n := 1) rfl rfl
@[simp] theorem ixR_2 {a b d : D} {ds : List D} : ixR (a :: b :: d :: ds) 2 = .ok (.sh d) := ixR_is (n := 2) rfl rfl
@[simp] theorem ixR_3 {a b e d : D} {ds : List D} : ixR (a :: b :: e :: d :: ds) 3 = .ok (.sh d) := ixR_is (n := 3) rfl rfl
theorem ixR_row {row : List Int} {k : Int} {n : Nat} (e : k = (n : Int)) (h : n < row.length) : ixR (row.map D.i) k = .ok (.sh (.i row[n])) := ixR_is e (by simp [h])
theorem cut_row_from {row : List Int} {k : Int} {n : Nat} (e : k = (n : Int)) (h : n ≤ row.length) : cut (row.map D.i) (some k) none = (row.drop n).map D.i := by
  subst e
  rw [cut_map, cut_from h]
theorem cut_row_ab {row : List Int} {j k : Int} {a b : Nat} (e1 : j = (a : Int)) (e2 : k = (b : Int)) (ha : a ≤ row.length) (hb : b ≤ row.length) : cut (row.map D.i) (some j) (some k) = ((row.drop a).take (b - a)).map D.i := by
  subst e1 e2
  rw [cut_map, cut_ab ha hb]
theorem forL_inv {t : Tg} {I : Env' → Prop} : ∀ {ds : List D} {Γ : Env'}, I Γ → (∀ d ∈ ds, ∀ Γ, I Γ → ∃ Γ1, t.set d Γ = some Γ1 ∧ ∃ Γ', (u Γ1 = .nx Γ' ∨ u Γ1 = .ct Γ') ∧ I Γ') → ∃ Γ', forL t u ds Γ = .nx Γ' ∧ I Γ'
  | [], Γ, h, _ => ⟨Γ, rfl, h⟩
  | d :: ds, Γ, h, hs => by
    obtain ⟨Γ1, e1, Γ', e2, h'⟩ := hs d List.mem_cons_self Γ h
    obtain ⟨Γ2, e3, h2⟩ := forL_inv (ds := ds) h' fun d' hd => hs d' (List.mem_cons_of_mem _ hd)
    refine ⟨Γ2, ?_, h2⟩
    unfold forL
    rw [e1]
    rcases e2 with e2 | e2 <;> (dsimp only; rw [e2]; exact e3)
theorem forL_at {t : Tg} {I : Nat → Env' → Prop} {ds : List D} (n : Nat) : ∀ {m : Nat} {Γ : Env'}, m + n = ds.length → I m Γ → (∀ i d, m ≤ i → ds[i]? = some d → ∀ Γ, I i Γ → ∃ Γ1, t.set d Γ = some Γ1 ∧ ∃ Γ', (u Γ1 = .nx Γ' ∨ u Γ1 = .ct Γ') ∧ I (i + 1) Γ') →
    ∃ Γ', forL t u (ds.drop m) Γ = .nx Γ' ∧ I ds.length Γ' := by
  induction n with
  | zero =>
    intro m Γ hm h _
    have e : m = ds.length := by omega
    subst e
    rw [List.drop_length]
    exact ⟨Γ, rfl, h⟩
  | succ n ih =>
    intro m Γ hm h hs
    have hl : m < ds.length := by omega
    obtain ⟨Γ1, e1, Γ', e2, h'⟩ := hs m ds[m] (Nat.le_refl _) (by simp [hl]) Γ h
    obtain ⟨Γ2, e3, h2⟩ := ih (m := m + 1) (by omega) h' fun i d hi hd => hs i d (by omega) hd
    refine ⟨Γ2, ?_, h2⟩
    rw [List.drop_eq_getElem_cons hl]
    unfold forL
    rw [e1]
    rcases e2 with e2 | e2 <;> (dsimp only; rw [e2]; exact e3)
theorem forL_num {t : Tg} {I : Nat → Env' → Prop} {ds : List D} {Γ : Env'} (h : I 0 Γ) (hs : ∀ i d, ds[i]? = some d → ∀ Γ, I i Γ → ∃ Γ1, t.set d Γ = some Γ1 ∧ ∃ Γ', (u Γ1 = .nx Γ' ∨ u Γ1 = .ct Γ') ∧ I (i + 1) Γ') :
    ∃ Γ', forL t u ds Γ = .nx Γ' ∧ I ds.length Γ' := by
  have := forL_at (t := t) (u := u) (I := I) (ds := ds) ds.length (m := 0) (by omega) h fun i d _ hd => hs i d hd
  rwa [List.drop_zero] at this
theorem whL_inv {I : Nat → Env' → Prop} : ∀ (n m : Nat) {Γ : Env'}, m < n → I m Γ → (∀ m Γ, I m Γ → (m = 0 ∧ ft Γ = .ok false) ∨ ∃ m', m = m' + 1 ∧ ft Γ = .ok true ∧ ∃ Γ', (u Γ = .nx Γ' ∨ u Γ = .ct Γ') ∧ I m' Γ') → ∃ Γ', whL ft u n Γ = .nx Γ' ∧ I 0 Γ'
  | 0, m, Γ, hm, _, _ => absurd hm (Nat.not_lt_zero _)
  | n + 1, m, Γ, hm, h, hs => by
    rcases hs m Γ h with ⟨e, e1⟩ | ⟨m', e, e1, Γ', e2, h'⟩
    · subst e
      refine ⟨Γ, ?_, h⟩
      unfold whL
      rw [e1]; rfl
    · subst e
      obtain ⟨Γ2, e3, h2⟩ := whL_inv n m' (by omega) h' hs
      refine ⟨Γ2, ?_, h2⟩
      unfold whL
      rw [e1, fl_ok, if_pos rfl]
      rcases e2 with e2 | e2 <;> (rw [e2]; exact e3)
end
end Ly
end

section
set_option maxRecDepth 100000
namespace Ly
open PySem PySem.Spec L2
open PyProof.Rows hiding St
section
variable {Γ : Env'}
@[simp] theorem kEq_i {a b : Int} : kEq (.sh (.i a)) (.sh (.i b)) = .ok (.sh (.b (decide (a = b)))) := by
  unfold kEq
  rw [if_pos ⟨rfl, rfl⟩]
  show okb (a == b) = _
  rfl
@[simp] theorem kNe_i {a b : Int} : kNe (.sh (.i a)) (.sh (.i b)) = .ok (.sh (.b (!decide (a = b)))) := by
  unfold kNe
  rw [if_pos ⟨rfl, rfl⟩]
  rfl
@[simp] theorem kMin2_i {a b : Int} : kMin2 (.sh (.i a)) (.sh (.i b)) = .ok (.sh (.i (if b < a then b else a))) := rfl
@[simp] theorem kMax2_i {a b : Int} : kMax2 (.sh (.i a)) (.sh (.i b)) = .ok (.sh (.i (if b > a then b else a))) := rfl
def dsame : Nat → D → Bool
  | _, .n => true | _, .b _ => true | _, .i _ => true | _, .s x => PyData.strOk x
  | n + 1, .l xs => xs.all (dsame n) && decide (xs.length ≤ 16777216) | n + 1, .t xs => xs.all (dsame n) && decide (xs.length ≤ 16777216)
  | _, _ => false
theorem lcL_same {t : Tg} {fe : FE} {y : D} {Γ0 : Env'} : ∀ {ds : List D}, (∀ d ∈ ds, ∃ Γ1, t.set d Γ0 = some Γ1 ∧ ∃ r, fe Γ1 = .ok r ∧ share r = .ok y) → lcL t tYesF fe Γ0 ds = .ok (List.replicate ds.length y)
  | [], _ => rfl
  | d :: ds, h => by
    obtain ⟨Γ1, e1, r, e2, e3⟩ := h d List.mem_cons_self
    have hs : lcStep t tYesF fe Γ0 d = .ok [y] := by
      unfold lcStep
      rw [e1]
      simp [tYesF, e2, e3]
    unfold lcL
    rw [hs, lcL_same fun d' hd => h d' (List.mem_cons_of_mem _ hd)]
    rfl
theorem bools_rep (n : Nat) : D.bools (List.replicate n (.b true)) = some (List.replicate n true) := by
  induction n with
  | zero => rfl
  | succ n ih => rw [List.replicate_succ, D.bools, ih]; rfl
theorem kAll_rep (n : Nat) : kAll (.fr (.l (List.replicate n (.b true)))) = .ok (.sh (.b true)) := by
  unfold kAll
  simp only [Rv.d, D.seq?, bools_rep]
  simp [okb]
theorem lcRes_ok {ys : List D} (h : ys.length ≤ 16777216) : lcRes (.ok ys) = .ok (.fr (.l ys)) := by
  unfold lcRes
  exact if_pos h
theorem lcRes_rep {n : Nat} {y : D} (h : n ≤ 16777216) : lcRes (.ok (List.replicate n y)) = .ok (.fr (.l (List.replicate n y))) := lcRes_ok (by rw [List.length_replicate]; exact h)
theorem lcL_map {t : Tg} {fe : FE} {Γ0 : Env'} : ∀ {ds : List D} {g : D → D}, (∀ d ∈ ds, ∃ Γ1, t.set d Γ0 = some Γ1 ∧ ∃ r, fe Γ1 = .ok r ∧ share r = .ok (g d)) → lcL t tYesF fe Γ0 ds = .ok (ds.map g)
  | [], _, _ => rfl
  | d :: ds, g, h => by
    obtain ⟨Γ1, e1, r, e2, e3⟩ := h d List.mem_cons_self
    have hs : lcStep t tYesF fe Γ0 d = .ok [g d] := by
      unfold lcStep
      rw [e1]
      simp [tYesF, e2, e3]
    unfold lcL
    rw [hs, lcL_map fun d' hd => h d' (List.mem_cons_of_mem _ hd)]
    rfl
end
end Ly
end

section
set_option maxRecDepth 100000
set_option maxHeartbeats 4000000
namespace C
open PySem PySem.Spec L2 Ly
open PyProof.Rows hiding St
def b_look_column : FS :=
(sSeq (sIf (tOrF (tV (e2 kLt (eV 0) (eC (.i 0)))) (tV (e2 kGt (eV 0) (eC (.i 60)))))
(sRaise "TooMany")
sNil)
(sIf (tAndF (tV (e2 kNe (eV 1) (eC (.i 0)))) (tV (e2 kNe (eV 1) (eC (.i 1)))))
(sRaise "BadNumber")
sNil))
def F_look_column : List D → Re Rv := runF 2 2 b_look_column

def b_look_spot : FS :=
(sIf (tOrF (tV (e2 kLt (eV 1) (eC (.i 0)))) (tV (e2 kGe (eV 1) (eV 0))))
(sRaise "BadNumber")
sNil)
def F_look_spot : List D → Re Rv := runF 2 2 b_look_spot

def b_look_rounds : FS :=
(sIf (tV (e2 kLt (eV 0) (eC (.i 0))))
(sRaise "BadNumber")
sNil)
def F_look_rounds : List D → Re Rv := runF 1 1 b_look_rounds

def b_dancing : FS :=
(sSeq (sEx (eCall 2 F_look_column (aCons (eV 0) (aCons (eV 1) aNil))))
(sRet (eLc (itR3 (eV 1) (e2 kSub (eV 0) (eC (.i 1))) (eC (.i 2))) (.one 2) tYesF (eTup (aCons (eV 2) (aCons (e2 kAdd (eV 2) (eC (.i 1))) aNil))) [2])))
def F_dancing : List D → Re Rv := runF 2 3 b_dancing

def L1_standing_out : FS :=
(sSeq (sDput 2 (eV 3) (eC (.b true)))
(sDput 2 (eV 4) (eC (.b true))))
def b_standing_out : FS :=
(sSeq (sEx (eCall 2 F_look_column (aCons (eV 0) (aCons (eV 1) aNil))))
(sSeq (sSet 2 eDk0)
(sSeq (sFor (itA (eCall 2 F_dancing (aCons (eV 0) (aCons (eV 1) aNil)))) (.tup [3, 4]) L1_standing_out)
(sRet (eLc (itR1 (eV 0)) (.one 5) (tV (e2 (kIn true) (eV 5) (eV 2))) (eV 5) [5])))))
def F_standing_out : List D → Re Rv := runF 2 6 b_standing_out

def b_ring_place : FS :=
(sSeq (sEx (eCall 2 F_look_column (aCons (eV 0) (aCons (eV 1) aNil))))
(sSeq (sEx (eCall 2 F_look_spot (aCons (eV 0) (aCons (eV 2) aNil))))
(sSeq (sIf (tV (e2 kEq (e2 kMod (eV 2) (eC (.i 2))) (eV 1)))
(sRet (eV 2))
sNil)
(sRet (e2 kSub (e2 kSub (e2 kMul (eC (.i 2)) (eV 0)) (eC (.i 1))) (eV 2))))))
def F_ring_place : List D → Re Rv := runF 3 3 b_ring_place

def b_spot_of : FS :=
(sRet (e2 kMin2 (eV 1) (e2 kSub (e2 kSub (e2 kMul (eC (.i 2)) (eV 0)) (eC (.i 1))) (eV 1))))
def F_spot_of : List D → Re Rv := runF 2 2 b_spot_of

def b_course : FS :=
(sSeq (sSet 4 (eCall 3 F_ring_place (aCons (eV 0) (aCons (eV 1) (aCons (eV 2) aNil)))))
(sSeq (sEx (eCall 1 F_look_rounds (aCons (eV 3) aNil)))
(sSeq (sSet 5 (e2 kMod (e2 kAdd (eV 4) (eV 3)) (e2 kMul (eC (.i 2)) (eV 0))))
(sSeq (sIf (tV (e2 kLt (eV 5) (eV 0)))
(sFrz 5 (sRet (eTup (aCons (eCall 2 F_spot_of (aCons (eV 0) (aCons (eV 5) aNil))) (aCons (eC (.s "down")) aNil)))))
sNil)
(sFrz 5 (sRet (eTup (aCons (eCall 2 F_spot_of (aCons (eV 0) (aCons (eV 5) aNil))) (aCons (eC (.s "up")) aNil)))))))))
def F_course : List D → Re Rv := runF 4 6 b_course

def L1_after : FS :=
(sFrz 3 (sSeq (sAsg (.tup [6, 7]) (eCallK 3 1 [.p 0, .p 1, .p 2, .k 0] [.i 1] 4 F_course (aCons (eV 3) (aCons (eV 1) (aCons (eV 5) aNil))) (aCons (eV 2) aNil)))
(sAsgT (gSubL 4 (eV 6)) (e2 kIx (eV 0) (eV 5)))))
def b_after : FS :=
(sSeq (sSet 3 (e1 kLen (eV 0)))
(sFrz 3 (sSeq (sEx (eCall 2 F_look_column (aCons (eV 3) (aCons (eV 1) aNil))))
(sSeq (sEx (eCall 1 F_look_rounds (aCons (eV 2) aNil)))
(sSeq (sSet 4 (e1 kList (eV 0)))
(sSeq (sFor (itR1 (eV 3)) (.one 5) L1_after)
(sRet (eV 4))))))))
def F_after : List D → Re Rv := runF 3 8 b_after

def b_first_meeting : FS :=
(sSeq (sSet 4 (e2 kAdd (eCall 3 F_ring_place (aCons (eV 0) (aCons (eV 1) (aCons (eV 2) aNil)))) (eCall 3 F_ring_place (aCons (eV 0) (aCons (eV 1) (aCons (eV 3) aNil))))))
(sSeq (sIf (tV (e2 kEq (eV 2) (eV 3)))
(sRaise "Same")
sNil)
(sRet (e2 kMod (e2 kSub (e2 kSub (eC (.i 0)) (eC (.i 1))) (e2 kDiv (eV 4) (eC (.i 2)))) (eV 0)))))
def F_first_meeting : List D → Re Rv := runF 4 5 b_first_meeting

def b_met : FS :=
(sSeq (sSet 5 (eCall 4 F_first_meeting (aCons (eV 0) (aCons (eV 1) (aCons (eV 2) (aCons (eV 3) aNil))))))
(sSeq (sEx (eCall 1 F_look_rounds (aCons (eV 4) aNil)))
(sSeq (sIf (tV (e2 kLe (eV 4) (eV 5)))
(sRet (eC (.i 0)))
sNil)
(sRet (e2 kAdd (eC (.i 1)) (e2 kDiv (e2 kSub (e2 kSub (eV 4) (eC (.i 1))) (eV 5)) (eV 0)))))))
def F_met : List D → Re Rv := runF 5 6 b_met

def L1_table : FS :=
(sApp 3 (eLc (itR1 (eV 0)) (.one 5) tYesF (eIf (tV (e2 kNe (eV 4) (eV 5))) (eCall 5 F_met (aCons (eV 0) (aCons (eV 1) (aCons (eV 4) (aCons (eV 5) (aCons (eV 2) aNil)))))) (eC (.i 0))) [5]))
def b_table : FS :=
(sSeq (sEx (eCall 2 F_look_column (aCons (eV 0) (aCons (eV 1) aNil))))
(sSeq (sEx (eCall 1 F_look_rounds (aCons (eV 2) aNil)))
(sSeq (sSet 3 (eLst aNil))
(sSeq (sFor (itR1 (eV 0)) (.one 4) L1_table)
(sRet (eV 3))))))
def F_table : List D → Re Rv := runF 3 6 b_table

def L1__law_numbers : FS :=
(sIf (tV (e2 kGt (eV 5) (eC (.i 0))))
(sSeq (sApp 2 (e2 kMod (eV 5) (eC (.i 1013))))
(sSet 5 (e2 kDiv (eV 5) (eC (.i 1013)))))
sNil)
def L2__law_numbers : FS :=
(sSeq (sSet 3 (e2 kMod (e2 kAdd (e2 kAdd (e2 kMul (eV 3) (eC (.i 40692))) (e2 kMod (eV 4) (eC (.i 999961)))) (eC (.i 31))) (eC (.i 2147483399))))
(sSeq (sSet 5 (e2 kSub (eV 4) (e2 kPow (eC (.i 10)) (eC (.i 18)))))
(sSeq (sIf (tV (e2 kLt (eV 5) (eC (.i 0))))
(sApp 2 (e2 kMod (eV 4) (eC (.i 9967))))
sNil)
(sFor (itR1 (eC (.i 60))) (.one 6) L1__law_numbers))))
def L3__law_numbers : FS :=
(sSeq (sSet 3 (e2 kMod (e2 kAdd (e2 kAdd (e2 kAdd (e2 kMul (eV 3) (eV 3)) (e2 kMul (eC (.i 48271)) (eV 3))) (e2 kMul (eC (.i 17)) (e1 kLen (eV 2)))) (eC (.i 5))) (eC (.i 2147483629))))
(sApp 2 (e2 kMod (e2 kDiv (eV 3) (eC (.i 1019))) (eC (.i 9967)))))
def T3__law_numbers : FT :=
(tV (e2 kLt (e1 kLen (eV 2)) (eV 1)))
def b__law_numbers : FS :=
(sSeq (sSet 2 (eLst aNil))
(sSeq (sSet 3 (eC (.i 71)))
(sSeq (sFor (itA (eSl (eV 0) oNo (oIs (eC (.i 63))))) (.one 4) L2__law_numbers)
(sSeq (sWh 1000 T3__law_numbers L3__law_numbers)
(sRet (eSl (eV 2) oNo (oIs (eV 1))))))))
def F__law_numbers : List D → Re Rv := runF 2 7 b__law_numbers

def b__law_same (Fself : List D → Re Rv) : FS :=
(sSeq (sIf (tV (e2 (kIs false) (eV 1) (eC .n)))
(sRet (e2 (kIs false) (eV 0) (eC .n)))
sNil)
(sSeq (sIf (tV (e1 (kIsi2 "list" "tuple") (eV 1)))
(sSeq (sIf (tOrF (tV (e2 kNe (e1 (kIsi "list") (eV 0)) (e1 (kIsi "list") (eV 1)))) (tV (e2 kNe (e1 (kIsi "tuple") (eV 0)) (e1 (kIsi "tuple") (eV 1)))))
(sRet (eC (.b false)))
sNil)
(sRet (eAnd (e2 kEq (e1 kLen (eV 0)) (e1 kLen (eV 1))) (e1 kAll (eLc (itR1 (e1 kLen (eV 1))) (.one 2) tYesF (eCall 2 Fself (aCons (e2 kIx (eV 0) (eV 2)) (aCons (e2 kIx (eV 1) (eV 2)) aNil))) [2])))))
sNil)
(sSeq (sIf (tOrF (tV (e2 kNe (e1 (kIsi "bool") (eV 0)) (e1 (kIsi "bool") (eV 1)))) (tV (e2 kNe (e1 (kIsi "str") (eV 0)) (e1 (kIsi "str") (eV 1)))))
(sRet (eC (.b false)))
sNil)
(sRet (eAnd (e2 kEq (e1 (kIsi "int") (eV 0)) (e1 (kIsi "int") (eV 1))) (e2 kEq (eV 0) (eV 1)))))))
def G__law_same : Nat → List D → Re Rv
  | 0 => fun _ => .bad
  | k + 1 => runF 2 3 (b__law_same (G__law_same k))
def F__law_same : List D → Re Rv := G__law_same 12

def L1__law_ten : FS :=
(sSet 1 (e2 kMul (eV 1) (eC (.i 10))))
def b__law_ten : FS :=
(sSeq (sSet 1 (eC (.i 1)))
(sSeq (sFor (itR1 (eV 0)) (.one 2) L1__law_ten)
(sRet (eV 1))))
def F__law_ten : List D → Re Rv := runF 1 3 b__law_ten

def L1_law : FS :=
(sSeq (sIf (tOrF (tV (e2 kNe (e2 kIx (e2 kIx (eV 6) (eV 8)) (eV 9)) (e2 kIx (e2 kIx (eV 6) (eV 9)) (eV 8)))) (tAndF (tV (e2 kEq (eV 8) (eV 9))) (tV (e2 kNe (e2 kIx (e2 kIx (eV 6) (eV 8)) (eV 8)) (eC (.i 0))))))
(sRet (eC (.b false)))
sNil)
(sIf (tAndF (tV (e2 kNe (eV 8) (eV 9))) (tNotF (tV (eCh kLe kLe (eV 7) (e2 kIx (e2 kIx (eV 6) (eV 8)) (eV 9)) (e2 kAdd (eV 7) (eC (.i 1)))))))
(sRet (eC (.b false)))
sNil))
def L2_law : FS :=
(sFor (itR1 (eV 5)) (.one 9) L1_law)
def b_law : FS :=
(sSeq (sSet 1 (eCall 2 F__law_numbers (aCons (eV 0) (aCons (eC (.i 20)) aNil))))
(sSeq (sSet 2 (e2 kMod (e2 kIx (eV 1) (eC (.i 0))) (eC (.i 2))))
(sSeq (sSet 3 (e2 kAdd (e2 kMul (e2 kIx (eV 1) (eC (.i 1))) (eCall 1 F__law_ten (aCons (e2 kMod (e2 kIx (eV 1) (eC (.i 2))) (eC (.i 56))) aNil))) (e2 kMod (e2 kIx (eV 1) (eC (.i 3))) (eC (.i 200)))))
(sSeq (sSet 3 (e2 kAdd (eV 3) (e2 kMul (e2 kMod (e2 kDiv (e2 kIx (eV 1) (eC (.i 2))) (eC (.i 56))) (eC (.i 2))) (eCall 1 F__law_ten (aCons (eC (.i 59)) aNil)))))
(sFrz 3 (sFrz 2 (sSeq (sIf (tNotF (tV (eCall 2 F__law_same (aCons (eLst (aCons (eCall 3 F_after (aCons (eLst aNil) (aCons (eV 2) (aCons (eV 3) aNil)))) (aCons (eCall 3 F_table (aCons (eC (.i 0)) (aCons (eV 2) (aCons (eV 3) aNil)))) (aCons (eCall 2 F_dancing (aCons (eC (.i 0)) (aCons (eV 2) aNil))) aNil)))) (aCons (eLst (aCons (eLst aNil) (aCons (eLst aNil) (aCons (eLst aNil) aNil)))) aNil)))))
(sRet (eC (.b false)))
sNil)
(sFrz 3 (sFrz 2 (sSeq (sIf (tNotF (tV (eCall 2 F__law_same (aCons (eLst (aCons (eCall 3 F_after (aCons (eLst (aCons (eC (.i 7)) aNil)) (aCons (eV 2) (aCons (eV 3) aNil)))) (aCons (eCall 3 F_table (aCons (eC (.i 1)) (aCons (eV 2) (aCons (eV 3) aNil)))) (aCons (eCall 2 F_standing_out (aCons (eC (.i 1)) (aCons (eV 2) aNil))) aNil)))) (aCons (eLst (aCons (eLst (aCons (eC (.i 7)) aNil)) (aCons (eLst (aCons (eLst (aCons (eC (.i 0)) aNil)) aNil)) (aCons (eLst (aCons (eC (.i 0)) aNil)) aNil)))) aNil)))))
(sRet (eC (.b false)))
sNil)
(sFrz 3 (sFrz 2 (sSeq (sIf (tNotF (tV (eCall 2 F__law_same (aCons (eCall 4 F_course (aCons (eC (.i 1)) (aCons (eV 2) (aCons (eC (.i 0)) (aCons (eV 3) aNil))))) (aCons (eTup (aCons (eC (.i 0)) (aCons (e2 kIx (eLst (aCons (eC (.s "down")) (aCons (eC (.s "up")) aNil))) (e2 kMod (e2 kAdd (eV 2) (eV 3)) (eC (.i 2)))) aNil))) aNil)))))
(sRet (eC (.b false)))
sNil)
(sSeq (sSet 4 (e2 kDiv (e2 kSub (e2 kAdd (eV 3) (eC (.i 1))) (eV 2)) (eC (.i 2))))
(sFrz 4 (sFrz 3 (sFrz 2 (sSeq (sIf (tNotF (tV (eCall 2 F__law_same (aCons (eCall 3 F_table (aCons (eC (.i 2)) (aCons (eV 2) (aCons (eV 3) aNil)))) (aCons (eLst (aCons (eLst (aCons (eC (.i 0)) (aCons (eV 4) aNil))) (aCons (eLst (aCons (eV 4) (aCons (eC (.i 0)) aNil))) aNil))) aNil)))))
(sRet (eC (.b false)))
sNil)
(sSeq (sSet 5 (e2 kAdd (eC (.i 59)) (e2 kMod (e2 kIx (eV 1) (eC (.i 4))) (eC (.i 2)))))
(sFrz 3 (sFrz 2 (sFrz 5 (sSeq (sSet 6 (eCall 3 F_table (aCons (eV 5) (aCons (eV 2) (aCons (eV 3) aNil)))))
(sSeq (sSet 7 (e2 kDiv (eV 3) (eV 5)))
(sSeq (sFor (itR1 (eV 5)) (.one 8) L2_law)
(sRet (eC (.b true))))))))))))))))))))))))))))
def F_law : List D → Re Rv := runF 1 10 b_law

def top (i : Nat) : Stmt := PySem.Challenge.pw_longways_k29_columns_of_any_size.main.body.getD i (.Pass ⟨0, 0, 0, 0⟩)
structure Tx (K : PySem.W.Frag) (mg : Str → Option Value) : Prop where
  b_all : mg "all" = none
  b_bool : mg "bool" = none
  b_int : mg "int" = none
  b_isinstance : mg "isinstance" = none
  b_len : mg "len" = none
  b_list : mg "list" = none
  b_min : mg "min" = none
  b_range : mg "range" = none
  b_str : mg "str" = none
  b_tuple : mg "tuple" = none
  c_MOST_COUPLES : ∃ t, mg "MOST_COUPLES" = some (.int 60 t)
  x_BadNumber : XOk K mg "BadNumber"
  x_Same : XOk K mg "Same"
  x_TooMany : XOk K mg "TooMany"
  f_look_column : ∃ (f : Addr) (fd : FuncData), mg "look_column" = some (.ref f) ∧ Fun K "look_column" "look_column" (top 7) f fd ∧ Binds K fd ["many", "phase"] []
  f_look_spot : ∃ (f : Addr) (fd : FuncData), mg "look_spot" = some (.ref f) ∧ Fun K "look_spot" "look_spot" (top 8) f fd ∧ Binds K fd ["many", "spot"] []
  f_look_rounds : ∃ (f : Addr) (fd : FuncData), mg "look_rounds" = some (.ref f) ∧ Fun K "look_rounds" "look_rounds" (top 9) f fd ∧ Binds K fd ["rounds"] []
  f_dancing : ∃ (f : Addr) (fd : FuncData), mg "dancing" = some (.ref f) ∧ Fun K "dancing" "dancing" (top 10) f fd ∧ Binds K fd ["many", "phase"] []
  f_standing_out : ∃ (f : Addr) (fd : FuncData), mg "standing_out" = some (.ref f) ∧ Fun K "standing_out" "standing_out" (top 11) f fd ∧ Binds K fd ["many", "phase"] []
  f_ring_place : ∃ (f : Addr) (fd : FuncData), mg "ring_place" = some (.ref f) ∧ Fun K "ring_place" "ring_place" (top 12) f fd ∧ Binds K fd ["many", "phase", "spot"] []
  f_spot_of : ∃ (f : Addr) (fd : FuncData), mg "spot_of" = some (.ref f) ∧ Fun K "spot_of" "spot_of" (top 13) f fd ∧ Binds K fd ["many", "place"] []
  f_course : ∃ (f : Addr) (fd : FuncData), mg "course" = some (.ref f) ∧ FnD K "course" (top 14) [.int 1] f fd ∧ Binds K fd ["many", "phase", "spot", "rounds"] []
  f_after : ∃ (f : Addr) (fd : FuncData), mg "after" = some (.ref f) ∧ FnD K "after" (top 15) [.int 0, .int 1] f fd ∧ Binds K fd ["column", "phase", "rounds"] []
  f_first_meeting : ∃ (f : Addr) (fd : FuncData), mg "first_meeting" = some (.ref f) ∧ Fun K "first_meeting" "first_meeting" (top 16) f fd ∧ Binds K fd ["many", "phase", "one", "other"] []
  f_met : ∃ (f : Addr) (fd : FuncData), mg "met" = some (.ref f) ∧ Fun K "met" "met" (top 17) f fd ∧ Binds K fd ["many", "phase", "one", "other", "rounds"] []
  f_table : ∃ (f : Addr) (fd : FuncData), mg "table" = some (.ref f) ∧ Fun K "table" "table" (top 18) f fd ∧ Binds K fd ["many", "phase", "rounds"] []
  f__law_numbers : ∃ (f : Addr) (fd : FuncData), mg "_law_numbers" = some (.ref f) ∧ Fun K "_law_numbers" "_law_numbers" (top 20) f fd ∧ Binds K fd ["_law_script", "_law_many"] []
  f__law_same : ∃ (f : Addr) (fd : FuncData), mg "_law_same" = some (.ref f) ∧ Fun K "_law_same" "_law_same" (top 21) f fd ∧ Binds K fd ["_law_found", "_law_due"] []
  f__law_ten : ∃ (f : Addr) (fd : FuncData), mg "_law_ten" = some (.ref f) ∧ Fun K "_law_ten" "_law_ten" (top 22) f fd ∧ Binds K fd ["_law_number"] []
section
variable {P : Program} {w : World} {K : PySem.W.Frag} {mg : Str → Option Value} {base : Heap}
abbrev s_look_column : Stmt := top 7
abbrev N_look_column : List Str := ["many", "phase"]
theorem sc_look_column : FnScope N_look_column ["many", "phase"] (defScope s_look_column) := ⟨rfl, rfl, rfl, by decide +kernel, rfl, by decide +kernel, by decide +kernel⟩
theorem fn_look_column {f : Addr} {fd : FuncData} (T : Tx K mg) (hF : Fun K "look_column" "look_column" s_look_column f fd) : FnOk P w K mg base (L2.CX P w) 1 f fd ["many", "phase"] (spF K mg 2 F_look_column) :=
  def_fn (k := 0) hF sc_look_column rfl rfl (fun cdv A outer s H G E hr cy pass =>
(rs_cons (rs_if (PW.pt (rw_or (rt_cmp cd_lt (nv 0) re_int (nomark _)) (rw_or1 (rt_cmp cd_gt (nv 0) (re_gi T.c_MOST_COUPLES) (nomark _)))))
(rs_one (rs_raise cy T.x_TooMany rfl))
rs_nil)
(rs_one (rs_if (PW.pt (rw_and (rt_cmp (cd_ne cy) (nv 1) re_int (nomark _)) (rw_and1 (rt_cmp (cd_ne cy) (nv 1) re_int (nomark _)))))
(rs_one (rs_raise cy T.x_BadNumber rfl))
rs_nil))))
theorem d_look_column (T : Tx K mg) : DefOk P w K mg base 1 "look_column" 2 F_look_column := by
  obtain ⟨f, fd, h1, h2, h3⟩ := T.f_look_column
  exact ⟨f, fd, _, h1, h2.kp, h3, fn_look_column T h2⟩

abbrev s_look_spot : Stmt := top 8
abbrev N_look_spot : List Str := ["many", "spot"]
theorem sc_look_spot : FnScope N_look_spot ["many", "spot"] (defScope s_look_spot) := ⟨rfl, rfl, rfl, by decide +kernel, rfl, by decide +kernel, by decide +kernel⟩
theorem fn_look_spot {f : Addr} {fd : FuncData} (T : Tx K mg) (hF : Fun K "look_spot" "look_spot" s_look_spot f fd) : FnOk P w K mg base (L2.CX P w) 1 f fd ["many", "spot"] (spF K mg 2 F_look_spot) :=
  def_fn (k := 0) hF sc_look_spot rfl rfl (fun cdv A outer s H G E hr cy pass =>
(rs_one (rs_if (PW.pt (rw_or (rt_cmp cd_lt (nv 1) re_int (nomark _)) (rw_or1 (rt_cmp cd_ge (nv 1) (nv 0) (nomark _)))))
(rs_one (rs_raise cy T.x_BadNumber rfl))
rs_nil)))
theorem d_look_spot (T : Tx K mg) : DefOk P w K mg base 1 "look_spot" 2 F_look_spot := by
  obtain ⟨f, fd, h1, h2, h3⟩ := T.f_look_spot
  exact ⟨f, fd, _, h1, h2.kp, h3, fn_look_spot T h2⟩

abbrev s_look_rounds : Stmt := top 9
abbrev N_look_rounds : List Str := ["rounds"]
theorem sc_look_rounds : FnScope N_look_rounds ["rounds"] (defScope s_look_rounds) := ⟨rfl, rfl, rfl, by decide +kernel, rfl, by decide +kernel, by decide +kernel⟩
theorem fn_look_rounds {f : Addr} {fd : FuncData} (T : Tx K mg) (hF : Fun K "look_rounds" "look_rounds" s_look_rounds f fd) : FnOk P w K mg base (L2.CX P w) 1 f fd ["rounds"] (spF K mg 1 F_look_rounds) :=
  def_fn (k := 0) hF sc_look_rounds rfl rfl (fun cdv A outer s H G E hr cy pass =>
(rs_one (rs_if (rt_cmp cd_lt (nv 0) re_int (nomark _))
(rs_one (rs_raise cy T.x_BadNumber rfl))
rs_nil)))
theorem d_look_rounds (T : Tx K mg) : DefOk P w K mg base 1 "look_rounds" 1 F_look_rounds := by
  obtain ⟨f, fd, h1, h2, h3⟩ := T.f_look_rounds
  exact ⟨f, fd, _, h1, h2.kp, h3, fn_look_rounds T h2⟩

abbrev s_dancing : Stmt := top 10
abbrev N_dancing : List Str := ["many", "phase", "spot"]
theorem sc_dancing : FnScope N_dancing ["many", "phase"] (defScope s_dancing) := ⟨rfl, rfl, rfl, by decide +kernel, rfl, by decide +kernel, by decide +kernel⟩
theorem fn_dancing {f : Addr} {fd : FuncData} (T : Tx K mg) (hF : Fun K "dancing" "dancing" s_dancing f fd) : FnOk P w K mg base (L2.CX P w) 2 f fd ["many", "phase"] (spF K mg 2 F_dancing) :=
  def_fn (k := 1) hF sc_dancing rfl rfl (fun cdv A outer s H G E hr cy pass =>
(rs_cons (rs_ex (re_call cy (d_look_column T) (hr.mono (by decide)) rfl (ra_cons (nv 0) (ra_cons (nv 1) ra_nil))))
(rs_one (rs_ret (re_lc cy (ri_range3 rfl T.b_range (nv 1) (re_sub (nv 0) re_int) re_int) (blkOk_by (N := N_dancing) (sc := defScope s_dancing) (own := [("spot", 2)]) (by decide +kernel)) (by decide) (fun _ _ _ _ _ cy1 => (rg1 cy1 2)) (fun _ _ _ _ _ cy1 => rts_nil) (fun _ _ _ _ _ cy1 => (re_tup (ra_cons (nv 2) (ra_cons (re_add cy1 (nv 2) re_int) ra_nil)))))))))
theorem d_dancing (T : Tx K mg) : DefOk P w K mg base 2 "dancing" 2 F_dancing := by
  obtain ⟨f, fd, h1, h2, h3⟩ := T.f_dancing
  exact ⟨f, fd, _, h1, h2.kp, h3, fn_dancing T h2⟩

abbrev s_standing_out : Stmt := top 11
abbrev N_standing_out : List Str := ["many", "phase", "busy", "one", "other", "spot"]
theorem sc_standing_out : FnScope N_standing_out ["many", "phase"] (defScope s_standing_out) := ⟨rfl, rfl, rfl, by decide +kernel, rfl, by decide +kernel, by decide +kernel⟩
theorem fn_standing_out {f : Addr} {fd : FuncData} (T : Tx K mg) (hF : Fun K "standing_out" "standing_out" s_standing_out f fd) : FnOk P w K mg base (L2.CX P w) 3 f fd ["many", "phase"] (spF K mg 2 F_standing_out) :=
  def_fn (k := 2) hF sc_standing_out rfl rfl (fun cdv A outer s H G E hr cy pass =>
(rs_cons (rs_ex (re_call cy (d_look_column T) (hr.mono (by decide)) rfl (ra_cons (nv 0) (ra_cons (nv 1) ra_nil))))
(rs_cons (rs_set (i := 2) cy rfl (Or.inr rfl) re_dk0)
(rs_cons (rs_for pass cy (ri_any cy (re_call cy (d_dancing T) (hr.mono (by decide)) rfl (ra_cons (nv 0) (ra_cons (nv 1) ra_nil)))) (rg_names cy (rgn_cons cy (rgn_cons cy rgn_nil)))
(rs_cons (rs_dput (i := 2) cy rfl (Or.inr (Or.inl rfl)) (nv 3) re_bl)
(rs_one (rs_dput (i := 2) cy rfl (Or.inr (Or.inl rfl)) (nv 4) re_bl))))
(rs_one (rs_ret (re_lc cy (ri_range1 rfl T.b_range (nv 0)) (blkOk_by (N := N_standing_out) (sc := defScope s_standing_out) (own := [("spot", 5)]) (by decide +kernel)) (by decide) (fun _ _ _ _ _ cy1 => (rg1 cy1 5)) (fun _ _ _ _ _ cy1 => (rts_one (rt_cmp (cd_notIn cy1 (hr.units65)) (nv 5) (nv 2) (by rfl)))) (fun _ _ _ _ _ cy1 => (nv 5)))))))))
theorem d_standing_out (T : Tx K mg) : DefOk P w K mg base 3 "standing_out" 2 F_standing_out := by
  obtain ⟨f, fd, h1, h2, h3⟩ := T.f_standing_out
  exact ⟨f, fd, _, h1, h2.kp, h3, fn_standing_out T h2⟩

abbrev s_ring_place : Stmt := top 12
abbrev N_ring_place : List Str := ["many", "phase", "spot"]
theorem sc_ring_place : FnScope N_ring_place ["many", "phase", "spot"] (defScope s_ring_place) := ⟨rfl, rfl, rfl, by decide +kernel, rfl, by decide +kernel, by decide +kernel⟩
theorem fn_ring_place {f : Addr} {fd : FuncData} (T : Tx K mg) (hF : Fun K "ring_place" "ring_place" s_ring_place f fd) : FnOk P w K mg base (L2.CX P w) 2 f fd ["many", "phase", "spot"] (spF K mg 3 F_ring_place) :=
  def_fn (k := 1) hF sc_ring_place rfl rfl (fun cdv A outer s H G E hr cy pass =>
(rs_cons (rs_ex (re_call cy (d_look_column T) (hr.mono (by decide)) rfl (ra_cons (nv 0) (ra_cons (nv 1) ra_nil))))
(rs_cons (rs_ex (re_call cy (d_look_spot T) (hr.mono (by decide)) rfl (ra_cons (nv 0) (ra_cons (nv 2) ra_nil))))
(rs_cons (rs_if (rt_cmp (cd_eq cy) (re_mod (nv 2) re_int) (nv 1) (nomark _))
(rs_one (rs_ret (nv 2)))
rs_nil)
(rs_one (rs_ret (re_sub (re_sub (re_mul re_int (nv 0)) re_int) (nv 2))))))))
theorem d_ring_place (T : Tx K mg) : DefOk P w K mg base 2 "ring_place" 3 F_ring_place := by
  obtain ⟨f, fd, h1, h2, h3⟩ := T.f_ring_place
  exact ⟨f, fd, _, h1, h2.kp, h3, fn_ring_place T h2⟩

abbrev s_spot_of : Stmt := top 13
abbrev N_spot_of : List Str := ["many", "place"]
theorem sc_spot_of : FnScope N_spot_of ["many", "place"] (defScope s_spot_of) := ⟨rfl, rfl, rfl, by decide +kernel, rfl, by decide +kernel, by decide +kernel⟩
theorem fn_spot_of {f : Addr} {fd : FuncData} (T : Tx K mg) (hF : Fun K "spot_of" "spot_of" s_spot_of f fd) : FnOk P w K mg base (L2.CX P w) 1 f fd ["many", "place"] (spF K mg 2 F_spot_of) :=
  def_fn (k := 0) hF sc_spot_of rfl rfl (fun cdv A outer s H G E hr cy pass =>
(rs_one (rs_ret (re_min2 cy rfl T.b_min (nv 1) (re_sub (re_sub (re_mul re_int (nv 0)) re_int) (nv 1))))))
theorem d_spot_of (T : Tx K mg) : DefOk P w K mg base 1 "spot_of" 2 F_spot_of := by
  obtain ⟨f, fd, h1, h2, h3⟩ := T.f_spot_of
  exact ⟨f, fd, _, h1, h2.kp, h3, fn_spot_of T h2⟩

abbrev s_course : Stmt := top 14
abbrev N_course : List Str := ["many", "phase", "spot", "rounds", "place", "there"]
theorem sc_course : FnScope N_course ["many", "phase", "spot", "rounds"] (defScope s_course) := ⟨rfl, rfl, rfl, by decide +kernel, rfl, by decide +kernel, by decide +kernel⟩
theorem fn_course {f : Addr} {fd : FuncData} (T : Tx K mg) (hF : FnD K "course" s_course [.int 1] f fd) : FnOk P w K mg base (L2.CX P w) 3 f fd ["many", "phase", "spot", "rounds"] (spF K mg 4 F_course) :=
  def_fnD (k := 2) hF sc_course rfl rfl (fun cdv A outer s H G E hr cy pass =>
(rs_cons (rs_set (i := 4) cy rfl (Or.inl rfl) (re_call cy (d_ring_place T) (hr.mono (by decide)) rfl (ra_cons (nv 0) (ra_cons (nv 1) (ra_cons (nv 2) ra_nil)))))
(rs_cons (rs_ex (re_call cy (d_look_rounds T) (hr.mono (by decide)) rfl (ra_cons (nv 3) ra_nil)))
(rs_cons (rs_set (i := 5) cy rfl (Or.inl rfl) (re_mod (re_add cy (nv 4) (nv 3)) (re_mul re_int (nv 0))))
(rs_cons (rs_if (rt_cmp cd_lt (nv 5) (nv 0) (nomark _))
(rs_frz 5 (rs_one (rs_ret (re_tup (ra_cons (re_call cy (d_spot_of T) (hr.mono (by decide)) rfl (ra_cons (nv 0) (ra_cons (nv 5) ra_nil))) (ra_cons re_s ra_nil))))))
rs_nil)
(rs_frz 5 (rs_one (rs_ret (re_tup (ra_cons (re_call cy (d_spot_of T) (hr.mono (by decide)) rfl (ra_cons (nv 0) (ra_cons (nv 5) ra_nil))) (ra_cons re_s ra_nil)))))))))))
theorem d_course (T : Tx K mg) : DefOk P w K mg base 3 "course" 4 F_course := by
  obtain ⟨f, fd, h1, h2, h3⟩ := T.f_course
  exact ⟨f, fd, _, h1, h2.kp, h3, fn_course T h2⟩

theorem dk_course_3_rounds (T : Tx K mg) : DefOkK P w K mg base 3 "course" 3 ["rounds"] [.p 0, .p 1, .p 2, .k 0] [.i 1] 4 F_course := by
  obtain ⟨f, fd, h1, h2, h3⟩ := T.f_course
  exact defK_mk 3 ["rounds"] [.p 0, .p 1, .p 2, .k 0] h1 h2 (List.cons_ne_nil _ _) (fun G => (.cons (.i _) .nil)) (fn_course T h2) fun _ _ _ _ _ _ _ us its ws e1 e2 e3 => match us, its, ws, e1, e2, e3 with
    | [_, _, _], [_], [_], _, _, _ => ⟨_, rfl, rfl⟩
abbrev s_after : Stmt := top 15
abbrev N_after : List Str := ["column", "phase", "rounds", "many", "found", "spot", "goal", "word"]
theorem sc_after : FnScope N_after ["column", "phase", "rounds"] (defScope s_after) := ⟨rfl, rfl, rfl, by decide +kernel, rfl, by decide +kernel, by decide +kernel⟩
theorem fn_after {f : Addr} {fd : FuncData} (T : Tx K mg) (hF : FnD K "after" s_after [.int 0, .int 1] f fd) : FnOk P w K mg base (L2.CX P w) 4 f fd ["column", "phase", "rounds"] (spF K mg 3 F_after) :=
  def_fnD (k := 3) hF sc_after rfl rfl (fun cdv A outer s H G E hr cy pass =>
(rs_cons (rs_set (i := 3) cy rfl (Or.inl rfl) (re_len cy rfl T.b_len (nv 0)))
(rs_frz 3 (rs_cons (rs_ex (re_call cy (d_look_column T) (hr.mono (by decide)) rfl (ra_cons (nv 3) (ra_cons (nv 1) ra_nil))))
(rs_cons (rs_ex (re_call cy (d_look_rounds T) (hr.mono (by decide)) rfl (ra_cons (nv 2) ra_nil)))
(rs_cons (rs_set (i := 4) cy rfl (Or.inl rfl) (re_list cy rfl T.b_list (nv 0)))
(rs_cons (rs_for pass cy (ri_range1 rfl T.b_range (nv 3)) (rg1 cy 5)
(rs_frz 3 (rs_cons (rs_asg (t := (.tup [6, 7])) (rg_names cy (rgn_cons cy (rgn_cons cy rgn_nil))) (re_callK cy (dk_course_3_rounds T) (hr.mono (by decide)) rfl (ra_cons (nv 3) (ra_cons (nv 1) (ra_cons (nv 5) ra_nil))) (rk_cons (nv 2) rk_nil)))
(rs_one (rs_asgT (rg_sub (i := 4) rfl (Or.inl rfl) (nv 6)) (re_ix cy (nv 0) (nv 5)))))))
(rs_one (rs_ret (nv 4))))))))))
theorem d_after (T : Tx K mg) : DefOk P w K mg base 4 "after" 3 F_after := by
  obtain ⟨f, fd, h1, h2, h3⟩ := T.f_after
  exact ⟨f, fd, _, h1, h2.kp, h3, fn_after T h2⟩

abbrev s_first_meeting : Stmt := top 16
abbrev N_first_meeting : List Str := ["many", "phase", "one", "other", "both"]
theorem sc_first_meeting : FnScope N_first_meeting ["many", "phase", "one", "other"] (defScope s_first_meeting) := ⟨rfl, rfl, rfl, by decide +kernel, rfl, by decide +kernel, by decide +kernel⟩
theorem fn_first_meeting {f : Addr} {fd : FuncData} (T : Tx K mg) (hF : Fun K "first_meeting" "first_meeting" s_first_meeting f fd) : FnOk P w K mg base (L2.CX P w) 3 f fd ["many", "phase", "one", "other"] (spF K mg 4 F_first_meeting) :=
  def_fn (k := 2) hF sc_first_meeting rfl rfl (fun cdv A outer s H G E hr cy pass =>
(rs_cons (rs_set (i := 4) cy rfl (Or.inl rfl) (re_add cy (re_call cy (d_ring_place T) (hr.mono (by decide)) rfl (ra_cons (nv 0) (ra_cons (nv 1) (ra_cons (nv 2) ra_nil)))) (re_call cy (d_ring_place T) (hr.mono (by decide)) rfl (ra_cons (nv 0) (ra_cons (nv 1) (ra_cons (nv 3) ra_nil))))))
(rs_cons (rs_if (rt_cmp (cd_eq cy) (nv 2) (nv 3) (nomark _))
(rs_one (rs_raise cy T.x_Same rfl))
rs_nil)
(rs_one (rs_ret (re_mod (re_sub (re_sub re_int re_int) (re_div (nv 4) re_int)) (nv 0)))))))
theorem d_first_meeting (T : Tx K mg) : DefOk P w K mg base 3 "first_meeting" 4 F_first_meeting := by
  obtain ⟨f, fd, h1, h2, h3⟩ := T.f_first_meeting
  exact ⟨f, fd, _, h1, h2.kp, h3, fn_first_meeting T h2⟩

abbrev s_met : Stmt := top 17
abbrev N_met : List Str := ["many", "phase", "one", "other", "rounds", "first"]
theorem sc_met : FnScope N_met ["many", "phase", "one", "other", "rounds"] (defScope s_met) := ⟨rfl, rfl, rfl, by decide +kernel, rfl, by decide +kernel, by decide +kernel⟩
theorem fn_met {f : Addr} {fd : FuncData} (T : Tx K mg) (hF : Fun K "met" "met" s_met f fd) : FnOk P w K mg base (L2.CX P w) 4 f fd ["many", "phase", "one", "other", "rounds"] (spF K mg 5 F_met) :=
  def_fn (k := 3) hF sc_met rfl rfl (fun cdv A outer s H G E hr cy pass =>
(rs_cons (rs_set (i := 5) cy rfl (Or.inl rfl) (re_call cy (d_first_meeting T) (hr.mono (by decide)) rfl (ra_cons (nv 0) (ra_cons (nv 1) (ra_cons (nv 2) (ra_cons (nv 3) ra_nil))))))
(rs_cons (rs_ex (re_call cy (d_look_rounds T) (hr.mono (by decide)) rfl (ra_cons (nv 4) ra_nil)))
(rs_cons (rs_if (rt_cmp cd_le (nv 4) (nv 5) (nomark _))
(rs_one (rs_ret re_int))
rs_nil)
(rs_one (rs_ret (re_add cy re_int (re_div (re_sub (re_sub (nv 4) re_int) (nv 5)) (nv 0)))))))))
theorem d_met (T : Tx K mg) : DefOk P w K mg base 4 "met" 5 F_met := by
  obtain ⟨f, fd, h1, h2, h3⟩ := T.f_met
  exact ⟨f, fd, _, h1, h2.kp, h3, fn_met T h2⟩

abbrev s_table : Stmt := top 18
abbrev N_table : List Str := ["many", "phase", "rounds", "found", "one", "other"]
theorem sc_table : FnScope N_table ["many", "phase", "rounds"] (defScope s_table) := ⟨rfl, rfl, rfl, by decide +kernel, rfl, by decide +kernel, by decide +kernel⟩
theorem fn_table {f : Addr} {fd : FuncData} (T : Tx K mg) (hF : Fun K "table" "table" s_table f fd) : FnOk P w K mg base (L2.CX P w) 5 f fd ["many", "phase", "rounds"] (spF K mg 3 F_table) :=
  def_fn (k := 4) hF sc_table rfl rfl (fun cdv A outer s H G E hr cy pass =>
(rs_cons (rs_ex (re_call cy (d_look_column T) (hr.mono (by decide)) rfl (ra_cons (nv 0) (ra_cons (nv 1) ra_nil))))
(rs_cons (rs_ex (re_call cy (d_look_rounds T) (hr.mono (by decide)) rfl (ra_cons (nv 2) ra_nil)))
(rs_cons (rs_set (i := 3) cy rfl (Or.inl rfl) (re_lst ra_nil))
(rs_cons (rs_for pass cy (ri_range1 rfl T.b_range (nv 0)) (rg1 cy 4)
(rs_one (rs_app (i := 3) rfl (Or.inl rfl) (re_lc cy (ri_range1 rfl T.b_range (nv 0)) (blkOk_by (N := N_table) (sc := defScope s_table) (own := [("other", 5)]) (by decide +kernel)) (by decide) (fun _ _ _ _ _ cy1 => (rg1 cy1 5)) (fun _ _ _ _ _ cy1 => rts_nil) (fun _ _ _ _ _ cy1 => (re_if (rt_cmp (cd_ne cy1) (nv 4) (nv 5) (nomark _)) (re_call cy1 (d_met T) (hr.mono (by decide)) rfl (ra_cons (nv 0) (ra_cons (nv 1) (ra_cons (nv 4) (ra_cons (nv 5) (ra_cons (nv 2) ra_nil)))))) re_int))))))
(rs_one (rs_ret (nv 3))))))))
theorem d_table (T : Tx K mg) : DefOk P w K mg base 5 "table" 3 F_table := by
  obtain ⟨f, fd, h1, h2, h3⟩ := T.f_table
  exact ⟨f, fd, _, h1, h2.kp, h3, fn_table T h2⟩

abbrev s__law_numbers : Stmt := top 20
abbrev N__law_numbers : List Str := ["_law_script", "_law_many", "_law_row", "_law_seed", "_law_cell", "_law_rest", "_law_k"]
theorem sc__law_numbers : FnScope N__law_numbers ["_law_script", "_law_many"] (defScope s__law_numbers) := ⟨rfl, rfl, rfl, by decide +kernel, rfl, by decide +kernel, by decide +kernel⟩
theorem fn__law_numbers {f : Addr} {fd : FuncData} (T : Tx K mg) (hF : Fun K "_law_numbers" "_law_numbers" s__law_numbers f fd) : FnOk P w K mg base (L2.CX P w) 1 f fd ["_law_script", "_law_many"] (spF K mg 2 F__law_numbers) :=
  def_fn (k := 0) hF sc__law_numbers rfl rfl (fun cdv A outer s H G E hr cy pass =>
(rs_cons (rs_set (i := 2) cy rfl (Or.inl rfl) (re_lst ra_nil))
(rs_cons (rs_set (i := 3) cy rfl (Or.inl rfl) re_int)
(rs_cons (rs_for pass cy (ri_any cy (re_sl cy (nv 0) ro_no (ro_is re_int))) (rg1 cy 4)
(rs_cons (rs_set (i := 3) cy rfl (Or.inl rfl) (re_mod (re_add cy (re_add cy (re_mul (nv 3) re_int) (re_mod (nv 4) re_int)) re_int) re_int))
(rs_cons (rs_set (i := 5) cy rfl (Or.inl rfl) (re_sub (nv 4) (re_pow re_int re_int)))
(rs_cons (rs_if (rt_cmp cd_lt (nv 5) re_int (nomark _))
(rs_one (rs_app (i := 2) rfl (Or.inl rfl) (re_mod (nv 4) re_int)))
rs_nil)
(rs_one (rs_for pass cy (ri_range1 rfl T.b_range re_int) (rg1 cy 6)
(rs_one (rs_if (rt_cmp cd_gt (nv 5) re_int (nomark _))
(rs_cons (rs_app (i := 2) rfl (Or.inl rfl) (re_mod (nv 5) re_int))
(rs_one (rs_set (i := 5) cy rfl (Or.inl rfl) (re_div (nv 5) re_int))))
rs_nil))))))))
(rs_cons (rs_while pass 1000 (rt_cmp cd_lt (re_len cy rfl T.b_len (nv 2)) (nv 1) (nomark _))
(rs_cons (rs_set (i := 3) cy rfl (Or.inl rfl) (re_mod (re_add cy (re_add cy (re_add cy (re_mul (nv 3) (nv 3)) (re_mul re_int (nv 3))) (re_mul re_int (re_len cy rfl T.b_len (nv 2)))) re_int) re_int))
(rs_one (rs_app (i := 2) rfl (Or.inl rfl) (re_mod (re_div (nv 3) re_int) re_int)))))
(rs_one (rs_ret (re_sl cy (nv 2) ro_no (ro_is (nv 1))))))))))
theorem d__law_numbers (T : Tx K mg) : DefOk P w K mg base 1 "_law_numbers" 2 F__law_numbers := by
  obtain ⟨f, fd, h1, h2, h3⟩ := T.f__law_numbers
  exact ⟨f, fd, _, h1, h2.kp, h3, fn__law_numbers T h2⟩

abbrev s__law_same : Stmt := top 21
abbrev N__law_same : List Str := ["_law_found", "_law_due", "_law_k"]
theorem sc__law_same : FnScope N__law_same ["_law_found", "_law_due"] (defScope s__law_same) := ⟨rfl, rfl, rfl, by decide +kernel, rfl, by decide +kernel, by decide +kernel⟩
theorem r__law_same (T : Tx K mg) : ∀ k : Nat, DefOk P w K mg base (k + 1) "_law_same" 2 (G__law_same k)
  | 0 => by
    obtain ⟨f, fd, h1, h2, h3⟩ := T.f__law_same
    exact ⟨f, fd, ["_law_found", "_law_due"], h1, h2.kp, h3, fn_bad⟩
  | k + 1 => by
    obtain ⟨f, fd, h1, h2, h3⟩ := T.f__law_same
    have hself := r__law_same T k
    exact ⟨f, fd, ["_law_found", "_law_due"], h1, h2.kp, h3, def_fn (k := k + 1) h2 sc__law_same rfl rfl (fun cdv A outer s H G E hr cy pass =>
(rs_cons (rs_if (rt_isN (nv 1))
(rs_one (rs_ret (re_isN (nv 0))))
rs_nil)
(rs_cons (rs_if (rt_val (re_isi2 cy rfl T.b_isinstance rfl T.b_list (by decide +kernel) rfl T.b_tuple (by decide +kernel) (nv 1)))
(rs_cons (rs_if (PW.pt (rw_or (rt_cmp (cd_ne cy) (re_isi cy rfl T.b_isinstance rfl T.b_list (by decide +kernel) (nv 0)) (re_isi cy rfl T.b_isinstance rfl T.b_list (by decide +kernel) (nv 1)) (nomark _)) (rw_or1 (rt_cmp (cd_ne cy) (re_isi cy rfl T.b_isinstance rfl T.b_tuple (by decide +kernel) (nv 0)) (re_isi cy rfl T.b_isinstance rfl T.b_tuple (by decide +kernel) (nv 1)) (nomark _)))))
(rs_one (rs_ret re_bl))
rs_nil)
(rs_one (rs_ret (re_and (re_cd (cd_eq cy) (re_len cy rfl T.b_len (nv 0)) (re_len cy rfl T.b_len (nv 1)) (nomark _)) (re_one (re_all cy rfl T.b_all (re_lc cy (ri_range1 rfl T.b_range (re_len cy rfl T.b_len (nv 1))) (blkOk_by (N := N__law_same) (sc := defScope s__law_same) (own := [("_law_k", 2)]) (by decide +kernel)) (by decide) (fun _ _ _ _ _ cy1 => (rg1 cy1 2)) (fun _ _ _ _ _ cy1 => rts_nil) (fun _ _ _ _ _ cy1 => (re_call cy1 hself (hr.mono (by omega)) rfl (ra_cons (re_ix cy1 (nv 0) (nv 2)) (ra_cons (re_ix cy1 (nv 1) (nv 2)) ra_nil)))))))))))
rs_nil)
(rs_cons (rs_if (PW.pt (rw_or (rt_cmp (cd_ne cy) (re_isi cy rfl T.b_isinstance rfl T.b_bool (by decide +kernel) (nv 0)) (re_isi cy rfl T.b_isinstance rfl T.b_bool (by decide +kernel) (nv 1)) (nomark _)) (rw_or1 (rt_cmp (cd_ne cy) (re_isi cy rfl T.b_isinstance rfl T.b_str (by decide +kernel) (nv 0)) (re_isi cy rfl T.b_isinstance rfl T.b_str (by decide +kernel) (nv 1)) (nomark _)))))
(rs_one (rs_ret re_bl))
rs_nil)
(rs_one (rs_ret (re_and (re_cd (cd_eq cy) (re_isi cy rfl T.b_isinstance rfl T.b_int (by decide +kernel) (nv 0)) (re_isi cy rfl T.b_isinstance rfl T.b_int (by decide +kernel) (nv 1)) (nomark _)) (re_one (re_cd (cd_eq cy) (nv 0) (nv 1) (nomark _))))))))))⟩
theorem d__law_same (T : Tx K mg) : DefOk P w K mg base 13 "_law_same" 2 F__law_same := r__law_same T 12

abbrev s__law_ten : Stmt := top 22
abbrev N__law_ten : List Str := ["_law_number", "_law_found", "_law_k"]
theorem sc__law_ten : FnScope N__law_ten ["_law_number"] (defScope s__law_ten) := ⟨rfl, rfl, rfl, by decide +kernel, rfl, by decide +kernel, by decide +kernel⟩
theorem fn__law_ten {f : Addr} {fd : FuncData} (T : Tx K mg) (hF : Fun K "_law_ten" "_law_ten" s__law_ten f fd) : FnOk P w K mg base (L2.CX P w) 1 f fd ["_law_number"] (spF K mg 1 F__law_ten) :=
  def_fn (k := 0) hF sc__law_ten rfl rfl (fun cdv A outer s H G E hr cy pass =>
(rs_cons (rs_set (i := 1) cy rfl (Or.inl rfl) re_int)
(rs_cons (rs_for pass cy (ri_range1 rfl T.b_range (nv 0)) (rg1 cy 2)
(rs_one (rs_set (i := 1) cy rfl (Or.inl rfl) (re_mul (nv 1) re_int))))
(rs_one (rs_ret (nv 1))))))
theorem d__law_ten (T : Tx K mg) : DefOk P w K mg base 1 "_law_ten" 1 F__law_ten := by
  obtain ⟨f, fd, h1, h2, h3⟩ := T.f__law_ten
  exact ⟨f, fd, _, h1, h2.kp, h3, fn__law_ten T h2⟩

abbrev s_law : Stmt := top 23
abbrev N_law : List Str := ["_law_script", "_law_numbers_here", "_law_phase", "_law_rounds", "_law_twice", "_law_many", "_law_found", "_law_few", "_law_one", "_law_other"]
theorem sc_law : FnScope N_law ["_law_script"] (defScope s_law) := ⟨rfl, rfl, rfl, by decide +kernel, rfl, by decide +kernel, by decide +kernel⟩
theorem fn_law {f : Addr} {fd : FuncData} (T : Tx K mg) (hF : Fun K "law" "law" s_law f fd) : FnOk P w K mg base (L2.CX P w) 14 f fd ["_law_script"] (spF K mg 1 F_law) :=
  def_fn (k := 13) hF sc_law rfl rfl (fun cdv A outer s H G E hr cy pass =>
(rs_cons (rs_set (i := 1) cy rfl (Or.inl rfl) (re_call cy (d__law_numbers T) (hr.mono (by decide)) rfl (ra_cons (nv 0) (ra_cons re_int ra_nil))))
(rs_cons (rs_set (i := 2) cy rfl (Or.inl rfl) (re_mod (re_ix cy (nv 1) re_int) re_int))
(rs_cons (rs_set (i := 3) cy rfl (Or.inl rfl) (re_add cy (re_mul (re_ix cy (nv 1) re_int) (re_call cy (d__law_ten T) (hr.mono (by decide)) rfl (ra_cons (re_mod (re_ix cy (nv 1) re_int) re_int) ra_nil))) (re_mod (re_ix cy (nv 1) re_int) re_int)))
(rs_cons (rs_set (i := 3) cy rfl (Or.inl rfl) (re_add cy (nv 3) (re_mul (re_mod (re_div (re_ix cy (nv 1) re_int) re_int) re_int) (re_call cy (d__law_ten T) (hr.mono (by decide)) rfl (ra_cons re_int ra_nil)))))
(rs_frz 3 (rs_frz 2 (rs_cons (rs_if (rt_not (rt_val (re_call cy (d__law_same T) (hr.mono (by decide)) rfl (ra_cons (re_lst (ra_cons (re_call cy (d_after T) (hr.mono (by decide)) rfl (ra_cons (re_lst ra_nil) (ra_cons (nv 2) (ra_cons (nv 3) ra_nil)))) (ra_cons (re_call cy (d_table T) (hr.mono (by decide)) rfl (ra_cons re_int (ra_cons (nv 2) (ra_cons (nv 3) ra_nil)))) (ra_cons (re_call cy (d_dancing T) (hr.mono (by decide)) rfl (ra_cons re_int (ra_cons (nv 2) ra_nil))) ra_nil)))) (ra_cons (re_lst (ra_cons (re_lst ra_nil) (ra_cons (re_lst ra_nil) (ra_cons (re_lst ra_nil) ra_nil)))) ra_nil)))))
(rs_one (rs_ret re_bl))
rs_nil)
(rs_frz 3 (rs_frz 2 (rs_cons (rs_if (rt_not (rt_val (re_call cy (d__law_same T) (hr.mono (by decide)) rfl (ra_cons (re_lst (ra_cons (re_call cy (d_after T) (hr.mono (by decide)) rfl (ra_cons (re_lst (ra_cons re_int ra_nil)) (ra_cons (nv 2) (ra_cons (nv 3) ra_nil)))) (ra_cons (re_call cy (d_table T) (hr.mono (by decide)) rfl (ra_cons re_int (ra_cons (nv 2) (ra_cons (nv 3) ra_nil)))) (ra_cons (re_call cy (d_standing_out T) (hr.mono (by decide)) rfl (ra_cons re_int (ra_cons (nv 2) ra_nil))) ra_nil)))) (ra_cons (re_lst (ra_cons (re_lst (ra_cons re_int ra_nil)) (ra_cons (re_lst (ra_cons (re_lst (ra_cons re_int ra_nil)) ra_nil)) (ra_cons (re_lst (ra_cons re_int ra_nil)) ra_nil)))) ra_nil)))))
(rs_one (rs_ret re_bl))
rs_nil)
(rs_frz 3 (rs_frz 2 (rs_cons (rs_if (rt_not (rt_val (re_call cy (d__law_same T) (hr.mono (by decide)) rfl (ra_cons (re_call cy (d_course T) (hr.mono (by decide)) rfl (ra_cons re_int (ra_cons (nv 2) (ra_cons re_int (ra_cons (nv 3) ra_nil))))) (ra_cons (re_tup (ra_cons re_int (ra_cons (re_ix cy (re_lst (ra_cons re_s (ra_cons re_s ra_nil))) (re_mod (re_add cy (nv 2) (nv 3)) re_int)) ra_nil))) ra_nil)))))
(rs_one (rs_ret re_bl))
rs_nil)
(rs_cons (rs_set (i := 4) cy rfl (Or.inl rfl) (re_div (re_sub (re_add cy (nv 3) re_int) (nv 2)) re_int))
(rs_frz 4 (rs_frz 3 (rs_frz 2 (rs_cons (rs_if (rt_not (rt_val (re_call cy (d__law_same T) (hr.mono (by decide)) rfl (ra_cons (re_call cy (d_table T) (hr.mono (by decide)) rfl (ra_cons re_int (ra_cons (nv 2) (ra_cons (nv 3) ra_nil)))) (ra_cons (re_lst (ra_cons (re_lst (ra_cons re_int (ra_cons (nv 4) ra_nil))) (ra_cons (re_lst (ra_cons (nv 4) (ra_cons re_int ra_nil))) ra_nil))) ra_nil)))))
(rs_one (rs_ret re_bl))
rs_nil)
(rs_cons (rs_set (i := 5) cy rfl (Or.inl rfl) (re_add cy re_int (re_mod (re_ix cy (nv 1) re_int) re_int)))
(rs_frz 3 (rs_frz 2 (rs_frz 5 (rs_cons (rs_set (i := 6) cy rfl (Or.inl rfl) (re_call cy (d_table T) (hr.mono (by decide)) rfl (ra_cons (nv 5) (ra_cons (nv 2) (ra_cons (nv 3) ra_nil)))))
(rs_cons (rs_set (i := 7) cy rfl (Or.inl rfl) (re_div (nv 3) (nv 5)))
(rs_cons (rs_for pass cy (ri_range1 rfl T.b_range (nv 5)) (rg1 cy 8)
(rs_one (rs_for pass cy (ri_range1 rfl T.b_range (nv 5)) (rg1 cy 9)
(rs_cons (rs_if (PW.pt (rw_or (rt_cmp (cd_ne cy) (re_ix cy (re_ix cy (nv 6) (nv 8)) (nv 9)) (re_ix cy (re_ix cy (nv 6) (nv 9)) (nv 8)) (nomark _)) (rw_or1 (PW.pt (rw_and (rt_cmp (cd_eq cy) (nv 8) (nv 9) (nomark _)) (rw_and1 (rt_cmp (cd_ne cy) (re_ix cy (re_ix cy (nv 6) (nv 8)) (nv 8)) re_int (nomark _))))))))
(rs_one (rs_ret re_bl))
rs_nil)
(rs_one (rs_if (PW.pt (rw_and (rt_cmp (cd_ne cy) (nv 8) (nv 9) (nomark _)) (rw_and1 (rt_not (rt_chain cd_le cd_le (nv 7) (re_ix cy (re_ix cy (nv 6) (nv 8)) (nv 9)) (re_add cy (nv 7) re_int))))))
(rs_one (rs_ret re_bl))
rs_nil))))))
(rs_one (rs_ret re_bl))))))))))))))))))))))))))))
end
end C
end

section
set_option maxRecDepth 100000
set_option maxHeartbeats 1000000
namespace C
open PySem PySem.Spec L2 Ly
open PyProof.Rows hiding St
def Small (row : List Int) : Prop := ∀ x ∈ row, 0 ≤ x ∧ x < 9967
theorem Small.snoc {row : List Int} {x : Int} (h : Small row) (h0 : 0 ≤ x) (h1 : x < 9967) : Small (row ++ [x]) := fun y hy => by
  rcases List.mem_append.mp hy with hy | hy
  · exact h y hy
  · cases List.mem_singleton.mp hy; exact ⟨h0, h1⟩
def NumI (z : D) (many : Int) (k : Nat) (Γ : Env') : Prop := ∃ (row : List Int) (seed : Int) (o4 o5 o6 : Option Rv), Γ = [some (.sh z), some (.sh (.i many)), some (.fr (.l (row.map .i))), some (.sh (.i seed)), o4, o5, o6] ∧ 0 ≤ seed ∧ seed < 2147483629 ∧ row.length ≤ k ∧ Small row
def NumJ (z : D) (many : Int) (k : Nat) (Γ : Env') : Prop := ∃ (row : List Int) (seed rest : Int) (o4 o6 : Option Rv), Γ = [some (.sh z), some (.sh (.i many)), some (.fr (.l (row.map .i))), some (.sh (.i seed)), o4, some (.sh (.i rest)), o6] ∧ 0 ≤ seed ∧ seed < 2147483629 ∧ row.length ≤ k ∧ Small row
theorem num_in (z : D) (many : Int) (k : Nat) (hk : k ≤ 100000) (Γ : Env') (h : NumJ z many k Γ) : ∃ Γ', L1__law_numbers Γ = .nx Γ' ∧ NumJ z many (k + 1) Γ' := by
  obtain ⟨row, seed, rest, o4, o6, rfl, h1, h2, h3, h4⟩ := h
  unfold L1__law_numbers
  by_cases hr : 0 < rest
  · have hl : row.length < 16777216 := by omega
    refine ⟨_, by simp [hr, kMod_i, kDiv_i, hl]; rfl, row ++ [rest % 1013], seed, rest / 1013, o4, o6, by simp, h1, h2, by simp; omega, h4.snoc (by omega) (by omega)⟩
  · exact ⟨_, by simp [hr], row, seed, rest, o4, o6, rfl, h1, h2, by omega, h4⟩
theorem num_turn (z : D) (many : Int) (k : Nat) (hk : k ≤ 90000) (c : Int) (Γ : Env') (h : NumI z many k Γ) : ∃ Γ', L2__law_numbers (Γ.set 4 (some (.sh (.i c)))) = .nx Γ' ∧ NumI z many (k + 61) Γ' := by
  obtain ⟨row, seed, o4, o5, o6, rfl, h1, h2, h3, h4⟩ := h
  have hl : row.length < 16777216 := by omega
  have hs : -(2 ^ 64) < seed ∧ seed < 2 ^ 64 := by omega
  have key : ∀ (row' : List Int) (seed' : Int), 0 ≤ seed' → seed' < 2147483629 → row'.length ≤ k + 1 → Small row' → ∃ Γ', forL (.one 6) L1__law_numbers (rgD 0 60) [some (.sh z), some (.sh (.i many)), some (.fr (.l (row'.map .i))), some (.sh (.i seed')), some (.sh (.i c)), some (.sh (.i (c - 10 ^ 18))), o6] = .nx Γ' ∧ NumI z many (k + 61) Γ' := by
    intro row' seed' a1 a2 a3 a4
    obtain ⟨Γ', e, row2, seed2, rest2, p4, p6, rfl, b1, b2, b3, b4⟩ := forL_num (t := .one 6) (u := L1__law_numbers) (ds := rgD 0 60) (I := fun i Γ => NumJ z many (k + 1 + i) Γ) (Γ := [some (.sh z), some (.sh (.i many)), some (.fr (.l (row'.map .i))), some (.sh (.i seed')), some (.sh (.i c)), some (.sh (.i (c - 10 ^ 18))), o6])
      ⟨row', seed', _, _, _, rfl, a1, a2, a3, a4⟩ (fun i d hd Γ hΓ => by
        obtain ⟨rfl, hi⟩ := rgD_get hd
        obtain ⟨row, seed, rest, p4, p6, rfl, q1, q2, q3, q4⟩ := hΓ
        refine ⟨_, rfl, ?_⟩
        obtain ⟨Γ', e, h⟩ := num_in z many (k + 1 + i) (by omega) _ ⟨row, seed, rest, p4, some (.sh (.i (0 + (i : Nat)))), rfl, q1, q2, q3, q4⟩
        exact ⟨Γ', .inl e, h⟩)
    exact ⟨_, e, row2, seed2, p4, _, p6, rfl, b1, b2, by simpa [rgD] using b3, b4⟩
  unfold L2__law_numbers
  have hp : kPow (.sh (.i 10)) (.sh (.i 18)) = .ok (.sh (.i (10 ^ 18))) := kPow_i (by decide)
  have hr : itR 0 60 = .ok (rgD 0 60) := itR_ok (by decide)
  have hn : 0 ≤ (seed * 40692 + c % 999961 + 31) % 2147483399 ∧ (seed * 40692 + c % 999961 + 31) % 2147483399 < 2147483629 := by omega
  by_cases hc : c - 10 ^ 18 < 0
  · obtain ⟨Γ', e, h⟩ := key (row ++ [c % 9967]) ((seed * 40692 + c % 999961 + 31) % 2147483399) hn.1 hn.2 (by simp; omega) (h4.snoc (by omega) (by omega))
    refine ⟨Γ', ?_, h⟩
    have hc' : c - 1000000000000000000 < 0 := hc
    simp [kMul_l hs, kMod_i, hp, hr, hc', hl]
    simpa using e
  · obtain ⟨Γ', e, h⟩ := key row ((seed * 40692 + c % 999961 + 31) % 2147483399) hn.1 hn.2 (by omega) h4
    refine ⟨Γ', ?_, h⟩
    have hc' : ¬ c - 1000000000000000000 < 0 := hc
    simp [kMul_l hs, kMod_i, hp, hr, hc', hl]
    simpa using e
theorem numbers_law (ns : List Int) (hl : ns.length ≤ 63) (many : Nat) (hm : many ≤ 990) : ∃ row : List Int, F__law_numbers [.z (ns.map .i), .i many] = .ok (.fr (.l (row.map .i))) ∧ row.length = many ∧ Small row := by
  unfold F__law_numbers runF b__law_numbers
  obtain ⟨Γ', e, h⟩ := forL_num (t := .one 4) (u := L2__law_numbers) (ds := (cut ns none (some 63)).map D.i) (I := fun i Γ => NumI (.z (ns.map .i)) many (61 * i) Γ) (Γ := [some (.sh (.z (ns.map .i))), some (.sh (.i many)), some (.fr (.l [])), some (.sh (.i 71)), none, none, none])
      ⟨[], 71, none, none, none, rfl, by decide, by decide, by simp, by intro x hx; cases hx⟩ (fun i d hd Γ hΓ => by
        rw [List.getElem?_map] at hd
        cases hc : (cut ns none (some 63))[i]? with
        | none => rw [hc] at hd; cases hd
        | some c =>
          rw [hc] at hd; cases hd
          have hi : i < ns.length := Nat.lt_of_lt_of_le (List.getElem?_eq_some_iff.mp hc).1 (cut_length_le ..)
          obtain ⟨Γ', e, h⟩ := num_turn (.z (ns.map .i)) many (61 * i) (by omega) c Γ hΓ
          exact ⟨_, rfl, Γ', .inl e, by simpa [Nat.mul_add] using h⟩)
  obtain ⟨row, seed, o4, o5, o6, rfl, h1, h2, h3, h4⟩ := h
  have hl2 : row.length ≤ 3843 := by
    have := cut_length_le ns none (some 63)
    simp at h3
    omega
  obtain ⟨Γ2, e2, row2, seed2, p4, p5, p6, rfl, b1, b2, b3, b4, b5⟩ := whL_inv (ft := T3__law_numbers) (u := L3__law_numbers) (I := fun m Γ => ∃ (row : List Int) (seed : Int) (o4 o5 o6 : Option Rv), Γ = [some (.sh (.z (ns.map .i))), some (.sh (.i many)), some (.fr (.l (row.map .i))), some (.sh (.i seed)), o4, o5, o6] ∧ 0 ≤ seed ∧ seed < 2147483629 ∧ row.length ≤ 3843 ∧ Small row ∧ m = many - row.length)
    1000 (many - row.length) (by omega) ⟨row, seed, o4, o5, o6, rfl, h1, h2, hl2, h4, rfl⟩ (by
      rintro m Γ ⟨row, seed, o4, o5, o6, rfl, q1, q2, q3, q4, q5⟩
      by_cases hlt : row.length < many
      · right
        refine ⟨many - row.length - 1, by omega, by unfold T3__law_numbers; simp [hlt], ?_⟩
        have hl : row.length < 16777216 := by omega
        have hs : -(2 ^ 64) < seed ∧ seed < 2 ^ 64 := by omega
        refine ⟨_, .inl (by unfold L3__law_numbers; simp [kMul_l hs, kMul_l, kMod_i, kDiv_i, hl]; rfl), row ++ [(seed * seed + 48271 * seed + 17 * row.length + 5) % 2147483629 / 1019 % 9967], (seed * seed + 48271 * seed + 17 * row.length + 5) % 2147483629, o4, o5, o6, by simp, ?_, ?_, by simp; omega, q4.snoc ?_ ?_, by simp; omega⟩
        · exact Int.emod_nonneg _ (by decide)
        · exact Int.emod_lt_of_pos _ (by decide)
        · exact Int.emod_nonneg _ (by decide)
        · exact Int.emod_lt_of_pos _ (by decide)
      · left
        exact ⟨by omega, by unfold T3__law_numbers; simp [hlt]⟩)
  refine ⟨row2.take many, ?_, by rw [List.length_take]; omega, fun x hx => b4 x (List.mem_of_mem_take hx)⟩
  have hcut : cut (row2.map D.i) none (some (many : Int)) = (row2.take many).map D.i := by
    rw [cut_map, cut_to (by omega)]
  have hcz : cut (ns.map D.i) none (some 63) = (cut ns none (some 63)).map D.i := cut_map ..
  simp [hcz, e, e2, hcut]
end C
end

section
set_option maxRecDepth 100000
set_option maxHeartbeats 1000000
namespace C
open PySem PySem.Spec L2 Ly
open PyProof.Rows hiding St
theorem same_seq {k : Nat} {d : D} {ds : List D} (hty : (∃ t, d = .l t) ∨ ∃ t, d = .t t) (hk : ∀ k : Int, kIx (.sh d) (.sh (.i k)) = ixR ds k) (hlen : kLen (.sh d) = .ok (.sh (.i ds.length))) (hl : ds.length ≤ 16777216) (hs : ∀ x ∈ ds, G__law_same k [x, x] = .ok (.sh (.b true))) : G__law_same (k + 1) [d, d] = .ok (.sh (.b true)) := by
  have h1 : kIs false (.sh d) (.sh .n) = .ok (.sh (.b false)) := by rcases hty with ⟨t, rfl⟩ | ⟨t, rfl⟩ <;> rfl
  have h2 : kIsi2 "list" "tuple" (.sh d) = .ok (.sh (.b true)) := by rcases hty with ⟨t, rfl⟩ | ⟨t, rfl⟩ <;> rfl
  have h3 : ∃ a, kIsi "list" (.sh d) = .ok (.sh (.b a)) := by rcases hty with ⟨t, rfl⟩ | ⟨t, rfl⟩ <;> exact ⟨_, rfl⟩
  have h4 : ∃ a, kIsi "tuple" (.sh d) = .ok (.sh (.b a)) := by rcases hty with ⟨t, rfl⟩ | ⟨t, rfl⟩ <;> exact ⟨_, rfl⟩
  have h5 : ∀ a : Bool, kNe (.sh (.b a)) (.sh (.b a)) = .ok (.sh (.b false)) := by intro a; cases a <;> rfl
  obtain ⟨a, h3⟩ := h3
  obtain ⟨b, h4⟩ := h4
  have hr : itR 0 (ds.length : Int) = .ok (rgD 0 ds.length) := itR_ok (by unfold rgb; exact decide_eq_true ⟨by decide, by decide, by omega, by omega⟩)
  have hL : ∀ e, lcL (.one 2) tYesF (eCall 2 (G__law_same k) (aCons (e2 kIx (eV 0) (eV 2)) (aCons (e2 kIx (eV 1) (eV 2)) aNil))) [some (.sh d), some (.sh d), e] (rgD 0 ds.length) = .ok (List.replicate ds.length (.b true)) := by
    intro e
    have := lcL_same (t := .one 2) (fe := eCall 2 (G__law_same k) (aCons (e2 kIx (eV 0) (eV 2)) (aCons (e2 kIx (eV 1) (eV 2)) aNil))) (y := .b true) (Γ0 := [some (.sh d), some (.sh d), e]) (ds := rgD 0 ds.length) fun x hx => by
      obtain ⟨i, hi⟩ := List.getElem?_of_mem hx
      obtain ⟨rfl, hi⟩ := rgD_get hi
      have hlt : i < ds.length := by omega
      have e1 : kIx (.sh d) (.sh (.i (0 + (i : Int)))) = .ok (.sh ds[i]) := by rw [hk]; exact ixR_is (n := i) (by omega) (by simp [hlt])
      refine ⟨_, rfl, .sh (.b true), ?_, rfl⟩
      simp only [List.set_cons_zero, List.set_cons_succ, eCall_at, aCons_at, e2_at, eV_0, eV_s, aNil_at]
      simp [hs _ (List.getElem_mem hlt)] at e1 ⊢
      simp [e1, hs _ (List.getElem_mem hlt)]
    rw [this]
    simp [rgD]
  rw [G__law_same, runF, b__law_same]
  simp -implicitDefEqProofs [h1, h2, h3, h4, h5, hlen, hr, hL, lcRes_rep hl, kAll_rep]
theorem same_refl : ∀ (n : Nat) (d : D), dsame n d = true → G__law_same (n + 1) [d, d] = .ok (.sh (.b true))
  | _, .n, _ => rfl
  | _, .b x, _ => by cases x <;> rfl
  | _, .i x, _ => by
    have h1 : kIs false (.sh (.i x)) (.sh .n) = .ok (.sh (.b false)) := rfl
    have h2 : kIsi2 "list" "tuple" (.sh (.i x)) = .ok (.sh (.b false)) := rfl
    have h3 : kIsi "bool" (.sh (.i x)) = .ok (.sh (.b false)) := rfl
    have h4 : kIsi "str" (.sh (.i x)) = .ok (.sh (.b false)) := rfl
    have h6 : kIsi "int" (.sh (.i x)) = .ok (.sh (.b true)) := rfl
    have h5 : ∀ a : Bool, kNe (.sh (.b a)) (.sh (.b a)) = .ok (.sh (.b false)) := by intro a; cases a <;> rfl
    have h7 : ∀ a : Bool, kEq (.sh (.b a)) (.sh (.b a)) = .ok (.sh (.b true)) := by intro a; cases a <;> rfl
    rw [G__law_same, runF, b__law_same]
    simp [h1, h2, h3, h4, h5, h6, h7]
  | _, .s x, h => by
    have hx : PyData.strOk x = true := by simpa [dsame] using h
    have h1 : kIs false (.sh (.s x)) (.sh .n) = .ok (.sh (.b false)) := rfl
    have h2 : kIsi2 "list" "tuple" (.sh (.s x)) = .ok (.sh (.b false)) := rfl
    have h3 : kIsi "bool" (.sh (.s x)) = .ok (.sh (.b false)) := rfl
    have h4 : kIsi "str" (.sh (.s x)) = .ok (.sh (.b true)) := rfl
    have h6 : kIsi "int" (.sh (.s x)) = .ok (.sh (.b false)) := rfl
    have h5 : ∀ a : Bool, kNe (.sh (.b a)) (.sh (.b a)) = .ok (.sh (.b false)) := by intro a; cases a <;> rfl
    have h7 : ∀ a : Bool, kEq (.sh (.b a)) (.sh (.b a)) = .ok (.sh (.b true)) := by intro a; cases a <;> rfl
    have h8 : kEq (.sh (.s x)) (.sh (.s x)) = .ok (.sh (.b true)) := by
      unfold kEq
      have : dok 12 (.s x) = true := by simpa [dok] using hx
      rw [if_pos ⟨this, this⟩]
      show okb (x == x) = _
      simp [okb]
    rw [G__law_same, runF, b__law_same]
    simp [h1, h2, h3, h4, h5, h6, h7, h8]
  | n + 1, .l xs, h => by
    simp [dsame] at h
    exact same_seq (.inl ⟨_, rfl⟩) (fun _ => rfl) rfl h.2 fun x hx => same_refl n x (h.1 x hx)
  | n + 1, .t xs, h => by
    simp [dsame] at h
    exact same_seq (ds := xs) (.inr ⟨_, rfl⟩) (fun _ => rfl) rfl h.2 fun x hx => same_refl n x (h.1 x hx)
  | 0, .l _, h | 0, .t _, h | _, .z _, h | _, .zt _, h | _, .dk _ _, h | _, .dt _ _, h => by simp [dsame] at h
theorem same_law {d : D} (h : dsame 11 d = true) : F__law_same [d, d] = .ok (.sh (.b true)) := same_refl 11 d h
end C
end

section
set_option maxRecDepth 100000
set_option maxHeartbeats 1000000
namespace C
open PySem PySem.Spec L2 Ly
open PyProof.Rows hiding St
def rp (m p s : Int) : Int := if s % 2 = p then s else 2 * m - 1 - s
theorem col_law {m p : Int} (h0 : 0 ≤ m) (h1 : m ≤ 60) (hp : p = 0 ∨ p = 1) : F_look_column [.i m, .i p] = .ok (.sh .n) := by
  unfold F_look_column runF b_look_column
  have a1 : ¬ m < 0 := by omega
  have a2 : ¬ 60 < m := by omega
  rcases hp with rfl | rfl <;> simp [a1, a2]
theorem spot_law {m s : Int} (h0 : 0 ≤ s) (h1 : s < m) : F_look_spot [.i m, .i s] = .ok (.sh .n) := by
  unfold F_look_spot runF b_look_spot
  have a1 : ¬ s < 0 := by omega
  have a2 : ¬ m ≤ s := by omega
  simp [a1, a2]
theorem rounds_law {s : Int} (h0 : 0 ≤ s) : F_look_rounds [.i s] = .ok (.sh .n) := by
  unfold F_look_rounds runF b_look_rounds
  have a1 : ¬ s < 0 := by omega
  simp [a1]
theorem ring_law {m p s : Int} (h1 : m ≤ 60) (hp : p = 0 ∨ p = 1) (hs0 : 0 ≤ s) (hs : s < m) : F_ring_place [.i m, .i p, .i s] = .ok (.sh (.i (rp m p s))) := by
  unfold F_ring_place runF b_ring_place rp
  by_cases e : s % 2 = p
  · simp [col_law (by omega : 0 ≤ m) h1 hp, spot_law hs0 hs, kMod_i, kMul_l, e]
  · simp [col_law (by omega : 0 ≤ m) h1 hp, spot_law hs0 hs, kMod_i, kMul_l, e]
theorem spotof_law {m t : Int} : F_spot_of [.i m, .i t] = .ok (.sh (.i (if 2 * m - 1 - t < t then 2 * m - 1 - t else t))) := by
  unfold F_spot_of runF b_spot_of
  simp [kMul_l]
def hereOf (m t : Int) : Int := if 2 * m - 1 - t < t then 2 * m - 1 - t else t
theorem course_law {m p s r t : Int} (h1 : m ≤ 60) (hp : p = 0 ∨ p = 1) (hs0 : 0 ≤ s) (hs : s < m) (hr : 0 ≤ r) (et : (rp m p s + r) % (2 * m) = t) : F_course [.i m, .i p, .i s, .i r] = .ok (.sh (.t [.i (hereOf m t), .s (if t < m then "down" else "up")])) := by
  unfold F_course runF b_course
  have hm : (0 : Int) < 2 * m := by omega
  by_cases e : t < m
  · simp [ring_law h1 hp hs0 hs, rounds_law hr, kMod_i hm, kMul_l, et, spotof_law, hereOf, e]
  · simp [ring_law h1 hp hs0 hs, rounds_law hr, kMod_i hm, kMul_l, et, spotof_law, hereOf, e]
theorem ring_step {a n : Int} (hn : 0 < n) : (a + 1) % n = if a % n + 1 = n then 0 else a % n + 1 := by
  have h1 := Int.emod_nonneg a (by omega : n ≠ 0)
  have h2 := Int.emod_lt_of_pos a hn
  have h3 := Int.emod_add_mul_ediv a n
  split
  · rename_i h
    have : a + 1 = n * (a / n + 1) := by rw [Int.mul_add]; omega
    rw [this, Int.mul_emod_right]
  · rename_i h
    have : a + 1 = (a % n + 1) + n * (a / n) := by omega
    rw [this, Int.add_mul_emod_self_left, Int.emod_eq_of_lt (by omega) (by omega)]
theorem ring_par {a m : Int} : a % (2 * m) % 2 = a % 2 := Int.emod_emod_of_dvd a ⟨m, rfl⟩
theorem rp_par {m p s : Int} (hp : p = 0 ∨ p = 1) : rp m p s % 2 = p := by unfold rp; split <;> omega
theorem rp_bd {m p s : Int} (hs0 : 0 ≤ s) (hs : s < m) : 0 ≤ rp m p s ∧ rp m p s < 2 * m := by unfold rp; split <;> omega
theorem here_rp {m p s : Int} (hp : p = 0 ∨ p = 1) (hs0 : 0 ≤ s) (hs : s < m) : hereOf m (rp m p s) = s := by unfold hereOf rp; (repeat' split) <;> omega
theorem rp_here {m q t : Int} (h0 : 0 ≤ t) (h1 : t < 2 * m) (hq : t % 2 = q) : rp m q (hereOf m t) = t := by unfold hereOf rp; (repeat' split) <;> omega

def pos (m p r s : Int) : Int := hereOf m ((rp m p s + r) % (2 * m))
section
variable {m p r s : Int}
theorem here_bd {t : Int} (h0 : 0 ≤ t) (h1 : t < 2 * m) : 0 ≤ hereOf m t ∧ hereOf m t < m := by unfold hereOf; split <;> omega
theorem emod_bd {a : Int} (hm : 0 < m) : 0 ≤ a % (2 * m) ∧ a % (2 * m) < 2 * m := ⟨Int.emod_nonneg a (by omega), Int.emod_lt_of_pos a (by omega)⟩
theorem pos_bd (hm : 0 < m) : 0 ≤ pos m p r s ∧ pos m p r s < m := here_bd (emod_bd hm).1 (emod_bd hm).2
theorem rp_pos (hp : p = 0 ∨ p = 1) (hm : 0 < m) : rp m ((p + r) % 2) (pos m p r s) = (rp m p s + r) % (2 * m) := by
  have h := emod_bd (a := rp m p s + r) hm
  have h2 := ring_par (a := rp m p s + r) (m := m)
  have h3 := rp_par (m := m) (s := s) hp
  exact rp_here h.1 h.2 (by omega)
theorem pos_zero (hp : p = 0 ∨ p = 1) (h0 : 0 ≤ s) (h1 : s < m) : pos m p 0 s = s := by
  have hb := rp_bd (p := p) h0 h1
  unfold pos
  rw [Int.add_zero, Int.emod_eq_of_lt hb.1 hb.2, here_rp hp h0 h1]
theorem pos_add {q : Int} (hp : p = 0 ∨ p = 1) (hm : 0 < m) : pos m ((p + r) % 2) q (pos m p r s) = pos m p (r + q) s := by
  show hereOf m ((rp m ((p + r) % 2) (pos m p r s) + q) % (2 * m)) = _
  rw [rp_pos hp hm, Int.emod_add_emod, Int.add_assoc]
  rfl
theorem pos_mod (hm : 0 < m) : pos m p (r % (2 * m)) s = pos m p r s := by
  unfold pos
  rw [Int.add_emod_emod]
theorem pos_inj {s' : Int} (hp : p = 0 ∨ p = 1) (h0 : 0 ≤ s) (h1 : s < m) (h0' : 0 ≤ s') (h1' : s' < m) (e : pos m p r s = pos m p r s') : s = s' := by
  have hm : 0 < m := by omega
  have e1 := rp_pos (r := r) (s := s) hp hm
  rw [e, rp_pos hp hm] at e1
  have b1 := rp_bd (p := p) h0 h1
  have b2 := rp_bd (p := p) h0' h1'
  have e2 : ((rp m p s' + r) % (2 * m) - r) % (2 * m) = ((rp m p s + r) % (2 * m) - r) % (2 * m) := by rw [e1]
  rw [Int.emod_sub_emod, Int.emod_sub_emod, Int.add_sub_cancel, Int.add_sub_cancel, Int.emod_eq_of_lt b1.1 b1.2, Int.emod_eq_of_lt b2.1 b2.2] at e2
  rw [← here_rp hp h0 h1, ← here_rp hp h0' h1', e2]
theorem pos_onto {g : Int} (hp : p = 0 ∨ p = 1) (h0 : 0 ≤ g) (h1 : g < m) : ∃ s, 0 ≤ s ∧ s < m ∧ pos m p r s = g := by
  have hm : 0 < m := by omega
  have hb := rp_bd (p := (p + r) % 2) h0 h1
  have hq : (p + r) % 2 = 0 ∨ (p + r) % 2 = 1 := by omega
  have hpar := rp_par (m := m) (s := g) hq
  have ht := emod_bd (a := rp m ((p + r) % 2) g - r) hm
  have ht2 := ring_par (a := rp m ((p + r) % 2) g - r) (m := m)
  have hh := here_bd ht.1 ht.2
  refine ⟨hereOf m ((rp m ((p + r) % 2) g - r) % (2 * m)), hh.1, hh.2, ?_⟩
  unfold pos
  rw [rp_here ht.1 ht.2 (by omega), Int.emod_add_emod, Int.sub_add_cancel, Int.emod_eq_of_lt hb.1 hb.2, here_rp hq h0 h1]
theorem pos_one (hp : p = 0 ∨ p = 1) (h0 : 0 ≤ s) (h1 : s < m) : pos m p 1 s = if s % 2 = p then (if s + 1 < m then s + 1 else s) else (if 0 < s then s - 1 else s) := by
  have hb := rp_bd (p := p) h0 h1
  have hst := ring_step (a := rp m p s) (n := 2 * m) (by omega)
  rw [Int.emod_eq_of_lt hb.1 hb.2] at hst
  unfold pos
  rw [hst]
  unfold rp hereOf
  (repeat' split) <;> omega
end
def IsAft (p r : Int) (col L : List D) : Prop := L.length = col.length ∧ ∀ s : Nat, s < col.length → L[(pos col.length p r s).toNat]? = col[s]?
theorem aft_zero {p : Int} {col : List D} (hp : p = 0 ∨ p = 1) : IsAft p 0 col col := ⟨rfl, fun s hs => by
  rw [pos_zero hp (by omega) (by omega)]; rfl⟩
theorem aft_add {p r q : Int} {col L M : List D} (hp : p = 0 ∨ p = 1) (h : IsAft p r col L) (h2 : IsAft ((p + r) % 2) q L M) : IsAft p (r + q) col M := by
  refine ⟨h2.1.trans h.1, fun s hs => ?_⟩
  have hm : (0 : Int) < col.length := by omega
  have hb := pos_bd (p := p) (r := r) (s := s) hm
  have e := h2.2 (pos col.length p r s).toNat (by rw [h.1]; omega)
  rw [h.1, Int.toNat_of_nonneg hb.1, pos_add hp hm, h.2 s hs] at e
  exact e
theorem aft_mod {p r : Int} {col L : List D} (h : IsAft p r col L) : IsAft p (r % (2 * col.length)) col L := by
  refine ⟨h.1, fun s hs => ?_⟩
  rw [pos_mod (by omega)]
  exact h.2 s hs
theorem aft_of_mod {p r : Int} {col L : List D} (h : IsAft p (r % (2 * col.length)) col L) : IsAft p r col L := by
  refine ⟨h.1, fun s hs => ?_⟩
  have := h.2 s hs
  rwa [pos_mod (by omega)] at this
theorem aft_uniq {p r : Int} {col L M : List D} (hp : p = 0 ∨ p = 1) (h : IsAft p r col L) (h2 : IsAft p r col M) : L = M := by
  apply List.ext_getElem?
  intro i
  by_cases hi : i < col.length
  · obtain ⟨s, s0, s1, e⟩ := pos_onto (m := col.length) (r := r) (g := i) hp (by omega) (by omega)
    have e1 := h.2 s.toNat (by omega)
    have e2 := h2.2 s.toNat (by omega)
    rw [Int.toNat_of_nonneg s0, e] at e1 e2
    simp only [Int.toNat_natCast] at e1 e2
    rw [e1, e2]
  · rw [List.getElem?_eq_none (by rw [h.1]; omega), List.getElem?_eq_none (by rw [h2.1]; omega)]
theorem ixN_nat {n : Nat} {k : Int} {j : Nat} (e : k = (j : Int)) (h : j < n) : ixN n k = some j := by
  unfold ixN
  subst e
  rw [if_pos (by omega), if_pos (by omega)]
  simp
theorem after_law {p r : Int} {col : List D} (h60 : col.length ≤ 60) (hp : p = 0 ∨ p = 1) (hr : 0 ≤ r) : ∃ L, F_after [.l col, .i p, .i r] = .ok (.fr (.l L)) ∧ IsAft p r col L := by
  obtain ⟨Γ', e, L, o5, o6, o7, rfl, hl, hL⟩ := forL_num (t := .one 5) (u := L1_after) (ds := rgD 0 col.length) (I := fun k Γ => ∃ (L : List D) (o5 o6 o7 : Option Rv), Γ = [some (.sh (.l col)), some (.sh (.i p)), some (.sh (.i r)), some (.sh (.i col.length)), some (.fr (.l L)), o5, o6, o7] ∧ L.length = col.length ∧ ∀ s : Nat, s < k → s < col.length → L[(pos col.length p r s).toNat]? = col[s]?)
    (Γ := [some (.sh (.l col)), some (.sh (.i p)), some (.sh (.i r)), some (.sh (.i col.length)), some (.fr (.l col)), none, none, none]) ⟨col, none, none, none, rfl, rfl, fun s h => by omega⟩ (fun i d hd Γ hΓ => by
      obtain ⟨rfl, hi⟩ := rgD_get hd
      obtain ⟨L, o5, o6, o7, rfl, hl, hL⟩ := hΓ
      refine ⟨_, rfl, ?_⟩
      have hi' : i < col.length := by omega
      have hm : (0 : Int) < col.length := by omega
      have hc := course_law (m := col.length) (p := p) (s := 0 + (i : Int)) (r := r) (by omega) hp (by omega) hi hr rfl
      have hb := pos_bd (p := p) (r := r) (s := 0 + (i : Int)) hm
      have e1 : ixR col (0 + (i : Int)) = .ok (.sh col[i]) := ixR_is (n := i) (by omega) (by simp [hi'])
      have e2 : ixN L.length (pos col.length p r (0 + (i : Int))) = some (pos col.length p r (0 + (i : Int))).toNat := ixN_nat (by omega) (by omega)
      change F_course _ = .ok (.sh (.t [.i (pos col.length p r (0 + (i : Int))), _])) at hc
      refine ⟨_, .inl (by
        unfold L1_after
        simp -implicitDefEqProofs [eCallK, gp, gSubL] at hc e1 e2 ⊢
        simp -implicitDefEqProofs [hc, e1, e2]
        exact ⟨rfl, rfl, rfl⟩), L.set (pos col.length p r (i : Int)).toNat col[i], _, _, _, rfl, by simpa using hl, fun s h1 h2 => ?_⟩
      rw [Int.zero_add] at hb e2
      by_cases hsi : s = i
      · subst hsi
        rw [List.getElem?_set_self (by omega)]
        simp [hi']
      · rw [List.getElem?_set_ne, hL s (by omega) h2]
        intro e
        have hb2 := pos_bd (p := p) (r := r) (s := s) hm
        have := pos_inj (m := col.length) (r := r) (s := i) (s' := s) hp (by omega) (by omega) (by omega) (by omega) (by omega)
        omega)
  refine ⟨L, ?_, hl, fun s hs => hL s (by simpa [rgD] using hs) hs⟩
  have hitr : itR 0 (col.length : Int) = .ok (rgD 0 col.length) := itR_ok (by unfold rgb; exact decide_eq_true ⟨by decide, by decide, by omega, by omega⟩)
  have kl : kList (.sh (.l col)) = .ok (.fr (.l col)) := rfl
  unfold F_after runF b_after
  simp -implicitDefEqProofs [col_law (m := col.length) (by omega) (by omega) hp, rounds_law hr, kl, hitr, e]
end C
end

section
set_option maxRecDepth 100000
set_option maxHeartbeats 1000000
namespace C
open PySem PySem.Spec L2 Ly
open PyProof.Rows hiding St
theorem ten_law {n : Nat} (hn : n ≤ 60) : ∃ v : Int, 0 ≤ v ∧ F__law_ten [.i n] = .ok (.sh (.i v)) := by
  obtain ⟨Γ', e, v, o2, rfl, hv⟩ := forL_num (t := .one 2) (u := L1__law_ten) (ds := rgD 0 n) (I := fun k Γ => ∃ (v : Int) (o2 : Option Rv), Γ = [some (.sh (.i n)), some (.sh (.i v)), o2] ∧ 0 ≤ v) (Γ := [some (.sh (.i n)), some (.sh (.i 1)), none]) ⟨1, none, rfl, by decide⟩ (fun i d hd Γ hΓ => by
    obtain ⟨rfl, hi⟩ := rgD_get hd
    obtain ⟨v, o2, rfl, hv⟩ := hΓ
    refine ⟨_, rfl, ?_⟩
    refine ⟨_, .inl (by unfold L1__law_ten; simp -implicitDefEqProofs [kMul_r]; rfl), v * 10, _, rfl, by omega⟩)
  have hitr : itR 0 (n : Int) = .ok (rgD 0 n) := itR_ok (by unfold rgb; exact decide_eq_true ⟨by decide, by decide, by omega, by omega⟩)
  refine ⟨v, hv, ?_⟩
  rw [F__law_ten, runF, b__law_ten]
  simp -implicitDefEqProofs [hitr, e]

def fm (m p a b : Int) : Int := (0 - 1 - (rp m p a + rp m p b) / 2) % m
def mt (m p a b r : Int) : Int := if r ≤ fm m p a b then 0 else 1 + (r - 1 - fm m p a b) / m
theorem fm_law {m p a b : Int} (h1 : m ≤ 60) (hp : p = 0 ∨ p = 1) (ha0 : 0 ≤ a) (ha : a < m) (hb0 : 0 ≤ b) (hb : b < m) (hn : a ≠ b) : F_first_meeting [.i m, .i p, .i a, .i b] = .ok (.sh (.i (fm m p a b))) := by
  rw [F_first_meeting, runF, b_first_meeting]
  simp -implicitDefEqProofs [ring_law h1 hp ha0 ha, ring_law h1 hp hb0 hb, hn, kDiv_i, kMod_i (by omega : (0 : Int) < m)]
  rfl
theorem met_law {m p a b r : Int} (h1 : m ≤ 60) (hp : p = 0 ∨ p = 1) (ha0 : 0 ≤ a) (ha : a < m) (hb0 : 0 ≤ b) (hb : b < m) (hn : a ≠ b) (hr : 0 ≤ r) : F_met [.i m, .i p, .i a, .i b, .i r] = .ok (.sh (.i (mt m p a b r))) := by
  rw [F_met, runF, b_met]
  have hd : 0 < m ∧ m < 1073741824 := by omega
  unfold mt
  by_cases h : r ≤ fm m p a b
  · simp -implicitDefEqProofs only [sSeq_at, sSet_at, eCall_at, aCons_at, aNil_at, eV_0, eV_s, share_sh, Re.bind_ok, List.length_cons, List.length_nil, Nat.reduceAdd, if_true, reduceIte, List.map_cons, List.map_nil, List.cons_append, List.nil_append, List.replicate, Nat.reduceSub, fm_law h1 hp ha0 ha hb0 hb hn, fl_ok, setR_sh, List.set_cons_succ, List.set_cons_zero, sEx_at, rounds_law hr, sIf_at, tV_at, e2_at, kLe_i, kB_b, h, decide_true, sRet_at, eC_at]
  · simp -implicitDefEqProofs only [sSeq_at, sSet_at, eCall_at, aCons_at, aNil_at, eV_0, eV_s, share_sh, Re.bind_ok, List.length_cons, List.length_nil, Nat.reduceAdd, if_true, reduceIte, List.map_cons, List.map_nil, List.cons_append, List.nil_append, List.replicate, Nat.reduceSub, fm_law h1 hp ha0 ha hb0 hb hn, fl_ok, setR_sh, List.set_cons_succ, List.set_cons_zero, sEx_at, rounds_law hr, sIf_at, tV_at, e2_at, kLe_i, kB_b, h, decide_false, sRet_at, eC_at, Bool.false_eq_true, sNil_at, kSub_i, kDiv_i hd, kAdd_i]
def cell (m p r : Int) (a b : Int) : Int := if a ≠ b then mt m p a b r else 0
def trow (m : Nat) (p r : Int) (a : Nat) : D := .l ((List.range m).map fun b => D.i (cell m p r a (b : Nat)))
def tab (m : Nat) (p r : Int) : List D := (List.range m).map (trow m p r)
theorem table_law {m : Nat} {p r : Int} (h1 : m ≤ 60) (hp : p = 0 ∨ p = 1) (hr : 0 ≤ r) : F_table [.i m, .i p, .i r] = .ok (.fr (.l (tab m p r))) := by
  have hitr : itR 0 (m : Int) = .ok (rgD 0 m) := itR_ok (by unfold rgb; exact decide_eq_true ⟨by decide, by decide, by omega, by omega⟩)
  obtain ⟨Γ', e, o4, o5, rfl⟩ := forL_num (t := .one 4) (u := L1_table) (ds := rgD 0 m) (I := fun k Γ => ∃ (o4 o5 : Option Rv), Γ = [some (.sh (.i m)), some (.sh (.i p)), some (.sh (.i r)), some (.fr (.l ((List.range k).map (trow m p r)))), o4, o5])
    (Γ := [some (.sh (.i m)), some (.sh (.i p)), some (.sh (.i r)), some (.fr (.l [])), none, none]) ⟨none, none, rfl⟩ (fun i d hd Γ hΓ => by
      obtain ⟨rfl, hi⟩ := rgD_get hd
      obtain ⟨o4, o5, rfl⟩ := hΓ
      refine ⟨_, rfl, ?_⟩
      have hlc := lcL_map (t := .one 5) (fe := eIf (tV (e2 kNe (eV 4) (eV 5))) (eCall 5 F_met (aCons (eV 0) (aCons (eV 1) (aCons (eV 4) (aCons (eV 5) (aCons (eV 2) aNil)))))) (eC (.i 0))) (Γ0 := [some (.sh (.i m)), some (.sh (.i p)), some (.sh (.i r)), some (.fr (.l ((List.range i).map (trow m p r)))), some (.sh (.i (0 + (i : Int)))), none]) (ds := rgD 0 m)
        (g := fun d => match d with | .i b => .i (cell m p r i b) | _ => .n) (fun d hd => by
          unfold rgD at hd
          obtain ⟨b, hb, rfl⟩ := List.mem_map.mp hd
          have hb' : b < m := by simpa using hb
          refine ⟨_, rfl, .sh (.i (cell m p r i (0 + (b : Nat)))), ?_, rfl⟩
          unfold cell
          by_cases hn : (i : Int) = (b : Int)
          · simp -implicitDefEqProofs [hn]
          · have := met_law (m := m) (p := p) (a := i) (b := b) (r := r) (by omega) hp (by omega) (by omega) (by omega) (by omega) hn hr
            simp -implicitDefEqProofs [hn, this])
      have hg : (rgD 0 (m : Int)).map (fun d => match d with | .i b => D.i (cell m p r i b) | _ => .n) = (List.range m).map fun b => D.i (cell m p r i (b : Nat)) := by
        rw [rgD_nat, List.map_map]
        rfl
      rw [hg] at hlc
      have hres : lcRes (.ok ((List.range m).map fun b => D.i (cell m p r i (b : Nat)))) = .ok (.fr (.l ((List.range m).map fun b => D.i (cell m p r i (b : Nat))))) := lcRes_ok (by simp; omega)
      have hlen : ((List.range i).map (trow m p r)).length < 16777216 := by simp; omega
      have hsucc : (List.range (i + 1)).map (trow m p r) = (List.range i).map (trow m p r) ++ [.l ((List.range m).map fun b => D.i (cell m p r i (b : Nat)))] := by rw [List.range_succ, List.map_append]; rfl
      rw [hsucc]
      generalize (List.range i).map (trow m p r) = T at *
      generalize (List.range m).map (fun b => D.i (cell m p r i (b : Nat))) = R at *
      refine ⟨_, .inl ?_, some (.sh (.i (0 + (i : Nat)))), o5, rfl⟩
      unfold L1_table
      simp -implicitDefEqProofs only [sApp_at, List.set_cons_succ, List.set_cons_zero, List.getElem?_cons_succ, List.getElem?_cons_zero, eLc_at, itR1_at, eV_0, eV_s, Re.bind_ok, hitr, wipeG_cons, wipeG_nil, hlc, hres, share_fr, fl_ok, hlen, if_true, reduceIte])
  have hk : (rgD 0 (m : Int)).length = m := by simp [rgD]
  rw [hk] at e
  unfold tab
  generalize (List.range m).map (trow m p r) = T at *
  rw [F_table, runF, b_table]
  simp -implicitDefEqProofs [col_law (m := (m : Int)) (by omega) (by omega) hp, rounds_law hr, hitr, e]
theorem mt_comm {m p a b r : Int} : mt m p a b r = mt m p b a r := by unfold mt fm; rw [Int.add_comm (rp m p a)]
theorem cell_comm {m p r a b : Int} : cell m p r a b = cell m p r b a := by
  unfold cell
  rw [mt_comm]
  by_cases h : a = b
  · subst h; rfl
  · rw [if_pos h, if_pos (Ne.symm h)]
theorem mt_bd {m p a b r : Int} (hm : m = 59 ∨ m = 60) (hr : 0 ≤ r) : r / m ≤ mt m p a b r ∧ mt m p a b r ≤ r / m + 1 := by
  have h0 := Int.emod_nonneg (0 - 1 - (rp m p a + rp m p b) / 2) (by omega : m ≠ 0)
  have h1 := Int.emod_lt_of_pos (0 - 1 - (rp m p a + rp m p b) / 2) (by omega : 0 < m)
  unfold mt
  have e : (0 - 1 - (rp m p a + rp m p b) / 2) % m = fm m p a b := rfl
  rw [e] at h0 h1
  generalize fm m p a b = f at *
  rcases hm with rfl | rfl <;> split <;> omega
end C
end

section
set_option maxRecDepth 100000
set_option maxHeartbeats 1000000
namespace C
open PySem PySem.Spec L2 Ly
open PyProof.Rows hiding St
theorem tab_ix {m : Nat} {p r : Int} {a : Nat} (ha : a < m) : ixR (tab m p r) (a : Int) = .ok (.sh (trow m p r a)) := ixR_is (n := a) rfl (by unfold tab; rw [List.getElem?_map, List.getElem?_range ha]; rfl)
theorem trow_ix {m : Nat} {p r : Int} {a b : Nat} (hb : b < m) : kIx (.sh (trow m p r a)) (.sh (.i (b : Int))) = .ok (.sh (.i (cell m p r a b))) := by
  unfold trow
  rw [kIx_l]
  exact ixR_is (n := b) rfl (by rw [List.getElem?_map, List.getElem?_range hb]; rfl)
theorem in1_law (a0 a1 a2 a3 a4 : Option Rv) (m : Nat) (hm : m = 59 ∨ m = 60) (p r : Int) (hr : 0 ≤ r) (a b : Nat) (ha : a < m) (hb : b < m) :
    L1_law [a0, a1, a2, a3, a4, some (.sh (.i m)), some (.fr (.l (tab m p r))), some (.sh (.i (r / m))), some (.sh (.i a)), some (.sh (.i b))] = .nx [a0, a1, a2, a3, a4, some (.sh (.i m)), some (.fr (.l (tab m p r))), some (.sh (.i (r / m))), some (.sh (.i a)), some (.sh (.i b))] := by
  have i1 := tab_ix (p := p) (r := r) ha
  have i2 := tab_ix (p := p) (r := r) hb
  have j1 := trow_ix (p := p) (r := r) (a := a) hb
  have j2 := trow_ix (p := p) (r := r) (a := b) ha
  have j3 := trow_ix (p := p) (r := r) (a := a) ha
  rw [cell_comm (m := m) (a := b)] at j2
  have hbd := mt_bd (m := m) (p := p) (a := a) (b := b) (r := r) (by omega) hr
  have hz : cell m p r a a = 0 := if_neg (by simp)
  rw [hz] at j3
  have hc : (a : Int) ≠ b → cell m p r a b = mt m p a b r := fun h => if_pos h
  generalize tab m p r = T at *
  generalize trow m p r a = Ra at *
  generalize trow m p r b = Rb at *
  generalize hq : r / (m : Int) = q at *
  by_cases h : (a : Int) = b
  · have h' : a = b := by omega
    subst h'
    generalize cell m p r a a = x at *
    unfold L1_law
    simp -implicitDefEqProofs [i1, i2, j1, j2, j3, hz]
  · have := hc h
    generalize cell m p r a b = x at *
    have b1 : q ≤ x := by omega
    have b2 : x ≤ q + 1 := by omega
    unfold L1_law
    simp -implicitDefEqProofs [i1, i2, j1, j2, j3, h, b1, b2]
theorem in2_law (a0 a1 a2 a3 a4 : Option Rv) (m : Nat) (hm : m = 59 ∨ m = 60) (p r : Int) (hr : 0 ≤ r) (a : Nat) (ha : a < m) (o9 : Option Rv) :
    ∃ y9, L2_law [a0, a1, a2, a3, a4, some (.sh (.i m)), some (.fr (.l (tab m p r))), some (.sh (.i (r / m))), some (.sh (.i a)), o9] = .nx [a0, a1, a2, a3, a4, some (.sh (.i m)), some (.fr (.l (tab m p r))), some (.sh (.i (r / m))), some (.sh (.i a)), y9] := by
  have hitr : itR 0 (m : Int) = .ok (rgD 0 m) := itR_ok (by unfold rgb; exact decide_eq_true ⟨by decide, by decide, by omega, by omega⟩)
  obtain ⟨Γ', e, y9, rfl⟩ := forL_num (t := .one 9) (u := L1_law) (ds := rgD 0 m) (I := fun k Γ => ∃ o9, Γ = [a0, a1, a2, a3, a4, some (.sh (.i m)), some (.fr (.l (tab m p r))), some (.sh (.i (r / m))), some (.sh (.i a)), o9])
    (Γ := [a0, a1, a2, a3, a4, some (.sh (.i m)), some (.fr (.l (tab m p r))), some (.sh (.i (r / m))), some (.sh (.i a)), o9]) ⟨o9, rfl⟩ (fun i d hd Γ hΓ => by
      obtain ⟨rfl, hi⟩ := rgD_get hd
      obtain ⟨o9, rfl⟩ := hΓ
      refine ⟨_, rfl, ?_⟩
      have := in1_law a0 a1 a2 a3 a4 m hm p r hr a i ha (by omega)
      exact ⟨_, .inl (by simpa using this), _, rfl⟩)
  refine ⟨y9, ?_⟩
  unfold L2_law
  simp -implicitDefEqProofs only [sFor_at, itR1_at, eV_0, eV_s, Re.bind_ok, hitr, fl_ok, e]
theorem loops_law (a0 a1 a2 a3 a4 : Option Rv) (m : Nat) (hm : m = 59 ∨ m = 60) (p r : Int) (hr : 0 ≤ r) (o8 o9 : Option Rv) :
    ∃ y8 y9, forL (.one 8) L2_law (rgD 0 m) [a0, a1, a2, a3, a4, some (.sh (.i m)), some (.fr (.l (tab m p r))), some (.sh (.i (r / m))), o8, o9] = .nx [a0, a1, a2, a3, a4, some (.sh (.i m)), some (.fr (.l (tab m p r))), some (.sh (.i (r / m))), y8, y9] := by
  obtain ⟨Γ', e, y8, y9, rfl⟩ := forL_num (t := .one 8) (u := L2_law) (ds := rgD 0 m) (I := fun k Γ => ∃ o8 o9, Γ = [a0, a1, a2, a3, a4, some (.sh (.i m)), some (.fr (.l (tab m p r))), some (.sh (.i (r / m))), o8, o9])
    (Γ := [a0, a1, a2, a3, a4, some (.sh (.i m)), some (.fr (.l (tab m p r))), some (.sh (.i (r / m))), o8, o9]) ⟨_, _, rfl⟩ (fun i d hd Γ hΓ => by
      obtain ⟨rfl, hi⟩ := rgD_get hd
      obtain ⟨o8, o9, rfl⟩ := hΓ
      refine ⟨_, rfl, ?_⟩
      obtain ⟨y9, this⟩ := in2_law a0 a1 a2 a3 a4 m hm p r hr i (by omega) o9
      exact ⟨_, .inl (by simpa using this), _, _, rfl⟩)
  exact ⟨y8, y9, e⟩
theorem aft_nil {p r : Int} {L : List D} (h : IsAft p r [] L) : L = [] := List.length_eq_zero_iff.mp h.1
theorem aft_single {p r : Int} {x : D} {L : List D} (h : IsAft p r [x] L) : L = [x] := by
  obtain ⟨h1, h2⟩ := h
  match L, h1 with
  | [y], _ =>
    have hb := pos_bd (m := 1) (p := p) (r := r) (s := 0) (by decide)
    have := h2 0 (by simp)
    have e : (pos (([x] : List D).length : Int) p r ((0 : Nat) : Int)).toNat = 0 := by
      have : pos 1 p r 0 = 0 := by omega
      show (pos 1 p r 0).toNat = 0
      rw [this]; rfl
    rw [e] at this
    simpa using this
theorem dance0 {p : Int} (hp : p = 0 ∨ p = 1) : F_dancing [.i 0, .i p] = .ok (.fr (.l [])) := by rcases hp with rfl | rfl <;> kernel_rfl
theorem out1 {p : Int} (hp : p = 0 ∨ p = 1) : F_standing_out [.i 1, .i p] = .ok (.fr (.l [.i 0])) := by rcases hp with rfl | rfl <;> kernel_rfl
theorem course1 {p r : Int} (hp : p = 0 ∨ p = 1) (hr : 0 ≤ r) : F_course [.i 1, .i p, .i 0, .i r] = .ok (.sh (.t [.i 0, .s (if (p + r) % 2 = 0 then "down" else "up")])) := by
  have hc := course_law (m := 1) (p := p) (s := 0) (r := r) (by decide) hp (by decide) (by decide) hr rfl
  rw [hc]
  have e1 : rp 1 p 0 = p := by unfold rp; rcases hp with rfl | rfl <;> rfl
  have e2 : hereOf 1 ((rp 1 p 0 + r) % (2 * 1)) = 0 := by unfold hereOf; split <;> omega
  rw [e2, e1]
  have : ((p + r) % (2 * 1) < 1) ↔ ((p + r) % 2 = 0) := by omega
  simp only [this]
theorem twice_law {p r : Int} (hp : p = 0 ∨ p = 1) (hr : 0 ≤ r) : tab 2 p r = [.l [.i 0, .i ((r + 1 - p) / 2)], .l [.i ((r + 1 - p) / 2), .i 0]] := by
  have e : mt 2 p 0 1 r = (r + 1 - p) / 2 := by
    have : fm 2 p 0 1 = p := by rcases hp with rfl | rfl <;> decide
    unfold mt
    rw [this]
    rcases hp with rfl | rfl <;> split <;> omega
  show [D.l [.i (cell 2 p r 0 0), .i (cell 2 p r 0 1)], .l [.i (cell 2 p r 1 0), .i (cell 2 p r 1 1)]] = _
  have c1 : cell 2 p r 0 1 = (r + 1 - p) / 2 := e
  rw [cell_comm (a := 1) (b := 0), c1]
  rfl
theorem law_true (ns : List Int) (hl : ns.length ≤ 63) : F_law [.z (ns.map .i)] = .ok (.sh (.b true)) := by
  obtain ⟨row, e, h20, hs⟩ := numbers_law ns hl 20 (by decide)
  have e' : F__law_numbers [.z (ns.map .i), .i 20] = .ok (.fr (.l (row.map .i))) := e
  clear e
  match row, h20 with
  | d0 :: d1 :: d2 :: d3 :: d4 :: rest, h20 =>
  have s0 := hs d0 (by simp)
  have s1 := hs d1 (by simp)
  have s2 := hs d2 (by simp)
  have s3 := hs d3 (by simp)
  have s4 := hs d4 (by simp)
  simp only [List.map_cons] at e'
  generalize rest.map D.i = rs at e'
  obtain ⟨n1, hn1⟩ := Int.eq_ofNat_of_zero_le (by omega : 0 ≤ d2 % 56)
  obtain ⟨v1, hv1, t1⟩ := ten_law (n := n1) (by omega)
  obtain ⟨v3, hv3, t3⟩ := ten_law (n := 59) (by omega)
  have t3' : F__law_ten [.i 59] = .ok (.sh (.i v3)) := t3
  have p1 := Int.mul_nonneg s1.1 hv1
  have p3 := Int.mul_nonneg (by omega : 0 ≤ d2 / 56 % 2) hv3
  have l1 : -(2 ^ 64) < d1 ∧ d1 < 2 ^ 64 := by omega
  have l3 : -(2 ^ 64) < d2 / 56 % 2 ∧ d2 / 56 % 2 < 2 ^ 64 := by omega
  have ix4 : ixR (.i d0 :: .i d1 :: .i d2 :: .i d3 :: .i d4 :: rs) 4 = .ok (.sh (.i d4)) := ixR_is (n := 4) rfl rfl
  have hp : d0 % 2 = 0 ∨ d0 % 2 = 1 := by omega
  have hr : 0 ≤ d1 * v1 + d3 % 200 + d2 / 56 % 2 * v3 := by omega
  have hm : (59 + d4 % 2).toNat = 59 ∨ (59 + d4 % 2).toNat = 60 := by omega
  have hmc : ((59 + d4 % 2).toNat : Int) = 59 + d4 % 2 := by omega
  generalize hpp : d0 % 2 = p at hp
  generalize hrr : d1 * v1 + d3 % 200 + d2 / 56 % 2 * v3 = r at hr
  obtain ⟨L0, a0, q0⟩ := after_law (p := p) (r := r) (col := []) (by decide) hp hr
  have := aft_nil q0; subst this
  obtain ⟨L1, a1, q1⟩ := after_law (p := p) (r := r) (col := [.i 7]) (by decide) hp hr
  have := aft_single q1; subst this
  have T0 : F_table [.i 0, .i p, .i r] = .ok (.fr (.l [])) := table_law (m := 0) (by decide) hp hr
  have T1 : F_table [.i 1, .i p, .i r] = .ok (.fr (.l [.l [.i 0]])) := table_law (m := 1) (by decide) hp hr
  have T2 : F_table [.i 2, .i p, .i r] = .ok (.fr (.l (tab 2 p r))) := table_law (m := 2) (by decide) hp hr
  rw [twice_law hp hr] at T2
  have TM := table_law (m := (59 + d4 % 2).toNat) (p := p) (r := r) (by omega) hp hr
  rw [hmc] at TM
  have D0 := dance0 hp
  have S1 := out1 hp
  have C1 := course1 hp hr
  have z0 : F__law_same [.l [.l [], .l [], .l []], .l [.l [], .l [], .l []]] = .ok (.sh (.b true)) := same_law rfl
  have z1 : F__law_same [.l [.l [.i 7], .l [.l [.i 0]], .l [.i 0]], .l [.l [.i 7], .l [.l [.i 0]], .l [.i 0]]] = .ok (.sh (.b true)) := same_law rfl
  have z2 : ∀ w : Str, PyData.strOk w = true → F__law_same [.t [.i 0, .s w], .t [.i 0, .s w]] = .ok (.sh (.b true)) := fun w hw => same_law (by simp [dsame, hw])
  have z3 : ∀ x : Int, F__law_same [.l [.l [.i 0, .i x], .l [.i x, .i 0]], .l [.l [.i 0, .i x], .l [.i x, .i 0]]] = .ok (.sh (.b true)) := fun x => same_law (by simp [dsame])
  have hw : PyData.strOk (if (p + r) % 2 = 0 then "down" else "up" : Str) = true := by split <;> decide +kernel
  have ixw : ixR [.s "down", .s "up"] ((p + r) % 2) = .ok (.sh (.s (if (p + r) % 2 = 0 then "down" else "up"))) := by
    have : (p + r) % 2 = 0 ∨ (p + r) % 2 = 1 := by omega
    rcases this with h | h <;> rw [h] <;> simp
  have hz2 := z2 _ hw
  generalize (if (p + r) % 2 = 0 then "down" else "up" : Str) = w at *
  have hitr : itR 0 (59 + d4 % 2) = .ok (rgD 0 (59 + d4 % 2)) := itR_ok (by unfold rgb; exact decide_eq_true ⟨by decide, by decide, by omega, by omega⟩)
  have hd59 : 0 < 59 + d4 % 2 ∧ 59 + d4 % 2 < 1073741824 := by omega
  obtain ⟨y8, y9, eL⟩ := loops_law (some (.sh (.z (ns.map .i)))) (some (.fr (.l (.i d0 :: .i d1 :: .i d2 :: .i d3 :: .i d4 :: rs)))) (some (.sh (.i p))) (some (.sh (.i r))) (some (.sh (.i ((r + 1 - p) / 2)))) (59 + d4 % 2).toNat hm p r hr none none
  rw [hmc] at eL
  generalize tab (59 + d4 % 2).toNat p r = T at *
  rw [F_law, runF, b_law]
  simp -implicitDefEqProofs [e', kMod_i, kDiv_i, kMul_l l1, kMul_l l3, hn1, t1, t3', hpp, hrr, a0, T0, D0, z0, a1, T1, S1, z1, C1, ixw, hz2, T2, z3, ix4, TM, kDiv_i hd59, hitr, eL]
end C
end

namespace C
set_option maxRecDepth 100000
set_option maxHeartbeats 4000000
open PySem PySem.Spec L2 Ly
open PyProof.Rows hiding St
theorem all_mk {P : Program} {w : World} {K : PySem.W.Frag} {h : Heap} {mg : Str → Option Value} {fa : Addr} (X : K.In h) (G : h.Ns mainGlobals mg) (hfa : mg "law" = some (.ref fa))
    (zb_all : PySem.W.nsIn K mainGlobals "all" = some none)
    (zb_bool : PySem.W.nsIn K mainGlobals "bool" = some none)
    (zb_int : PySem.W.nsIn K mainGlobals "int" = some none)
    (zb_isinstance : PySem.W.nsIn K mainGlobals "isinstance" = some none)
    (zb_len : PySem.W.nsIn K mainGlobals "len" = some none)
    (zb_list : PySem.W.nsIn K mainGlobals "list" = some none)
    (zb_min : PySem.W.nsIn K mainGlobals "min" = some none)
    (zb_range : PySem.W.nsIn K mainGlobals "range" = some none)
    (zb_str : PySem.W.nsIn K mainGlobals "str" = some none)
    (zb_tuple : PySem.W.nsIn K mainGlobals "tuple" = some none)
    {t_MOST_COUPLES : Tok}
    (zc_MOST_COUPLES : PySem.W.nsIn K mainGlobals "MOST_COUPLES" = some (some (.int 60 t_MOST_COUPLES)))
    {C_BadNumber : Addr}
    (zx1_BadNumber : PySem.W.nsIn K mainGlobals "BadNumber" = some (some (.ref C_BadNumber)))
    (zx2_BadNumber : PySem.W.excIn K C_BadNumber [.type "ValueError", .type "Exception", .type "BaseException", .type "object"] "ValueError.__new__" = true)
    (zx3_BadNumber : PySem.W.keepIn K (.ref C_BadNumber) = true)
    (zx4_BadNumber : PySem.W.subIn K (.ref C_BadNumber) (.type "BaseException") = some true)
    (zx5_BadNumber : PySem.W.typeIn K (.ref C_BadNumber) = some (.type "type"))
    {C_Same : Addr}
    (zx1_Same : PySem.W.nsIn K mainGlobals "Same" = some (some (.ref C_Same)))
    (zx2_Same : PySem.W.excIn K C_Same [.type "ValueError", .type "Exception", .type "BaseException", .type "object"] "ValueError.__new__" = true)
    (zx3_Same : PySem.W.keepIn K (.ref C_Same) = true)
    (zx4_Same : PySem.W.subIn K (.ref C_Same) (.type "BaseException") = some true)
    (zx5_Same : PySem.W.typeIn K (.ref C_Same) = some (.type "type"))
    {C_TooMany : Addr}
    (zx1_TooMany : PySem.W.nsIn K mainGlobals "TooMany" = some (some (.ref C_TooMany)))
    (zx2_TooMany : PySem.W.excIn K C_TooMany [.type "ValueError", .type "Exception", .type "BaseException", .type "object"] "ValueError.__new__" = true)
    (zx3_TooMany : PySem.W.keepIn K (.ref C_TooMany) = true)
    (zx4_TooMany : PySem.W.subIn K (.ref C_TooMany) (.type "BaseException") = some true)
    (zx5_TooMany : PySem.W.typeIn K (.ref C_TooMany) = some (.type "type"))
    {A_look_column : Addr} {oc_look_column kV_look_column dc_look_column pm_look_column cd_look_column ct_look_column : Value} {od_look_column an_look_column : Option Addr} {sl_look_column : Array (Option Value)}
    (z1_look_column : PySem.W.nsIn K mainGlobals "look_column" = some (some (.ref A_look_column)))
    (z2_look_column : K.lookup A_look_column = some ⟨oc_look_column, od_look_column, .func (PySem.W.fnOf "look_column" "look_column" (defArgs (top 7)) (defBody (top 7)) (defScope (top 7)) .none kV_look_column dc_look_column pm_look_column an_look_column cd_look_column ct_look_column), sl_look_column⟩)
    (z3_look_column : PySem.W.codeIn K cd_look_column "look_column" = true)
    (z4_look_column : PySem.W.keepIn K (.ref A_look_column) = true)
    {A_look_spot : Addr} {oc_look_spot kV_look_spot dc_look_spot pm_look_spot cd_look_spot ct_look_spot : Value} {od_look_spot an_look_spot : Option Addr} {sl_look_spot : Array (Option Value)}
    (z1_look_spot : PySem.W.nsIn K mainGlobals "look_spot" = some (some (.ref A_look_spot)))
    (z2_look_spot : K.lookup A_look_spot = some ⟨oc_look_spot, od_look_spot, .func (PySem.W.fnOf "look_spot" "look_spot" (defArgs (top 8)) (defBody (top 8)) (defScope (top 8)) .none kV_look_spot dc_look_spot pm_look_spot an_look_spot cd_look_spot ct_look_spot), sl_look_spot⟩)
    (z3_look_spot : PySem.W.codeIn K cd_look_spot "look_spot" = true)
    (z4_look_spot : PySem.W.keepIn K (.ref A_look_spot) = true)
    {A_look_rounds : Addr} {oc_look_rounds kV_look_rounds dc_look_rounds pm_look_rounds cd_look_rounds ct_look_rounds : Value} {od_look_rounds an_look_rounds : Option Addr} {sl_look_rounds : Array (Option Value)}
    (z1_look_rounds : PySem.W.nsIn K mainGlobals "look_rounds" = some (some (.ref A_look_rounds)))
    (z2_look_rounds : K.lookup A_look_rounds = some ⟨oc_look_rounds, od_look_rounds, .func (PySem.W.fnOf "look_rounds" "look_rounds" (defArgs (top 9)) (defBody (top 9)) (defScope (top 9)) .none kV_look_rounds dc_look_rounds pm_look_rounds an_look_rounds cd_look_rounds ct_look_rounds), sl_look_rounds⟩)
    (z3_look_rounds : PySem.W.codeIn K cd_look_rounds "look_rounds" = true)
    (z4_look_rounds : PySem.W.keepIn K (.ref A_look_rounds) = true)
    {A_dancing : Addr} {oc_dancing kV_dancing dc_dancing pm_dancing cd_dancing ct_dancing : Value} {od_dancing an_dancing : Option Addr} {sl_dancing : Array (Option Value)}
    (z1_dancing : PySem.W.nsIn K mainGlobals "dancing" = some (some (.ref A_dancing)))
    (z2_dancing : K.lookup A_dancing = some ⟨oc_dancing, od_dancing, .func (PySem.W.fnOf "dancing" "dancing" (defArgs (top 10)) (defBody (top 10)) (defScope (top 10)) .none kV_dancing dc_dancing pm_dancing an_dancing cd_dancing ct_dancing), sl_dancing⟩)
    (z3_dancing : PySem.W.codeIn K cd_dancing "dancing" = true)
    (z4_dancing : PySem.W.keepIn K (.ref A_dancing) = true)
    {A_standing_out : Addr} {oc_standing_out kV_standing_out dc_standing_out pm_standing_out cd_standing_out ct_standing_out : Value} {od_standing_out an_standing_out : Option Addr} {sl_standing_out : Array (Option Value)}
    (z1_standing_out : PySem.W.nsIn K mainGlobals "standing_out" = some (some (.ref A_standing_out)))
    (z2_standing_out : K.lookup A_standing_out = some ⟨oc_standing_out, od_standing_out, .func (PySem.W.fnOf "standing_out" "standing_out" (defArgs (top 11)) (defBody (top 11)) (defScope (top 11)) .none kV_standing_out dc_standing_out pm_standing_out an_standing_out cd_standing_out ct_standing_out), sl_standing_out⟩)
    (z3_standing_out : PySem.W.codeIn K cd_standing_out "standing_out" = true)
    (z4_standing_out : PySem.W.keepIn K (.ref A_standing_out) = true)
    {A_ring_place : Addr} {oc_ring_place kV_ring_place dc_ring_place pm_ring_place cd_ring_place ct_ring_place : Value} {od_ring_place an_ring_place : Option Addr} {sl_ring_place : Array (Option Value)}
    (z1_ring_place : PySem.W.nsIn K mainGlobals "ring_place" = some (some (.ref A_ring_place)))
    (z2_ring_place : K.lookup A_ring_place = some ⟨oc_ring_place, od_ring_place, .func (PySem.W.fnOf "ring_place" "ring_place" (defArgs (top 12)) (defBody (top 12)) (defScope (top 12)) .none kV_ring_place dc_ring_place pm_ring_place an_ring_place cd_ring_place ct_ring_place), sl_ring_place⟩)
    (z3_ring_place : PySem.W.codeIn K cd_ring_place "ring_place" = true)
    (z4_ring_place : PySem.W.keepIn K (.ref A_ring_place) = true)
    {A_spot_of : Addr} {oc_spot_of kV_spot_of dc_spot_of pm_spot_of cd_spot_of ct_spot_of : Value} {od_spot_of an_spot_of : Option Addr} {sl_spot_of : Array (Option Value)}
    (z1_spot_of : PySem.W.nsIn K mainGlobals "spot_of" = some (some (.ref A_spot_of)))
    (z2_spot_of : K.lookup A_spot_of = some ⟨oc_spot_of, od_spot_of, .func (PySem.W.fnOf "spot_of" "spot_of" (defArgs (top 13)) (defBody (top 13)) (defScope (top 13)) .none kV_spot_of dc_spot_of pm_spot_of an_spot_of cd_spot_of ct_spot_of), sl_spot_of⟩)
    (z3_spot_of : PySem.W.codeIn K cd_spot_of "spot_of" = true)
    (z4_spot_of : PySem.W.keepIn K (.ref A_spot_of) = true)
    {T_course : Addr} {ob_course : Value} {oe_course : Option Addr} {sm_course : Array (Option Value)} {nn_course : Nat} {tk0_course : Tok}
    {A_course : Addr} {oc_course kV_course dc_course pm_course cd_course ct_course : Value} {od_course an_course : Option Addr} {sl_course : Array (Option Value)}
    (z1_course : PySem.W.nsIn K mainGlobals "course" = some (some (.ref A_course)))
    (z2_course : K.lookup A_course = some ⟨oc_course, od_course, .func (PySem.W.fnOf "course" "course" (defArgs (top 14)) (defBody (top 14)) (defScope (top 14)) (.ref T_course) kV_course dc_course pm_course an_course cd_course ct_course), sl_course⟩)
    (z5_course : K.lookup T_course = some ⟨ob_course, oe_course, .seq (List.toArray [.int 1 tk0_course]) nn_course, sm_course⟩)
    (z3_course : PySem.W.codeIn K cd_course "course" = true)
    (z4_course : PySem.W.keepIn K (.ref A_course) = true)
    {T_after : Addr} {ob_after : Value} {oe_after : Option Addr} {sm_after : Array (Option Value)} {nn_after : Nat} {tk0_after tk1_after : Tok}
    {A_after : Addr} {oc_after kV_after dc_after pm_after cd_after ct_after : Value} {od_after an_after : Option Addr} {sl_after : Array (Option Value)}
    (z1_after : PySem.W.nsIn K mainGlobals "after" = some (some (.ref A_after)))
    (z2_after : K.lookup A_after = some ⟨oc_after, od_after, .func (PySem.W.fnOf "after" "after" (defArgs (top 15)) (defBody (top 15)) (defScope (top 15)) (.ref T_after) kV_after dc_after pm_after an_after cd_after ct_after), sl_after⟩)
    (z5_after : K.lookup T_after = some ⟨ob_after, oe_after, .seq (List.toArray [.int 0 tk0_after, .int 1 tk1_after]) nn_after, sm_after⟩)
    (z3_after : PySem.W.codeIn K cd_after "after" = true)
    (z4_after : PySem.W.keepIn K (.ref A_after) = true)
    {A_first_meeting : Addr} {oc_first_meeting kV_first_meeting dc_first_meeting pm_first_meeting cd_first_meeting ct_first_meeting : Value} {od_first_meeting an_first_meeting : Option Addr} {sl_first_meeting : Array (Option Value)}
    (z1_first_meeting : PySem.W.nsIn K mainGlobals "first_meeting" = some (some (.ref A_first_meeting)))
    (z2_first_meeting : K.lookup A_first_meeting = some ⟨oc_first_meeting, od_first_meeting, .func (PySem.W.fnOf "first_meeting" "first_meeting" (defArgs (top 16)) (defBody (top 16)) (defScope (top 16)) .none kV_first_meeting dc_first_meeting pm_first_meeting an_first_meeting cd_first_meeting ct_first_meeting), sl_first_meeting⟩)
    (z3_first_meeting : PySem.W.codeIn K cd_first_meeting "first_meeting" = true)
    (z4_first_meeting : PySem.W.keepIn K (.ref A_first_meeting) = true)
    {A_met : Addr} {oc_met kV_met dc_met pm_met cd_met ct_met : Value} {od_met an_met : Option Addr} {sl_met : Array (Option Value)}
    (z1_met : PySem.W.nsIn K mainGlobals "met" = some (some (.ref A_met)))
    (z2_met : K.lookup A_met = some ⟨oc_met, od_met, .func (PySem.W.fnOf "met" "met" (defArgs (top 17)) (defBody (top 17)) (defScope (top 17)) .none kV_met dc_met pm_met an_met cd_met ct_met), sl_met⟩)
    (z3_met : PySem.W.codeIn K cd_met "met" = true)
    (z4_met : PySem.W.keepIn K (.ref A_met) = true)
    {A_table : Addr} {oc_table kV_table dc_table pm_table cd_table ct_table : Value} {od_table an_table : Option Addr} {sl_table : Array (Option Value)}
    (z1_table : PySem.W.nsIn K mainGlobals "table" = some (some (.ref A_table)))
    (z2_table : K.lookup A_table = some ⟨oc_table, od_table, .func (PySem.W.fnOf "table" "table" (defArgs (top 18)) (defBody (top 18)) (defScope (top 18)) .none kV_table dc_table pm_table an_table cd_table ct_table), sl_table⟩)
    (z3_table : PySem.W.codeIn K cd_table "table" = true)
    (z4_table : PySem.W.keepIn K (.ref A_table) = true)
    {A__law_numbers : Addr} {oc__law_numbers kV__law_numbers dc__law_numbers pm__law_numbers cd__law_numbers ct__law_numbers : Value} {od__law_numbers an__law_numbers : Option Addr} {sl__law_numbers : Array (Option Value)}
    (z1__law_numbers : PySem.W.nsIn K mainGlobals "_law_numbers" = some (some (.ref A__law_numbers)))
    (z2__law_numbers : K.lookup A__law_numbers = some ⟨oc__law_numbers, od__law_numbers, .func (PySem.W.fnOf "_law_numbers" "_law_numbers" (defArgs (top 20)) (defBody (top 20)) (defScope (top 20)) .none kV__law_numbers dc__law_numbers pm__law_numbers an__law_numbers cd__law_numbers ct__law_numbers), sl__law_numbers⟩)
    (z3__law_numbers : PySem.W.codeIn K cd__law_numbers "_law_numbers" = true)
    (z4__law_numbers : PySem.W.keepIn K (.ref A__law_numbers) = true)
    {A__law_same : Addr} {oc__law_same kV__law_same dc__law_same pm__law_same cd__law_same ct__law_same : Value} {od__law_same an__law_same : Option Addr} {sl__law_same : Array (Option Value)}
    (z1__law_same : PySem.W.nsIn K mainGlobals "_law_same" = some (some (.ref A__law_same)))
    (z2__law_same : K.lookup A__law_same = some ⟨oc__law_same, od__law_same, .func (PySem.W.fnOf "_law_same" "_law_same" (defArgs (top 21)) (defBody (top 21)) (defScope (top 21)) .none kV__law_same dc__law_same pm__law_same an__law_same cd__law_same ct__law_same), sl__law_same⟩)
    (z3__law_same : PySem.W.codeIn K cd__law_same "_law_same" = true)
    (z4__law_same : PySem.W.keepIn K (.ref A__law_same) = true)
    {A__law_ten : Addr} {oc__law_ten kV__law_ten dc__law_ten pm__law_ten cd__law_ten ct__law_ten : Value} {od__law_ten an__law_ten : Option Addr} {sl__law_ten : Array (Option Value)}
    (z1__law_ten : PySem.W.nsIn K mainGlobals "_law_ten" = some (some (.ref A__law_ten)))
    (z2__law_ten : K.lookup A__law_ten = some ⟨oc__law_ten, od__law_ten, .func (PySem.W.fnOf "_law_ten" "_law_ten" (defArgs (top 22)) (defBody (top 22)) (defScope (top 22)) .none kV__law_ten dc__law_ten pm__law_ten an__law_ten cd__law_ten ct__law_ten), sl__law_ten⟩)
    (z3__law_ten : PySem.W.codeIn K cd__law_ten "_law_ten" = true)
    (z4__law_ten : PySem.W.keepIn K (.ref A__law_ten) = true)
    {A_law : Addr} {oc_law kV_law dc_law pm_law cd_law ct_law : Value} {od_law an_law : Option Addr} {sl_law : Array (Option Value)}
    (z1_law : PySem.W.nsIn K mainGlobals "law" = some (some (.ref A_law)))
    (z2_law : K.lookup A_law = some ⟨oc_law, od_law, .func (PySem.W.fnOf "law" "law" (defArgs (top 23)) (defBody (top 23)) (defScope (top 23)) .none kV_law dc_law pm_law an_law cd_law ct_law), sl_law⟩)
    (z3_law : PySem.W.codeIn K cd_law "law" = true)
    (z4_law : PySem.W.keepIn K (.ref A_law) = true)
    : ∃ fd : FuncData, (∀ (s : Shared) (v : Value), BindsTo s fd ⟨[v], []⟩ [("_law_script", v)]) ∧ ∀ base : Heap, K.In base → base.Ns mainGlobals mg → FnOk P w K mg base (L2.CX P w) 14 fa fd ["_law_script"] (spF K mg 1 F_law) := by
  have e := hfa.symm.trans (PySem.W.mg_of X G z1_law)
  cases e
  have F_look_column := fun_mk (st := top 7) z2_look_column z3_look_column z4_look_column
  have B_look_column := F_look_column.binds (ps := ["many", "phase"]) fun _ _ _ _ _ _ us hl => match us, hl with | [_, _], _ => rfl
  have F_look_spot := fun_mk (st := top 8) z2_look_spot z3_look_spot z4_look_spot
  have B_look_spot := F_look_spot.binds (ps := ["many", "spot"]) fun _ _ _ _ _ _ us hl => match us, hl with | [_, _], _ => rfl
  have F_look_rounds := fun_mk (st := top 9) z2_look_rounds z3_look_rounds z4_look_rounds
  have B_look_rounds := F_look_rounds.binds (ps := ["rounds"]) fun _ _ _ _ _ _ us hl => match us, hl with | [_], _ => rfl
  have F_dancing := fun_mk (st := top 10) z2_dancing z3_dancing z4_dancing
  have B_dancing := F_dancing.binds (ps := ["many", "phase"]) fun _ _ _ _ _ _ us hl => match us, hl with | [_, _], _ => rfl
  have F_standing_out := fun_mk (st := top 11) z2_standing_out z3_standing_out z4_standing_out
  have B_standing_out := F_standing_out.binds (ps := ["many", "phase"]) fun _ _ _ _ _ _ us hl => match us, hl with | [_, _], _ => rfl
  have F_ring_place := fun_mk (st := top 12) z2_ring_place z3_ring_place z4_ring_place
  have B_ring_place := F_ring_place.binds (ps := ["many", "phase", "spot"]) fun _ _ _ _ _ _ us hl => match us, hl with | [_, _, _], _ => rfl
  have F_spot_of := fun_mk (st := top 13) z2_spot_of z3_spot_of z4_spot_of
  have B_spot_of := F_spot_of.binds (ps := ["many", "place"]) fun _ _ _ _ _ _ us hl => match us, hl with | [_, _], _ => rfl
  have F_course := fnD_mk (st := top 14) (dvs := [.int 1]) z2_course z3_course z4_course z5_course (.cons ⟨_, rfl⟩ .nil) (List.cons_ne_nil _ _)
  have B_course := bindsD (ps := ["many", "phase", "spot", "rounds"]) F_course (List.cons_ne_nil _ _) fun _ _ _ _ _ _ _ us its e1 e2 => match us, its, e1, e2 with | [_, _, _, _], [_], _, _ => ⟨_, rfl, rfl⟩
  have F_after := fnD_mk (st := top 15) (dvs := [.int 0, .int 1]) z2_after z3_after z4_after z5_after (.cons ⟨_, rfl⟩ (.cons ⟨_, rfl⟩ .nil)) (List.cons_ne_nil _ _)
  have B_after := bindsD (ps := ["column", "phase", "rounds"]) F_after (List.cons_ne_nil _ _) fun _ _ _ _ _ _ _ us its e1 e2 => match us, its, e1, e2 with | [_, _, _], [_, _], _, _ => ⟨_, rfl, rfl⟩
  have F_first_meeting := fun_mk (st := top 16) z2_first_meeting z3_first_meeting z4_first_meeting
  have B_first_meeting := F_first_meeting.binds (ps := ["many", "phase", "one", "other"]) fun _ _ _ _ _ _ us hl => match us, hl with | [_, _, _, _], _ => rfl
  have F_met := fun_mk (st := top 17) z2_met z3_met z4_met
  have B_met := F_met.binds (ps := ["many", "phase", "one", "other", "rounds"]) fun _ _ _ _ _ _ us hl => match us, hl with | [_, _, _, _, _], _ => rfl
  have F_table := fun_mk (st := top 18) z2_table z3_table z4_table
  have B_table := F_table.binds (ps := ["many", "phase", "rounds"]) fun _ _ _ _ _ _ us hl => match us, hl with | [_, _, _], _ => rfl
  have F__law_numbers := fun_mk (st := top 20) z2__law_numbers z3__law_numbers z4__law_numbers
  have B__law_numbers := F__law_numbers.binds (ps := ["_law_script", "_law_many"]) fun _ _ _ _ _ _ us hl => match us, hl with | [_, _], _ => rfl
  have F__law_same := fun_mk (st := top 21) z2__law_same z3__law_same z4__law_same
  have B__law_same := F__law_same.binds (ps := ["_law_found", "_law_due"]) fun _ _ _ _ _ _ us hl => match us, hl with | [_, _], _ => rfl
  have F__law_ten := fun_mk (st := top 22) z2__law_ten z3__law_ten z4__law_ten
  have B__law_ten := F__law_ten.binds (ps := ["_law_number"]) fun _ _ _ _ _ _ us hl => match us, hl with | [_], _ => rfl
  have F_law := fun_mk (st := top 23) z2_law z3_law z4_law
  have T : Tx K mg := {
    b_all := PySem.W.mg_none_of X G zb_all,
    b_bool := PySem.W.mg_none_of X G zb_bool,
    b_int := PySem.W.mg_none_of X G zb_int,
    b_isinstance := PySem.W.mg_none_of X G zb_isinstance,
    b_len := PySem.W.mg_none_of X G zb_len,
    b_list := PySem.W.mg_none_of X G zb_list,
    b_min := PySem.W.mg_none_of X G zb_min,
    b_range := PySem.W.mg_none_of X G zb_range,
    b_str := PySem.W.mg_none_of X G zb_str,
    b_tuple := PySem.W.mg_none_of X G zb_tuple,
    c_MOST_COUPLES := ⟨_, PySem.W.mg_of X G zc_MOST_COUPLES⟩,
    x_BadNumber := ⟨C_BadNumber, PySem.W.mg_of X G zx1_BadNumber, zx2_BadNumber, zx3_BadNumber, zx4_BadNumber, zx5_BadNumber⟩,
    x_Same := ⟨C_Same, PySem.W.mg_of X G zx1_Same, zx2_Same, zx3_Same, zx4_Same, zx5_Same⟩,
    x_TooMany := ⟨C_TooMany, PySem.W.mg_of X G zx1_TooMany, zx2_TooMany, zx3_TooMany, zx4_TooMany, zx5_TooMany⟩,
    f_look_column := ⟨A_look_column, _, PySem.W.mg_of X G z1_look_column, F_look_column, B_look_column⟩,
    f_look_spot := ⟨A_look_spot, _, PySem.W.mg_of X G z1_look_spot, F_look_spot, B_look_spot⟩,
    f_look_rounds := ⟨A_look_rounds, _, PySem.W.mg_of X G z1_look_rounds, F_look_rounds, B_look_rounds⟩,
    f_dancing := ⟨A_dancing, _, PySem.W.mg_of X G z1_dancing, F_dancing, B_dancing⟩,
    f_standing_out := ⟨A_standing_out, _, PySem.W.mg_of X G z1_standing_out, F_standing_out, B_standing_out⟩,
    f_ring_place := ⟨A_ring_place, _, PySem.W.mg_of X G z1_ring_place, F_ring_place, B_ring_place⟩,
    f_spot_of := ⟨A_spot_of, _, PySem.W.mg_of X G z1_spot_of, F_spot_of, B_spot_of⟩,
    f_course := ⟨A_course, _, PySem.W.mg_of X G z1_course, F_course, B_course⟩,
    f_after := ⟨A_after, _, PySem.W.mg_of X G z1_after, F_after, B_after⟩,
    f_first_meeting := ⟨A_first_meeting, _, PySem.W.mg_of X G z1_first_meeting, F_first_meeting, B_first_meeting⟩,
    f_met := ⟨A_met, _, PySem.W.mg_of X G z1_met, F_met, B_met⟩,
    f_table := ⟨A_table, _, PySem.W.mg_of X G z1_table, F_table, B_table⟩,
    f__law_numbers := ⟨A__law_numbers, _, PySem.W.mg_of X G z1__law_numbers, F__law_numbers, B__law_numbers⟩,
    f__law_same := ⟨A__law_same, _, PySem.W.mg_of X G z1__law_same, F__law_same, B__law_same⟩,
    f__law_ten := ⟨A__law_ten, _, PySem.W.mg_of X G z1__law_ten, F__law_ten, B__law_ten⟩ }
  exact ⟨_, fun s v => .of_eq rfl, fun base _ _ => fn_law T F_law⟩
theorem walk {l : PySem.W.OpenLaw} {q : Program} {loose : List Str} {XP : (Str → Option Value) → Heap → Prop} {YP : World → Heap → Prop} {d : DefRec} {K : Params → PySem.W.Frag} (hn : l.most = some 63) (hdf : d.params.defaults = [])
    (hY : ∀ (w : World) (h : Heap), YP w h → (K w.params).In h)
    (F : ∀ (w : World) (mg : Str → Option Value) (fa : Addr) (h : Heap), (K w.params).In h → h.Ns mainGlobals mg → mg d.name = some (.ref fa) →
      ∃ fd : FuncData, (∀ (s : Shared) (u : Value), BindsTo s fd ⟨[u], []⟩ [("_law_script", u)]) ∧ ∀ base : Heap, (K w.params).In base → base.Ns mainGlobals mg → FnOk l.prog w (K w.params) mg base (L2.CX l.prog w) 14 fa fd ["_law_script"] (spF (K w.params) mg 1 F_law)) :
    PySem.W.WalkO q loose XP YP l.row.toRowW d [] (fun f vs => PySem.call f vs) := Ly.walk_law hn hdf ⟨rfl, by decide, by decide⟩ hY F law_true

end C

open PySem PySem.W PyProof.Rows
set_option maxRecDepth 100000 in
set_option maxHeartbeats 0 in
theorem PySem.Challenge.cw_longways_k29_columns_of_any_size_holds : PySem.Challenge.rw_longways_k29_columns_of_any_size.Holds := by
  w_on; o_law; k_head; (case hw => w_witness2)
  k_fill
  refine C.walk (l := PySem.Challenge.rw_longways_k29_columns_of_any_size) rfl rfl (fun w h Y => PySem.W.kIn_of Y) ?F
  case F =>
    intro w mg fa h KX G hmg
    refine' C.all_mk KX G hmg ?zb_all ?zb_bool ?zb_int ?zb_isinstance ?zb_len ?zb_list ?zb_min ?zb_range ?zb_str ?zb_tuple ?zc_MOST_COUPLES ?zx1_BadNumber ?zx2_BadNumber ?zx3_BadNumber ?zx4_BadNumber ?zx5_BadNumber ?zx1_Same ?zx2_Same ?zx3_Same ?zx4_Same ?zx5_Same ?zx1_TooMany ?zx2_TooMany ?zx3_TooMany ?zx4_TooMany ?zx5_TooMany ?z1_look_column ?z2_look_column ?z3_look_column ?z4_look_column ?z1_look_spot ?z2_look_spot ?z3_look_spot ?z4_look_spot ?z1_look_rounds ?z2_look_rounds ?z3_look_rounds ?z4_look_rounds ?z1_dancing ?z2_dancing ?z3_dancing ?z4_dancing ?z1_standing_out ?z2_standing_out ?z3_standing_out ?z4_standing_out ?z1_ring_place ?z2_ring_place ?z3_ring_place ?z4_ring_place ?z1_spot_of ?z2_spot_of ?z3_spot_of ?z4_spot_of ?z1_course ?z2_course ?z5_course ?z3_course ?z4_course ?z1_after ?z2_after ?z5_after ?z3_after ?z4_after ?z1_first_meeting ?z2_first_meeting ?z3_first_meeting ?z4_first_meeting ?z1_met ?z2_met ?z3_met ?z4_met ?z1_table ?z2_table ?z3_table ?z4_table ?z1__law_numbers ?z2__law_numbers ?z3__law_numbers ?z4__law_numbers ?z1__law_same ?z2__law_same ?z3__law_same ?z4__law_same ?z1__law_ten ?z2__law_ten ?z3__law_ten ?z4__law_ten ?z1_law ?z2_law ?z3_law ?z4_law
    (case zb_all => k_is)
    (case zb_bool => k_is)
    (case zb_int => k_is)
    (case zb_isinstance => k_is)
    (case zb_len => k_is)
    (case zb_list => k_is)
    (case zb_min => k_is)
    (case zb_range => k_is)
    (case zb_str => k_is)
    (case zb_tuple => k_is)
    (case zc_MOST_COUPLES => k_is)
    (case zx1_BadNumber => k_is)
    (case zx2_BadNumber => k_exc)
    (case zx3_BadNumber => k_is)
    (case zx4_BadNumber => k_is)
    (case zx5_BadNumber => k_is)
    (case zx1_Same => k_is)
    (case zx2_Same => k_exc)
    (case zx3_Same => k_is)
    (case zx4_Same => k_is)
    (case zx5_Same => k_is)
    (case zx1_TooMany => k_is)
    (case zx2_TooMany => k_exc)
    (case zx3_TooMany => k_is)
    (case zx4_TooMany => k_is)
    (case zx5_TooMany => k_is)
    (case z1_look_column => k_is)
    (case z2_look_column => k_is)
    (case z3_look_column => k_is)
    (case z4_look_column => k_is)
    (case z1_look_spot => k_is)
    (case z2_look_spot => k_is)
    (case z3_look_spot => k_is)
    (case z4_look_spot => k_is)
    (case z1_look_rounds => k_is)
    (case z2_look_rounds => k_is)
    (case z3_look_rounds => k_is)
    (case z4_look_rounds => k_is)
    (case z1_dancing => k_is)
    (case z2_dancing => k_is)
    (case z3_dancing => k_is)
    (case z4_dancing => k_is)
    (case z1_standing_out => k_is)
    (case z2_standing_out => k_is)
    (case z3_standing_out => k_is)
    (case z4_standing_out => k_is)
    (case z1_ring_place => k_is)
    (case z2_ring_place => k_is)
    (case z3_ring_place => k_is)
    (case z4_ring_place => k_is)
    (case z1_spot_of => k_is)
    (case z2_spot_of => k_is)
    (case z3_spot_of => k_is)
    (case z4_spot_of => k_is)
    (case z1_course => k_is)
    (case z2_course => k_is)
    (case z5_course => k_is)
    (case z3_course => k_is)
    (case z4_course => k_is)
    (case z1_after => k_is)
    (case z2_after => k_is)
    (case z5_after => k_is)
    (case z3_after => k_is)
    (case z4_after => k_is)
    (case z1_first_meeting => k_is)
    (case z2_first_meeting => k_is)
    (case z3_first_meeting => k_is)
    (case z4_first_meeting => k_is)
    (case z1_met => k_is)
    (case z2_met => k_is)
    (case z3_met => k_is)
    (case z4_met => k_is)
    (case z1_table => k_is)
    (case z2_table => k_is)
    (case z3_table => k_is)
    (case z4_table => k_is)
    (case z1__law_numbers => k_is)
    (case z2__law_numbers => k_is)
    (case z3__law_numbers => k_is)
    (case z4__law_numbers => k_is)
    (case z1__law_same => k_is)
    (case z2__law_same => k_is)
    (case z3__law_same => k_is)
    (case z4__law_same => k_is)
    (case z1__law_ten => k_is)
    (case z2__law_ten => k_is)
    (case z3__law_ten => k_is)
    (case z4__law_ten => k_is)
    (case z1_law => k_is)
    (case z2_law => k_is)
    (case z3_law => k_is)
    (case z4_law => k_is)
